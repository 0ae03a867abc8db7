-- Written by a program of this session's (a turned copy of the kit's print, with functions proved by hand).
import Derived.Test.YtdhmckgagffgkaaPPortMorex0
namespace Go.Proofs.Ytdhmckgagffgkaa.PPortMore
open Go.RowKit Go.Proofs.YtdhmckgagffgkaaW.PrintWords Go.Proofs.YtdhmckgagffgkaaW.PrintLast Go.Proofs.YtdhmckgagffgkaaW.PrintMore
attribute [local go_sem] max2_int min2_int max_two min_two max_three min_three max_four min_four Go.Proofs.YtdhmckgagffgkaaHand.run_leq_str Go.Proofs.YtdhmckgagffgkaaHand.run_gtr_str Go.Proofs.YtdhmckgagffgkaaHand.run_geq_str   -- for this text's walks alone
set_option linter.unusedVariables false
set_option linter.unusedSimpArgs false

/-! ### contangolaw42_few: function 7 -/
def contangolaw42_few.f (l0 : List (S50)) (l1_0 : List (S55)) (a1_1 : ByteArray) (l2 : List (S52)) : Option (Bool) := if (l0.length : Int) ≤ 1100 then (if (l1_0.length : Int) ≤ 60 then (some (decide ((l2.length : Int) ≤ 1100))) else (some false)) else (some false)
set_option maxHeartbeats 8000000 in
set_option maxRecDepth 100000 in
theorem contangolaw42_few.calls (A0 : Option Addr) (c0 : Nat) (l0 : List (S50)) (A1_0 : Option Addr) (c1_0 : Nat) (l1_0 : List (S55)) (a1_1 : ByteArray) (A2 : Option Addr) (c2 : Nat) (l2 : List (S52)) (r : Bool) (w : World) (hr0 : Kd.C k50 w A0 l0.length l0) (hc0 : l0.length ≤ c0) (hr1_0 : Kd.C k55 w A1_0 l1_0.length l1_0) (hc1_0 : l1_0.length ≤ c1_0) (hr2 : Kd.C k52 w A2 l2.length l2) (hc2 : l2.length ≤ c2) (h : contangolaw42_few.f l0 l1_0 a1_1 l2 = some r) :
    Calls Try.prog 7 #[.slice A0 l0.length c0, .agg #[.slice A1_0 l1_0.length c1_0, .string a1_1], .slice A2 l2.length c2] w fun e w' => e = .returned (.bool r) ∧ Below w.heap.size w w' := by
  have hu25 := Try.underlying25
  have HR0 := Aside0.mk hr0
  have HC0 := Aside0.mk hc0
  clear hr0 hc0
  have HR1_0 := Aside0.mk hr1_0
  have HC1_0 := Aside0.mk hc1_0
  clear hr1_0 hc1_0
  have HR2 := Aside0.mk hr2
  have HC2 := Aside0.mk hc2
  clear hr2 hc2
  have HB := Aside0.mk (Below.refl w.heap.size w)
  have H : (if (l0.length : Int) ≤ 1100 then (if (l1_0.length : Int) ≤ 60 then (some (decide ((l2.length : Int) ≤ 1100))) else (some false)) else (some false)) = some r := h
  clear h
  by_cases c4 : (l0.length : Int) ≤ 1100
  · rw [if_pos c4] at H
    have c4b0 : decide ((l0.length : Int) ≤ 1100) = true := decide_eq_true c4
    have c4b1 : decide (l0.length ≤ 1100) = true := decide_eq_true (by omega)
    clear c4
    by_cases c5 : (l1_0.length : Int) ≤ 60
    · rw [if_pos c5] at H
      have c5b0 : decide ((l1_0.length : Int) ≤ 60) = true := decide_eq_true c5
      have c5b1 : decide (l1_0.length ≤ 60) = true := decide_eq_true (by omega)
      clear c5
      obtain rfl := Option.some.inj H
      go_enter Try.func7, Try.ntmps7
      go_wp2_with (first | ((with_reducible refine gate_dst (N := 4) rfl ?_); (try (refine gate_guard (by rfl) ?_; dsimp only)); refine box_event ?hg (N := 4) ?hd (cs := #[.slice A1_0 l1_0.length c1_0, .string a1_1]) (t := 25) ?hr ?_; (case hd => rfl); (case hg => rfl); (case hr => first | (go_simp; done) | (go_simp; rfl)); intro gb101 hg w6 hbox hb; have n0_ := Aside0.mk (below_step (by repeat (first | (with_reducible first | exact HB.out | apply below_alloc | apply pw_below_drewN | apply below_drew1) | exact HB.out)) hb); have n1_ := Aside0.mk (hbox); have n2_ := Aside0.mk ((by rw [hg]; exact (below_size (by repeat (first | (with_reducible first | exact HB.out | apply below_alloc | apply pw_below_drewN | apply below_drew1) | exact HB.out))) : w.heap.size ≤ gb101)); have n3_ := Aside0.mk ((by rw [hg]; exact (below_size (by repeat (first | (with_reducible first | exact HB.out | apply below_alloc | apply pw_below_drewN | apply below_drew1) | exact HB.out))) : w.heap.size ≤ gb101)); clear HB; have HB := n0_; have BK101 := n1_; have GW101 := n2_; have GE101 := n3_; clear n0_ n1_ n2_ n3_; clear hb hbox hg; have hcz7_0 : w6.cell? ⟨gb101, 0, none⟩ = some (.slice A1_0 l1_0.length c1_0) := (blk_cell BK101.out 0).trans rfl; have hcz7_1 : w6.cell? ⟨gb101, 1, none⟩ = some (.string a1_1) := (blk_cell BK101.out 1).trans rfl; have hfz7_0 := blk_frozen BK101.out 0; have hfz7_1 := blk_frozen BK101.out 1))
      go_ret
      exact ⟨by first | rfl | (simp [errW_none, errW_some] <;> rfl) | (simp [*, errW_none, errW_some] <;> rfl), by repeat (first | (with_reducible first | exact HB.out | apply below_alloc | apply pw_below_drewN | apply below_drew1 | refine below_set ?_ GE101.out) | exact HB.out)⟩
    · rw [if_neg c5] at H
      have c5b0 : decide ((l1_0.length : Int) ≤ 60) = false := decide_eq_false c5
      have c5b1 : decide (l1_0.length ≤ 60) = false := decide_eq_false (by omega)
      clear c5
      obtain rfl := Option.some.inj H
      go_enter Try.func7, Try.ntmps7
      go_wp2_with (first | ((with_reducible refine gate_dst (N := 4) rfl ?_); (try (refine gate_guard (by rfl) ?_; dsimp only)); refine box_event ?hg (N := 4) ?hd (cs := #[.slice A1_0 l1_0.length c1_0, .string a1_1]) (t := 25) ?hr ?_; (case hd => rfl); (case hg => rfl); (case hr => first | (go_simp; done) | (go_simp; rfl)); intro gb101 hg w8 hbox hb; have n0_ := Aside0.mk (below_step (by repeat (first | (with_reducible first | exact HB.out | apply below_alloc | apply pw_below_drewN | apply below_drew1) | exact HB.out)) hb); have n1_ := Aside0.mk (hbox); have n2_ := Aside0.mk ((by rw [hg]; exact (below_size (by repeat (first | (with_reducible first | exact HB.out | apply below_alloc | apply pw_below_drewN | apply below_drew1) | exact HB.out))) : w.heap.size ≤ gb101)); have n3_ := Aside0.mk ((by rw [hg]; exact (below_size (by repeat (first | (with_reducible first | exact HB.out | apply below_alloc | apply pw_below_drewN | apply below_drew1) | exact HB.out))) : w.heap.size ≤ gb101)); clear HB; have HB := n0_; have BK101 := n1_; have GW101 := n2_; have GE101 := n3_; clear n0_ n1_ n2_ n3_; clear hb hbox hg; have hcz9_0 : w8.cell? ⟨gb101, 0, none⟩ = some (.slice A1_0 l1_0.length c1_0) := (blk_cell BK101.out 0).trans rfl; have hcz9_1 : w8.cell? ⟨gb101, 1, none⟩ = some (.string a1_1) := (blk_cell BK101.out 1).trans rfl; have hfz9_0 := blk_frozen BK101.out 0; have hfz9_1 := blk_frozen BK101.out 1))
      go_ret
      exact ⟨by first | rfl | (simp [errW_none, errW_some] <;> rfl) | (simp [*, errW_none, errW_some] <;> rfl), by repeat (first | (with_reducible first | exact HB.out | apply below_alloc | apply pw_below_drewN | apply below_drew1 | refine below_set ?_ GE101.out) | exact HB.out)⟩
  · rw [if_neg c4] at H
    have c4b0 : decide ((l0.length : Int) ≤ 1100) = false := decide_eq_false c4
    have c4b1 : decide (l0.length ≤ 1100) = false := decide_eq_false (by omega)
    clear c4
    obtain rfl := Option.some.inj H
    go_enter Try.func7, Try.ntmps7
    go_wp2_with (first | ((with_reducible refine gate_dst (N := 4) rfl ?_); (try (refine gate_guard (by rfl) ?_; dsimp only)); refine box_event ?hg (N := 4) ?hd (cs := #[.slice A1_0 l1_0.length c1_0, .string a1_1]) (t := 25) ?hr ?_; (case hd => rfl); (case hg => rfl); (case hr => first | (go_simp; done) | (go_simp; rfl)); intro gb101 hg w10 hbox hb; have n0_ := Aside0.mk (below_step (by repeat (first | (with_reducible first | exact HB.out | apply below_alloc | apply pw_below_drewN | apply below_drew1) | exact HB.out)) hb); have n1_ := Aside0.mk (hbox); have n2_ := Aside0.mk ((by rw [hg]; exact (below_size (by repeat (first | (with_reducible first | exact HB.out | apply below_alloc | apply pw_below_drewN | apply below_drew1) | exact HB.out))) : w.heap.size ≤ gb101)); have n3_ := Aside0.mk ((by rw [hg]; exact (below_size (by repeat (first | (with_reducible first | exact HB.out | apply below_alloc | apply pw_below_drewN | apply below_drew1) | exact HB.out))) : w.heap.size ≤ gb101)); clear HB; have HB := n0_; have BK101 := n1_; have GW101 := n2_; have GE101 := n3_; clear n0_ n1_ n2_ n3_; clear hb hbox hg))
    go_ret
    exact ⟨by first | rfl | (simp [errW_none, errW_some] <;> rfl) | (simp [*, errW_none, errW_some] <;> rfl), by repeat (first | (with_reducible first | exact HB.out | apply below_alloc | apply pw_below_drewN | apply below_drew1 | refine below_set ?_ GE101.out) | exact HB.out)⟩

/-! ### member_kind: function 35 -/
def member_kind.f (a0 : Int) : Option (Bool) := if a0 ≥ 1 then (some (decide (a0 ≤ 3))) else (some false)
set_option maxHeartbeats 8000000 in
set_option maxRecDepth 100000 in
theorem member_kind.calls (a0 : Int) (r : Bool) (w : World) (h : member_kind.f a0 = some r) :
    Calls Try.prog 35 #[.int .i64 a0] w fun e w' => e = .returned (.bool r) ∧ Drawn0 w w' := by
  have H : (if a0 ≥ 1 then (some (decide (a0 ≤ 3))) else (some false)) = some r := h
  clear h
  by_cases c2 : a0 ≥ 1
  · rw [if_pos c2] at H
    have c2b0 : decide (1 ≤ a0) = true := decide_eq_true c2
    clear c2
    obtain rfl := Option.some.inj H
    go_enter Try.func35, Try.ntmps35
    go_wp2
    go_ret
    exact ⟨by first | rfl | (simp; done) | (simp [*]; done), by repeat (first | exact Drawn0.refl _ | apply Drawn0.step)⟩
  · rw [if_neg c2] at H
    have c2b0 : decide (1 ≤ a0) = false := decide_eq_false c2
    clear c2
    obtain rfl := Option.some.inj H
    go_enter Try.func35, Try.ntmps35
    go_wp2
    go_ret
    exact ⟨by first | rfl | (simp; done) | (simp [*]; done), by repeat (first | exact Drawn0.refl _ | apply Drawn0.step)⟩

/-! ### words_letter: function 46 -/
def words_letter.f (a0 : Int) : Option (Bool) := if 97 ≤ a0 then (some (decide (a0 ≤ 122))) else (some false)
set_option maxHeartbeats 8000000 in
set_option maxRecDepth 100000 in
theorem words_letter.calls (a0 : Int) (r : Bool) (w : World) (h : words_letter.f a0 = some r) :
    Calls Try.prog 46 #[.int .u8 a0] w fun e w' => e = .returned (.bool r) ∧ Drawn0 w w' := by
  have H : (if 97 ≤ a0 then (some (decide (a0 ≤ 122))) else (some false)) = some r := h
  clear h
  by_cases c2 : 97 ≤ a0
  · rw [if_pos c2] at H
    have c2b0 : decide (97 ≤ a0) = true := decide_eq_true c2
    clear c2
    obtain rfl := Option.some.inj H
    go_enter Try.func46, Try.ntmps46
    go_wp2
    go_ret
    exact ⟨by first | rfl | (simp; done) | (simp [*]; done), by repeat (first | exact Drawn0.refl _ | apply Drawn0.step)⟩
  · rw [if_neg c2] at H
    have c2b0 : decide (97 ≤ a0) = false := decide_eq_false c2
    clear c2
    obtain rfl := Option.some.inj H
    go_enter Try.func46, Try.ntmps46
    go_wp2
    go_ret
    exact ⟨by first | rfl | (simp; done) | (simp [*]; done), by repeat (first | exact Drawn0.refl _ | apply Drawn0.step)⟩

/-! ### words_digit: function 47 -/
def words_digit.f (a0 : Int) : Option (Bool) := if 48 ≤ a0 then (some (decide (a0 ≤ 57))) else (some false)
set_option maxHeartbeats 8000000 in
set_option maxRecDepth 100000 in
theorem words_digit.calls (a0 : Int) (r : Bool) (w : World) (h : words_digit.f a0 = some r) :
    Calls Try.prog 47 #[.int .u8 a0] w fun e w' => e = .returned (.bool r) ∧ Drawn0 w w' := by
  have H : (if 48 ≤ a0 then (some (decide (a0 ≤ 57))) else (some false)) = some r := h
  clear h
  by_cases c2 : 48 ≤ a0
  · rw [if_pos c2] at H
    have c2b0 : decide (48 ≤ a0) = true := decide_eq_true c2
    clear c2
    obtain rfl := Option.some.inj H
    go_enter Try.func47, Try.ntmps47
    go_wp2
    go_ret
    exact ⟨by first | rfl | (simp; done) | (simp [*]; done), by repeat (first | exact Drawn0.refl _ | apply Drawn0.step)⟩
  · rw [if_neg c2] at H
    have c2b0 : decide (48 ≤ a0) = false := decide_eq_false c2
    clear c2
    obtain rfl := Option.some.inj H
    go_enter Try.func47, Try.ntmps47
    go_wp2
    go_ret
    exact ⟨by first | rfl | (simp; done) | (simp [*]; done), by repeat (first | exact Drawn0.refl _ | apply Drawn0.step)⟩

/-! ### words_Name: function 42 -/
mutual
def words_Name.j0 : Nat → ByteArray → Bool → Option (Bool)
  | 0, _, _ => none
  | k + 1, x0, x16 => if x16 = true then (some false) else (words_Name.l0 k x0 (x0.size : Int) 0)
def words_Name.l0 : Nat → ByteArray → Int → Int → Option (Bool)
  | 0, _, _, _ => none
  | k + 1, x0, x18, x19 => if x19 < x18 then (if 0 ≤ x19 then (if x19 < (x0.size : Int) then ((words_letter.f (bt x0 x19)).bind fun t103 => (if t103 = true then (words_Name.l0 k x0 x18 (wrap64 (x19 + 1))) else ((words_digit.f (bt x0 x19)).bind fun t104 => (if t104 = true then (words_Name.l0 k x0 x18 (wrap64 (x19 + 1))) else (some false))))) else (none)) else (none)) else (some true)
end
def words_Name.f (k : Nat) (a0 : ByteArray) : Option (Bool) := if a0.toList = ([] : List UInt8) then (words_Name.j0 k a0 true) else (if (a0.size : Int) > 12 then (words_Name.j0 k a0 true) else (if 0 < (a0.size : Int) then ((words_letter.f (bt a0 0)).bind fun t102 => (words_Name.j0 k a0 (!t102))) else (none)))
theorem words_Name.mono_l : ∀ k, (∀ y0 y1, LeO (words_Name.j0 k y0 y1) (words_Name.j0 (k + 1) y0 y1)) ∧ (∀ y0 y1 y2, LeO (words_Name.l0 k y0 y1 y2) (words_Name.l0 (k + 1) y0 y1 y2))
  | 0 => ⟨fun _ _ r h => by simp [words_Name.j0] at h, fun _ _ _ r h => by simp [words_Name.l0] at h⟩
  | k + 1 => by
    obtain ⟨ih0, ih1⟩ := words_Name.mono_l k
    refine ⟨?_, ?_⟩
    · intro y0 y1
      unfold words_Name.j0
      repeat' first
      | (with_reducible exact ih0 _ _)
      | (with_reducible exact ih1 _ _ _)
      | (with_reducible exact LeO.refl _)
      | (with_reducible exact LeO.none _)
      | (with_reducible refine LeO.ite ?_ ?_)
      | (with_reducible refine LeO.bind ?_ (fun _ => ?_))
      | exact ih0 _ _
      | exact ih1 _ _ _
      | exact LeO.none _
      | refine LeO.ite ?_ ?_
      | refine LeO.bind ?_ (fun _ => ?_)
    · intro y0 y1 y2
      unfold words_Name.l0
      repeat' first
      | (with_reducible exact ih0 _ _)
      | (with_reducible exact ih1 _ _ _)
      | (with_reducible exact LeO.refl _)
      | (with_reducible exact LeO.none _)
      | (with_reducible refine LeO.ite ?_ ?_)
      | (with_reducible refine LeO.bind ?_ (fun _ => ?_))
      | exact ih0 _ _
      | exact ih1 _ _ _
      | exact LeO.none _
      | refine LeO.ite ?_ ?_
      | refine LeO.bind ?_ (fun _ => ?_)
theorem words_Name.mono : ∀ a0 k, LeO (words_Name.f k a0) (words_Name.f (k + 1) a0) := by
  intro a0 k
  obtain ⟨ih0, ih1⟩ := words_Name.mono_l k
  unfold words_Name.f
  repeat' first
      | (with_reducible exact ih0 _ _)
      | (with_reducible exact ih1 _ _ _)
      | (with_reducible exact LeO.refl _)
      | (with_reducible exact LeO.none _)
      | (with_reducible refine LeO.ite ?_ ?_)
      | (with_reducible refine LeO.bind ?_ (fun _ => ?_))
      | exact ih0 _ _
      | exact ih1 _ _ _
      | exact LeO.none _
      | refine LeO.ite ?_ ?_
      | refine LeO.bind ?_ (fun _ => ?_)
set_option maxHeartbeats 8000000 in
set_option maxRecDepth 100000 in
theorem words_Name.calls (k : Nat) (a0 : ByteArray) (r : Bool) (w : World) (h : words_Name.f k a0 = some r) :
    Calls Try.prog 42 #[.string a0] w fun e w' => e = .returned (.bool r) ∧ Drawn0 w w' := by
  have H : (if a0.toList = ([] : List UInt8) then (words_Name.j0 k a0 true) else (if (a0.size : Int) > 12 then (words_Name.j0 k a0 true) else (if 0 < (a0.size : Int) then ((words_letter.f (bt a0 0)).bind fun t102 => (words_Name.j0 k a0 (!t102))) else (none)))) = some r := h
  clear h
  have HC2 := Aside0.mk H
  clear H
  go_enter Try.func42, Try.ntmps42
  go_upto_region 1 with (fail)
  go_cut [16] (fun v16 wc => ∃ (kq : Nat) (x16_1 : Bool), v16 = .bool x16_1 ∧ Aside0 (words_Name.j0 kq a0 x16_1 = some r) ∧ Aside0 (kq ≤ k) ∧ Drawn0 w wc)
  case first =>
    have H := HC2.out
    clear HC2
    by_cases c3 : a0.toList = ([] : List UInt8)
    · rw [if_pos c3] at H
      have c3b0 : (a0.toList == ([] : List UInt8)) = true := beq_iff_eq.mpr c3
      have c3b1 : (a0.toList != ([] : List UInt8)) = false := bne_eq_false_iff_eq.mpr c3
      clear c3
      (first | rw [c3b0] | (simp only [i64_w, i32_w]; rw [c3b0]) | skip)
      have H' := Aside0.mk H
      clear H
      go_wp2
      go_meet
      case rel => exact ⟨_, (true), (by first | rfl | (simp; done) | (simp [*]; done)), H', ⟨by first | omega | exact Nat.le_refl _⟩, by repeat (first | exact Drawn0.refl _ | apply Drawn0.step)⟩
    · rw [if_neg c3] at H
      have c3b0 : (a0.toList == ([] : List UInt8)) = false := beq_eq_false_iff_ne.mpr c3
      have c3b1 : (a0.toList != ([] : List UInt8)) = true := bne_iff_ne.mpr c3
      (first | rw [c3b0] | (simp only [i64_w, i32_w]; rw [c3b0]) | skip)
      by_cases c4 : (a0.size : Int) > 12
      · rw [if_pos c4] at H
        have c4b0 : decide (12 < (a0.size : Int)) = true := decide_eq_true c4
        have c4b1 : decide (12 < a0.size) = true := decide_eq_true (by omega)
        clear c4
        have H' := Aside0.mk H
        clear H
        go_wp2
        go_meet
        case rel => exact ⟨_, (true), (by first | rfl | (simp; done) | (simp [*]; done)), H', ⟨by first | omega | exact Nat.le_refl _⟩, by repeat (first | exact Drawn0.refl _ | apply Drawn0.step)⟩
      · rw [if_neg c4] at H
        have c4b0 : decide (12 < (a0.size : Int)) = false := decide_eq_false c4
        have c4b1 : decide (12 < a0.size) = false := decide_eq_false (by omega)
        clear c4
        by_cases c5 : 0 < (a0.size : Int)
        · rw [if_pos c5] at H
          have c5b0 : decide (0 < (a0.size : Int)) = true := decide_eq_true c5
          have c5b1 : decide (0 < a0.size) = true := decide_eq_true (by omega)
          clear c5
          replace H := Option.bind_eq_some_iff.mp H
          obtain ⟨t102, A70, H⟩ := H
          replace H : (words_Name.j0 k a0 (!t102)) = some r := H
          have A7 := Aside0.mk A70
          clear A70
          have H' := Aside0.mk H
          clear H
          have p6 : 0 ≤ (0 : Int) := (by omega)
          have q6 : 0 < a0.size := (by have : (0 : Int) < (a0.size : Int) := of_decide_eq_true (by first | (with_reducible assumption) | assumption); omega)
          have hx6 : ∀ h : 0 < a0.size, ((a0[0]'h).toNat : Int) = bt a0 0 := bt_at a0 0
          clear p6
          have qi6 : (0 < (a0.size : Int)) = True := eq_true (of_decide_eq_true (by first | (with_reducible assumption) | assumption))
          replace q6 := eq_true q6
          go_wp2_with (first | (go_at_call 46; (with_reducible refine (words_letter.calls (bt a0 0) t102 _ A7.out).mono ?_); rintro e w' ⟨rfl, ⟨nd, rfl⟩⟩))
          go_meet
          case rel => exact ⟨_, (!t102), (by first | rfl | (simp; done) | (simp [*]; done)), H', ⟨by first | omega | exact Nat.le_refl _⟩, by repeat (first | exact Drawn0.refl _ | apply Drawn0.step)⟩
        · rw [if_neg c5] at H
          exact absurd H (by simp)
  case rest =>
    clear HC2
    try clear p2
    try clear c3
    try clear c3b0
    try clear c3b1
    try clear c4
    try clear c4b0
    try clear c4b1
    try clear c5
    try clear c5b0
    try clear c5b1
    try clear p6
    try clear q6
    try clear hx6
    try clear qi6
    try clear p6
    try clear q6
    obtain ⟨kq, x16_1, rfl, HA, HJ1, ⟨mc1, rfl⟩⟩ := hcut
    cases kq with
    | zero => exact absurd HA.out (by simp [words_Name.j0])
    | succ kj1 =>
      have H := HA.out
      clear HA
      simp only [words_Name.j0] at H
      by_cases c8 : x16_1 = true
      · subst c8
        have H1 : (some false) = some r := by rw [if_pos rfl] at H; exact H
        clear H
        have H := H1
        clear H1
        obtain rfl := Option.some.inj H
        go_wp2
        go_ret
        exact ⟨by first | rfl | (simp; done) | (simp [*]; done), by repeat (first | exact Drawn0.refl _ | apply Drawn0.step)⟩
      · replace c8 := Bool.eq_false_iff.mpr c8
        subst c8
        have H1 : (words_Name.l0 kj1 a0 (a0.size : Int) 0) = some r := by rw [if_neg (show ¬ (false = true) by decide)] at H; exact H
        clear H
        have H := H1
        clear H1
        have H' := Aside0.mk H
        clear H
        go_wp2
        go_loopg [19] kj1 (fun kq v19 w' => ∃ (x19_2 : Int), v19 = .int .i64 x19_2 ∧ Aside0 (words_Name.l0 kq a0 (a0.size : Int) x19_2 = some r) ∧ Aside0 (kq ≤ kj1) ∧ Drawn0 w w')
        case atStart => exact ⟨(0), (by first | rfl | (simp; done) | (simp [*]; done)), H', ⟨Nat.le_refl _⟩, by repeat (first | exact Drawn0.refl _ | apply Drawn0.step)⟩
        case round =>
          clear H'
          try clear c1
          try clear p2
          try clear c3
          try clear c3b0
          try clear c3b1
          try clear c4
          try clear c4b0
          try clear c4b1
          try clear c5
          try clear c5b0
          try clear c5b1
          try clear p6
          try clear q6
          try clear hx6
          try clear qi6
          try clear c8
          try clear p2
          try clear p6
          try clear q6
          obtain ⟨x19_2, rfl, HA, HK2, ⟨m2, rfl⟩⟩ := hrel
          cases gk with
          | zero => exact absurd HA.out (by simp [words_Name.l0])
          | succ k2 =>
            have H := HA.out
            clear HA
            simp only [words_Name.l0] at H
            by_cases c9 : x19_2 < (a0.size : Int)
            · rw [if_pos c9] at H
              have c9b0 : decide (x19_2 < (a0.size : Int)) = true := decide_eq_true c9
              clear c9
              by_cases c10 : 0 ≤ x19_2
              · rw [if_pos c10] at H
                have c10b0 : decide (0 ≤ x19_2) = true := decide_eq_true c10
                clear c10
                by_cases c11 : x19_2 < (a0.size : Int)
                · rw [if_pos c11] at H
                  have c11b0 : decide (x19_2 < (a0.size : Int)) = true := decide_eq_true c11
                  clear c11
                  replace H := Option.bind_eq_some_iff.mp H
                  obtain ⟨t103, A130, H⟩ := H
                  replace H : (if t103 = true then (words_Name.l0 k2 a0 (a0.size : Int) (wrap64 (x19_2 + 1))) else ((words_digit.f (bt a0 x19_2)).bind fun t104 => (if t104 = true then (words_Name.l0 k2 a0 (a0.size : Int) (wrap64 (x19_2 + 1))) else (some false)))) = some r := H
                  have A13 := Aside0.mk A130
                  clear A130
                  by_cases c14 : t103 = true
                  · subst c14
                    have H1 : (words_Name.l0 k2 a0 (a0.size : Int) (wrap64 (x19_2 + 1))) = some r := by rw [if_pos rfl] at H; exact H
                    clear H
                    have H := H1
                    clear H1
                    have H' := Aside0.mk H
                    clear H
                    have p12 : 0 ≤ (x19_2 : Int) := of_decide_eq_true (by first | (with_reducible assumption) | assumption)
                    have q12 : x19_2 < (a0.size : Int) := of_decide_eq_true (by first | (with_reducible assumption) | assumption)
                    have hx12 := bt_at a0 x19_2
                    replace p12 := eq_true p12
                    replace q12 := eq_true q12
                    go_wp2_with (first | ((with_reducible refine gate_callee (f := 46) rfl ?_); refine goesL_ (some 25) rfl rfl Try.func46 (by kernel_rfl) rfl #[.int .u8 (bt a0 x19_2)] rfl (by (try simp only [List.map_toArray, List.map_cons, List.map_nil]); first | done | rfl | (simp only [List.length_drop, List.length_take]; rfl)) ?_; (with_reducible refine (words_letter.calls (bt a0 x19_2) true _ A13.out).mono ?_); rintro e w' ⟨rfl, ⟨nd, rfl⟩⟩; refine ⟨_, rfl, ?_⟩))
                    go_roundg k2
                    case measure => have := HJ1.out; have := HK2.out; omega
                    case rel => exact ⟨(wrap64 (x19_2 + 1)), (by first | rfl | (simp; done) | (simp [*]; done)), H', ⟨by have := HJ1.out; have := HK2.out; omega⟩, by repeat (first | exact Drawn0.refl _ | apply Drawn0.step)⟩
                  · replace c14 := Bool.eq_false_iff.mpr c14
                    subst c14
                    have H1 : ((words_digit.f (bt a0 x19_2)).bind fun t104 => (if t104 = true then (words_Name.l0 k2 a0 (a0.size : Int) (wrap64 (x19_2 + 1))) else (some false))) = some r := by rw [if_neg (show ¬ (false = true) by decide)] at H; exact H
                    clear H
                    have H := H1
                    clear H1
                    replace H := Option.bind_eq_some_iff.mp H
                    obtain ⟨t104, A160, H⟩ := H
                    replace H : (if t104 = true then (words_Name.l0 k2 a0 (a0.size : Int) (wrap64 (x19_2 + 1))) else (some false)) = some r := H
                    have A16 := Aside0.mk A160
                    clear A160
                    by_cases c17 : t104 = true
                    · subst c17
                      have H1 : (words_Name.l0 k2 a0 (a0.size : Int) (wrap64 (x19_2 + 1))) = some r := by rw [if_pos rfl] at H; exact H
                      clear H
                      have H := H1
                      clear H1
                      have H' := Aside0.mk H
                      clear H
                      have p12 : 0 ≤ (x19_2 : Int) := of_decide_eq_true (by first | (with_reducible assumption) | assumption)
                      have q12 : x19_2 < (a0.size : Int) := of_decide_eq_true (by first | (with_reducible assumption) | assumption)
                      have hx12 := bt_at a0 x19_2
                      replace p12 := eq_true p12
                      replace q12 := eq_true q12
                      go_wp2_with (first | ((with_reducible refine gate_callee (f := 46) rfl ?_); refine goesL_ (some 25) rfl rfl Try.func46 (by kernel_rfl) rfl #[.int .u8 (bt a0 x19_2)] rfl (by (try simp only [List.map_toArray, List.map_cons, List.map_nil]); first | done | rfl | (simp only [List.length_drop, List.length_take]; rfl)) ?_; (with_reducible refine (words_letter.calls (bt a0 x19_2) false _ A13.out).mono ?_); rintro e w' ⟨rfl, ⟨nd, rfl⟩⟩; refine ⟨_, rfl, ?_⟩; have p15 : 0 ≤ (x19_2 : Int) := of_decide_eq_true (by first | (with_reducible assumption) | assumption); have q15 : x19_2 < (a0.size : Int) := of_decide_eq_true (by first | (with_reducible assumption) | assumption); have hx15 := bt_at a0 x19_2; replace p15 := eq_true p15; replace q15 := eq_true q15) | (go_at_call 47; (with_reducible refine (words_digit.calls (bt a0 x19_2) true _ A16.out).mono ?_); rintro e w' ⟨rfl, ⟨nd, rfl⟩⟩))
                      go_roundg k2
                      case measure => have := HJ1.out; have := HK2.out; omega
                      case rel => exact ⟨(wrap64 (x19_2 + 1)), (by first | rfl | (simp; done) | (simp [*]; done)), H', ⟨by have := HJ1.out; have := HK2.out; omega⟩, by repeat (first | exact Drawn0.refl _ | apply Drawn0.step)⟩
                    · replace c17 := Bool.eq_false_iff.mpr c17
                      subst c17
                      have H1 : (some false) = some r := by rw [if_neg (show ¬ (false = true) by decide)] at H; exact H
                      clear H
                      have H := H1
                      clear H1
                      obtain rfl := Option.some.inj H
                      have p12 : 0 ≤ (x19_2 : Int) := of_decide_eq_true (by first | (with_reducible assumption) | assumption)
                      have q12 : x19_2 < (a0.size : Int) := of_decide_eq_true (by first | (with_reducible assumption) | assumption)
                      have hx12 := bt_at a0 x19_2
                      replace p12 := eq_true p12
                      replace q12 := eq_true q12
                      go_wp2_with (first | ((with_reducible refine gate_callee (f := 46) rfl ?_); refine goesL_ (some 25) rfl rfl Try.func46 (by kernel_rfl) rfl #[.int .u8 (bt a0 x19_2)] rfl (by (try simp only [List.map_toArray, List.map_cons, List.map_nil]); first | done | rfl | (simp only [List.length_drop, List.length_take]; rfl)) ?_; (with_reducible refine (words_letter.calls (bt a0 x19_2) false _ A13.out).mono ?_); rintro e w' ⟨rfl, ⟨nd, rfl⟩⟩; refine ⟨_, rfl, ?_⟩; have p15 : 0 ≤ (x19_2 : Int) := of_decide_eq_true (by first | (with_reducible assumption) | assumption); have q15 : x19_2 < (a0.size : Int) := of_decide_eq_true (by first | (with_reducible assumption) | assumption); have hx15 := bt_at a0 x19_2; replace p15 := eq_true p15; replace q15 := eq_true q15) | (go_at_call 47; (with_reducible refine (words_digit.calls (bt a0 x19_2) false _ A16.out).mono ?_); rintro e w' ⟨rfl, ⟨nd, rfl⟩⟩))
                      go_ret
                      exact ⟨by first | rfl | (simp; done) | (simp [*]; done), by repeat (first | exact Drawn0.refl _ | apply Drawn0.step)⟩
                · rw [if_neg c11] at H
                  exact absurd H (by simp)
              · rw [if_neg c10] at H
                exact absurd H (by simp)
            · rw [if_neg c9] at H
              have c9b0 : decide (x19_2 < (a0.size : Int)) = false := decide_eq_false c9
              clear c9
              obtain rfl := Option.some.inj H
              go_wp2
              go_ret
              exact ⟨by first | rfl | (simp; done) | (simp [*]; done), by repeat (first | exact Drawn0.refl _ | apply Drawn0.step)⟩

/-! ### member_Check: function 25 -/
/-- Where the first element of which p holds stands; -1. -/
def idxOf {α : Type} (p : α → Bool) : List α → Int → Int
  | [], _ => -1
  | x :: xs, i => if p x = true then i else idxOf p xs (i + 1)
theorem idxOf_drop {α : Type} (p : α → Bool) (l : List α) (z : α) (i : Nat) (h : i < l.length) : idxOf p (l.drop i) i = if p (l.getD i z) = true then (i : Int) else idxOf p (l.drop (i + 1)) ((i + 1 : Nat) : Int) := by
  rw [List.drop_eq_getElem_cons h]
  simp [idxOf, List.getD_eq_getElem?_getD, List.getElem?_eq_getElem h]
/-- What is asked of a predicate: it may lay blocks of its own. -/
def PredK {α : Type} (P : Program) (d : Kd α) (g : Nat) (lb : Array Value) (p : α → Bool) (w : World) : Prop :=
  ∀ (W : World) (x : α) (cs : List Value), Below w.heap.size w W → d.K W x cs → Calls P g (#[.agg cs.toArray] ++ lb) W fun e w' => e = .returned (.bool (p x)) ∧ Below W.heap.size W w'
theorem PredK.later {α : Type} {P : Program} {d : Kd α} {g : Nat} {lb : Array Value} {p : α → Bool} {w W : World} (h : PredK P d g lb p w) (hb : Below w.heap.size w W) : PredK P d g lb p W :=
  fun W' x cs hb' hk => h W' x cs (below_step hb hb') hk
theorem idxOf_lt {α : Type} (p : α → Bool) (l : List α) (i : Int) : idxOf p l i = -1 ∨ (i ≤ idxOf p l i ∧ idxOf p l i < i + l.length) := by
  induction l generalizing i with
  | nil => exact .inl rfl
  | cons x xs ih =>
    unfold idxOf
    split
    · exact .inr ⟨Int.le_refl _, by simp only [List.length_cons]; omega⟩
    · rcases ih (i + 1) with h | h
      · exact .inl h
      · exact .inr ⟨by omega, by simp only [List.length_cons]; omega⟩

def letB (c : Int) : Bool := decide (97 ≤ c) && decide (c ≤ 122)
def digB (c : Int) : Bool := decide (48 ≤ c) && decide (c ≤ 57)
/-- From place i on, d letters or digits. -/
def restB (s : ByteArray) : Nat → Nat → Bool
  | 0, _ => true
  | d + 1, i => (letB (bt s i) || digB (bt s i)) && restB s d (i + 1)
/-- Is a text a name? -/
def nameB (s : ByteArray) : Bool := decide (0 < s.size) && decide (s.size ≤ 12) && letB (bt s 0) && restB s s.size 0
theorem letter_some (c : Int) : words_letter.f c = some (letB c) := by
  unfold words_letter.f letB
  split <;> rename_i h <;> simp [h]
theorem digit_some (c : Int) : words_digit.f c = some (digB c) := by
  unfold words_digit.f digB
  split <;> rename_i h <;> simp [h]
theorem toList_nil (s : ByteArray) : s.toList = [] ↔ s.size = 0 := by
  rw [ByteArray.toList_eq]
  constructor
  · intro h
    have := congrArg List.length h
    simpa using this
  · intro h
    apply List.eq_nil_of_length_eq_zero
    simpa using h
theorem words_Name_loop (s : ByteArray) (hs : s.size ≤ 12) (d : Nat) : ∀ (k i : Nat), s.size - i = d → i ≤ s.size → d < k → words_Name.l0 k s (s.size : Int) i = some (restB s d i) := by
  induction d with
  | zero =>
    intro k i hd hi hk
    obtain ⟨k, rfl⟩ : ∃ m, k = m + 1 := ⟨k - 1, by omega⟩
    simp only [words_Name.l0]
    rw [if_neg (by omega)]
    rfl
  | succ d ih =>
    intro k i hd hi hk
    obtain ⟨k, rfl⟩ : ∃ m, k = m + 1 := ⟨k - 1, by omega⟩
    have hw : wrap64 ((i : Int) + 1) = ((i + 1 : Nat) : Int) := by unfold wrap64; omega
    simp only [words_Name.l0]
    rw [if_pos (by omega), if_pos (by omega), if_pos (by omega), letter_some, digit_some, hw, ih k (i + 1) (by omega) (by omega) (by omega)]
    simp only [Option.bind_some, restB]
    cases letB (bt s i) <;> cases digB (bt s i) <;> simp
theorem words_Name_some (s : ByteArray) : words_Name.f 20 s = some (nameB s) := by
  unfold words_Name.f nameB
  by_cases h0 : s.size = 0
  · rw [if_pos ((toList_nil s).mpr h0)]
    simp [words_Name.j0, h0]
  · rw [if_neg (fun h => h0 ((toList_nil s).mp h))]
    by_cases h1 : (s.size : Int) > 12
    · rw [if_pos h1]
      have : ¬ s.size ≤ 12 := by omega
      simp [words_Name.j0, this]
    · rw [if_neg h1, if_pos (by omega), letter_some]
      have h2 : s.size ≤ 12 := by omega
      have h3 : 0 < s.size := by omega
      simp only [Option.bind_some, h2, h3, decide_true, Bool.true_and]
      have hl := words_Name_loop s h2 s.size 19 0 (by omega) (by omega) (by omega)
      cases letB (bt s 0)
      · simp [words_Name.j0]
      · simp only [words_Name.j0, Bool.not_true, Bool.false_eq_true, if_false]
        rw [Bool.true_and]
        exact hl

/-- What is asked of a function that tells names by their places. -/
def NamesAt (P : Program) (g : Nat) (lb : Array Value) (nm : Int → ByteArray) (n : Int) (w : World) : Prop :=
  ∀ (W : World) (i : Int), Below w.heap.size w W → 0 ≤ i → i < n → Calls P g (#[.int .i64 i] ++ lb) W fun e w' => e = .returned (.string (nm i)) ∧ Below W.heap.size W w'
/-- What is wrong with the name at place i: it is none (10), it does not rise (12). -/
def stepErr (nm : Int → ByteArray) (i : Int) : Int :=
  if nameB (nm i) = true then (if 0 < i ∧ Op.bytesLess (nm (i - 1)).toList (nm i).toList = false then 12 else 0) else 10
set_option maxHeartbeats 800000 in
set_option maxRecDepth 100000 in
theorem member_named.any (g : Nat) (lb : Array Value) (eg : ∀ args w, (callFunc g args).run Try.prog w = .ok (.enter g args) w) (nm : Int → ByteArray) (n i : Int) (w : World) (hN : NamesAt Try.prog g lb nm n w) (h0 : 0 ≤ i) (h1 : i < n) (h2 : i < 9223372036854775807) :
    Calls Try.prog 32 #[.func (.func g) #[] lb, .int .i64 i] w fun e w' => e = .returned (.int .i64 (stepErr nm i)) ∧ Below w.heap.size w w' := by
  have c1 := fun W hb => hN W i hb h0 h1
  have hs := words_Name_some (nm i)
  have HB := Aside0.mk (Below.refl w.heap.size w)
  cases hq : nameB (nm i) with
  | false =>
    rw [hq] at hs
    have HS := Aside0.mk hs
    have HQ := Aside0.mk hq
    have c2 := c1
    clear hs hq hN
    go_enter Try.func32, Try.ntmps32
    go_wp2_with (first | ((with_reducible refine (c1 _ HB.out).mono ?_); rintro e w1 ⟨rfl, hb⟩; have HB2 := Aside0.mk (below_step HB.out hb); clear HB hb; have HB := HB2; clear HB2) | ((with_reducible refine (c2 _ HB.out).mono ?_); rintro e w1 ⟨rfl, hb⟩; have HB2 := Aside0.mk (below_step HB.out hb); clear HB hb; have HB := HB2; clear HB2) | (go_at_call 42; refine (words_Name.calls 20 (nm i) _ _ HS.out).mono ?_; rintro e w2 ⟨rfl, hd⟩; have HB2 := Aside0.mk (below_step HB.out hd.below); clear HB hd; have HB := HB2; clear HB2))
    go_ret
    exact ⟨congrArg (fun z => Ending.returned (.int .i64 z)) (by simp [stepErr, HQ.out]), HB.out⟩
  | true =>
    rw [hq] at hs
    have HS := Aside0.mk hs
    have HQ := Aside0.mk hq
    clear hs hq
    by_cases hi : 0 < i
    · have c2 := fun W hb => hN W (i - 1) hb (by omega) (by omega)
      clear hN
      cases hl : Op.bytesLess (nm (i - 1)).toList (nm i).toList with
      | false =>
        have HL := Aside0.mk hl
        have hd : decide (0 < i) = true := decide_eq_true hi
        go_enter Try.func32, Try.ntmps32
        go_wp2_with (first | ((with_reducible refine (c1 _ HB.out).mono ?_); rintro e w1 ⟨rfl, hb⟩; have HB2 := Aside0.mk (below_step HB.out hb); clear HB hb; have HB := HB2; clear HB2) | ((with_reducible refine (c2 _ HB.out).mono ?_); rintro e w1 ⟨rfl, hb⟩; have HB2 := Aside0.mk (below_step HB.out hb); clear HB hb; have HB := HB2; clear HB2) | (go_at_call 42; refine (words_Name.calls 20 (nm i) _ _ HS.out).mono ?_; rintro e w2 ⟨rfl, hd⟩; have HB2 := Aside0.mk (below_step HB.out hd.below); clear HB hd; have HB := HB2; clear HB2))
        go_ret
        exact ⟨congrArg (fun z => Ending.returned (.int .i64 z)) (by simp [stepErr, HQ.out, HL.out, hi]), HB.out⟩
      | true =>
        have HL := Aside0.mk hl
        have hd : decide (0 < i) = true := decide_eq_true hi
        go_enter Try.func32, Try.ntmps32
        go_wp2_with (first | ((with_reducible refine (c1 _ HB.out).mono ?_); rintro e w1 ⟨rfl, hb⟩; have HB2 := Aside0.mk (below_step HB.out hb); clear HB hb; have HB := HB2; clear HB2) | ((with_reducible refine (c2 _ HB.out).mono ?_); rintro e w1 ⟨rfl, hb⟩; have HB2 := Aside0.mk (below_step HB.out hb); clear HB hb; have HB := HB2; clear HB2) | (go_at_call 42; refine (words_Name.calls 20 (nm i) _ _ HS.out).mono ?_; rintro e w2 ⟨rfl, hd⟩; have HB2 := Aside0.mk (below_step HB.out hd.below); clear HB hd; have HB := HB2; clear HB2))
        go_ret
        exact ⟨congrArg (fun z => Ending.returned (.int .i64 z)) (by simp [stepErr, HQ.out, HL.out]), HB.out⟩
    · have hd : decide (0 < i) = false := decide_eq_false hi
      have c2 := c1
      clear hN
      go_enter Try.func32, Try.ntmps32
      go_wp2_with (first | ((with_reducible refine (c1 _ HB.out).mono ?_); rintro e w1 ⟨rfl, hb⟩; have HB2 := Aside0.mk (below_step HB.out hb); clear HB hb; have HB := HB2; clear HB2) | ((with_reducible refine (c2 _ HB.out).mono ?_); rintro e w1 ⟨rfl, hb⟩; have HB2 := Aside0.mk (below_step HB.out hb); clear HB hb; have HB := HB2; clear HB2) | (go_at_call 42; refine (words_Name.calls 20 (nm i) _ _ HS.out).mono ?_; rintro e w2 ⟨rfl, hd⟩; have HB2 := Aside0.mk (below_step HB.out hd.below); clear HB hd; have HB := HB2; clear HB2))
      go_ret
      exact ⟨congrArg (fun z => Ending.returned (.int .i64 z)) (by unfold stepErr; rw [if_pos HQ.out, if_neg (by omega)]), HB.out⟩

/-- The first number that is not 0, of d places from i on. -/
def firstErr (f : Nat → Int) : Nat → Nat → Int
  | 0, _ => 0
  | d + 1, i => if f i = 0 then firstErr f d (i + 1) else f i
theorem member_Check.names1 (A0 : Option Addr) (c0 : Nat) (l0 : List S55) (b : Nat) (w : World) (hb : w.heap[b]? = some (.cells #[.slice A0 l0.length c0] 23 (0, 0))) (hC : Kd.C k55 w A0 l0.length l0) :
    NamesAt Try.prog 33 #[.pointer (some ⟨b, 0, none⟩)] (fun i => (rd_T55 l0 i).f0) l0.length w := by
  intro W i hW h0 h1
  obtain ⟨ad, A2, c2, e, hx0, hx1, hx2, h3, h4⟩ := at_T55 (Kd.C_below hC hW) i h0 h1
  cases e
  have hc := (blk_cell (blk_below hb hW) 0).trans rfl
  have hh := Aside0.mk h4
  clear h4 hb hC hW
  have q0 := eq_true h0
  have q1 := eq_true h1
  go_enter Try.func33, Try.ntmps33
  go_wp2
  go_ret
  exact ⟨rfl, Below.refl _ _⟩
theorem member_Check.names2 (s : ByteArray) (st : Int) (A0 : Option Addr) (c0 : Nat) (l0 : List S61) (b : Nat) (w : World) (hb : w.heap[b]? = some (.cells #[.string s, .int .i64 st, .slice A0 l0.length c0] 55 (0, 0))) (hC : Kd.C k61 w A0 l0.length l0) :
    NamesAt Try.prog 34 #[.pointer (some ⟨b, 0, none⟩)] (fun i => (rd_T61 l0 i).f0) l0.length w := by
  intro W i hW h0 h1
  obtain ⟨ad, e, hx0, hx1⟩ := at_T61 (Kd.C_below hC hW) i h0 h1
  cases e
  have hc := (blk_cell (blk_below hb hW) 2).trans rfl
  clear hb hC hW
  have q0 := eq_true h0
  have q1 := eq_true h1
  go_enter Try.func34, Try.ntmps34
  go_wp2
  go_ret
  exact ⟨rfl, Below.refl _ _⟩
/-- What is wrong with the account at place i. -/
def aErr (l : List S61) (i : Nat) : Int :=
  if stepErr (fun j => (rd_T61 l j).f0) i = 0 then (if 1 ≤ (rd_T61 l i).f1 ∧ (rd_T61 l i).f1 ≤ 3 then 0 else 21) else stepErr (fun j => (rd_T61 l j).f0) i
/-- What is wrong with the member at place i. -/
def mErr (l : List S55) (i : Nat) : Int :=
  if stepErr (fun j => (rd_T55 l j).f0) i = 0 then
    (if (rd_T55 l i).f1 < 1 ∨ 4 < (rd_T55 l i).f1 then 13 else if 16 < (rd_T55 l i).f2.length then 8 else firstErr (aErr (rd_T55 l i).f2) (rd_T55 l i).f2.length 0)
  else stepErr (fun j => (rd_T55 l j).f0) i
def member_Check.f (l0 : List S55) : Option Int := some (if 32 < l0.length then 8 else firstErr (mErr l0) l0.length 0)
theorem member_kind_eq (c : Int) : member_kind.f c = some (decide (1 ≤ c ∧ c ≤ 3)) := by
  unfold member_kind.f
  by_cases h : c ≥ 1
  · rw [if_pos h]
    have : 1 ≤ c := h
    simp [this]
  · rw [if_neg h]
    have : ¬ 1 ≤ c := h
    simp [this]
theorem firstErr_step (f : Nat → Int) (n i : Nat) (h : i < n) : firstErr f (n - i) i = if f i = 0 then firstErr f (n - (i + 1)) (i + 1) else f i := by
  obtain ⟨d, hd⟩ : ∃ d, n - i = d + 1 := ⟨n - i - 1, by omega⟩
  rw [hd, show n - (i + 1) = d from by omega]
  rfl
set_option maxHeartbeats 2000000 in
set_option maxRecDepth 100000 in
theorem member_Check.calls (A0 : Option Addr) (c0 : Nat) (l0 : List (S55)) (r : Int) (w : World) (hr0 : Kd.C k55 w A0 l0.length l0) (hc0 : l0.length ≤ c0) (h : member_Check.f l0 = some r) :
    Calls Try.prog 25 #[.slice A0 l0.length c0] w fun e w' => e = .returned (.int .i64 r) ∧ Below w.heap.size w w' := by
  have HR0 := Aside0.mk hr0
  have HL := hr0.2.1
  obtain rfl := Option.some.inj h
  clear hr0 hc0 h
  by_cases h32 : 32 < l0.length
  · have hd : decide (32 < l0.length) = true := decide_eq_true h32
    rw [if_pos h32]
    go_enter Try.func25, Try.ntmps25
    go_wp2
    go_ret
    exact ⟨rfl, (Below.refl _ _).alloc (Nat.le_refl _) _⟩
  · have hd : decide (32 < l0.length) = false := decide_eq_false h32
    rw [if_neg h32]
    go_enter Try.func25, Try.ntmps25
    go_wp2
    go_loopg [12] l0.length (fun kq v12 w' => ∃ (x : Nat), v12 = .int .i64 x ∧ kq + x = l0.length ∧ Aside0 (firstErr (mErr l0) (l0.length - x) x = firstErr (mErr l0) l0.length 0) ∧ Aside0 (Below w.heap.size w w') ∧ Aside0 (w'.heap[w.heap.size]? = some (.cells #[.slice A0 l0.length c0] 23 (0, 0))))
    case atStart => exact ⟨0, rfl, by omega, ⟨by simp⟩, ⟨(Below.refl _ _).alloc (Nat.le_refl _) _⟩, ⟨blk_new _ _⟩⟩
    case round =>
      obtain ⟨x, rfl, hx, HA, HB, HK⟩ := hrel
      obtain ⟨wo, hwo⟩ : ∃ wo : World, wo = wr := ⟨_, rfl⟩
      subst hwo
      by_cases hlt : x < l0.length
      · have hA := HA.out
        rw [firstErr_step _ _ _ hlt] at hA
        have HA2 := Aside0.mk hA
        clear hA HA
        obtain ⟨ad, A2, c2, e, h0, h1, h2, h3, h4⟩ := at_T55 (Kd.C_below HR0.out HB.out) x (by omega) (by omega)
        cases e
        simp only [Int.toNat_natCast] at h0 h1 h2
        have HM := Aside0.mk h4
        have HC2 := Aside0.mk h3
        have hl2 := h4.2.1
        clear h4 h3
        have hc := (blk_cell HK.out 0).trans rfl
        have hlt2 := blk_lt HK.out
        have hsz := HB.out.size
        have n1 := fun W hb => member_Check.names1 (some ad) c0 l0 w.heap.size W (blk_below HK.out hb) (Kd.C_below HR0.out (below_step HB.out hb))
        have N1 := Aside0.mk n1
        clear n1
        have eg1 := enters_of Try.func33 (by kernel_rfl) rfl
        have eg2 := enters_of Try.func34 (by kernel_rfl) rfl
        have cn := fun W hb => member_named.any 33 #[.pointer (some ⟨w.heap.size, 0, none⟩)] eg1 (fun i => (rd_T55 l0 i).f0) l0.length x W (N1.out W hb) (by omega) (by omega) (by omega)
        have HE : Aside0 (mErr l0 x = mErr l0 x) := ⟨rfl⟩
        conv at HE => arg 1; rhs; unfold mErr
        generalize hs : stepErr (fun i => (rd_T55 l0 i).f0) x = s at cn HE
        clear hs
        by_cases hs0 : s = 0
        · have hs1 : (s != 0) = false := bne_eq_false_iff_eq.mpr hs0
          have HE2 : Aside0 (mErr l0 x = if (rd_T55 l0 x).f1 < 1 ∨ 4 < (rd_T55 l0 x).f1 then 13 else if 16 < (rd_T55 l0 x).f2.length then 8 else firstErr (aErr (rd_T55 l0 x).f2) (rd_T55 l0 x).f2.length 0) := ⟨by have := HE.out; rwa [if_pos hs0] at this⟩
          clear HE hs0
          by_cases hA : (rd_T55 l0 x).f1 < 1
          · have hd1 : decide ((rd_T55 l0 x).f1 < 1) = true := decide_eq_true hA
            go_wp2_with (go_at_call 32; (refine (cn _ ?hb1).mono ?_); (case hb1 => exact below_alloc (Below.refl _ _) _); rintro e w2 ⟨rfl, hb⟩; have HBn := Aside0.mk hb; have BM := Aside0.mk (blk_below (blk_new wo (.cells #[.string (rd_T55 l0 x).f0, .int .i64 (rd_T55 l0 x).f1, .slice A2 (rd_T55 l0 x).f2.length c2] 55 (0, 0))) hb); have hm1 : w2.cell? ⟨wo.heap.size, 1, none⟩ = some (.int .i64 (rd_T55 l0 x).f1) := (blk_cell BM.out 1).trans rfl; have hm2 : w2.cell? ⟨wo.heap.size, 2, none⟩ = some (.slice A2 (rd_T55 l0 x).f2.length c2) := (blk_cell BM.out 2).trans rfl; clear hb)
            go_ret
            have e1 := HA2.out
            have e0 : mErr l0 x = 13 := by rw [HE2.out, if_pos (Or.inl hA)]
            rw [e0, if_neg (show ¬ (13 : Int) = 0 by decide)] at e1
            exact ⟨congrArg (fun z => Ending.returned (.int .i64 z)) e1, below_step (below_alloc HB.out _) HBn.out⟩
          · by_cases hB : 4 < (rd_T55 l0 x).f1
            · have hd1 : decide ((rd_T55 l0 x).f1 < 1) = false := decide_eq_false hA
              have hd2 : decide (4 < (rd_T55 l0 x).f1) = true := decide_eq_true hB
              go_wp2_with (go_at_call 32; (refine (cn _ ?hb1).mono ?_); (case hb1 => exact below_alloc (Below.refl _ _) _); rintro e w2 ⟨rfl, hb⟩; have HBn := Aside0.mk hb; have BM := Aside0.mk (blk_below (blk_new wo (.cells #[.string (rd_T55 l0 x).f0, .int .i64 (rd_T55 l0 x).f1, .slice A2 (rd_T55 l0 x).f2.length c2] 55 (0, 0))) hb); have hm1 : w2.cell? ⟨wo.heap.size, 1, none⟩ = some (.int .i64 (rd_T55 l0 x).f1) := (blk_cell BM.out 1).trans rfl; have hm2 : w2.cell? ⟨wo.heap.size, 2, none⟩ = some (.slice A2 (rd_T55 l0 x).f2.length c2) := (blk_cell BM.out 2).trans rfl; clear hb)
              go_ret
              have e1 := HA2.out
              have e0 : mErr l0 x = 13 := by rw [HE2.out, if_pos (Or.inr hB)]
              rw [e0, if_neg (show ¬ (13 : Int) = 0 by decide)] at e1
              exact ⟨congrArg (fun z => Ending.returned (.int .i64 z)) e1, below_step (below_alloc HB.out _) HBn.out⟩
            · have hd1 : decide ((rd_T55 l0 x).f1 < 1) = false := decide_eq_false hA
              have hd2 : decide (4 < (rd_T55 l0 x).f1) = false := decide_eq_false hB
              have HE3 := Aside0.mk (by have := HE2.out; rwa [if_neg (fun h => h.elim hA hB)] at this)
              clear HE2 hA hB
              by_cases hC : 16 < (rd_T55 l0 x).f2.length
              · have hd3 : decide (16 < (rd_T55 l0 x).f2.length) = true := decide_eq_true hC
                go_wp2_with (go_at_call 32; (refine (cn _ ?hb1).mono ?_); (case hb1 => exact below_alloc (Below.refl _ _) _); rintro e w2 ⟨rfl, hb⟩; have HBn := Aside0.mk hb; have BM := Aside0.mk (blk_below (blk_new wo (.cells #[.string (rd_T55 l0 x).f0, .int .i64 (rd_T55 l0 x).f1, .slice A2 (rd_T55 l0 x).f2.length c2] 55 (0, 0))) hb); have hm1 : w2.cell? ⟨wo.heap.size, 1, none⟩ = some (.int .i64 (rd_T55 l0 x).f1) := (blk_cell BM.out 1).trans rfl; have hm2 : w2.cell? ⟨wo.heap.size, 2, none⟩ = some (.slice A2 (rd_T55 l0 x).f2.length c2) := (blk_cell BM.out 2).trans rfl; clear hb)
                go_ret
                have e1 := HA2.out
                have e0 : mErr l0 x = 8 := by rw [HE3.out, if_pos hC]
                rw [e0, if_neg (show ¬ (8 : Int) = 0 by decide)] at e1
                exact ⟨congrArg (fun z => Ending.returned (.int .i64 z)) e1, below_step (below_alloc HB.out _) HBn.out⟩
              · have hd3 : decide (16 < (rd_T55 l0 x).f2.length) = false := decide_eq_false hC
                have HE4 := Aside0.mk (by have := HE3.out; rwa [if_neg hC] at this)
                clear HE3
                go_wp2_with (go_at_call 32; (refine (cn _ ?hb1).mono ?_); (case hb1 => exact below_alloc (Below.refl _ _) _); rintro e w2 ⟨rfl, hb⟩; have HBn := Aside0.mk hb; have BM := Aside0.mk (blk_below (blk_new wo (.cells #[.string (rd_T55 l0 x).f0, .int .i64 (rd_T55 l0 x).f1, .slice A2 (rd_T55 l0 x).f2.length c2] 55 (0, 0))) hb); have hm1 : w2.cell? ⟨wo.heap.size, 1, none⟩ = some (.int .i64 (rd_T55 l0 x).f1) := (blk_cell BM.out 1).trans rfl; have hm2 : w2.cell? ⟨wo.heap.size, 2, none⟩ = some (.slice A2 (rd_T55 l0 x).f2.length c2) := (blk_cell BM.out 2).trans rfl; clear hb)
                have HBM := Aside0.mk (below_step (below_alloc HB.out (.cells #[.string (rd_T55 l0 x).f0, .int .i64 (rd_T55 l0 x).f1, .slice A2 (rd_T55 l0 x).f2.length c2] 55 (0, 0))) HBn.out)
                have HK2 := Aside0.mk (blk_below (blk_alloc HK.out (.cells #[.string (rd_T55 l0 x).f0, .int .i64 (rd_T55 l0 x).f1, .slice A2 (rd_T55 l0 x).f2.length c2] 55 (0, 0))) HBn.out)
                have HM2 := Aside0.mk (Kd.C_below (Kd.C_alloc HM.out (.cells #[.string (rd_T55 l0 x).f0, .int .i64 (rd_T55 l0 x).f1, .slice A2 (rd_T55 l0 x).f2.length c2] 55 (0, 0))) HBn.out)
                clear HBn HM hc cn N1
                go_loopg [38] (rd_T55 l0 x).f2.length (fun kq v38 w' => ∃ (y : Nat), v38 = .int .i64 y ∧ kq + y = (rd_T55 l0 x).f2.length ∧ Aside0 (firstErr (aErr (rd_T55 l0 x).f2) ((rd_T55 l0 x).f2.length - y) y = mErr l0 x) ∧ Aside0 (Below w2.heap.size w2 w'))
                case atStart => exact ⟨0, rfl, by omega, ⟨HE4.out.symm⟩, ⟨Below.refl _ _⟩⟩
                case round =>
                  obtain ⟨y, rfl, hy, HY, HW⟩ := hrel
                  by_cases hlty : y < (rd_T55 l0 x).f2.length
                  · have hY := HY.out
                    rw [firstErr_step _ _ _ hlty] at hY
                    have HY2 := Aside0.mk hY
                    clear hY HY
                    obtain ⟨ad2, e, g0, g1⟩ := at_T61 (Kd.C_below HM2.out HW.out) y (by omega) (by omega)
                    cases e
                    simp only [Int.toNat_natCast] at g0 g1
                    have BM2 := Aside0.mk (blk_below BM.out HW.out)
                    have hc2 : wr.cell? ⟨wo.heap.size, 2, none⟩ = some (.slice (some ad2) (rd_T55 l0 x).f2.length c2) := (blk_cell BM2.out 2).trans rfl
                    have hltm := blk_lt BM2.out
                    have hszw := HW.out.size
                    have n2 := fun W hb => member_Check.names2 _ _ (some ad2) c2 (rd_T55 l0 x).f2 wo.heap.size W (blk_below BM2.out hb) (Kd.C_below HM2.out (below_step HW.out hb))
                    have N2 := Aside0.mk n2
                    clear n2
                    have cn2 := fun W hb => member_named.any 34 #[.pointer (some ⟨wo.heap.size, 0, none⟩)] eg2 (fun i => (rd_T61 (rd_T55 l0 x).f2 i).f0) (rd_T55 l0 x).f2.length y W (N2.out W hb) (by omega) (by omega) (by omega)
                    have HF : Aside0 (aErr (rd_T55 l0 x).f2 y = aErr (rd_T55 l0 x).f2 y) := ⟨rfl⟩
                    conv at HF => arg 1; rhs; unfold aErr
                    generalize hs : stepErr (fun i => (rd_T61 (rd_T55 l0 x).f2 i).f0) y = q at cn2 HF
                    clear hs
                    have ck := member_kind_eq (rd_T61 (rd_T55 l0 x).f2 y).f1
                    by_cases hq0 : q = 0
                    · have hq1 : (q != 0) = false := bne_eq_false_iff_eq.mpr hq0
                      have HF2 := Aside0.mk (by have := HF.out; rwa [if_pos hq0] at this)
                      clear HF hq0
                      by_cases hk : 1 ≤ (rd_T61 (rd_T55 l0 x).f2 y).f1 ∧ (rd_T61 (rd_T55 l0 x).f2 y).f1 ≤ 3
                      · have CK := Aside0.mk (by have := ck; rwa [decide_eq_true hk] at this)
                        have HF3 := Aside0.mk (by have := HF2.out; rwa [if_pos hk] at this)
                        clear ck HF2 hk
                        go_wp2_with (first | (go_at_call 32; (refine (cn2 _ ?hb1).mono ?_); (case hb1 => exact below_alloc (Below.refl _ _) _); rintro e w3 ⟨rfl, hb⟩; have HBi := Aside0.mk hb; have BA := Aside0.mk (blk_below (blk_new wr (.cells #[.string (rd_T61 (rd_T55 l0 x).f2 y).f0, .int .i64 (rd_T61 (rd_T55 l0 x).f2 y).f1] 61 (0, 0))) hb); have hm3 : w3.cell? ⟨wr.heap.size, 1, none⟩ = some (.int .i64 (rd_T61 (rd_T55 l0 x).f2 y).f1) := (blk_cell BA.out 1).trans rfl; clear hb) | (go_at_call 35; (refine (member_kind.calls _ true _ CK.out).mono ?_); rintro e w4 ⟨rfl, ⟨nd, rfl⟩⟩))
                        go_roundg ((rd_T55 l0 x).f2.length - (y + 1))
                        case measure => omega
                        case rel => exact ⟨y + 1, by go_num, by omega, ⟨by have := HY2.out; rwa [if_pos HF3.out] at this⟩, ⟨pw_below_drewN (below_step (below_alloc HW.out _) HBi.out) _⟩⟩
                      · have CK := Aside0.mk (by have := ck; rwa [decide_eq_false hk] at this)
                        have HF3 := Aside0.mk (by have := HF2.out; rwa [if_neg hk] at this)
                        clear ck HF2 hk
                        go_wp2_with (first | (go_at_call 32; (refine (cn2 _ ?hb1).mono ?_); (case hb1 => exact below_alloc (Below.refl _ _) _); rintro e w3 ⟨rfl, hb⟩; have HBi := Aside0.mk hb; have BA := Aside0.mk (blk_below (blk_new wr (.cells #[.string (rd_T61 (rd_T55 l0 x).f2 y).f0, .int .i64 (rd_T61 (rd_T55 l0 x).f2 y).f1] 61 (0, 0))) hb); have hm3 : w3.cell? ⟨wr.heap.size, 1, none⟩ = some (.int .i64 (rd_T61 (rd_T55 l0 x).f2 y).f1) := (blk_cell BA.out 1).trans rfl; clear hb) | (go_at_call 35; (refine (member_kind.calls _ false _ CK.out).mono ?_); rintro e w4 ⟨rfl, ⟨nd, rfl⟩⟩))
                        go_ret
                        have e2 := HY2.out
                        rw [HF3.out, if_neg (show ¬ (21 : Int) = 0 by decide)] at e2
                        have e1 := HA2.out
                        rw [← e2, if_neg (show ¬ (21 : Int) = 0 by decide)] at e1
                        exact ⟨congrArg (fun z => Ending.returned (.int .i64 z)) e1, below_step HBM.out (pw_below_drewN (below_step (below_alloc HW.out _) HBi.out) _)⟩
                    · have hq1 : (q != 0) = true := bne_iff_ne.mpr hq0
                      have HF2 := Aside0.mk (by have := HF.out; rwa [if_neg hq0] at this)
                      clear HF
                      go_wp2_with (go_at_call 32; (refine (cn2 _ ?hb1).mono ?_); (case hb1 => exact below_alloc (Below.refl _ _) _); rintro e w3 ⟨rfl, hb⟩; have HBi := Aside0.mk hb; have BA := Aside0.mk (blk_below (blk_new wr (.cells #[.string (rd_T61 (rd_T55 l0 x).f2 y).f0, .int .i64 (rd_T61 (rd_T55 l0 x).f2 y).f1] 61 (0, 0))) hb); have hm3 : w3.cell? ⟨wr.heap.size, 1, none⟩ = some (.int .i64 (rd_T61 (rd_T55 l0 x).f2 y).f1) := (blk_cell BA.out 1).trans rfl; clear hb)
                      go_ret
                      have e2 := HY2.out
                      rw [HF2.out, if_neg hq0] at e2
                      have e1 := HA2.out
                      rw [← e2, if_neg hq0] at e1
                      exact ⟨congrArg (fun z => Ending.returned (.int .i64 z)) e1, below_step HBM.out (below_step (below_alloc HW.out _) HBi.out)⟩
                  · have hye : y = (rd_T55 l0 x).f2.length := by omega
                    have e1 := HY.out
                    rw [hye, Nat.sub_self] at e1
                    have HY2 := Aside0.mk e1
                    have hd9 : decide ((y : Int) < ((rd_T55 l0 x).f2.length : Int)) = false := by simp; omega
                    clear hye e1 HY
                    go_wp2
                    go_roundg (l0.length - (x + 1))
                    case measure => omega
                    case rel => exact ⟨x + 1, by go_num, by omega, ⟨by have := HA2.out; rwa [if_pos (show mErr l0 x = 0 from HY2.out.symm)] at this⟩, ⟨below_step HBM.out HW.out⟩, ⟨blk_below HK2.out HW.out⟩⟩
        · have hs1 : (s != 0) = true := bne_iff_ne.mpr hs0
          have HE2 := Aside0.mk (by have := HE.out; rwa [if_neg hs0] at this)
          clear HE
          go_wp2_with (go_at_call 32; (refine (cn _ ?hb1).mono ?_); (case hb1 => exact below_alloc (Below.refl _ _) _); rintro e w2 ⟨rfl, hb⟩; have HBn := Aside0.mk hb; have BM := Aside0.mk (blk_below (blk_new wo (.cells #[.string (rd_T55 l0 x).f0, .int .i64 (rd_T55 l0 x).f1, .slice A2 (rd_T55 l0 x).f2.length c2] 55 (0, 0))) hb); have hm1 : w2.cell? ⟨wo.heap.size, 1, none⟩ = some (.int .i64 (rd_T55 l0 x).f1) := (blk_cell BM.out 1).trans rfl; have hm2 : w2.cell? ⟨wo.heap.size, 2, none⟩ = some (.slice A2 (rd_T55 l0 x).f2.length c2) := (blk_cell BM.out 2).trans rfl; clear hb)
          go_ret
          have e1 := HA2.out
          rw [HE2.out, if_neg hs0] at e1
          exact ⟨congrArg (fun z => Ending.returned (.int .i64 z)) e1, below_step (below_alloc HB.out _) HBn.out⟩
      · have hxe : x = l0.length := by omega
        have e1 := HA.out
        rw [hxe, Nat.sub_self] at e1
        have HA2 := Aside0.mk e1
        clear e1 HA
        have hd : decide ((x : Int) < (l0.length : Int)) = false := by simp; omega
        clear hxe
        go_wp2
        go_ret
        exact ⟨congrArg (fun z => Ending.returned (.int .i64 z)) HA2.out, HB.out⟩

/-! ### member_at: function 36 -/
-- NEEDS
def member_at.go (a1 : ByteArray) : List S55 → Int → Int
  | [], _ => -1
  | x :: xs, i => if x.f0.toList = a1.toList then i else member_at.go a1 xs (i + 1)
/-- The place of the first member of a name; -1. -/
def member_at.f (l0 : List S55) (a1 : ByteArray) : Option Int := some (member_at.go a1 l0 0)
theorem member_at.go_drop (a1 : ByteArray) (l : List S55) (i : Nat) (h : i < l.length) : member_at.go a1 (l.drop i) i = if (rd_T55 l i).f0.toList = a1.toList then (i : Int) else member_at.go a1 (l.drop (i + 1)) ((i + 1 : Nat) : Int) := by
  rw [List.drop_eq_getElem_cons h]
  simp [member_at.go, rd_T55, List.getD_eq_getElem?_getD, List.getElem?_eq_getElem h]
set_option maxHeartbeats 800000 in
set_option maxRecDepth 100000 in
theorem member_at.calls (A0 : Option Addr) (c0 : Nat) (l0 : List (S55)) (a1 : ByteArray) (r : Int) (w : World) (hr0 : Kd.C k55 w A0 l0.length l0) (hc0 : l0.length ≤ c0) (h : member_at.f l0 a1 = some r) :
    Calls Try.prog 36 #[.slice A0 l0.length c0, .string a1] w fun e w' => e = .returned (.int .i64 r) ∧ Below w.heap.size w w' := by
  have HR0 := Aside0.mk hr0
  have HC0 := Aside0.mk hc0
  have HL := hr0.2.1
  have H' := Aside0.mk (Option.some.inj h)
  clear hr0 hc0 h
  go_enter Try.func36, Try.ntmps36
  go_wp2
  go_loopg [5, 8] l0.length (fun kq _ v8 w' => ∃ (x8 : Nat), v8 = .int .i64 x8 ∧ kq + x8 = l0.length ∧ Aside0 (member_at.go a1 (l0.drop x8) x8 = r) ∧ Aside0 (Below w.heap.size w w') ∧ Aside0 (w'.cell? ⟨w.heap.size, 0, none⟩ = some (.string a1)))
  case atStart => exact ⟨0, rfl, by omega, H', ⟨(Below.refl _ _).alloc (Nat.le_refl _) _⟩, ⟨by go_simp⟩⟩
  case round =>
    obtain ⟨x8, rfl, hx, HA, HB, HC⟩ := hrel
    have hsz := HB.out.size
    have hc := HC.out
    have hsz2 := World.block_lt_of_cell? _ _ HC.out
    by_cases hlt : x8 < l0.length
    · obtain ⟨ad, A2, c2, e, h0, h1, h2, h3, h4⟩ := at_T55 (Kd.C_below HR0.out HB.out) x8 (by omega) (by omega)
      cases e
      simp only [Int.toNat_natCast] at h0 h1 h2
      have hg := member_at.go_drop a1 l0 x8 hlt
      have HA2 := Aside0.mk (HA.out ▸ hg).symm
      clear hg HA
      have HH := Aside0.mk h4
      clear h4
      by_cases hq : (rd_T55 l0 x8).f0.toList = a1.toList
      · have hqb : ((rd_T55 l0 x8).f0.toList == a1.toList) = true := beq_iff_eq.mpr hq
        have HA3 := Aside0.mk (by have := HA2.out; rwa [if_pos hq] at this)
        clear hq HA2
        go_wp2
        go_ret
        have := HA3.out
        subst this
        exact ⟨rfl, HB.out.alloc (by omega) _⟩
      · have hqb : ((rd_T55 l0 x8).f0.toList == a1.toList) = false := beq_eq_false_iff_ne.mpr hq
        have HA3 := Aside0.mk (by have := HA2.out; rwa [if_neg hq] at this)
        clear hq HA2
        go_wp2
        go_roundg (l0.length - (x8 + 1))
        case measure => omega
        case rel => exact ⟨x8 + 1, by go_num, by omega, HA3, ⟨HB.out.alloc (by omega) _⟩, ⟨by go_simp⟩⟩
    · have hxe : x8 = l0.length := by omega
      have HA3 := Aside0.mk (by have := HA.out; rwa [List.drop_eq_nil_of_le (by omega)] at this)
      clear HA
      have hd : decide ((x8 : Int) < (l0.length : Int)) = false := by simp; omega
      clear hxe
      go_wp2
      go_ret
      have := HA3.out
      simp only [member_at.go] at this
      subst this
      exact ⟨rfl, HB.out⟩

/-! ### api_Account: function 37 -/
-- NEEDS
/-- A clone holds what was cloned. -/
def api_Account.f (l0 : List S61) : Option (List S61) := if l0.length * 24 ≤ 140737488355328 then some l0 else none
set_option maxHeartbeats 800000 in
set_option maxRecDepth 100000 in
theorem api_Account.calls (A0 : Option Addr) (c0 : Nat) (l0 : List (S61)) (r : List (S61)) (w : World) (hr0 : Kd.C k61 w A0 l0.length l0) (hc0 : l0.length ≤ c0) (h : api_Account.f l0 = some r) :
    Calls Try.prog 37 #[.slice A0 l0.length c0] w fun e w' => ∃ v0_ : Value, e = .returned (v0_) ∧ Kd.R k61 61 w' w.heap.size (fun _ => True) v0_ r ∧ Below w.heap.size w w' := by
  unfold api_Account.f at h
  split at h
  case isFalse => cases h
  rename_i h'
  obtain rfl := Option.some.inj h
  clear h
  have h := h'
  clear h'
  have HR0 := Aside0.mk hr0
  have HC0 := Aside0.mk hc0
  have HB := Aside0.mk (Below.refl w.heap.size w)
  cases A0 with
  | none =>
    have hl : l0.length = 0 := by
      rcases Nat.eq_zero_or_pos l0.length with h0 | h0
      · exact h0
      · obtain ⟨ad, h, _⟩ := hr0.2.2 h0
        cases h
    obtain rfl : l0 = [] := List.eq_nil_of_length_eq_zero hl
    clear hr0 hc0 h hl
    have hnil := fun (W : World) (a : Option Addr) (n c : Nat) => Lib.run_eql_slice_nil W 53 61 a n c 0 0 Try.underlying53
    go_enter Try.func37, Try.ntmps37
    go_wp2
    go_ret
    exact ⟨_, rfl, Kd.R_nil _ _ _ _ _, HB.out⟩
  | some ad =>
    clear hr0 hc0
    have hnil := fun (W : World) (a : Option Addr) (n c : Nat) => Lib.run_eql_slice_nil W 53 61 a n c 0 0 Try.underlying53
    go_enter Try.func37, Try.ntmps37
    go_wp2_with ((with_reducible refine gate_builtin (b := .append) (xs := #[.tmp 5, .tmp 6]) rfl ?_); at_builtin; refine Kd.R_append_rows k61 (Rr := k61.K w) (w0 := w) w.heap.size rfl (.tmp 5) (.tmp 6) 53 61 (.agg #[(.string ⟨#[]⟩), (.int .i64 0)]) 24 rfl Try.underlying53 info61 rfl (by decide) (by decide) _ [] l0 (some ad) l0.length c0 (fun _ => True) (fun _ => False) rfl rfl ?c1 ?c2 ?c3 (fun _ h => h.elim) (fun _ _ => trivial) ?c6 ?c7 ?c8 ?c9)
    case c1 => exact ⟨fun _ _ => trivial, [], World.ownsRow_lit (base := w.heap.size) (e := 61) (size := k61.sz) w #[] 0 (Nat.le_refl _) (by decide) (by simp), Reps.none _ _⟩
    case c2 => exact ReadsRow.imp_ HR0.out (below_alloc (Below.refl _ _) _) (fun _ _ h => h)
    case c3 => intro x cs h; rw [k61_open h]; exact k61_mkM _ _ _ _
    case c6 => exact below_alloc (Below.refl _ _) _
    case c7 => simp
    case c8 => simpa using h
    case c9 =>
      intro v1 w1 hr hb _ _
      have HR := Aside0.mk hr
      have HB1 := Aside0.mk hb
      clear hr hb
      go_wp2
      go_ret
      exact ⟨_, rfl, HR.out, HB1.out⟩

end Go.Proofs.Ytdhmckgagffgkaa.PPortMore
