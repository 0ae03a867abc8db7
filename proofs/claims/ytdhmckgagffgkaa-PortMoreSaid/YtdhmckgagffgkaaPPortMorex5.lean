-- Written by a program of this session's (a turned copy of the kit's print, with functions proved by hand).
import Derived.Test.YtdhmckgagffgkaaPPortMorex0
import Derived.Test.YtdhmckgagffgkaaPPortMorex1
import Derived.Test.YtdhmckgagffgkaaPPortMorex3
import Derived.Test.YtdhmckgagffgkaaPPortMorex4
namespace Go.Proofs.Ytdhmckgagffgkaa.PPortMore
open Go.RowKit Go.Proofs.YtdhmckgagffgkaaW.PrintWords Go.Proofs.YtdhmckgagffgkaaW.PrintLast Go.Proofs.YtdhmckgagffgkaaW.PrintMore
attribute [local go_sem] max2_int min2_int max_two min_two max_three min_three max_four min_four Go.Proofs.YtdhmckgagffgkaaHand.run_leq_str Go.Proofs.YtdhmckgagffgkaaHand.run_gtr_str Go.Proofs.YtdhmckgagffgkaaHand.run_geq_str   -- for this text's walks alone
set_option linter.unusedVariables false
set_option linter.unusedSimpArgs false

attribute [local go_sem high] eqA45
/-! ### port_Check: function 13 -/
def port_Check.l0 : Nat → List (S55) → ByteArray → List (S47) → Int → Int → Option (Int)
  | 0, _, _, _, _, _ => none
  | k + 1, x1, x2, x27, x28, x29 => if x29 < x28 then (if 0 ≤ x29 then (if x29 < (x27.length : Int) then ((port_one.f k ((rd_T47 x27 x29).f0.f0) ((rd_T47 x27 x29).f0.f1) ((rd_T47 x27 x29).f1.f0) ((rd_T47 x27 x29).f1.f1) ((rd_T47 x27 x29).f2) x1 x2).bind fun t139 => (if t139 = 0 then (port_Check.l0 k x1 x2 x27 x28 (wrap64 (x29 + 1))) else (some t139))) else (none)) else (none)) else (some 0)
def port_Check.f (k : Nat) (l0 : List (S47)) (l1 : List (S55)) (a2 : ByteArray) : Option (Int) := (member_Check.f l1).bind fun t129 => (if t129 = 0 then ((member_Find.f l1 a2).bind fun bt130 => (if bt130.2.2.2 = true then (if (l0.length : Int) > 1024 then (some 8) else (port_Check.l0 k l1 a2 l0 (l0.length : Int) 0)) else (some 20))) else (some t129))
theorem port_Check.mono_l : ∀ k, (∀ y0 y1 y2 y3 y4, LeO (port_Check.l0 k y0 y1 y2 y3 y4) (port_Check.l0 (k + 1) y0 y1 y2 y3 y4))
  | 0 => fun _ _ _ _ _ r h => by simp [port_Check.l0] at h
  | k + 1 => by
    have ih0 := port_Check.mono_l k
    · intro y0 y1 y2 y3 y4
      unfold port_Check.l0
      repeat' first
      | (with_reducible exact ih0 _ _ _ _ _)
      | (with_reducible exact port_one.mono _ _ _ _ _ _ _ _)
      | (with_reducible exact LeO.refl _)
      | (with_reducible exact LeO.none _)
      | (with_reducible refine LeO.ite ?_ ?_)
      | (with_reducible refine LeO.bind ?_ (fun _ => ?_))
      | exact ih0 _ _ _ _ _
      | exact port_one.mono _ _ _ _ _ _ _ _
      | exact LeO.none _
      | refine LeO.ite ?_ ?_
      | refine LeO.bind ?_ (fun _ => ?_)
theorem port_Check.mono : ∀ a0 a1 a2 k, LeO (port_Check.f k a0 a1 a2) (port_Check.f (k + 1) a0 a1 a2) := by
  intro a0 a1 a2 k
  have ih0 := port_Check.mono_l k
  unfold port_Check.f
  repeat' first
      | (with_reducible exact ih0 _ _ _ _ _)
      | (with_reducible exact port_one.mono _ _ _ _ _ _ _ _)
      | (with_reducible exact LeO.refl _)
      | (with_reducible exact LeO.none _)
      | (with_reducible refine LeO.ite ?_ ?_)
      | (with_reducible refine LeO.bind ?_ (fun _ => ?_))
      | exact ih0 _ _ _ _ _
      | exact port_one.mono _ _ _ _ _ _ _ _
      | exact LeO.none _
      | refine LeO.ite ?_ ?_
      | refine LeO.bind ?_ (fun _ => ?_)
set_option maxHeartbeats 8000000 in
set_option maxRecDepth 100000 in
theorem port_Check.calls (k : Nat) (A0 : Option Addr) (c0 : Nat) (l0 : List (S47)) (A1 : Option Addr) (c1 : Nat) (l1 : List (S55)) (a2 : ByteArray) (r : Int) (w : World) (hr0 : Kd.C k47 w A0 l0.length l0) (hc0 : l0.length ≤ c0) (hr1 : Kd.C k55 w A1 l1.length l1) (hc1 : l1.length ≤ c1) (h : port_Check.f k l0 l1 a2 = some r) :
    Calls Try.prog 13 #[.slice A0 l0.length c0, .slice A1 l1.length c1, .string a2] w fun e w' => e = .returned (.int .i64 r) ∧ Below w.heap.size w w' := by
  have hu55 := Try.underlying55
  have hu47 := Try.underlying47
  have HR0 := Aside0.mk hr0
  have HC0 := Aside0.mk hc0
  clear hr0 hc0
  have HR1 := Aside0.mk hr1
  have HC1 := Aside0.mk hc1
  clear hr1 hc1
  have HB := Aside0.mk (Below.refl w.heap.size w)
  have H : ((member_Check.f l1).bind fun t129 => (if t129 = 0 then ((member_Find.f l1 a2).bind fun bt130 => (if bt130.2.2.2 = true then (if (l0.length : Int) > 1024 then (some 8) else (port_Check.l0 k l1 a2 l0 (l0.length : Int) 0)) else (some 20))) else (some t129))) = some r := h
  clear h
  replace H := Option.bind_eq_some_iff.mp H
  obtain ⟨t129, A40, H⟩ := H
  replace H : (if t129 = 0 then ((member_Find.f l1 a2).bind fun bt130 => (if bt130.2.2.2 = true then (if (l0.length : Int) > 1024 then (some 8) else (port_Check.l0 k l1 a2 l0 (l0.length : Int) 0)) else (some 20))) else (some t129)) = some r := H
  have A4 := Aside0.mk A40
  clear A40
  by_cases c5 : t129 = 0
  · rw [if_pos c5] at H
    have c5b0 : (t129 == 0) = true := beq_iff_eq.mpr c5
    have c5b1 : (t129 != 0) = false := bne_eq_false_iff_eq.mpr c5
    clear c5
    replace H := Option.bind_eq_some_iff.mp H
    obtain ⟨⟨t130, t131, t132, t135⟩, A60, H⟩ := H
    replace H : (if t135 = true then (if (l0.length : Int) > 1024 then (some 8) else (port_Check.l0 k l1 a2 l0 (l0.length : Int) 0)) else (some 20)) = some r := H
    have A6 := Aside0.mk A60
    clear A60
    by_cases c7 : t135 = true
    · subst c7
      have H1 : (if (l0.length : Int) > 1024 then (some 8) else (port_Check.l0 k l1 a2 l0 (l0.length : Int) 0)) = some r := by rw [if_pos rfl] at H; exact H
      clear H
      have H := H1
      clear H1
      by_cases c8 : (l0.length : Int) > 1024
      · rw [if_pos c8] at H
        have c8b0 : decide (1024 < (l0.length : Int)) = true := decide_eq_true c8
        have c8b1 : decide (1024 < l0.length) = true := decide_eq_true (by omega)
        clear c8
        obtain rfl := Option.some.inj H
        go_enter Try.func13, Try.ntmps13
        go_wp2_with (first | ((with_reducible refine gate_callee (f := 25) rfl ?_); refine goesL_ (some 12) rfl rfl Try.func25 (by kernel_rfl) rfl #[.slice A1 l1.length c1] rfl (by (try simp only [List.map_toArray, List.map_cons, List.map_nil]); first | done | rfl | (simp only [List.length_drop, List.length_take]; rfl)) ?_; (with_reducible refine (member_Check.calls _ _ l1 t129 _ ?side1 ?side2 A4.out).mono ?_); (case side1 => repeat (first | exact HR1.out | (with_reducible refine Kd.C_alloc ?_ _) | (with_reducible refine Kd.C_drewN ?_ _) | (with_reducible refine Kd.C_drew ?_))); (case side2 => exact HC1.out); rintro e w9 ⟨rfl, hb⟩; refine ⟨_, rfl, ?_⟩; have n0_ := Aside0.mk (below_step (by repeat (first | (with_reducible first | exact HB.out | apply below_alloc | apply pw_below_drewN | apply below_drew1) | exact HB.out)) hb); clear HB; have HB := n0_; clear n0_; (try clear hb); (try clear hb2); (try clear hk); (try clear hi)) | ((with_reducible refine gate_callee (f := 26) rfl ?_); refine goesL_ (some 19) rfl rfl Try.func26 (by kernel_rfl) rfl #[.slice A1 l1.length c1, .string a2] rfl (by (try simp only [List.map_toArray, List.map_cons, List.map_nil]); first | done | rfl | (simp only [List.length_drop, List.length_take]; rfl)) ?_; (with_reducible refine (member_Find.calls _ _ l1 a2 t130 t131 t132 true _ ?side1 ?side2 A6.out).mono ?_); (case side1 => repeat (first | exact (Kd.C_below HR1.out HB.out) | (with_reducible refine Kd.C_alloc ?_ _) | (with_reducible refine Kd.C_drewN ?_ _) | (with_reducible refine Kd.C_drew ?_))); (case side2 => exact HC1.out); rintro e w10 ⟨v133, rfl, ho0, hb⟩; refine ⟨_, rfl, ?_⟩; have n0_ := Aside0.mk (Kd.R_lower ho0 (below_size (by repeat (first | (with_reducible first | exact HB.out | apply below_alloc | apply pw_below_drewN | apply below_drew1) | exact HB.out)))); have n1_ := Aside0.mk (below_step (by repeat (first | (with_reducible first | exact HB.out | apply below_alloc | apply pw_below_drewN | apply below_drew1) | exact HB.out)) hb); clear HB; have HO134 := n0_; have HB := n1_; clear n0_ n1_; (try clear hb); (try clear hb2); (try clear hk); (try clear hi); (try clear ho0)) | ((with_reducible refine gate_dst (N := 7) rfl ?_); refine box_event ?hg (N := 7) ?hd (cs := #[.string (⟨#[]⟩ : ByteArray), .int .i64 0, .slice none 0 0]) (t := 55) ?hr ?_; (case hd => rfl); (case hg => rfl); (case hr => first | (go_simp; done) | (go_simp; rfl)); intro gb136 hg w11 hbox hb; have n0_ := Aside0.mk (Kd.R_below (by (with_reducible repeat (first | apply Kd.R_alloc | apply Kd.R_drewN | apply Kd.R_drew)); exact HO134.out) hb); have n1_ := Aside0.mk (below_step (by repeat (first | (with_reducible first | exact HB.out | apply below_alloc | apply pw_below_drewN | apply below_drew1) | exact HB.out)) hb); have n2_ := Aside0.mk (hbox); have n3_ := Aside0.mk ((by rw [hg]; exact (below_size (by repeat (first | (with_reducible first | exact HB.out | apply below_alloc | apply pw_below_drewN | apply below_drew1) | exact HB.out))) : w.heap.size ≤ gb136)); have n4_ := Aside0.mk ((by rw [hg]; exact (below_size (by repeat (first | (with_reducible first | exact HB.out | apply below_alloc | apply pw_below_drewN | apply below_drew1) | exact HB.out))) : w.heap.size ≤ gb136)); clear HO134; clear HB; have HO134 := n0_; have HB := n1_; have BK136 := n2_; have GW136 := n3_; have GE136 := n4_; clear n0_ n1_ n2_ n3_ n4_; clear hb hbox hg; have hcz12_0 : w11.cell? ⟨gb136, 0, none⟩ = some (.string (⟨#[]⟩ : ByteArray)) := (blk_cell BK136.out 0).trans rfl; have hcz12_1 : w11.cell? ⟨gb136, 1, none⟩ = some (.int .i64 0) := (blk_cell BK136.out 1).trans rfl; have hcz12_2 : w11.cell? ⟨gb136, 2, none⟩ = some (.slice none 0 0) := (blk_cell BK136.out 2).trans rfl; have hfz12_0 := blk_frozen BK136.out 0; have hfz12_1 := blk_frozen BK136.out 1; have hfz12_2 := blk_frozen BK136.out 2; obtain ⟨Ao13, co13, eo13⟩ := Kd.R_slice HO134.out; subst eo13))
        go_ret
        exact ⟨by first | rfl | (simp [errW_none, errW_some] <;> rfl) | (simp [*, errW_none, errW_some] <;> rfl), by repeat (first | (with_reducible first | exact HB.out | apply below_alloc | apply pw_below_drewN | apply below_drew1 | refine below_set ?_ GE136.out) | exact HB.out)⟩
      · rw [if_neg c8] at H
        have c8b0 : decide (1024 < (l0.length : Int)) = false := decide_eq_false c8
        have c8b1 : decide (1024 < l0.length) = false := decide_eq_false (by omega)
        clear c8
        have H' := Aside0.mk H
        clear H
        go_enter Try.func13, Try.ntmps13
        go_wp2_with (first | ((with_reducible refine gate_callee (f := 25) rfl ?_); refine goesL_ (some 12) rfl rfl Try.func25 (by kernel_rfl) rfl #[.slice A1 l1.length c1] rfl (by (try simp only [List.map_toArray, List.map_cons, List.map_nil]); first | done | rfl | (simp only [List.length_drop, List.length_take]; rfl)) ?_; (with_reducible refine (member_Check.calls _ _ l1 t129 _ ?side1 ?side2 A4.out).mono ?_); (case side1 => repeat (first | exact HR1.out | (with_reducible refine Kd.C_alloc ?_ _) | (with_reducible refine Kd.C_drewN ?_ _) | (with_reducible refine Kd.C_drew ?_))); (case side2 => exact HC1.out); rintro e w14 ⟨rfl, hb⟩; refine ⟨_, rfl, ?_⟩; have n0_ := Aside0.mk (below_step (by repeat (first | (with_reducible first | exact HB.out | apply below_alloc | apply pw_below_drewN | apply below_drew1) | exact HB.out)) hb); clear HB; have HB := n0_; clear n0_; (try clear hb); (try clear hb2); (try clear hk); (try clear hi)) | ((with_reducible refine gate_callee (f := 26) rfl ?_); refine goesL_ (some 19) rfl rfl Try.func26 (by kernel_rfl) rfl #[.slice A1 l1.length c1, .string a2] rfl (by (try simp only [List.map_toArray, List.map_cons, List.map_nil]); first | done | rfl | (simp only [List.length_drop, List.length_take]; rfl)) ?_; (with_reducible refine (member_Find.calls _ _ l1 a2 t130 t131 t132 true _ ?side1 ?side2 A6.out).mono ?_); (case side1 => repeat (first | exact (Kd.C_below HR1.out HB.out) | (with_reducible refine Kd.C_alloc ?_ _) | (with_reducible refine Kd.C_drewN ?_ _) | (with_reducible refine Kd.C_drew ?_))); (case side2 => exact HC1.out); rintro e w15 ⟨v133, rfl, ho0, hb⟩; refine ⟨_, rfl, ?_⟩; have n0_ := Aside0.mk (Kd.R_lower ho0 (below_size (by repeat (first | (with_reducible first | exact HB.out | apply below_alloc | apply pw_below_drewN | apply below_drew1) | exact HB.out)))); have n1_ := Aside0.mk (below_step (by repeat (first | (with_reducible first | exact HB.out | apply below_alloc | apply pw_below_drewN | apply below_drew1) | exact HB.out)) hb); clear HB; have HO134 := n0_; have HB := n1_; clear n0_ n1_; (try clear hb); (try clear hb2); (try clear hk); (try clear hi); (try clear ho0)) | ((with_reducible refine gate_dst (N := 7) rfl ?_); refine box_event ?hg (N := 7) ?hd (cs := #[.string (⟨#[]⟩ : ByteArray), .int .i64 0, .slice none 0 0]) (t := 55) ?hr ?_; (case hd => rfl); (case hg => rfl); (case hr => first | (go_simp; done) | (go_simp; rfl)); intro gb136 hg w16 hbox hb; have n0_ := Aside0.mk (Kd.R_below (by (with_reducible repeat (first | apply Kd.R_alloc | apply Kd.R_drewN | apply Kd.R_drew)); exact HO134.out) hb); have n1_ := Aside0.mk (below_step (by repeat (first | (with_reducible first | exact HB.out | apply below_alloc | apply pw_below_drewN | apply below_drew1) | exact HB.out)) hb); have n2_ := Aside0.mk (hbox); have n3_ := Aside0.mk ((by rw [hg]; exact (below_size (by repeat (first | (with_reducible first | exact HB.out | apply below_alloc | apply pw_below_drewN | apply below_drew1) | exact HB.out))) : w.heap.size ≤ gb136)); have n4_ := Aside0.mk ((by rw [hg]; exact (below_size (by repeat (first | (with_reducible first | exact HB.out | apply below_alloc | apply pw_below_drewN | apply below_drew1) | exact HB.out))) : w.heap.size ≤ gb136)); clear HO134; clear HB; have HO134 := n0_; have HB := n1_; have BK136 := n2_; have GW136 := n3_; have GE136 := n4_; clear n0_ n1_ n2_ n3_ n4_; clear hb hbox hg; have hcz17_0 : w16.cell? ⟨gb136, 0, none⟩ = some (.string (⟨#[]⟩ : ByteArray)) := (blk_cell BK136.out 0).trans rfl; have hcz17_1 : w16.cell? ⟨gb136, 1, none⟩ = some (.int .i64 0) := (blk_cell BK136.out 1).trans rfl; have hcz17_2 : w16.cell? ⟨gb136, 2, none⟩ = some (.slice none 0 0) := (blk_cell BK136.out 2).trans rfl; have hfz17_0 := blk_frozen BK136.out 0; have hfz17_1 := blk_frozen BK136.out 1; have hfz17_2 := blk_frozen BK136.out 2; obtain ⟨Ao18, co18, eo18⟩ := Kd.R_slice HO134.out; subst eo18))
        go_loopg [29] k (fun kq v29 w' => ∃ (x29_1 : Int), v29 = .int .i64 x29_1 ∧ Aside0 (port_Check.l0 kq l1 a2 l0 (l0.length : Int) x29_1 = some r) ∧ Aside0 (kq ≤ k) ∧ Aside0 (Kd.R k61 61 w' w.heap.size (fun _ => True) (.slice Ao18 t132.length co18) t132) ∧ Aside0 (w'.heap[gb136]? = some (.cells #[.string t130, .int .i64 t131, (.slice Ao18 t132.length co18)] 55 (0, 0))) ∧ Aside0 (Below w.heap.size w w'))
        case atStart => exact ⟨(0), (by first | rfl | (simp; done) | (simp [*]; done)), H', ⟨Nat.le_refl _⟩, ⟨by (with_reducible repeat (first | apply Kd.R_alloc | apply Kd.R_drewN | apply Kd.R_drew)); exact Kd.R_mono (Kd.R_far (p := ⟨gb136, 2, none⟩) (Kd.R_far (p := ⟨gb136, 1, none⟩) (Kd.R_far (p := ⟨gb136, 0, none⟩) (Kd.R_types HO134.out BK136.out (by decide)) (fun _ hk => hk.2) (.string t130)) (fun _ hk => hk.2) (.int .i64 t131)) (fun _ hk => hk.2) (.slice Ao18 t132.length co18)) (fun _ hk => trivial)⟩, ⟨by (with_reducible repeat (first | refine blk_drewN ?_ _ | refine blk_drew ?_ | refine blk_alloc ?_ _)); refine blk_put (cs := #[.string t130, .int .i64 t131, .slice none 0 0]) ?_ 2 _ rfl; (with_reducible repeat (first | refine blk_drewN ?_ _ | refine blk_drew ?_ | refine blk_alloc ?_ _)); refine blk_put (cs := #[.string t130, .int .i64 0, .slice none 0 0]) ?_ 1 _ rfl; (with_reducible repeat (first | refine blk_drewN ?_ _ | refine blk_drew ?_ | refine blk_alloc ?_ _)); refine blk_put (cs := #[.string (⟨#[]⟩ : ByteArray), .int .i64 0, .slice none 0 0]) ?_ 0 _ rfl; (with_reducible repeat (first | refine blk_drewN ?_ _ | refine blk_drew ?_ | refine blk_alloc ?_ _)); exact BK136.out⟩, ⟨by repeat (first | (with_reducible first | exact HB.out | apply below_alloc | apply pw_below_drewN | apply below_drew1 | refine below_set ?_ GE136.out) | exact HB.out)⟩⟩
        case round =>
          clear H'
          try clear c1
          try clear c2
          try clear p2
          try clear c5
          try clear c5b0
          try clear c5b1
          try clear c7
          try clear c8
          try clear c8b0
          try clear c8b1
          try clear c13
          try clear hcz12_0
          try clear hcz12_1
          try clear hcz12_2
          try clear hcz17_0
          try clear hcz17_1
          try clear hcz17_2
          try clear hfz12_0
          try clear hfz12_1
          try clear hfz12_2
          try clear hfz17_0
          try clear hfz17_1
          try clear hfz17_2
          obtain ⟨x29_1, rfl, HA, HK1, HO_137002, BK136, HB⟩ := hrel
          cases gk with
          | zero => exact absurd HA.out (by simp [port_Check.l0])
          | succ k1 =>
            have H := HA.out
            clear HA
            simp only [port_Check.l0] at H
            by_cases c19 : x29_1 < (l0.length : Int)
            · rw [if_pos c19] at H
              have c19b0 : decide (x29_1 < (l0.length : Int)) = true := decide_eq_true c19
              clear c19
              by_cases c20 : 0 ≤ x29_1
              · rw [if_pos c20] at H
                have c20b0 : decide (0 ≤ x29_1) = true := decide_eq_true c20
                clear c20
                by_cases c21 : x29_1 < (l0.length : Int)
                · rw [if_pos c21] at H
                  have c21b0 : decide (x29_1 < (l0.length : Int)) = true := decide_eq_true c21
                  clear c21
                  replace H := Option.bind_eq_some_iff.mp H
                  obtain ⟨t139, A220, H⟩ := H
                  replace H : (if t139 = 0 then (port_Check.l0 k1 l1 a2 l0 (l0.length : Int) (wrap64 (x29_1 + 1))) else (some t139)) = some r := H
                  have A22 := Aside0.mk A220
                  clear A220
                  by_cases c23 : t139 = 0
                  · rw [if_pos c23] at H
                    have c23b0 : (t139 == 0) = true := beq_iff_eq.mpr c23
                    have c23b1 : (t139 != 0) = false := bne_eq_false_iff_eq.mpr c23
                    clear c23
                    have H' := Aside0.mk H
                    clear H
                    have p137 : 0 ≤ (x29_1 : Int) := of_decide_eq_true (by first | (with_reducible assumption) | assumption)
                    have q137 : x29_1 < (l0.length : Int) := of_decide_eq_true (by first | (with_reducible assumption) | assumption)
                    obtain ⟨ad137, e137, hx137_0, hx137_1, hx137_2, hx137_3, hx137_4⟩ := at_T47 HR0.out x29_1 p137 q137
                    cases e137
                    replace hx137_0 := (HB.out.cell (World.block_lt_of_cell? w _ hx137_0)).trans hx137_0
                    replace hx137_1 := (HB.out.cell (World.block_lt_of_cell? w _ hx137_1)).trans hx137_1
                    replace hx137_2 := (HB.out.cell (World.block_lt_of_cell? w _ hx137_2)).trans hx137_2
                    replace hx137_3 := (HB.out.cell (World.block_lt_of_cell? w _ hx137_3)).trans hx137_3
                    replace hx137_4 := (HB.out.cell (World.block_lt_of_cell? w _ hx137_4)).trans hx137_4
                    replace p137 := eq_true p137
                    replace q137 := eq_true q137
                    go_wp2_with (first | ((with_reducible refine gate_dst (N := 10) rfl ?_); refine box_event ?hg (N := 10) ?hd (cs := #[.string (⟨#[]⟩ : ByteArray), .string (⟨#[]⟩ : ByteArray), .string (⟨#[]⟩ : ByteArray), .string (⟨#[]⟩ : ByteArray), .int .i64 0]) (t := 47) ?hr ?_; (case hd => rfl); (case hg => rfl); (case hr => first | (go_simp; done) | (go_simp; rfl)); intro gb138 hg w24 hbox hb; have n0_ := Aside0.mk (Kd.R_below (by (with_reducible repeat (first | apply Kd.R_alloc | apply Kd.R_drewN | apply Kd.R_drew)); exact HO_137002.out) hb); have n1_ := Aside0.mk (blk_below (g := gb136) (o := .cells #[.string t130, .int .i64 t131, .slice Ao18 t132.length co18] 55 (0, 0)) (by (with_reducible repeat (first | refine blk_drewN ?_ _ | refine blk_drew ?_ | refine blk_alloc ?_ _)); exact BK136.out) hb); have n2_ := Aside0.mk (below_step (by repeat (first | (with_reducible first | exact HB.out | apply below_alloc | apply pw_below_drewN | apply below_drew1 | refine below_set ?_ GE136.out) | exact HB.out)) hb); have n3_ := Aside0.mk (hbox); have n4_ := Aside0.mk ((by rw [hg]; exact (below_size (by repeat (first | (with_reducible first | exact HB.out | apply below_alloc | apply pw_below_drewN | apply below_drew1 | refine below_set ?_ GE136.out) | exact HB.out))) : w.heap.size ≤ gb138)); have n5_ := Aside0.mk ((by rw [hg]; exact (below_size (by repeat (first | (with_reducible first | exact HB.out | apply below_alloc | apply pw_below_drewN | apply below_drew1 | refine below_set ?_ GE136.out) | exact HB.out))) : w.heap.size ≤ gb138)); have n6_ := Aside0.mk ((by rw [hg]; exact Nat.ne_of_lt (blk_lt (g := gb136) (o := .cells #[.string t130, .int .i64 t131, .slice Ao18 t132.length co18] 55 (0, 0)) (by (with_reducible repeat (first | refine blk_drewN ?_ _ | refine blk_drew ?_ | refine blk_alloc ?_ _)); exact BK136.out)) : gb136 ≠ gb138)); have n7_ := Aside0.mk ((by rw [hg]; exact Nat.ne_of_gt (blk_lt (g := gb136) (o := .cells #[.string t130, .int .i64 t131, .slice Ao18 t132.length co18] 55 (0, 0)) (by (with_reducible repeat (first | refine blk_drewN ?_ _ | refine blk_drew ?_ | refine blk_alloc ?_ _)); exact BK136.out)) : gb138 ≠ gb136)); clear HO_137002; clear BK136; clear HB; have HO_137002 := n0_; have BK136 := n1_; have HB := n2_; have BK138 := n3_; have GW138 := n4_; have GE138 := n5_; have NB136_138 := n6_; have NB138_136 := n7_; clear n0_ n1_ n2_ n3_ n4_ n5_ n6_ n7_; clear hb hbox hg; have hnb25 := NB138_136.out; have hnc25 := NB136_138.out; have hcz26_0 : w24.cell? ⟨gb138, 0, none⟩ = some (.string (⟨#[]⟩ : ByteArray)) := (blk_cell BK138.out 0).trans rfl; have hcz26_1 : w24.cell? ⟨gb138, 1, none⟩ = some (.string (⟨#[]⟩ : ByteArray)) := (blk_cell BK138.out 1).trans rfl; have hcz26_2 : w24.cell? ⟨gb138, 2, none⟩ = some (.string (⟨#[]⟩ : ByteArray)) := (blk_cell BK138.out 2).trans rfl; have hcz26_3 : w24.cell? ⟨gb138, 3, none⟩ = some (.string (⟨#[]⟩ : ByteArray)) := (blk_cell BK138.out 3).trans rfl; have hcz26_4 : w24.cell? ⟨gb138, 4, none⟩ = some (.int .i64 0) := (blk_cell BK138.out 4).trans rfl; have hfz26_0 := blk_frozen BK138.out 0; have hfz26_1 := blk_frozen BK138.out 1; have hfz26_2 := blk_frozen BK138.out 2; have hfz26_3 := blk_frozen BK138.out 3; have hfz26_4 := blk_frozen BK138.out 4) | ((with_reducible refine gate_callee (f := 27) rfl ?_); refine goesL_ (some 36) rfl rfl Try.func27 (by kernel_rfl) rfl #[.agg #[.string ((rd_T47 l0 x29_1).f0.f0), .string ((rd_T47 l0 x29_1).f0.f1), .string ((rd_T47 l0 x29_1).f1.f0), .string ((rd_T47 l0 x29_1).f1.f1), .int .i64 ((rd_T47 l0 x29_1).f2)], .slice A1 l1.length c1, .string a2] rfl (by (try simp only [List.map_toArray, List.map_cons, List.map_nil]); first | done | rfl | (simp only [List.length_drop, List.length_take]; rfl)) ?_; (with_reducible refine (port_one.calls k1 ((rd_T47 l0 x29_1).f0.f0) ((rd_T47 l0 x29_1).f0.f1) ((rd_T47 l0 x29_1).f1.f0) ((rd_T47 l0 x29_1).f1.f1) ((rd_T47 l0 x29_1).f2) _ _ l1 a2 t139 _ ?side1 ?side2 A22.out).mono ?_); (case side1 => exact Kd.C_below HR1.out (by repeat (first | (with_reducible first | exact HB.out | apply below_alloc | apply pw_below_drewN | apply below_drew1 | refine below_set ?_ GE136.out | refine below_set ?_ GE138.out) | exact HB.out))); (case side2 => exact HC1.out); rintro e w27 ⟨rfl, hb⟩; refine ⟨_, rfl, ?_⟩; have n0_ := Aside0.mk (Kd.R_below (by (with_reducible repeat (first | apply Kd.R_alloc | apply Kd.R_drewN | apply Kd.R_drew)); exact (Kd.R_mono (Kd.R_far (p := ⟨gb138, 4, none⟩) (Kd.R_far (p := ⟨gb138, 3, none⟩) (Kd.R_far (p := ⟨gb138, 2, none⟩) (Kd.R_far (p := ⟨gb138, 1, none⟩) (Kd.R_far (p := ⟨gb138, 0, none⟩) (Kd.R_types HO_137002.out BK138.out (by decide)) (fun _ hk => hk.2) (.string ((rd_T47 l0 x29_1).f0.f0))) (fun _ hk => hk.2) (.string ((rd_T47 l0 x29_1).f0.f1))) (fun _ hk => hk.2) (.string ((rd_T47 l0 x29_1).f1.f0))) (fun _ hk => hk.2) (.string ((rd_T47 l0 x29_1).f1.f1))) (fun _ hk => hk.2) (.int .i64 ((rd_T47 l0 x29_1).f2))) (fun _ h_ => h_.1))) hb); have n1_ := Aside0.mk (blk_below (g := gb136) (o := .cells #[.string t130, .int .i64 t131, .slice Ao18 t132.length co18] 55 (0, 0)) (by (with_reducible repeat (first | refine blk_drewN ?_ _ | refine blk_drew ?_ | refine blk_alloc ?_ _)); refine blk_far ?_ NB136_138.out _; (with_reducible repeat (first | refine blk_drewN ?_ _ | refine blk_drew ?_ | refine blk_alloc ?_ _)); refine blk_far ?_ NB136_138.out _; (with_reducible repeat (first | refine blk_drewN ?_ _ | refine blk_drew ?_ | refine blk_alloc ?_ _)); refine blk_far ?_ NB136_138.out _; (with_reducible repeat (first | refine blk_drewN ?_ _ | refine blk_drew ?_ | refine blk_alloc ?_ _)); refine blk_far ?_ NB136_138.out _; (with_reducible repeat (first | refine blk_drewN ?_ _ | refine blk_drew ?_ | refine blk_alloc ?_ _)); refine blk_far ?_ NB136_138.out _; (with_reducible repeat (first | refine blk_drewN ?_ _ | refine blk_drew ?_ | refine blk_alloc ?_ _)); exact BK136.out) hb); have n2_ := Aside0.mk (blk_below (g := gb138) (o := .cells #[.string ((rd_T47 l0 x29_1).f0.f0), .string ((rd_T47 l0 x29_1).f0.f1), .string ((rd_T47 l0 x29_1).f1.f0), .string ((rd_T47 l0 x29_1).f1.f1), .int .i64 ((rd_T47 l0 x29_1).f2)] 47 (0, 0)) (by (with_reducible repeat (first | refine blk_drewN ?_ _ | refine blk_drew ?_ | refine blk_alloc ?_ _)); refine blk_put (cs := #[.string ((rd_T47 l0 x29_1).f0.f0), .string ((rd_T47 l0 x29_1).f0.f1), .string ((rd_T47 l0 x29_1).f1.f0), .string ((rd_T47 l0 x29_1).f1.f1), .int .i64 0]) ?_ 4 _ rfl; (with_reducible repeat (first | refine blk_drewN ?_ _ | refine blk_drew ?_ | refine blk_alloc ?_ _)); refine blk_put (cs := #[.string ((rd_T47 l0 x29_1).f0.f0), .string ((rd_T47 l0 x29_1).f0.f1), .string ((rd_T47 l0 x29_1).f1.f0), .string (⟨#[]⟩ : ByteArray), .int .i64 0]) ?_ 3 _ rfl; (with_reducible repeat (first | refine blk_drewN ?_ _ | refine blk_drew ?_ | refine blk_alloc ?_ _)); refine blk_put (cs := #[.string ((rd_T47 l0 x29_1).f0.f0), .string ((rd_T47 l0 x29_1).f0.f1), .string (⟨#[]⟩ : ByteArray), .string (⟨#[]⟩ : ByteArray), .int .i64 0]) ?_ 2 _ rfl; (with_reducible repeat (first | refine blk_drewN ?_ _ | refine blk_drew ?_ | refine blk_alloc ?_ _)); refine blk_put (cs := #[.string ((rd_T47 l0 x29_1).f0.f0), .string (⟨#[]⟩ : ByteArray), .string (⟨#[]⟩ : ByteArray), .string (⟨#[]⟩ : ByteArray), .int .i64 0]) ?_ 1 _ rfl; (with_reducible repeat (first | refine blk_drewN ?_ _ | refine blk_drew ?_ | refine blk_alloc ?_ _)); refine blk_put (cs := #[.string (⟨#[]⟩ : ByteArray), .string (⟨#[]⟩ : ByteArray), .string (⟨#[]⟩ : ByteArray), .string (⟨#[]⟩ : ByteArray), .int .i64 0]) ?_ 0 _ rfl; (with_reducible repeat (first | refine blk_drewN ?_ _ | refine blk_drew ?_ | refine blk_alloc ?_ _)); exact BK138.out) hb); have n3_ := Aside0.mk (below_step (by repeat (first | (with_reducible first | exact HB.out | apply below_alloc | apply pw_below_drewN | apply below_drew1 | refine below_set ?_ GE136.out | refine below_set ?_ GE138.out) | exact HB.out)) hb); clear HO_137002; clear BK136; clear BK138; clear HB; have HO_137002 := n0_; have BK136 := n1_; have BK138 := n2_; have HB := n3_; clear n0_ n1_ n2_ n3_; (try clear hb); (try clear hb2); (try clear hk); (try clear hi)))
                    go_roundg k1
                    case measure => have := HK1.out; omega
                    case rel => exact ⟨(wrap64 (x29_1 + 1)), (by first | rfl | (simp; done) | (simp [*]; done)), H', ⟨by have := HK1.out; omega⟩, ⟨by (with_reducible repeat (first | apply Kd.R_alloc | apply Kd.R_drewN | apply Kd.R_drew)); exact HO_137002.out⟩, ⟨by (with_reducible repeat (first | refine blk_drewN ?_ _ | refine blk_drew ?_ | refine blk_alloc ?_ _)); exact BK136.out⟩, ⟨by repeat (first | (with_reducible first | exact HB.out | apply below_alloc | apply pw_below_drewN | apply below_drew1 | refine below_set ?_ GE136.out | refine below_set ?_ GE138.out) | exact HB.out)⟩⟩
                  · rw [if_neg c23] at H
                    have c23b0 : (t139 == 0) = false := beq_eq_false_iff_ne.mpr c23
                    have c23b1 : (t139 != 0) = true := bne_iff_ne.mpr c23
                    obtain rfl := Option.some.inj H
                    have p137 : 0 ≤ (x29_1 : Int) := of_decide_eq_true (by first | (with_reducible assumption) | assumption)
                    have q137 : x29_1 < (l0.length : Int) := of_decide_eq_true (by first | (with_reducible assumption) | assumption)
                    obtain ⟨ad137, e137, hx137_0, hx137_1, hx137_2, hx137_3, hx137_4⟩ := at_T47 HR0.out x29_1 p137 q137
                    cases e137
                    replace hx137_0 := (HB.out.cell (World.block_lt_of_cell? w _ hx137_0)).trans hx137_0
                    replace hx137_1 := (HB.out.cell (World.block_lt_of_cell? w _ hx137_1)).trans hx137_1
                    replace hx137_2 := (HB.out.cell (World.block_lt_of_cell? w _ hx137_2)).trans hx137_2
                    replace hx137_3 := (HB.out.cell (World.block_lt_of_cell? w _ hx137_3)).trans hx137_3
                    replace hx137_4 := (HB.out.cell (World.block_lt_of_cell? w _ hx137_4)).trans hx137_4
                    replace p137 := eq_true p137
                    replace q137 := eq_true q137
                    go_wp2_with (first | ((with_reducible refine gate_dst (N := 10) rfl ?_); refine box_event ?hg (N := 10) ?hd (cs := #[.string (⟨#[]⟩ : ByteArray), .string (⟨#[]⟩ : ByteArray), .string (⟨#[]⟩ : ByteArray), .string (⟨#[]⟩ : ByteArray), .int .i64 0]) (t := 47) ?hr ?_; (case hd => rfl); (case hg => rfl); (case hr => first | (go_simp; done) | (go_simp; rfl)); intro gb138 hg w28 hbox hb; have n0_ := Aside0.mk (Kd.R_below (by (with_reducible repeat (first | apply Kd.R_alloc | apply Kd.R_drewN | apply Kd.R_drew)); exact HO_137002.out) hb); have n1_ := Aside0.mk (blk_below (g := gb136) (o := .cells #[.string t130, .int .i64 t131, .slice Ao18 t132.length co18] 55 (0, 0)) (by (with_reducible repeat (first | refine blk_drewN ?_ _ | refine blk_drew ?_ | refine blk_alloc ?_ _)); exact BK136.out) hb); have n2_ := Aside0.mk (below_step (by repeat (first | (with_reducible first | exact HB.out | apply below_alloc | apply pw_below_drewN | apply below_drew1 | refine below_set ?_ GE136.out) | exact HB.out)) hb); have n3_ := Aside0.mk (hbox); have n4_ := Aside0.mk ((by rw [hg]; exact (below_size (by repeat (first | (with_reducible first | exact HB.out | apply below_alloc | apply pw_below_drewN | apply below_drew1 | refine below_set ?_ GE136.out) | exact HB.out))) : w.heap.size ≤ gb138)); have n5_ := Aside0.mk ((by rw [hg]; exact (below_size (by repeat (first | (with_reducible first | exact HB.out | apply below_alloc | apply pw_below_drewN | apply below_drew1 | refine below_set ?_ GE136.out) | exact HB.out))) : w.heap.size ≤ gb138)); have n6_ := Aside0.mk ((by rw [hg]; exact Nat.ne_of_lt (blk_lt (g := gb136) (o := .cells #[.string t130, .int .i64 t131, .slice Ao18 t132.length co18] 55 (0, 0)) (by (with_reducible repeat (first | refine blk_drewN ?_ _ | refine blk_drew ?_ | refine blk_alloc ?_ _)); exact BK136.out)) : gb136 ≠ gb138)); have n7_ := Aside0.mk ((by rw [hg]; exact Nat.ne_of_gt (blk_lt (g := gb136) (o := .cells #[.string t130, .int .i64 t131, .slice Ao18 t132.length co18] 55 (0, 0)) (by (with_reducible repeat (first | refine blk_drewN ?_ _ | refine blk_drew ?_ | refine blk_alloc ?_ _)); exact BK136.out)) : gb138 ≠ gb136)); clear HO_137002; clear BK136; clear HB; have HO_137002 := n0_; have BK136 := n1_; have HB := n2_; have BK138 := n3_; have GW138 := n4_; have GE138 := n5_; have NB136_138 := n6_; have NB138_136 := n7_; clear n0_ n1_ n2_ n3_ n4_ n5_ n6_ n7_; clear hb hbox hg; have hnb29 := NB138_136.out; have hnc29 := NB136_138.out; have hcz30_0 : w28.cell? ⟨gb138, 0, none⟩ = some (.string (⟨#[]⟩ : ByteArray)) := (blk_cell BK138.out 0).trans rfl; have hcz30_1 : w28.cell? ⟨gb138, 1, none⟩ = some (.string (⟨#[]⟩ : ByteArray)) := (blk_cell BK138.out 1).trans rfl; have hcz30_2 : w28.cell? ⟨gb138, 2, none⟩ = some (.string (⟨#[]⟩ : ByteArray)) := (blk_cell BK138.out 2).trans rfl; have hcz30_3 : w28.cell? ⟨gb138, 3, none⟩ = some (.string (⟨#[]⟩ : ByteArray)) := (blk_cell BK138.out 3).trans rfl; have hcz30_4 : w28.cell? ⟨gb138, 4, none⟩ = some (.int .i64 0) := (blk_cell BK138.out 4).trans rfl; have hfz30_0 := blk_frozen BK138.out 0; have hfz30_1 := blk_frozen BK138.out 1; have hfz30_2 := blk_frozen BK138.out 2; have hfz30_3 := blk_frozen BK138.out 3; have hfz30_4 := blk_frozen BK138.out 4) | ((with_reducible refine gate_callee (f := 27) rfl ?_); refine goesL_ (some 36) rfl rfl Try.func27 (by kernel_rfl) rfl #[.agg #[.string ((rd_T47 l0 x29_1).f0.f0), .string ((rd_T47 l0 x29_1).f0.f1), .string ((rd_T47 l0 x29_1).f1.f0), .string ((rd_T47 l0 x29_1).f1.f1), .int .i64 ((rd_T47 l0 x29_1).f2)], .slice A1 l1.length c1, .string a2] rfl (by (try simp only [List.map_toArray, List.map_cons, List.map_nil]); first | done | rfl | (simp only [List.length_drop, List.length_take]; rfl)) ?_; (with_reducible refine (port_one.calls k1 ((rd_T47 l0 x29_1).f0.f0) ((rd_T47 l0 x29_1).f0.f1) ((rd_T47 l0 x29_1).f1.f0) ((rd_T47 l0 x29_1).f1.f1) ((rd_T47 l0 x29_1).f2) _ _ l1 a2 t139 _ ?side1 ?side2 A22.out).mono ?_); (case side1 => exact Kd.C_below HR1.out (by repeat (first | (with_reducible first | exact HB.out | apply below_alloc | apply pw_below_drewN | apply below_drew1 | refine below_set ?_ GE136.out | refine below_set ?_ GE138.out) | exact HB.out))); (case side2 => exact HC1.out); rintro e w31 ⟨rfl, hb⟩; refine ⟨_, rfl, ?_⟩; have n0_ := Aside0.mk (Kd.R_below (by (with_reducible repeat (first | apply Kd.R_alloc | apply Kd.R_drewN | apply Kd.R_drew)); exact (Kd.R_mono (Kd.R_far (p := ⟨gb138, 4, none⟩) (Kd.R_far (p := ⟨gb138, 3, none⟩) (Kd.R_far (p := ⟨gb138, 2, none⟩) (Kd.R_far (p := ⟨gb138, 1, none⟩) (Kd.R_far (p := ⟨gb138, 0, none⟩) (Kd.R_types HO_137002.out BK138.out (by decide)) (fun _ hk => hk.2) (.string ((rd_T47 l0 x29_1).f0.f0))) (fun _ hk => hk.2) (.string ((rd_T47 l0 x29_1).f0.f1))) (fun _ hk => hk.2) (.string ((rd_T47 l0 x29_1).f1.f0))) (fun _ hk => hk.2) (.string ((rd_T47 l0 x29_1).f1.f1))) (fun _ hk => hk.2) (.int .i64 ((rd_T47 l0 x29_1).f2))) (fun _ h_ => h_.1))) hb); have n1_ := Aside0.mk (blk_below (g := gb136) (o := .cells #[.string t130, .int .i64 t131, .slice Ao18 t132.length co18] 55 (0, 0)) (by (with_reducible repeat (first | refine blk_drewN ?_ _ | refine blk_drew ?_ | refine blk_alloc ?_ _)); refine blk_far ?_ NB136_138.out _; (with_reducible repeat (first | refine blk_drewN ?_ _ | refine blk_drew ?_ | refine blk_alloc ?_ _)); refine blk_far ?_ NB136_138.out _; (with_reducible repeat (first | refine blk_drewN ?_ _ | refine blk_drew ?_ | refine blk_alloc ?_ _)); refine blk_far ?_ NB136_138.out _; (with_reducible repeat (first | refine blk_drewN ?_ _ | refine blk_drew ?_ | refine blk_alloc ?_ _)); refine blk_far ?_ NB136_138.out _; (with_reducible repeat (first | refine blk_drewN ?_ _ | refine blk_drew ?_ | refine blk_alloc ?_ _)); refine blk_far ?_ NB136_138.out _; (with_reducible repeat (first | refine blk_drewN ?_ _ | refine blk_drew ?_ | refine blk_alloc ?_ _)); exact BK136.out) hb); have n2_ := Aside0.mk (blk_below (g := gb138) (o := .cells #[.string ((rd_T47 l0 x29_1).f0.f0), .string ((rd_T47 l0 x29_1).f0.f1), .string ((rd_T47 l0 x29_1).f1.f0), .string ((rd_T47 l0 x29_1).f1.f1), .int .i64 ((rd_T47 l0 x29_1).f2)] 47 (0, 0)) (by (with_reducible repeat (first | refine blk_drewN ?_ _ | refine blk_drew ?_ | refine blk_alloc ?_ _)); refine blk_put (cs := #[.string ((rd_T47 l0 x29_1).f0.f0), .string ((rd_T47 l0 x29_1).f0.f1), .string ((rd_T47 l0 x29_1).f1.f0), .string ((rd_T47 l0 x29_1).f1.f1), .int .i64 0]) ?_ 4 _ rfl; (with_reducible repeat (first | refine blk_drewN ?_ _ | refine blk_drew ?_ | refine blk_alloc ?_ _)); refine blk_put (cs := #[.string ((rd_T47 l0 x29_1).f0.f0), .string ((rd_T47 l0 x29_1).f0.f1), .string ((rd_T47 l0 x29_1).f1.f0), .string (⟨#[]⟩ : ByteArray), .int .i64 0]) ?_ 3 _ rfl; (with_reducible repeat (first | refine blk_drewN ?_ _ | refine blk_drew ?_ | refine blk_alloc ?_ _)); refine blk_put (cs := #[.string ((rd_T47 l0 x29_1).f0.f0), .string ((rd_T47 l0 x29_1).f0.f1), .string (⟨#[]⟩ : ByteArray), .string (⟨#[]⟩ : ByteArray), .int .i64 0]) ?_ 2 _ rfl; (with_reducible repeat (first | refine blk_drewN ?_ _ | refine blk_drew ?_ | refine blk_alloc ?_ _)); refine blk_put (cs := #[.string ((rd_T47 l0 x29_1).f0.f0), .string (⟨#[]⟩ : ByteArray), .string (⟨#[]⟩ : ByteArray), .string (⟨#[]⟩ : ByteArray), .int .i64 0]) ?_ 1 _ rfl; (with_reducible repeat (first | refine blk_drewN ?_ _ | refine blk_drew ?_ | refine blk_alloc ?_ _)); refine blk_put (cs := #[.string (⟨#[]⟩ : ByteArray), .string (⟨#[]⟩ : ByteArray), .string (⟨#[]⟩ : ByteArray), .string (⟨#[]⟩ : ByteArray), .int .i64 0]) ?_ 0 _ rfl; (with_reducible repeat (first | refine blk_drewN ?_ _ | refine blk_drew ?_ | refine blk_alloc ?_ _)); exact BK138.out) hb); have n3_ := Aside0.mk (below_step (by repeat (first | (with_reducible first | exact HB.out | apply below_alloc | apply pw_below_drewN | apply below_drew1 | refine below_set ?_ GE136.out | refine below_set ?_ GE138.out) | exact HB.out)) hb); clear HO_137002; clear BK136; clear BK138; clear HB; have HO_137002 := n0_; have BK136 := n1_; have BK138 := n2_; have HB := n3_; clear n0_ n1_ n2_ n3_; (try clear hb); (try clear hb2); (try clear hk); (try clear hi)))
                    go_ret
                    exact ⟨by first | rfl | (simp [errW_none, errW_some] <;> rfl) | (simp [*, errW_none, errW_some] <;> rfl), by repeat (first | (with_reducible first | exact HB.out | apply below_alloc | apply pw_below_drewN | apply below_drew1 | refine below_set ?_ GE136.out | refine below_set ?_ GE138.out) | exact HB.out)⟩
                · rw [if_neg c21] at H
                  exact absurd H (by simp)
              · rw [if_neg c20] at H
                exact absurd H (by simp)
            · rw [if_neg c19] at H
              have c19b0 : decide (x29_1 < (l0.length : Int)) = false := decide_eq_false c19
              clear c19
              obtain rfl := Option.some.inj H
              go_wp2
              go_ret
              exact ⟨by first | rfl | (simp [errW_none, errW_some] <;> rfl) | (simp [*, errW_none, errW_some] <;> rfl), by repeat (first | (with_reducible first | exact HB.out | apply below_alloc | apply pw_below_drewN | apply below_drew1 | refine below_set ?_ GE136.out) | exact HB.out)⟩
    · replace c7 := Bool.eq_false_iff.mpr c7
      subst c7
      have H1 : (some 20) = some r := by rw [if_neg (show ¬ (false = true) by decide)] at H; exact H
      clear H
      have H := H1
      clear H1
      obtain rfl := Option.some.inj H
      go_enter Try.func13, Try.ntmps13
      go_wp2_with (first | ((with_reducible refine gate_callee (f := 25) rfl ?_); refine goesL_ (some 12) rfl rfl Try.func25 (by kernel_rfl) rfl #[.slice A1 l1.length c1] rfl (by (try simp only [List.map_toArray, List.map_cons, List.map_nil]); first | done | rfl | (simp only [List.length_drop, List.length_take]; rfl)) ?_; (with_reducible refine (member_Check.calls _ _ l1 t129 _ ?side1 ?side2 A4.out).mono ?_); (case side1 => repeat (first | exact HR1.out | (with_reducible refine Kd.C_alloc ?_ _) | (with_reducible refine Kd.C_drewN ?_ _) | (with_reducible refine Kd.C_drew ?_))); (case side2 => exact HC1.out); rintro e w32 ⟨rfl, hb⟩; refine ⟨_, rfl, ?_⟩; have n0_ := Aside0.mk (below_step (by repeat (first | (with_reducible first | exact HB.out | apply below_alloc | apply pw_below_drewN | apply below_drew1) | exact HB.out)) hb); clear HB; have HB := n0_; clear n0_; (try clear hb); (try clear hb2); (try clear hk); (try clear hi)) | ((with_reducible refine gate_callee (f := 26) rfl ?_); refine goesL_ (some 19) rfl rfl Try.func26 (by kernel_rfl) rfl #[.slice A1 l1.length c1, .string a2] rfl (by (try simp only [List.map_toArray, List.map_cons, List.map_nil]); first | done | rfl | (simp only [List.length_drop, List.length_take]; rfl)) ?_; (with_reducible refine (member_Find.calls _ _ l1 a2 t130 t131 t132 false _ ?side1 ?side2 A6.out).mono ?_); (case side1 => repeat (first | exact (Kd.C_below HR1.out HB.out) | (with_reducible refine Kd.C_alloc ?_ _) | (with_reducible refine Kd.C_drewN ?_ _) | (with_reducible refine Kd.C_drew ?_))); (case side2 => exact HC1.out); rintro e w33 ⟨v133, rfl, ho0, hb⟩; refine ⟨_, rfl, ?_⟩; have n0_ := Aside0.mk (Kd.R_lower ho0 (below_size (by repeat (first | (with_reducible first | exact HB.out | apply below_alloc | apply pw_below_drewN | apply below_drew1) | exact HB.out)))); have n1_ := Aside0.mk (below_step (by repeat (first | (with_reducible first | exact HB.out | apply below_alloc | apply pw_below_drewN | apply below_drew1) | exact HB.out)) hb); clear HB; have HO134 := n0_; have HB := n1_; clear n0_ n1_; (try clear hb); (try clear hb2); (try clear hk); (try clear hi); (try clear ho0)) | ((with_reducible refine gate_dst (N := 7) rfl ?_); refine box_event ?hg (N := 7) ?hd (cs := #[.string (⟨#[]⟩ : ByteArray), .int .i64 0, .slice none 0 0]) (t := 55) ?hr ?_; (case hd => rfl); (case hg => rfl); (case hr => first | (go_simp; done) | (go_simp; rfl)); intro gb136 hg w34 hbox hb; have n0_ := Aside0.mk (Kd.R_below (by (with_reducible repeat (first | apply Kd.R_alloc | apply Kd.R_drewN | apply Kd.R_drew)); exact HO134.out) hb); have n1_ := Aside0.mk (below_step (by repeat (first | (with_reducible first | exact HB.out | apply below_alloc | apply pw_below_drewN | apply below_drew1) | exact HB.out)) hb); have n2_ := Aside0.mk (hbox); have n3_ := Aside0.mk ((by rw [hg]; exact (below_size (by repeat (first | (with_reducible first | exact HB.out | apply below_alloc | apply pw_below_drewN | apply below_drew1) | exact HB.out))) : w.heap.size ≤ gb136)); have n4_ := Aside0.mk ((by rw [hg]; exact (below_size (by repeat (first | (with_reducible first | exact HB.out | apply below_alloc | apply pw_below_drewN | apply below_drew1) | exact HB.out))) : w.heap.size ≤ gb136)); clear HO134; clear HB; have HO134 := n0_; have HB := n1_; have BK136 := n2_; have GW136 := n3_; have GE136 := n4_; clear n0_ n1_ n2_ n3_ n4_; clear hb hbox hg; have hcz35_0 : w34.cell? ⟨gb136, 0, none⟩ = some (.string (⟨#[]⟩ : ByteArray)) := (blk_cell BK136.out 0).trans rfl; have hcz35_1 : w34.cell? ⟨gb136, 1, none⟩ = some (.int .i64 0) := (blk_cell BK136.out 1).trans rfl; have hcz35_2 : w34.cell? ⟨gb136, 2, none⟩ = some (.slice none 0 0) := (blk_cell BK136.out 2).trans rfl; have hfz35_0 := blk_frozen BK136.out 0; have hfz35_1 := blk_frozen BK136.out 1; have hfz35_2 := blk_frozen BK136.out 2; obtain ⟨Ao36, co36, eo36⟩ := Kd.R_slice HO134.out; subst eo36))
      go_ret
      exact ⟨by first | rfl | (simp [errW_none, errW_some] <;> rfl) | (simp [*, errW_none, errW_some] <;> rfl), by repeat (first | (with_reducible first | exact HB.out | apply below_alloc | apply pw_below_drewN | apply below_drew1 | refine below_set ?_ GE136.out) | exact HB.out)⟩
  · rw [if_neg c5] at H
    have c5b0 : (t129 == 0) = false := beq_eq_false_iff_ne.mpr c5
    have c5b1 : (t129 != 0) = true := bne_iff_ne.mpr c5
    obtain rfl := Option.some.inj H
    go_enter Try.func13, Try.ntmps13
    go_wp2_with (first | ((with_reducible refine gate_callee (f := 25) rfl ?_); refine goesL_ (some 12) rfl rfl Try.func25 (by kernel_rfl) rfl #[.slice A1 l1.length c1] rfl (by (try simp only [List.map_toArray, List.map_cons, List.map_nil]); first | done | rfl | (simp only [List.length_drop, List.length_take]; rfl)) ?_; (with_reducible refine (member_Check.calls _ _ l1 t129 _ ?side1 ?side2 A4.out).mono ?_); (case side1 => repeat (first | exact HR1.out | (with_reducible refine Kd.C_alloc ?_ _) | (with_reducible refine Kd.C_drewN ?_ _) | (with_reducible refine Kd.C_drew ?_))); (case side2 => exact HC1.out); rintro e w37 ⟨rfl, hb⟩; refine ⟨_, rfl, ?_⟩; have n0_ := Aside0.mk (below_step (by repeat (first | (with_reducible first | exact HB.out | apply below_alloc | apply pw_below_drewN | apply below_drew1) | exact HB.out)) hb); clear HB; have HB := n0_; clear n0_; (try clear hb); (try clear hb2); (try clear hk); (try clear hi)))
    go_ret
    exact ⟨by first | rfl | (simp [errW_none, errW_some] <;> rfl) | (simp [*, errW_none, errW_some] <;> rfl), by repeat (first | (with_reducible first | exact HB.out | apply below_alloc | apply pw_below_drewN | apply below_drew1) | exact HB.out)⟩

/-! ### port_Clients: function 18 -/
def port_Clients.l0 : Nat → List (S45) → List (S61) → Int → Int → ByteArray → Int → List (S61) → Option ((List (S45)))
  | 0, _, _, _, _, _, _, _ => none
  | k + 1, x4, x16, x17, x18, x147000, x147001, x147002 => if x18 < x17 then (if 0 ≤ x18 then (if x18 < (x16.length : Int) then ((port_what.f ((rd_T61 x16 x18).f1)).bind fun t149 => (if t149 = 1 then (port_Clients.l0 k x4 x16 x17 (wrap64 (x18 + 1)) x147000 x147001 x147002) else (if x4.length < 4398046511104 then (port_Clients.l0 k (x4 ++ [(⟨x147000, (rd_T61 x16 x18).f0⟩ : S45)]) x16 x17 (wrap64 (x18 + 1)) x147000 x147001 x147002) else (none)))) else (none)) else (none)) else (some x4)
def port_Clients.f (k : Nat) (l0 : List (S55)) (a1 : ByteArray) : Option ((List (S45))) := (member_Find.f l0 a1).bind fun bt140 => (port_Clients.l0 k ([] : List (S45)) bt140.2.2.1 (bt140.2.2.1.length : Int) 0 bt140.1 bt140.2.1 bt140.2.2.1)
theorem port_Clients.mono_l : ∀ k, (∀ y0 y1 y2 y3 y4 y5 y6, LeO (port_Clients.l0 k y0 y1 y2 y3 y4 y5 y6) (port_Clients.l0 (k + 1) y0 y1 y2 y3 y4 y5 y6))
  | 0 => fun _ _ _ _ _ _ _ r h => by simp [port_Clients.l0] at h
  | k + 1 => by
    have ih0 := port_Clients.mono_l k
    · intro y0 y1 y2 y3 y4 y5 y6
      unfold port_Clients.l0
      repeat' first
      | (with_reducible exact ih0 _ _ _ _ _ _ _)
      | (with_reducible exact LeO.refl _)
      | (with_reducible exact LeO.none _)
      | (with_reducible refine LeO.ite ?_ ?_)
      | (with_reducible refine LeO.bind ?_ (fun _ => ?_))
      | exact ih0 _ _ _ _ _ _ _
      | exact LeO.none _
      | refine LeO.ite ?_ ?_
      | refine LeO.bind ?_ (fun _ => ?_)
theorem port_Clients.mono : ∀ a0 a1 k, LeO (port_Clients.f k a0 a1) (port_Clients.f (k + 1) a0 a1) := by
  intro a0 a1 k
  have ih0 := port_Clients.mono_l k
  unfold port_Clients.f
  repeat' first
      | (with_reducible exact ih0 _ _ _ _ _ _ _)
      | (with_reducible exact LeO.refl _)
      | (with_reducible exact LeO.none _)
      | (with_reducible refine LeO.ite ?_ ?_)
      | (with_reducible refine LeO.bind ?_ (fun _ => ?_))
      | exact ih0 _ _ _ _ _ _ _
      | exact LeO.none _
      | refine LeO.ite ?_ ?_
      | refine LeO.bind ?_ (fun _ => ?_)
set_option maxHeartbeats 8000000 in
set_option maxRecDepth 100000 in
theorem port_Clients.calls (k : Nat) (A0 : Option Addr) (c0 : Nat) (l0 : List (S55)) (a1 : ByteArray) (r : List (S45)) (w : World) (hr0 : Kd.C k55 w A0 l0.length l0) (hc0 : l0.length ≤ c0) (h : port_Clients.f k l0 a1 = some r) :
    Calls Try.prog 18 #[.slice A0 l0.length c0, .string a1] w fun e w' => ∃ v0_ : Value, e = .returned (v0_) ∧ Kd.R k45 45 w' w.heap.size (fun _ => True) v0_ r ∧ Below w.heap.size w w' := by
  have hu55 := Try.underlying55
  have hu61 := Try.underlying61
  have hu45 := Try.underlying45
  have HR0 := Aside0.mk hr0
  have HC0 := Aside0.mk hc0
  clear hr0 hc0
  have HB := Aside0.mk (Below.refl w.heap.size w)
  have H : ((member_Find.f l0 a1).bind fun bt140 => (port_Clients.l0 k ([] : List (S45)) bt140.2.2.1 (bt140.2.2.1.length : Int) 0 bt140.1 bt140.2.1 bt140.2.2.1)) = some r := h
  clear h
  replace H := Option.bind_eq_some_iff.mp H
  obtain ⟨⟨t140, t141, t142, t145⟩, A30, H⟩ := H
  replace H : (port_Clients.l0 k ([] : List (S45)) t142 (t142.length : Int) 0 t140 t141 t142) = some r := H
  have A3 := Aside0.mk A30
  clear A30
  have H' := Aside0.mk H
  clear H
  go_enter Try.func18, Try.ntmps18
  go_wp2_with (first | ((with_reducible refine gate_callee (f := 26) rfl ?_); refine goesL_ (some 12) rfl rfl Try.func26 (by kernel_rfl) rfl #[.slice A0 l0.length c0, .string a1] rfl (by (try simp only [List.map_toArray, List.map_cons, List.map_nil]); first | done | rfl | (simp only [List.length_drop, List.length_take]; rfl)) ?_; (with_reducible refine (member_Find.calls _ _ l0 a1 t140 t141 t142 t145 _ ?side1 ?side2 A3.out).mono ?_); (case side1 => repeat (first | exact HR0.out | (with_reducible refine Kd.C_alloc ?_ _) | (with_reducible refine Kd.C_drewN ?_ _) | (with_reducible refine Kd.C_drew ?_))); (case side2 => exact HC0.out); rintro e w4 ⟨v143, rfl, ho0, hb⟩; refine ⟨_, rfl, ?_⟩; have n0_ := Aside0.mk (Kd.R_lower ho0 (below_size (by repeat (first | (with_reducible first | exact HB.out | apply below_alloc | apply pw_below_drewN | apply below_drew1) | exact HB.out)))); have n1_ := Aside0.mk (below_step (by repeat (first | (with_reducible first | exact HB.out | apply below_alloc | apply pw_below_drewN | apply below_drew1) | exact HB.out)) hb); clear HB; have HO144 := n0_; have HB := n1_; clear n0_ n1_; (try clear hb); (try clear hb2); (try clear hk); (try clear hi); (try clear ho0)) | ((with_reducible refine gate_dst (N := 5) rfl ?_); refine box_event ?hg (N := 5) ?hd (cs := #[.string (⟨#[]⟩ : ByteArray), .int .i64 0, .slice none 0 0]) (t := 55) ?hr ?_; (case hd => rfl); (case hg => rfl); (case hr => first | (go_simp; done) | (go_simp; rfl)); intro gb146 hg w5 hbox hb; have n0_ := Aside0.mk (Kd.R_below (by (with_reducible repeat (first | apply Kd.R_alloc | apply Kd.R_drewN | apply Kd.R_drew)); exact HO144.out) hb); have n1_ := Aside0.mk (below_step (by repeat (first | (with_reducible first | exact HB.out | apply below_alloc | apply pw_below_drewN | apply below_drew1) | exact HB.out)) hb); have n2_ := Aside0.mk (hbox); have n3_ := Aside0.mk ((by rw [hg]; exact (below_size (by repeat (first | (with_reducible first | exact HB.out | apply below_alloc | apply pw_below_drewN | apply below_drew1) | exact HB.out))) : w.heap.size ≤ gb146)); have n4_ := Aside0.mk ((by rw [hg]; exact (below_size (by repeat (first | (with_reducible first | exact HB.out | apply below_alloc | apply pw_below_drewN | apply below_drew1) | exact HB.out))) : w.heap.size ≤ gb146)); clear HO144; clear HB; have HO144 := n0_; have HB := n1_; have BK146 := n2_; have GW146 := n3_; have GE146 := n4_; clear n0_ n1_ n2_ n3_ n4_; clear hb hbox hg; have hcz6_0 : w5.cell? ⟨gb146, 0, none⟩ = some (.string (⟨#[]⟩ : ByteArray)) := (blk_cell BK146.out 0).trans rfl; have hcz6_1 : w5.cell? ⟨gb146, 1, none⟩ = some (.int .i64 0) := (blk_cell BK146.out 1).trans rfl; have hcz6_2 : w5.cell? ⟨gb146, 2, none⟩ = some (.slice none 0 0) := (blk_cell BK146.out 2).trans rfl; have hfz6_0 := blk_frozen BK146.out 0; have hfz6_1 := blk_frozen BK146.out 1; have hfz6_2 := blk_frozen BK146.out 2; obtain ⟨Ao7, co7, eo7⟩ := Kd.R_slice HO144.out; subst eo7))
  go_loopg [4, 18] k (fun kq v4 v18 w' => ∃ (x4_1 : List (S45)) (x18_1 : Int), v18 = .int .i64 x18_1 ∧ Aside0 (port_Clients.l0 kq x4_1 t142 (t142.length : Int) x18_1 t140 t141 t142 = some r) ∧ Aside0 (kq ≤ k) ∧ Aside0 (Kd.R k45 45 w' w.heap.size (fun _ => True) v4 x4_1) ∧ Aside0 (Kd.R k61 61 w' w.heap.size (fun _ => True) (.slice Ao7 t142.length co7) t142) ∧ Aside0 (Kd.R k61 61 w' w.heap.size (fun _ => True) (.slice Ao7 t142.length co7) t142) ∧ Aside0 (w'.heap[gb146]? = some (.cells #[.string t140, .int .i64 t141, (.slice Ao7 t142.length co7)] 55 (0, 0))) ∧ Aside0 (Below w.heap.size w w'))
  case atStart => exact ⟨(([] : List (S45))), (0), (by first | rfl | (simp; done) | (simp [*]; done)), H', ⟨Nat.le_refl _⟩, ⟨by first | exact Kd.R_nil _ _ _ _ _ | exact Kd.N_nil _ _ _ _ _ | exact Kd.V_nil _ _ _ _ _ | exact Kd.Q_nil _ _ _ _ _ | exact Kd.S_nil _ _ _ _ _⟩, ⟨by (with_reducible repeat (first | apply Kd.R_alloc | apply Kd.R_drewN | apply Kd.R_drew)); exact Kd.R_mono (Kd.R_far (p := ⟨gb146, 2, none⟩) (Kd.R_far (p := ⟨gb146, 1, none⟩) (Kd.R_far (p := ⟨gb146, 0, none⟩) (Kd.R_types HO144.out BK146.out (by decide)) (fun _ hk => hk.2) (.string t140)) (fun _ hk => hk.2) (.int .i64 t141)) (fun _ hk => hk.2) (.slice Ao7 t142.length co7)) (fun _ hk => trivial)⟩, ⟨by (with_reducible repeat (first | apply Kd.R_alloc | apply Kd.R_drewN | apply Kd.R_drew)); exact Kd.R_mono (Kd.R_far (p := ⟨gb146, 2, none⟩) (Kd.R_far (p := ⟨gb146, 1, none⟩) (Kd.R_far (p := ⟨gb146, 0, none⟩) (Kd.R_types HO144.out BK146.out (by decide)) (fun _ hk => hk.2) (.string t140)) (fun _ hk => hk.2) (.int .i64 t141)) (fun _ hk => hk.2) (.slice Ao7 t142.length co7)) (fun _ hk => trivial)⟩, ⟨by (with_reducible repeat (first | refine blk_drewN ?_ _ | refine blk_drew ?_ | refine blk_alloc ?_ _)); refine blk_put (cs := #[.string t140, .int .i64 t141, .slice none 0 0]) ?_ 2 _ rfl; (with_reducible repeat (first | refine blk_drewN ?_ _ | refine blk_drew ?_ | refine blk_alloc ?_ _)); refine blk_put (cs := #[.string t140, .int .i64 0, .slice none 0 0]) ?_ 1 _ rfl; (with_reducible repeat (first | refine blk_drewN ?_ _ | refine blk_drew ?_ | refine blk_alloc ?_ _)); refine blk_put (cs := #[.string (⟨#[]⟩ : ByteArray), .int .i64 0, .slice none 0 0]) ?_ 0 _ rfl; (with_reducible repeat (first | refine blk_drewN ?_ _ | refine blk_drew ?_ | refine blk_alloc ?_ _)); exact BK146.out⟩, ⟨by repeat (first | (with_reducible first | exact HB.out | apply below_alloc | apply pw_below_drewN | apply below_drew1 | refine below_set ?_ GE146.out) | exact HB.out)⟩⟩
  case round =>
    clear H'
    try clear c1
    try clear c2
    try clear p2
    try clear hcz6_0
    try clear hcz6_1
    try clear hcz6_2
    try clear hfz6_0
    try clear hfz6_1
    try clear hfz6_2
    obtain ⟨x4_1, x18_1, rfl, HA, HK1, HO_4, HO_16, HO_147002, BK146, HB⟩ := hrel
    cases gk with
    | zero => exact absurd HA.out (by simp [port_Clients.l0])
    | succ k1 =>
      have H := HA.out
      clear HA
      simp only [port_Clients.l0] at H
      by_cases c8 : x18_1 < (t142.length : Int)
      · rw [if_pos c8] at H
        have c8b0 : decide (x18_1 < (t142.length : Int)) = true := decide_eq_true c8
        clear c8
        by_cases c9 : 0 ≤ x18_1
        · rw [if_pos c9] at H
          have c9b0 : decide (0 ≤ x18_1) = true := decide_eq_true c9
          clear c9
          by_cases c10 : x18_1 < (t142.length : Int)
          · rw [if_pos c10] at H
            have c10b0 : decide (x18_1 < (t142.length : Int)) = true := decide_eq_true c10
            clear c10
            replace H := Option.bind_eq_some_iff.mp H
            obtain ⟨t149, A110, H⟩ := H
            replace H : (if t149 = 1 then (port_Clients.l0 k1 x4_1 t142 (t142.length : Int) (wrap64 (x18_1 + 1)) t140 t141 t142) else (if x4_1.length < 4398046511104 then (port_Clients.l0 k1 (x4_1 ++ [(⟨t140, (rd_T61 t142 x18_1).f0⟩ : S45)]) t142 (t142.length : Int) (wrap64 (x18_1 + 1)) t140 t141 t142) else (none))) = some r := H
            have A11 := Aside0.mk A110
            clear A110
            by_cases c12 : t149 = 1
            · rw [if_pos c12] at H
              have c12b0 : (t149 == 1) = true := beq_iff_eq.mpr c12
              have c12b1 : (t149 != 1) = false := bne_eq_false_iff_eq.mpr c12
              clear c12
              have H' := Aside0.mk H
              clear H
              have p147 : 0 ≤ (x18_1 : Int) := of_decide_eq_true (by first | (with_reducible assumption) | assumption)
              have q147 : x18_1 < (t142.length : Int) := of_decide_eq_true (by first | (with_reducible assumption) | assumption)
              obtain ⟨ad147, e147, hx147_0, hx147_1⟩ := at_T61 (Kd.R_reads' HO_16.out).2.2 x18_1 p147 q147
              cases e147
              replace p147 := eq_true p147
              replace q147 := eq_true q147
              go_wp2_with (first | ((with_reducible refine gate_dst (N := 8) rfl ?_); refine box_event ?hg (N := 8) ?hd (cs := #[.string (⟨#[]⟩ : ByteArray), .int .i64 0]) (t := 61) ?hr ?_; (case hd => rfl); (case hg => rfl); (case hr => first | (go_simp; done) | (go_simp; rfl)); intro gb148 hg w13 hbox hb; have n0_ := Aside0.mk (Kd.R_below (by (with_reducible repeat (first | apply Kd.R_alloc | apply Kd.R_drewN | apply Kd.R_drew)); exact HO_4.out) hb); have n1_ := Aside0.mk (Kd.R_below (Kd.R_elderB (by (with_reducible repeat (first | apply Kd.R_alloc | apply Kd.R_drewN | apply Kd.R_drew)); exact HO_16.out) gb148 (Nat.le_of_eq hg.symm)) hb); have n2_ := Aside0.mk (Kd.R_below (Kd.R_elderB (by (with_reducible repeat (first | apply Kd.R_alloc | apply Kd.R_drewN | apply Kd.R_drew)); exact HO_147002.out) gb148 (Nat.le_of_eq hg.symm)) hb); have n3_ := Aside0.mk (blk_below (g := gb146) (o := .cells #[.string t140, .int .i64 t141, .slice (some ad147) t142.length co7] 55 (0, 0)) (by (with_reducible repeat (first | refine blk_drewN ?_ _ | refine blk_drew ?_ | refine blk_alloc ?_ _)); exact BK146.out) hb); have n4_ := Aside0.mk (below_step (by repeat (first | (with_reducible first | exact HB.out | apply below_alloc | apply pw_below_drewN | apply below_drew1 | refine below_set ?_ GE146.out) | exact HB.out)) hb); have n5_ := Aside0.mk (hbox); have n6_ := Aside0.mk ((by rw [hg]; exact (below_size (by repeat (first | (with_reducible first | exact HB.out | apply below_alloc | apply pw_below_drewN | apply below_drew1 | refine below_set ?_ GE146.out) | exact HB.out))) : w.heap.size ≤ gb148)); have n7_ := Aside0.mk ((by rw [hg]; exact (below_size (by repeat (first | (with_reducible first | exact HB.out | apply below_alloc | apply pw_below_drewN | apply below_drew1 | refine below_set ?_ GE146.out) | exact HB.out))) : w.heap.size ≤ gb148)); have n8_ := Aside0.mk ((by rw [hg]; exact Nat.ne_of_lt (blk_lt (g := gb146) (o := .cells #[.string t140, .int .i64 t141, .slice (some ad147) t142.length co7] 55 (0, 0)) (by (with_reducible repeat (first | refine blk_drewN ?_ _ | refine blk_drew ?_ | refine blk_alloc ?_ _)); exact BK146.out)) : gb146 ≠ gb148)); have n9_ := Aside0.mk ((by rw [hg]; exact Nat.ne_of_gt (blk_lt (g := gb146) (o := .cells #[.string t140, .int .i64 t141, .slice (some ad147) t142.length co7] 55 (0, 0)) (by (with_reducible repeat (first | refine blk_drewN ?_ _ | refine blk_drew ?_ | refine blk_alloc ?_ _)); exact BK146.out)) : gb148 ≠ gb146)); clear HO_4; clear HO_16; clear HO_147002; clear BK146; clear HB; have HO_4 := n0_; have HO_16 := n1_; have HO_147002 := n2_; have BK146 := n3_; have HB := n4_; have BK148 := n5_; have GW148 := n6_; have GE148 := n7_; have NB146_148 := n8_; have NB148_146 := n9_; clear n0_ n1_ n2_ n3_ n4_ n5_ n6_ n7_ n8_ n9_; clear hb hbox hg; have hnb14 := NB148_146.out; have hnc14 := NB146_148.out; have hcz15_0 : w13.cell? ⟨gb148, 0, none⟩ = some (.string (⟨#[]⟩ : ByteArray)) := (blk_cell BK148.out 0).trans rfl; have hcz15_1 : w13.cell? ⟨gb148, 1, none⟩ = some (.int .i64 0) := (blk_cell BK148.out 1).trans rfl; have hfz15_0 := blk_frozen BK148.out 0; have hfz15_1 := blk_frozen BK148.out 1) | ((with_reducible refine gate_callee (f := 30) rfl ?_); refine goesL_ (some 24) rfl rfl Try.func30 (by kernel_rfl) rfl #[.int .i64 ((rd_T61 t142 x18_1).f1)] rfl (by (try simp only [List.map_toArray, List.map_cons, List.map_nil]); first | done | rfl | (simp only [List.length_drop, List.length_take]; rfl)) ?_; (with_reducible refine (port_what.calls ((rd_T61 t142 x18_1).f1) t149 _ A11.out).mono ?_); rintro e w' ⟨rfl, ⟨nd, rfl⟩⟩; refine ⟨_, rfl, ?_⟩))
              go_roundg k1
              case measure => have := HK1.out; omega
              case rel => exact ⟨(x4_1), (wrap64 (x18_1 + 1)), (by first | rfl | (simp; done) | (simp [*]; done)), H', ⟨by have := HK1.out; omega⟩, ⟨by (with_reducible repeat (first | apply Kd.R_alloc | apply Kd.R_drewN | apply Kd.R_drew)); exact Kd.R_mono (Kd.R_far (p := ⟨gb148, 1, none⟩) (Kd.R_far (p := ⟨gb148, 0, none⟩) (Kd.R_types HO_4.out BK148.out (by decide)) (fun _ hk => hk.2) (.string ((rd_T61 t142 x18_1).f0))) (fun _ hk => hk.2) (.int .i64 ((rd_T61 t142 x18_1).f1))) (fun _ hk => trivial)⟩, ⟨by (with_reducible repeat (first | apply Kd.R_alloc | apply Kd.R_drewN | apply Kd.R_drew)); exact Kd.R_mono (Kd.R_far (p := ⟨gb148, 1, none⟩) (Kd.R_far (p := ⟨gb148, 0, none⟩) (Kd.R_mono HO_16.out (fun k_ hk => (⟨hk, hk.2⟩ : _ ∧ k_ ≠ gb148))) (fun _ hk => hk.2) (.string ((rd_T61 t142 x18_1).f0))) (fun _ hk => hk.2) (.int .i64 ((rd_T61 t142 x18_1).f1))) (fun _ hk => trivial)⟩, ⟨by (with_reducible repeat (first | apply Kd.R_alloc | apply Kd.R_drewN | apply Kd.R_drew)); exact Kd.R_mono (Kd.R_far (p := ⟨gb148, 1, none⟩) (Kd.R_far (p := ⟨gb148, 0, none⟩) (Kd.R_mono HO_147002.out (fun k_ hk => (⟨hk, hk.2⟩ : _ ∧ k_ ≠ gb148))) (fun _ hk => hk.2) (.string ((rd_T61 t142 x18_1).f0))) (fun _ hk => hk.2) (.int .i64 ((rd_T61 t142 x18_1).f1))) (fun _ hk => trivial)⟩, ⟨by (with_reducible repeat (first | refine blk_drewN ?_ _ | refine blk_drew ?_ | refine blk_alloc ?_ _)); refine blk_far ?_ NB146_148.out _; (with_reducible repeat (first | refine blk_drewN ?_ _ | refine blk_drew ?_ | refine blk_alloc ?_ _)); refine blk_far ?_ NB146_148.out _; (with_reducible repeat (first | refine blk_drewN ?_ _ | refine blk_drew ?_ | refine blk_alloc ?_ _)); exact BK146.out⟩, ⟨by repeat (first | (with_reducible first | exact HB.out | apply below_alloc | apply pw_below_drewN | apply below_drew1 | refine below_set ?_ GE146.out | refine below_set ?_ GE148.out) | exact HB.out)⟩⟩
            · rw [if_neg c12] at H
              have c12b0 : (t149 == 1) = false := beq_eq_false_iff_ne.mpr c12
              have c12b1 : (t149 != 1) = true := bne_iff_ne.mpr c12
              by_cases c16 : x4_1.length < 4398046511104
              · rw [if_pos c16] at H
                have LMc16 := Aside0.mk c16
                clear c16
                obtain ⟨y150, hy150⟩ : ∃ y_ : List (S45), y_ = (x4_1 ++ [(⟨t140, (rd_T61 t142 x18_1).f0⟩ : S45)]) := ⟨_, rfl⟩
                replace H : (port_Clients.l0 k1 y150 t142 (t142.length : Int) (wrap64 (x18_1 + 1)) t140 t141 t142) = some r := by first | (rw [hy150]; with_reducible exact H) | (have H2_ := (Option.bind_some _ _).symm.trans H; rw [hy150]; with_reducible exact H2_) | (have H2_ := (Option.bind_some _ _).symm.trans H; with_reducible exact H2_) | with_reducible exact H | (rw [hy150]; exact H) | exact H
                have Ny150 := Aside0.mk hy150
                clear hy150
                have H' := Aside0.mk H
                clear H
                have p147 : 0 ≤ (x18_1 : Int) := of_decide_eq_true (by first | (with_reducible assumption) | assumption)
                have q147 : x18_1 < (t142.length : Int) := of_decide_eq_true (by first | (with_reducible assumption) | assumption)
                obtain ⟨ad147, e147, hx147_0, hx147_1⟩ := at_T61 (Kd.R_reads' HO_16.out).2.2 x18_1 p147 q147
                cases e147
                replace p147 := eq_true p147
                replace q147 := eq_true q147
                go_wp2_with (first | ((with_reducible refine gate_dst (N := 8) rfl ?_); refine box_event ?hg (N := 8) ?hd (cs := #[.string (⟨#[]⟩ : ByteArray), .int .i64 0]) (t := 61) ?hr ?_; (case hd => rfl); (case hg => rfl); (case hr => first | (go_simp; done) | (go_simp; rfl)); intro gb148 hg w17 hbox hb; have n0_ := Aside0.mk (Kd.R_below (by (with_reducible repeat (first | apply Kd.R_alloc | apply Kd.R_drewN | apply Kd.R_drew)); exact HO_4.out) hb); have n1_ := Aside0.mk (Kd.R_below (Kd.R_elderB (by (with_reducible repeat (first | apply Kd.R_alloc | apply Kd.R_drewN | apply Kd.R_drew)); exact HO_16.out) gb148 (Nat.le_of_eq hg.symm)) hb); have n2_ := Aside0.mk (Kd.R_below (Kd.R_elderB (by (with_reducible repeat (first | apply Kd.R_alloc | apply Kd.R_drewN | apply Kd.R_drew)); exact HO_147002.out) gb148 (Nat.le_of_eq hg.symm)) hb); have n3_ := Aside0.mk (blk_below (g := gb146) (o := .cells #[.string t140, .int .i64 t141, .slice (some ad147) t142.length co7] 55 (0, 0)) (by (with_reducible repeat (first | refine blk_drewN ?_ _ | refine blk_drew ?_ | refine blk_alloc ?_ _)); exact BK146.out) hb); have n4_ := Aside0.mk (below_step (by repeat (first | (with_reducible first | exact HB.out | apply below_alloc | apply pw_below_drewN | apply below_drew1 | refine below_set ?_ GE146.out) | exact HB.out)) hb); have n5_ := Aside0.mk (hbox); have n6_ := Aside0.mk ((by rw [hg]; exact (below_size (by repeat (first | (with_reducible first | exact HB.out | apply below_alloc | apply pw_below_drewN | apply below_drew1 | refine below_set ?_ GE146.out) | exact HB.out))) : w.heap.size ≤ gb148)); have n7_ := Aside0.mk ((by rw [hg]; exact (below_size (by repeat (first | (with_reducible first | exact HB.out | apply below_alloc | apply pw_below_drewN | apply below_drew1 | refine below_set ?_ GE146.out) | exact HB.out))) : w.heap.size ≤ gb148)); have n8_ := Aside0.mk ((by rw [hg]; exact Nat.ne_of_lt (blk_lt (g := gb146) (o := .cells #[.string t140, .int .i64 t141, .slice (some ad147) t142.length co7] 55 (0, 0)) (by (with_reducible repeat (first | refine blk_drewN ?_ _ | refine blk_drew ?_ | refine blk_alloc ?_ _)); exact BK146.out)) : gb146 ≠ gb148)); have n9_ := Aside0.mk ((by rw [hg]; exact Nat.ne_of_gt (blk_lt (g := gb146) (o := .cells #[.string t140, .int .i64 t141, .slice (some ad147) t142.length co7] 55 (0, 0)) (by (with_reducible repeat (first | refine blk_drewN ?_ _ | refine blk_drew ?_ | refine blk_alloc ?_ _)); exact BK146.out)) : gb148 ≠ gb146)); clear HO_4; clear HO_16; clear HO_147002; clear BK146; clear HB; have HO_4 := n0_; have HO_16 := n1_; have HO_147002 := n2_; have BK146 := n3_; have HB := n4_; have BK148 := n5_; have GW148 := n6_; have GE148 := n7_; have NB146_148 := n8_; have NB148_146 := n9_; clear n0_ n1_ n2_ n3_ n4_ n5_ n6_ n7_ n8_ n9_; clear hb hbox hg; have hnb18 := NB148_146.out; have hnc18 := NB146_148.out; have hcz19_0 : w17.cell? ⟨gb148, 0, none⟩ = some (.string (⟨#[]⟩ : ByteArray)) := (blk_cell BK148.out 0).trans rfl; have hcz19_1 : w17.cell? ⟨gb148, 1, none⟩ = some (.int .i64 0) := (blk_cell BK148.out 1).trans rfl; have hfz19_0 := blk_frozen BK148.out 0; have hfz19_1 := blk_frozen BK148.out 1) | ((with_reducible refine gate_callee (f := 30) rfl ?_); refine goesL_ (some 24) rfl rfl Try.func30 (by kernel_rfl) rfl #[.int .i64 ((rd_T61 t142 x18_1).f1)] rfl (by (try simp only [List.map_toArray, List.map_cons, List.map_nil]); first | done | rfl | (simp only [List.length_drop, List.length_take]; rfl)) ?_; (with_reducible refine (port_what.calls ((rd_T61 t142 x18_1).f1) t149 _ A11.out).mono ?_); rintro e w' ⟨rfl, ⟨nd, rfl⟩⟩; refine ⟨_, rfl, ?_⟩; have hcz20_0 : w17.cell? ⟨gb146, 0, none⟩ = some (.string t140) := (blk_cell BK146.out 0).trans rfl; have hcz20_1 : w17.cell? ⟨gb146, 1, none⟩ = some (.int .i64 t141) := (blk_cell BK146.out 1).trans rfl; have hcz20_2 : w17.cell? ⟨gb146, 2, none⟩ = some (.slice (some ad147) t142.length co7) := (blk_cell BK146.out 2).trans rfl; have hfz20_0 := blk_frozen BK146.out 0; have hfz20_1 := blk_frozen BK146.out 1; have hfz20_2 := blk_frozen BK146.out 2) | ((with_reducible refine gate_builtin (b := .append) (xs := #[.tmp 26, .tmp 32]) rfl ?_); at_builtin; refine Kd.R_append k45 (w0 := w) w.heap.size rfl (.tmp 26) (.tmp 32) 33 45 (.agg #[(.string ⟨#[]⟩), (.string ⟨#[]⟩)]) 32 rfl Try.underlying33 info45 rfl (by decide) (by omega) u4 x4_1 (⟨t140, (rd_T61 t142 x18_1).f0⟩ : S45) [.string t140, .string ((rd_T61 t142 x18_1).f0)] (fun _ => True) (fun _ => False) rfl (by first | (go_simp; done) | (go_simp; rfl)) ?aP (fun _ hk => hk.elim) ?aF ?aO ?aB ?aS ?aL ?_; (case aP => exact k45_mkM _ _ _ (⟨t140, (rd_T61 t142 x18_1).f0⟩ : S45)); (case aB => exact (by repeat (first | (with_reducible first | exact HB.out | apply below_alloc | apply pw_below_drewN | apply below_drew1 | refine below_set ?_ GE146.out | refine below_set ?_ GE148.out) | exact HB.out))); (case aF => exact (fun _ _ => trivial)); (case aO => exact (by (with_reducible repeat (first | apply Kd.R_alloc | apply Kd.R_drewN | apply Kd.R_drew)); exact Kd.R_mono (Kd.R_far (p := ⟨gb148, 1, none⟩) (Kd.R_far (p := ⟨gb148, 0, none⟩) (Kd.R_types HO_4.out BK148.out (by decide)) (fun _ hk => hk.2) (.string ((rd_T61 t142 x18_1).f0))) (fun _ hk => hk.2) (.int .i64 ((rd_T61 t142 x18_1).f1))) (fun _ hk => trivial))); (case aS => exact (below_size (by repeat (first | (with_reducible first | exact HB.out | apply below_alloc | apply pw_below_drewN | apply below_drew1 | refine below_set ?_ GE146.out | refine below_set ?_ GE148.out) | exact HB.out)))); (case aL => have := LMc16.out; omega); intro v151 w21 ho hb hg hat; rw [← Ny150.out] at ho; have n0_ := Aside0.mk (Kd.R_over' (by (with_reducible repeat (first | apply Kd.R_alloc | apply Kd.R_drewN | apply Kd.R_drew)); exact (Kd.R_mono (Kd.R_far (p := ⟨gb148, 1, none⟩) (Kd.R_far (p := ⟨gb148, 0, none⟩) (Kd.R_mono HO_16.out (fun k_ hk => (⟨hk, hk.2⟩ : _ ∧ k_ ≠ gb148))) (fun _ hk => hk.2) (.string ((rd_T61 t142 x18_1).f0))) (fun _ hk => hk.2) (.int .i64 ((rd_T61 t142 x18_1).f1))) (fun _ h_ => h_.1))) (Kd.R_typed (by (with_reducible repeat (first | apply Kd.R_alloc | apply Kd.R_drewN | apply Kd.R_drew)); exact (Kd.R_mono (Kd.R_far (p := ⟨gb148, 1, none⟩) (Kd.R_far (p := ⟨gb148, 0, none⟩) (Kd.R_types HO_4.out BK148.out (by decide)) (fun _ hk => hk.2) (.string ((rd_T61 t142 x18_1).f0))) (fun _ hk => hk.2) (.int .i64 ((rd_T61 t142 x18_1).f1))) (fun _ h_ => h_.1)))) (by decide) hg); have n1_ := Aside0.mk (Kd.R_over' (by (with_reducible repeat (first | apply Kd.R_alloc | apply Kd.R_drewN | apply Kd.R_drew)); exact (Kd.R_mono (Kd.R_far (p := ⟨gb148, 1, none⟩) (Kd.R_far (p := ⟨gb148, 0, none⟩) (Kd.R_mono HO_147002.out (fun k_ hk => (⟨hk, hk.2⟩ : _ ∧ k_ ≠ gb148))) (fun _ hk => hk.2) (.string ((rd_T61 t142 x18_1).f0))) (fun _ hk => hk.2) (.int .i64 ((rd_T61 t142 x18_1).f1))) (fun _ h_ => h_.1))) (Kd.R_typed (by (with_reducible repeat (first | apply Kd.R_alloc | apply Kd.R_drewN | apply Kd.R_drew)); exact (Kd.R_mono (Kd.R_far (p := ⟨gb148, 1, none⟩) (Kd.R_far (p := ⟨gb148, 0, none⟩) (Kd.R_types HO_4.out BK148.out (by decide)) (fun _ hk => hk.2) (.string ((rd_T61 t142 x18_1).f0))) (fun _ hk => hk.2) (.int .i64 ((rd_T61 t142 x18_1).f1))) (fun _ h_ => h_.1)))) (by decide) hg); have n2_ := Aside0.mk (blk_grown (g := gb146) (o := .cells #[.string t140, .int .i64 t141, .slice (some ad147) t142.length co7] 55 (0, 0)) (by (with_reducible repeat (first | refine blk_drewN ?_ _ | refine blk_drew ?_ | refine blk_alloc ?_ _)); refine blk_far ?_ NB146_148.out _; (with_reducible repeat (first | refine blk_drewN ?_ _ | refine blk_drew ?_ | refine blk_alloc ?_ _)); refine blk_far ?_ NB146_148.out _; (with_reducible repeat (first | refine blk_drewN ?_ _ | refine blk_drew ?_ | refine blk_alloc ?_ _)); exact BK146.out) hg (Kd.R_ne HO_4.out BK146.out (by decide))); have n3_ := Aside0.mk (blk_grown (g := gb148) (o := .cells #[.string ((rd_T61 t142 x18_1).f0), .int .i64 ((rd_T61 t142 x18_1).f1)] 61 (0, 0)) (by (with_reducible repeat (first | refine blk_drewN ?_ _ | refine blk_drew ?_ | refine blk_alloc ?_ _)); refine blk_put (cs := #[.string ((rd_T61 t142 x18_1).f0), .int .i64 0]) ?_ 1 _ rfl; (with_reducible repeat (first | refine blk_drewN ?_ _ | refine blk_drew ?_ | refine blk_alloc ?_ _)); refine blk_put (cs := #[.string (⟨#[]⟩ : ByteArray), .int .i64 0]) ?_ 0 _ rfl; (with_reducible repeat (first | refine blk_drewN ?_ _ | refine blk_drew ?_ | refine blk_alloc ?_ _)); exact BK148.out) hg (Kd.R_ne HO_4.out BK148.out (by decide))); have n4_ := Aside0.mk (hb); have n5_ := Aside0.mk (ho); clear HO_16; clear HO_147002; clear BK146; clear BK148; clear HB; clear HO_4; have HO_16 := n0_; have HO_147002 := n1_; have BK146 := n2_; have BK148 := n3_; have HB := n4_; have HO152 := n5_; clear n0_ n1_ n2_ n3_ n4_ n5_; clear ho hb hg hat))
                go_roundg k1
                case measure => have := HK1.out; omega
                case rel => exact ⟨(y150), (wrap64 (x18_1 + 1)), (by first | rfl | (simp; done) | (simp [*]; done)), H', ⟨by have := HK1.out; omega⟩, ⟨by (with_reducible repeat (first | apply Kd.R_alloc | apply Kd.R_drewN | apply Kd.R_drew)); exact HO152.out⟩, ⟨by (with_reducible repeat (first | apply Kd.R_alloc | apply Kd.R_drewN | apply Kd.R_drew)); exact Kd.R_mono HO_16.out (fun _ hk => trivial)⟩, ⟨by (with_reducible repeat (first | apply Kd.R_alloc | apply Kd.R_drewN | apply Kd.R_drew)); exact Kd.R_mono HO_147002.out (fun _ hk => trivial)⟩, ⟨by (with_reducible repeat (first | refine blk_drewN ?_ _ | refine blk_drew ?_ | refine blk_alloc ?_ _)); exact BK146.out⟩, ⟨by repeat (first | (with_reducible first | exact HB.out | apply below_alloc | apply pw_below_drewN | apply below_drew1 | refine below_set ?_ GE146.out | refine below_set ?_ GE148.out) | exact HB.out)⟩⟩
              · rw [if_neg c16] at H
                exact absurd H (by simp)
          · rw [if_neg c10] at H
            exact absurd H (by simp)
        · rw [if_neg c9] at H
          exact absurd H (by simp)
      · rw [if_neg c8] at H
        have c8b0 : decide (x18_1 < (t142.length : Int)) = false := decide_eq_false c8
        clear c8
        obtain rfl := Option.some.inj H
        go_wp2
        go_ret
        exact ⟨_, by first | rfl | (simp [errW_none, errW_some] <;> rfl) | (simp [*, errW_none, errW_some] <;> rfl), by (with_reducible repeat (first | apply Kd.R_alloc | apply Kd.R_drewN | apply Kd.R_drew)); exact HO_4.out, by repeat (first | (with_reducible first | exact HB.out | apply below_alloc | apply pw_below_drewN | apply below_drew1 | refine below_set ?_ GE146.out) | exact HB.out)⟩

/-! ### port_taker: function 22 -/
def port_taker.l0 : Nat → Int → List (S47) → Int → Int → ByteArray → ByteArray → ByteArray → ByteArray → ByteArray → ByteArray → Int → Option (ByteArray × ByteArray × ByteArray × ByteArray × Int × Bool)
  | 0, _, _, _, _, _, _, _, _, _, _, _ => none
  | k + 1, x2, x10, x11, x12, x154000, x154001, x155000, x155001, x155002, x155003, x155004 => if x12 < x11 then (if 0 ≤ x12 then (if x12 < (x10.length : Int) then (if ((((rd_T47 x10 x12).f0.f0).toList) == x154000.toList && ((((rd_T47 x10 x12).f0.f1).toList) == x154001.toList)) = true then (if ((rd_T47 x10 x12).f2) ≥ x2 then (some ((rd_T47 x10 x12).f0.f0, (rd_T47 x10 x12).f0.f1, (rd_T47 x10 x12).f1.f0, (rd_T47 x10 x12).f1.f1, (rd_T47 x10 x12).f2, true)) else (port_taker.l0 k x2 x10 x11 (wrap64 (x12 + 1)) x154000 x154001 x155000 x155001 x155002 x155003 x155004)) else (port_taker.l0 k x2 x10 x11 (wrap64 (x12 + 1)) x154000 x154001 x155000 x155001 x155002 x155003 x155004)) else (none)) else (none)) else (some (x155000, x155001, x155002, x155003, x155004, false))
def port_taker.f (k : Nat) (l0 : List (S47)) (a1_0 : ByteArray) (a1_1 : ByteArray) (a2 : Int) : Option (ByteArray × ByteArray × ByteArray × ByteArray × Int × Bool) := port_taker.l0 k a2 l0 (l0.length : Int) 0 a1_0 a1_1 (⟨#[]⟩ : ByteArray) (⟨#[]⟩ : ByteArray) (⟨#[]⟩ : ByteArray) (⟨#[]⟩ : ByteArray) 0
theorem port_taker.mono_l : ∀ k, (∀ y0 y1 y2 y3 y4 y5 y6 y7 y8 y9 y10, LeO (port_taker.l0 k y0 y1 y2 y3 y4 y5 y6 y7 y8 y9 y10) (port_taker.l0 (k + 1) y0 y1 y2 y3 y4 y5 y6 y7 y8 y9 y10))
  | 0 => fun _ _ _ _ _ _ _ _ _ _ _ r h => by simp [port_taker.l0] at h
  | k + 1 => by
    have ih0 := port_taker.mono_l k
    · intro y0 y1 y2 y3 y4 y5 y6 y7 y8 y9 y10
      unfold port_taker.l0
      repeat' first
      | (with_reducible exact ih0 _ _ _ _ _ _ _ _ _ _ _)
      | (with_reducible exact LeO.refl _)
      | (with_reducible exact LeO.none _)
      | (with_reducible refine LeO.ite ?_ ?_)
      | (with_reducible refine LeO.bind ?_ (fun _ => ?_))
      | exact ih0 _ _ _ _ _ _ _ _ _ _ _
      | exact LeO.none _
      | refine LeO.ite ?_ ?_
      | refine LeO.bind ?_ (fun _ => ?_)
theorem port_taker.mono : ∀ a0 a1 a2 a3 k, LeO (port_taker.f k a0 a1 a2 a3) (port_taker.f (k + 1) a0 a1 a2 a3) := by
  intro a0 a1 a2 a3 k
  have ih0 := port_taker.mono_l k
  unfold port_taker.f
  repeat' first
      | (with_reducible exact ih0 _ _ _ _ _ _ _ _ _ _ _)
      | (with_reducible exact LeO.refl _)
      | (with_reducible exact LeO.none _)
      | (with_reducible refine LeO.ite ?_ ?_)
      | (with_reducible refine LeO.bind ?_ (fun _ => ?_))
      | exact ih0 _ _ _ _ _ _ _ _ _ _ _
      | exact LeO.none _
      | refine LeO.ite ?_ ?_
      | refine LeO.bind ?_ (fun _ => ?_)
set_option maxHeartbeats 8000000 in
set_option maxRecDepth 100000 in
theorem port_taker.calls (k : Nat) (A0 : Option Addr) (c0 : Nat) (l0 : List (S47)) (a1_0 : ByteArray) (a1_1 : ByteArray) (a2 : Int) (r1 : ByteArray) (r2 : ByteArray) (r3 : ByteArray) (r4 : ByteArray) (r5 : Int) (r6 : Bool) (w : World) (hr0 : Kd.C k47 w A0 l0.length l0) (hc0 : l0.length ≤ c0) (h : port_taker.f k l0 a1_0 a1_1 a2 = some (r1, r2, r3, r4, r5, r6)) :
    Calls Try.prog 22 #[.slice A0 l0.length c0, .agg #[.string a1_0, .string a1_1], .int .i64 a2] w fun e w' => e = .returned (.tuple #[.agg #[.string r1, .string r2, .string r3, .string r4, .int .i64 r5], .bool r6]) ∧ Below w.heap.size w w' := by
  have hu45 := Try.underlying45
  have hu47 := Try.underlying47
  have HR0 := Aside0.mk hr0
  have HC0 := Aside0.mk hc0
  clear hr0 hc0
  have HB := Aside0.mk (Below.refl w.heap.size w)
  have H : (port_taker.l0 k a2 l0 (l0.length : Int) 0 a1_0 a1_1 (⟨#[]⟩ : ByteArray) (⟨#[]⟩ : ByteArray) (⟨#[]⟩ : ByteArray) (⟨#[]⟩ : ByteArray) 0) = some (r1, r2, r3, r4, r5, r6) := h
  clear h
  have H' := Aside0.mk H
  clear H
  go_enter Try.func22, Try.ntmps22
  go_wp2_with (first | ((with_reducible refine gate_dst (N := 4) rfl ?_); refine box_event ?hg (N := 4) ?hd (cs := #[.string a1_0, .string a1_1]) (t := 45) ?hr ?_; (case hd => rfl); (case hg => rfl); (case hr => first | (go_simp; done) | (go_simp; rfl)); intro gb153 hg w4 hbox hb; have n0_ := Aside0.mk (below_step (by repeat (first | (with_reducible first | exact HB.out | apply below_alloc | apply pw_below_drewN | apply below_drew1) | exact HB.out)) hb); have n1_ := Aside0.mk (hbox); have n2_ := Aside0.mk ((by rw [hg]; exact (below_size (by repeat (first | (with_reducible first | exact HB.out | apply below_alloc | apply pw_below_drewN | apply below_drew1) | exact HB.out))) : w.heap.size ≤ gb153)); have n3_ := Aside0.mk ((by rw [hg]; exact (below_size (by repeat (first | (with_reducible first | exact HB.out | apply below_alloc | apply pw_below_drewN | apply below_drew1) | exact HB.out))) : w.heap.size ≤ gb153)); clear HB; have HB := n0_; have BK153 := n1_; have GW153 := n2_; have GE153 := n3_; clear n0_ n1_ n2_ n3_; clear hb hbox hg) | ((with_reducible refine gate_dst (N := 6) rfl ?_); refine box_event ?hg (N := 6) ?hd (cs := #[.string (⟨#[]⟩ : ByteArray), .string (⟨#[]⟩ : ByteArray), .string (⟨#[]⟩ : ByteArray), .string (⟨#[]⟩ : ByteArray), .int .i64 0]) (t := 47) ?hr ?_; (case hd => rfl); (case hg => rfl); (case hr => first | (go_simp; done) | (go_simp; rfl)); intro gb154 hg w5 hbox hb; have n0_ := Aside0.mk (blk_below (g := gb153) (o := .cells #[.string a1_0, .string a1_1] 45 (0, 0)) (by (with_reducible repeat (first | refine blk_drewN ?_ _ | refine blk_drew ?_ | refine blk_alloc ?_ _)); exact BK153.out) hb); have n1_ := Aside0.mk (below_step (by repeat (first | (with_reducible first | exact HB.out | apply below_alloc | apply pw_below_drewN | apply below_drew1 | refine below_set ?_ GE153.out) | exact HB.out)) hb); have n2_ := Aside0.mk (hbox); have n3_ := Aside0.mk ((by rw [hg]; exact (below_size (by repeat (first | (with_reducible first | exact HB.out | apply below_alloc | apply pw_below_drewN | apply below_drew1 | refine below_set ?_ GE153.out) | exact HB.out))) : w.heap.size ≤ gb154)); have n4_ := Aside0.mk ((by rw [hg]; exact (below_size (by repeat (first | (with_reducible first | exact HB.out | apply below_alloc | apply pw_below_drewN | apply below_drew1 | refine below_set ?_ GE153.out) | exact HB.out))) : w.heap.size ≤ gb154)); have n5_ := Aside0.mk ((by rw [hg]; exact Nat.ne_of_lt (blk_lt (g := gb153) (o := .cells #[.string a1_0, .string a1_1] 45 (0, 0)) (by (with_reducible repeat (first | refine blk_drewN ?_ _ | refine blk_drew ?_ | refine blk_alloc ?_ _)); exact BK153.out)) : gb153 ≠ gb154)); have n6_ := Aside0.mk ((by rw [hg]; exact Nat.ne_of_gt (blk_lt (g := gb153) (o := .cells #[.string a1_0, .string a1_1] 45 (0, 0)) (by (with_reducible repeat (first | refine blk_drewN ?_ _ | refine blk_drew ?_ | refine blk_alloc ?_ _)); exact BK153.out)) : gb154 ≠ gb153)); clear BK153; clear HB; have BK153 := n0_; have HB := n1_; have BK154 := n2_; have GW154 := n3_; have GE154 := n4_; have NB153_154 := n5_; have NB154_153 := n6_; clear n0_ n1_ n2_ n3_ n4_ n5_ n6_; clear hb hbox hg))
  go_loopg [12] k (fun kq v12 w' => ∃ (x12_1 : Int) (x155000_1 : ByteArray) (x155001_1 : ByteArray) (x155002_1 : ByteArray) (x155003_1 : ByteArray) (x155004_1 : Int), v12 = .int .i64 x12_1 ∧ Aside0 (port_taker.l0 kq a2 l0 (l0.length : Int) x12_1 a1_0 a1_1 x155000_1 x155001_1 x155002_1 x155003_1 x155004_1 = some (r1, r2, r3, r4, r5, r6)) ∧ Aside0 (kq ≤ k) ∧ Aside0 (w'.heap[gb153]? = some (.cells #[.string a1_0, .string a1_1] 45 (0, 0))) ∧ Aside0 (w'.heap[gb154]? = some (.cells #[.string x155000_1, .string x155001_1, .string x155002_1, .string x155003_1, .int .i64 x155004_1] 47 (0, 0))) ∧ Aside0 (Below w.heap.size w w'))
  case atStart => exact ⟨(0), ((⟨#[]⟩ : ByteArray)), ((⟨#[]⟩ : ByteArray)), ((⟨#[]⟩ : ByteArray)), ((⟨#[]⟩ : ByteArray)), (0), (by first | rfl | (simp; done) | (simp [*]; done)), H', ⟨Nat.le_refl _⟩, ⟨by (with_reducible repeat (first | refine blk_drewN ?_ _ | refine blk_drew ?_ | refine blk_alloc ?_ _)); exact BK153.out⟩, ⟨by (with_reducible repeat (first | refine blk_drewN ?_ _ | refine blk_drew ?_ | refine blk_alloc ?_ _)); exact BK154.out⟩, ⟨by repeat (first | (with_reducible first | exact HB.out | apply below_alloc | apply pw_below_drewN | apply below_drew1 | refine below_set ?_ GE153.out | refine below_set ?_ GE154.out) | exact HB.out)⟩⟩
  case round =>
    clear H'
    try clear c2
    try clear p2
    obtain ⟨x12_1, x155000_1, x155001_1, x155002_1, x155003_1, x155004_1, rfl, HA, HK1, BK153, BK154, HB⟩ := hrel
    cases gk with
    | zero => exact absurd HA.out (by simp [port_taker.l0])
    | succ k1 =>
      have H := HA.out
      clear HA
      simp only [port_taker.l0] at H
      by_cases c6 : x12_1 < (l0.length : Int)
      · rw [if_pos c6] at H
        have c6b0 : decide (x12_1 < (l0.length : Int)) = true := decide_eq_true c6
        clear c6
        by_cases c7 : 0 ≤ x12_1
        · rw [if_pos c7] at H
          have c7b0 : decide (0 ≤ x12_1) = true := decide_eq_true c7
          clear c7
          by_cases c8 : x12_1 < (l0.length : Int)
          · rw [if_pos c8] at H
            have c8b0 : decide (x12_1 < (l0.length : Int)) = true := decide_eq_true c8
            clear c8
            by_cases c9 : ((((rd_T47 l0 x12_1).f0.f0).toList) == a1_0.toList && ((((rd_T47 l0 x12_1).f0.f1).toList) == a1_1.toList)) = true
            · rw [if_pos c9] at H
              have c9b0 : ((((rd_T47 l0 x12_1).f0.f0).toList) == a1_0.toList && ((((rd_T47 l0 x12_1).f0.f1).toList) == a1_1.toList)) = true := c9
              (try (have c9b1 : decide ((((rd_T47 l0 x12_1).f0.f0).toList) = a1_0.toList && ((((rd_T47 l0 x12_1).f0.f1).toList) == a1_1.toList)) = true := by simpa using c9))
              (try (have c9b2 : ((((rd_T47 l0 x12_1).f0.f0).toList) == a1_0.toList && ((((rd_T47 l0 x12_1).f0.f1).toList) == a1_1.toList)) = true := by simpa using c9))
              clear c9
              by_cases c10 : ((rd_T47 l0 x12_1).f2) ≥ a2
              · rw [if_pos c10] at H
                have c10b0 : decide (a2 ≤ ((rd_T47 l0 x12_1).f2)) = true := decide_eq_true c10
                clear c10
                simp only [Option.some.injEq, Prod.mk.injEq] at H
                obtain ⟨rfl, rfl, rfl, rfl, rfl, rfl⟩ := H
                have p155 : 0 ≤ (x12_1 : Int) := of_decide_eq_true (by first | (with_reducible assumption) | assumption)
                have q155 : x12_1 < (l0.length : Int) := of_decide_eq_true (by first | (with_reducible assumption) | assumption)
                obtain ⟨ad155, e155, hx155_0, hx155_1, hx155_2, hx155_3, hx155_4⟩ := at_T47 HR0.out x12_1 p155 q155
                cases e155
                replace hx155_0 := (HB.out.cell (World.block_lt_of_cell? w _ hx155_0)).trans hx155_0
                replace hx155_1 := (HB.out.cell (World.block_lt_of_cell? w _ hx155_1)).trans hx155_1
                replace hx155_2 := (HB.out.cell (World.block_lt_of_cell? w _ hx155_2)).trans hx155_2
                replace hx155_3 := (HB.out.cell (World.block_lt_of_cell? w _ hx155_3)).trans hx155_3
                replace hx155_4 := (HB.out.cell (World.block_lt_of_cell? w _ hx155_4)).trans hx155_4
                replace p155 := eq_true p155
                replace q155 := eq_true q155
                go_wp2_with (first | ((with_reducible refine gate_dst (N := 9) rfl ?_); refine box_event ?hg (N := 9) ?hd (cs := #[.string (⟨#[]⟩ : ByteArray), .string (⟨#[]⟩ : ByteArray), .string (⟨#[]⟩ : ByteArray), .string (⟨#[]⟩ : ByteArray), .int .i64 0]) (t := 47) ?hr ?_; (case hd => rfl); (case hg => rfl); (case hr => first | (go_simp; done) | (go_simp; rfl)); intro gb156 hg w11 hbox hb; have n0_ := Aside0.mk (blk_below (g := gb153) (o := .cells #[.string a1_0, .string a1_1] 45 (0, 0)) (by (with_reducible repeat (first | refine blk_drewN ?_ _ | refine blk_drew ?_ | refine blk_alloc ?_ _)); exact BK153.out) hb); have n1_ := Aside0.mk (blk_below (g := gb154) (o := .cells #[.string x155000_1, .string x155001_1, .string x155002_1, .string x155003_1, .int .i64 x155004_1] 47 (0, 0)) (by (with_reducible repeat (first | refine blk_drewN ?_ _ | refine blk_drew ?_ | refine blk_alloc ?_ _)); exact BK154.out) hb); have n2_ := Aside0.mk (below_step (by repeat (first | (with_reducible first | exact HB.out | apply below_alloc | apply pw_below_drewN | apply below_drew1 | refine below_set ?_ GE153.out | refine below_set ?_ GE154.out) | exact HB.out)) hb); have n3_ := Aside0.mk (hbox); have n4_ := Aside0.mk ((by rw [hg]; exact (below_size (by repeat (first | (with_reducible first | exact HB.out | apply below_alloc | apply pw_below_drewN | apply below_drew1 | refine below_set ?_ GE153.out | refine below_set ?_ GE154.out) | exact HB.out))) : w.heap.size ≤ gb156)); have n5_ := Aside0.mk ((by rw [hg]; exact (below_size (by repeat (first | (with_reducible first | exact HB.out | apply below_alloc | apply pw_below_drewN | apply below_drew1 | refine below_set ?_ GE153.out | refine below_set ?_ GE154.out) | exact HB.out))) : w.heap.size ≤ gb156)); have n6_ := Aside0.mk ((by rw [hg]; exact Nat.ne_of_lt (blk_lt (g := gb153) (o := .cells #[.string a1_0, .string a1_1] 45 (0, 0)) (by (with_reducible repeat (first | refine blk_drewN ?_ _ | refine blk_drew ?_ | refine blk_alloc ?_ _)); exact BK153.out)) : gb153 ≠ gb156)); have n7_ := Aside0.mk ((by rw [hg]; exact Nat.ne_of_gt (blk_lt (g := gb153) (o := .cells #[.string a1_0, .string a1_1] 45 (0, 0)) (by (with_reducible repeat (first | refine blk_drewN ?_ _ | refine blk_drew ?_ | refine blk_alloc ?_ _)); exact BK153.out)) : gb156 ≠ gb153)); have n8_ := Aside0.mk ((by rw [hg]; exact Nat.ne_of_lt (blk_lt (g := gb154) (o := .cells #[.string x155000_1, .string x155001_1, .string x155002_1, .string x155003_1, .int .i64 x155004_1] 47 (0, 0)) (by (with_reducible repeat (first | refine blk_drewN ?_ _ | refine blk_drew ?_ | refine blk_alloc ?_ _)); exact BK154.out)) : gb154 ≠ gb156)); have n9_ := Aside0.mk ((by rw [hg]; exact Nat.ne_of_gt (blk_lt (g := gb154) (o := .cells #[.string x155000_1, .string x155001_1, .string x155002_1, .string x155003_1, .int .i64 x155004_1] 47 (0, 0)) (by (with_reducible repeat (first | refine blk_drewN ?_ _ | refine blk_drew ?_ | refine blk_alloc ?_ _)); exact BK154.out)) : gb156 ≠ gb154)); clear BK153; clear BK154; clear HB; have BK153 := n0_; have BK154 := n1_; have HB := n2_; have BK156 := n3_; have GW156 := n4_; have GE156 := n5_; have NB153_156 := n6_; have NB156_153 := n7_; have NB154_156 := n8_; have NB156_154 := n9_; clear n0_ n1_ n2_ n3_ n4_ n5_ n6_ n7_ n8_ n9_; clear hb hbox hg; have hnb12 := NB156_153.out; have hnc12 := NB153_156.out; have hnb13 := NB156_154.out; have hnc13 := NB154_156.out; have hcz14_0 : w11.cell? ⟨gb156, 0, none⟩ = some (.string (⟨#[]⟩ : ByteArray)) := (blk_cell BK156.out 0).trans rfl; have hcz14_1 : w11.cell? ⟨gb156, 1, none⟩ = some (.string (⟨#[]⟩ : ByteArray)) := (blk_cell BK156.out 1).trans rfl; have hcz14_2 : w11.cell? ⟨gb156, 2, none⟩ = some (.string (⟨#[]⟩ : ByteArray)) := (blk_cell BK156.out 2).trans rfl; have hcz14_3 : w11.cell? ⟨gb156, 3, none⟩ = some (.string (⟨#[]⟩ : ByteArray)) := (blk_cell BK156.out 3).trans rfl; have hcz14_4 : w11.cell? ⟨gb156, 4, none⟩ = some (.int .i64 0) := (blk_cell BK156.out 4).trans rfl; have hfz14_0 := blk_frozen BK156.out 0; have hfz14_1 := blk_frozen BK156.out 1; have hfz14_2 := blk_frozen BK156.out 2; have hfz14_3 := blk_frozen BK156.out 3; have hfz14_4 := blk_frozen BK156.out 4; have hnb15 := NB153_154.out; have hnc15 := NB154_153.out; have hcz16_0 : w11.cell? ⟨gb153, 0, none⟩ = some (.string a1_0) := (blk_cell BK153.out 0).trans rfl; have hcz16_1 : w11.cell? ⟨gb153, 1, none⟩ = some (.string a1_1) := (blk_cell BK153.out 1).trans rfl; have hfz16_0 := blk_frozen BK153.out 0; have hfz16_1 := blk_frozen BK153.out 1; have hcz17_0 : w11.cell? ⟨gb154, 0, none⟩ = some (.string x155000_1) := (blk_cell BK154.out 0).trans rfl; have hcz17_1 : w11.cell? ⟨gb154, 1, none⟩ = some (.string x155001_1) := (blk_cell BK154.out 1).trans rfl; have hcz17_2 : w11.cell? ⟨gb154, 2, none⟩ = some (.string x155002_1) := (blk_cell BK154.out 2).trans rfl; have hcz17_3 : w11.cell? ⟨gb154, 3, none⟩ = some (.string x155003_1) := (blk_cell BK154.out 3).trans rfl; have hcz17_4 : w11.cell? ⟨gb154, 4, none⟩ = some (.int .i64 x155004_1) := (blk_cell BK154.out 4).trans rfl; have hfz17_0 := blk_frozen BK154.out 0; have hfz17_1 := blk_frozen BK154.out 1; have hfz17_2 := blk_frozen BK154.out 2; have hfz17_3 := blk_frozen BK154.out 3; have hfz17_4 := blk_frozen BK154.out 4))
                refine bodyPost_ret (results_ct rfl _ _ gb154 47 #[.string ((rd_T47 l0 x12_1).f0.f0), .string ((rd_T47 l0 x12_1).f0.f1), .string ((rd_T47 l0 x12_1).f1.f0), .string ((rd_T47 l0 x12_1).f1.f1), .int .i64 ((rd_T47 l0 x12_1).f2)] (0, 0) _ rfl (by (with_reducible repeat (first | refine blk_drewN ?_ _ | refine blk_drew ?_ | refine blk_alloc ?_ _)); refine blk_put (cs := #[.string ((rd_T47 l0 x12_1).f0.f0), .string ((rd_T47 l0 x12_1).f0.f1), .string ((rd_T47 l0 x12_1).f1.f0), .string ((rd_T47 l0 x12_1).f1.f1), .int .i64 x155004_1]) ?_ 4 _ rfl; (with_reducible repeat (first | refine blk_drewN ?_ _ | refine blk_drew ?_ | refine blk_alloc ?_ _)); refine blk_put (cs := #[.string ((rd_T47 l0 x12_1).f0.f0), .string ((rd_T47 l0 x12_1).f0.f1), .string ((rd_T47 l0 x12_1).f1.f0), .string x155003_1, .int .i64 x155004_1]) ?_ 3 _ rfl; (with_reducible repeat (first | refine blk_drewN ?_ _ | refine blk_drew ?_ | refine blk_alloc ?_ _)); refine blk_put (cs := #[.string ((rd_T47 l0 x12_1).f0.f0), .string ((rd_T47 l0 x12_1).f0.f1), .string x155002_1, .string x155003_1, .int .i64 x155004_1]) ?_ 2 _ rfl; (with_reducible repeat (first | refine blk_drewN ?_ _ | refine blk_drew ?_ | refine blk_alloc ?_ _)); refine blk_put (cs := #[.string ((rd_T47 l0 x12_1).f0.f0), .string x155001_1, .string x155002_1, .string x155003_1, .int .i64 x155004_1]) ?_ 1 _ rfl; (with_reducible repeat (first | refine blk_drewN ?_ _ | refine blk_drew ?_ | refine blk_alloc ?_ _)); refine blk_put (cs := #[.string x155000_1, .string x155001_1, .string x155002_1, .string x155003_1, .int .i64 x155004_1]) ?_ 0 _ rfl; (with_reducible repeat (first | refine blk_drewN ?_ _ | refine blk_drew ?_ | refine blk_alloc ?_ _)); refine blk_far ?_ NB154_156.out _; (with_reducible repeat (first | refine blk_drewN ?_ _ | refine blk_drew ?_ | refine blk_alloc ?_ _)); refine blk_far ?_ NB154_156.out _; (with_reducible repeat (first | refine blk_drewN ?_ _ | refine blk_drew ?_ | refine blk_alloc ?_ _)); refine blk_far ?_ NB154_156.out _; (with_reducible repeat (first | refine blk_drewN ?_ _ | refine blk_drew ?_ | refine blk_alloc ?_ _)); refine blk_far ?_ NB154_156.out _; (with_reducible repeat (first | refine blk_drewN ?_ _ | refine blk_drew ?_ | refine blk_alloc ?_ _)); refine blk_far ?_ NB154_156.out _; (with_reducible repeat (first | refine blk_drewN ?_ _ | refine blk_drew ?_ | refine blk_alloc ?_ _)); exact BK154.out) Try.underlying47 rfl (by kernel_rfl)) rfl ?_
                exact ⟨by first | rfl | (simp [errW_none, errW_some] <;> rfl) | (simp [*, errW_none, errW_some] <;> rfl), by repeat (first | (with_reducible first | exact HB.out | apply below_alloc | apply pw_below_drewN | apply below_drew1 | refine below_set ?_ GE153.out | refine below_set ?_ GE154.out | refine below_set ?_ GE156.out) | exact HB.out)⟩
              · rw [if_neg c10] at H
                have c10b0 : decide (a2 ≤ ((rd_T47 l0 x12_1).f2)) = false := decide_eq_false c10
                clear c10
                have H' := Aside0.mk H
                clear H
                have p155 : 0 ≤ (x12_1 : Int) := of_decide_eq_true (by first | (with_reducible assumption) | assumption)
                have q155 : x12_1 < (l0.length : Int) := of_decide_eq_true (by first | (with_reducible assumption) | assumption)
                obtain ⟨ad155, e155, hx155_0, hx155_1, hx155_2, hx155_3, hx155_4⟩ := at_T47 HR0.out x12_1 p155 q155
                cases e155
                replace hx155_0 := (HB.out.cell (World.block_lt_of_cell? w _ hx155_0)).trans hx155_0
                replace hx155_1 := (HB.out.cell (World.block_lt_of_cell? w _ hx155_1)).trans hx155_1
                replace hx155_2 := (HB.out.cell (World.block_lt_of_cell? w _ hx155_2)).trans hx155_2
                replace hx155_3 := (HB.out.cell (World.block_lt_of_cell? w _ hx155_3)).trans hx155_3
                replace hx155_4 := (HB.out.cell (World.block_lt_of_cell? w _ hx155_4)).trans hx155_4
                replace p155 := eq_true p155
                replace q155 := eq_true q155
                go_wp2_with (first | ((with_reducible refine gate_dst (N := 9) rfl ?_); refine box_event ?hg (N := 9) ?hd (cs := #[.string (⟨#[]⟩ : ByteArray), .string (⟨#[]⟩ : ByteArray), .string (⟨#[]⟩ : ByteArray), .string (⟨#[]⟩ : ByteArray), .int .i64 0]) (t := 47) ?hr ?_; (case hd => rfl); (case hg => rfl); (case hr => first | (go_simp; done) | (go_simp; rfl)); intro gb156 hg w18 hbox hb; have n0_ := Aside0.mk (blk_below (g := gb153) (o := .cells #[.string a1_0, .string a1_1] 45 (0, 0)) (by (with_reducible repeat (first | refine blk_drewN ?_ _ | refine blk_drew ?_ | refine blk_alloc ?_ _)); exact BK153.out) hb); have n1_ := Aside0.mk (blk_below (g := gb154) (o := .cells #[.string x155000_1, .string x155001_1, .string x155002_1, .string x155003_1, .int .i64 x155004_1] 47 (0, 0)) (by (with_reducible repeat (first | refine blk_drewN ?_ _ | refine blk_drew ?_ | refine blk_alloc ?_ _)); exact BK154.out) hb); have n2_ := Aside0.mk (below_step (by repeat (first | (with_reducible first | exact HB.out | apply below_alloc | apply pw_below_drewN | apply below_drew1 | refine below_set ?_ GE153.out | refine below_set ?_ GE154.out) | exact HB.out)) hb); have n3_ := Aside0.mk (hbox); have n4_ := Aside0.mk ((by rw [hg]; exact (below_size (by repeat (first | (with_reducible first | exact HB.out | apply below_alloc | apply pw_below_drewN | apply below_drew1 | refine below_set ?_ GE153.out | refine below_set ?_ GE154.out) | exact HB.out))) : w.heap.size ≤ gb156)); have n5_ := Aside0.mk ((by rw [hg]; exact (below_size (by repeat (first | (with_reducible first | exact HB.out | apply below_alloc | apply pw_below_drewN | apply below_drew1 | refine below_set ?_ GE153.out | refine below_set ?_ GE154.out) | exact HB.out))) : w.heap.size ≤ gb156)); have n6_ := Aside0.mk ((by rw [hg]; exact Nat.ne_of_lt (blk_lt (g := gb153) (o := .cells #[.string a1_0, .string a1_1] 45 (0, 0)) (by (with_reducible repeat (first | refine blk_drewN ?_ _ | refine blk_drew ?_ | refine blk_alloc ?_ _)); exact BK153.out)) : gb153 ≠ gb156)); have n7_ := Aside0.mk ((by rw [hg]; exact Nat.ne_of_gt (blk_lt (g := gb153) (o := .cells #[.string a1_0, .string a1_1] 45 (0, 0)) (by (with_reducible repeat (first | refine blk_drewN ?_ _ | refine blk_drew ?_ | refine blk_alloc ?_ _)); exact BK153.out)) : gb156 ≠ gb153)); have n8_ := Aside0.mk ((by rw [hg]; exact Nat.ne_of_lt (blk_lt (g := gb154) (o := .cells #[.string x155000_1, .string x155001_1, .string x155002_1, .string x155003_1, .int .i64 x155004_1] 47 (0, 0)) (by (with_reducible repeat (first | refine blk_drewN ?_ _ | refine blk_drew ?_ | refine blk_alloc ?_ _)); exact BK154.out)) : gb154 ≠ gb156)); have n9_ := Aside0.mk ((by rw [hg]; exact Nat.ne_of_gt (blk_lt (g := gb154) (o := .cells #[.string x155000_1, .string x155001_1, .string x155002_1, .string x155003_1, .int .i64 x155004_1] 47 (0, 0)) (by (with_reducible repeat (first | refine blk_drewN ?_ _ | refine blk_drew ?_ | refine blk_alloc ?_ _)); exact BK154.out)) : gb156 ≠ gb154)); clear BK153; clear BK154; clear HB; have BK153 := n0_; have BK154 := n1_; have HB := n2_; have BK156 := n3_; have GW156 := n4_; have GE156 := n5_; have NB153_156 := n6_; have NB156_153 := n7_; have NB154_156 := n8_; have NB156_154 := n9_; clear n0_ n1_ n2_ n3_ n4_ n5_ n6_ n7_ n8_ n9_; clear hb hbox hg; have hnb19 := NB156_153.out; have hnc19 := NB153_156.out; have hnb20 := NB156_154.out; have hnc20 := NB154_156.out; have hcz21_0 : w18.cell? ⟨gb156, 0, none⟩ = some (.string (⟨#[]⟩ : ByteArray)) := (blk_cell BK156.out 0).trans rfl; have hcz21_1 : w18.cell? ⟨gb156, 1, none⟩ = some (.string (⟨#[]⟩ : ByteArray)) := (blk_cell BK156.out 1).trans rfl; have hcz21_2 : w18.cell? ⟨gb156, 2, none⟩ = some (.string (⟨#[]⟩ : ByteArray)) := (blk_cell BK156.out 2).trans rfl; have hcz21_3 : w18.cell? ⟨gb156, 3, none⟩ = some (.string (⟨#[]⟩ : ByteArray)) := (blk_cell BK156.out 3).trans rfl; have hcz21_4 : w18.cell? ⟨gb156, 4, none⟩ = some (.int .i64 0) := (blk_cell BK156.out 4).trans rfl; have hfz21_0 := blk_frozen BK156.out 0; have hfz21_1 := blk_frozen BK156.out 1; have hfz21_2 := blk_frozen BK156.out 2; have hfz21_3 := blk_frozen BK156.out 3; have hfz21_4 := blk_frozen BK156.out 4; have hnb22 := NB153_154.out; have hnc22 := NB154_153.out; have hcz23_0 : w18.cell? ⟨gb153, 0, none⟩ = some (.string a1_0) := (blk_cell BK153.out 0).trans rfl; have hcz23_1 : w18.cell? ⟨gb153, 1, none⟩ = some (.string a1_1) := (blk_cell BK153.out 1).trans rfl; have hfz23_0 := blk_frozen BK153.out 0; have hfz23_1 := blk_frozen BK153.out 1))
                go_roundg k1
                case measure => have := HK1.out; omega
                case rel => exact ⟨(wrap64 (x12_1 + 1)), (x155000_1), (x155001_1), (x155002_1), (x155003_1), (x155004_1), (by first | rfl | (simp; done) | (simp [*]; done)), H', ⟨by have := HK1.out; omega⟩, ⟨by (with_reducible repeat (first | refine blk_drewN ?_ _ | refine blk_drew ?_ | refine blk_alloc ?_ _)); refine blk_far ?_ NB153_156.out _; (with_reducible repeat (first | refine blk_drewN ?_ _ | refine blk_drew ?_ | refine blk_alloc ?_ _)); refine blk_far ?_ NB153_156.out _; (with_reducible repeat (first | refine blk_drewN ?_ _ | refine blk_drew ?_ | refine blk_alloc ?_ _)); refine blk_far ?_ NB153_156.out _; (with_reducible repeat (first | refine blk_drewN ?_ _ | refine blk_drew ?_ | refine blk_alloc ?_ _)); refine blk_far ?_ NB153_156.out _; (with_reducible repeat (first | refine blk_drewN ?_ _ | refine blk_drew ?_ | refine blk_alloc ?_ _)); refine blk_far ?_ NB153_156.out _; (with_reducible repeat (first | refine blk_drewN ?_ _ | refine blk_drew ?_ | refine blk_alloc ?_ _)); exact BK153.out⟩, ⟨by (with_reducible repeat (first | refine blk_drewN ?_ _ | refine blk_drew ?_ | refine blk_alloc ?_ _)); refine blk_far ?_ NB154_156.out _; (with_reducible repeat (first | refine blk_drewN ?_ _ | refine blk_drew ?_ | refine blk_alloc ?_ _)); refine blk_far ?_ NB154_156.out _; (with_reducible repeat (first | refine blk_drewN ?_ _ | refine blk_drew ?_ | refine blk_alloc ?_ _)); refine blk_far ?_ NB154_156.out _; (with_reducible repeat (first | refine blk_drewN ?_ _ | refine blk_drew ?_ | refine blk_alloc ?_ _)); refine blk_far ?_ NB154_156.out _; (with_reducible repeat (first | refine blk_drewN ?_ _ | refine blk_drew ?_ | refine blk_alloc ?_ _)); refine blk_far ?_ NB154_156.out _; (with_reducible repeat (first | refine blk_drewN ?_ _ | refine blk_drew ?_ | refine blk_alloc ?_ _)); exact BK154.out⟩, ⟨by repeat (first | (with_reducible first | exact HB.out | apply below_alloc | apply pw_below_drewN | apply below_drew1 | refine below_set ?_ GE153.out | refine below_set ?_ GE154.out | refine below_set ?_ GE156.out) | exact HB.out)⟩⟩
            · rw [if_neg c9] at H
              have c9b0 : ((((rd_T47 l0 x12_1).f0.f0).toList) == a1_0.toList && ((((rd_T47 l0 x12_1).f0.f1).toList) == a1_1.toList)) = false := by simpa using c9
              (try (have c9b1 : decide ((((rd_T47 l0 x12_1).f0.f0).toList) = a1_0.toList && ((((rd_T47 l0 x12_1).f0.f1).toList) == a1_1.toList)) = false := by simpa using c9))
              (try (have c9b2 : ((((rd_T47 l0 x12_1).f0.f0).toList) == a1_0.toList && ((((rd_T47 l0 x12_1).f0.f1).toList) == a1_1.toList)) = false := by simpa using c9))
              (try (have c9b3 : ¬ ((((rd_T47 l0 x12_1).f0.f0).toList) = a1_0.toList && ((((rd_T47 l0 x12_1).f0.f1).toList) == a1_1.toList)) := by simpa using c9))
              clear c9
              have H' := Aside0.mk H
              clear H
              have p155 : 0 ≤ (x12_1 : Int) := of_decide_eq_true (by first | (with_reducible assumption) | assumption)
              have q155 : x12_1 < (l0.length : Int) := of_decide_eq_true (by first | (with_reducible assumption) | assumption)
              obtain ⟨ad155, e155, hx155_0, hx155_1, hx155_2, hx155_3, hx155_4⟩ := at_T47 HR0.out x12_1 p155 q155
              cases e155
              replace hx155_0 := (HB.out.cell (World.block_lt_of_cell? w _ hx155_0)).trans hx155_0
              replace hx155_1 := (HB.out.cell (World.block_lt_of_cell? w _ hx155_1)).trans hx155_1
              replace hx155_2 := (HB.out.cell (World.block_lt_of_cell? w _ hx155_2)).trans hx155_2
              replace hx155_3 := (HB.out.cell (World.block_lt_of_cell? w _ hx155_3)).trans hx155_3
              replace hx155_4 := (HB.out.cell (World.block_lt_of_cell? w _ hx155_4)).trans hx155_4
              replace p155 := eq_true p155
              replace q155 := eq_true q155
              go_wp2_with (first | ((with_reducible refine gate_dst (N := 9) rfl ?_); refine box_event ?hg (N := 9) ?hd (cs := #[.string (⟨#[]⟩ : ByteArray), .string (⟨#[]⟩ : ByteArray), .string (⟨#[]⟩ : ByteArray), .string (⟨#[]⟩ : ByteArray), .int .i64 0]) (t := 47) ?hr ?_; (case hd => rfl); (case hg => rfl); (case hr => first | (go_simp; done) | (go_simp; rfl)); intro gb156 hg w24 hbox hb; have n0_ := Aside0.mk (blk_below (g := gb153) (o := .cells #[.string a1_0, .string a1_1] 45 (0, 0)) (by (with_reducible repeat (first | refine blk_drewN ?_ _ | refine blk_drew ?_ | refine blk_alloc ?_ _)); exact BK153.out) hb); have n1_ := Aside0.mk (blk_below (g := gb154) (o := .cells #[.string x155000_1, .string x155001_1, .string x155002_1, .string x155003_1, .int .i64 x155004_1] 47 (0, 0)) (by (with_reducible repeat (first | refine blk_drewN ?_ _ | refine blk_drew ?_ | refine blk_alloc ?_ _)); exact BK154.out) hb); have n2_ := Aside0.mk (below_step (by repeat (first | (with_reducible first | exact HB.out | apply below_alloc | apply pw_below_drewN | apply below_drew1 | refine below_set ?_ GE153.out | refine below_set ?_ GE154.out) | exact HB.out)) hb); have n3_ := Aside0.mk (hbox); have n4_ := Aside0.mk ((by rw [hg]; exact (below_size (by repeat (first | (with_reducible first | exact HB.out | apply below_alloc | apply pw_below_drewN | apply below_drew1 | refine below_set ?_ GE153.out | refine below_set ?_ GE154.out) | exact HB.out))) : w.heap.size ≤ gb156)); have n5_ := Aside0.mk ((by rw [hg]; exact (below_size (by repeat (first | (with_reducible first | exact HB.out | apply below_alloc | apply pw_below_drewN | apply below_drew1 | refine below_set ?_ GE153.out | refine below_set ?_ GE154.out) | exact HB.out))) : w.heap.size ≤ gb156)); have n6_ := Aside0.mk ((by rw [hg]; exact Nat.ne_of_lt (blk_lt (g := gb153) (o := .cells #[.string a1_0, .string a1_1] 45 (0, 0)) (by (with_reducible repeat (first | refine blk_drewN ?_ _ | refine blk_drew ?_ | refine blk_alloc ?_ _)); exact BK153.out)) : gb153 ≠ gb156)); have n7_ := Aside0.mk ((by rw [hg]; exact Nat.ne_of_gt (blk_lt (g := gb153) (o := .cells #[.string a1_0, .string a1_1] 45 (0, 0)) (by (with_reducible repeat (first | refine blk_drewN ?_ _ | refine blk_drew ?_ | refine blk_alloc ?_ _)); exact BK153.out)) : gb156 ≠ gb153)); have n8_ := Aside0.mk ((by rw [hg]; exact Nat.ne_of_lt (blk_lt (g := gb154) (o := .cells #[.string x155000_1, .string x155001_1, .string x155002_1, .string x155003_1, .int .i64 x155004_1] 47 (0, 0)) (by (with_reducible repeat (first | refine blk_drewN ?_ _ | refine blk_drew ?_ | refine blk_alloc ?_ _)); exact BK154.out)) : gb154 ≠ gb156)); have n9_ := Aside0.mk ((by rw [hg]; exact Nat.ne_of_gt (blk_lt (g := gb154) (o := .cells #[.string x155000_1, .string x155001_1, .string x155002_1, .string x155003_1, .int .i64 x155004_1] 47 (0, 0)) (by (with_reducible repeat (first | refine blk_drewN ?_ _ | refine blk_drew ?_ | refine blk_alloc ?_ _)); exact BK154.out)) : gb156 ≠ gb154)); clear BK153; clear BK154; clear HB; have BK153 := n0_; have BK154 := n1_; have HB := n2_; have BK156 := n3_; have GW156 := n4_; have GE156 := n5_; have NB153_156 := n6_; have NB156_153 := n7_; have NB154_156 := n8_; have NB156_154 := n9_; clear n0_ n1_ n2_ n3_ n4_ n5_ n6_ n7_ n8_ n9_; clear hb hbox hg; have hnb25 := NB156_153.out; have hnc25 := NB153_156.out; have hnb26 := NB156_154.out; have hnc26 := NB154_156.out; have hcz27_0 : w24.cell? ⟨gb156, 0, none⟩ = some (.string (⟨#[]⟩ : ByteArray)) := (blk_cell BK156.out 0).trans rfl; have hcz27_1 : w24.cell? ⟨gb156, 1, none⟩ = some (.string (⟨#[]⟩ : ByteArray)) := (blk_cell BK156.out 1).trans rfl; have hcz27_2 : w24.cell? ⟨gb156, 2, none⟩ = some (.string (⟨#[]⟩ : ByteArray)) := (blk_cell BK156.out 2).trans rfl; have hcz27_3 : w24.cell? ⟨gb156, 3, none⟩ = some (.string (⟨#[]⟩ : ByteArray)) := (blk_cell BK156.out 3).trans rfl; have hcz27_4 : w24.cell? ⟨gb156, 4, none⟩ = some (.int .i64 0) := (blk_cell BK156.out 4).trans rfl; have hfz27_0 := blk_frozen BK156.out 0; have hfz27_1 := blk_frozen BK156.out 1; have hfz27_2 := blk_frozen BK156.out 2; have hfz27_3 := blk_frozen BK156.out 3; have hfz27_4 := blk_frozen BK156.out 4; have hnb28 := NB153_154.out; have hnc28 := NB154_153.out; have hcz29_0 : w24.cell? ⟨gb153, 0, none⟩ = some (.string a1_0) := (blk_cell BK153.out 0).trans rfl; have hcz29_1 : w24.cell? ⟨gb153, 1, none⟩ = some (.string a1_1) := (blk_cell BK153.out 1).trans rfl; have hfz29_0 := blk_frozen BK153.out 0; have hfz29_1 := blk_frozen BK153.out 1))
              go_roundg k1
              case measure => have := HK1.out; omega
              case rel => exact ⟨(wrap64 (x12_1 + 1)), (x155000_1), (x155001_1), (x155002_1), (x155003_1), (x155004_1), (by first | rfl | (simp; done) | (simp [*]; done)), H', ⟨by have := HK1.out; omega⟩, ⟨by (with_reducible repeat (first | refine blk_drewN ?_ _ | refine blk_drew ?_ | refine blk_alloc ?_ _)); refine blk_far ?_ NB153_156.out _; (with_reducible repeat (first | refine blk_drewN ?_ _ | refine blk_drew ?_ | refine blk_alloc ?_ _)); refine blk_far ?_ NB153_156.out _; (with_reducible repeat (first | refine blk_drewN ?_ _ | refine blk_drew ?_ | refine blk_alloc ?_ _)); refine blk_far ?_ NB153_156.out _; (with_reducible repeat (first | refine blk_drewN ?_ _ | refine blk_drew ?_ | refine blk_alloc ?_ _)); refine blk_far ?_ NB153_156.out _; (with_reducible repeat (first | refine blk_drewN ?_ _ | refine blk_drew ?_ | refine blk_alloc ?_ _)); refine blk_far ?_ NB153_156.out _; (with_reducible repeat (first | refine blk_drewN ?_ _ | refine blk_drew ?_ | refine blk_alloc ?_ _)); exact BK153.out⟩, ⟨by (with_reducible repeat (first | refine blk_drewN ?_ _ | refine blk_drew ?_ | refine blk_alloc ?_ _)); refine blk_far ?_ NB154_156.out _; (with_reducible repeat (first | refine blk_drewN ?_ _ | refine blk_drew ?_ | refine blk_alloc ?_ _)); refine blk_far ?_ NB154_156.out _; (with_reducible repeat (first | refine blk_drewN ?_ _ | refine blk_drew ?_ | refine blk_alloc ?_ _)); refine blk_far ?_ NB154_156.out _; (with_reducible repeat (first | refine blk_drewN ?_ _ | refine blk_drew ?_ | refine blk_alloc ?_ _)); refine blk_far ?_ NB154_156.out _; (with_reducible repeat (first | refine blk_drewN ?_ _ | refine blk_drew ?_ | refine blk_alloc ?_ _)); refine blk_far ?_ NB154_156.out _; (with_reducible repeat (first | refine blk_drewN ?_ _ | refine blk_drew ?_ | refine blk_alloc ?_ _)); exact BK154.out⟩, ⟨by repeat (first | (with_reducible first | exact HB.out | apply below_alloc | apply pw_below_drewN | apply below_drew1 | refine below_set ?_ GE153.out | refine below_set ?_ GE154.out | refine below_set ?_ GE156.out) | exact HB.out)⟩⟩
          · rw [if_neg c8] at H
            exact absurd H (by simp)
        · rw [if_neg c7] at H
          exact absurd H (by simp)
      · rw [if_neg c6] at H
        have c6b0 : decide (x12_1 < (l0.length : Int)) = false := decide_eq_false c6
        clear c6
        simp only [Option.some.injEq, Prod.mk.injEq] at H
        obtain ⟨rfl, rfl, rfl, rfl, rfl, rfl⟩ := H
        have hnb30 := NB154_153.out
        have hnc30 := NB153_154.out
        have hcz31_0 : wr.cell? ⟨gb154, 0, none⟩ = some (.string x155000_1) := (blk_cell BK154.out 0).trans rfl
        have hcz31_1 : wr.cell? ⟨gb154, 1, none⟩ = some (.string x155001_1) := (blk_cell BK154.out 1).trans rfl
        have hcz31_2 : wr.cell? ⟨gb154, 2, none⟩ = some (.string x155002_1) := (blk_cell BK154.out 2).trans rfl
        have hcz31_3 : wr.cell? ⟨gb154, 3, none⟩ = some (.string x155003_1) := (blk_cell BK154.out 3).trans rfl
        have hcz31_4 : wr.cell? ⟨gb154, 4, none⟩ = some (.int .i64 x155004_1) := (blk_cell BK154.out 4).trans rfl
        have hfz31_0 := blk_frozen BK154.out 0
        have hfz31_1 := blk_frozen BK154.out 1
        have hfz31_2 := blk_frozen BK154.out 2
        have hfz31_3 := blk_frozen BK154.out 3
        have hfz31_4 := blk_frozen BK154.out 4
        go_wp2
        refine bodyPost_ret (results_ct rfl _ _ gb154 47 #[.string x155000_1, .string x155001_1, .string x155002_1, .string x155003_1, .int .i64 x155004_1] (0, 0) _ rfl (by (with_reducible repeat (first | refine blk_drewN ?_ _ | refine blk_drew ?_ | refine blk_alloc ?_ _)); refine blk_put (cs := #[.string x155000_1, .string x155001_1, .string x155002_1, .string x155003_1, .int .i64 x155004_1]) ?_ 4 _ rfl; (with_reducible repeat (first | refine blk_drewN ?_ _ | refine blk_drew ?_ | refine blk_alloc ?_ _)); refine blk_put (cs := #[.string x155000_1, .string x155001_1, .string x155002_1, .string x155003_1, .int .i64 x155004_1]) ?_ 3 _ rfl; (with_reducible repeat (first | refine blk_drewN ?_ _ | refine blk_drew ?_ | refine blk_alloc ?_ _)); refine blk_put (cs := #[.string x155000_1, .string x155001_1, .string x155002_1, .string x155003_1, .int .i64 x155004_1]) ?_ 2 _ rfl; (with_reducible repeat (first | refine blk_drewN ?_ _ | refine blk_drew ?_ | refine blk_alloc ?_ _)); refine blk_put (cs := #[.string x155000_1, .string x155001_1, .string x155002_1, .string x155003_1, .int .i64 x155004_1]) ?_ 1 _ rfl; (with_reducible repeat (first | refine blk_drewN ?_ _ | refine blk_drew ?_ | refine blk_alloc ?_ _)); refine blk_put (cs := #[.string x155000_1, .string x155001_1, .string x155002_1, .string x155003_1, .int .i64 x155004_1]) ?_ 0 _ rfl; (with_reducible repeat (first | refine blk_drewN ?_ _ | refine blk_drew ?_ | refine blk_alloc ?_ _)); exact BK154.out) Try.underlying47 rfl (by kernel_rfl)) rfl ?_
        exact ⟨by first | rfl | (simp [errW_none, errW_some] <;> rfl) | (simp [*, errW_none, errW_some] <;> rfl), by repeat (first | (with_reducible first | exact HB.out | apply below_alloc | apply pw_below_drewN | apply below_drew1 | refine below_set ?_ GE153.out | refine below_set ?_ GE154.out) | exact HB.out)⟩

/-! ### port_Plan: function 11 -/
/-- An account as a map's key. -/
def accK (a : S45) : Value := .agg #[.string a.f0, .string a.f1]
def accQ (x y : S45) : Bool := x.f0.toList == y.f0.toList && x.f1.toList == y.f1.toList
theorem bytes_inj {a b : ByteArray} (h : a.toList = b.toList) : a = b := by
  rw [ByteArray.toList_eq, ByteArray.toList_eq] at h
  exact ByteArray.ext (Array.ext' h)
theorem accQ_iff (x y : S45) : accQ x y = true ↔ accK x = accK y := by
  simp only [accQ, accK, Bool.and_eq_true, beq_iff_eq]
  constructor
  · rintro ⟨h1, h2⟩
    rw [bytes_inj h1, bytes_inj h2]
  · intro h
    simp only [Value.agg.injEq, Array.mk.injEq, List.cons.injEq, Value.string.injEq] at h
    exact ⟨by rw [h.1], by rw [h.2.1]⟩
theorem acc_laid : laidOutB Try.prog = true := by kernel_rfl
theorem acc_keyed : Go.Maps.Keyed Try.prog 45 := Go.Maps.Keyed.of_law (deep_law_gate acc_laid (by decide +kernel) (by decide +kernel) (by kernel_rfl) (by rw [Try.underlying45]))
theorem acc_types : ∃ m, Try.prog.types.size + 1 = m + 2 := by
  have : 0 < Try.prog.types.size := by decide +kernel
  exact ⟨Try.prog.types.size - 1, by omega⟩
theorem acc_keyOf {x : S45} (ha : x.f0.size ≤ 9223372036854775807) (hb : x.f1.size ≤ 9223372036854775807) : ∃ l, keyOf Try.prog 45 (accK x) = some l := by
  refine ⟨.string (keyBytes [.string x.f0.data.toList, .string x.f1.data.toList]), ?_⟩
  have ha' : x.f0.size ≤ maxLen := ha
  have hb' : x.f1.size ≤ maxLen := hb
  have hkt : Try.prog.keyType 45 = true := by kernel_rfl
  have hc : Try.prog.cellsOf 45 = 2 := by kernel_rfl
  have hc9 : Try.prog.cellsOf 9 = 1 := by kernel_rfl
  unfold keyOf accK
  simp only [Try.underlying45]
  rw [if_pos (by simp [hkt, Value.formed, Try.underlying45, hc])]
  obtain ⟨m, hm⟩ := acc_types
  rw [hm]
  unfold Program.keyLits
  simp only [Try.underlying45, Value.cells]
  rw [if_pos (by simp [hc])]
  simp [Program.keyLits, hc9, Try.underlying9, ha', hb', List.mapM_cons]
def accOk (x : S45) : Bool := decide (x.f0.size ≤ 9223372036854775807) && decide (x.f1.size ≤ 9223372036854775807)
theorem acc_keyOf' {x : S45} (h : accOk x = true) : ∃ l, keyOf Try.prog 45 (accK x) = some l := by
  simp only [accOk, Bool.and_eq_true, decide_eq_true_eq] at h
  exact acc_keyOf h.1 h.2

/-- What each account lacks; none where two gaps are of one account. -/
def port_Plan.scan : List S62 → List (S45 × Int) → Option (List (S45 × Int))
  | [], m => some m
  | g :: r, m => match Go.Proofs.YtdhmckgagffgkaaHand.look accQ m g.f0 with
    | some _ => none
    | none => port_Plan.scan r (m ++ [(g.f0, g.f3)])
def port_Plan.go (k : Nat) (l : List S47) (m : List (S45 × Int)) : List S45 → List S47 → List S45 → Option (List S47 × List S45 × Int)
  | [], t, f => some (t, f, 0)
  | a :: r, t, f => match Go.Proofs.YtdhmckgagffgkaaHand.look accQ m a with
    | none => port_Plan.go k l m r t f
    | some n => (port_taker.f k l a.f0 a.f1 n).bind fun x => if x.2.2.2.2.2 = true then (if t.length < 1000000 then port_Plan.go k l m r (t ++ [⟨⟨x.1, x.2.1⟩, ⟨x.2.2.1, x.2.2.2.1⟩, x.2.2.2.2.1⟩]) f else none) else (if f.length < 1000000 then port_Plan.go k l m r t (f ++ [a]) else none)
def port_Plan.f (k : Nat) (l0 : List S47) (l1 : List S55) (a2 : ByteArray) (l3 : List S62) : Option (List S47 × List S45 × Int) :=
  (port_Check.f k l0 l1 a2).bind fun e => if e = 0 then (if l3.length ≤ 1024 then (if (l3.all fun g => accOk g.f0) = true then (match port_Plan.scan l3 [] with
    | none => some ([], [], 12)
    | some m => (port_Clients.f k l1 a2).bind fun cs => if (cs.all accOk) = true then port_Plan.go k l0 m cs [] [] else none) else none) else some ([], [], 8)) else some ([], [], e)
theorem port_Plan.mono_go (k : Nat) (l : List S47) (m : List (S45 × Int)) (cs : List S45) : ∀ t f, LeO (port_Plan.go k l m cs t f) (port_Plan.go (k + 1) l m cs t f) := by
  induction cs with
  | nil => intro t f; exact LeO.refl _
  | cons a r ih =>
    intro t f
    unfold port_Plan.go
    cases Go.Proofs.YtdhmckgagffgkaaHand.look accQ m a with
    | none => exact ih t f
    | some n =>
      refine LeO.bind (port_taker.mono _ _ _ _ _) (fun x => LeO.ite (LeO.ite (ih _ _) (LeO.none _)) (LeO.ite (ih _ _) (LeO.none _)))
theorem port_Plan.mono : ∀ a0 a1 a2 a3 k, LeO (port_Plan.f k a0 a1 a2 a3) (port_Plan.f (k + 1) a0 a1 a2 a3) := by
  intro a0 a1 a2 a3 k
  unfold port_Plan.f
  refine LeO.bind (port_Check.mono _ _ _ _) (fun e => LeO.ite (LeO.ite (LeO.ite ?_ (LeO.none _)) (LeO.refl _)) (LeO.refl _))
  cases port_Plan.scan a3 [] with
  | none => exact LeO.refl _
  | some m => exact LeO.bind (port_Clients.mono _ _ _) (fun cs => LeO.ite (port_Plan.mono_go _ _ _ _ _ _) (LeO.none _))
theorem port_Plan.zero (w : World) : (zeroValue 3).run Try.prog w = .ok (.int .i64 0) w := by kernel_rfl
theorem port_Plan.look1 {w : World} {b : Nat} {m : List (S45 × Int)} {a : S45} {kl : Lit} {n : Int} (hb : w.heap[b]? = some (Go.Proofs.YtdhmckgagffgkaaHand.objM accK (Value.int .i64) m)) (hk : Go.Proofs.YtdhmckgagffgkaaHand.KeysOk Try.prog 45 accK m) (hkey : keyOf Try.prog 45 (accK a) = some kl) (h : Go.Proofs.YtdhmckgagffgkaaHand.look accQ m a = some n) :
    (Instr.lookup 63 (.map (some b)) (accK a) true).run Try.prog w = .ok (.tuple #[.int .i64 n, .bool true]) w := by
  have hz := Go.Proofs.YtdhmckgagffgkaaHand.run_look acc_keyed Try.underlying63 (port_Plan.zero w) hb hk hkey (q := accQ) (fun p hp => accQ_iff _ _) true
  rw [h] at hz
  exact hz
theorem port_Plan.look0 {w : World} {b : Nat} {m : List (S45 × Int)} {a : S45} {kl : Lit} (hb : w.heap[b]? = some (Go.Proofs.YtdhmckgagffgkaaHand.objM accK (Value.int .i64) m)) (hk : Go.Proofs.YtdhmckgagffgkaaHand.KeysOk Try.prog 45 accK m) (hkey : keyOf Try.prog 45 (accK a) = some kl) (h : Go.Proofs.YtdhmckgagffgkaaHand.look accQ m a = none) :
    (Instr.lookup 63 (.map (some b)) (accK a) true).run Try.prog w = .ok (.tuple #[.int .i64 0, .bool false]) w := by
  have hz := Go.Proofs.YtdhmckgagffgkaaHand.run_look acc_keyed Try.underlying63 (port_Plan.zero w) hb hk hkey (q := accQ) (fun p hp => accQ_iff _ _) true
  rw [h] at hz
  exact hz
theorem port_Plan.neM {α κ ν : Type} {d : Kd α} {e : Nat} {w : World} {base : Nat} {ok : Nat → Prop} {v : Value} {xs : List α} {g : Nat} {ek : κ → Value} {ev : ν → Value} {m : List (κ × ν)} (h : d.R e w base ok v xs) (hm : w.heap[g]? = some (Go.Proofs.YtdhmckgagffgkaaHand.objM ek ev m)) : some g ≠ v.ownBlock := by
  intro he
  obtain ⟨cells, hc⟩ := Kd.R_typed h g he.symm
  rw [hm] at hc
  simp [Go.Proofs.YtdhmckgagffgkaaHand.objM] at hc
set_option maxHeartbeats 3200000 in
set_option maxRecDepth 100000 in
theorem port_Plan.calls (k : Nat) (A0 : Option Addr) (c0 : Nat) (l0 : List (S47)) (A1 : Option Addr) (c1 : Nat) (l1 : List (S55)) (a2 : ByteArray) (A3 : Option Addr) (c3 : Nat) (l3 : List (S62)) (r1 : List (S47)) (r2 : List (S45)) (r3 : Int) (w : World) (hr0 : Kd.C k47 w A0 l0.length l0) (hc0 : l0.length ≤ c0) (hr1 : Kd.C k55 w A1 l1.length l1) (hc1 : l1.length ≤ c1) (hr3 : Kd.C k62 w A3 l3.length l3) (hc3 : l3.length ≤ c3) (h : port_Plan.f k l0 l1 a2 l3 = some (r1, r2, r3)) :
    Calls Try.prog 11 #[.slice A0 l0.length c0, .slice A1 l1.length c1, .string a2, .slice A3 l3.length c3] w fun e w' => ∃ v0_ v1_ : Value, e = .returned (.tuple #[v0_, v1_, .int .i64 r3]) ∧ Kd.R k47 47 w' w.heap.size (fun _ => True) v0_ r1 ∧ Kd.R k45 45 w' w.heap.size (fun _ => True) v1_ r2 ∧ Below w.heap.size w w' := by
  obtain ⟨e, hC, h⟩ := Option.bind_eq_some_iff.mp h
  have HR0 := Aside0.mk hr0
  have HC0 := Aside0.mk hc0
  have HR1 := Aside0.mk hr1
  have HC1 := Aside0.mk hc1
  have HR3 := Aside0.mk hr3
  have HC3 := Aside0.mk hc3
  have HC := Aside0.mk hC
  have HH := Aside0.mk h
  have hmm := @run_makeMap Try.prog
  clear hr0 hc0 hr1 hc1 hr3 hc3 hC h
  by_cases he : e = 0
  case neg =>
    have hh := HH.out
    rw [if_neg he] at hh
    have hh2 := Option.some.inj hh
    simp only [Prod.mk.injEq] at hh2
    obtain ⟨rfl, rfl, rfl⟩ := hh2
    have h0b : (e == 0) = false := beq_eq_false_iff_ne.mpr he
    have h1b : (e != 0) = true := bne_iff_ne.mpr he
    clear he hh HH
    go_enter Try.func11, Try.ntmps11
    go_wp2_with (go_at_call 13; refine (port_Check.calls k A0 c0 l0 A1 c1 l1 a2 e _ HR0.out HC0.out HR1.out HC1.out HC.out).mono ?_; rintro _ w1 ⟨rfl, hb⟩; have HB := Aside0.mk hb; clear hb)
    go_ret3
    exact ⟨_, _, rfl, Kd.R_nil _ _ _ _ _, Kd.R_nil _ _ _ _ _, HB.out⟩
  subst he
  have hh := HH.out
  rw [if_pos rfl] at hh
  by_cases hl : l3.length ≤ 1024
  case neg =>
    rw [if_neg hl] at hh
    have hh2 := Option.some.inj hh
    simp only [Prod.mk.injEq] at hh2
    obtain ⟨rfl, rfl, rfl⟩ := hh2
    have g0 : decide (1024 < (l3.length : Int)) = true := decide_eq_true (by omega)
    have g1 : decide (1024 < l3.length) = true := decide_eq_true (by omega)
    clear hl hh HH
    go_enter Try.func11, Try.ntmps11
    go_wp2_with (go_at_call 13; refine (port_Check.calls k A0 c0 l0 A1 c1 l1 a2 0 _ HR0.out HC0.out HR1.out HC1.out HC.out).mono ?_; rintro _ w1 ⟨rfl, hb⟩; have HB := Aside0.mk hb; clear hb)
    go_ret3
    exact ⟨_, _, rfl, Kd.R_nil _ _ _ _ _, Kd.R_nil _ _ _ _ _, HB.out⟩
  rw [if_pos hl] at hh
  have g0 : decide (1024 < (l3.length : Int)) = false := decide_eq_false (by omega)
  have g1 : decide (1024 < l3.length) = false := decide_eq_false (by omega)
  have HL := Aside0.mk hl
  clear hl HH
  by_cases hs : (l3.all fun g => accOk g.f0) = true
  case neg => rw [if_neg hs] at hh; cases hh
  rw [if_pos hs] at hh
  have HS := Aside0.mk hs
  have HH := Aside0.mk hh
  clear hs hh
  go_enter Try.func11, Try.ntmps11
  go_wp2_with (go_at_call 13; refine (port_Check.calls k A0 c0 l0 A1 c1 l1 a2 0 _ HR0.out HC0.out HR1.out HC1.out HC.out).mono ?_; rintro _ w1 ⟨rfl, hb⟩; have HB := Aside0.mk hb; clear hb)
  have hsz0 := HB.out.size
  obtain ⟨G, hG⟩ : ∃ G, G = w1.heap.size := ⟨_, rfl⟩
  have HGE : Aside0 (∀ kk, some w1.heap.size = some kk → w.heap.size ≤ kk) := ⟨fun kk e => by cases e; exact hsz0⟩
  go_loopg [8, 9, 35] l3.length (fun kq v8 v9 v35 w' => ∃ (x : Nat) (m : List (S45 × Int)), v8 = .slice none 0 0 ∧ v9 = .slice none 0 0 ∧ v35 = .int .i64 x ∧ kq + x = l3.length ∧ Aside0 (port_Plan.scan (l3.drop x) m = port_Plan.scan l3 []) ∧ Aside0 (Go.Proofs.YtdhmckgagffgkaaHand.KeysOk Try.prog 45 accK m) ∧ Aside0 (w'.heap[w1.heap.size]? = some (Go.Proofs.YtdhmckgagffgkaaHand.objM accK (Value.int .i64) m)) ∧ Aside0 (Below w.heap.size w w'))
  case atStart => exact ⟨0, [], rfl, rfl, rfl, by omega, ⟨rfl⟩, ⟨⟨fun p hp => (by cases hp), List.Pairwise.nil⟩⟩, ⟨blk_new _ _⟩, ⟨HB.out.alloc (by omega) _⟩⟩
  case round =>
    clear hG
    obtain ⟨x, m, rfl, rfl, rfl, hx, HA, HK, HM, HB⟩ := hrel
    have hsz := HB.out.size
    have hlt1 := blk_lt HM.out
    have hlb := HL.out
    by_cases hlt : x < l3.length
    · obtain ⟨ad, ead, h0, h1, h2, h3, h4⟩ := at_T62 (Kd.C_below HR3.out HB.out) x (by omega) (by omega)
      cases ead
      simp only [Int.toNat_natCast] at h0 h1 h2 h3 h4
      have hmem : rd_T62 l3 x ∈ l3 := by
        have : rd_T62 l3 x = l3[x] := by simp [rd_T62, hlt]
        rw [this]
        exact List.getElem_mem hlt
      have hok : accOk (rd_T62 l3 x).f0 = true := List.all_eq_true.mp HS.out _ hmem
      obtain ⟨kl, hkl⟩ := acc_keyOf' hok
      have HKL := Aside0.mk hkl
      have hdr : port_Plan.scan (l3.drop x) m = match Go.Proofs.YtdhmckgagffgkaaHand.look accQ m (rd_T62 l3 x).f0 with
          | some _ => none
          | none => port_Plan.scan (l3.drop (x + 1)) (m ++ [((rd_T62 l3 x).f0, (rd_T62 l3 x).f3)]) := by
        rw [List.drop_eq_getElem_cons hlt, port_Plan.scan]
        have : rd_T62 l3 x = l3[x] := by simp [rd_T62, hlt]
        rw [this]
      have HA2 := Aside0.mk (hdr.symm.trans HA.out)
      clear hmem hok hkl hdr HA
      cases hlk : Go.Proofs.YtdhmckgagffgkaaHand.look accQ m (rd_T62 l3 x).f0 with
      | some n =>
        have HLK := Aside0.mk hlk
        have hS : port_Plan.scan l3 [] = none := by have := HA2.out; rw [hlk] at this; exact this.symm
        have hh2 := HH.out
        rw [hS] at hh2
        have hh2 := Option.some.inj hh2
        simp only [Prod.mk.injEq] at hh2
        obtain ⟨rfl, rfl, rfl⟩ := hh2
        clear hlk hS HA2 HH
        go_wp2_with (at_lookup; refine Go.Proofs.YtdhmckgagffgkaaHand.wpL_look _ rfl (.tmp 40) (.tmp 42) 63 true rfl w1.heap.size (accK (rd_T62 l3 x).f0) (.tuple #[.int .i64 n, .bool true]) rfl rfl (port_Plan.look1 (blk_alloc HM.out _) HK.out HKL.out HLK.out) ?_)
        go_ret3
        exact ⟨_, _, rfl, Kd.R_nil _ _ _ _ _, Kd.R_nil _ _ _ _ _, HB.out.alloc (by omega) _⟩
      | none =>
        have HLK := Aside0.mk hlk
        have HA3 := Aside0.mk (by have := HA2.out; rw [hlk] at this; exact this)
        clear hlk HA2
        have hne : ∀ p ∈ m, accK p.1 ≠ accK (rd_T62 l3 x).f0 := fun p hp he => by
          have := Go.Proofs.YtdhmckgagffgkaaHand.look_none HLK.out p hp
          rw [(accQ_iff _ _).mpr he] at this
          cases this
        have HNE := Aside0.mk hne
        clear hne
        go_wp2_with (first | (at_lookup; refine Go.Proofs.YtdhmckgagffgkaaHand.wpL_look _ rfl (.tmp 40) (.tmp 42) 63 true rfl w1.heap.size (accK (rd_T62 l3 x).f0) (.tuple #[.int .i64 0, .bool false]) rfl rfl (port_Plan.look0 (blk_alloc HM.out _) HK.out HKL.out HLK.out) ?_) | (at_mapUpdate; refine Go.Proofs.YtdhmckgagffgkaaHand.wpL_put_new _ rfl (.tmp 47) (.tmp 49) (.tmp 51) 63 rfl acc_keyed Try.underlying63 (blk_alloc HM.out _) HK.out HKL.out HNE.out (rd_T62 l3 x).f3 rfl rfl rfl ?_; intro w5 hm5 hg5; have HM2 := Aside0.mk hm5; have HB2 := Aside0.mk (pw_below_grown (HB.out.alloc HB.out.size _) _ (HB.out.alloc HB.out.size _).size hg5 HGE.out); clear hm5 hg5))
        go_roundg (l3.length - (x + 1))
        case measure => omega
        case rel => exact ⟨x + 1, _, rfl, rfl, by go_num, by omega, HA3, ⟨HK.out.snoc HKL.out HNE.out _⟩, HM2, HB2⟩
    · have hxe : x = l3.length := by omega
      have hS : port_Plan.scan l3 [] = some m := by
        have := HA.out
        rw [List.drop_eq_nil_of_le (by omega), port_Plan.scan] at this
        exact this.symm
      have hh2 := HH.out
      rw [hS] at hh2
      obtain ⟨cs, hcl, hh3⟩ := Option.bind_eq_some_iff.mp hh2
      have HCL := Aside0.mk hcl
      by_cases hok : (cs.all accOk) = true
      case neg => rw [if_neg hok] at hh3; cases hh3
      rw [if_pos hok] at hh3
      have HOK := Aside0.mk hok
      have HGO := Aside0.mk hh3
      have hd : decide ((x : Int) < (l3.length : Int)) = false := decide_eq_false (by omega)
      clear hS hh2 hcl hh3 hok HH HA hxe
      go_wp2_with (go_at_call 18; refine (port_Clients.calls k A1 c1 l1 a2 cs _ (Kd.C_below HR1.out HB.out) HC1.out HCL.out).mono ?_; rintro _ w2 ⟨v55, rfl, ho, hb⟩; have HCS := Aside0.mk (Kd.R_lower ho HB.out.size); have HM2 := Aside0.mk (blk_below HM.out hb); have HB2 := Aside0.mk (below_step HB.out hb); clear hb ho; obtain ⟨Ac, cc, rfl⟩ := Kd.R_slice HCS.out)
      have hcsl := (Kd.R_reads' HCS.out).2.2.2.1
      go_loopg [8, 9, 57] cs.length (fun kq v8 v9 v57 w' => ∃ (x : Nat) (t : List S47) (f : List S45), v57 = .int .i64 x ∧ kq + x = cs.length ∧ Aside0 (port_Plan.go k l0 m (cs.drop x) t f = some (r1, r2, r3)) ∧ Aside0 (Kd.R k47 47 w' w.heap.size (fun _ => True) v8 t) ∧ Aside0 (Kd.R k45 45 w' w.heap.size (fun k_ => some k_ ≠ (Value.slice Ac cs.length cc).ownBlock) v9 f) ∧ Aside0 (Kd.R k45 45 w' w.heap.size (fun _ => True) (.slice Ac cs.length cc) cs) ∧ Aside0 (w'.heap[w1.heap.size]? = some (Go.Proofs.YtdhmckgagffgkaaHand.objM accK (Value.int .i64) m)) ∧ Aside0 (Below w.heap.size w w'))
      case atStart => exact ⟨0, [], [], rfl, by omega, HGO, ⟨Kd.R_nil _ _ _ _ _⟩, ⟨Kd.R_nil _ _ _ _ _⟩, HCS, HM2, HB2⟩
      case round =>
        clear HM2 HB2 HCS HGO HM HB
        obtain ⟨y, t, f, rfl, hy, HA, H8, H9, HCS, HM, HB⟩ := hrel
        have hsz := HB.out.size
        have hlt1 := blk_lt HM.out
        by_cases hlt : y < cs.length
        · obtain ⟨ad, ead, h0, h1⟩ := at_T45 (Kd.R_reads' HCS.out).2.2 y (by omega) (by omega)
          cases ead
          simp only [Int.toNat_natCast] at h0 h1
          have hel : rd_T45 cs y = cs[y] := by simp [rd_T45, hlt]
          have hoka : accOk (rd_T45 cs y) = true := List.all_eq_true.mp HOK.out _ (by rw [hel]; exact List.getElem_mem hlt)
          obtain ⟨kl, hkl⟩ := acc_keyOf' hoka
          have HKL := Aside0.mk hkl
          have hdr : port_Plan.go k l0 m (cs.drop y) t f = match Go.Proofs.YtdhmckgagffgkaaHand.look accQ m (rd_T45 cs y) with
              | none => port_Plan.go k l0 m (cs.drop (y + 1)) t f
              | some n => (port_taker.f k l0 (rd_T45 cs y).f0 (rd_T45 cs y).f1 n).bind fun x => if x.2.2.2.2.2 = true then (if t.length < 1000000 then port_Plan.go k l0 m (cs.drop (y + 1)) (t ++ [⟨⟨x.1, x.2.1⟩, ⟨x.2.2.1, x.2.2.2.1⟩, x.2.2.2.2.1⟩]) f else none) else (if f.length < 1000000 then port_Plan.go k l0 m (cs.drop (y + 1)) t (f ++ [rd_T45 cs y]) else none) := by
            rw [List.drop_eq_getElem_cons hlt, port_Plan.go, hel]
          have HA2 := Aside0.mk (hdr.symm.trans HA.out)
          clear hel hoka hkl hdr HA
          cases hlk : Go.Proofs.YtdhmckgagffgkaaHand.look accQ m (rd_T45 cs y) with
          | none =>
            have HLK := Aside0.mk hlk
            have HA3 := Aside0.mk (by have := HA2.out; rw [hlk] at this; exact this)
            clear hlk HA2
            go_wp2_with (at_lookup; refine Go.Proofs.YtdhmckgagffgkaaHand.wpL_look _ rfl (.tmp 62) (.tmp 63) 63 true rfl w1.heap.size (accK (rd_T45 cs y)) (.tuple #[.int .i64 0, .bool false]) rfl rfl (port_Plan.look0 (blk_alloc HM.out _) HK.out HKL.out HLK.out) ?_)
            go_roundg (cs.length - (y + 1))
            case measure => omega
            case rel => exact ⟨y + 1, t, f, by go_num, by omega, HA3, ⟨Kd.R_alloc H8.out _⟩, ⟨Kd.R_alloc H9.out _⟩, ⟨Kd.R_alloc HCS.out _⟩, ⟨blk_alloc HM.out _⟩, ⟨HB.out.alloc HB.out.size _⟩⟩
          | some n =>
            have HLK := Aside0.mk hlk
            have hz := HA2.out
            rw [hlk] at hz
            obtain ⟨⟨x1, x2, x3, x4, x5, x6⟩, htk, hz2⟩ := Option.bind_eq_some_iff.mp hz
            have HTK := Aside0.mk htk
            simp only at hz2
            have HZ := Aside0.mk hz2
            clear hlk HA2 hz htk hz2
            cases x6
            · have hz := HZ.out
              rw [if_neg (by decide)] at hz
              by_cases hfl : f.length < 1000000
              case neg => rw [if_neg hfl] at hz; cases hz
              rw [if_pos hfl] at hz
              have HA3 := Aside0.mk hz
              have HFL : Aside0 ((f.length + 1) * 32 ≤ 140737488355328) := ⟨by omega⟩
              clear hfl hz HZ
              go_wp2_with (first | (at_lookup; refine Go.Proofs.YtdhmckgagffgkaaHand.wpL_look _ rfl (.tmp 62) (.tmp 63) 63 true rfl w1.heap.size (accK (rd_T45 cs y)) (.tuple #[.int .i64 n, .bool true]) rfl rfl (port_Plan.look1 (blk_alloc HM.out _) HK.out HKL.out HLK.out) ?_) | (go_at_call 22; refine (port_taker.calls k A0 c0 l0 (rd_T45 cs y).f0 (rd_T45 cs y).f1 n x1 x2 x3 x4 x5 false _ (Kd.C_alloc (Kd.C_below HR0.out HB.out) _) HC0.out HTK.out).mono ?_; rintro _ w3 ⟨rfl, hb⟩; have H82 := Aside0.mk (Kd.R_below (Kd.R_alloc H8.out _) hb); have H92 := Aside0.mk (Kd.R_below (Kd.R_alloc H9.out _) hb); have HCS2 := Aside0.mk (Kd.R_below (Kd.R_alloc HCS.out _) hb); have HM2 := Aside0.mk (blk_below (blk_alloc HM.out _) hb); have BA := blk_below (blk_new wr (.cells #[.string (rd_T45 cs y).f0, .string (rd_T45 cs y).f1] 45 (0, 0))) hb; have HB2 := Aside0.mk (below_step (HB.out.alloc HB.out.size _) hb); clear hb; have hb0 : w3.cell? ⟨wr.heap.size, 0, none⟩ = some (.string (rd_T45 cs y).f0) := (blk_cell BA 0).trans rfl; have hb1 : w3.cell? ⟨wr.heap.size, 1, none⟩ = some (.string (rd_T45 cs y).f1) := (blk_cell BA 1).trans rfl; have hlt3 := blk_lt BA; clear BA) | ((with_reducible refine gate_builtin (b := .append) (xs := #[.tmp 81, .tmp 83]) rfl ?_); at_builtin; refine Kd.R_append k45 (w0 := w) w.heap.size rfl (.tmp 81) (.tmp 83) 33 45 (.agg #[(.string ⟨#[]⟩), (.string ⟨#[]⟩)]) 32 rfl Try.underlying33 info45 rfl (by decide) (by decide) u9 f (rd_T45 cs y) [.string (rd_T45 cs y).f0, .string (rd_T45 cs y).f1] (fun k_ => some k_ ≠ (Value.slice (some ad) cs.length cc).ownBlock) (fun _ => False) rfl ?aX ?aP (fun _ hk => hk.elim) ?aF (Kd.R_alloc H92.out _) (HB2.out.alloc HB2.out.size _) (HB2.out.alloc HB2.out.size _).size ?aL ?_; (case aX => (rw [World.size_alloc]; rfl)); (case aP => exact k45_mkM _ _ _ _); (case aF => exact (fun k_ hk e_ => Nat.lt_irrefl _ (Nat.lt_of_lt_of_le (Kd.R_lt (Kd.R_alloc HCS2.out _) k_ e_.symm) hk))); (case aL => exact HFL.out); intro v1 w4 ho hb4 hg4 _; have H93 := Aside0.mk ho; have H83 := Aside0.mk (Kd.R_over' (Kd.R_alloc H82.out _) (Kd.R_typed (Kd.R_alloc H92.out _)) (by decide) hg4); have HCS3 := Aside0.mk (Kd.R_grown2 (Kd.R_alloc HCS2.out _) rfl hg4 (fun kk hk => H92.out.1 kk hk)); have HM3 := Aside0.mk (blk_grown (blk_alloc HM2.out _) hg4 (port_Plan.neM (Kd.R_alloc H92.out (.cells #[.string x1, .string x2, .string x3, .string x4, .int .i64 x5] 47 (0, 0))) (blk_alloc HM2.out (.cells #[.string x1, .string x2, .string x3, .string x4, .int .i64 x5] 47 (0, 0))))); have HB3 := Aside0.mk hb4; clear ho hb4 hg4))
              go_roundg (cs.length - (y + 1))
              case measure => omega
              case rel => exact ⟨y + 1, t, _, by go_num, by omega, HA3, H83, H93, HCS3, HM3, HB3⟩
            · have hz := HZ.out
              rw [if_pos rfl] at hz
              by_cases hfl : t.length < 1000000
              case neg => rw [if_neg hfl] at hz; cases hz
              rw [if_pos hfl] at hz
              have HA3 := Aside0.mk hz
              have HFL : Aside0 ((t.length + 1) * 72 ≤ 140737488355328) := ⟨by omega⟩
              clear hfl hz HZ
              go_wp2_with (first | (at_lookup; refine Go.Proofs.YtdhmckgagffgkaaHand.wpL_look _ rfl (.tmp 62) (.tmp 63) 63 true rfl w1.heap.size (accK (rd_T45 cs y)) (.tuple #[.int .i64 n, .bool true]) rfl rfl (port_Plan.look1 (blk_alloc HM.out _) HK.out HKL.out HLK.out) ?_) | (go_at_call 22; refine (port_taker.calls k A0 c0 l0 (rd_T45 cs y).f0 (rd_T45 cs y).f1 n x1 x2 x3 x4 x5 true _ (Kd.C_alloc (Kd.C_below HR0.out HB.out) _) HC0.out HTK.out).mono ?_; rintro _ w3 ⟨rfl, hb⟩; have H82 := Aside0.mk (Kd.R_below (Kd.R_alloc H8.out _) hb); have H92 := Aside0.mk (Kd.R_below (Kd.R_alloc H9.out _) hb); have HCS2 := Aside0.mk (Kd.R_below (Kd.R_alloc HCS.out _) hb); have HM2 := Aside0.mk (blk_below (blk_alloc HM.out _) hb); have BA := blk_below (blk_new wr (.cells #[.string (rd_T45 cs y).f0, .string (rd_T45 cs y).f1] 45 (0, 0))) hb; have HB2 := Aside0.mk (below_step (HB.out.alloc HB.out.size _) hb); clear hb; have hb0 : w3.cell? ⟨wr.heap.size, 0, none⟩ = some (.string (rd_T45 cs y).f0) := (blk_cell BA 0).trans rfl; have hb1 : w3.cell? ⟨wr.heap.size, 1, none⟩ = some (.string (rd_T45 cs y).f1) := (blk_cell BA 1).trans rfl; have hlt3 := blk_lt BA; clear BA) | ((with_reducible refine gate_builtin (b := .append) (xs := #[.tmp 77, .tmp 79]) rfl ?_); at_builtin; refine Kd.R_append k47 (w0 := w) w.heap.size rfl (.tmp 77) (.tmp 79) 29 47 (.agg #[(.string ⟨#[]⟩), (.string ⟨#[]⟩), (.string ⟨#[]⟩), (.string ⟨#[]⟩), (.int .i64 0)]) 72 rfl Try.underlying29 info47 rfl (by decide) (by decide) u8 t ⟨⟨x1, x2⟩, ⟨x3, x4⟩, x5⟩ [.string x1, .string x2, .string x3, .string x4, .int .i64 x5] (fun _ => True) (fun _ => False) rfl ?aX ?aP (fun _ hk => hk.elim) (fun _ _ => trivial) (Kd.R_alloc H82.out _) (HB2.out.alloc HB2.out.size _) (HB2.out.alloc HB2.out.size _).size ?aL ?_; (case aX => (rw [World.size_alloc]; rfl)); (case aP => exact k47_mkM _ _ _ ⟨⟨x1, x2⟩, ⟨x3, x4⟩, x5⟩); (case aL => exact HFL.out); intro v1 w4 ho hb4 hg4 _; have H83 := Aside0.mk ho; have H93 := Aside0.mk (Kd.R_over' (Kd.R_alloc H92.out _) (Kd.R_typed (Kd.R_alloc H82.out _)) (by decide) hg4); have HCS3 := Aside0.mk (Kd.R_over' (Kd.R_alloc HCS2.out _) (Kd.R_typed (Kd.R_alloc H82.out _)) (by decide) hg4); have HM3 := Aside0.mk (blk_grown (blk_alloc HM2.out _) hg4 (port_Plan.neM (Kd.R_alloc H82.out (.cells #[.string x1, .string x2, .string x3, .string x4, .int .i64 x5] 47 (0, 0))) (blk_alloc HM2.out (.cells #[.string x1, .string x2, .string x3, .string x4, .int .i64 x5] 47 (0, 0))))); have HB3 := Aside0.mk hb4; clear ho hb4 hg4))
              go_roundg (cs.length - (y + 1))
              case measure => omega
              case rel => exact ⟨y + 1, _, f, by go_num, by omega, HA3, H83, H93, HCS3, HM3, HB3⟩
        · have hye : y = cs.length := by omega
          have hz := HA.out
          rw [List.drop_eq_nil_of_le (by omega), port_Plan.go] at hz
          have hz2 := Option.some.inj hz
          simp only [Prod.mk.injEq] at hz2
          obtain ⟨rfl, rfl, rfl⟩ := hz2
          have hd2 : decide ((y : Int) < (cs.length : Int)) = false := decide_eq_false (by omega)
          clear hz HA hye
          go_wp2
          go_ret3
          exact ⟨_, _, rfl, H8.out, Kd.R_mono H9.out (fun _ _ => trivial), HB.out⟩

end Go.Proofs.Ytdhmckgagffgkaa.PPortMore
