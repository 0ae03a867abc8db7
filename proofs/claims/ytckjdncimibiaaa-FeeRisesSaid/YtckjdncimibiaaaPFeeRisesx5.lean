-- Written by a program of this session's (a turned copy of the kit's print, with functions proved by hand).
import Derived.Test.YtckjdncimibiaaaPFeeRisesx0
import Derived.Test.YtckjdncimibiaaaPFeeRisesx4
namespace Go.Proofs.Ytckjdncimibiaaa.PFeeRises
open Go.RowKit Go.Proofs.YtckjdncimibiaaaW.PrintWords Go.Proofs.YtckjdncimibiaaaW.PrintLast Go.Proofs.YtckjdncimibiaaaW.PrintMore
attribute [local go_sem] max2_int min2_int max_two min_two max_three min_three max_four min_four Go.Proofs.YtckjdncimibiaaaHand.run_leq_str Go.Proofs.YtckjdncimibiaaaHand.run_gtr_str Go.Proofs.YtckjdncimibiaaaHand.run_geq_str   -- for this text's walks alone
set_option linter.unusedVariables false
set_option linter.unusedSimpArgs false

/-! ### fee_Lots: function 7 -/
/-- Up to where a band goes. -/
def fee_Lots.to (e : Int) : List S70 → Int
  | [] => e
  | c :: _ => mn e c.f0
/-- What each band costs. -/
def fee_Lots.go (k : Nat) (a0 e : Int) : List S70 → List Int → Option (List Int × Int)
  | [], t => some (t, 0)
  | b :: r, t => (fee_Band_cost.f k b.f0 b.f1 (mx (wrap64 (fee_Lots.to e r - mx b.f0 a0)) 0)).bind fun c => if c.2 = 0 then (if t.length < 1000000 then fee_Lots.go k a0 e r (t ++ [c.1]) else none) else some ([], c.2)
def fee_Lots.f (k : Nat) (a0 a1 : Int) (l2 : List S70) : Option (Int × Int) :=
  (fee_Check.f k l2).bind fun e0 => if e0 = 0 then ((fee_count.f a0).bind fun c0 => if c0 = true then ((fee_count.f a1).bind fun c1 => if c1 = true then ((fee_Lots.go k a0 (wrap64 (a0 + a1)) l2 []).bind fun x => if x.2 = 0 then cents_Sum.f k x.1 else some (0, x.2)) else some (0, 18)) else some (0, 18)) else some (0, e0)
theorem fee_Lots.mono_go (k : Nat) (a0 e : Int) (l : List S70) : ∀ t, LeO (fee_Lots.go k a0 e l t) (fee_Lots.go (k + 1) a0 e l t) := by
  induction l with
  | nil => intro t; exact LeO.refl _
  | cons b r ih =>
    intro t
    unfold fee_Lots.go
    exact LeO.bind (fee_Band_cost.mono _ _ _ _) (fun c => LeO.ite (LeO.ite (ih _) (LeO.refl _)) (LeO.refl _))
theorem fee_Lots.mono : ∀ a0 a1 a2 k, LeO (fee_Lots.f k a0 a1 a2) (fee_Lots.f (k + 1) a0 a1 a2) := by
  intro a0 a1 a2 k
  unfold fee_Lots.f
  exact LeO.bind (fee_Check.mono _ _) (fun e0 => LeO.ite (LeO.bind (LeO.refl _) (fun c0 => LeO.ite (LeO.bind (LeO.refl _) (fun c1 => LeO.ite (LeO.bind (fee_Lots.mono_go _ _ _ _ _) (fun x => LeO.ite (cents_Sum.mono _ _) (LeO.refl _))) (LeO.refl _))) (LeO.refl _))) (LeO.refl _))
set_option maxHeartbeats 3200000 in
set_option maxRecDepth 100000 in
theorem fee_Lots.calls (k : Nat) (a0 a1 : Int) (A2 : Option Addr) (c2 : Nat) (l2 : List (S70)) (r1 r2 : Int) (w : World) (hr2 : Kd.C k70 w A2 l2.length l2) (hc2 : l2.length ≤ c2) (h : fee_Lots.f k a0 a1 l2 = some (r1, r2)) :
    Calls Try.prog 7 #[.int .i64 a0, .int .i64 a1, .slice A2 l2.length c2] w fun e w' => e = .returned (.tuple #[.int .i64 r1, .int .i64 r2]) ∧ Below w.heap.size w w' := by
  obtain ⟨e0, hC0, h⟩ := Option.bind_eq_some_iff.mp h
  have HR2 := Aside0.mk hr2
  have hl1 := hr2.2.1
  have HC2 := Aside0.mk hc2
  have HE0 := Aside0.mk hC0
  have HH := Aside0.mk h
  clear hr2 hc2 hC0 h
  by_cases he : e0 = 0
  case neg =>
    have hh := HH.out
    rw [if_neg he] at hh
    have hh2 := Option.some.inj hh
    simp only [Prod.mk.injEq] at hh2
    obtain ⟨rfl, rfl⟩ := hh2
    have h0b : (e0 == 0) = false := beq_eq_false_iff_ne.mpr he
    have h1b : (e0 != 0) = true := bne_iff_ne.mpr he
    clear he hh HH
    go_enter Try.func7, Try.ntmps7
    go_wp2_with (go_at_call 10; refine (fee_Check.calls k A2 c2 l2 e0 _ HR2.out HC2.out HE0.out).mono ?_; rintro _ w1 ⟨rfl, hb⟩; have HB := Aside0.mk hb; clear hb)
    go_ret2
    exact ⟨rfl, HB.out⟩
  subst he
  have hh := HH.out
  rw [if_pos rfl] at hh
  obtain ⟨b0, hK0, hh⟩ := Option.bind_eq_some_iff.mp hh
  have HK0 := Aside0.mk hK0
  clear hK0 HH
  cases b0 with
  | false =>
    rw [if_neg (by decide)] at hh
    have hh2 := Option.some.inj hh
    simp only [Prod.mk.injEq] at hh2
    obtain ⟨rfl, rfl⟩ := hh2
    clear hh
    go_enter Try.func7, Try.ntmps7
    go_wp2_with (first | (go_at_call 10; refine (fee_Check.calls k A2 c2 l2 0 _ HR2.out HC2.out HE0.out).mono ?_; rintro _ w1 ⟨rfl, hb⟩; have HB := Aside0.mk hb; clear hb) | (go_at_call 20; refine (fee_count.calls a0 false _ HK0.out).mono ?_; rintro _ w2 ⟨rfl, hb⟩; have HB2 := Aside0.mk (below_step HB.out hb.below); clear hb))
    go_ret2
    exact ⟨rfl, HB2.out⟩
  | true =>
    rw [if_pos rfl] at hh
    obtain ⟨b1, hK1, hh⟩ := Option.bind_eq_some_iff.mp hh
    have HK1 := Aside0.mk hK1
    clear hK1
    have AR : True := trivial
    cases b1 with
    | false =>
      rw [if_neg (by decide)] at hh
      have hh2 := Option.some.inj hh
      simp only [Prod.mk.injEq] at hh2
      obtain ⟨rfl, rfl⟩ := hh2
      clear hh
      go_enter Try.func7, Try.ntmps7
      have tok1 : True := trivial
      go_wp2_with (first | (go_at_call 10; refine (fee_Check.calls k A2 c2 l2 0 _ HR2.out HC2.out HE0.out).mono ?_; rintro _ w1 ⟨rfl, hb⟩; have HB := Aside0.mk hb; clear hb) | (go_at_call 20; have _t := tok1; ((with_reducible refine (fee_count.calls a0 true _ HK0.out).mono ?_); rintro _ w2 ⟨rfl, hb⟩; have HB2 := Aside0.mk (below_step HB.out hb.below); clear hb tok1 _t)) | (go_at_call 20; refine (fee_count.calls a1 false _ HK1.out).mono ?_; rintro _ w3 ⟨rfl, hb⟩; have HB3 := Aside0.mk (below_step HB2.out hb.below); clear hb))
      go_ret2
      exact ⟨rfl, HB3.out⟩
    | true =>
      rw [if_pos rfl] at hh
      obtain ⟨⟨tt, ee⟩, hG, hh⟩ := Option.bind_eq_some_iff.mp hh
      have HG := Aside0.mk hG
      have HH := Aside0.mk hh
      clear hG hh
      go_enter Try.func7, Try.ntmps7
      have tok1 : True := trivial
      go_wp2_with (first | (go_at_call 10; refine (fee_Check.calls k A2 c2 l2 0 _ HR2.out HC2.out HE0.out).mono ?_; rintro _ w1 ⟨rfl, hb⟩; have HB := Aside0.mk hb; clear hb) | (go_at_call 20; have _t := tok1; ((with_reducible refine (fee_count.calls a0 true _ HK0.out).mono ?_); rintro _ w2 ⟨rfl, hb⟩; have HB2 := Aside0.mk (below_step HB.out hb.below); clear hb tok1 _t)) | (go_at_call 20; refine (fee_count.calls a1 true _ HK1.out).mono ?_; rintro _ w3 ⟨rfl, hb⟩; have HB3 := Aside0.mk (below_step HB2.out hb.below); clear hb))
      clear HB HB2 HE0 HK0 HK1
      generalize wrap64 (a0 + a1) = en at *
      go_loopg [11, 35] l2.length (fun kq v11 v35 w' => ∃ (x : Nat) (t : List Int), v35 = .int .i64 (x : Int) ∧ kq + x = l2.length ∧ Aside0 (fee_Lots.go k a0 en (l2.drop x) t = some (tt, ee)) ∧ Aside0 (Kd.R (Kd.int .i64) 3 w' w.heap.size (fun _ => True) v11 t) ∧ Aside0 (Below w.heap.size w w'))
      case atStart => exact ⟨0, [], rfl, by omega, HG, ⟨Kd.R_nil _ _ _ _ _⟩, HB3⟩
      case round =>
        clear HG HB3
        obtain ⟨x, t, rfl, hx, HA, HR, HB⟩ := hrel
        have hsz := HB.out.size
        by_cases hlt : x < l2.length
        · obtain ⟨ad, ead, h0, h1⟩ := at_T70 HR2.out (x : Int) (by omega) (by omega)
          cases ead
          simp only [Int.toNat_natCast] at h0 h1
          have hdr : l2.drop x = rd_T70 l2 x :: l2.drop (x + 1) := by
            rw [List.drop_eq_getElem_cons hlt]
            simp [rd_T70, hlt]
          have hA := HA.out
          rw [hdr, fee_Lots.go] at hA
          clear hdr HA
          generalize hp : rd_T70 l2 x = p at *
          clear hp
          obtain ⟨p0, p1⟩ := p
          simp only at h0 h1 hA
          have h0 := pw_cell_below HB.out h0
          have h1 := pw_cell_below HB.out h1
          by_cases hx1 : x + 1 < l2.length
          · obtain ⟨ad2, ead2, g0, g1⟩ := at_T70 HR2.out ((x + 1 : Nat) : Int) (by omega) (by omega)
            cases ead2
            simp only [Int.toNat_natCast] at g0 g1
            have hdr2 : l2.drop (x + 1) = rd_T70 l2 ((x + 1 : Nat) : Int) :: l2.drop (x + 2) := by
              rw [List.drop_eq_getElem_cons hx1]
              simp [rd_T70, hx1]
            have hto : fee_Lots.to en (l2.drop (x + 1)) = mn en (rd_T70 l2 ((x + 1 : Nat) : Int)).f0 := by rw [hdr2]; rfl
            rw [hto] at hA
            clear hdr2 hto
            have g0 := pw_cell_below HB.out g0
            have hltg := World.block_lt_of_cell? _ _ g0
            have hd1 : decide (((x : Int) + 1) < (l2.length : Int)) = true := decide_eq_true (by omega)
            generalize hn : (rd_T70 l2 ((x + 1 : Nat) : Int)).f0 = nx at *
            clear hn g1
            obtain ⟨⟨c, ce⟩, hCO, hA⟩ := Option.bind_eq_some_iff.mp hA
            simp only at hA
            have HCO := Aside0.mk hCO
            clear hCO
            by_cases he : ce = 0
            case neg =>
              rw [if_neg he] at hA
              have hA2 := Option.some.inj hA
              simp only [Prod.mk.injEq] at hA2
              obtain ⟨rfl, rfl⟩ := hA2
              have hh := HH.out
              rw [if_neg he] at hh
              have hh2 := Option.some.inj hh
              simp only [Prod.mk.injEq] at hh2
              obtain ⟨rfl, rfl⟩ := hh2
              have h0b : (ce == 0) = false := beq_eq_false_iff_ne.mpr he
              have h1b : (ce != 0) = true := bne_iff_ne.mpr he
              clear he hA hh HH
              go_wp2_with ((go_at_call 21; refine (fee_Band_cost.calls k p0 p1 (mx (wrap64 (mn en nx - mx p0 a0)) 0) c ce _ HCO.out).mono ?_; rintro _ w5 ⟨rfl, hb⟩; have HB5 := Aside0.mk (below_step (HB.out.alloc HB.out.size (.cells #[.int .i64 p0, .int .i64 p1] 70 (0, 0))) hb); have HR5 := Aside0.mk (Kd.R_below (Kd.R_alloc HR.out (.cells #[.int .i64 p0, .int .i64 p1] 70 (0, 0))) hb); clear hb))
              all_goals (go_ret2; exact ⟨rfl, HB5.out⟩)
            subst he
            rw [if_pos rfl] at hA
            by_cases hln : t.length < 1000000
            case neg => rw [if_neg hln] at hA; cases hA
            rw [if_pos hln] at hA
            have HA2 := Aside0.mk hA
            have HLN : Aside0 ((t.length + 1) * 8 ≤ 140737488355328) := ⟨by omega⟩
            clear hA hln
            go_wp2_with (first | (go_at_call 21; refine (fee_Band_cost.calls k p0 p1 (mx (wrap64 (mn en nx - mx p0 a0)) 0) c 0 _ HCO.out).mono ?_; rintro _ w5 ⟨rfl, hb⟩; have HB5 := Aside0.mk (below_step (HB.out.alloc HB.out.size (.cells #[.int .i64 p0, .int .i64 p1] 70 (0, 0))) hb); have HR5 := Aside0.mk (Kd.R_below (Kd.R_alloc HR.out (.cells #[.int .i64 p0, .int .i64 p1] 70 (0, 0))) hb); clear hb) | ((with_reducible refine gate_builtin (b := .append) (xs := #[.tmp 70, .tmp 72]) rfl ?_); at_builtin; refine Kd.R_append (Kd.int .i64) (w0 := w) w.heap.size rfl (.tmp 70) (.tmp 72) 71 3 (.int .i64 0) 8 rfl Try.underlying71 info3 rfl (by decide) (by decide) u11 t c [.int .i64 c] (fun _ => True) (fun _ => False) rfl ?aX ?aP (fun _ hk => hk.elim) (fun _ _ => trivial) HR5.out HB5.out HB5.out.size ?aL ?_; (case aX => rfl); (case aP => rfl); (case aL => exact HLN.out); intro v9 w9 ho hb9 hg9 _; have HR9 := Aside0.mk ho; have HB9 := Aside0.mk hb9; clear ho hb9 hg9))
            all_goals (go_roundg (l2.length - (x + 1)); (case measure => omega); (case rel => exact ⟨x + 1, _, by go_num, by omega, HA2, HR9, HB9⟩))
          · have hdr2 : l2.drop (x + 1) = [] := List.drop_eq_nil_of_le (by omega)
            have hd1 : decide (((x : Int) + 1) < (l2.length : Int)) = false := decide_eq_false (by omega)
            have hto : fee_Lots.to en (l2.drop (x + 1)) = en := by rw [hdr2]; rfl
            rw [hto] at hA
            clear hdr2 hto
            obtain ⟨⟨c, ce⟩, hCO, hA⟩ := Option.bind_eq_some_iff.mp hA
            simp only at hA
            have HCO := Aside0.mk hCO
            clear hCO
            by_cases he : ce = 0
            case neg =>
              rw [if_neg he] at hA
              have hA2 := Option.some.inj hA
              simp only [Prod.mk.injEq] at hA2
              obtain ⟨rfl, rfl⟩ := hA2
              have hh := HH.out
              rw [if_neg he] at hh
              have hh2 := Option.some.inj hh
              simp only [Prod.mk.injEq] at hh2
              obtain ⟨rfl, rfl⟩ := hh2
              have h0b : (ce == 0) = false := beq_eq_false_iff_ne.mpr he
              have h1b : (ce != 0) = true := bne_iff_ne.mpr he
              clear he hA hh HH
              go_wp2_with ((go_at_call 21; refine (fee_Band_cost.calls k p0 p1 (mx (wrap64 (en - mx p0 a0)) 0) c ce _ HCO.out).mono ?_; rintro _ w5 ⟨rfl, hb⟩; have HB5 := Aside0.mk (below_step (HB.out.alloc HB.out.size (.cells #[.int .i64 p0, .int .i64 p1] 70 (0, 0))) hb); have HR5 := Aside0.mk (Kd.R_below (Kd.R_alloc HR.out (.cells #[.int .i64 p0, .int .i64 p1] 70 (0, 0))) hb); clear hb))
              all_goals (go_ret2; exact ⟨rfl, HB5.out⟩)
            subst he
            rw [if_pos rfl] at hA
            by_cases hln : t.length < 1000000
            case neg => rw [if_neg hln] at hA; cases hA
            rw [if_pos hln] at hA
            have HA2 := Aside0.mk hA
            have HLN : Aside0 ((t.length + 1) * 8 ≤ 140737488355328) := ⟨by omega⟩
            clear hA hln
            go_wp2_with (first | (go_at_call 21; refine (fee_Band_cost.calls k p0 p1 (mx (wrap64 (en - mx p0 a0)) 0) c 0 _ HCO.out).mono ?_; rintro _ w5 ⟨rfl, hb⟩; have HB5 := Aside0.mk (below_step (HB.out.alloc HB.out.size (.cells #[.int .i64 p0, .int .i64 p1] 70 (0, 0))) hb); have HR5 := Aside0.mk (Kd.R_below (Kd.R_alloc HR.out (.cells #[.int .i64 p0, .int .i64 p1] 70 (0, 0))) hb); clear hb) | ((with_reducible refine gate_builtin (b := .append) (xs := #[.tmp 70, .tmp 72]) rfl ?_); at_builtin; refine Kd.R_append (Kd.int .i64) (w0 := w) w.heap.size rfl (.tmp 70) (.tmp 72) 71 3 (.int .i64 0) 8 rfl Try.underlying71 info3 rfl (by decide) (by decide) u11 t c [.int .i64 c] (fun _ => True) (fun _ => False) rfl ?aX ?aP (fun _ hk => hk.elim) (fun _ _ => trivial) HR5.out HB5.out HB5.out.size ?aL ?_; (case aX => rfl); (case aP => rfl); (case aL => exact HLN.out); intro v9 w9 ho hb9 hg9 _; have HR9 := Aside0.mk ho; have HB9 := Aside0.mk hb9; clear ho hb9 hg9))
            all_goals (go_roundg (l2.length - (x + 1)); (case measure => omega); (case rel => exact ⟨x + 1, _, by go_num, by omega, HA2, HR9, HB9⟩))
        · have hxe : x = l2.length := by omega
          have hA := HA.out
          rw [List.drop_eq_nil_of_le (by omega), fee_Lots.go] at hA
          have hA2 := Option.some.inj hA
          simp only [Prod.mk.injEq] at hA2
          obtain ⟨rfl, rfl⟩ := hA2
          have hh := HH.out
          rw [if_pos rfl] at hh
          have HS := Aside0.mk hh
          have hd : decide ((x : Int) < (l2.length : Int)) = false := decide_eq_false (by omega)
          obtain ⟨A9, c9, e9⟩ := Kd.R_slice HR.out
          subst e9
          clear hh HH hA HA hxe
          go_wp2_with (go_at_call 22; refine (cents_Sum.calls k A9 c9 t r1 r2 _ (Kd.R_reads' HR.out).2.2 (Kd.R_reads' HR.out).2.1 HS.out).mono ?_; rintro _ w8 ⟨rfl, hb⟩; have HB8 := Aside0.mk (below_step HB.out hb.below); clear hb)
          go_ret2
          exact ⟨rfl, HB8.out⟩

/-! ### contangolaw38_Bands: function 8 -/
def contangolaw38_Bands.l0 : Nat → List (S73) → List (S70) → Int → Option ((List (S70)))
  | 0, _, _, _ => none
  | k + 1, x0, x3, x4 => if x4 < (x0.length : Int) then (if 0 ≤ x4 then (if x3.length < 8796093022208 then (contangolaw38_Bands.l0 k x0 (x3 ++ [(⟨(rd_T73 x0 x4).f0, (rd_T73 x0 x4).f1⟩ : S70)]) (wrap64 (x4 + 1))) else (none)) else (none)) else (some x3)
def contangolaw38_Bands.f (k : Nat) (l0 : List (S73)) : Option ((List (S70))) := contangolaw38_Bands.l0 k l0 ([] : List (S70)) 0
theorem contangolaw38_Bands.mono_l : ∀ k, (∀ y0 y1 y2, LeO (contangolaw38_Bands.l0 k y0 y1 y2) (contangolaw38_Bands.l0 (k + 1) y0 y1 y2))
  | 0 => fun _ _ _ r h => by simp [contangolaw38_Bands.l0] at h
  | k + 1 => by
    have ih0 := contangolaw38_Bands.mono_l k
    · intro y0 y1 y2
      unfold contangolaw38_Bands.l0
      repeat' first
      | (with_reducible exact ih0 _ _ _)
      | (with_reducible exact LeO.refl _)
      | (with_reducible exact LeO.none _)
      | (with_reducible refine LeO.ite ?_ ?_)
      | (with_reducible refine LeO.bind ?_ (fun _ => ?_))
      | exact ih0 _ _ _
      | exact LeO.none _
      | refine LeO.ite ?_ ?_
      | refine LeO.bind ?_ (fun _ => ?_)
theorem contangolaw38_Bands.mono : ∀ a0 k, LeO (contangolaw38_Bands.f k a0) (contangolaw38_Bands.f (k + 1) a0) := by
  intro a0 k
  have ih0 := contangolaw38_Bands.mono_l k
  unfold contangolaw38_Bands.f
  repeat' first
      | (with_reducible exact ih0 _ _ _)
      | (with_reducible exact LeO.refl _)
      | (with_reducible exact LeO.none _)
      | (with_reducible refine LeO.ite ?_ ?_)
      | (with_reducible refine LeO.bind ?_ (fun _ => ?_))
      | exact ih0 _ _ _
      | exact LeO.none _
      | refine LeO.ite ?_ ?_
      | refine LeO.bind ?_ (fun _ => ?_)
def contangolaw38_Bands.T5 : Bool × List (List Nat × List Nat) := (true, [([], []), ([], []), ([], []), ([1, 2], [1, 2]), ([3], [3]), ([4], [4]), ([], []), ([], []), ([6, 7], [6, 7]), ([8], [8]), ([9], [9]), ([5, 10], [5, 10]), ([11], [11]), ([0, 12], [0, 12]), ([13, 13, 0, 1, 2, 3, 4, 5, 6, 7, 8, 9, 10, 11, 12, 13], [0, 13])])
def contangolaw38_Bands.B5 : List Nat := [0, 0, 0, 6, 14, 30, 0, 0, 192, 448, 960, 2046, 4094, 8191, 16383]
theorem contangolaw38_Bands.tab5 : rtab .any (opsOf Try.f8 5) = contangolaw38_Bands.T5 := by kernel_rfl
theorem contangolaw38_Bands.bits5 : waitsOk contangolaw38_Bands.T5.2 contangolaw38_Bands.B5 = true := by kernel_rfl
set_option maxHeartbeats 8000000 in
set_option maxRecDepth 100000 in
theorem contangolaw38_Bands.calls (k : Nat) (A0 : Option Addr) (c0 : Nat) (l0 : List (S73)) (r : List (S70)) (w : World) (hr0 : Kd.C k73 w A0 l0.length l0) (hc0 : l0.length ≤ c0) (h : contangolaw38_Bands.f k l0 = some r) :
    Calls Try.prog 8 #[.slice A0 l0.length c0] w fun e w' => ∃ v0_ : Value, e = .returned (v0_) ∧ Kd.R k70 70 w' w.heap.size (fun _ => True) v0_ r ∧ Below w.heap.size w w' := by
  have hu70 := Try.underlying70
  have HR0 := Aside0.mk hr0
  have HC0 := Aside0.mk hc0
  clear hr0 hc0
  have HB := Aside0.mk (Below.refl w.heap.size w)
  have H : (contangolaw38_Bands.l0 k l0 ([] : List (S70)) 0) = some r := h
  clear h
  have H' := Aside0.mk H
  clear H
  go_enter Try.func8, Try.ntmps8
  go_wp2
  go_loopg [3, 4] k (fun kq v3 v4 w' => ∃ (x3_1 : List (S70)) (x4_1 : Int), v4 = .int .i64 x4_1 ∧ Aside0 (contangolaw38_Bands.l0 kq l0 x3_1 x4_1 = some r) ∧ Aside0 (kq ≤ k) ∧ Aside0 (Kd.R k70 70 w' w.heap.size (fun _ => True) v3 x3_1) ∧ Aside0 (Below w.heap.size w w'))
  case atStart => exact ⟨(([] : List (S70))), (0), (by first | rfl | (simp; done) | (simp [*]; done)), H', ⟨Nat.le_refl _⟩, ⟨by first | exact Kd.R_nil _ _ _ _ _ | exact Kd.N_nil _ _ _ _ _ | exact Kd.V_nil _ _ _ _ _ | exact Kd.Q_nil _ _ _ _ _ | exact Kd.S_nil _ _ _ _ _⟩, ⟨by repeat (first | (with_reducible first | exact HB.out | apply below_alloc | apply pw_below_drewN | apply below_drew1) | exact HB.out)⟩⟩
  case round =>
    clear H'
    obtain ⟨x3_1, x4_1, rfl, HA, HK1, HO_3, HB⟩ := hrel
    cases gk with
    | zero => exact absurd HA.out (by simp [contangolaw38_Bands.l0])
    | succ k1 =>
      have H := HA.out
      clear HA
      simp only [contangolaw38_Bands.l0] at H
      by_cases c2 : x4_1 < (l0.length : Int)
      · rw [if_pos c2] at H
        have c2b0 : decide (x4_1 < (l0.length : Int)) = true := decide_eq_true c2
        clear c2
        by_cases c3 : 0 ≤ x4_1
        · rw [if_pos c3] at H
          have c3b0 : decide (0 ≤ x4_1) = true := decide_eq_true c3
          clear c3
          by_cases c4 : x3_1.length < 8796093022208
          · rw [if_pos c4] at H
            have LMc4 := Aside0.mk c4
            clear c4
            obtain ⟨y128, hy128⟩ : ∃ y_ : List (S70), y_ = (x3_1 ++ [(⟨(rd_T73 l0 x4_1).f0, (rd_T73 l0 x4_1).f1⟩ : S70)]) := ⟨_, rfl⟩
            replace H : (contangolaw38_Bands.l0 k1 l0 y128 (wrap64 (x4_1 + 1))) = some r := by first | (rw [hy128]; with_reducible exact H) | (have H2_ := (Option.bind_some _ _).symm.trans H; rw [hy128]; with_reducible exact H2_) | (have H2_ := (Option.bind_some _ _).symm.trans H; with_reducible exact H2_) | with_reducible exact H | (rw [hy128]; exact H) | exact H
            have Ny128 := Aside0.mk hy128
            clear hy128
            have H' := Aside0.mk H
            clear H
            try go_wp2
            have n0_ := Aside0.mk (Kd.R_drew HO_3.out)
            have n1_ := Aside0.mk (below_drew1 HB.out)
            clear HO_3
            clear HB
            have HO_3 := n0_
            have HB := n1_
            clear n0_ n1_
            have p126 : 0 ≤ (x4_1 : Int) := of_decide_eq_true (by first | (with_reducible assumption) | assumption)
            have q126 : x4_1 < (l0.length : Int) := of_decide_eq_true (by first | (with_reducible assumption) | assumption)
            obtain ⟨ad126, e126, hx126_0, hx126_1⟩ := at_T73 HR0.out x4_1 p126 q126
            have hw126_1 := hx126_1
            have hw126_0 := hx126_0
            cases e126
            replace hx126_0 := (HB.out.cell (World.block_lt_of_cell? w _ hx126_0)).trans hx126_0
            replace hx126_1 := (HB.out.cell (World.block_lt_of_cell? w _ hx126_1)).trans hx126_1
            replace p126 := eq_true p126
            replace q126 := eq_true q126
            have p127 : 0 ≤ (x4_1 : Int) := of_decide_eq_true (by first | (with_reducible assumption) | assumption)
            have q127 : x4_1 < (l0.length : Int) := of_decide_eq_true (by first | (with_reducible assumption) | assumption)
            obtain ⟨ad127, e127, hx127_0, hx127_1⟩ := at_T73 HR0.out x4_1 p127 q127
            have hw127_1 := hx127_1
            have hw127_0 := hx127_0
            obtain rfl : ad126 = ad127 := (by injection e127)
            replace hx127_0 := (HB.out.cell (World.block_lt_of_cell? w _ hx127_0)).trans hx127_0
            replace hx127_1 := (HB.out.cell (World.block_lt_of_cell? w _ hx127_1)).trans hx127_1
            replace p127 := eq_true p127
            replace q127 := eq_true q127
            refine start_ (n := 15) (S := fun w' => w'.cell? (ad126.add ((x4_1).toNat * 2)) = some (.int .i64 ((rd_T73 l0 x4_1).f0)) ∧ w'.cell? ⟨(ad126.add ((x4_1).toNat * 2)).block, (ad126.add ((x4_1).toNat * 2)).off + 1, none⟩ = some (.int .i64 ((rd_T73 l0 x4_1).f1)) ∧ w'.cell? (ad126.add ((x4_1).toNat * 2)) = some (.int .i64 ((rd_T73 l0 x4_1).f0)) ∧ w'.cell? ⟨(ad126.add ((x4_1).toNat * 2)).block, (ad126.add ((x4_1).toNat * 2)).off + 1, none⟩ = some (.int .i64 ((rd_T73 l0 x4_1).f1))) (ds := []) #[false, false, false, false, false, false, false, false, false, false, false, false, false, false, false] (by kernel_rfl) rfl rfl ⟨((HB.out.cell (World.block_lt_of_cell? w _ hw126_0)).trans hw126_0), ((HB.out.cell (World.block_lt_of_cell? w _ hw126_1)).trans hw126_1), ((HB.out.cell (World.block_lt_of_cell? w _ hw127_0)).trans hw127_0), ((HB.out.cell (World.block_lt_of_cell? w _ hw127_1)).trans hw127_1)⟩ (fun hHeld => ?_); refine with_tabW contangolaw38_Bands.tab5 contangolaw38_Bands.bits5 (fun HT_ HW_ => ?_)
            generalize wr.drew = w5 at HO_3 HB hx126_0 hx126_1 hx127_0 hx127_1 hHeld ⊢
            refine pure_ (i := 0) (N := some 11) (v := ?_) (a' := ?_) #[true, false, false, false, false, false, false, false, false, false, false, false, false, false, false] rfl rfl (any_of HT_.out (by kernel_rfl)) (fun _ _ _ h => h) (Or.inl ⟨by rfl, ?_⟩) ?_ ?_
            rotate_left
            · intro w'
              go_simp
              with_reducible rfl
            rotate_left
            · simp only [Act.put, List.setIfInBounds_toArray, List.set_cons_zero, List.set_cons_succ, i64_w, i32_w]
              rfl
            refine pure_ (i := 1) (N := some 12) (v := ?_) (a' := ?_) #[true, true, false, false, false, false, false, false, false, false, false, false, false, false, false] rfl rfl (any_of HT_.out (by kernel_rfl)) (fun _ _ _ h => h) (Or.inl ⟨by rfl, ?_⟩) ?_ ?_
            rotate_left
            · intro w'
              go_simp
              with_reducible rfl
            rotate_left
            · simp only [Act.put, List.setIfInBounds_toArray, List.set_cons_zero, List.set_cons_succ, i64_w, i32_w]
              rfl
            refine pure_ (i := 2) (N := some 13) (v := ?_) (a' := ?_) #[true, true, true, false, false, false, false, false, false, false, false, false, false, false, false] rfl rfl (any_of HT_.out (by kernel_rfl)) (fun _ _ _ h => h) (Or.inl ⟨by rfl, ?_⟩) ?_ ?_
            rotate_left
            · intro w'
              go_simp
              with_reducible rfl
            rotate_left
            · simp only [Act.put, List.setIfInBounds_toArray, List.set_cons_zero, List.set_cons_succ, i64_w, i32_w]
              rfl
            refine pure_ (i := 3) (N := some 14) (v := ?_) (a' := ?_) #[true, true, true, true, false, false, false, false, false, false, false, false, false, false, false] rfl rfl (any_of HT_.out (by kernel_rfl)) (fun _ _ _ h => h) (Or.inl ⟨by rfl, ?_⟩) ?_ ?_
            rotate_left
            · intro w'
              go_simp
              with_reducible rfl
            rotate_left
            · simp only [Act.put, List.setIfInBounds_toArray, List.set_cons_zero, List.set_cons_succ, i64_w, i32_w]
              rfl
            refine pure_ (i := 4) (N := some 15) (v := ?_) (a' := ?_) #[true, true, true, true, true, false, false, false, false, false, false, false, false, false, false] rfl rfl (any_of HT_.out (by kernel_rfl)) (fun _ _ _ h => h) (Or.inl ⟨by rfl, ?_⟩) ?_ ?_
            rotate_left
            · intro w'
              go_simp
              with_reducible rfl
            rotate_left
            · simp only [Act.put, List.setIfInBounds_toArray, List.set_cons_zero, List.set_cons_succ, i64_w, i32_w]
              rfl
            refine pure_ (i := 6) (N := some 17) (v := ?_) (a' := ?_) #[true, true, true, true, true, false, true, false, false, false, false, false, false, false, false] rfl rfl (any_of HT_.out (by kernel_rfl)) (fun _ _ _ h => h) (Or.inl ⟨by rfl, ?_⟩) ?_ ?_
            rotate_left
            · intro w'
              go_simp
              with_reducible rfl
            rotate_left
            · simp only [Act.put, List.setIfInBounds_toArray, List.set_cons_zero, List.set_cons_succ, i64_w, i32_w]
              rfl
            refine pure_ (i := 7) (N := some 18) (v := ?_) (a' := ?_) #[true, true, true, true, true, false, true, true, false, false, false, false, false, false, false] rfl rfl (any_of HT_.out (by kernel_rfl)) (fun _ _ _ h => h) (Or.inl ⟨by rfl, ?_⟩) ?_ ?_
            rotate_left
            · intro w'
              go_simp
              with_reducible rfl
            rotate_left
            · simp only [Act.put, List.setIfInBounds_toArray, List.set_cons_zero, List.set_cons_succ, i64_w, i32_w]
              rfl
            refine pure_ (i := 8) (N := some 19) (v := ?_) (a' := ?_) #[true, true, true, true, true, false, true, true, true, false, false, false, false, false, false] rfl rfl (any_of HT_.out (by kernel_rfl)) (fun _ _ _ h => h) (Or.inl ⟨by rfl, ?_⟩) ?_ ?_
            rotate_left
            · intro w'
              go_simp
              with_reducible rfl
            rotate_left
            · simp only [Act.put, List.setIfInBounds_toArray, List.set_cons_zero, List.set_cons_succ, i64_w, i32_w]
              rfl
            refine pure_ (i := 9) (N := some 20) (v := ?_) (a' := ?_) #[true, true, true, true, true, false, true, true, true, true, false, false, false, false, false] rfl rfl (any_of HT_.out (by kernel_rfl)) (fun _ _ _ h => h) (Or.inl ⟨by rfl, ?_⟩) ?_ ?_
            rotate_left
            · intro w'
              go_simp
              with_reducible rfl
            rotate_left
            · simp only [Act.put, List.setIfInBounds_toArray, List.set_cons_zero, List.set_cons_succ, i64_w, i32_w]
              rfl
            refine take_ (i := 5) (N := some 16) (v := ?_) (a' := ?_) #[true, true, true, true, true, true, true, true, true, true, false, false, false, false, false] rfl rfl (take_ofW HT_.out HW_.out (by kernel_rfl)) (fun _ _ _ h => h) (Or.inl ⟨by rfl, ?_⟩) hHeld ?_ ?_
            rotate_left
            · rintro w' ⟨s0, s1, s2, s3⟩
              go_simp
              with_reducible rfl
            rotate_left
            · simp only [Act.put, List.setIfInBounds_toArray, List.set_cons_zero, List.set_cons_succ, i64_w, i32_w]
              rfl
            refine take_ (i := 10) (N := some 21) (v := ?_) (a' := ?_) #[true, true, true, true, true, true, true, true, true, true, true, false, false, false, false] rfl rfl (take_ofW HT_.out HW_.out (by kernel_rfl)) (fun _ _ _ h => h) (Or.inl ⟨by rfl, ?_⟩) hHeld ?_ ?_
            rotate_left
            · rintro w' ⟨s0, s1, s2, s3⟩
              go_simp
              with_reducible rfl
            rotate_left
            · simp only [Act.put, List.setIfInBounds_toArray, List.set_cons_zero, List.set_cons_succ, i64_w, i32_w]
              rfl
            refine pure_ (i := 11) (N := some 22) (v := ?_) (a' := ?_) #[true, true, true, true, true, true, true, true, true, true, true, true, false, false, false] rfl rfl (any_of HT_.out (by kernel_rfl)) (fun _ _ _ h => h) (Or.inl ⟨by rfl, ?_⟩) ?_ ?_
            rotate_left
            · intro w'
              go_simp
              with_reducible rfl
            rotate_left
            · simp only [Act.put, List.setIfInBounds_toArray, List.set_cons_zero, List.set_cons_succ, i64_w, i32_w]
              rfl
            refine one_ (i := 12) (N := some 23) #[true, true, true, true, true, true, true, true, true, true, true, true, true, false, false] rfl rfl (one_of HT_.out (by kernel_rfl)) (by decide) (fun K hK => ?_)
            refine value_ (w1 := ?_) (v := ?_) (by rfl) rfl ?_ ?_
            rotate_left 2
            · go_simp
              constructor
              · rfl
              · rfl
            refine hK.out _ _ ⟨(World.cell?_alloc_lt _ _ _ (World.block_lt_of_cell? _ _ (((HB.out.cell (World.block_lt_of_cell? w _ hw126_0)).trans hw126_0)))).trans (((HB.out.cell (World.block_lt_of_cell? w _ hw126_0)).trans hw126_0)), (World.cell?_alloc_lt _ _ _ (World.block_lt_of_cell? _ _ (((HB.out.cell (World.block_lt_of_cell? w _ hw126_1)).trans hw126_1)))).trans (((HB.out.cell (World.block_lt_of_cell? w _ hw126_1)).trans hw126_1)), (World.cell?_alloc_lt _ _ _ (World.block_lt_of_cell? _ _ (((HB.out.cell (World.block_lt_of_cell? w _ hw127_0)).trans hw127_0)))).trans (((HB.out.cell (World.block_lt_of_cell? w _ hw127_0)).trans hw127_0)), (World.cell?_alloc_lt _ _ _ (World.block_lt_of_cell? _ _ (((HB.out.cell (World.block_lt_of_cell? w _ hw127_1)).trans hw127_1)))).trans (((HB.out.cell (World.block_lt_of_cell? w _ hw127_1)).trans hw127_1))⟩ (fun hHeld => ?_)
            clear hK K
            refine norm_ (a' := ?_) ?_ ?_
            rotate_left
            · show Act.put _ (some 23) _ = _
              simp only [Act.put, List.setIfInBounds_toArray, List.set_cons_zero, List.set_cons_succ, i64_w, i32_w]
              rfl
            refine one_ (i := 13) (N := some 24) #[true, true, true, true, true, true, true, true, true, true, true, true, true, true, false] rfl rfl (one_of HT_.out (by kernel_rfl)) (by decide) (fun K hK => ?_)
            refine Kd.R_append_step k70 (w0 := w) w.heap.size (by rfl) (.tmp 11) (.tmp 23) 26 70 (.agg #[(.int .i64 0), (.int .i64 0)]) 16 rfl Try.underlying26 info70 rfl (by decide) (by omega) u3 x3_1 (⟨(rd_T73 l0 x4_1).f0, (rd_T73 l0 x4_1).f1⟩ : S70) [.int .i64 ((rd_T73 l0 x4_1).f0), .int .i64 ((rd_T73 l0 x4_1).f1)] (fun _ => True) (fun _ => False) rfl rfl ?aP (fun _ hk => hk.elim) ?aF ?aO ?aB ?aS ?aL ?_
            (case aP => exact k70_mkM _ _ _ (⟨(rd_T73 l0 x4_1).f0, (rd_T73 l0 x4_1).f1⟩ : S70))
            (case aB => exact (by repeat (first | (with_reducible first | exact HB.out | apply below_alloc | apply pw_below_drewN | apply below_drew1) | exact HB.out)))
            (case aF => exact (fun _ _ => trivial))
            (case aO => exact (by (with_reducible repeat (first | apply Kd.R_alloc | apply Kd.R_drewN | apply Kd.R_drew)); exact HO_3.out))
            (case aS => exact (below_size (by repeat (first | (with_reducible first | exact HB.out | apply below_alloc | apply pw_below_drewN | apply below_drew1) | exact HB.out))))
            (case aL => have := LMc4.out; omega)
            intro v129 w6 ho hb hg hat
            rw [← Ny128.out] at ho
            have n0_ := Aside0.mk (hb)
            have n1_ := Aside0.mk (ho)
            clear HB
            clear HO_3
            have HB := n0_
            have HO130 := n1_
            clear n0_ n1_
            clear ho hb hg hat
            refine hK.out _ _ ⟨((HB.out.cell (World.block_lt_of_cell? w _ hw126_0)).trans hw126_0), ((HB.out.cell (World.block_lt_of_cell? w _ hw126_1)).trans hw126_1), ((HB.out.cell (World.block_lt_of_cell? w _ hw127_0)).trans hw127_0), ((HB.out.cell (World.block_lt_of_cell? w _ hw127_1)).trans hw127_1)⟩ (fun hHeld => ?_)
            clear hK K
            refine norm_ (a' := ?_) ?_ ?_
            rotate_left
            · show Act.put _ (some 24) _ = _
              simp only [Act.put, List.setIfInBounds_toArray, List.set_cons_zero, List.set_cons_succ, i64_w, i32_w]
              rfl
            refine pure_ (i := 14) (N := some 3) (v := ?_) (a' := ?_) #[true, true, true, true, true, true, true, true, true, true, true, true, true, true, true] rfl rfl (any_of HT_.out (by kernel_rfl)) (fun _ _ _ h => h) (Or.inl ⟨by rfl, ?_⟩) ?_ ?_
            rotate_left
            · intro w'
              go_simp
              with_reducible rfl
            rotate_left
            · simp only [Act.put, List.setIfInBounds_toArray, List.set_cons_zero, List.set_cons_succ, i64_w, i32_w]
              rfl
            refine done_ (done_of HT_.out (by kernel_rfl)) ?_
            try go_wp2
            go_roundg k1
            case measure => have := HK1.out; omega
            case rel => exact ⟨(y128), (wrap64 (x4_1 + 1)), (by first | rfl | (simp; done) | (simp [*]; done)), H', ⟨by have := HK1.out; omega⟩, ⟨by (with_reducible repeat (first | apply Kd.R_alloc | apply Kd.R_drewN | apply Kd.R_drew)); exact HO130.out⟩, ⟨by repeat (first | (with_reducible first | exact HB.out | apply below_alloc | apply pw_below_drewN | apply below_drew1) | exact HB.out)⟩⟩
          · rw [if_neg c4] at H
            exact absurd H (by simp)
        · rw [if_neg c3] at H
          exact absurd H (by simp)
      · rw [if_neg c2] at H
        have c2b0 : decide (x4_1 < (l0.length : Int)) = false := decide_eq_false c2
        clear c2
        obtain rfl := Option.some.inj H
        go_wp2
        go_ret
        exact ⟨_, by first | rfl | (simp [errW_none, errW_some] <;> rfl) | (simp [*, errW_none, errW_some] <;> rfl), by (with_reducible repeat (first | apply Kd.R_alloc | apply Kd.R_drewN | apply Kd.R_drew)); exact HO_3.out, by repeat (first | (with_reducible first | exact HB.out | apply below_alloc | apply pw_below_drewN | apply below_drew1) | exact HB.out)⟩

/-! ### fee_long: function 26 -/
def fee_long.f (l0 : List (S61)) (l1 : List (S51)) : Option (Bool) := if (l0.length : Int) > 1024 then (some true) else (some (decide ((l1.length : Int) > 1024)))
set_option maxHeartbeats 8000000 in
set_option maxRecDepth 100000 in
theorem fee_long.calls (A0 : Option Addr) (c0 : Nat) (l0 : List (S61)) (A1 : Option Addr) (c1 : Nat) (l1 : List (S51)) (r : Bool) (w : World) (hr0 : Kd.C k61 w A0 l0.length l0) (hc0 : l0.length ≤ c0) (hr1 : Kd.C k51 w A1 l1.length l1) (hc1 : l1.length ≤ c1) (h : fee_long.f l0 l1 = some r) :
    Calls Try.prog 26 #[.slice A0 l0.length c0, .slice A1 l1.length c1] w fun e w' => e = .returned (.bool r) ∧ Drawn0 w w' := by
  have HR0 := Aside0.mk hr0
  have HC0 := Aside0.mk hc0
  clear hr0 hc0
  have HR1 := Aside0.mk hr1
  have HC1 := Aside0.mk hc1
  clear hr1 hc1
  have H : (if (l0.length : Int) > 1024 then (some true) else (some (decide ((l1.length : Int) > 1024)))) = some r := h
  clear h
  by_cases c3 : (l0.length : Int) > 1024
  · rw [if_pos c3] at H
    have c3b0 : decide (1024 < (l0.length : Int)) = true := decide_eq_true c3
    have c3b1 : decide (1024 < l0.length) = true := decide_eq_true (by omega)
    clear c3
    obtain rfl := Option.some.inj H
    go_enter Try.func26, Try.ntmps26
    go_wp2
    go_ret
    exact ⟨by first | rfl | (simp; done) | (simp [*]; done), by repeat (first | exact Drawn0.refl _ | apply Drawn0.step)⟩
  · rw [if_neg c3] at H
    have c3b0 : decide (1024 < (l0.length : Int)) = false := decide_eq_false c3
    have c3b1 : decide (1024 < l0.length) = false := decide_eq_false (by omega)
    clear c3
    obtain rfl := Option.some.inj H
    go_enter Try.func26, Try.ntmps26
    go_wp2
    go_ret
    exact ⟨by first | rfl | (simp; done) | (simp [*]; done), by repeat (first | exact Drawn0.refl _ | apply Drawn0.step)⟩

/-! ### fee_first: function 30 -/
/-- Where the first element of which p holds stands; -1. -/
def idxOf {α : Type} (p : α → Bool) : List α → Int → Int
  | [], _ => -1
  | x :: xs, i => if p x = true then i else idxOf p xs (i + 1)
theorem idxOf_drop {α : Type} (p : α → Bool) (l : List α) (z : α) (i : Nat) (h : i < l.length) : idxOf p (l.drop i) i = if p (l.getD i z) = true then (i : Int) else idxOf p (l.drop (i + 1)) ((i + 1 : Nat) : Int) := by
  rw [List.drop_eq_getElem_cons h]
  simp [idxOf, List.getD_eq_getElem?_getD, List.getElem?_eq_getElem h]
/-- What is asked of a predicate: it may lay blocks of its own. -/
def PredK {α : Type} (P : Program) (d : Kd α) (g : Nat) (lb : Array Value) (p : α → Bool) (w : World) : Prop :=
  ∀ (W : World) (x : α) (cs : List Value), Below w.heap.size w W → d.K W x cs → Calls P g (#[.agg cs.toArray] ++ lb) W fun e w' => e = .returned (.bool (p x)) ∧ Below W.heap.size W w'
theorem PredK.later {α : Type} {P : Program} {d : Kd α} {g : Nat} {lb : Array Value} {p : α → Bool} {w W : World} (h : PredK P d g lb p w) (hb : Below w.heap.size w W) : PredK P d g lb p W :=
  fun W' x cs hb' hk => h W' x cs (below_step hb hb') hk
theorem idxOf_lt {α : Type} (p : α → Bool) (l : List α) (i : Int) : idxOf p l i = -1 ∨ (i ≤ idxOf p l i ∧ idxOf p l i < i + l.length) := by
  induction l generalizing i with
  | nil => exact .inl rfl
  | cons x xs ih =>
    unfold idxOf
    split
    · exact .inr ⟨Int.le_refl _, by simp only [List.length_cons]; omega⟩
    · rcases ih (i + 1) with h | h
      · exact .inl h
      · exact .inr ⟨by omega, by simp only [List.length_cons]; omega⟩

/-- slices.IndexFunc at fee.Count. -/
theorem IndexFunc_fee_Count.calls (p : S51 → Bool) (g : Nat) (lb : Array Value) (eg : ∀ args w, (callFunc g args).run Try.prog w = .ok (.enter g args) w) (A0 : Option Addr) (c0 : Nat) (l0 : List (S51)) (w : World) (hp : PredK Try.prog k51 g lb p w) (hr0 : Kd.C k51 w A0 l0.length l0) :
    Calls Try.prog 45 #[.slice A0 l0.length c0, .func (.func g) #[] lb] w fun e w' => e = .returned (.int .i64 (idxOf p l0 0)) ∧ Below w.heap.size w w' := by
  have HR0 := Aside0.mk hr0
  have HL := hr0.2.1
  have HP := Aside0.mk hp
  clear hr0 hp
  go_enter Try.func45, Try.ntmps45
  go_wp2
  go_loopg [5, 8] l0.length (fun kq _ v8 w' => ∃ (x8 : Nat), v8 = .int .i64 x8 ∧ kq + x8 = l0.length ∧ Aside0 (idxOf p (l0.drop x8) x8 = idxOf p l0 0) ∧ Aside0 (Below w.heap.size w w'))
  case atStart => exact ⟨0, rfl, by omega, ⟨rfl⟩, ⟨Below.refl _ _⟩⟩
  case round =>
    obtain ⟨x8, rfl, hx, HA, HB⟩ := hrel
    have hsz := HB.out.size
    by_cases hlt : x8 < l0.length
    · obtain ⟨ad, cs, e, hlen, hK, hcell⟩ := Kd.C_get (Kd.C_below HR0.out HB.out) z51 x8 (by omega) (by omega)
      cases e
      have hcall := HP.out wr _ _ HB.out hK
      simp only [Int.toNat_natCast] at hcell hK hcall
      have hg := idxOf_drop p l0 z51 x8 hlt
      have HA2 := Aside0.mk (HA.out ▸ hg).symm
      clear hg HA
      simp only [show k51.sz = 2 from rfl] at hcell
      clear hlen
      obtain rfl := k51_open hK
      have h0 := hcell 0 _ rfl
      have h1 := hcell 1 _ rfl; rw [add_field _ _ 1 (by omega)] at h1
      clear hcell hK
      simp only [Nat.add_zero] at h0
      generalize hy : l0.getD x8 z51 = y at *
      clear hy
      by_cases hq : p y = true
      · have HA3 := Aside0.mk (by have := HA2.out; rwa [if_pos hq] at this)
        rw [hq] at hcall
        clear hq HA2
        go_wp2_with ((with_reducible refine hcall.mono ?_); rintro e w' ⟨rfl, hb'⟩)
        go_ret
        have := HA3.out
        exact ⟨congrArg (fun z => Ending.returned (.int .i64 z)) this, below_step HB.out hb'⟩
      · have hq2 : p y = false := by simpa using hq
        have HA3 := Aside0.mk (by have := HA2.out; rwa [if_neg hq] at this)
        rw [hq2] at hcall
        clear hq hq2 HA2
        go_wp2_with ((with_reducible refine hcall.mono ?_); rintro e w' ⟨rfl, hb'⟩)
        go_roundg (l0.length - (x8 + 1))
        case measure => omega
        case rel => exact ⟨x8 + 1, by go_num, by omega, HA3, ⟨below_step HB.out hb'⟩⟩
    · have hxe : x8 = l0.length := by omega
      have HA3 := Aside0.mk (by have := HA.out; rwa [List.drop_eq_nil_of_le (by omega)] at this)
      clear HA
      have hd : decide ((x8 : Int) < (l0.length : Int)) = false := by simp; omega
      clear hxe
      go_wp2
      go_ret
      have := HA3.out
      simp only [idxOf] at this
      exact ⟨congrArg (fun z => Ending.returned (.int .i64 z)) this, HB.out⟩

-- NEEDS
def fee_first.p (a1 : ByteArray) (x : S51) : Bool := x.f0.toList == a1.toList
/-- The Lots of a member's first count; 0. -/
def fee_first.go (a1 : ByteArray) : List S51 → Int
  | [] => 0
  | x :: r => if fee_first.p a1 x = true then x.f1 else fee_first.go a1 r
def fee_first.f (l0 : List S51) (a1 : ByteArray) : Option Int := some (fee_first.go a1 l0)
theorem fee_first.at_ (a1 : ByteArray) (l : List S51) (i : Int) (hi : 0 ≤ i) : (idxOf (fee_first.p a1) l i < 0 ∧ fee_first.go a1 l = 0) ∨ ∃ j : Nat, j < l.length ∧ idxOf (fee_first.p a1) l i = i + j ∧ fee_first.go a1 l = (rd_T51 l (j : Int)).f1 := by
  induction l generalizing i with
  | nil => exact .inl ⟨by rw [idxOf]; decide, rfl⟩
  | cons x r ih =>
    rw [idxOf, fee_first.go]
    by_cases h : fee_first.p a1 x = true
    · rw [if_pos h, if_pos h]
      exact .inr ⟨0, by simp, by simp, by simp [rd_T51]⟩
    · rw [if_neg h, if_neg h]
      rcases ih (i + 1) (by omega) with ⟨h1, h2⟩ | ⟨j, h1, h2, h3⟩
      · exact .inl ⟨h1, h2⟩
      · refine .inr ⟨j + 1, by simp only [List.length_cons]; omega, by omega, ?_⟩
        rw [h3]
        simp [rd_T51]
theorem fee_first.pred (a1 : ByteArray) (w : World) (b : Nat) (hb : w.heap[b]? = some (.cells #[.string a1] 9 (0, 0))) :
    PredK Try.prog k51 46 #[.pointer (some ⟨b, 0, none⟩)] (fee_first.p a1) w := by
  intro W x cs hW hK
  obtain rfl := k51_open hK
  have hb' := blk_below hb hW
  have h0 : W.cell? ⟨b, 0, none⟩ = some (.string a1) := (blk_cell hb' 0).trans rfl
  have hlt := blk_lt hb'
  clear hb hb' hK
  go_enter Try.func46, Try.ntmps46
  go_wp2
  go_ret
  exact ⟨rfl, (Below.refl _ _).alloc (Nat.le_refl _) _⟩
set_option maxHeartbeats 1600000 in
set_option maxRecDepth 100000 in
theorem fee_first.calls (A0 : Option Addr) (c0 : Nat) (l0 : List (S51)) (a1 : ByteArray) (r : Int) (w : World) (hr0 : Kd.C k51 w A0 l0.length l0) (hc0 : l0.length ≤ c0) (h : fee_first.f l0 a1 = some r) :
    Calls Try.prog 30 #[.slice A0 l0.length c0, .string a1] w fun e w' => e = .returned (.int .i64 r) ∧ Below w.heap.size w w' := by
  have HR0 := Aside0.mk hr0
  have hl1 := hr0.2.1
  have HC0 := Aside0.mk hc0
  have HRA := Aside0.mk (Kd.C_alloc hr0 (.cells #[.string a1] 9 (0, 0)))
  have HBX := Aside0.mk (blk_new w (.cells #[.string a1] 9 (0, 0)))
  have HBA : Aside0 (Below w.heap.size w (w.alloc (.cells #[.string a1] 9 (0, 0)))) := ⟨below_alloc (Below.refl _ _) _⟩
  have hr : fee_first.go a1 l0 = r := Option.some.inj h
  subst hr
  have eg : Aside0 (∀ args w, (callFunc 46 args).run Try.prog w = .ok (.enter 46 args) w) := ⟨enters_of Try.func46 (by kernel_rfl) rfl⟩
  clear hr0 hc0 h
  rcases fee_first.at_ a1 l0 0 (Int.le_refl _) with ⟨h1, h2⟩ | ⟨j, h1, h2, h3⟩
  · rw [h2]
    generalize hix : idxOf (fee_first.p a1) l0 0 = ix at *
    have HIX := Aside0.mk hix
    have hd : decide (ix < 0) = true := decide_eq_true h1
    clear hix h1 h2
    go_enter Try.func30, Try.ntmps30
    go_wp2_with (go_at_call 45; refine (IndexFunc_fee_Count.calls (fee_first.p a1) _ _ eg.out A0 c0 l0 _ (fee_first.pred a1 _ _ HBX.out) HRA.out).mono ?_; rintro _ w1 ⟨rfl, hb⟩; have HB := Aside0.mk (below_step HBA.out hb); clear hb; rw [HIX.out])
    go_ret
    exact ⟨rfl, HB.out⟩
  · obtain ⟨ad, ead, g0, g1⟩ := at_T51 HR0.out (j : Int) (by omega) (by omega)
    cases ead
    simp only [Int.toNat_natCast] at g0 g1
    have HG1 := Aside0.mk g1
    rw [h3]
    rw [Int.zero_add] at h2
    have HIX := Aside0.mk h2
    have hd : decide ((j : Int) < 0) = false := decide_eq_false (by omega)
    clear h2 h3 g0 g1
    generalize (rd_T51 l0 (j : Int)).f1 = v at *
    go_enter Try.func30, Try.ntmps30
    go_wp2_with (go_at_call 45; refine (IndexFunc_fee_Count.calls (fee_first.p a1) _ _ eg.out (some ad) c0 l0 _ (fee_first.pred a1 _ _ HBX.out) HRA.out).mono ?_; rintro _ w1 ⟨rfl, hb⟩; have HB := Aside0.mk (below_step HBA.out hb); have g1 := pw_cell_below HB.out HG1.out; clear hb; rw [HIX.out])
    go_ret
    exact ⟨rfl, HB.out⟩

/-! ### words_letter: function 47 -/
def words_letter.f (a0 : Int) : Option (Bool) := if 97 ≤ a0 then (some (decide (a0 ≤ 122))) else (some false)
set_option maxHeartbeats 8000000 in
set_option maxRecDepth 100000 in
theorem words_letter.calls (a0 : Int) (r : Bool) (w : World) (h : words_letter.f a0 = some r) :
    Calls Try.prog 47 #[.int .u8 a0] w fun e w' => e = .returned (.bool r) ∧ Drawn0 w w' := by
  have H : (if 97 ≤ a0 then (some (decide (a0 ≤ 122))) else (some false)) = some r := h
  clear h
  by_cases c2 : 97 ≤ a0
  · rw [if_pos c2] at H
    have c2b0 : decide (97 ≤ a0) = true := decide_eq_true c2
    clear c2
    obtain rfl := Option.some.inj H
    go_enter Try.func47, Try.ntmps47
    go_wp2
    go_ret
    exact ⟨by first | rfl | (simp; done) | (simp [*]; done), by repeat (first | exact Drawn0.refl _ | apply Drawn0.step)⟩
  · rw [if_neg c2] at H
    have c2b0 : decide (97 ≤ a0) = false := decide_eq_false c2
    clear c2
    obtain rfl := Option.some.inj H
    go_enter Try.func47, Try.ntmps47
    go_wp2
    go_ret
    exact ⟨by first | rfl | (simp; done) | (simp [*]; done), by repeat (first | exact Drawn0.refl _ | apply Drawn0.step)⟩

/-! ### words_digit: function 48 -/
def words_digit.f (a0 : Int) : Option (Bool) := if 48 ≤ a0 then (some (decide (a0 ≤ 57))) else (some false)
set_option maxHeartbeats 8000000 in
set_option maxRecDepth 100000 in
theorem words_digit.calls (a0 : Int) (r : Bool) (w : World) (h : words_digit.f a0 = some r) :
    Calls Try.prog 48 #[.int .u8 a0] w fun e w' => e = .returned (.bool r) ∧ Drawn0 w w' := by
  have H : (if 48 ≤ a0 then (some (decide (a0 ≤ 57))) else (some false)) = some r := h
  clear h
  by_cases c2 : 48 ≤ a0
  · rw [if_pos c2] at H
    have c2b0 : decide (48 ≤ a0) = true := decide_eq_true c2
    clear c2
    obtain rfl := Option.some.inj H
    go_enter Try.func48, Try.ntmps48
    go_wp2
    go_ret
    exact ⟨by first | rfl | (simp; done) | (simp [*]; done), by repeat (first | exact Drawn0.refl _ | apply Drawn0.step)⟩
  · rw [if_neg c2] at H
    have c2b0 : decide (48 ≤ a0) = false := decide_eq_false c2
    clear c2
    obtain rfl := Option.some.inj H
    go_enter Try.func48, Try.ntmps48
    go_wp2
    go_ret
    exact ⟨by first | rfl | (simp; done) | (simp [*]; done), by repeat (first | exact Drawn0.refl _ | apply Drawn0.step)⟩

end Go.Proofs.Ytckjdncimibiaaa.PFeeRises
