-- Written by a program of this session's (a turned copy of the kit's print, with functions proved by hand).
import Derived.Test.YtjaokhpbdhefhaaPOptionNetsx0
import Derived.Test.YtjaokhpbdhefhaaPOptionNetsx6
import Derived.Test.YtjaokhpbdhefhaaPOptionNetsx7
import Derived.Test.YtjaokhpbdhefhaaPOptionNetsx8
import Derived.Test.YtjaokhpbdhefhaaPOptionNetsx9
namespace Go.Proofs.Ytjaokhpbdhefhaa.POptionNets
open Go.RowKit Go.Proofs.YtjaokhpbdhefhaaW.PrintWords Go.Proofs.YtjaokhpbdhefhaaW.PrintLast Go.Proofs.YtjaokhpbdhefhaaW.PrintMore
attribute [local go_sem] max2_int min2_int max_two min_two max_three min_three max_four min_four Go.Proofs.YtjaokhpbdhefhaaHand.run_leq_str Go.Proofs.YtjaokhpbdhefhaaHand.run_gtr_str Go.Proofs.YtjaokhpbdhefhaaHand.run_geq_str   -- for this text's walks alone
set_option linter.unusedVariables false
set_option linter.unusedSimpArgs false

/-! ### option_Net: function 19 -/
/-- Each option's worth, under its currency. -/
def option_Net.go (k : Nat) (l0 : List S29) (l2 : List S63) : List S57 → List (Int × List Int) → Option (Int × List (Int × List Int))
  | [], m => some (0, m)
  | p :: r, m => (option_option.f p.f0.f0 p.f0.f1 p.f0.f2 p.f0.f3).bind fun b => if b = true then
      ((option_worth.f k l0 p.f0.f0 p.f0.f1 p.f0.f2 p.f0.f3 p.f1 p.f2 l2).bind fun x => if x.2.2 = 0 then
        (if 0 ≤ x.2.1 ∧ x.2.1 < 8 then (if ((Go.Proofs.YtjaokhpbdhefhaaHand.look (· == ·) m x.2.1).getD []).length < 1000000 then
          option_Net.go k l0 l2 r (Go.Proofs.YtjaokhpbdhefhaaHand.put (· == ·) x.2.1 (((Go.Proofs.YtjaokhpbdhefhaaHand.look (· == ·) m x.2.1).getD []) ++ [x.1]) m) else none) else none)
        else some (x.2.2, [])) else option_Net.go k l0 l2 r m
def option_Net.sums (k : Nat) (m : List (Int × List Int)) : Nat → Int → List Int → Option (List Int × Int)
  | 0, _, t => some (t, 0)
  | j + 1, c, t => (cents_Sum.f k ((Go.Proofs.YtjaokhpbdhefhaaHand.look (· == ·) m c).getD [])).bind fun x => if x.2 = 0 then option_Net.sums k m j (c + 1) (t ++ [x.1]) else some ([], x.2)
def option_Net.f (k : Nat) (l0 : List S29) (l1 : List S57) (l2 : List S63) : Option (List Int × Int) :=
  (product_CheckAll.f k l0).bind fun e0 => if e0 = 0 then ((position_Check.f k l1).bind fun e1 => if e1 = 0 then ((mark_CheckAll.f k l2).bind fun e2 => if e2 = 0 then
    ((option_Net.go k l0 l2 l1 []).bind fun x => if x.1 = 0 then option_Net.sums k x.2 8 0 [] else some ([], x.1))
    else some ([], e2)) else some ([], e1)) else some ([], e0)
theorem option_Net.mono_go (k : Nat) (l0 : List S29) (l2 : List S63) (l : List S57) : ∀ m, LeO (option_Net.go k l0 l2 l m) (option_Net.go (k + 1) l0 l2 l m) := by
  induction l with
  | nil => intro m; exact LeO.refl _
  | cons p r ih =>
    intro m
    unfold option_Net.go
    exact LeO.bind (LeO.refl _) (fun b => LeO.ite (LeO.bind (option_worth.mono _ _ _ _ _ _ _ _ _) (fun x => LeO.ite (LeO.ite (LeO.ite (ih _) (LeO.none _)) (LeO.none _)) (LeO.refl _))) (ih _))
theorem option_Net.mono_sums (k : Nat) (m : List (Int × List Int)) (j : Nat) : ∀ c t, LeO (option_Net.sums k m j c t) (option_Net.sums (k + 1) m j c t) := by
  induction j with
  | zero => intro c t; exact LeO.refl _
  | succ j ih =>
    intro c t
    unfold option_Net.sums
    exact LeO.bind (cents_Sum.mono _ _) (fun x => LeO.ite (ih _ _) (LeO.refl _))
theorem option_Net.mono : ∀ a0 a1 a2 k, LeO (option_Net.f k a0 a1 a2) (option_Net.f (k + 1) a0 a1 a2) := by
  intro a0 a1 a2 k
  unfold option_Net.f
  exact LeO.bind (product_CheckAll.mono _ _) (fun e0 => LeO.ite (LeO.bind (position_Check.mono _ _) (fun e1 => LeO.ite (LeO.bind (mark_CheckAll.mono _ _) (fun e2 => LeO.ite (LeO.bind (option_Net.mono_go _ _ _ _ _) (fun x => LeO.ite (option_Net.mono_sums _ _ _ _ _) (LeO.refl _))) (LeO.refl _))) (LeO.refl _))) (LeO.refl _))
theorem option_Net.zero (w : World) : (zeroValue 46).run Try.prog w = .ok (.slice none 0 0) w := by kernel_rfl
theorem option_Net.hq : ∀ x y : Int, ((x == y) = true) ↔ Value.int .i64 x = Value.int .i64 y := by
  intro x y
  simp
theorem option_Net.key (c : Int) (h0 : 0 ≤ c) (h1 : c < 8) : keyOf Try.prog 3 (.int .i64 c) = some (.int .i64 c) :=
  Go.Maps.keyOf_int_mk Try.underlying3 (by
    simp only [Lit.wf, Bool.and_eq_true, decide_eq_true_eq]
    exact ⟨Int.le_trans (by decide) h0, Int.le_trans (Int.le_of_lt h1) (by decide)⟩)
set_option maxHeartbeats 3200000 in
set_option maxRecDepth 100000 in
theorem option_Net.calls (k : Nat) (A0 : Option Addr) (c0 : Nat) (l0 : List (S29)) (A1 : Option Addr) (c1 : Nat) (l1 : List (S57)) (A2 : Option Addr) (c2 : Nat) (l2 : List (S63)) (r1 : List Int) (r2 : Int) (w : World) (hr0 : Kd.C k29 w A0 l0.length l0) (hc0 : l0.length ≤ c0) (hr1 : Kd.C k57 w A1 l1.length l1) (hc1 : l1.length ≤ c1) (hr2 : Kd.C k63 w A2 l2.length l2) (hc2 : l2.length ≤ c2) (h : option_Net.f k l0 l1 l2 = some (r1, r2)) :
    Calls Try.prog 19 #[.slice A0 l0.length c0, .slice A1 l1.length c1, .slice A2 l2.length c2] w fun e w' => ∃ v0_ : Value, e = .returned (.tuple #[v0_, .int .i64 r2]) ∧ Kd.R (Kd.int .i64) 3 w' w.heap.size (fun _ => True) v0_ r1 ∧ Below w.heap.size w w' := by
 obtain ⟨e0, hC0, h⟩ := Option.bind_eq_some_iff.mp h
 have HR0 := Aside0.mk hr0
 have HC0 := Aside0.mk hc0
 have HR1 := Aside0.mk hr1
 have hl1 := hr1.2.1
 have HC1 := Aside0.mk hc1
 have HR2 := Aside0.mk hr2
 have HC2 := Aside0.mk hc2
 have HE0 := Aside0.mk hC0
 have HH := Aside0.mk h
 have hmm := @run_makeMap Try.prog
 clear hr0 hc0 hr1 hc1 hr2 hc2 hC0 h
 by_cases he : e0 = 0
 case neg =>
  have hh := HH.out
  rw [if_neg he] at hh
  have hh2 := Option.some.inj hh
  simp only [Prod.mk.injEq] at hh2
  obtain ⟨rfl, rfl⟩ := hh2
  have h0b : (e0 == 0) = false := beq_eq_false_iff_ne.mpr he
  have h1b : (e0 != 0) = true := bne_iff_ne.mpr he
  clear he hh HH
  go_enter Try.func19, Try.ntmps19
  go_wp2_with (go_at_call 33; refine (product_CheckAll.calls k A0 c0 l0 e0 _ HR0.out HC0.out HE0.out).mono ?_; rintro _ w1 ⟨rfl, hb⟩; have HB := Aside0.mk hb; clear hb)
  go_ret2
  exact ⟨_, rfl, Kd.R_nil _ _ _ _ _, HB.out⟩
 subst he
 have hh := HH.out
 rw [if_pos rfl] at hh
 obtain ⟨e1, hC1, hh⟩ := Option.bind_eq_some_iff.mp hh
 have HE1 := Aside0.mk hC1
 clear hC1 HH
 by_cases he : e1 = 0
 case neg =>
  rw [if_neg he] at hh
  have hh2 := Option.some.inj hh
  simp only [Prod.mk.injEq] at hh2
  obtain ⟨rfl, rfl⟩ := hh2
  have h0b : (e1 == 0) = false := beq_eq_false_iff_ne.mpr he
  have h1b : (e1 != 0) = true := bne_iff_ne.mpr he
  clear he hh
  go_enter Try.func19, Try.ntmps19
  go_wp2_with (first | (go_at_call 33; refine (product_CheckAll.calls k A0 c0 l0 0 _ HR0.out HC0.out HE0.out).mono ?_; rintro _ w1 ⟨rfl, hb⟩; have HB := Aside0.mk hb; clear hb) | (go_at_call 34; refine (position_Check.calls k A1 c1 l1 e1 _ (Kd.C_below HR1.out HB.out) HC1.out HE1.out).mono ?_; rintro _ w2 ⟨rfl, hb⟩; have HB2 := Aside0.mk (below_step HB.out hb); clear hb))
  go_ret2
  exact ⟨_, rfl, Kd.R_nil _ _ _ _ _, HB2.out⟩
 subst he
 rw [if_pos rfl] at hh
 obtain ⟨e2, hC2, hh⟩ := Option.bind_eq_some_iff.mp hh
 have HE2 := Aside0.mk hC2
 clear hC2
 by_cases he : e2 = 0
 case neg =>
  rw [if_neg he] at hh
  have hh2 := Option.some.inj hh
  simp only [Prod.mk.injEq] at hh2
  obtain ⟨rfl, rfl⟩ := hh2
  have h0b : (e2 == 0) = false := beq_eq_false_iff_ne.mpr he
  have h1b : (e2 != 0) = true := bne_iff_ne.mpr he
  clear he hh
  go_enter Try.func19, Try.ntmps19
  go_wp2_with (first | (go_at_call 33; refine (product_CheckAll.calls k A0 c0 l0 0 _ HR0.out HC0.out HE0.out).mono ?_; rintro _ w1 ⟨rfl, hb⟩; have HB := Aside0.mk hb; clear hb) | (go_at_call 34; refine (position_Check.calls k A1 c1 l1 0 _ (Kd.C_below HR1.out HB.out) HC1.out HE1.out).mono ?_; rintro _ w2 ⟨rfl, hb⟩; have HB2 := Aside0.mk (below_step HB.out hb); clear hb) | (go_at_call 35; refine (mark_CheckAll.calls k A2 c2 l2 e2 _ (Kd.C_below HR2.out HB2.out) HC2.out HE2.out).mono ?_; rintro _ w3 ⟨rfl, hb⟩; have HB3 := Aside0.mk (below_step HB2.out hb); clear hb))
  go_ret2
  exact ⟨_, rfl, Kd.R_nil _ _ _ _ _, HB3.out⟩
 subst he
 rw [if_pos rfl] at hh
 obtain ⟨⟨ee, mm⟩, hG, hh⟩ := Option.bind_eq_some_iff.mp hh
 have HG := Aside0.mk hG
 have HH := Aside0.mk hh
 clear hG hh
 go_enter Try.func19, Try.ntmps19
 go_wp2_with (first | (go_at_call 33; refine (product_CheckAll.calls k A0 c0 l0 0 _ HR0.out HC0.out HE0.out).mono ?_; rintro _ w1 ⟨rfl, hb⟩; have HB := Aside0.mk hb; clear hb) | (go_at_call 34; refine (position_Check.calls k A1 c1 l1 0 _ (Kd.C_below HR1.out HB.out) HC1.out HE1.out).mono ?_; rintro _ w2 ⟨rfl, hb⟩; have HB2 := Aside0.mk (below_step HB.out hb); clear hb) | (go_at_call 35; refine (mark_CheckAll.calls k A2 c2 l2 0 _ (Kd.C_below HR2.out HB2.out) HC2.out HE2.out).mono ?_; rintro _ w3 ⟨rfl, hb⟩; have HB3 := Aside0.mk (below_step HB2.out hb); clear hb))
 have hsz0 := HB3.out.size
 have HGE : Aside0 (∀ kk, some w3.heap.size = some kk → w.heap.size ≤ kk) := ⟨fun kk e => by cases e; exact hsz0⟩
 clear HB HB2 HE0 HE1 HE2
 go_loopg [39] l1.length (fun kq v39 w' => ∃ (x : Nat) (m : List (Int × List Int)), v39 = .int .i64 x ∧ kq + x = l1.length ∧ Aside0 (option_Net.go k l0 l2 (l1.drop x) m = some (ee, mm)) ∧ Aside0 (Go.Proofs.YtjaokhpbdhefhaaHand.Groups Try.prog 3 (Kd.int .i64) 3 (Value.int .i64) w' w.heap.size w3.heap.size m) ∧ Aside0 (Below w.heap.size w w'))
 case atStart => exact ⟨0, [], rfl, by omega, HG, ⟨Go.Proofs.YtjaokhpbdhefhaaHand.Groups.made _ _ _ _ _ _ _⟩, ⟨HB3.out.alloc (by omega) _⟩⟩
 case round =>
  clear HG HB3
  obtain ⟨x, m, rfl, hx, HA, HM, HB⟩ := hrel
  have hsz := HB.out.size
  have hltM := HM.out.lt
  by_cases hlt : x < l1.length
  rotate_left
  · have hxe : x = l1.length := by omega
    have hA := HA.out
    rw [List.drop_eq_nil_of_le (by omega), option_Net.go] at hA
    have hA2 := Option.some.inj hA
    simp only [Prod.mk.injEq] at hA2
    obtain ⟨rfl, rfl⟩ := hA2
    have hh := HH.out
    rw [if_pos rfl] at hh
    have HS := Aside0.mk hh
    have hd : decide ((x : Int) < (l1.length : Int)) = false := decide_eq_false (by omega)
    clear hh HH hA HA hxe
    go_wp2_with ((with_reducible refine gate_dst (N := 67) rfl ?_); refine Kd.R_make (Kd.int .i64) (w0 := w) w.heap.size 3 rfl (N := 67) rfl 46 _ _ rfl 8 rfl rfl Try.underlying46 (.int .i64 0) 8 info3 rfl (by decide) (by omega) 0 (okp := fun _ => False) (ok := fun k_ => wr.heap.size ≤ k_) rfl (fun _ hk => hk.elim) (Nat.le_refl _) (by omega) (by omega) HB.out HB.out.size ?_; intro v67 w5 hR hb hg hnew; obtain ⟨g67, c67, e67, hgb, hgl, _⟩ := Kd.R_form hR (by decide); have e67 : v67 = .slice (some ⟨g67, 0, none⟩) 8 c67 := e67; subst e67; have hgw : wr.heap.size ≤ g67 := hR.1 g67 rfl; have HR := Aside0.mk hR; have HB5 : Aside0 (Below wr.heap.size wr w5) := ⟨(Below.refl _ wr).grown hg (Nat.le_refl _) (fun _ e_ => nomatch e_)⟩; have hw5 := HB5.out.size; clear hR hb hg hnew)
    go_loopg [70] 8 (fun kq v70 w' => ∃ (y : Nat) (t : List Int), v70 = .int .i64 y ∧ kq + y = 8 ∧ t.length = y ∧ Aside0 (option_Net.sums k m kq y t = some (r1, r2)) ∧ Aside0 (Kd.R (Kd.int .i64) 3 w' w.heap.size (fun k_ => wr.heap.size ≤ k_) (.slice (some ⟨g67, 0, none⟩) 8 c67) (t ++ List.replicate kq 0)) ∧ Aside0 (Below wr.heap.size wr w'))
    case atStart => exact ⟨0, [], rfl, rfl, rfl, HS, ⟨by have := HR.out; simpa using this⟩, HB5⟩
    case round =>
     clear HS HR HB5
     obtain ⟨y, t, rfl, hy, ht, HS, HR, HBW⟩ := hrel
     have hs := HS.out
     have hszw := HBW.out.size
     cases gk with
     | zero =>
      rw [option_Net.sums] at hs
      have hs2 := Option.some.inj hs
      simp only [Prod.mk.injEq] at hs2
      obtain ⟨rfl, rfl⟩ := hs2
      have hd2 : decide ((y : Int) < 8) = false := decide_eq_false (by omega)
      clear hs HS
      go_wp2
      go_ret2
      exact ⟨_, rfl, by have := Kd.R_mono (ok' := fun _ => True) HR.out (fun _ _ => trivial); simpa using this, below_step HB.out HBW.out⟩
     | succ j =>
      rw [option_Net.sums] at hs
      obtain ⟨⟨n, e⟩, hN, hs⟩ := Option.bind_eq_some_iff.mp hs
      have HN := Aside0.mk hN
      have HKEY := Aside0.mk (option_Net.key (y : Int) (by omega) (by omega))
      have HMW := Aside0.mk (HM.out.below HBW.out)
      have hltW := HMW.out.lt
      have hd2 : decide ((y : Int) < 8) = true := decide_eq_true (by omega)
      clear hN HS
      by_cases he : e = 0
      case neg =>
       rw [if_neg he] at hs
       have hs2 := Option.some.inj hs
       simp only [Prod.mk.injEq] at hs2
       obtain ⟨rfl, rfl⟩ := hs2
       have h0b : (e == 0) = false := beq_eq_false_iff_ne.mpr he
       have h1b : (e != 0) = true := bne_iff_ne.mpr he
       clear he hs
       go_wp2_with (first | (at_lookup; obtain ⟨vL, hrunL, hRL, hbackL⟩ := HMW.out.get (q := (· == ·)) (a := (y : Int)) rfl (Go.Maps.int_keyed Try.underlying3) Try.underlying70 (option_Net.zero _) HKEY.out option_Net.hq; obtain ⟨AL, cL, eL⟩ := Kd.R_slice hRL; subst eL; refine Go.Proofs.YtjaokhpbdhefhaaHand.wpL_look _ rfl (.tmp 74) (.tmp 75) 70 false rfl w3.heap.size (.int .i64 (y : Int)) (.slice AL ((Go.Proofs.YtjaokhpbdhefhaaHand.look (· == ·) m (y : Int)).getD []).length cL) rfl rfl hrunL ?_; have HRL := Aside0.mk hRL; clear hRL hbackL hrunL) | (go_at_call 37; refine (cents_Sum.calls k AL cL ((Go.Proofs.YtjaokhpbdhefhaaHand.look (· == ·) m (y : Int)).getD []) n e _ (Kd.R_reads' HRL.out).2.2 (Kd.R_reads' HRL.out).2.1 HN.out).mono ?_; rintro _ w8 ⟨rfl, hb⟩; have HB8 := Aside0.mk (below_step HBW.out (hb.below)); clear hb))
       go_ret2
       exact ⟨_, rfl, Kd.R_nil _ _ _ _ _, below_step HB.out HB8.out⟩
      subst he
      rw [if_pos rfl] at hs
      have HS2 := Aside0.mk hs
      clear hs
      have hlen : (t ++ List.replicate (j + 1) (0 : Int)).length = 8 := by simp; omega
      have HLEN := Aside0.mk hlen
      clear hlen
      go_wp2_with (first | (at_lookup; obtain ⟨vL, hrunL, hRL, hbackL⟩ := HMW.out.get (q := (· == ·)) (a := (y : Int)) rfl (Go.Maps.int_keyed Try.underlying3) Try.underlying70 (option_Net.zero _) HKEY.out option_Net.hq; obtain ⟨AL, cL, eL⟩ := Kd.R_slice hRL; subst eL; refine Go.Proofs.YtjaokhpbdhefhaaHand.wpL_look _ rfl (.tmp 74) (.tmp 75) 70 false rfl w3.heap.size (.int .i64 (y : Int)) (.slice AL ((Go.Proofs.YtjaokhpbdhefhaaHand.look (· == ·) m (y : Int)).getD []).length cL) rfl rfl hrunL ?_; have HRL := Aside0.mk hRL; clear hRL hbackL hrunL) | (go_at_call 37; refine (cents_Sum.calls k AL cL ((Go.Proofs.YtjaokhpbdhefhaaHand.look (· == ·) m (y : Int)).getD []) n 0 _ (Kd.R_reads' HRL.out).2.2 (Kd.R_reads' HRL.out).2.1 HN.out).mono ?_; rintro _ w8 ⟨rfl, hb⟩; have HB8 := Aside0.mk (below_step HBW.out (hb.below)); have HR8 := Aside0.mk (Kd.R_below HR.out (hb.below)); clear hb; obtain ⟨hcl, hfz⟩ := Kd.R_cell (0 : Int) (by rw [HLEN.out]; exact HR8.out : Kd.R (Kd.int .i64) 3 w8 w.heap.size (fun k_ => _ ≤ k_) (.slice (some ⟨g67, 0, none⟩) (t ++ List.replicate (j + 1) (0 : Int)).length c67) (t ++ List.replicate (j + 1) (0 : Int))) (y : Int) (by omega) (by rw [HLEN.out]; omega); simp only [Int.toNat_natCast] at hcl hfz))
      go_roundg j
      case measure => omega
      case rel => exact ⟨y + 1, t ++ [n], by go_num, by omega, by simp; omega, HS2, ⟨by
        have h1 := Kd.R_putg HR8.out (y : Int) n
        have h2 : (t ++ List.replicate (j + 1) (0 : Int)).set y n = t ++ [n] ++ List.replicate j 0 := by
          subst ht
          rw [List.set_append_right _ _ (Nat.le_refl _)]
          simp [List.replicate_succ]
        simp only [Int.toNat_natCast, h2] at h1
        exact h1.1⟩, ⟨below_set HB8.out hgw⟩⟩
  obtain ⟨ad, ead, h0, h1, h2, h3, h4, h5⟩ := at_T57 (Kd.C_below HR1.out HB.out) x (by omega) (by omega)
  cases ead
  simp only [Int.toNat_natCast] at h0 h1 h2 h3 h4 h5
  have hdr : l1.drop x = rd_T57 l1 x :: l1.drop (x + 1) := by
    rw [List.drop_eq_getElem_cons hlt]
    simp [rd_T57, hlt]
  have hA := HA.out
  rw [hdr, option_Net.go] at hA
  clear hdr HA
  generalize hp : rd_T57 l1 x = p at *
  clear hp
  obtain ⟨⟨p0, p1, p2, p3⟩, p4, p5⟩ := p
  simp only at h0 h1 h2 h3 h4 h5 hA
  obtain ⟨ob, hO, hA⟩ := Option.bind_eq_some_iff.mp hA
  have HO := Aside0.mk hO
  clear hO
  cases ob with
  | false =>
   rw [if_neg (by decide)] at hA
   have HA2 := Aside0.mk hA
   clear hA
   go_wp2_with (go_at_call 30; refine (option_option.calls p0 p1 p2 p3 false _ HO.out).mono ?_; rintro _ w4 ⟨rfl, hb⟩; have HM2 := Aside0.mk ((HM.out.below (below_alloc (Below.refl _ _) _)).below hb); have HB2 := Aside0.mk (below_step (HB.out.alloc HB.out.size _) hb); clear hb)
   go_roundg (l1.length - (x + 1))
   case measure => omega
   case rel => exact ⟨x + 1, m, by go_num, by omega, HA2, HM2, HB2⟩
  | true =>
   rw [if_pos rfl] at hA
   obtain ⟨⟨n, cur, e⟩, hW, hA⟩ := Option.bind_eq_some_iff.mp hA
   have HW := Aside0.mk hW
   clear hW
   simp only at hA
   by_cases he : e = 0
   case neg =>
    rw [if_neg he] at hA
    have hA2 := Option.some.inj hA
    simp only [Prod.mk.injEq] at hA2
    obtain ⟨rfl, rfl⟩ := hA2
    have hh := HH.out
    rw [if_neg he] at hh
    have hh2 := Option.some.inj hh
    simp only [Prod.mk.injEq] at hh2
    obtain ⟨rfl, rfl⟩ := hh2
    have h0b : (e == 0) = false := beq_eq_false_iff_ne.mpr he
    have h1b : (e != 0) = true := bne_iff_ne.mpr he
    clear he hh HH hA
    go_wp2_with (first | (go_at_call 30; refine (option_option.calls p0 p1 p2 p3 true _ HO.out).mono ?_; rintro _ w4 ⟨rfl, hb⟩; have BX := blk_below (blk_new wr (.cells #[.string p0, .int .i64 p1, .int .i64 p2, .int .i64 p3, .int .i64 p4, .int .i64 p5] 57 (0, 0))) hb; have HB2 := Aside0.mk (below_step (HB.out.alloc HB.out.size (.cells #[.string p0, .int .i64 p1, .int .i64 p2, .int .i64 p3, .int .i64 p4, .int .i64 p5] 57 (0, 0))) hb); have hx0 : w4.cell? ⟨wr.heap.size, 0, none⟩ = some (.string p0) := (blk_cell BX 0).trans rfl; have hx1 : w4.cell? ⟨wr.heap.size, 1, none⟩ = some (.int .i64 p1) := (blk_cell BX 1).trans rfl; have hx2 : w4.cell? ⟨wr.heap.size, 2, none⟩ = some (.int .i64 p2) := (blk_cell BX 2).trans rfl; have hx3 : w4.cell? ⟨wr.heap.size, 3, none⟩ = some (.int .i64 p3) := (blk_cell BX 3).trans rfl; have hx4 : w4.cell? ⟨wr.heap.size, 4, none⟩ = some (.int .i64 p4) := (blk_cell BX 4).trans rfl; have hx5 : w4.cell? ⟨wr.heap.size, 5, none⟩ = some (.int .i64 p5) := (blk_cell BX 5).trans rfl; have hltX := blk_lt BX; clear hb BX) | (go_at_call 36; refine (option_worth.calls k A0 c0 l0 p0 p1 p2 p3 p4 p5 A2 c2 l2 n cur e _ (Kd.C_below HR0.out HB2.out) HC0.out (Kd.C_below HR2.out HB2.out) HC2.out HW.out).mono ?_; rintro _ w5 ⟨rfl, hb⟩; have HB5 := Aside0.mk (below_step HB2.out hb); clear hb))
    go_ret2
    exact ⟨_, rfl, Kd.R_nil _ _ _ _ _, HB5.out⟩
   subst he
   rw [if_pos rfl] at hA
   by_cases hc : 0 ≤ cur ∧ cur < 8
   case neg => rw [if_neg hc] at hA; cases hA
   rw [if_pos hc] at hA
   by_cases hl : ((Go.Proofs.YtjaokhpbdhefhaaHand.look (· == ·) m cur).getD []).length < 1000000
   case neg => rw [if_neg hl] at hA; cases hA
   rw [if_pos hl] at hA
   have HA2 := Aside0.mk hA
   have HKEY := Aside0.mk (option_Net.key cur hc.1 hc.2)
   have HL : Aside0 ((((Go.Proofs.YtjaokhpbdhefhaaHand.look (· == ·) m cur).getD []).length + 1) * 8 ≤ 140737488355328) := ⟨by omega⟩
   clear hA hc hl
   go_wp2_with (first | (go_at_call 30; refine (option_option.calls p0 p1 p2 p3 true _ HO.out).mono ?_; rintro _ w4 ⟨rfl, hb⟩; have BX := blk_below (blk_new wr (.cells #[.string p0, .int .i64 p1, .int .i64 p2, .int .i64 p3, .int .i64 p4, .int .i64 p5] 57 (0, 0))) hb; have HM2 := Aside0.mk ((HM.out.below (below_alloc (Below.refl _ _) (.cells #[.string p0, .int .i64 p1, .int .i64 p2, .int .i64 p3, .int .i64 p4, .int .i64 p5] 57 (0, 0)))).below hb); have HB2 := Aside0.mk (below_step (HB.out.alloc HB.out.size (.cells #[.string p0, .int .i64 p1, .int .i64 p2, .int .i64 p3, .int .i64 p4, .int .i64 p5] 57 (0, 0))) hb); have hx0 : w4.cell? ⟨wr.heap.size, 0, none⟩ = some (.string p0) := (blk_cell BX 0).trans rfl; have hx1 : w4.cell? ⟨wr.heap.size, 1, none⟩ = some (.int .i64 p1) := (blk_cell BX 1).trans rfl; have hx2 : w4.cell? ⟨wr.heap.size, 2, none⟩ = some (.int .i64 p2) := (blk_cell BX 2).trans rfl; have hx3 : w4.cell? ⟨wr.heap.size, 3, none⟩ = some (.int .i64 p3) := (blk_cell BX 3).trans rfl; have hx4 : w4.cell? ⟨wr.heap.size, 4, none⟩ = some (.int .i64 p4) := (blk_cell BX 4).trans rfl; have hx5 : w4.cell? ⟨wr.heap.size, 5, none⟩ = some (.int .i64 p5) := (blk_cell BX 5).trans rfl; have hltX := blk_lt BX; clear hb BX) | (go_at_call 36; refine (option_worth.calls k A0 c0 l0 p0 p1 p2 p3 p4 p5 A2 c2 l2 n cur 0 _ (Kd.C_below HR0.out HB2.out) HC0.out (Kd.C_below HR2.out HB2.out) HC2.out HW.out).mono ?_; rintro _ w5 ⟨rfl, hb⟩; have HM5 := Aside0.mk (HM2.out.below hb); have HB5 := Aside0.mk (below_step HB2.out hb); clear hb) | (at_lookup; obtain ⟨vL, hrunL, hRL, hbackL⟩ := HM5.out.get (q := (· == ·)) (a := cur) rfl (Go.Maps.int_keyed Try.underlying3) Try.underlying70 (option_Net.zero _) HKEY.out option_Net.hq; refine Go.Proofs.YtjaokhpbdhefhaaHand.wpL_look _ rfl (.tmp 60) (.tmp 61) 70 false rfl w3.heap.size (.int .i64 cur) vL rfl rfl hrunL ?_; have HRL := Aside0.mk hRL; have HBL := Aside0.mk hbackL; clear hRL hbackL hrunL) | ((with_reducible refine gate_builtin (b := .append) (xs := #[.tmp 62, .tmp 64]) rfl ?_); at_builtin; refine Kd.R_append (Kd.int .i64) (w0 := w) w.heap.size rfl (.tmp 62) (.tmp 64) 46 3 (.int .i64 0) 8 rfl Try.underlying46 info3 rfl (by decide) (by decide) vL ((Go.Proofs.YtjaokhpbdhefhaaHand.look (· == ·) m cur).getD []) n [.int .i64 n] (fun _ => True) (fun _ => False) rfl ?aX ?aP (fun _ hk => hk.elim) (fun _ _ => trivial) HRL.out HB5.out HB5.out.size ?aL ?_; (case aX => rfl); (case aP => rfl); (case aL => exact HL.out); intro v1 w6 ho hb6 hg6 hat6; have HR6 := Aside0.mk ho; have HB6 := Aside0.mk hb6; have HG6 := Aside0.mk hg6; have HAT := Aside0.mk hat6; clear ho hb6 hg6 hat6) | (at_mapUpdate; obtain ⟨w7, hrunU, hM7, hg7⟩ := HBL.out _ _ _ HG6.out HR6.out HAT.out; refine Go.Proofs.YtjaokhpbdhefhaaHand.wpL_upd rfl (.tmp 58) (.tmp 59) (.tmp 65) 70 rfl w3.heap.size (.int .i64 cur) v1 rfl rfl rfl hrunU ?_; have HM7 := Aside0.mk hM7; have HB7 := Aside0.mk (pw_below_grown HB6.out _ HB6.out.size hg7 HGE.out); clear hM7 hg7 hrunU))
   go_roundg (l1.length - (x + 1))
   case measure => omega
   case rel => exact ⟨x + 1, _, by go_num, by omega, HA2, HM7, HB7⟩

/-! ### contangolaw21_of: function 27 -/
def contangolaw21_of.f (a0 : Int) : Option (ByteArray × Int × Int × Int) := some ((⟨#[111, 105, 108]⟩ : ByteArray), a0, 20, 50)
set_option maxHeartbeats 8000000 in
set_option maxRecDepth 100000 in
theorem contangolaw21_of.calls (a0 : Int) (r1 : ByteArray) (r2 : Int) (r3 : Int) (r4 : Int) (w : World) (h : contangolaw21_of.f a0 = some (r1, r2, r3, r4)) :
    Calls Try.prog 27 #[.int .i64 a0] w fun e w' => e = .returned (.agg #[.string r1, .int .i64 r2, .int .i64 r3, .int .i64 r4]) ∧ Below w.heap.size w w' := by
 have hu23 := Try.underlying23
 have HB := Aside0.mk (Below.refl w.heap.size w)
 have H : (some ((⟨#[111, 105, 108]⟩ : ByteArray), a0, 20, 50)) = some (r1, r2, r3, r4) := h
 clear h
 simp only [Option.some.injEq, Prod.mk.injEq] at H
 obtain ⟨rfl, rfl, rfl, rfl⟩ := H
 go_enter Try.func27, Try.ntmps27
 go_wp2_with (first | ((with_reducible refine gate_dst (N := 2) rfl ?_); refine box_event ?hg (N := 2) ?hd (cs := #[.string (⟨#[]⟩ : ByteArray), .int .i64 0, .int .i64 0, .int .i64 0]) (t := 23) ?hr ?_; (case hd => rfl); (case hg => rfl); (case hr => first | (go_simp; done) | (go_simp; rfl)); intro gb171 hg w2 hbox hb; have n0_ := Aside0.mk (below_step (by repeat (with_reducible first | exact HB.out | apply below_alloc | apply pw_below_drewN | apply below_drew1)) hb); have n1_ := Aside0.mk (hbox); have n2_ := Aside0.mk ((by rw [hg]; exact (below_size (by repeat (with_reducible first | exact HB.out | apply below_alloc | apply pw_below_drewN | apply below_drew1))) : w.heap.size ≤ gb171)); have n3_ := n2_; clear HB; have HB := n0_; have BK171 := n1_; have GW171 := n2_; have GE171 := n3_; clear n0_ n1_ n2_ n3_; clear hb hbox hg; have hcz3_0 : w2.cell? ⟨gb171, 0, none⟩ = some (.string (⟨#[]⟩ : ByteArray)) := (blk_cell BK171.out 0).trans rfl; have hcz3_1 : w2.cell? ⟨gb171, 1, none⟩ = some (.int .i64 0) := (blk_cell BK171.out 1).trans rfl; have hcz3_2 : w2.cell? ⟨gb171, 2, none⟩ = some (.int .i64 0) := (blk_cell BK171.out 2).trans rfl; have hcz3_3 : w2.cell? ⟨gb171, 3, none⟩ = some (.int .i64 0) := (blk_cell BK171.out 3).trans rfl; have hfz3_0 := blk_frozen BK171.out 0; have hfz3_1 := blk_frozen BK171.out 1; have hfz3_2 := blk_frozen BK171.out 2; have hfz3_3 := blk_frozen BK171.out 3))
 refine bodyPost_ret (results_cell_row rfl _ _ gb171 23 #[.string (⟨#[111, 105, 108]⟩ : ByteArray), .int .i64 a0, .int .i64 20, .int .i64 50] (0, 0) _ rfl (by (with_reducible repeat (first | refine blk_drewN ?_ _ | refine blk_drew ?_ | refine blk_alloc ?_ _)); refine blk_put (cs := #[.string (⟨#[111, 105, 108]⟩ : ByteArray), .int .i64 a0, .int .i64 20, .int .i64 0]) ?_ 3 _ rfl; (with_reducible repeat (first | refine blk_drewN ?_ _ | refine blk_drew ?_ | refine blk_alloc ?_ _)); refine blk_put (cs := #[.string (⟨#[111, 105, 108]⟩ : ByteArray), .int .i64 a0, .int .i64 0, .int .i64 0]) ?_ 2 _ rfl; (with_reducible repeat (first | refine blk_drewN ?_ _ | refine blk_drew ?_ | refine blk_alloc ?_ _)); refine blk_put (cs := #[.string (⟨#[111, 105, 108]⟩ : ByteArray), .int .i64 0, .int .i64 0, .int .i64 0]) ?_ 1 _ rfl; (with_reducible repeat (first | refine blk_drewN ?_ _ | refine blk_drew ?_ | refine blk_alloc ?_ _)); refine blk_put (cs := #[.string (⟨#[]⟩ : ByteArray), .int .i64 0, .int .i64 0, .int .i64 0]) ?_ 0 _ rfl; (with_reducible repeat (first | refine blk_drewN ?_ _ | refine blk_drew ?_ | refine blk_alloc ?_ _)); exact BK171.out) Try.underlying23 rfl (by kernel_rfl)) rfl ?_
 exact ⟨by first | rfl | (simp [errW_none, errW_some] <;> rfl) | (simp [*, errW_none, errW_some] <;> rfl), by repeat (with_reducible first | exact HB.out | apply below_alloc | apply pw_below_drewN | apply below_drew1 | refine below_set ?_ GE171.out)⟩

/-! ### contangolaw21_oil: function 28 -/
def contangolaw21_oil.f  : Option (ByteArray × Int × Int × Int × Int × Int × Bool) := some ((⟨#[111, 105, 108]⟩ : ByteArray), 0, 100, 1, 0, 1000, false)
set_option maxHeartbeats 8000000 in
set_option maxRecDepth 100000 in
theorem contangolaw21_oil.calls  (r1 : ByteArray) (r2 : Int) (r3 : Int) (r4 : Int) (r5 : Int) (r6 : Int) (r7 : Bool) (w : World) (h : contangolaw21_oil.f  = some (r1, r2, r3, r4, r5, r6, r7)) :
    Calls Try.prog 28 #[] w fun e w' => e = .returned (.agg #[.string r1, .int .i64 r2, .int .i64 r3, .int .i64 r4, .int .i64 r5, .int .i64 r6, .bool r7]) ∧ Below w.heap.size w w' := by
 have hu29 := Try.underlying29
 have HB := Aside0.mk (Below.refl w.heap.size w)
 have H : (some ((⟨#[111, 105, 108]⟩ : ByteArray), 0, 100, 1, 0, 1000, false)) = some (r1, r2, r3, r4, r5, r6, r7) := h
 clear h
 simp only [Option.some.injEq, Prod.mk.injEq] at H
 obtain ⟨rfl, rfl, rfl, rfl, rfl, rfl, rfl⟩ := H
 go_enter Try.func28, Try.ntmps28
 go_wp2_with (first | ((with_reducible refine gate_dst (N := 0) rfl ?_); refine box_event ?hg (N := 0) ?hd (cs := #[.string (⟨#[]⟩ : ByteArray), .int .i64 0, .int .i64 0, .int .i64 0, .int .i64 0, .int .i64 0, .bool false]) (t := 29) ?hr ?_; (case hd => rfl); (case hg => rfl); (case hr => first | (go_simp; done) | (go_simp; rfl)); intro gb172 hg w1 hbox hb; have n0_ := Aside0.mk (below_step (by repeat (with_reducible first | exact HB.out | apply below_alloc | apply pw_below_drewN | apply below_drew1)) hb); have n1_ := Aside0.mk (hbox); have n2_ := Aside0.mk ((by rw [hg]; exact (below_size (by repeat (with_reducible first | exact HB.out | apply below_alloc | apply pw_below_drewN | apply below_drew1))) : w.heap.size ≤ gb172)); have n3_ := n2_; clear HB; have HB := n0_; have BK172 := n1_; have GW172 := n2_; have GE172 := n3_; clear n0_ n1_ n2_ n3_; clear hb hbox hg; have hcz2_0 : w1.cell? ⟨gb172, 0, none⟩ = some (.string (⟨#[]⟩ : ByteArray)) := (blk_cell BK172.out 0).trans rfl; have hcz2_1 : w1.cell? ⟨gb172, 1, none⟩ = some (.int .i64 0) := (blk_cell BK172.out 1).trans rfl; have hcz2_2 : w1.cell? ⟨gb172, 2, none⟩ = some (.int .i64 0) := (blk_cell BK172.out 2).trans rfl; have hcz2_3 : w1.cell? ⟨gb172, 3, none⟩ = some (.int .i64 0) := (blk_cell BK172.out 3).trans rfl; have hcz2_4 : w1.cell? ⟨gb172, 4, none⟩ = some (.int .i64 0) := (blk_cell BK172.out 4).trans rfl; have hcz2_5 : w1.cell? ⟨gb172, 5, none⟩ = some (.int .i64 0) := (blk_cell BK172.out 5).trans rfl; have hcz2_6 : w1.cell? ⟨gb172, 6, none⟩ = some (.bool false) := (blk_cell BK172.out 6).trans rfl; have hfz2_0 := blk_frozen BK172.out 0; have hfz2_1 := blk_frozen BK172.out 1; have hfz2_2 := blk_frozen BK172.out 2; have hfz2_3 := blk_frozen BK172.out 3; have hfz2_4 := blk_frozen BK172.out 4; have hfz2_5 := blk_frozen BK172.out 5; have hfz2_6 := blk_frozen BK172.out 6))
 refine bodyPost_ret (results_cell_row rfl _ _ gb172 29 #[.string (⟨#[111, 105, 108]⟩ : ByteArray), .int .i64 0, .int .i64 100, .int .i64 1, .int .i64 0, .int .i64 1000, .bool false] (0, 0) _ rfl (by (with_reducible repeat (first | refine blk_drewN ?_ _ | refine blk_drew ?_ | refine blk_alloc ?_ _)); refine blk_put (cs := #[.string (⟨#[111, 105, 108]⟩ : ByteArray), .int .i64 0, .int .i64 100, .int .i64 1, .int .i64 0, .int .i64 1000, .bool false]) ?_ 6 _ rfl; (with_reducible repeat (first | refine blk_drewN ?_ _ | refine blk_drew ?_ | refine blk_alloc ?_ _)); refine blk_put (cs := #[.string (⟨#[111, 105, 108]⟩ : ByteArray), .int .i64 0, .int .i64 100, .int .i64 1, .int .i64 0, .int .i64 0, .bool false]) ?_ 5 _ rfl; (with_reducible repeat (first | refine blk_drewN ?_ _ | refine blk_drew ?_ | refine blk_alloc ?_ _)); refine blk_put (cs := #[.string (⟨#[111, 105, 108]⟩ : ByteArray), .int .i64 0, .int .i64 100, .int .i64 1, .int .i64 0, .int .i64 0, .bool false]) ?_ 4 _ rfl; (with_reducible repeat (first | refine blk_drewN ?_ _ | refine blk_drew ?_ | refine blk_alloc ?_ _)); refine blk_put (cs := #[.string (⟨#[111, 105, 108]⟩ : ByteArray), .int .i64 0, .int .i64 100, .int .i64 0, .int .i64 0, .int .i64 0, .bool false]) ?_ 3 _ rfl; (with_reducible repeat (first | refine blk_drewN ?_ _ | refine blk_drew ?_ | refine blk_alloc ?_ _)); refine blk_put (cs := #[.string (⟨#[111, 105, 108]⟩ : ByteArray), .int .i64 0, .int .i64 0, .int .i64 0, .int .i64 0, .int .i64 0, .bool false]) ?_ 2 _ rfl; (with_reducible repeat (first | refine blk_drewN ?_ _ | refine blk_drew ?_ | refine blk_alloc ?_ _)); refine blk_put (cs := #[.string (⟨#[111, 105, 108]⟩ : ByteArray), .int .i64 0, .int .i64 0, .int .i64 0, .int .i64 0, .int .i64 0, .bool false]) ?_ 1 _ rfl; (with_reducible repeat (first | refine blk_drewN ?_ _ | refine blk_drew ?_ | refine blk_alloc ?_ _)); refine blk_put (cs := #[.string (⟨#[]⟩ : ByteArray), .int .i64 0, .int .i64 0, .int .i64 0, .int .i64 0, .int .i64 0, .bool false]) ?_ 0 _ rfl; (with_reducible repeat (first | refine blk_drewN ?_ _ | refine blk_drew ?_ | refine blk_alloc ?_ _)); exact BK172.out) Try.underlying29 rfl (by kernel_rfl)) rfl ?_
 exact ⟨by first | rfl | (simp [errW_none, errW_some] <;> rfl) | (simp [*, errW_none, errW_some] <;> rfl), by repeat (with_reducible first | exact HB.out | apply below_alloc | apply pw_below_drewN | apply below_drew1 | refine below_set ?_ GE172.out)⟩

end Go.Proofs.Ytjaokhpbdhefhaa.POptionNets
