-- Written by a program of this session's (a turned copy of the kit's print, with functions proved by hand).
import Derived.Test.YtjaokhpbdhefhaaPOptionNetsx0
import Derived.Test.YtjaokhpbdhefhaaPOptionNetsx12
import Derived.Test.YtjaokhpbdhefhaaPOptionNetsx14
import Derived.Test.YtjaokhpbdhefhaaPOptionNetsx15
import Derived.Test.YtjaokhpbdhefhaaPOptionNetsx16
namespace Go.Proofs.Ytjaokhpbdhefhaa.POptionNets
open Go.RowKit Go.Proofs.YtjaokhpbdhefhaaW.PrintWords Go.Proofs.YtjaokhpbdhefhaaW.PrintLast Go.Proofs.YtjaokhpbdhefhaaW.PrintMore
attribute [local go_sem] max2_int min2_int max_two min_two max_three min_three max_four min_four Go.Proofs.YtjaokhpbdhefhaaHand.run_leq_str Go.Proofs.YtjaokhpbdhefhaaHand.run_gtr_str Go.Proofs.YtjaokhpbdhefhaaHand.run_geq_str   -- for this text's walks alone
set_option linter.unusedVariables false
set_option linter.unusedSimpArgs false

/-! ### contangoref21_Net: function 20 -/
abbrev Y : Bool := true
abbrev N : Bool := false
section
def RowsAt {α : Type} (d : Kd α) (e tb : TypeId) (w : World) (base b : Nat) (xss : List (List α)) : Prop :=
  ∃ vs : List Value, w.heap[b]? = some (.cells vs.toArray tb (0, 0)) ∧ vs.length = xss.length ∧ (∀ (i : Nat) (xs : List α) (v : Value), xss[i]? = some xs -> vs[i]? = some v -> d.R e w base (fun _ => True) v xs) ∧
    ∀ (i j : Nat) (u u' : Value), i ≠ j -> vs[i]? = some u -> vs[j]? = some u' -> u.ownBlock = none ∨ u.ownBlock ≠ u'.ownBlock
variable {α : Type} {d : Kd α} {e tb : TypeId} {w w1 : World} {base b : Nat} {xss : List (List α)}
theorem RowsAt.made (d : Kd α) (e tb : TypeId) (w : World) (base n : Nat) : RowsAt d e tb (w.alloc (.cells (List.replicate n (Value.slice none 0 0)).toArray tb (0, 0))) base w.heap.size (List.replicate n []) := by
  refine ⟨_, blk_new _ _, by simp, fun i xs v h1 h2 => ?_, fun i j u u' _ h1 _ => ?_⟩
  · obtain ⟨_, rfl⟩ := List.getElem?_eq_some_iff.1 h1
    obtain ⟨_, rfl⟩ := List.getElem?_eq_some_iff.1 h2
    rw [List.getElem_replicate, List.getElem_replicate]
    exact Kd.R_nil _ _ _ _ _
  · obtain ⟨_, rfl⟩ := List.getElem?_eq_some_iff.1 h1
    rw [List.getElem_replicate]
    exact .inl rfl
theorem RowsAt.below (h : RowsAt d e tb w base b xss) (hb : Below w.heap.size w w1) : RowsAt d e tb w1 base b xss := by
  obtain ⟨vs, h1, h2, h3, h4⟩ := h
  exact ⟨vs, blk_below h1 hb, h2, fun i xs v hx hv => Kd.R_below (h3 i xs v hx hv) hb, h4⟩
theorem RowsAt.lt (h : RowsAt d e tb w base b xss) : b < w.heap.size := by
  obtain ⟨vs, h1, _⟩ := h
  exact blk_lt h1
theorem RowsAt.get (h : RowsAt d e tb w base b xss) (hE : d.E = []) (ht : e ≠ tb) {i : Nat} {xs : List α} (hx : xss[i]? = some xs) :
    ∃ v, w.cell? ⟨b, i, none⟩ = some v ∧ w.frozen? ⟨b, i, none⟩ = false ∧ d.R e w base (fun _ => True) v xs ∧
      ∀ w1 v1 xs1, w.grownBy w1 v.ownBlock -> d.R e w1 base (fun _ => True) v1 xs1 -> (v1.ownBlock = v.ownBlock ∨ ∃ k, v1.ownBlock = some k ∧ w.heap.size <= k) ->
        w1.cell? ⟨b, i, none⟩ = some v ∧ w1.frozen? ⟨b, i, none⟩ = false ∧ RowsAt d e tb (w1.setCell ⟨b, i, none⟩ v1) base b (xss.set i xs1) := by
  obtain ⟨vs, h1, h2, h3, h4⟩ := h
  have hlt : i < vs.length := by have := (List.getElem?_eq_some_iff.1 hx).1; omega
  have hv : vs[i]? = some vs[i] := List.getElem?_eq_getElem hlt
  have hne : ∀ (j : Nat) (u : Value), vs[j]? = some u -> some b ≠ u.ownBlock := by
    intro j u hu he
    have hjl := (List.getElem?_eq_some_iff.1 hu).1
    obtain ⟨cells, hc⟩ := Kd.R_typed (h3 j xss[j] u (List.getElem?_eq_getElem (by omega)) hu) b he.symm
    rw [h1] at hc
    simp only [Option.some.injEq, Obj.cells.injEq] at hc
    exact ht hc.2.1.symm
  refine ⟨vs[i], (blk_cell h1 i).trans (by simp [hlt]), blk_frozen h1 i, h3 i xs _ hx hv, fun w1 v1 xs1 hg hR hat => ?_⟩
  have hb1 : w1.heap[b]? = some (.cells vs.toArray tb (0, 0)) := (hg.block b (blk_lt h1) (hne i _ hv)).trans h1
  refine ⟨(blk_cell hb1 i).trans (by simp [hlt]), blk_frozen hb1 i, ?_⟩
  have hs := blk_set hb1 i v1
  have hg2 : w1.grownBy (w1.setCell ⟨b, i, none⟩ v1) (some b) := ⟨rfl, rfl, rfl, by simp [World.size_setCell], fun k _ hk => Below.heap_setCell w1 _ v1 k (fun e => hk (by rw [e]))⟩
  have hn1 : some b ≠ v1.ownBlock := by
    intro he
    obtain ⟨cells, hc⟩ := Kd.R_typed hR b he.symm
    rw [hb1] at hc
    simp only [Option.some.injEq, Obj.cells.injEq] at hc
    exact ht hc.2.1.symm
  refine ⟨vs.set i v1, by rw [hs]; simp, by simp [h2], fun j ys u hy hu => ?_, fun j j' u u' hj hu hu' => ?_⟩
  · by_cases hij : i = j
    · subst hij
      rw [List.getElem?_set_self (by omega)] at hy hu
      cases hy
      cases hu
      exact Kd.R_grown2 hR hE hg2 (fun k hk => by cases hk; exact hn1)
    · rw [List.getElem?_set_ne hij] at hy hu
      refine Kd.R_grown2 (Kd.R_grown2 (h3 j ys u hy hu) hE hg (fun k hk hk2 => ?_)) hE hg2 (fun k hk => by cases hk; exact hne j u hu)
      rcases h4 j i u _ (fun e => hij e.symm) hu hv with h | h
      · rw [h] at hk2; cases hk2
      · exact h (hk2.symm.trans hk.symm)
  · have key : ∀ (j : Nat) (y : Value), i ≠ j -> vs[j]? = some y -> (y.ownBlock = none ∨ y.ownBlock ≠ v1.ownBlock) ∧ (v1.ownBlock = none ∨ v1.ownBlock ≠ y.ownBlock) := by
      intro j y hj hy
      have hjl := (List.getElem?_eq_some_iff.1 hy).1
      rcases hat with h | ⟨k, hk, hkl⟩
      · rw [h]
        exact ⟨h4 j i y _ (fun e => hj e.symm) hy hv, h4 i j _ y hj hv hy⟩
      · have : v1.ownBlock ≠ y.ownBlock := fun he => by
          have := Go.Proofs.YtjaokhpbdhefhaaHand.row_lt (h3 j xss[j] y (List.getElem?_eq_getElem (by omega)) hy) (he.symm.trans hk)
          omega
        exact ⟨.inr (fun he => this he.symm), .inr this⟩
    by_cases hi : i = j
    · subst hi
      rw [List.getElem?_set_self (by omega)] at hu
      cases hu
      rw [List.getElem?_set_ne hj] at hu'
      exact (key j' u' hj hu').2
    · rw [List.getElem?_set_ne hi] at hu
      by_cases hi' : i = j'
      · subst hi'
        rw [List.getElem?_set_self (by omega)] at hu'
        cases hu'
        exact (key j u hi hu).1
      · rw [List.getElem?_set_ne hi'] at hu'
        exact h4 j j' u u' hj hu hu'
theorem blk_row {ok : Nat -> Prop} {g t : Nat} {cs : Array Value} {v : Value} {xs : List α} (h : w.heap[g]? = some (.cells cs t (0, 0))) (hR : d.R e w base ok v xs) (ht : e ≠ t) (hg : w.grownBy w1 v.ownBlock) : w1.heap[g]? = some (.cells cs t (0, 0)) := by
  refine (hg.block g (blk_lt h) (fun he => ?_)).trans h
  obtain ⟨cells, hc⟩ := Kd.R_typed hR g he.symm
  rw [h] at hc
  simp only [Option.some.injEq, Obj.cells.injEq] at hc
  exact ht hc.2.1.symm
end

def contangoref21_Net.go (k : Nat) (l0 : List S29) (l2 : List S63) : List S57 -> List (List Int) -> Option (Int × List (List Int))
  | [], m => some (0, m)
  | p :: r, m => (contangoref21_option.f p.f0.f0 p.f0.f1 p.f0.f2 p.f0.f3).bind fun b => if b = true then
      ((contangoref09_Find.f k l0 p.f0.f0).bind fun x => if x.2.2.2.2.2.2.2 = true then
        ((contangoref18_Find.f k l2 p.f0.f0 p.f0.f1 p.f0.f2 p.f0.f3).bind fun y => if y.2 = true then
          ((contangoref15_Net.f p.f0.f0 p.f0.f1 p.f0.f2 p.f0.f3 p.f1 p.f2).bind fun q => (contangoref09_Value.f k x.1 x.2.1 x.2.2.1 x.2.2.2.1 x.2.2.2.2.1 x.2.2.2.2.2.1 x.2.2.2.2.2.2.1 y.1 q).bind fun z => if z.2 = 0 then
            (if 0 <= x.2.1 ∧ x.2.1 < 8 then (if (m.getD x.2.1.toNat []).length < 1000000 then contangoref21_Net.go k l0 l2 r (m.set x.2.1.toNat (m.getD x.2.1.toNat [] ++ [z.1])) else none) else none)
          else some (z.2, [])) else some (11, [])) else some (19, [])) else contangoref21_Net.go k l0 l2 r m
def contangoref21_Net.sums (k : Nat) (m : List (List Int)) : Nat -> Int -> List Int -> Option (List Int × Int)
  | 0, _, t => some (t, 0)
  | j + 1, c, t => (contangoref01_Sum.f k (m.getD c.toNat [])).bind fun x => if x.2 = 0 then contangoref21_Net.sums k m j (c + 1) (t ++ [x.1]) else some ([], x.2)
def contangoref21_Net.f (k : Nat) (l0 : List S29) (l1 : List S57) (l2 : List S63) : Option (List Int × Int) :=
  (contangoref09_CheckAll.f k l0).bind fun e0 => if e0 = 0 then ((contangoref15_Check.f k l1).bind fun e1 => if e1 = 0 then ((contangoref18_CheckAll.f k l2).bind fun e2 => if e2 = 0 then
    ((contangoref21_Net.go k l0 l2 l1 (List.replicate 8 [])).bind fun x => if x.1 = 0 then contangoref21_Net.sums k x.2 8 0 [] else some ([], x.1))
    else some ([], e2)) else some ([], e1)) else some ([], e0)
theorem contangoref21_Net.mono_go (k : Nat) (l0 : List S29) (l2 : List S63) (l : List S57) : ∀ m, LeO (contangoref21_Net.go k l0 l2 l m) (contangoref21_Net.go (k + 1) l0 l2 l m) := by
  induction l with
  | nil => intro m; exact LeO.refl _
  | cons p r ih =>
    intro m
    unfold contangoref21_Net.go
    exact LeO.bind (LeO.refl _) (fun b => LeO.ite (LeO.bind (contangoref09_Find.mono _ _ _) (fun x => LeO.ite (LeO.bind (contangoref18_Find.mono _ _ _ _ _ _) (fun y => LeO.ite (LeO.bind (LeO.refl _) (fun q => LeO.bind (contangoref09_Value.mono _ _ _ _ _ _ _ _ _ _) (fun z => LeO.ite (LeO.ite (LeO.ite (ih _) (LeO.none _)) (LeO.none _)) (LeO.refl _)))) (LeO.refl _))) (LeO.refl _))) (ih _))
theorem contangoref21_Net.mono_sums (k : Nat) (m : List (List Int)) (j : Nat) : ∀ c t, LeO (contangoref21_Net.sums k m j c t) (contangoref21_Net.sums (k + 1) m j c t) := by
  induction j with
  | zero => intro c t; exact LeO.refl _
  | succ j ih =>
    intro c t
    unfold contangoref21_Net.sums
    exact LeO.bind (contangoref01_Sum.mono _ _) (fun x => LeO.ite (ih _ _) (LeO.refl _))
theorem contangoref21_Net.mono : ∀ a0 a1 a2 k, LeO (contangoref21_Net.f k a0 a1 a2) (contangoref21_Net.f (k + 1) a0 a1 a2) := by
  intro a0 a1 a2 k
  unfold contangoref21_Net.f
  exact LeO.bind (contangoref09_CheckAll.mono _ _) (fun e0 => LeO.ite (LeO.bind (contangoref15_Check.mono _ _) (fun e1 => LeO.ite (LeO.bind (contangoref18_CheckAll.mono _ _) (fun e2 => LeO.ite (LeO.bind (contangoref21_Net.mono_go _ _ _ _ _) (fun x => LeO.ite (contangoref21_Net.mono_sums _ _ _ _ _) (LeO.refl _))) (LeO.refl _))) (LeO.refl _))) (LeO.refl _))
theorem contangoref21_Net.len (k : Nat) (l0 : List S29) (l2 : List S63) (l : List S57) : ∀ m x, m.length = 8 -> contangoref21_Net.go k l0 l2 l m = some x -> x.1 = 0 -> x.2.length = 8 := by
  induction l with
  | nil => intro m x hm h _; unfold contangoref21_Net.go at h; obtain rfl := Option.some.inj h; exact hm
  | cons p r ih =>
    intro m x hm h h0
    unfold contangoref21_Net.go at h
    obtain ⟨b, _, h⟩ := Option.bind_eq_some_iff.mp h
    by_cases c1 : b = true
    case neg => rw [if_neg c1] at h; exact ih m x hm h h0
    rw [if_pos c1] at h
    obtain ⟨y, _, h⟩ := Option.bind_eq_some_iff.mp h
    by_cases c2 : y.2.2.2.2.2.2.2 = true
    case neg => rw [if_neg c2] at h; obtain rfl := Option.some.inj h; cases h0
    rw [if_pos c2] at h
    obtain ⟨z, _, h⟩ := Option.bind_eq_some_iff.mp h
    by_cases c3 : z.2 = true
    case neg => rw [if_neg c3] at h; obtain rfl := Option.some.inj h; cases h0
    rw [if_pos c3] at h
    obtain ⟨q, _, h⟩ := Option.bind_eq_some_iff.mp h
    obtain ⟨u, _, h⟩ := Option.bind_eq_some_iff.mp h
    by_cases c4 : u.2 = 0
    case neg => rw [if_neg c4] at h; obtain rfl := Option.some.inj h; exact absurd h0 c4
    rw [if_pos c4] at h
    by_cases c5 : 0 <= y.2.1 ∧ y.2.1 < 8
    case neg => rw [if_neg c5] at h; cases h
    rw [if_pos c5] at h
    by_cases c6 : (m.getD y.2.1.toNat []).length < 1000000
    case neg => rw [if_neg c6] at h; cases h
    rw [if_pos c6] at h
    exact ih _ x (by rw [List.length_set]; exact hm) h h0
set_option maxHeartbeats 3200000 in
set_option maxRecDepth 100000 in
theorem contangoref21_Net.calls (k : Nat) (A0 : Option Addr) (c0 : Nat) (l0 : List (S29)) (A1 : Option Addr) (c1 : Nat) (l1 : List (S57)) (A2 : Option Addr) (c2 : Nat) (l2 : List (S63)) (r1 : List Int) (r2 : Int) (w : World) (hr0 : Kd.C k29 w A0 l0.length l0) (hc0 : l0.length <= c0) (hr1 : Kd.C k57 w A1 l1.length l1) (hc1 : l1.length <= c1) (hr2 : Kd.C k63 w A2 l2.length l2) (hc2 : l2.length <= c2) (h : contangoref21_Net.f k l0 l1 l2 = some (r1, r2)) :
    Calls Try.prog 20 #[.slice A0 l0.length c0, .slice A1 l1.length c1, .slice A2 l2.length c2] w fun e w' => ∃ v0_ : Value, e = .returned (.tuple #[v0_, .int .i64 r2]) ∧ Kd.R (Kd.int .i64) 3 w' w.heap.size (fun _ => True) v0_ r1 ∧ Below w.heap.size w w' := by
  obtain ⟨e0, hC0, h⟩ := Option.bind_eq_some_iff.mp h
  have HR0 := Aside0.mk hr0
  have HC0 := Aside0.mk hc0
  have HR1 := Aside0.mk hr1
  have hl1 := hr1.2.1
  have HC1 := Aside0.mk hc1
  have HR2 := Aside0.mk hr2
  have HC2 := Aside0.mk hc2
  have HE0 := Aside0.mk hC0
  have HH := Aside0.mk h
  clear hr0 hc0 hr1 hc1 hr2 hc2 hC0 h
  by_cases he : e0 = 0
  case neg =>
    have hh := HH.out
    clear HH
    rw [if_neg he] at hh
    have hh2 := Option.some.inj hh
    simp only [Prod.mk.injEq] at hh2
    obtain ⟨rfl, rfl⟩ := hh2
    have h0b : (e0 == 0) = false := beq_eq_false_iff_ne.mpr he
    have h1b : (e0 != 0) = true := bne_iff_ne.mpr he
    clear he hh
    go_enter Try.func20, Try.ntmps20
    go_wp2_with (first | (go_at_call 38; refine (contangoref09_CheckAll.calls k A0 c0 l0 e0 _ HR0.out HC0.out HE0.out).mono ?_; rintro _ w1 ⟨rfl, hb⟩; have HB := Aside0.mk hb; clear hb))
    go_ret2
    exact ⟨_, rfl, Kd.R_nil _ _ _ _ _, HB.out⟩
  subst he
  have hh := HH.out
  rw [if_pos rfl] at hh
  obtain ⟨e1, hC1, hh⟩ := Option.bind_eq_some_iff.mp hh
  have HE1 := Aside0.mk hC1
  clear hC1 HH
  by_cases he : e1 = 0
  case neg =>
    rw [if_neg he] at hh
    have hh2 := Option.some.inj hh
    simp only [Prod.mk.injEq] at hh2
    obtain ⟨rfl, rfl⟩ := hh2
    have h0b : (e1 == 0) = false := beq_eq_false_iff_ne.mpr he
    have h1b : (e1 != 0) = true := bne_iff_ne.mpr he
    clear he hh
    go_enter Try.func20, Try.ntmps20
    go_wp2_with (first | (go_at_call 38; refine (contangoref09_CheckAll.calls k A0 c0 l0 0 _ HR0.out HC0.out HE0.out).mono ?_; rintro _ w1 ⟨rfl, hb⟩; have HB := Aside0.mk hb; clear hb) | (go_at_call 39; refine (contangoref15_Check.calls k A1 c1 l1 e1 _ (Kd.C_below HR1.out HB.out) HC1.out HE1.out).mono ?_; rintro _ w2 ⟨rfl, hb⟩; have HB2 := Aside0.mk (below_step HB.out hb); clear hb))
    go_ret2
    exact ⟨_, rfl, Kd.R_nil _ _ _ _ _, HB2.out⟩
  subst he
  rw [if_pos rfl] at hh
  obtain ⟨e2, hC2, hh⟩ := Option.bind_eq_some_iff.mp hh
  have HE2 := Aside0.mk hC2
  clear hC2
  by_cases he : e2 = 0
  case neg =>
    rw [if_neg he] at hh
    have hh2 := Option.some.inj hh
    simp only [Prod.mk.injEq] at hh2
    obtain ⟨rfl, rfl⟩ := hh2
    have h0b : (e2 == 0) = false := beq_eq_false_iff_ne.mpr he
    have h1b : (e2 != 0) = true := bne_iff_ne.mpr he
    clear he hh
    go_enter Try.func20, Try.ntmps20
    go_wp2_with (first | (go_at_call 38; refine (contangoref09_CheckAll.calls k A0 c0 l0 0 _ HR0.out HC0.out HE0.out).mono ?_; rintro _ w1 ⟨rfl, hb⟩; have HB := Aside0.mk hb; clear hb) | (go_at_call 39; refine (contangoref15_Check.calls k A1 c1 l1 0 _ (Kd.C_below HR1.out HB.out) HC1.out HE1.out).mono ?_; rintro _ w2 ⟨rfl, hb⟩; have HB2 := Aside0.mk (below_step HB.out hb); clear hb) | (go_at_call 40; refine (contangoref18_CheckAll.calls k A2 c2 l2 e2 _ (Kd.C_below HR2.out HB2.out) HC2.out HE2.out).mono ?_; rintro _ w3 ⟨rfl, hb⟩; have HB3 := Aside0.mk (below_step HB2.out hb); clear hb))
    go_ret2
    exact ⟨_, rfl, Kd.R_nil _ _ _ _ _, HB3.out⟩
  subst he
  rw [if_pos rfl] at hh
  obtain ⟨⟨ee, mm⟩, hG, hh⟩ := Option.bind_eq_some_iff.mp hh
  have hlen := contangoref21_Net.len k l0 l2 l1 _ _ (List.length_replicate) hG
  have HLEN := Aside0.mk hlen
  have HG := Aside0.mk hG
  have HH := Aside0.mk hh
  clear hG hh hlen
  go_enter Try.func20, Try.ntmps20
  go_wp2_with (first | (go_at_call 38; refine (contangoref09_CheckAll.calls k A0 c0 l0 0 _ HR0.out HC0.out HE0.out).mono ?_; rintro _ w1 ⟨rfl, hb⟩; have HB := Aside0.mk hb; clear hb) | (go_at_call 39; refine (contangoref15_Check.calls k A1 c1 l1 0 _ (Kd.C_below HR1.out HB.out) HC1.out HE1.out).mono ?_; rintro _ w2 ⟨rfl, hb⟩; have HB2 := Aside0.mk (below_step HB.out hb); clear hb) | (go_at_call 40; refine (contangoref18_CheckAll.calls k A2 c2 l2 0 _ (Kd.C_below HR2.out HB2.out) HC2.out HE2.out).mono ?_; rintro _ w3 ⟨rfl, hb⟩; have HB3 := Aside0.mk (below_step HB2.out hb); clear hb))
  have hsz0 := HB3.out.size
  clear HB HB2 HE0 HE1 HE2
  go_loopg [12] l1.length (fun kq v12 w' => ∃ (x : Nat) (m : List (List Int)), v12 = .int .i64 x ∧ kq + x = l1.length ∧ m.length = 8 ∧ Aside0 (contangoref21_Net.go k l0 l2 (l1.drop x) m = some (ee, mm)) ∧ Aside0 (RowsAt (Kd.int .i64) 3 77 w' w.heap.size w3.heap.size m) ∧ Aside0 (Below w.heap.size w w'))
  case atStart => exact ⟨0, List.replicate 8 [], rfl, by omega, List.length_replicate, HG, ⟨RowsAt.made _ _ _ _ _ 8⟩, ⟨HB3.out.alloc (by omega) _⟩⟩
  case round =>
    clear HG HB3
    obtain ⟨x, m, rfl, hx, hm8, HA, HM, HB⟩ := hrel
    have hsz := HB.out.size
    have hltM := HM.out.lt
    have HM8 := Aside0.mk hm8
    clear hm8
    by_cases hlt : x < l1.length
    · have hx0 : 0 <= (x : Int) := by omega
      have hxl : (x : Int) < (l1.length : Int) := by omega
      have hd1 := eq_true hx0
      have hd2 := eq_true hxl
      have hdr : l1.drop x = rd_T57 l1 (x : Int) :: l1.drop (x + 1) := by
        rw [List.drop_eq_getElem_cons hlt]
        simp [rd_T57, hlt]
      have hA := HA.out
      rw [hdr, contangoref21_Net.go] at hA
      clear hdr HA
      obtain ⟨p, hpe⟩ : ∃ p, rd_T57 l1 (x : Int) = p := ⟨_, rfl⟩
      rw [hpe] at hA
      obtain ⟨⟨p0, p1, p2, p3⟩, p4, p5⟩ := p
      simp only at hA
      obtain ⟨adh, eh, h0, h1, h2, h3, h4, h5⟩ := at_T57 (Kd.C_below HR1.out HB.out) (x : Int) hx0 hxl
      cases eh
      rw [hpe] at h0 h1 h2 h3 h4 h5
      simp only [Int.toNat_natCast] at h0 h1 h2 h3 h4 h5
      obtain ⟨ob, hO, hA⟩ := Option.bind_eq_some_iff.mp hA
      have HO := Aside0.mk hO
      clear hO
      cases ob with
      | false =>
        rw [if_neg (by decide)] at hA
        have HA2 := Aside0.mk hA
        clear hA
        go_wp2_with (go_at_call 32; refine (contangoref21_option.calls p0 p1 p2 p3 false _ HO.out).mono ?_; rintro _ w4 ⟨rfl, hb⟩; have HM2 := Aside0.mk (HM.out.below hb); have HB2 := Aside0.mk (below_step HB.out hb); clear hb)
        go_roundg (l1.length - (x + 1))
        case measure => omega
        case rel => exact ⟨x + 1, m, by go_num, by omega, HM8.out, HA2, HM2, HB2⟩
      | true =>
        rw [if_pos rfl] at hA
        obtain ⟨⟨y0, y1, y2, y3, y4, y5, y6, yb⟩, hF, hA⟩ := Option.bind_eq_some_iff.mp hA
        have HF := Aside0.mk hF
        clear hF
        simp only at hA
        cases yb with
        | false =>
          rw [if_neg (by decide)] at hA
          have hA2 := Option.some.inj hA
          simp only [Prod.mk.injEq] at hA2
          obtain ⟨rfl, rfl⟩ := hA2
          have hh := HH.out
          rw [if_neg (by decide)] at hh
          have hh2 := Option.some.inj hh
          simp only [Prod.mk.injEq] at hh2
          obtain ⟨rfl, rfl⟩ := hh2
          clear hh HH hA
          go_wp2_with (first | (go_at_call 32; refine (contangoref21_option.calls p0 p1 p2 p3 true _ HO.out).mono ?_; rintro _ w4 ⟨rfl, hb⟩; have HM2 := Aside0.mk (HM.out.below hb); have HB2 := Aside0.mk (below_step HB.out hb); clear hb; obtain ⟨adi, ei, i0, i1, i2, i3, i4, i5⟩ := at_T57 (Kd.C_below HR1.out HB2.out) (x : Int) hx0 hxl; cases ei; rw [hpe] at i0 i1 i2 i3 i4 i5; simp only [Int.toNat_natCast] at i0 i1 i2 i3 i4 i5) | (go_at_call 41; refine (contangoref09_Find.calls k A0 c0 l0 p0 y0 y1 y2 y3 y4 y5 y6 false _ (Kd.C_below HR0.out HB2.out) HC0.out HF.out).mono ?_; rintro _ w5 ⟨rfl, hb⟩; have HM3 := Aside0.mk ((HM2.out.below hb).below (below_alloc (Below.refl _ _) (.cells #[.string y0, .int .i64 y1, .int .i64 y2, .int .i64 y3, .int .i64 y4, .int .i64 y5, .bool y6] 29 (0, 0)))); have HB3 := Aside0.mk (below_step HB2.out hb); have HB3' := Aside0.mk (HB3.out.alloc HB3.out.size (.cells #[.string y0, .int .i64 y1, .int .i64 y2, .int .i64 y3, .int .i64 y4, .int .i64 y5, .bool y6] 29 (0, 0))); clear hb))
          go_ret2
          exact ⟨_, rfl, Kd.R_nil _ _ _ _ _, HB3'.out⟩
        | true =>
          rw [if_pos rfl] at hA
          obtain ⟨⟨mp, mb⟩, hK, hA⟩ := Option.bind_eq_some_iff.mp hA
          have HK := Aside0.mk hK
          clear hK
          simp only at hA
          cases mb with
          | false =>
            rw [if_neg (by decide)] at hA
            have hA2 := Option.some.inj hA
            simp only [Prod.mk.injEq] at hA2
            obtain ⟨rfl, rfl⟩ := hA2
            have hh := HH.out
            rw [if_neg (by decide)] at hh
            have hh2 := Option.some.inj hh
            simp only [Prod.mk.injEq] at hh2
            obtain ⟨rfl, rfl⟩ := hh2
            clear hh HH hA
            go_wp2_with (first | (go_at_call 32; refine (contangoref21_option.calls p0 p1 p2 p3 true _ HO.out).mono ?_; rintro _ w4 ⟨rfl, hb⟩; have HM2 := Aside0.mk (HM.out.below hb); have HB2 := Aside0.mk (below_step HB.out hb); clear hb; obtain ⟨adi, ei, i0, i1, i2, i3, i4, i5⟩ := at_T57 (Kd.C_below HR1.out HB2.out) (x : Int) hx0 hxl; cases ei; rw [hpe] at i0 i1 i2 i3 i4 i5; simp only [Int.toNat_natCast] at i0 i1 i2 i3 i4 i5) | (go_at_call 41; refine (contangoref09_Find.calls k A0 c0 l0 p0 y0 y1 y2 y3 y4 y5 y6 true _ (Kd.C_below HR0.out HB2.out) HC0.out HF.out).mono ?_; rintro _ w5 ⟨rfl, hb⟩; have HM3 := Aside0.mk ((HM2.out.below hb).below (below_alloc (Below.refl _ _) (.cells #[.string y0, .int .i64 y1, .int .i64 y2, .int .i64 y3, .int .i64 y4, .int .i64 y5, .bool y6] 29 (0, 0)))); have HB3 := Aside0.mk (below_step HB2.out hb); have HB3' := Aside0.mk (HB3.out.alloc HB3.out.size (.cells #[.string y0, .int .i64 y1, .int .i64 y2, .int .i64 y3, .int .i64 y4, .int .i64 y5, .bool y6] 29 (0, 0))); clear hb; obtain ⟨adj, ej, j0, j1, j2, j3, j4, j5⟩ := at_T57 (Kd.C_below HR1.out HB3'.out) (x : Int) hx0 hxl; cases ej; rw [hpe] at j0 j1 j2 j3 j4 j5; simp only [Int.toNat_natCast] at j0 j1 j2 j3 j4 j5) | (go_at_call 42; refine (contangoref18_Find.calls k A2 c2 l2 p0 p1 p2 p3 mp false _ (Kd.C_below HR2.out HB3'.out) HC2.out HK.out).mono ?_; rintro _ w6 ⟨rfl, hb⟩; have HM5 := Aside0.mk (HM3.out.below hb); have HB5 := Aside0.mk (below_step HB3'.out hb); clear hb))
            go_ret2
            exact ⟨_, rfl, Kd.R_nil _ _ _ _ _, HB5.out⟩
          | true =>
            rw [if_pos rfl] at hA
            obtain ⟨q, hQ, hA⟩ := Option.bind_eq_some_iff.mp hA
            have HQ := Aside0.mk hQ
            clear hQ
            obtain ⟨⟨n, e⟩, hV, hA⟩ := Option.bind_eq_some_iff.mp hA
            have HV := Aside0.mk hV
            clear hV
            simp only at hA
            by_cases he : e = 0
            case neg =>
              rw [if_neg he] at hA
              have hA2 := Option.some.inj hA
              simp only [Prod.mk.injEq] at hA2
              obtain ⟨rfl, rfl⟩ := hA2
              have hh := HH.out
              rw [if_neg he] at hh
              have hh2 := Option.some.inj hh
              simp only [Prod.mk.injEq] at hh2
              obtain ⟨rfl, rfl⟩ := hh2
              have h0b : (e == 0) = false := beq_eq_false_iff_ne.mpr he
              have h1b : (e != 0) = true := bne_iff_ne.mpr he
              clear he hh HH hA
              go_wp2_with (first | (go_at_call 32; refine (contangoref21_option.calls p0 p1 p2 p3 true _ HO.out).mono ?_; rintro _ w4 ⟨rfl, hb⟩; have HM2 := Aside0.mk (HM.out.below hb); have HB2 := Aside0.mk (below_step HB.out hb); clear hb; obtain ⟨adi, ei, i0, i1, i2, i3, i4, i5⟩ := at_T57 (Kd.C_below HR1.out HB2.out) (x : Int) hx0 hxl; cases ei; rw [hpe] at i0 i1 i2 i3 i4 i5; simp only [Int.toNat_natCast] at i0 i1 i2 i3 i4 i5) | (go_at_call 41; refine (contangoref09_Find.calls k A0 c0 l0 p0 y0 y1 y2 y3 y4 y5 y6 true _ (Kd.C_below HR0.out HB2.out) HC0.out HF.out).mono ?_; rintro _ w5 ⟨rfl, hb⟩; have HM3 := Aside0.mk ((HM2.out.below hb).below (below_alloc (Below.refl _ _) (.cells #[.string y0, .int .i64 y1, .int .i64 y2, .int .i64 y3, .int .i64 y4, .int .i64 y5, .bool y6] 29 (0, 0)))); have HB3 := Aside0.mk (below_step HB2.out hb); have HB3' := Aside0.mk (HB3.out.alloc HB3.out.size (.cells #[.string y0, .int .i64 y1, .int .i64 y2, .int .i64 y3, .int .i64 y4, .int .i64 y5, .bool y6] 29 (0, 0))); clear hb; obtain ⟨adj, ej, j0, j1, j2, j3, j4, j5⟩ := at_T57 (Kd.C_below HR1.out HB3'.out) (x : Int) hx0 hxl; cases ej; rw [hpe] at j0 j1 j2 j3 j4 j5; simp only [Int.toNat_natCast] at j0 j1 j2 j3 j4 j5) | (go_at_call 42; refine (contangoref18_Find.calls k A2 c2 l2 p0 p1 p2 p3 mp true _ (Kd.C_below HR2.out HB3'.out) HC2.out HK.out).mono ?_; rintro _ w6 ⟨rfl, hb⟩; have HM5 := Aside0.mk (HM3.out.below hb); have HB5 := Aside0.mk (below_step HB3'.out hb); have BX := blk_below (blk_new w5 (.cells #[.string y0, .int .i64 y1, .int .i64 y2, .int .i64 y3, .int .i64 y4, .int .i64 y5, .bool y6] 29 (0, 0))) hb; have hy0 : w6.cell? ⟨w5.heap.size, 0, none⟩ = some (.string y0) := (blk_cell BX 0).trans rfl; have hy1 : w6.cell? ⟨w5.heap.size, 1, none⟩ = some (.int .i64 y1) := (blk_cell BX 1).trans rfl; have hy2 : w6.cell? ⟨w5.heap.size, 2, none⟩ = some (.int .i64 y2) := (blk_cell BX 2).trans rfl; have hy3 : w6.cell? ⟨w5.heap.size, 3, none⟩ = some (.int .i64 y3) := (blk_cell BX 3).trans rfl; have hy4 : w6.cell? ⟨w5.heap.size, 4, none⟩ = some (.int .i64 y4) := (blk_cell BX 4).trans rfl; have hy5 : w6.cell? ⟨w5.heap.size, 5, none⟩ = some (.int .i64 y5) := (blk_cell BX 5).trans rfl; have hy6 : w6.cell? ⟨w5.heap.size, 6, none⟩ = some (.bool y6) := (blk_cell BX 6).trans rfl; have hltX := blk_lt BX; have BX5 := Aside0.mk BX; clear hb BX; obtain ⟨adm, em, m0, m1, m2, m3, m4, m5⟩ := at_T57 (Kd.C_below HR1.out HB5.out) (x : Int) hx0 hxl; cases em; rw [hpe] at m0 m1 m2 m3 m4 m5; simp only [Int.toNat_natCast] at m0 m1 m2 m3 m4 m5))
              refine start_ (n := 13) (S := fun w' => w'.cell? ⟨w5.heap.size, 0, none⟩ = some (.string y0) ∧ w'.cell? ⟨w5.heap.size, 1, none⟩ = some (.int .i64 y1) ∧ w'.cell? ⟨w5.heap.size, 2, none⟩ = some (.int .i64 y2) ∧ w'.cell? ⟨w5.heap.size, 3, none⟩ = some (.int .i64 y3) ∧ w'.cell? ⟨w5.heap.size, 4, none⟩ = some (.int .i64 y4) ∧ w'.cell? ⟨w5.heap.size, 5, none⟩ = some (.int .i64 y5) ∧ w'.cell? ⟨w5.heap.size, 6, none⟩ = some (.bool y6) ∧ w'.cell? (adh.add (x * 6)) = some (.string p0) ∧ w'.cell? ⟨(adh.add (x * 6)).block, (adh.add (x * 6)).off + 1, none⟩ = some (.int .i64 p1) ∧ w'.cell? ⟨(adh.add (x * 6)).block, (adh.add (x * 6)).off + 2, none⟩ = some (.int .i64 p2) ∧ w'.cell? ⟨(adh.add (x * 6)).block, (adh.add (x * 6)).off + 3, none⟩ = some (.int .i64 p3) ∧ w'.cell? ⟨(adh.add (x * 6)).block, (adh.add (x * 6)).off + 4, none⟩ = some (.int .i64 p4) ∧ w'.cell? ⟨(adh.add (x * 6)).block, (adh.add (x * 6)).off + 5, none⟩ = some (.int .i64 p5)) (ds := [7]) #[N, N, N, N, N, N, N, N, N, N, N, N, N] (by kernel_rfl) rfl rfl ⟨hy0, hy1, hy2, hy3, hy4, hy5, hy6, m0, m1, m2, m3, m4, m5⟩ (fun hHeld => ?_)
              refine pure_ (i := 1) (N := some 78) (v := ?_) (a' := ?_) #[N, Y, N, N, N, N, N, N, N, N, N, N, N] rfl rfl (by kernel_rfl) (fun _ _ _ h => h) (Or.inl ⟨by rfl, ?_⟩) ?_ ?_
              rotate_left
              · intro w'
                go_simp
                with_reducible rfl
              rotate_left
              · simp only [Act.put, List.setIfInBounds_toArray, List.set_cons_zero, List.set_cons_succ]
                rfl
              refine pure_ (i := 2) (N := some 79) (v := ?_) (a' := ?_) #[N, Y, Y, N, N, N, N, N, N, N, N, N, N] rfl rfl (by kernel_rfl) (fun _ _ _ h => h) (Or.inl ⟨by rfl, ?_⟩) ?_ ?_
              rotate_left
              · intro w'
                go_simp
                with_reducible rfl
              rotate_left
              · simp only [Act.put, List.setIfInBounds_toArray, List.set_cons_zero, List.set_cons_succ]
                rfl
              refine pure_ (i := 3) (N := some 80) (v := ?_) (a' := ?_) #[N, Y, Y, Y, N, N, N, N, N, N, N, N, N] rfl rfl (by kernel_rfl) (fun _ _ _ h => h) (Or.inl ⟨by rfl, ?_⟩) ?_ ?_
              rotate_left
              · intro w'
                go_simp
                with_reducible rfl
              rotate_left
              · simp only [Act.put, List.setIfInBounds_toArray, List.set_cons_zero, List.set_cons_succ]
                rfl
              refine pure_ (i := 4) (N := some 81) (v := ?_) (a' := ?_) #[N, Y, Y, Y, Y, N, N, N, N, N, N, N, N] rfl rfl (by kernel_rfl) (fun _ _ _ h => h) (Or.inl ⟨by rfl, ?_⟩) ?_ ?_
              rotate_left
              · intro w'
                go_simp
                with_reducible rfl
              rotate_left
              · simp only [Act.put, List.setIfInBounds_toArray, List.set_cons_zero, List.set_cons_succ]
                rfl
              refine take_ (i := 0) (N := some 77) (v := ?_) (a' := ?_) #[Y, Y, Y, Y, Y, N, N, N, N, N, N, N, N] rfl rfl (by kernel_rfl) (fun _ _ _ h => h) (Or.inl ⟨by rfl, ?_⟩) hHeld ?_ ?_
              rotate_left
              · rintro w' ⟨s0, s1, s2, s3, s4, s5, s6, s7, s8, s9, s10, s11, s12⟩
                go_simp
                with_reducible rfl
              rotate_left
              · simp only [Act.put, List.setIfInBounds_toArray, List.set_cons_zero, List.set_cons_succ]
                rfl
              refine take_ (i := 5) (N := some 82) (v := ?_) (a' := ?_) #[Y, Y, Y, Y, Y, Y, N, N, N, N, N, N, N] rfl rfl (by kernel_rfl) (fun _ _ _ h => h) (Or.inl ⟨by rfl, ?_⟩) hHeld ?_ ?_
              rotate_left
              · rintro w' ⟨s0, s1, s2, s3, s4, s5, s6, s7, s8, s9, s10, s11, s12⟩
                go_simp
                with_reducible rfl
              rotate_left
              · simp only [Act.put, List.setIfInBounds_toArray, List.set_cons_zero, List.set_cons_succ]
                rfl
              refine one_ (i := 6) (N := some 83) #[Y, Y, Y, Y, Y, Y, Y, N, N, N, N, N, N] rfl rfl (by kernel_rfl) (by decide) (fun K hK => ?_)
              refine goes_ Try.func43 (by kernel_rfl) rfl #[.agg #[.string p0, .int .i64 p1, .int .i64 p2, .int .i64 p3, .int .i64 p4, .int .i64 p5]] (by rfl) rfl rfl (by simp only [List.map_toArray, List.map_cons, List.map_nil]; rfl) ?_
              with_reducible refine (contangoref15_Net.calls p0 p1 p2 p3 p4 p5 q _ HQ.out).mono ?_
              rintro e w7 ⟨rfl, hb⟩
              refine ⟨_, rfl, ?_⟩
              have HM6 := Aside0.mk ((HM5.out.below (below_drew (Below.refl _ _))).below hb)
              have HB6 := Aside0.mk (below_step (below_drew HB5.out) hb)
              have BX6 := Aside0.mk (blk_below (blk_drew BX5.out) hb)
              have HBQ := Aside0.mk hb
              clear hb
              refine hK.out _ _ ⟨((blk_cell BX6.out 0).trans rfl), ((blk_cell BX6.out 1).trans rfl), ((blk_cell BX6.out 2).trans rfl), ((blk_cell BX6.out 3).trans rfl), ((blk_cell BX6.out 4).trans rfl), ((blk_cell BX6.out 5).trans rfl), ((blk_cell BX6.out 6).trans rfl), (pw_cell_below HBQ.out (show (World.drew _).cell? _ = _ from m0)), (pw_cell_below HBQ.out (show (World.drew _).cell? _ = _ from m1)), (pw_cell_below HBQ.out (show (World.drew _).cell? _ = _ from m2)), (pw_cell_below HBQ.out (show (World.drew _).cell? _ = _ from m3)), (pw_cell_below HBQ.out (show (World.drew _).cell? _ = _ from m4)), (pw_cell_below HBQ.out (show (World.drew _).cell? _ = _ from m5))⟩ (fun hHeld => ?_)
              clear hK K
              refine norm_ (a' := ?_) ?_ ?_
              rotate_left
              · show Act.put _ (some 83) _ = _
                simp only [Act.put, List.setIfInBounds_toArray, List.set_cons_zero, List.set_cons_succ]
                rfl
              refine last_ (i := 7) (N := some 84) #[Y, Y, Y, Y, Y, Y, Y, Y, N, N, N, N, N] rfl rfl (by kernel_rfl) (by decide) (fun K hK => ?_)
              refine goes_ Try.func31 (by kernel_rfl) rfl #[.agg #[.string y0, .int .i64 y1, .int .i64 y2, .int .i64 y3, .int .i64 y4, .int .i64 y5, .bool y6], .int .i64 mp, .int .i64 q] (by rfl) rfl rfl (by simp only [List.map_toArray, List.map_cons, List.map_nil]; rfl) ?_
              with_reducible refine (contangoref09_Value.calls k y0 y1 y2 y3 y4 y5 y6 mp q n e _ HV.out).mono ?_
              rintro e w8 ⟨rfl, hb⟩
              refine ⟨_, rfl, ?_⟩
              have HM7 := Aside0.mk (HM6.out.below hb)
              have HB7 := Aside0.mk (below_step HB6.out hb)
              have BX7 := Aside0.mk (blk_below BX6.out hb)
              clear hb
              refine hK.out _ _ ?_
              clear hK K
              refine norm_ (a' := ?_) ?_ ?_
              rotate_left
              · show Act.put _ (some 84) _ = _
                simp only [Act.put, List.setIfInBounds_toArray, List.set_cons_zero, List.set_cons_succ]
                rfl
              refine pure_ (i := 8) (N := some 76) (v := ?_) (a' := ?_) #[Y, Y, Y, Y, Y, Y, Y, Y, Y, N, N, N, N] rfl rfl (by kernel_rfl) (fun _ _ _ h => h) (Or.inl ⟨by rfl, ?_⟩) ?_ ?_
              rotate_left
              · intro w'
                go_simp
                with_reducible rfl
              rotate_left
              · simp only [Act.put, List.setIfInBounds_toArray, List.set_cons_zero, List.set_cons_succ]
                rfl
              refine pure_ (i := 9) (N := some 85) (v := ?_) (a' := ?_) #[Y, Y, Y, Y, Y, Y, Y, Y, Y, Y, N, N, N] rfl rfl (by kernel_rfl) (fun _ _ _ h => h) (Or.inl ⟨by rfl, ?_⟩) ?_ ?_
              rotate_left
              · intro w'
                go_simp
                with_reducible rfl
              rotate_left
              · simp only [Act.put, List.setIfInBounds_toArray, List.set_cons_zero, List.set_cons_succ]
                rfl
              refine pure_ (i := 10) (N := some 86) (v := ?_) (a' := ?_) #[Y, Y, Y, Y, Y, Y, Y, Y, Y, Y, Y, N, N] rfl rfl (by kernel_rfl) (fun _ _ _ h => h) (Or.inl ⟨by rfl, ?_⟩) ?_ ?_
              rotate_left
              · intro w'
                go_simp
                with_reducible rfl
              rotate_left
              · simp only [Act.put, List.setIfInBounds_toArray, List.set_cons_zero, List.set_cons_succ]
                rfl
              refine pure_ (i := 11) (N := some 17) (v := ?_) (a' := ?_) #[Y, Y, Y, Y, Y, Y, Y, Y, Y, Y, Y, Y, N] rfl rfl (by kernel_rfl) (fun _ _ _ h => h) (Or.inl ⟨by rfl, ?_⟩) ?_ ?_
              rotate_left
              · intro w'
                go_simp
                with_reducible rfl
              rotate_left
              · simp only [Act.put, List.setIfInBounds_toArray, List.set_cons_zero, List.set_cons_succ]
                rfl
              refine pure_ (i := 12) (N := some 18) (v := ?_) (a' := ?_) #[Y, Y, Y, Y, Y, Y, Y, Y, Y, Y, Y, Y, Y] rfl rfl (by kernel_rfl) (fun _ _ _ h => h) (Or.inl ⟨by rfl, ?_⟩) ?_ ?_
              rotate_left
              · intro w'
                go_simp
                with_reducible rfl
              rotate_left
              · simp only [Act.put, List.setIfInBounds_toArray, List.set_cons_zero, List.set_cons_succ]
                rfl
              refine done_ (by kernel_rfl) ?_
              go_wp2
              go_ret2
              exact ⟨_, rfl, Kd.R_nil _ _ _ _ _, HB7.out⟩
            subst he
            rw [if_pos rfl] at hA
            by_cases hc : 0 <= y1 ∧ y1 < 8
            case neg => rw [if_neg hc] at hA; cases hA
            rw [if_pos hc] at hA
            by_cases hl : (m.getD y1.toNat []).length < 1000000
            case neg => rw [if_neg hl] at hA; cases hA
            rw [if_pos hl] at hA
            obtain ⟨yn, rfl⟩ := Int.eq_ofNat_of_zero_le hc.1
            rw [Int.toNat_natCast] at hA hl
            have hyn : m[yn]? = some (m.getD yn []) := by
              have h8 := HM8.out
              rw [List.getD_eq_getElem?_getD, List.getElem?_eq_getElem (by omega)]
              rfl
            have HYN := Aside0.mk hyn
            have HA2 := Aside0.mk hA
            have hc1_ : (yn : Int) < 8 := hc.2
            have hc2_ : decide ((yn : Int) < 8) = true := decide_eq_true hc.2
            have HL : Aside0 (((m.getD yn []).length + 1) * 8 <= 140737488355328) := ⟨by omega⟩
            clear hA hc hl hyn
            go_wp2_with (first | (go_at_call 32; refine (contangoref21_option.calls p0 p1 p2 p3 true _ HO.out).mono ?_; rintro _ w4 ⟨rfl, hb⟩; have HM2 := Aside0.mk (HM.out.below hb); have HB2 := Aside0.mk (below_step HB.out hb); clear hb; obtain ⟨adi, ei, i0, i1, i2, i3, i4, i5⟩ := at_T57 (Kd.C_below HR1.out HB2.out) (x : Int) hx0 hxl; cases ei; rw [hpe] at i0 i1 i2 i3 i4 i5; simp only [Int.toNat_natCast] at i0 i1 i2 i3 i4 i5) | (go_at_call 41; refine (contangoref09_Find.calls k A0 c0 l0 p0 y0 (yn : Int) y2 y3 y4 y5 y6 true _ (Kd.C_below HR0.out HB2.out) HC0.out HF.out).mono ?_; rintro _ w5 ⟨rfl, hb⟩; have HM3 := Aside0.mk ((HM2.out.below hb).below (below_alloc (Below.refl _ _) (.cells #[.string y0, .int .i64 (yn : Int), .int .i64 y2, .int .i64 y3, .int .i64 y4, .int .i64 y5, .bool y6] 29 (0, 0)))); have HB3 := Aside0.mk (below_step HB2.out hb); have HB3' := Aside0.mk (HB3.out.alloc HB3.out.size (.cells #[.string y0, .int .i64 (yn : Int), .int .i64 y2, .int .i64 y3, .int .i64 y4, .int .i64 y5, .bool y6] 29 (0, 0))); clear hb; obtain ⟨adj, ej, j0, j1, j2, j3, j4, j5⟩ := at_T57 (Kd.C_below HR1.out HB3'.out) (x : Int) hx0 hxl; cases ej; rw [hpe] at j0 j1 j2 j3 j4 j5; simp only [Int.toNat_natCast] at j0 j1 j2 j3 j4 j5) | (go_at_call 42; refine (contangoref18_Find.calls k A2 c2 l2 p0 p1 p2 p3 mp true _ (Kd.C_below HR2.out HB3'.out) HC2.out HK.out).mono ?_; rintro _ w6 ⟨rfl, hb⟩; have HM5 := Aside0.mk (HM3.out.below hb); have HB5 := Aside0.mk (below_step HB3'.out hb); have BX := blk_below (blk_new w5 (.cells #[.string y0, .int .i64 (yn : Int), .int .i64 y2, .int .i64 y3, .int .i64 y4, .int .i64 y5, .bool y6] 29 (0, 0))) hb; have hy0 : w6.cell? ⟨w5.heap.size, 0, none⟩ = some (.string y0) := (blk_cell BX 0).trans rfl; have hy1 : w6.cell? ⟨w5.heap.size, 1, none⟩ = some (.int .i64 (yn : Int)) := (blk_cell BX 1).trans rfl; have hy2 : w6.cell? ⟨w5.heap.size, 2, none⟩ = some (.int .i64 y2) := (blk_cell BX 2).trans rfl; have hy3 : w6.cell? ⟨w5.heap.size, 3, none⟩ = some (.int .i64 y3) := (blk_cell BX 3).trans rfl; have hy4 : w6.cell? ⟨w5.heap.size, 4, none⟩ = some (.int .i64 y4) := (blk_cell BX 4).trans rfl; have hy5 : w6.cell? ⟨w5.heap.size, 5, none⟩ = some (.int .i64 y5) := (blk_cell BX 5).trans rfl; have hy6 : w6.cell? ⟨w5.heap.size, 6, none⟩ = some (.bool y6) := (blk_cell BX 6).trans rfl; have hltX := blk_lt BX; have BX5 := Aside0.mk BX; clear hb BX; obtain ⟨adm, em, m0, m1, m2, m3, m4, m5⟩ := at_T57 (Kd.C_below HR1.out HB5.out) (x : Int) hx0 hxl; cases em; rw [hpe] at m0 m1 m2 m3 m4 m5; simp only [Int.toNat_natCast] at m0 m1 m2 m3 m4 m5))
            refine start_ (n := 13) (S := fun w' => w'.cell? ⟨w5.heap.size, 0, none⟩ = some (.string y0) ∧ w'.cell? ⟨w5.heap.size, 1, none⟩ = some (.int .i64 (yn : Int)) ∧ w'.cell? ⟨w5.heap.size, 2, none⟩ = some (.int .i64 y2) ∧ w'.cell? ⟨w5.heap.size, 3, none⟩ = some (.int .i64 y3) ∧ w'.cell? ⟨w5.heap.size, 4, none⟩ = some (.int .i64 y4) ∧ w'.cell? ⟨w5.heap.size, 5, none⟩ = some (.int .i64 y5) ∧ w'.cell? ⟨w5.heap.size, 6, none⟩ = some (.bool y6) ∧ w'.cell? (adh.add (x * 6)) = some (.string p0) ∧ w'.cell? ⟨(adh.add (x * 6)).block, (adh.add (x * 6)).off + 1, none⟩ = some (.int .i64 p1) ∧ w'.cell? ⟨(adh.add (x * 6)).block, (adh.add (x * 6)).off + 2, none⟩ = some (.int .i64 p2) ∧ w'.cell? ⟨(adh.add (x * 6)).block, (adh.add (x * 6)).off + 3, none⟩ = some (.int .i64 p3) ∧ w'.cell? ⟨(adh.add (x * 6)).block, (adh.add (x * 6)).off + 4, none⟩ = some (.int .i64 p4) ∧ w'.cell? ⟨(adh.add (x * 6)).block, (adh.add (x * 6)).off + 5, none⟩ = some (.int .i64 p5)) (ds := [7]) #[N, N, N, N, N, N, N, N, N, N, N, N, N] (by kernel_rfl) rfl rfl ⟨hy0, hy1, hy2, hy3, hy4, hy5, hy6, m0, m1, m2, m3, m4, m5⟩ (fun hHeld => ?_)
            refine pure_ (i := 1) (N := some 78) (v := ?_) (a' := ?_) #[N, Y, N, N, N, N, N, N, N, N, N, N, N] rfl rfl (by kernel_rfl) (fun _ _ _ h => h) (Or.inl ⟨by rfl, ?_⟩) ?_ ?_
            rotate_left
            · intro w'
              go_simp
              with_reducible rfl
            rotate_left
            · simp only [Act.put, List.setIfInBounds_toArray, List.set_cons_zero, List.set_cons_succ]
              rfl
            refine pure_ (i := 2) (N := some 79) (v := ?_) (a' := ?_) #[N, Y, Y, N, N, N, N, N, N, N, N, N, N] rfl rfl (by kernel_rfl) (fun _ _ _ h => h) (Or.inl ⟨by rfl, ?_⟩) ?_ ?_
            rotate_left
            · intro w'
              go_simp
              with_reducible rfl
            rotate_left
            · simp only [Act.put, List.setIfInBounds_toArray, List.set_cons_zero, List.set_cons_succ]
              rfl
            refine pure_ (i := 3) (N := some 80) (v := ?_) (a' := ?_) #[N, Y, Y, Y, N, N, N, N, N, N, N, N, N] rfl rfl (by kernel_rfl) (fun _ _ _ h => h) (Or.inl ⟨by rfl, ?_⟩) ?_ ?_
            rotate_left
            · intro w'
              go_simp
              with_reducible rfl
            rotate_left
            · simp only [Act.put, List.setIfInBounds_toArray, List.set_cons_zero, List.set_cons_succ]
              rfl
            refine pure_ (i := 4) (N := some 81) (v := ?_) (a' := ?_) #[N, Y, Y, Y, Y, N, N, N, N, N, N, N, N] rfl rfl (by kernel_rfl) (fun _ _ _ h => h) (Or.inl ⟨by rfl, ?_⟩) ?_ ?_
            rotate_left
            · intro w'
              go_simp
              with_reducible rfl
            rotate_left
            · simp only [Act.put, List.setIfInBounds_toArray, List.set_cons_zero, List.set_cons_succ]
              rfl
            refine take_ (i := 0) (N := some 77) (v := ?_) (a' := ?_) #[Y, Y, Y, Y, Y, N, N, N, N, N, N, N, N] rfl rfl (by kernel_rfl) (fun _ _ _ h => h) (Or.inl ⟨by rfl, ?_⟩) hHeld ?_ ?_
            rotate_left
            · rintro w' ⟨s0, s1, s2, s3, s4, s5, s6, s7, s8, s9, s10, s11, s12⟩
              go_simp
              with_reducible rfl
            rotate_left
            · simp only [Act.put, List.setIfInBounds_toArray, List.set_cons_zero, List.set_cons_succ]
              rfl
            refine take_ (i := 5) (N := some 82) (v := ?_) (a' := ?_) #[Y, Y, Y, Y, Y, Y, N, N, N, N, N, N, N] rfl rfl (by kernel_rfl) (fun _ _ _ h => h) (Or.inl ⟨by rfl, ?_⟩) hHeld ?_ ?_
            rotate_left
            · rintro w' ⟨s0, s1, s2, s3, s4, s5, s6, s7, s8, s9, s10, s11, s12⟩
              go_simp
              with_reducible rfl
            rotate_left
            · simp only [Act.put, List.setIfInBounds_toArray, List.set_cons_zero, List.set_cons_succ]
              rfl
            refine one_ (i := 6) (N := some 83) #[Y, Y, Y, Y, Y, Y, Y, N, N, N, N, N, N] rfl rfl (by kernel_rfl) (by decide) (fun K hK => ?_)
            refine goes_ Try.func43 (by kernel_rfl) rfl #[.agg #[.string p0, .int .i64 p1, .int .i64 p2, .int .i64 p3, .int .i64 p4, .int .i64 p5]] (by rfl) rfl rfl (by simp only [List.map_toArray, List.map_cons, List.map_nil]; rfl) ?_
            with_reducible refine (contangoref15_Net.calls p0 p1 p2 p3 p4 p5 q _ HQ.out).mono ?_
            rintro e w7 ⟨rfl, hb⟩
            refine ⟨_, rfl, ?_⟩
            have HM6 := Aside0.mk ((HM5.out.below (below_drew (Below.refl _ _))).below hb)
            have HB6 := Aside0.mk (below_step (below_drew HB5.out) hb)
            have BX6 := Aside0.mk (blk_below (blk_drew BX5.out) hb)
            have HBQ := Aside0.mk hb
            clear hb
            refine hK.out _ _ ⟨((blk_cell BX6.out 0).trans rfl), ((blk_cell BX6.out 1).trans rfl), ((blk_cell BX6.out 2).trans rfl), ((blk_cell BX6.out 3).trans rfl), ((blk_cell BX6.out 4).trans rfl), ((blk_cell BX6.out 5).trans rfl), ((blk_cell BX6.out 6).trans rfl), (pw_cell_below HBQ.out (show (World.drew _).cell? _ = _ from m0)), (pw_cell_below HBQ.out (show (World.drew _).cell? _ = _ from m1)), (pw_cell_below HBQ.out (show (World.drew _).cell? _ = _ from m2)), (pw_cell_below HBQ.out (show (World.drew _).cell? _ = _ from m3)), (pw_cell_below HBQ.out (show (World.drew _).cell? _ = _ from m4)), (pw_cell_below HBQ.out (show (World.drew _).cell? _ = _ from m5))⟩ (fun hHeld => ?_)
            clear hK K
            refine norm_ (a' := ?_) ?_ ?_
            rotate_left
            · show Act.put _ (some 83) _ = _
              simp only [Act.put, List.setIfInBounds_toArray, List.set_cons_zero, List.set_cons_succ]
              rfl
            refine last_ (i := 7) (N := some 84) #[Y, Y, Y, Y, Y, Y, Y, Y, N, N, N, N, N] rfl rfl (by kernel_rfl) (by decide) (fun K hK => ?_)
            refine goes_ Try.func31 (by kernel_rfl) rfl #[.agg #[.string y0, .int .i64 (yn : Int), .int .i64 y2, .int .i64 y3, .int .i64 y4, .int .i64 y5, .bool y6], .int .i64 mp, .int .i64 q] (by rfl) rfl rfl (by simp only [List.map_toArray, List.map_cons, List.map_nil]; rfl) ?_
            with_reducible refine (contangoref09_Value.calls k y0 (yn : Int) y2 y3 y4 y5 y6 mp q n 0 _ HV.out).mono ?_
            rintro e w8 ⟨rfl, hb⟩
            refine ⟨_, rfl, ?_⟩
            have HM7 := Aside0.mk (HM6.out.below hb)
            have HB7 := Aside0.mk (below_step HB6.out hb)
            have BX7 := Aside0.mk (blk_below BX6.out hb)
            clear hb
            refine hK.out _ _ ?_
            clear hK K
            refine norm_ (a' := ?_) ?_ ?_
            rotate_left
            · show Act.put _ (some 84) _ = _
              simp only [Act.put, List.setIfInBounds_toArray, List.set_cons_zero, List.set_cons_succ]
              rfl
            refine pure_ (i := 8) (N := some 76) (v := ?_) (a' := ?_) #[Y, Y, Y, Y, Y, Y, Y, Y, Y, N, N, N, N] rfl rfl (by kernel_rfl) (fun _ _ _ h => h) (Or.inl ⟨by rfl, ?_⟩) ?_ ?_
            rotate_left
            · intro w'
              go_simp
              with_reducible rfl
            rotate_left
            · simp only [Act.put, List.setIfInBounds_toArray, List.set_cons_zero, List.set_cons_succ]
              rfl
            refine pure_ (i := 9) (N := some 85) (v := ?_) (a' := ?_) #[Y, Y, Y, Y, Y, Y, Y, Y, Y, Y, N, N, N] rfl rfl (by kernel_rfl) (fun _ _ _ h => h) (Or.inl ⟨by rfl, ?_⟩) ?_ ?_
            rotate_left
            · intro w'
              go_simp
              with_reducible rfl
            rotate_left
            · simp only [Act.put, List.setIfInBounds_toArray, List.set_cons_zero, List.set_cons_succ]
              rfl
            refine pure_ (i := 10) (N := some 86) (v := ?_) (a' := ?_) #[Y, Y, Y, Y, Y, Y, Y, Y, Y, Y, Y, N, N] rfl rfl (by kernel_rfl) (fun _ _ _ h => h) (Or.inl ⟨by rfl, ?_⟩) ?_ ?_
            rotate_left
            · intro w'
              go_simp
              with_reducible rfl
            rotate_left
            · simp only [Act.put, List.setIfInBounds_toArray, List.set_cons_zero, List.set_cons_succ]
              rfl
            refine pure_ (i := 11) (N := some 17) (v := ?_) (a' := ?_) #[Y, Y, Y, Y, Y, Y, Y, Y, Y, Y, Y, Y, N] rfl rfl (by kernel_rfl) (fun _ _ _ h => h) (Or.inl ⟨by rfl, ?_⟩) ?_ ?_
            rotate_left
            · intro w'
              go_simp
              with_reducible rfl
            rotate_left
            · simp only [Act.put, List.setIfInBounds_toArray, List.set_cons_zero, List.set_cons_succ]
              rfl
            refine pure_ (i := 12) (N := some 18) (v := ?_) (a' := ?_) #[Y, Y, Y, Y, Y, Y, Y, Y, Y, Y, Y, Y, Y] rfl rfl (by kernel_rfl) (fun _ _ _ h => h) (Or.inl ⟨by rfl, ?_⟩) ?_ ?_
            rotate_left
            · intro w'
              go_simp
              with_reducible rfl
            rotate_left
            · simp only [Act.put, List.setIfInBounds_toArray, List.set_cons_zero, List.set_cons_succ]
              rfl
            refine done_ (by kernel_rfl) ?_
            go_wp2
            obtain ⟨vL, hcL, hfL, hRL, hbackL⟩ := (HM7.out.below (below_drew (Below.refl _ _))).get (i := yn) rfl (by decide) HYN.out
            have HRL := Aside0.mk hRL
            have HBL := Aside0.mk hbackL
            clear hRL hbackL
            have hz1 : w8.drew.cell? ⟨w5.heap.size, 1, none⟩ = some (.int .i64 (yn : Int)) := (blk_cell (blk_drew BX7.out) 1).trans rfl
            refine start_ (n := 11) (S := fun w' => w'.cell? ⟨w5.heap.size, 1, none⟩ = some (.int .i64 (yn : Int)) ∧ w'.cell? ⟨w3.heap.size, yn, none⟩ = some vL) (ds := [10]) #[N, N, N, N, N, N, N, N, N, N, N] (by kernel_rfl) rfl rfl ⟨hz1, hcL⟩ (fun hHeld => ?_)
            refine pure_ (i := 0) (N := some 90) (v := ?_) (a' := ?_) #[Y, N, N, N, N, N, N, N, N, N, N] rfl rfl (by kernel_rfl) (fun _ _ _ h => h) (Or.inl ⟨by rfl, ?_⟩) ?_ ?_
            rotate_left
            · intro w'
              go_simp
              with_reducible rfl
            rotate_left
            · simp only [Act.put, List.setIfInBounds_toArray, List.set_cons_zero, List.set_cons_succ]
              rfl
            refine pure_ (i := 2) (N := some 92) (v := ?_) (a' := ?_) #[Y, N, Y, N, N, N, N, N, N, N, N] rfl rfl (by kernel_rfl) (fun _ _ _ h => h) (Or.inl ⟨by rfl, ?_⟩) ?_ ?_
            rotate_left
            · intro w'
              go_simp
              with_reducible rfl
            rotate_left
            · simp only [Act.put, List.setIfInBounds_toArray, List.set_cons_zero, List.set_cons_succ]
              rfl
            refine pure_ (i := 6) (N := some 96) (v := ?_) (a' := ?_) #[Y, N, Y, N, N, N, Y, N, N, N, N] rfl rfl (by kernel_rfl) (fun _ _ _ h => h) (Or.inl ⟨by rfl, ?_⟩) ?_ ?_
            rotate_left
            · intro w'
              go_simp
              with_reducible rfl
            rotate_left
            · simp only [Act.put, List.setIfInBounds_toArray, List.set_cons_zero, List.set_cons_succ]
              rfl
            refine take_ (i := 1) (N := some 91) (v := ?_) (a' := ?_) #[Y, Y, Y, N, N, N, Y, N, N, N, N] rfl rfl (by kernel_rfl) (fun _ _ _ h => h) (Or.inl ⟨by rfl, ?_⟩) hHeld ?_ ?_
            rotate_left
            · rintro w' ⟨s0, s1⟩
              go_simp
              with_reducible rfl
            rotate_left
            · simp only [Act.put, List.setIfInBounds_toArray, List.set_cons_zero, List.set_cons_succ]
              rfl
            refine take_ (i := 3) (N := some 93) (v := ?_) (a' := ?_) #[Y, Y, Y, Y, N, N, Y, N, N, N, N] rfl rfl (by kernel_rfl) (fun _ _ _ h => h) (Or.inl ⟨by rfl, ?_⟩) hHeld ?_ ?_
            rotate_left
            · rintro w' ⟨s0, s1⟩
              go_simp
              with_reducible rfl
            rotate_left
            · simp only [Act.put, List.setIfInBounds_toArray, List.set_cons_zero, List.set_cons_succ]
              rfl
            refine pure_ (i := 4) (N := some 94) (v := ?_) (a' := ?_) #[Y, Y, Y, Y, Y, N, Y, N, N, N, N] rfl rfl (by kernel_rfl) (fun _ _ _ h => h) (Or.inl ⟨by rfl, ?_⟩) ?_ ?_
            rotate_left
            · intro w'
              go_simp
              with_reducible rfl
            rotate_left
            · simp only [Act.put, List.setIfInBounds_toArray, List.set_cons_zero, List.set_cons_succ]
              rfl
            refine take_ (i := 5) (N := some 95) (v := ?_) (a' := ?_) #[Y, Y, Y, Y, Y, Y, Y, N, N, N, N] rfl rfl (by kernel_rfl) (fun _ _ _ h => h) (Or.inl ⟨by rfl, ?_⟩) hHeld ?_ ?_
            rotate_left
            · rintro w' ⟨s0, s1⟩
              go_simp
              with_reducible rfl
            rotate_left
            · simp only [Act.put, List.setIfInBounds_toArray, List.set_cons_zero, List.set_cons_succ]
              rfl
            refine one_ (i := 7) (N := some 97) #[Y, Y, Y, Y, Y, Y, Y, Y, N, N, N] rfl rfl (by kernel_rfl) (by decide) (fun K hK => ?_)
            refine value_ (w1 := ?_) (v := ?_) (by rfl) rfl ?_ ?_
            rotate_left 2
            · go_simp
              constructor
              · rfl
              · rfl
            refine hK.out _ _ ⟨((World.cell?_alloc_lt _ _ _ (World.block_lt_of_cell? _ _ hz1)).trans hz1), ((World.cell?_alloc_lt _ _ _ (World.block_lt_of_cell? _ _ hcL)).trans hcL)⟩ (fun hHeld => ?_)
            clear hK K
            refine norm_ (a' := ?_) ?_ ?_
            rotate_left
            · show Act.put _ (some 97) _ = _
              simp only [Act.put, List.setIfInBounds_toArray, List.set_cons_zero, List.set_cons_succ]
              rfl
            refine one_ (i := 8) (N := some 98) #[Y, Y, Y, Y, Y, Y, Y, Y, Y, N, N] rfl rfl (by kernel_rfl) (by decide) (fun K hK => ?_)
            refine Kd.R_append_step (Kd.int .i64) (w0 := w) (W := w8.drew) w.heap.size (by rfl) (.tmp 95) (.tmp 97) 46 3 (.int .i64 0) 8 rfl Try.underlying46 info3 rfl (by decide) (by omega) vL (m.getD yn []) n [.int .i64 n] (fun _ => True) (fun _ => False) rfl rfl ?aP (fun _ hk => hk.elim) ?aF ?aO ?aB ?aS ?aL ?_
            (case aP => rfl)
            (case aB => exact below_drew HB7.out)
            (case aF => exact (fun _ _ => trivial))
            (case aO => exact HRL.out)
            (case aS => exact HB7.out.size)
            (case aL => exact HL.out)
            intro v9 w9 ho hb hg hat
            obtain ⟨A9, c9, e9⟩ := Kd.R_slice ho
            subst e9
            obtain ⟨hcU, hfU, hM9⟩ := HBL.out _ _ _ hg ho hat
            have BX9 := Aside0.mk (blk_row (blk_drew BX7.out) HRL.out (by decide) hg)
            have HM9 := Aside0.mk hM9
            have HB9 := Aside0.mk hb
            clear ho hb hg hat hM9
            refine hK.out _ _ ⟨((blk_cell BX9.out 1).trans rfl), hcU⟩ (fun hHeld => ?_)
            clear hK K
            refine norm_ (a' := ?_) ?_ ?_
            rotate_left
            · show Act.put _ (some 98) _ = _
              simp only [Act.put, List.setIfInBounds_toArray, List.set_cons_zero, List.set_cons_succ]
              rfl
            refine pure_ (i := 9) (N := some 99) (v := ?_) (a' := ?_) #[Y, Y, Y, Y, Y, Y, Y, Y, Y, Y, N] rfl rfl (by kernel_rfl) (fun _ _ _ h => h) (Or.inl ⟨by rfl, ?_⟩) ?_ ?_
            rotate_left
            · intro w'
              go_simp
              with_reducible rfl
            rotate_left
            · simp only [Act.put, List.setIfInBounds_toArray, List.set_cons_zero, List.set_cons_succ]
              rfl
            refine last_ (i := 10) (N := none) #[Y, Y, Y, Y, Y, Y, Y, Y, Y, Y, Y] rfl rfl (by kernel_rfl) (by decide) (fun K hK => ?_)
            refine skip_ (w1 := ?_) (by rfl) rfl ?_ ?_
            rotate_left
            · go_simp
              rfl
            refine hK.out _ _ ?_
            clear hK K
            refine done_ (by kernel_rfl) ?_
            go_wp2
            go_roundg (l1.length - (x + 1))
            case measure => omega
            case rel => exact ⟨x + 1, _, by go_num, by omega, by rw [List.length_set]; exact HM8.out, HA2, ⟨by simpa using HM9.out⟩, ⟨below_set HB9.out hsz0⟩⟩
    · have hxe : x = l1.length := by omega
      have hA := HA.out
      rw [List.drop_eq_nil_of_le (by omega), contangoref21_Net.go] at hA
      have hA2 := Option.some.inj hA
      simp only [Prod.mk.injEq] at hA2
      obtain ⟨rfl, rfl⟩ := hA2
      have hh := HH.out
      rw [if_pos rfl] at hh
      have HS := Aside0.mk hh
      have hd : decide ((x : Int) < (l1.length : Int)) = false := decide_eq_false (by omega)
      clear hh HH hA HA hxe
      go_wp2
      go_loopg [19, 20] 8 (fun kq v19 v20 w' => ∃ (y : Nat) (t : List Int), v20 = .int .i64 y ∧ kq + y = 8 ∧ Aside0 (t.length = y) ∧ Aside0 (contangoref21_Net.sums k m kq y t = some (r1, r2)) ∧ Aside0 (Kd.R (Kd.int .i64) 3 w' wr.heap.size (fun _ => True) v19 t) ∧ Aside0 (Below wr.heap.size wr w'))
      case atStart => exact ⟨0, [], rfl, rfl, ⟨rfl⟩, HS, ⟨Kd.R_nil _ _ _ _ _⟩, ⟨Below.refl _ _⟩⟩
      case round =>
        clear HS
        obtain ⟨y, t, rfl, hy, HT, HS, HR, HBW⟩ := hrel
        have hs := HS.out
        have hszw := HBW.out.size
        cases gk with
        | zero =>
          rw [contangoref21_Net.sums] at hs
          have hs2 := Option.some.inj hs
          simp only [Prod.mk.injEq] at hs2
          obtain ⟨rfl, rfl⟩ := hs2
          have hd2 : decide ((y : Int) < 8) = false := decide_eq_false (by omega)
          clear hs HS
          go_wp2
          go_ret2
          exact ⟨_, rfl, Kd.R_lower HR.out HB.out.size, below_step HB.out HBW.out⟩
        | succ j =>
          rw [contangoref21_Net.sums, Int.toNat_natCast] at hs
          obtain ⟨⟨n, e⟩, hN, hs⟩ := Option.bind_eq_some_iff.mp hs
          have HN := Aside0.mk hN
          have hyn : m[y]? = some (m.getD y []) := by
            have h8 := HM8.out
            rw [List.getD_eq_getElem?_getD, List.getElem?_eq_getElem (by omega)]
            rfl
          obtain ⟨vL, hcL, hfL, hRL, _⟩ := (HM.out.below HBW.out).get rfl (by decide) hyn
          obtain ⟨AL, cL, eL⟩ := Kd.R_slice hRL
          subst eL
          have HRL := Aside0.mk hRL
          have hltW := World.block_lt_of_cell? _ _ hcL
          have hd2 : decide ((y : Int) < 8) = true := decide_eq_true (by omega)
          have hd3 : (y : Int) < 8 := by omega
          have HLT : Aside0 ((t.length + 1) * 8 <= 140737488355328) := ⟨by have := HT.out; omega⟩
          clear hN HS hRL hyn
          by_cases he : e = 0
          case neg =>
            rw [if_neg he] at hs
            have hs2 := Option.some.inj hs
            simp only [Prod.mk.injEq] at hs2
            obtain ⟨rfl, rfl⟩ := hs2
            have h0b : (e == 0) = false := beq_eq_false_iff_ne.mpr he
            have h1b : (e != 0) = true := bne_iff_ne.mpr he
            clear he hs
            go_wp2_with (go_at_call 44; refine (contangoref01_Sum.calls k AL cL (m.getD y []) n e _ (Kd.R_reads' HRL.out).2.2 (Kd.R_reads' HRL.out).2.1 HN.out).mono ?_; rintro _ w8 ⟨rfl, hb⟩; have HB8 := Aside0.mk (below_step HBW.out (hb.below)); clear hb)
            go_ret2
            exact ⟨_, rfl, Kd.R_nil _ _ _ _ _, below_step HB.out HB8.out⟩
          subst he
          rw [if_pos rfl] at hs
          have HS2 := Aside0.mk hs
          clear hs
          go_wp2_with (first | (go_at_call 44; refine (contangoref01_Sum.calls k AL cL (m.getD y []) n 0 _ (Kd.R_reads' HRL.out).2.2 (Kd.R_reads' HRL.out).2.1 HN.out).mono ?_; rintro _ w8 ⟨rfl, hb⟩; have HB8 := Aside0.mk (below_step HBW.out (hb.below)); have HR8 := Aside0.mk (Kd.R_below HR.out (hb.below)); clear hb) | ((with_reducible refine gate_builtin (b := .append) (xs := #[.tmp 114, .tmp 116]) rfl ?_); at_builtin; refine Kd.R_append (Kd.int .i64) _ rfl (.tmp 114) (.tmp 116) 46 3 (.int .i64 0) 8 rfl Try.underlying46 info3 rfl (by decide) (by decide) u19 t n [.int .i64 n] (fun _ => True) (fun _ => False) rfl ?aX ?aP (fun _ hk => hk.elim) (fun _ _ => trivial) HR8.out HB8.out HB8.out.size ?aL ?_; (case aX => rfl); (case aP => rfl); (case aL => exact HLT.out); intro v1 w9 ho hb9 hg9 hat9; have HR9 := Aside0.mk ho; have HB9 := Aside0.mk hb9; clear ho hb9 hg9 hat9))
          go_roundg j
          case measure => omega
          case rel => exact ⟨y + 1, t ++ [n], by go_num, by omega, ⟨by have := HT.out; simp; omega⟩, HS2, HR9, HB9⟩

end Go.Proofs.Ytjaokhpbdhefhaa.POptionNets
