import Derived.Test.YtjmkdmbgldcleaaPTearWorthx0
import Derived.Test.YtjmkdmbgldcleaaPTearWorthx1
namespace Go.Proofs.Ytjmkdmbgldcleaa.PTearWorth
open Go.RowKit Go.Proofs.YtjmkdmbgldcleaaW.PrintWords Go.Proofs.YtjmkdmbgldcleaaW.PrintLast Go.Proofs.YtjmkdmbgldcleaaW.PrintMore
attribute [local go_sem] max2_int min2_int max_two min_two max_three min_three max_four min_four Go.Proofs.YtjmkdmbgldcleaaHand.run_leq_str Go.Proofs.YtjmkdmbgldcleaaHand.run_gtr_str Go.Proofs.YtjmkdmbgldcleaaHand.run_geq_str   -- for this text's walks alone
set_option linter.unusedVariables false
set_option linter.unusedSimpArgs false

attribute [local go_sem high] eqA24
/-! ### position_place: function 44 -/
/-- Where the first element of which p holds stands; -1. -/
def idxOf {α : Type} (p : α → Bool) : List α → Int → Int
  | [], _ => -1
  | x :: xs, i => if p x = true then i else idxOf p xs (i + 1)
theorem idxOf_drop {α : Type} (p : α → Bool) (l : List α) (z : α) (i : Nat) (h : i < l.length) : idxOf p (l.drop i) i = if p (l.getD i z) = true then (i : Int) else idxOf p (l.drop (i + 1)) ((i + 1 : Nat) : Int) := by
  rw [List.drop_eq_getElem_cons h]
  simp [idxOf, List.getD_eq_getElem?_getD, List.getElem?_eq_getElem h]
/-- What is asked of a predicate: it may lay blocks of its own. -/
def PredK {α : Type} (P : Program) (d : Kd α) (g : Nat) (lb : Array Value) (p : α → Bool) (w : World) : Prop :=
  ∀ (W : World) (x : α) (cs : List Value), Below w.heap.size w W → d.K W x cs → Calls P g (#[.agg cs.toArray] ++ lb) W fun e w' => e = .returned (.bool (p x)) ∧ Below W.heap.size W w'
theorem PredK.later {α : Type} {P : Program} {d : Kd α} {g : Nat} {lb : Array Value} {p : α → Bool} {w W : World} (h : PredK P d g lb p w) (hb : Below w.heap.size w W) : PredK P d g lb p W :=
  fun W' x cs hb' hk => h W' x cs (below_step hb hb') hk
theorem idxOf_lt {α : Type} (p : α → Bool) (l : List α) (i : Int) : idxOf p l i = -1 ∨ (i ≤ idxOf p l i ∧ idxOf p l i < i + l.length) := by
  induction l generalizing i with
  | nil => exact .inl rfl
  | cons x xs ih =>
    unfold idxOf
    split
    · exact .inr ⟨Int.le_refl _, by simp only [List.length_cons]; omega⟩
    · rcases ih (i + 1) with h | h
      · exact .inl h
      · exact .inr ⟨by omega, by simp only [List.length_cons]; omega⟩

/-- slices.IndexFunc at api.Position. -/
theorem IndexFunc_api_Position.calls (p : S52 → Bool) (g : Nat) (lb : Array Value) (eg : ∀ args w, (callFunc g args).run Try.prog w = .ok (.enter g args) w) (A0 : Option Addr) (c0 : Nat) (l0 : List (S52)) (w : World) (hp : PredK Try.prog k52 g lb p w) (hr0 : Kd.C k52 w A0 l0.length l0) :
    Calls Try.prog 34 #[.slice A0 l0.length c0, .func (.func g) #[] lb] w fun e w' => e = .returned (.int .i64 (idxOf p l0 0)) ∧ Below w.heap.size w w' := by
  have HR0 := Aside0.mk hr0
  have HL := hr0.2.1
  have HP := Aside0.mk hp
  clear hr0 hp
  go_enter Try.func34, Try.ntmps34
  go_wp2
  go_loopg [5, 8] l0.length (fun kq _ v8 w' => ∃ (x8 : Nat), v8 = .int .i64 x8 ∧ kq + x8 = l0.length ∧ Aside0 (idxOf p (l0.drop x8) x8 = idxOf p l0 0) ∧ Aside0 (Below w.heap.size w w'))
  case atStart => exact ⟨0, rfl, by omega, ⟨rfl⟩, ⟨Below.refl _ _⟩⟩
  case round =>
    obtain ⟨x8, rfl, hx, HA, HB⟩ := hrel
    have hsz := HB.out.size
    by_cases hlt : x8 < l0.length
    · obtain ⟨ad, cs, e, hlen, hK, hcell⟩ := Kd.C_get (Kd.C_below HR0.out HB.out) z52 x8 (by omega) (by omega)
      cases e
      have hcall := HP.out wr _ _ HB.out hK
      simp only [Int.toNat_natCast] at hcell hK hcall
      have hg := idxOf_drop p l0 z52 x8 hlt
      have HA2 := Aside0.mk (HA.out ▸ hg).symm
      clear hg HA
      simp only [show k52.sz = 6 from rfl] at hcell
      clear hlen
      obtain rfl := k52_open hK
      have h0 := hcell 0 _ rfl
      have h1 := hcell 1 _ rfl; rw [add_field _ _ 1 (by omega)] at h1
      have h2 := hcell 2 _ rfl; rw [add_field _ _ 2 (by omega)] at h2
      have h3 := hcell 3 _ rfl; rw [add_field _ _ 3 (by omega)] at h3
      have h4 := hcell 4 _ rfl; rw [add_field _ _ 4 (by omega)] at h4
      have h5 := hcell 5 _ rfl; rw [add_field _ _ 5 (by omega)] at h5
      clear hcell hK
      simp only [Nat.add_zero] at h0
      generalize hy : l0.getD x8 z52 = y at *
      clear hy
      by_cases hq : p y = true
      · have HA3 := Aside0.mk (by have := HA2.out; rwa [if_pos hq] at this)
        rw [hq] at hcall
        clear hq HA2
        go_wp2_with ((with_reducible refine hcall.mono ?_); rintro e w' ⟨rfl, hb'⟩)
        go_ret
        have := HA3.out
        exact ⟨congrArg (fun z => Ending.returned (.int .i64 z)) this, below_step HB.out hb'⟩
      · have hq2 : p y = false := by simpa using hq
        have HA3 := Aside0.mk (by have := HA2.out; rwa [if_neg hq] at this)
        rw [hq2] at hcall
        clear hq hq2 HA2
        go_wp2_with ((with_reducible refine hcall.mono ?_); rintro e w' ⟨rfl, hb'⟩)
        go_roundg (l0.length - (x8 + 1))
        case measure => omega
        case rel => exact ⟨x8 + 1, by go_num, by omega, HA3, ⟨below_step HB.out hb'⟩⟩
    · have hxe : x8 = l0.length := by omega
      have HA3 := Aside0.mk (by have := HA.out; rwa [List.drop_eq_nil_of_le (by omega)] at this)
      clear HA
      have hd : decide ((x8 : Int) < (l0.length : Int)) = false := by simp; omega
      clear hxe
      go_wp2
      go_ret
      have := HA3.out
      simp only [idxOf] at this
      exact ⟨congrArg (fun z => Ending.returned (.int .i64 z)) this, HB.out⟩

-- NEEDS
/-- A position of a series. -/
def position_place.q (a1_0 : ByteArray) (a1_1 a1_2 a1_3 : Int) (x : S52) : Bool := eqD24 x.f0.f0 a1_0 x.f0.f1 a1_1 x.f0.f2 a1_2 x.f0.f3 a1_3
/-- The place of the first position of a series; -1. -/
def position_place.f (l0 : List S52) (a1_0 : ByteArray) (a1_1 : Int) (a1_2 : Int) (a1_3 : Int) : Option Int := some (idxOf (position_place.q a1_0 a1_1 a1_2 a1_3) l0 0)
theorem position_place.pred (a1_0 : ByteArray) (a1_1 a1_2 a1_3 : Int) (w : World) (b : Nat) (hb : w.heap[b]? = some (.cells #[.string a1_0, .int .i64 a1_1, .int .i64 a1_2, .int .i64 a1_3] 24 (0, 0))) :
    PredK Try.prog k52 59 #[.pointer (some ⟨b, 0, none⟩)] (position_place.q a1_0 a1_1 a1_2 a1_3) w := by
  intro W x cs hW hK
  obtain rfl := k52_open hK
  have hb' := blk_below hb hW
  have h0 : W.cell? ⟨b, 0, none⟩ = some (.string a1_0) := (blk_cell hb' 0).trans rfl
  have h1 : W.cell? ⟨b, 1, none⟩ = some (.int .i64 a1_1) := (blk_cell hb' 1).trans rfl
  have h2 : W.cell? ⟨b, 2, none⟩ = some (.int .i64 a1_2) := (blk_cell hb' 2).trans rfl
  have h3 : W.cell? ⟨b, 3, none⟩ = some (.int .i64 a1_3) := (blk_cell hb' 3).trans rfl
  have hlt := blk_lt hb'
  clear hb hb' hK
  go_enter Try.func59, Try.ntmps59
  go_wp2
  go_ret
  exact ⟨rfl, (Below.refl _ _).alloc (Nat.le_refl _) _⟩
set_option maxHeartbeats 800000 in
set_option maxRecDepth 100000 in
theorem position_place.calls (A0 : Option Addr) (c0 : Nat) (l0 : List (S52)) (a1_0 : ByteArray) (a1_1 : Int) (a1_2 : Int) (a1_3 : Int) (r : Int) (w : World) (hr0 : Kd.C k52 w A0 l0.length l0) (hc0 : l0.length ≤ c0) (h : position_place.f l0 a1_0 a1_1 a1_2 a1_3 = some r) :
    Calls Try.prog 44 #[.slice A0 l0.length c0, .agg #[.string a1_0, .int .i64 a1_1, .int .i64 a1_2, .int .i64 a1_3]] w fun e w' => e = .returned (.int .i64 r) ∧ Below w.heap.size w w' := by
  have HR0 := Aside0.mk hr0
  have HC0 := Aside0.mk hc0
  obtain rfl := Option.some.inj h
  clear hr0 hc0 h
  go_enter Try.func44, Try.ntmps44
  go_wp2_with fail
  refine (IndexFunc_api_Position.calls _ 59 _ (enters_of Try.func59 (by kernel_rfl) rfl) A0 c0 l0 _ (position_place.pred a1_0 a1_1 a1_2 a1_3 _ _ (blk_new _ _)) (Kd.C_alloc HR0.out _)).mono ?_
  rintro e w2 ⟨rfl, hb⟩
  have HB := Aside0.mk (below_step (below_alloc (Below.refl _ w) _) hb)
  clear hb
  go_wp2
  go_ret
  exact ⟨rfl, HB.out⟩

/-! ### position_Find: function 25 -/
def position_Find.f (l0 : List (S52)) (a1_0 : ByteArray) (a1_1 : Int) (a1_2 : Int) (a1_3 : Int) : Option (ByteArray × Int × Int × Int × Int × Int) := (position_place.f l0 a1_0 a1_1 a1_2 a1_3).bind fun t103 => (if t103 ≥ 0 then (if 0 ≤ t103 then (if t103 < (l0.length : Int) then (some ((rd_T52 l0 t103).f0.f0, (rd_T52 l0 t103).f0.f1, (rd_T52 l0 t103).f0.f2, (rd_T52 l0 t103).f0.f3, (rd_T52 l0 t103).f1, (rd_T52 l0 t103).f2)) else (none)) else (none)) else (some (a1_0, a1_1, a1_2, a1_3, 0, 0)))
set_option maxHeartbeats 8000000 in
set_option maxRecDepth 100000 in
theorem position_Find.calls (A0 : Option Addr) (c0 : Nat) (l0 : List (S52)) (a1_0 : ByteArray) (a1_1 : Int) (a1_2 : Int) (a1_3 : Int) (r1 : ByteArray) (r2 : Int) (r3 : Int) (r4 : Int) (r5 : Int) (r6 : Int) (w : World) (hr0 : Kd.C k52 w A0 l0.length l0) (hc0 : l0.length ≤ c0) (h : position_Find.f l0 a1_0 a1_1 a1_2 a1_3 = some (r1, r2, r3, r4, r5, r6)) :
    Calls Try.prog 25 #[.slice A0 l0.length c0, .agg #[.string a1_0, .int .i64 a1_1, .int .i64 a1_2, .int .i64 a1_3]] w fun e w' => e = .returned (.agg #[.string r1, .int .i64 r2, .int .i64 r3, .int .i64 r4, .int .i64 r5, .int .i64 r6]) ∧ Below w.heap.size w w' := by
  have hu24 := Try.underlying24
  have hu52 := Try.underlying52
  have HR0 := Aside0.mk hr0
  have HC0 := Aside0.mk hc0
  clear hr0 hc0
  have HB := Aside0.mk (Below.refl w.heap.size w)
  have H : ((position_place.f l0 a1_0 a1_1 a1_2 a1_3).bind fun t103 => (if t103 ≥ 0 then (if 0 ≤ t103 then (if t103 < (l0.length : Int) then (some ((rd_T52 l0 t103).f0.f0, (rd_T52 l0 t103).f0.f1, (rd_T52 l0 t103).f0.f2, (rd_T52 l0 t103).f0.f3, (rd_T52 l0 t103).f1, (rd_T52 l0 t103).f2)) else (none)) else (none)) else (some (a1_0, a1_1, a1_2, a1_3, 0, 0)))) = some (r1, r2, r3, r4, r5, r6) := h
  clear h
  replace H := Option.bind_eq_some_iff.mp H
  obtain ⟨t103, A30, H⟩ := H
  replace H : (if t103 ≥ 0 then (if 0 ≤ t103 then (if t103 < (l0.length : Int) then (some ((rd_T52 l0 t103).f0.f0, (rd_T52 l0 t103).f0.f1, (rd_T52 l0 t103).f0.f2, (rd_T52 l0 t103).f0.f3, (rd_T52 l0 t103).f1, (rd_T52 l0 t103).f2)) else (none)) else (none)) else (some (a1_0, a1_1, a1_2, a1_3, 0, 0))) = some (r1, r2, r3, r4, r5, r6) := H
  have A3 := Aside0.mk A30
  clear A30
  by_cases c4 : t103 ≥ 0
  · rw [if_pos c4] at H
    have c4b0 : decide (0 ≤ t103) = true := decide_eq_true c4
    clear c4
    by_cases c5 : 0 ≤ t103
    · rw [if_pos c5] at H
      have c5b0 : decide (0 ≤ t103) = true := decide_eq_true c5
      clear c5
      by_cases c6 : t103 < (l0.length : Int)
      · rw [if_pos c6] at H
        have c6b0 : decide (t103 < (l0.length : Int)) = true := decide_eq_true c6
        clear c6
        simp only [Option.some.injEq, Prod.mk.injEq] at H
        obtain ⟨rfl, rfl, rfl, rfl, rfl, rfl⟩ := H
        go_enter Try.func25, Try.ntmps25
        go_wp2_with (first | ((with_reducible refine gate_dst (N := 3) rfl ?_); refine box_event ?hg (N := 3) ?hd (cs := #[.string a1_0, .int .i64 a1_1, .int .i64 a1_2, .int .i64 a1_3]) (t := 24) ?hr ?_; (case hd => rfl); (case hg => rfl); (case hr => first | (go_simp; done) | (go_simp; rfl)); intro gb101 hg w7 hbox hb; have n0_ := Aside0.mk (below_step (bz0 HB.out) hb); have n1_ := Aside0.mk (hbox); have n2_ := Aside0.mk ((by rw [hg]; exact (below_size (bz0 HB.out)) : w.heap.size ≤ gb101)); have n3_ := Aside0.mk ((by rw [hg]; exact (below_size (bz0 HB.out)) : w.heap.size ≤ gb101)); clear HB; have HB := n0_; have BK101 := n1_; have GW101 := n2_; have GE101 := n3_; clear n0_ n1_ n2_ n3_; clear hb hbox hg) | ((with_reducible refine gate_dst (N := 4) rfl ?_); refine box_event ?hg (N := 4) ?hd (cs := #[.string (⟨#[]⟩ : ByteArray), .int .i64 0, .int .i64 0, .int .i64 0, .int .i64 0, .int .i64 0]) (t := 52) ?hr ?_; (case hd => rfl); (case hg => rfl); (case hr => first | (go_simp; done) | (go_simp; rfl)); intro gb102 hg w8 hbox hb; have n0_ := Aside0.mk (blk_below (g := gb101) (o := .cells #[.string a1_0, .int .i64 a1_1, .int .i64 a1_2, .int .i64 a1_3] 24 (0, 0)) (bk_ BK101.out) hb); have n1_ := Aside0.mk (below_step (bz1 HB.out GE101.out) hb); have n2_ := Aside0.mk (hbox); have n3_ := Aside0.mk ((by rw [hg]; exact (below_size (bz1 HB.out GE101.out)) : w.heap.size ≤ gb102)); have n4_ := Aside0.mk ((by rw [hg]; exact (below_size (bz1 HB.out GE101.out)) : w.heap.size ≤ gb102)); have n5_ := Aside0.mk ((by rw [hg]; exact Nat.ne_of_lt (blk_lt (g := gb101) (o := .cells #[.string a1_0, .int .i64 a1_1, .int .i64 a1_2, .int .i64 a1_3] 24 (0, 0)) (bk_ BK101.out)) : gb101 ≠ gb102)); have n6_ := Aside0.mk ((by rw [hg]; exact Nat.ne_of_gt (blk_lt (g := gb101) (o := .cells #[.string a1_0, .int .i64 a1_1, .int .i64 a1_2, .int .i64 a1_3] 24 (0, 0)) (bk_ BK101.out)) : gb102 ≠ gb101)); clear BK101; clear HB; have BK101 := n0_; have HB := n1_; have BK102 := n2_; have GW102 := n3_; have GE102 := n4_; have NB101_102 := n5_; have NB102_101 := n6_; clear n0_ n1_ n2_ n3_ n4_ n5_ n6_; clear hb hbox hg; have hnb9 := NB101_102.out; have hnc9 := NB102_101.out; have hcz10_0 : w8.cell? ⟨gb101, 0, none⟩ = some (.string a1_0) := (blk_cell BK101.out 0).trans rfl; have hcz10_1 : w8.cell? ⟨gb101, 1, none⟩ = some (.int .i64 a1_1) := (blk_cell BK101.out 1).trans rfl; have hcz10_2 : w8.cell? ⟨gb101, 2, none⟩ = some (.int .i64 a1_2) := (blk_cell BK101.out 2).trans rfl; have hcz10_3 : w8.cell? ⟨gb101, 3, none⟩ = some (.int .i64 a1_3) := (blk_cell BK101.out 3).trans rfl; have hfz10_0 := blk_frozen BK101.out 0; have hfz10_1 := blk_frozen BK101.out 1; have hfz10_2 := blk_frozen BK101.out 2; have hfz10_3 := blk_frozen BK101.out 3) | ((with_reducible refine gate_callee (f := 44) rfl ?_); refine goesL_ (some 8) rfl rfl Try.func44 (by kernel_rfl) rfl #[.slice A0 l0.length c0, .agg #[.string a1_0, .int .i64 a1_1, .int .i64 a1_2, .int .i64 a1_3]] rfl pm_ ?_; (with_reducible refine (position_place.calls _ _ l0 a1_0 a1_1 a1_2 a1_3 t103 _ ?side1 ?side2 A3.out).mono ?_); (case side1 => repeat (first | exact (Kd.C_below HR0.out HB.out) | (with_reducible refine Kd.C_alloc ?_ _) | (with_reducible refine Kd.C_drewN ?_ _) | (with_reducible refine Kd.C_drew ?_))); (case side2 => exact HC0.out); rintro e w11 ⟨rfl, hb⟩; refine ⟨_, rfl, ?_⟩; have n0_ := Aside0.mk (blk_below (g := gb101) (o := .cells #[.string a1_0, .int .i64 a1_1, .int .i64 a1_2, .int .i64 a1_3] 24 (0, 0)) (bk_ BK101.out) hb); have n1_ := Aside0.mk (blk_below (g := gb102) (o := .cells #[.string (⟨#[]⟩ : ByteArray), .int .i64 0, .int .i64 0, .int .i64 0, .int .i64 0, .int .i64 0] 52 (0, 0)) (bk_ BK102.out) hb); have n2_ := Aside0.mk (below_step (bz2 HB.out GE101.out GE102.out) hb); clear BK101; clear BK102; clear HB; have BK101 := n0_; have BK102 := n1_; have HB := n2_; clear n0_ n1_ n2_; (try clear hb); (try clear hb2); (try clear hk); (try clear hi); have p104 : 0 ≤ (t103 : Int) := od_; have q104 : t103 < (l0.length : Int) := od_; obtain ⟨ad104, e104, hx104_0, hx104_1, hx104_2, hx104_3, hx104_4, hx104_5⟩ := at_T52 HR0.out t103 p104 q104; cases e104; replace hx104_0 := (HB.out.cell (World.block_lt_of_cell? w _ hx104_0)).trans hx104_0; replace hx104_1 := (HB.out.cell (World.block_lt_of_cell? w _ hx104_1)).trans hx104_1; replace hx104_2 := (HB.out.cell (World.block_lt_of_cell? w _ hx104_2)).trans hx104_2; replace hx104_3 := (HB.out.cell (World.block_lt_of_cell? w _ hx104_3)).trans hx104_3; replace hx104_4 := (HB.out.cell (World.block_lt_of_cell? w _ hx104_4)).trans hx104_4; replace hx104_5 := (HB.out.cell (World.block_lt_of_cell? w _ hx104_5)).trans hx104_5; replace p104 := eq_true p104; replace q104 := eq_true q104; have hcz12_0 : w11.cell? ⟨gb102, 0, none⟩ = some (.string (⟨#[]⟩ : ByteArray)) := (blk_cell BK102.out 0).trans rfl; have hcz12_1 : w11.cell? ⟨gb102, 1, none⟩ = some (.int .i64 0) := (blk_cell BK102.out 1).trans rfl; have hcz12_2 : w11.cell? ⟨gb102, 2, none⟩ = some (.int .i64 0) := (blk_cell BK102.out 2).trans rfl; have hcz12_3 : w11.cell? ⟨gb102, 3, none⟩ = some (.int .i64 0) := (blk_cell BK102.out 3).trans rfl; have hcz12_4 : w11.cell? ⟨gb102, 4, none⟩ = some (.int .i64 0) := (blk_cell BK102.out 4).trans rfl; have hcz12_5 : w11.cell? ⟨gb102, 5, none⟩ = some (.int .i64 0) := (blk_cell BK102.out 5).trans rfl; have hfz12_0 := blk_frozen BK102.out 0; have hfz12_1 := blk_frozen BK102.out 1; have hfz12_2 := blk_frozen BK102.out 2; have hfz12_3 := blk_frozen BK102.out 3; have hfz12_4 := blk_frozen BK102.out 4; have hfz12_5 := blk_frozen BK102.out 5))
        refine bodyPost_ret (results_cell_row rfl _ _ gb102 52 #[.string ((rd_T52 l0 t103).f0.f0), .int .i64 ((rd_T52 l0 t103).f0.f1), .int .i64 ((rd_T52 l0 t103).f0.f2), .int .i64 ((rd_T52 l0 t103).f0.f3), .int .i64 ((rd_T52 l0 t103).f1), .int .i64 ((rd_T52 l0 t103).f2)] (0, 0) _ rfl (by (with_reducible repeat (first | refine blk_drewN ?_ _ | refine blk_drew ?_ | refine blk_alloc ?_ _)); refine blk_put (cs := #[.string ((rd_T52 l0 t103).f0.f0), .int .i64 ((rd_T52 l0 t103).f0.f1), .int .i64 ((rd_T52 l0 t103).f0.f2), .int .i64 ((rd_T52 l0 t103).f0.f3), .int .i64 ((rd_T52 l0 t103).f1), .int .i64 0]) ?_ 5 _ rfl; (with_reducible repeat (first | refine blk_drewN ?_ _ | refine blk_drew ?_ | refine blk_alloc ?_ _)); refine blk_put (cs := #[.string ((rd_T52 l0 t103).f0.f0), .int .i64 ((rd_T52 l0 t103).f0.f1), .int .i64 ((rd_T52 l0 t103).f0.f2), .int .i64 ((rd_T52 l0 t103).f0.f3), .int .i64 0, .int .i64 0]) ?_ 4 _ rfl; (with_reducible repeat (first | refine blk_drewN ?_ _ | refine blk_drew ?_ | refine blk_alloc ?_ _)); refine blk_put (cs := #[.string ((rd_T52 l0 t103).f0.f0), .int .i64 ((rd_T52 l0 t103).f0.f1), .int .i64 ((rd_T52 l0 t103).f0.f2), .int .i64 0, .int .i64 0, .int .i64 0]) ?_ 3 _ rfl; (with_reducible repeat (first | refine blk_drewN ?_ _ | refine blk_drew ?_ | refine blk_alloc ?_ _)); refine blk_put (cs := #[.string ((rd_T52 l0 t103).f0.f0), .int .i64 ((rd_T52 l0 t103).f0.f1), .int .i64 0, .int .i64 0, .int .i64 0, .int .i64 0]) ?_ 2 _ rfl; (with_reducible repeat (first | refine blk_drewN ?_ _ | refine blk_drew ?_ | refine blk_alloc ?_ _)); refine blk_put (cs := #[.string ((rd_T52 l0 t103).f0.f0), .int .i64 0, .int .i64 0, .int .i64 0, .int .i64 0, .int .i64 0]) ?_ 1 _ rfl; (with_reducible repeat (first | refine blk_drewN ?_ _ | refine blk_drew ?_ | refine blk_alloc ?_ _)); refine blk_put (cs := #[.string (⟨#[]⟩ : ByteArray), .int .i64 0, .int .i64 0, .int .i64 0, .int .i64 0, .int .i64 0]) ?_ 0 _ rfl; (with_reducible repeat (first | refine blk_drewN ?_ _ | refine blk_drew ?_ | refine blk_alloc ?_ _)); exact BK102.out) Try.underlying52 rfl (by kernel_rfl)) rfl ?_
        exact ⟨by first | rfl | (simp [errW_none, errW_some] <;> rfl) | (simp [*, errW_none, errW_some] <;> rfl), bz2 HB.out GE101.out GE102.out⟩
      · rw [if_neg c6] at H
        exact absurd H (by simp)
    · rw [if_neg c5] at H
      exact absurd H (by simp)
  · rw [if_neg c4] at H
    have c4b0 : decide (0 ≤ t103) = false := decide_eq_false c4
    clear c4
    simp only [Option.some.injEq, Prod.mk.injEq] at H
    obtain ⟨rfl, rfl, rfl, rfl, rfl, rfl⟩ := H
    go_enter Try.func25, Try.ntmps25
    go_wp2_with (first | ((with_reducible refine gate_dst (N := 3) rfl ?_); refine box_event ?hg (N := 3) ?hd (cs := #[.string a1_0, .int .i64 a1_1, .int .i64 a1_2, .int .i64 a1_3]) (t := 24) ?hr ?_; (case hd => rfl); (case hg => rfl); (case hr => first | (go_simp; done) | (go_simp; rfl)); intro gb101 hg w13 hbox hb; have n0_ := Aside0.mk (below_step (bz0 HB.out) hb); have n1_ := Aside0.mk (hbox); have n2_ := Aside0.mk ((by rw [hg]; exact (below_size (bz0 HB.out)) : w.heap.size ≤ gb101)); have n3_ := Aside0.mk ((by rw [hg]; exact (below_size (bz0 HB.out)) : w.heap.size ≤ gb101)); clear HB; have HB := n0_; have BK101 := n1_; have GW101 := n2_; have GE101 := n3_; clear n0_ n1_ n2_ n3_; clear hb hbox hg) | ((with_reducible refine gate_dst (N := 4) rfl ?_); refine box_event ?hg (N := 4) ?hd (cs := #[.string (⟨#[]⟩ : ByteArray), .int .i64 0, .int .i64 0, .int .i64 0, .int .i64 0, .int .i64 0]) (t := 52) ?hr ?_; (case hd => rfl); (case hg => rfl); (case hr => first | (go_simp; done) | (go_simp; rfl)); intro gb102 hg w14 hbox hb; have n0_ := Aside0.mk (blk_below (g := gb101) (o := .cells #[.string a1_0, .int .i64 a1_1, .int .i64 a1_2, .int .i64 a1_3] 24 (0, 0)) (bk_ BK101.out) hb); have n1_ := Aside0.mk (below_step (bz1 HB.out GE101.out) hb); have n2_ := Aside0.mk (hbox); have n3_ := Aside0.mk ((by rw [hg]; exact (below_size (bz1 HB.out GE101.out)) : w.heap.size ≤ gb102)); have n4_ := Aside0.mk ((by rw [hg]; exact (below_size (bz1 HB.out GE101.out)) : w.heap.size ≤ gb102)); have n5_ := Aside0.mk ((by rw [hg]; exact Nat.ne_of_lt (blk_lt (g := gb101) (o := .cells #[.string a1_0, .int .i64 a1_1, .int .i64 a1_2, .int .i64 a1_3] 24 (0, 0)) (bk_ BK101.out)) : gb101 ≠ gb102)); have n6_ := Aside0.mk ((by rw [hg]; exact Nat.ne_of_gt (blk_lt (g := gb101) (o := .cells #[.string a1_0, .int .i64 a1_1, .int .i64 a1_2, .int .i64 a1_3] 24 (0, 0)) (bk_ BK101.out)) : gb102 ≠ gb101)); clear BK101; clear HB; have BK101 := n0_; have HB := n1_; have BK102 := n2_; have GW102 := n3_; have GE102 := n4_; have NB101_102 := n5_; have NB102_101 := n6_; clear n0_ n1_ n2_ n3_ n4_ n5_ n6_; clear hb hbox hg; have hnb15 := NB101_102.out; have hnc15 := NB102_101.out; have hcz16_0 : w14.cell? ⟨gb101, 0, none⟩ = some (.string a1_0) := (blk_cell BK101.out 0).trans rfl; have hcz16_1 : w14.cell? ⟨gb101, 1, none⟩ = some (.int .i64 a1_1) := (blk_cell BK101.out 1).trans rfl; have hcz16_2 : w14.cell? ⟨gb101, 2, none⟩ = some (.int .i64 a1_2) := (blk_cell BK101.out 2).trans rfl; have hcz16_3 : w14.cell? ⟨gb101, 3, none⟩ = some (.int .i64 a1_3) := (blk_cell BK101.out 3).trans rfl; have hfz16_0 := blk_frozen BK101.out 0; have hfz16_1 := blk_frozen BK101.out 1; have hfz16_2 := blk_frozen BK101.out 2; have hfz16_3 := blk_frozen BK101.out 3) | ((with_reducible refine gate_callee (f := 44) rfl ?_); refine goesL_ (some 8) rfl rfl Try.func44 (by kernel_rfl) rfl #[.slice A0 l0.length c0, .agg #[.string a1_0, .int .i64 a1_1, .int .i64 a1_2, .int .i64 a1_3]] rfl pm_ ?_; (with_reducible refine (position_place.calls _ _ l0 a1_0 a1_1 a1_2 a1_3 t103 _ ?side1 ?side2 A3.out).mono ?_); (case side1 => repeat (first | exact (Kd.C_below HR0.out HB.out) | (with_reducible refine Kd.C_alloc ?_ _) | (with_reducible refine Kd.C_drewN ?_ _) | (with_reducible refine Kd.C_drew ?_))); (case side2 => exact HC0.out); rintro e w17 ⟨rfl, hb⟩; refine ⟨_, rfl, ?_⟩; have n0_ := Aside0.mk (blk_below (g := gb101) (o := .cells #[.string a1_0, .int .i64 a1_1, .int .i64 a1_2, .int .i64 a1_3] 24 (0, 0)) (bk_ BK101.out) hb); have n1_ := Aside0.mk (blk_below (g := gb102) (o := .cells #[.string (⟨#[]⟩ : ByteArray), .int .i64 0, .int .i64 0, .int .i64 0, .int .i64 0, .int .i64 0] 52 (0, 0)) (bk_ BK102.out) hb); have n2_ := Aside0.mk (below_step (bz2 HB.out GE101.out GE102.out) hb); clear BK101; clear BK102; clear HB; have BK101 := n0_; have BK102 := n1_; have HB := n2_; clear n0_ n1_ n2_; (try clear hb); (try clear hb2); (try clear hk); (try clear hi); have hcz18_0 : w17.cell? ⟨gb101, 0, none⟩ = some (.string a1_0) := (blk_cell BK101.out 0).trans rfl; have hcz18_1 : w17.cell? ⟨gb101, 1, none⟩ = some (.int .i64 a1_1) := (blk_cell BK101.out 1).trans rfl; have hcz18_2 : w17.cell? ⟨gb101, 2, none⟩ = some (.int .i64 a1_2) := (blk_cell BK101.out 2).trans rfl; have hcz18_3 : w17.cell? ⟨gb101, 3, none⟩ = some (.int .i64 a1_3) := (blk_cell BK101.out 3).trans rfl; have hfz18_0 := blk_frozen BK101.out 0; have hfz18_1 := blk_frozen BK101.out 1; have hfz18_2 := blk_frozen BK101.out 2; have hfz18_3 := blk_frozen BK101.out 3; have hcz19_0 : w17.cell? ⟨gb102, 0, none⟩ = some (.string (⟨#[]⟩ : ByteArray)) := (blk_cell BK102.out 0).trans rfl; have hcz19_1 : w17.cell? ⟨gb102, 1, none⟩ = some (.int .i64 0) := (blk_cell BK102.out 1).trans rfl; have hcz19_2 : w17.cell? ⟨gb102, 2, none⟩ = some (.int .i64 0) := (blk_cell BK102.out 2).trans rfl; have hcz19_3 : w17.cell? ⟨gb102, 3, none⟩ = some (.int .i64 0) := (blk_cell BK102.out 3).trans rfl; have hcz19_4 : w17.cell? ⟨gb102, 4, none⟩ = some (.int .i64 0) := (blk_cell BK102.out 4).trans rfl; have hcz19_5 : w17.cell? ⟨gb102, 5, none⟩ = some (.int .i64 0) := (blk_cell BK102.out 5).trans rfl; have hfz19_0 := blk_frozen BK102.out 0; have hfz19_1 := blk_frozen BK102.out 1; have hfz19_2 := blk_frozen BK102.out 2; have hfz19_3 := blk_frozen BK102.out 3; have hfz19_4 := blk_frozen BK102.out 4; have hfz19_5 := blk_frozen BK102.out 5))
    refine bodyPost_ret (results_cell_row rfl _ _ gb102 52 #[.string a1_0, .int .i64 a1_1, .int .i64 a1_2, .int .i64 a1_3, .int .i64 0, .int .i64 0] (0, 0) _ rfl (by (with_reducible repeat (first | refine blk_drewN ?_ _ | refine blk_drew ?_ | refine blk_alloc ?_ _)); refine blk_put (cs := #[.string a1_0, .int .i64 a1_1, .int .i64 a1_2, .int .i64 a1_3, .int .i64 0, .int .i64 0]) ?_ 5 _ rfl; (with_reducible repeat (first | refine blk_drewN ?_ _ | refine blk_drew ?_ | refine blk_alloc ?_ _)); refine blk_put (cs := #[.string a1_0, .int .i64 a1_1, .int .i64 a1_2, .int .i64 a1_3, .int .i64 0, .int .i64 0]) ?_ 4 _ rfl; (with_reducible repeat (first | refine blk_drewN ?_ _ | refine blk_drew ?_ | refine blk_alloc ?_ _)); refine blk_put (cs := #[.string a1_0, .int .i64 a1_1, .int .i64 a1_2, .int .i64 0, .int .i64 0, .int .i64 0]) ?_ 3 _ rfl; (with_reducible repeat (first | refine blk_drewN ?_ _ | refine blk_drew ?_ | refine blk_alloc ?_ _)); refine blk_put (cs := #[.string a1_0, .int .i64 a1_1, .int .i64 0, .int .i64 0, .int .i64 0, .int .i64 0]) ?_ 2 _ rfl; (with_reducible repeat (first | refine blk_drewN ?_ _ | refine blk_drew ?_ | refine blk_alloc ?_ _)); refine blk_put (cs := #[.string a1_0, .int .i64 0, .int .i64 0, .int .i64 0, .int .i64 0, .int .i64 0]) ?_ 1 _ rfl; (with_reducible repeat (first | refine blk_drewN ?_ _ | refine blk_drew ?_ | refine blk_alloc ?_ _)); refine blk_put (cs := #[.string (⟨#[]⟩ : ByteArray), .int .i64 0, .int .i64 0, .int .i64 0, .int .i64 0, .int .i64 0]) ?_ 0 _ rfl; (with_reducible repeat (first | refine blk_drewN ?_ _ | refine blk_drew ?_ | refine blk_alloc ?_ _)); exact BK102.out) Try.underlying52 rfl (by kernel_rfl)) rfl ?_
    exact ⟨by first | rfl | (simp [errW_none, errW_some] <;> rfl) | (simp [*, errW_none, errW_some] <;> rfl), bz2 HB.out GE101.out GE102.out⟩

/-! ### share_money: function 45 -/
def share_money.f (a0 : Int) : Option (Bool) := if a0 ≥ 0 then (some (decide (a0 ≤ 1152921504606846976))) else (some false)
set_option maxHeartbeats 8000000 in
set_option maxRecDepth 100000 in
theorem share_money.calls (a0 : Int) (r : Bool) (w : World) (h : share_money.f a0 = some r) :
    Calls Try.prog 45 #[.int .i64 a0] w fun e w' => e = .returned (.bool r) ∧ Drawn0 w w' := by
  have H : (if a0 ≥ 0 then (some (decide (a0 ≤ 1152921504606846976))) else (some false)) = some r := h
  clear h
  by_cases c2 : a0 ≥ 0
  · rw [if_pos c2] at H
    have c2b0 : decide (0 ≤ a0) = true := decide_eq_true c2
    clear c2
    obtain rfl := Option.some.inj H
    go_enter Try.func45, Try.ntmps45
    go_wp2
    go_ret
    exact ⟨by first | rfl | (simp; done) | (simp [*]; done), by repeat (first | exact Drawn0.refl _ | apply Drawn0.step)⟩
  · rw [if_neg c2] at H
    have c2b0 : decide (0 ≤ a0) = false := decide_eq_false c2
    clear c2
    obtain rfl := Option.some.inj H
    go_enter Try.func45, Try.ntmps45
    go_wp2
    go_ret
    exact ⟨by first | rfl | (simp; done) | (simp [*]; done), by repeat (first | exact Drawn0.refl _ | apply Drawn0.step)⟩

/-! ### share_weighed: function 46 -/
def share_weighed.l0 : Nat → Int → List Int → Int → Int → Option (Int × Int)
  | 0, _, _, _, _ => none
  | k + 1, x2, x9, x10, x11 => if x11 < x10 then (if 0 ≤ x11 then (if x11 < (x9.length : Int) then ((share_money.f (rd x9 x11)).bind fun t106 => (if t106 = true then (if (rd x9 x11) > (wrap64 (1152921504606846976 - x2)) then (some (0, 26)) else (share_weighed.l0 k (wrap64 (x2 + (rd x9 x11))) x9 x10 (wrap64 (x11 + 1)))) else (some (0, 26)))) else (none)) else (none)) else (some (x2, 0))
def share_weighed.f (k : Nat) (l0 : List Int) : Option (Int × Int) := if (l0.length : Int) > 1024 then (some (0, 8)) else (share_weighed.l0 k 0 l0 (l0.length : Int) 0)
theorem share_weighed.mono_l : ∀ k, (∀ y0 y1 y2 y3, LeO (share_weighed.l0 k y0 y1 y2 y3) (share_weighed.l0 (k + 1) y0 y1 y2 y3))
  | 0 => fun _ _ _ _ r h => by simp [share_weighed.l0] at h
  | k + 1 => by
    have ih0 := share_weighed.mono_l k
    · intro y0 y1 y2 y3
      unfold share_weighed.l0
      repeat' first
      | (with_reducible exact ih0 _ _ _ _)
      | (with_reducible exact LeO.refl _)
      | (with_reducible exact LeO.none _)
      | (with_reducible refine LeO.ite ?_ ?_)
      | (with_reducible refine LeO.bind ?_ (fun _ => ?_))
      | exact LeO.none _
      | refine LeO.ite ?_ ?_
      | refine LeO.bind ?_ (fun _ => ?_)
theorem share_weighed.mono : ∀ a0 k, LeO (share_weighed.f k a0) (share_weighed.f (k + 1) a0) := by
  intro a0 k
  have ih0 := share_weighed.mono_l k
  unfold share_weighed.f
  repeat' first
      | (with_reducible exact ih0 _ _ _ _)
      | (with_reducible exact LeO.refl _)
      | (with_reducible exact LeO.none _)
      | (with_reducible refine LeO.ite ?_ ?_)
      | (with_reducible refine LeO.bind ?_ (fun _ => ?_))
      | exact LeO.none _
      | refine LeO.ite ?_ ?_
      | refine LeO.bind ?_ (fun _ => ?_)
set_option maxHeartbeats 8000000 in
set_option maxRecDepth 100000 in
theorem share_weighed.calls (k : Nat) (A0 : Option Addr) (c0 : Nat) (l0 : List Int) (r1 : Int) (r2 : Int) (w : World) (hr0 : Kd.C (Kd.int .i64) w A0 l0.length l0) (hc0 : l0.length ≤ c0) (h : share_weighed.f k l0 = some (r1, r2)) :
    Calls Try.prog 46 #[.slice A0 l0.length c0] w fun e w' => e = .returned (.tuple #[.int .i64 r1, .int .i64 r2]) ∧ Drawn0 w w' := by
  have HR0 := Aside0.mk hr0
  have HC0 := Aside0.mk hc0
  clear hr0 hc0
  have H : (if (l0.length : Int) > 1024 then (some (0, 8)) else (share_weighed.l0 k 0 l0 (l0.length : Int) 0)) = some (r1, r2) := h
  clear h
  by_cases c2 : (l0.length : Int) > 1024
  · rw [if_pos c2] at H
    have c2b0 : decide (1024 < (l0.length : Int)) = true := decide_eq_true c2
    have c2b1 : decide (1024 < l0.length) = true := decide_eq_true (by omega)
    clear c2
    simp only [Option.some.injEq, Prod.mk.injEq] at H
    obtain ⟨rfl, rfl⟩ := H
    go_enter Try.func46, Try.ntmps46
    go_wp2
    go_ret2
    exact ⟨by first | rfl | (simp; done) | (simp [*]; done), by repeat (first | exact Drawn0.refl _ | apply Drawn0.step)⟩
  · rw [if_neg c2] at H
    have c2b0 : decide (1024 < (l0.length : Int)) = false := decide_eq_false c2
    have c2b1 : decide (1024 < l0.length) = false := decide_eq_false (by omega)
    clear c2
    have H' := Aside0.mk H
    clear H
    go_enter Try.func46, Try.ntmps46
    go_wp2
    go_loopg [2, 11] k (fun kq v2 v11 w' => ∃ (x2_1 : Int) (x11_1 : Int), v2 = .int .i64 x2_1 ∧ v11 = .int .i64 x11_1 ∧ Aside0 (share_weighed.l0 kq x2_1 l0 (l0.length : Int) x11_1 = some (r1, r2)) ∧ Aside0 (kq ≤ k) ∧ Drawn0 w w')
    case atStart => exact ⟨(0), (0), rf_, rf_, H', ⟨Nat.le_refl _⟩, by repeat (first | exact Drawn0.refl _ | apply Drawn0.step)⟩
    case round =>
      clear H'
      try clear c2
      try clear c2b0
      try clear c2b1
      try clear p2
      obtain ⟨x2_1, x11_1, rfl, rfl, HA, HK1, ⟨m1, rfl⟩⟩ := hrel
      cases gk with
      | zero => exact absurd HA.out (by simp [share_weighed.l0])
      | succ k1 =>
        have H := HA.out
        clear HA
        simp only [share_weighed.l0] at H
        by_cases c3 : x11_1 < (l0.length : Int)
        · rw [if_pos c3] at H
          have c3b0 : decide (x11_1 < (l0.length : Int)) = true := decide_eq_true c3
          clear c3
          by_cases c4 : 0 ≤ x11_1
          · rw [if_pos c4] at H
            have c4b0 : decide (0 ≤ x11_1) = true := decide_eq_true c4
            clear c4
            by_cases c5 : x11_1 < (l0.length : Int)
            · rw [if_pos c5] at H
              have c5b0 : decide (x11_1 < (l0.length : Int)) = true := decide_eq_true c5
              clear c5
              replace H := Option.bind_eq_some_iff.mp H
              obtain ⟨t106, A60, H⟩ := H
              replace H : (if t106 = true then (if (rd l0 x11_1) > (wrap64 (1152921504606846976 - x2_1)) then (some (0, 26)) else (share_weighed.l0 k1 (wrap64 (x2_1 + (rd l0 x11_1))) l0 (l0.length : Int) (wrap64 (x11_1 + 1)))) else (some (0, 26))) = some (r1, r2) := H
              have A6 := Aside0.mk A60
              clear A60
              by_cases c7 : t106 = true
              · subst c7
                have H1 : (if (rd l0 x11_1) > (wrap64 (1152921504606846976 - x2_1)) then (some (0, 26)) else (share_weighed.l0 k1 (wrap64 (x2_1 + (rd l0 x11_1))) l0 (l0.length : Int) (wrap64 (x11_1 + 1)))) = some (r1, r2) := by rw [if_pos rfl] at H; exact H
                clear H
                have H := H1
                clear H1
                by_cases c8 : (rd l0 x11_1) > (wrap64 (1152921504606846976 - x2_1))
                · rw [if_pos c8] at H
                  have c8b0 : decide ((wrap64 (1152921504606846976 - x2_1)) < (rd l0 x11_1)) = true := decide_eq_true c8
                  clear c8
                  simp only [Option.some.injEq, Prod.mk.injEq] at H
                  obtain ⟨rfl, rfl⟩ := H
                  have p105 : 0 ≤ (x11_1 : Int) := od_
                  have q105 : x11_1 < (l0.length : Int) := od_
                  obtain ⟨ad105, e105, hx105_0⟩ := Kd.at_int HR0.out x11_1 p105 q105
                  cases e105
                  replace p105 := eq_true p105
                  replace q105 := eq_true q105
                  go_wp2_with (first | ((with_reducible refine gate_callee (f := 45) rfl ?_); refine goesL_ (some 16) rfl rfl Try.func45 (by kernel_rfl) rfl #[.int .i64 (rd l0 x11_1)] rfl pm_ ?_; (with_reducible refine (share_money.calls (rd l0 x11_1) true _ A6.out).mono ?_); rintro e w' ⟨rfl, ⟨nd, rfl⟩⟩; refine ⟨_, rfl, ?_⟩))
                  go_ret2
                  exact ⟨by first | rfl | (simp; done) | (simp [*]; done), by repeat (first | exact Drawn0.refl _ | apply Drawn0.step)⟩
                · rw [if_neg c8] at H
                  have c8b0 : decide ((wrap64 (1152921504606846976 - x2_1)) < (rd l0 x11_1)) = false := decide_eq_false c8
                  clear c8
                  have H' := Aside0.mk H
                  clear H
                  have p105 : 0 ≤ (x11_1 : Int) := od_
                  have q105 : x11_1 < (l0.length : Int) := od_
                  obtain ⟨ad105, e105, hx105_0⟩ := Kd.at_int HR0.out x11_1 p105 q105
                  cases e105
                  replace p105 := eq_true p105
                  replace q105 := eq_true q105
                  go_wp2_with (first | ((with_reducible refine gate_callee (f := 45) rfl ?_); refine goesL_ (some 16) rfl rfl Try.func45 (by kernel_rfl) rfl #[.int .i64 (rd l0 x11_1)] rfl pm_ ?_; (with_reducible refine (share_money.calls (rd l0 x11_1) true _ A6.out).mono ?_); rintro e w' ⟨rfl, ⟨nd, rfl⟩⟩; refine ⟨_, rfl, ?_⟩))
                  go_roundg k1
                  case measure => have := HK1.out; omega
                  case rel => exact ⟨(wrap64 (x2_1 + (rd l0 x11_1))), (wrap64 (x11_1 + 1)), (by first | rfl | (simp; done) | (simp [i64_w]; done) | (simp [*]; done)), (by first | rfl | (simp; done) | (simp [i64_w]; done) | (simp [*]; done)), H', ⟨by have := HK1.out; omega⟩, by repeat (first | exact Drawn0.refl _ | apply Drawn0.step)⟩
              · replace c7 := Bool.eq_false_iff.mpr c7
                subst c7
                have H1 : (some (0, 26)) = some (r1, r2) := by rw [if_neg (show ¬ (false = true) by decide)] at H; exact H
                clear H
                have H := H1
                clear H1
                simp only [Option.some.injEq, Prod.mk.injEq] at H
                obtain ⟨rfl, rfl⟩ := H
                have p105 : 0 ≤ (x11_1 : Int) := od_
                have q105 : x11_1 < (l0.length : Int) := od_
                obtain ⟨ad105, e105, hx105_0⟩ := Kd.at_int HR0.out x11_1 p105 q105
                cases e105
                replace p105 := eq_true p105
                replace q105 := eq_true q105
                go_wp2_with (first | ((with_reducible refine gate_callee (f := 45) rfl ?_); refine goesL_ (some 16) rfl rfl Try.func45 (by kernel_rfl) rfl #[.int .i64 (rd l0 x11_1)] rfl pm_ ?_; (with_reducible refine (share_money.calls (rd l0 x11_1) false _ A6.out).mono ?_); rintro e w' ⟨rfl, ⟨nd, rfl⟩⟩; refine ⟨_, rfl, ?_⟩))
                go_ret2
                exact ⟨by first | rfl | (simp; done) | (simp [*]; done), by repeat (first | exact Drawn0.refl _ | apply Drawn0.step)⟩
            · rw [if_neg c5] at H
              exact absurd H (by simp)
          · rw [if_neg c4] at H
            exact absurd H (by simp)
        · rw [if_neg c3] at H
          have c3b0 : decide (x11_1 < (l0.length : Int)) = false := decide_eq_false c3
          clear c3
          simp only [Option.some.injEq, Prod.mk.injEq] at H
          obtain ⟨rfl, rfl⟩ := H
          go_wp2
          go_ret2
          exact ⟨by first | rfl | (simp; done) | (simp [*]; done), by repeat (first | exact Drawn0.refl _ | apply Drawn0.step)⟩

/-! ### share_quotient: function 47 -/
def share_quotient.l0 : Nat → Int → Int → Int → Int → Int → Int → Option (Int × Int)
  | 0, _, _, _, _, _, _ => none
  | k + 1, x0, x1, x2, x6, x7, x9 => if x9 < 61 then (if 0 ≤ (wrap64 (60 - x9)) then (if (Go.bits .and .i64 (shr .i64 x1 (wrap64 (60 - x9))) 1) = 1 then (if x2 = 0 then (none) else (share_quotient.l0 k x0 x1 x2 (wrap64 ((wrap64 (2 * x6)) + (wrap64 (Int.tdiv (wrap64 ((wrap64 (2 * x7)) + x0)) x2)))) (Int.tmod (wrap64 ((wrap64 (2 * x7)) + x0)) x2) (wrap64 (x9 + 1)))) else (if x2 = 0 then (none) else (share_quotient.l0 k x0 x1 x2 (wrap64 ((wrap64 (2 * x6)) + (wrap64 (Int.tdiv (wrap64 (2 * x7)) x2)))) (Int.tmod (wrap64 (2 * x7)) x2) (wrap64 (x9 + 1))))) else (none)) else (some (x6, x7))
def share_quotient.f (k : Nat) (a0 : Int) (a1 : Int) (a2 : Int) : Option (Int × Int) := share_quotient.l0 k a0 a1 a2 0 0 0
theorem share_quotient.mono_l : ∀ k, (∀ y0 y1 y2 y3 y4 y5, LeO (share_quotient.l0 k y0 y1 y2 y3 y4 y5) (share_quotient.l0 (k + 1) y0 y1 y2 y3 y4 y5))
  | 0 => fun _ _ _ _ _ _ r h => by simp [share_quotient.l0] at h
  | k + 1 => by
    have ih0 := share_quotient.mono_l k
    · intro y0 y1 y2 y3 y4 y5
      unfold share_quotient.l0
      repeat' first
      | (with_reducible exact ih0 _ _ _ _ _ _)
      | (with_reducible exact LeO.refl _)
      | (with_reducible exact LeO.none _)
      | (with_reducible refine LeO.ite ?_ ?_)
      | (with_reducible refine LeO.bind ?_ (fun _ => ?_))
      | exact LeO.none _
      | refine LeO.ite ?_ ?_
      | refine LeO.bind ?_ (fun _ => ?_)
theorem share_quotient.mono : ∀ a0 a1 a2 k, LeO (share_quotient.f k a0 a1 a2) (share_quotient.f (k + 1) a0 a1 a2) := by
  intro a0 a1 a2 k
  have ih0 := share_quotient.mono_l k
  unfold share_quotient.f
  repeat' first
      | (with_reducible exact ih0 _ _ _ _ _ _)
      | (with_reducible exact LeO.refl _)
      | (with_reducible exact LeO.none _)
      | (with_reducible refine LeO.ite ?_ ?_)
      | (with_reducible refine LeO.bind ?_ (fun _ => ?_))
      | exact LeO.none _
      | refine LeO.ite ?_ ?_
      | refine LeO.bind ?_ (fun _ => ?_)
set_option maxHeartbeats 8000000 in
set_option maxRecDepth 100000 in
theorem share_quotient.calls (k : Nat) (a0 : Int) (a1 : Int) (a2 : Int) (r1 : Int) (r2 : Int) (w : World) (h : share_quotient.f k a0 a1 a2 = some (r1, r2)) :
    Calls Try.prog 47 #[.int .i64 a0, .int .i64 a1, .int .i64 a2] w fun e w' => e = .returned (.tuple #[.int .i64 r1, .int .i64 r2]) ∧ Drawn0 w w' := by
  have H : (share_quotient.l0 k a0 a1 a2 0 0 0) = some (r1, r2) := h
  clear h
  have H' := Aside0.mk H
  clear H
  go_enter Try.func47, Try.ntmps47
  go_wp2
  go_loopg [6, 7, 9] k (fun kq v6 v7 v9 w' => ∃ (x6_1 : Int) (x7_1 : Int) (x9_1 : Int), v6 = .int .i64 x6_1 ∧ v7 = .int .i64 x7_1 ∧ v9 = .int .i64 x9_1 ∧ Aside0 (share_quotient.l0 kq a0 a1 a2 x6_1 x7_1 x9_1 = some (r1, r2)) ∧ Aside0 (kq ≤ k) ∧ Drawn0 w w')
  case atStart => exact ⟨(0), (0), (0), rf_, rf_, rf_, H', ⟨Nat.le_refl _⟩, by repeat (first | exact Drawn0.refl _ | apply Drawn0.step)⟩
  case round =>
    clear H'
    try clear p2
    obtain ⟨x6_1, x7_1, x9_1, rfl, rfl, rfl, HA, HK1, ⟨m1, rfl⟩⟩ := hrel
    cases gk with
    | zero => exact absurd HA.out (by simp [share_quotient.l0])
    | succ k1 =>
      have H := HA.out
      clear HA
      simp only [share_quotient.l0] at H
      by_cases c4 : x9_1 < 61
      · rw [if_pos c4] at H
        have c4b0 : decide (x9_1 < 61) = true := decide_eq_true c4
        clear c4
        obtain ⟨ji5, hji5⟩ : ∃ j_ : Int, (wrap64 (60 - x9_1)) = j_ := ⟨_, rfl⟩
        replace H : (if 0 ≤ (ji5) then (if (Go.bits .and .i64 (shr .i64 a1 (ji5)) 1) = 1 then (if a2 = 0 then (none) else (share_quotient.l0 k1 a0 a1 a2 (wrap64 ((wrap64 (2 * x6_1)) + (wrap64 (Int.tdiv (wrap64 ((wrap64 (2 * x7_1)) + a0)) a2)))) (Int.tmod (wrap64 ((wrap64 (2 * x7_1)) + a0)) a2) (wrap64 (x9_1 + 1)))) else (if a2 = 0 then (none) else (share_quotient.l0 k1 a0 a1 a2 (wrap64 ((wrap64 (2 * x6_1)) + (wrap64 (Int.tdiv (wrap64 (2 * x7_1)) a2)))) (Int.tmod (wrap64 (2 * x7_1)) a2) (wrap64 (x9_1 + 1))))) else (none)) = some (r1, r2) := by first | (rw [hji5] at H; exact H) | (simp only [hji5] at H ⊢; exact H)
        have hji5w : (IntKind.i64.wrap (60 - x9_1)) = ji5 := (i64_w _).trans hji5
        by_cases c6 : 0 ≤ (ji5)
        · rw [if_pos c6] at H
          have c6b0 := eq_true c6
          have c6b1 : decide (0 ≤ (ji5)) = true := decide_eq_true c6
          clear c6
          obtain ⟨ji7, hji7⟩ : ∃ j_ : Int, (shr .i64 a1 (ji5)) = j_ := ⟨_, rfl⟩
          replace H : (if (Go.bits .and .i64 (ji7) 1) = 1 then (if a2 = 0 then (none) else (share_quotient.l0 k1 a0 a1 a2 (wrap64 ((wrap64 (2 * x6_1)) + (wrap64 (Int.tdiv (wrap64 ((wrap64 (2 * x7_1)) + a0)) a2)))) (Int.tmod (wrap64 ((wrap64 (2 * x7_1)) + a0)) a2) (wrap64 (x9_1 + 1)))) else (if a2 = 0 then (none) else (share_quotient.l0 k1 a0 a1 a2 (wrap64 ((wrap64 (2 * x6_1)) + (wrap64 (Int.tdiv (wrap64 (2 * x7_1)) a2)))) (Int.tmod (wrap64 (2 * x7_1)) a2) (wrap64 (x9_1 + 1))))) = some (r1, r2) := by first | (rw [hji7] at H; exact H) | (simp only [hji7] at H ⊢; exact H)
          have hji7_ : (a1 / 2 ^ min (ji5).toNat 64) = ji7 := hji7
          have hji7z : (ji5) ≤ 64 → (a1 / 2 ^ (ji5).toNat) = ji7 := shr_small hji7
          by_cases c8 : (Go.bits .and .i64 (ji7) 1) = 1
          · rw [if_pos c8] at H
            have c8b0 : ((Go.bits .and .i64 (ji7) 1) == 1) = true := beq_iff_eq.mpr c8
            have c8b1 : ((Go.bits .and .i64 (ji7) 1) != 1) = false := bne_eq_false_iff_eq.mpr c8
            clear c8
            by_cases c9 : a2 = 0
            · rw [if_pos c9] at H
              exact absurd H (by simp)
            · rw [if_neg c9] at H
              have c9b0 : (a2 == 0) = false := beq_eq_false_iff_ne.mpr c9
              have c9b1 : (a2 != 0) = true := bne_iff_ne.mpr c9
              have H' := Aside0.mk H
              clear H
              go_wp2
              go_roundg k1
              case measure => have := HK1.out; omega
              case rel => exact ⟨(wrap64 ((wrap64 (2 * x6_1)) + (wrap64 (Int.tdiv (wrap64 ((wrap64 (2 * x7_1)) + a0)) a2)))), (Int.tmod (wrap64 ((wrap64 (2 * x7_1)) + a0)) a2), (wrap64 (x9_1 + 1)), (by first | rfl | (simp; done) | (simp [i64_w]; done) | (simp [*]; done)), (by first | rfl | (simp; done) | (simp [i64_w]; done) | (simp [*]; done)), (by first | rfl | (simp; done) | (simp [i64_w]; done) | (simp [*]; done)), H', ⟨by have := HK1.out; omega⟩, by repeat (first | exact Drawn0.refl _ | apply Drawn0.step)⟩
          · rw [if_neg c8] at H
            have c8b0 : ((Go.bits .and .i64 (ji7) 1) == 1) = false := beq_eq_false_iff_ne.mpr c8
            have c8b1 : ((Go.bits .and .i64 (ji7) 1) != 1) = true := bne_iff_ne.mpr c8
            by_cases c10 : a2 = 0
            · rw [if_pos c10] at H
              exact absurd H (by simp)
            · rw [if_neg c10] at H
              have c10b0 : (a2 == 0) = false := beq_eq_false_iff_ne.mpr c10
              have c10b1 : (a2 != 0) = true := bne_iff_ne.mpr c10
              have H' := Aside0.mk H
              clear H
              go_wp2
              go_roundg k1
              case measure => have := HK1.out; omega
              case rel => exact ⟨(wrap64 ((wrap64 (2 * x6_1)) + (wrap64 (Int.tdiv (wrap64 (2 * x7_1)) a2)))), (Int.tmod (wrap64 (2 * x7_1)) a2), (wrap64 (x9_1 + 1)), (by first | rfl | (simp; done) | (simp [i64_w]; done) | (simp [*]; done)), (by first | rfl | (simp; done) | (simp [i64_w]; done) | (simp [*]; done)), (by first | rfl | (simp; done) | (simp [i64_w]; done) | (simp [*]; done)), H', ⟨by have := HK1.out; omega⟩, by repeat (first | exact Drawn0.refl _ | apply Drawn0.step)⟩
        · rw [if_neg c6] at H
          exact absurd H (by simp)
      · rw [if_neg c4] at H
        have c4b0 : decide (x9_1 < 61) = false := decide_eq_false c4
        clear c4
        simp only [Option.some.injEq, Prod.mk.injEq] at H
        obtain ⟨rfl, rfl⟩ := H
        go_wp2
        go_ret2
        exact ⟨by first | rfl | (simp; done) | (simp [*]; done), by repeat (first | exact Drawn0.refl _ | apply Drawn0.step)⟩

/-! ### share_Split: function 27 -/
/-- The place of the first greatest of some numbers. -/
def share_top (l : List Int) : List Int → Nat → Nat → Nat
  | [], _, a => a
  | n :: r, i, a => share_top l r (i + 1) (if rd l a < n then i else a)
set_option maxHeartbeats 1600000 in
set_option maxRecDepth 100000 in
theorem share_top.calls (b : Nat) (A0 : Option Addr) (c0 : Nat) (l : List Int) (w : World) (hb : w.heap[b]? = some (.cells #[.slice A0 l.length c0] 67 (0, 0))) (hr : Kd.C (Kd.int .i64) w A0 l.length l) :
    Calls Try.prog 48 #[.pointer (some ⟨b, 0, none⟩)] w fun e w' => e = .returned (.int .i64 ((share_top l l 0 0 : Nat) : Int)) ∧ Below w.heap.size w w' := by
  have HR := Aside0.mk hr
  have hl := hr.2.1
  have HBX := Aside0.mk hb
  have hc : w.cell? ⟨b, 0, none⟩ = some (.slice A0 l.length c0) := (blk_cell hb 0).trans rfl
  have hltb := blk_lt hb
  generalize hv : share_top l l 0 0 = v
  have HV := Aside0.mk hv
  clear hv hr hb
  go_enter Try.func48, Try.ntmps48
  go_wp2
  go_loopg [2, 7] l.length (fun kq v2 v7 w' => ∃ (x a : Nat), v2 = .int .i64 (a : Int) ∧ v7 = .int .i64 (x : Int) ∧ kq + x = l.length ∧ (a < l.length ∨ l.length = 0) ∧ Aside0 (share_top l (l.drop x) x a = v) ∧ Aside0 (Below w.heap.size w w'))
  case atStart => exact ⟨0, 0, rfl, rfl, by omega, by omega, HV, ⟨Below.refl _ _⟩⟩
  case round =>
    clear HV
    obtain ⟨x, a, rfl, rfl, hx, ha, HA, HB⟩ := hrel
    have hsz := HB.out.size
    have hc1 := pw_cell_below HB.out hc
    clear hc
    by_cases hlt : x < l.length
    · obtain ⟨a0, ea0, h0⟩ := Kd.at_int HR.out (x : Int) (by omega) (by omega)
      obtain ⟨a1, ea1, h1⟩ := Kd.at_int HR.out (a : Int) (by omega) (by omega)
      cases ea0
      cases ea1
      simp only [Int.toNat_natCast] at h0 h1
      have h0 := pw_cell_below HB.out h0
      have h1 := pw_cell_below HB.out h1
      have hA := HA.out
      rw [List.drop_eq_getElem_cons hlt, show l[x] = rd l x by simp [rd, hlt], share_top] at hA
      clear HA
      have hd1 : decide ((x : Int) < (l.length : Int)) = true := decide_eq_true (by omega)
      by_cases hq : rd l a < rd l x
      · rw [if_pos hq] at hA
        have HA2 := Aside0.mk hA
        have hd2 : decide (rd l a < rd l x) = true := decide_eq_true hq
        clear hA hq
        go_wp2
        go_roundg (l.length - (x + 1))
        case measure => omega
        case rel => exact ⟨x + 1, x, rfl, by go_num, by omega, by omega, HA2, HB⟩
      · rw [if_neg hq] at hA
        have HA2 := Aside0.mk hA
        have hd2 : decide (rd l a < rd l x) = false := decide_eq_false hq
        clear hA hq
        go_wp2
        go_roundg (l.length - (x + 1))
        case measure => omega
        case rel => exact ⟨x + 1, a, rfl, by go_num, by omega, by omega, HA2, HB⟩
    · have hA := HA.out
      rw [List.drop_eq_nil_of_le (by omega), share_top] at hA
      subst hA
      have hd : decide ((x : Int) < (l.length : Int)) = false := by simp; omega
      clear HA
      go_wp2
      go_ret
      exact ⟨rfl, HB.out⟩
/-- Parts, rests, and what is left, weight by weight. -/
def share_Split.q (k : Nat) (total all : Int) : List Int → List Int → List Int → Int → Option (List Int × List Int × Int)
  | [], p, r, n => some (p, r, n)
  | w :: t, p, r, n => (share_quotient.f k total w all).bind fun x => if p.length < 1000000 then share_Split.q k total all t (p ++ [x.1]) (r.set p.length x.2) (wrap64 (n - x.1)) else none
/-- What is left goes to the greatest rests. -/
def share_Split.go : Nat → List Int → List Int → Option (List Int)
  | 0, p, _ => some p
  | n + 1, p, r => if share_top r r 0 0 < p.length ∧ p.length = r.length then share_Split.go n (p.set (share_top r r 0 0) (wrap64 (rd p (share_top r r 0 0) + 1))) (r.set (share_top r r 0 0) (-1)) else none
def share_Split.f (k : Nat) (a0 : Int) (l1 : List Int) : Option (List Int × Int) :=
  (share_money.f a0).bind fun b => if b = true then ((share_weighed.f k l1).bind fun x => if x.2 = 0 then (if x.1 = 0 then some ([], 26) else (if 0 < l1.length ∧ l1.length < 1000000 then ((share_Split.q k a0 x.1 l1 [] (List.replicate l1.length 0) a0).bind fun y => if y.2.2 < 4611686018427387904 then ((share_Split.go y.2.2.toNat y.1 y.2.1).bind fun p => some (p, 0)) else none) else none)) else some ([], x.2)) else some ([], 2)
theorem share_Split.mono_q (k : Nat) (total all : Int) (l : List Int) : ∀ p r n, LeO (share_Split.q k total all l p r n) (share_Split.q (k + 1) total all l p r n) := by
  induction l with
  | nil => intro p r n; exact LeO.refl _
  | cons w t ih =>
    intro p r n
    unfold share_Split.q
    exact LeO.bind (share_quotient.mono _ _ _ _) (fun x => LeO.ite (ih _ _ _) (LeO.refl _))
theorem share_Split.mono : ∀ a0 a1 k, LeO (share_Split.f k a0 a1) (share_Split.f (k + 1) a0 a1) := by
  intro a0 a1 k
  unfold share_Split.f
  exact LeO.bind (LeO.refl _) (fun b => LeO.ite (LeO.bind (share_weighed.mono _ _) (fun x => LeO.ite (LeO.ite (LeO.refl _) (LeO.ite (LeO.bind (share_Split.mono_q _ _ _ _ _ _ _) (fun y => LeO.refl _)) (LeO.refl _))) (LeO.refl _))) (LeO.refl _))
set_option maxHeartbeats 3200000 in
set_option maxRecDepth 100000 in
theorem share_Split.calls (k : Nat) (a0 : Int) (A1 : Option Addr) (c1 : Nat) (l1 : List Int) (r1 : List Int) (r2 : Int) (w : World) (hr1 : Kd.C (Kd.int .i64) w A1 l1.length l1) (hc1 : l1.length ≤ c1) (h : share_Split.f k a0 l1 = some (r1, r2)) :
    Calls Try.prog 27 #[.int .i64 a0, .slice A1 l1.length c1] w fun e w' => ∃ v0_ : Value, e = .returned (.tuple #[v0_, .int .i64 r2]) ∧ Kd.R (Kd.int .i64) 3 w' w.heap.size (fun _ => True) v0_ r1 ∧ Below w.heap.size w w' := by
  have HR1 := Aside0.mk hr1
  have hl1 := hr1.2.1
  have HC1 := Aside0.mk hc1
  obtain ⟨b0, hM, h⟩ := Option.bind_eq_some_iff.mp h
  have HM := Aside0.mk hM
  clear hr1 hc1 hM
  cases b0 with
  | false =>
    rw [if_neg (by decide)] at h
    have h2 := Option.some.inj h
    simp only [Prod.mk.injEq] at h2
    obtain ⟨rfl, rfl⟩ := h2
    clear h
    go_enter Try.func27, Try.ntmps27
    go_wp2_with (go_at_call 45; refine (share_money.calls a0 false _ HM.out).mono ?_; rintro _ w1 ⟨rfl, hb⟩; have HB := Aside0.mk hb.below; clear hb)
    go_ret2
    exact ⟨_, rfl, Kd.R_nil _ _ _ _ _, HB.out⟩
  | true =>
    rw [if_pos rfl] at h
    obtain ⟨⟨al, e1⟩, hW, h⟩ := Option.bind_eq_some_iff.mp h
    have HW := Aside0.mk hW
    clear hW
    simp only at h
    by_cases he : e1 = 0
    case neg =>
      rw [if_neg he] at h
      have h2 := Option.some.inj h
      simp only [Prod.mk.injEq] at h2
      obtain ⟨rfl, rfl⟩ := h2
      have h0b : (e1 == 0) = false := beq_eq_false_iff_ne.mpr he
      have h1b : (e1 != 0) = true := bne_iff_ne.mpr he
      clear h he
      go_enter Try.func27, Try.ntmps27
      go_wp2_with (first | (go_at_call 45; refine (share_money.calls a0 true _ HM.out).mono ?_; rintro _ w1 ⟨rfl, hb⟩; have HB := Aside0.mk hb.below; clear hb) | (go_at_call 46; refine (share_weighed.calls k A1 c1 l1 al e1 _ (Kd.C_below HR1.out HB.out) HC1.out HW.out).mono ?_; rintro _ w2 ⟨rfl, hb⟩; have HB2 := Aside0.mk (below_step HB.out hb.below); clear hb))
      go_ret2
      exact ⟨_, rfl, Kd.R_nil _ _ _ _ _, HB2.out⟩
    subst he
    rw [if_pos rfl] at h
    by_cases ha : al = 0
    case pos =>
      subst ha
      rw [if_pos rfl] at h
      have h2 := Option.some.inj h
      simp only [Prod.mk.injEq] at h2
      obtain ⟨rfl, rfl⟩ := h2
      clear h
      go_enter Try.func27, Try.ntmps27
      go_wp2_with (first | (go_at_call 45; refine (share_money.calls a0 true _ HM.out).mono ?_; rintro _ w1 ⟨rfl, hb⟩; have HB := Aside0.mk hb.below; clear hb) | (go_at_call 46; refine (share_weighed.calls k A1 c1 l1 0 0 _ (Kd.C_below HR1.out HB.out) HC1.out HW.out).mono ?_; rintro _ w2 ⟨rfl, hb⟩; have HB2 := Aside0.mk (below_step HB.out hb.below); clear hb))
      go_ret2
      exact ⟨_, rfl, Kd.R_nil _ _ _ _ _, HB2.out⟩
    rw [if_neg ha] at h
    by_cases hln : 0 < l1.length ∧ l1.length < 1000000
    case neg => rw [if_neg hln] at h; cases h
    rw [if_pos hln] at h
    obtain ⟨hln0, hln1⟩ := hln
    obtain ⟨⟨ps, rs, lf⟩, hQ, h⟩ := Option.bind_eq_some_iff.mp h
    by_cases hlf : lf < 4611686018427387904
    case neg => simp only at h; rw [if_neg hlf] at h; cases h
    simp only at h
    rw [if_pos hlf] at h
    obtain ⟨pp, hG, h⟩ := Option.bind_eq_some_iff.mp h
    have h2 := Option.some.inj h
    simp only [Prod.mk.injEq] at h2 hG hQ
    obtain ⟨rfl, rfl⟩ := h2
    have HQ := Aside0.mk hQ
    have HG := Aside0.mk hG
    have ha0 : (al == 0) = false := beq_eq_false_iff_ne.mpr ha
    have ha1 : (al != 0) = true := bne_iff_ne.mpr ha
    clear h hQ hG ha
    go_enter Try.func27, Try.ntmps27
    go_wp2_with (first | (go_at_call 45; refine (share_money.calls a0 true _ HM.out).mono ?_; rintro _ w1 ⟨rfl, hb⟩; have HB := Aside0.mk hb.below; clear hb) | (go_at_call 46; refine (share_weighed.calls k A1 c1 l1 al 0 _ (Kd.C_below HR1.out HB.out) HC1.out HW.out).mono ?_; rintro _ w2 ⟨rfl, hb⟩; have HB2 := Aside0.mk (below_step HB.out hb.below); clear hb) | ((with_reducible refine gate_dst (N := 30) rfl ?_); refine Kd.R_make (Kd.int .i64) (w0 := w) w.heap.size 3 rfl (N := 30) rfl 67 _ _ rfl (l1.length : Int) rfl rfl Try.underlying67 (.int .i64 0) 8 info3 rfl (by decide) (by omega) 0 (okp := fun _ => False) (ok := fun k_ => w2.heap.size ≤ k_) rfl (fun _ hk => hk.elim) (Nat.le_refl _) (by omega) (by omega) HB2.out HB2.out.size ?_; intro v30 w5 hR hb hg hnew; obtain ⟨g30, c30, e30, hgb, hgl, _⟩ := Kd.R_form hR (by simp; omega); subst e30; have HR := Aside0.mk hR; have HB5 := Aside0.mk hb; clear hR hb hg hnew))
    go_loopg [4, 8, 34] l1.length (fun kq v4 v8 v34 w' => ∃ (x : Nat) (p r : List Int) (n : Int), v34 = .int .i64 (x : Int) ∧ v8 = .int .i64 n ∧ kq + x = l1.length ∧ p.length = x ∧ r.length = l1.length ∧ Aside0 (share_Split.q k a0 al (l1.drop x) p r n = some (ps, rs, lf)) ∧ Aside0 (Kd.R (Kd.int .i64) 3 w' w.heap.size (fun k_ => k_ ≠ g30) v4 p) ∧ Aside0 (Kd.R (Kd.int .i64) 3 w' w.heap.size (fun k_ => w2.heap.size ≤ k_) (.slice (some ⟨g30, 0, none⟩) l1.length c30) r) ∧ Aside0 (w'.heap[w5.heap.size]? = some (.cells #[.slice (some ⟨g30, 0, none⟩) l1.length c30] 67 (0, 0))) ∧ Aside0 (Below w.heap.size w w'))
    case atStart => exact ⟨0, [], List.replicate l1.length 0, a0, rfl, rfl, by omega, rfl, by simp, HQ, ⟨Kd.R_nil _ _ _ _ _⟩, ⟨by have := Kd.R_alloc HR.out (.cells #[.slice (some ⟨g30, 0, none⟩) l1.length c30] 67 (0, 0)); simpa using this⟩, ⟨blk_new _ _⟩, ⟨HB5.out.alloc HB5.out.size _⟩⟩
    case round =>
      clear HQ HR HB5
      obtain ⟨x, p, r, n, rfl, rfl, hx, hp, hrl, HA, HP, HRS, HBX, HB⟩ := hrel
      have HPL := Aside0.mk hp
      have HRL := Aside0.mk hrl
      have hsz := HB.out.size
      have HGR := Aside0.mk (Kd.R_lt HRS.out g30 rfl)
      clear hp hrl
      by_cases hlt : x < l1.length
      · obtain ⟨ea, ead, h0⟩ := Kd.at_int (Kd.C_below HR1.out HB.out) (x : Int) (by omega) (by omega)
        cases ead
        simp only [Int.toNat_natCast] at h0
        have hA := HA.out
        rw [List.drop_eq_getElem_cons hlt, show l1[x] = rd l1 x by simp [rd, hlt], share_Split.q] at hA
        clear HA
        obtain ⟨⟨q1, q2⟩, hQ1, hA⟩ := Option.bind_eq_some_iff.mp hA
        simp only at hA
        have HQ1 := Aside0.mk hQ1
        by_cases hln : p.length < 1000000
        case neg => rw [if_neg hln] at hA; cases hA
        rw [if_pos hln, HPL.out] at hA
        have HA2 := Aside0.mk hA
        have HLN : Aside0 ((p.length + 1) * 8 ≤ 140737488355328) := ⟨by omega⟩
        clear hA hln hQ1
        have hd1 : decide ((x : Int) < (l1.length : Int)) = true := decide_eq_true (by omega)
        go_wp2_with (first | (go_at_call 47; refine (share_quotient.calls k a0 (rd l1 x) al q1 q2 _ HQ1.out).mono ?_; rintro _ w6 ⟨rfl, hd⟩; have HP6 := Aside0.mk (Kd.R_below HP.out hd.below); have HRS6 := Aside0.mk (Kd.R_below HRS.out hd.below); have HBX6 := Aside0.mk (blk_below HBX.out hd.below); have HB6 := Aside0.mk (below_step HB.out hd.below); have HG6 := Aside0.mk (Nat.lt_of_lt_of_le HGR.out hd.below.size); clear hd) | ((with_reducible refine gate_builtin (b := .append) (xs := #[.tmp 46, .tmp 48]) rfl ?_); at_builtin; refine Kd.R_append (Kd.int .i64) (w0 := w) w.heap.size rfl (.tmp 46) (.tmp 48) 67 3 (.int .i64 0) 8 rfl Try.underlying67 info3 rfl (by decide) (by decide) u4 p q1 [.int .i64 q1] (fun k_ => k_ ≠ g30) (fun _ => False) rfl ?aX ?aP (fun _ hk => hk.elim) (fun k_ hk => Nat.ne_of_gt (Nat.lt_of_lt_of_le HG6.out hk)) HP6.out HB6.out HB6.out.size ?aL ?_; (case aX => rfl); (case aP => rfl); (case aL => exact HLN.out); intro v9 w9 ho hb9 hg9 _; have HP9 := Aside0.mk ho; have HB9 := Aside0.mk hb9; have HRS9 := Aside0.mk (Kd.R_grown2 HRS6.out rfl hg9 (fun k_ hk he => HP6.out.1 k_ hk (Option.some.inj he))); have HBX9 := Aside0.mk (blk_grown HBX6.out hg9 (Kd.R_ne HP6.out HBX6.out (by decide))); clear ho hb9 hg9; have hcB : w9.cell? ⟨w5.heap.size, 0, none⟩ = some (.slice (some ⟨g30, 0, none⟩) l1.length c30) := (blk_cell HBX9.out 0).trans rfl; have hltB := blk_lt HBX9.out; obtain ⟨hcl, hfz⟩ := Kd.R_celln (0 : Int) HRS9.out (x : Int) (by omega) (by omega); simp only [Int.toNat_natCast] at hcl hfz))
        go_roundg (l1.length - (x + 1))
        case measure => omega
        case rel => exact ⟨x + 1, p ++ [q1], r.set x q2, _, by go_num, rfl, by omega, by have := HPL.out; simp; omega, by have := HRL.out; simpa using this, HA2, ⟨Kd.R_far HP9.out (p := ⟨g30, x, none⟩) (fun _ hk => hk) _⟩, ⟨by have := (Kd.R_putg HRS9.out (x : Int) q2).1; simp only [Int.toNat_natCast] at this; exact this⟩, ⟨blk_far HBX9.out (p := ⟨g30, x, none⟩) (Nat.ne_of_gt hgl) _⟩, ⟨below_set HB9.out hgb⟩⟩
      · have hxe : x = l1.length := by omega
        have hA := HA.out
        rw [List.drop_eq_nil_of_le (by omega), share_Split.q] at hA
        have hA2 := Option.some.inj hA
        simp only [Prod.mk.injEq] at hA2
        obtain ⟨rfl, rfl, rfl⟩ := hA2
        have hd : decide ((x : Int) < (l1.length : Int)) = false := decide_eq_false (by omega)
        have hpl := HPL.out
        obtain ⟨gp, cp, ep, hpb, hplt, _⟩ := Kd.R_form HP.out (by omega)
        rw [hpl, hxe] at ep
        subst ep
        have HLN : Aside0 (p.length = l1.length) := ⟨hpl.trans hxe⟩
        have hne : gp ≠ g30 := HP.out.1 gp rfl
        have HNE := Aside0.mk hne
        have HP2 := Aside0.mk (Kd.R_reok (ok := fun k_ => k_ ≠ g30) rfl HP.out (fun k_ hk => HP.out.1 k_ hk))
        have HRS2 := Aside0.mk (Kd.R_reok (ok := fun k_ => k_ ≠ gp) rfl HRS.out (fun k_ hk => by cases hk; exact fun e_ => HNE.out e_.symm))
        have HGL2 := Aside0.mk hgl
        have hbp := blk_lt HBX.out
        have HNB : Aside0 (w5.heap.size ≠ gp) := ⟨fun e_ => by
          have := Kd.R_ne HP.out HBX.out (by decide)
          exact this (by rw [e_]; rfl)⟩
        clear hA HA hxe hpl hne HPL HRS HP
        go_wp2
        go_loopg [60] n.toNat (fun kq v60 w' => ∃ (j : Nat) (s t : List Int), v60 = .int .i64 (j : Int) ∧ kq + j = n.toNat ∧ Aside0 (s.length = l1.length) ∧ Aside0 (t.length = l1.length) ∧ Aside0 (share_Split.go kq s t = some pp) ∧ Aside0 (Kd.R (Kd.int .i64) 3 w' w.heap.size (fun k_ => k_ ≠ g30) (.slice (some ⟨gp, 0, none⟩) l1.length cp) s) ∧ Aside0 (Kd.R (Kd.int .i64) 3 w' w.heap.size (fun k_ => k_ ≠ gp) (.slice (some ⟨g30, 0, none⟩) l1.length c30) t) ∧ Aside0 (w'.heap[w5.heap.size]? = some (.cells #[.slice (some ⟨g30, 0, none⟩) l1.length c30] 67 (0, 0))) ∧ Aside0 (Below w.heap.size w w'))
        case atStart => exact ⟨0, p, r, rfl, by omega, HLN, HRL, HG, HP2, HRS2, HBX, HB⟩
        case round =>
          clear HP2 HRS2 HBX HB HLN HRL HG hplt hgl hsz hbp
          obtain ⟨j, s, t, rfl, hj, HSL, HTL, HG, HP, HRS, HBX, HB⟩ := hrel
          cases gk with
          | zero =>
            have hG := HG.out
            rw [share_Split.go] at hG
            obtain rfl := Option.some.inj hG
            have hd2 : decide ((j : Int) < n) = false := decide_eq_false (by omega)
            clear hG HG
            go_wp2
            go_ret2
            exact ⟨_, rfl, Kd.R_mono HP.out (fun _ _ => trivial), HB.out⟩
          | succ m =>
            have hG := HG.out
            rw [share_Split.go] at hG
            by_cases hc : share_top t t 0 0 < s.length ∧ s.length = t.length
            case neg => rw [if_neg hc] at hG; cases hG
            rw [if_pos hc] at hG
            have hat : share_top t t 0 0 < l1.length := by have := HSL.out; omega
            have HTOP : Aside0 (w5.heap.size ≠ g30) := ⟨Nat.ne_of_gt HGL2.out⟩
            have HBX2 : Aside0 (wr.heap[w5.heap.size]? = some (.cells #[.slice (some ⟨g30, 0, none⟩) t.length c30] 67 (0, 0))) := ⟨by rw [HTL.out]; exact HBX.out⟩
            have HRD : Aside0 (Kd.C (Kd.int .i64) wr (some ⟨g30, 0, none⟩) t.length t) := ⟨(Kd.R_reads' HRS.out).2.2⟩
            have HG2 := Aside0.mk hG
            have hd2 : decide ((j : Int) < n) = true := decide_eq_true (by omega)
            clear hG HG hc
            go_wp2_with (go_at_call 48; refine (share_top.calls w5.heap.size (some ⟨g30, 0, none⟩) c30 t _ HBX2.out HRD.out).mono ?_; rintro _ w7 ⟨rfl, hb⟩; generalize share_top t t 0 0 = tp at *; have HP7 := Aside0.mk (Kd.R_below HP.out hb); have HRS7 := Aside0.mk (Kd.R_below HRS.out hb); have HBX7 := Aside0.mk (blk_below HBX.out hb); have HB7 := Aside0.mk (below_step HB.out hb); clear hb; obtain ⟨hcl, hfz⟩ := Kd.R_celln (0 : Int) HP7.out (tp : Int) (by omega) (by omega); simp only [Int.toNat_natCast] at hcl hfz; obtain ⟨hcl2, hfz2⟩ := Kd.R_celln (0 : Int) HRS7.out (tp : Int) (by omega) (by omega); simp only [Int.toNat_natCast] at hcl2 hfz2; have hcB : w7.cell? ⟨w5.heap.size, 0, none⟩ = some (.slice (some ⟨g30, 0, none⟩) l1.length c30) := (blk_cell HBX7.out 0).trans rfl; have hltB := blk_lt HBX7.out; have hq1 : w5.heap.size ≠ gp := HNB.out; have hq2 : g30 ≠ gp := fun e_ => HNE.out e_.symm)
            go_roundg m
            case measure => omega
            case rel => exact ⟨j + 1, s.set tp (wrap64 (rd s tp + 1)), t.set tp (-1), by go_num, by omega, ⟨by rw [List.length_set]; exact HSL.out⟩, ⟨by rw [List.length_set]; exact HTL.out⟩, HG2, ⟨by
              have h1 := (Kd.R_putg HP7.out (tp : Int) (wrap64 (rd s tp + 1))).1
              simp only [Int.toNat_natCast] at h1
              exact Kd.R_far h1 (p := ⟨g30, tp, none⟩) (fun _ hk => hk) _⟩, ⟨by
              have h1 := Kd.R_far HRS7.out (p := ⟨gp, tp, none⟩) (fun _ hk => hk) (.int .i64 (wrap64 (rd s tp + 1)))
              have h2 := (Kd.R_putg h1 (tp : Int) (-1)).1
              simp only [Int.toNat_natCast] at h2
              exact h2⟩, ⟨blk_far (blk_far HBX7.out (p := ⟨gp, tp, none⟩) HNB.out _) (p := ⟨g30, tp, none⟩) HTOP.out _⟩, ⟨below_set (below_set HB7.out hpb) hgb⟩⟩

/-! ### cmp_isNaN_string: function 67 -/
def cmp_isNaN_string.f (a0 : ByteArray) : Option (Bool) := some (a0.toList != a0.toList)
set_option maxHeartbeats 8000000 in
set_option maxRecDepth 100000 in
theorem cmp_isNaN_string.calls (a0 : ByteArray) (r : Bool) (w : World) (h : cmp_isNaN_string.f a0 = some r) :
    Calls Try.prog 67 #[.string a0] w fun e w' => e = .returned (.bool r) ∧ Drawn0 w w' := by
  have H : (some (a0.toList != a0.toList)) = some r := h
  clear h
  obtain rfl := Option.some.inj H
  go_enter Try.func67, Try.ntmps67
  go_wp2
  go_ret
  exact ⟨by first | rfl | (simp; done) | (simp [*]; done), by repeat (first | exact Drawn0.refl _ | apply Drawn0.step)⟩

/-! ### cmp_Compare_string: function 64 -/
def cmp_Compare_string.f (a0 : ByteArray) (a1 : ByteArray) : Option (Int) := (cmp_isNaN_string.f a0).bind fun t107 => ((cmp_isNaN_string.f a1).bind fun t108 => (if t107 = true then (if t108 = true then (some 0) else (some (-1))) else (if t108 = true then (some 1) else (if (Op.bytesLess a0.toList a1.toList) = true then (some (-1)) else (if (Op.bytesLess a1.toList a0.toList) = true then (some 1) else (some 0))))))
set_option maxHeartbeats 8000000 in
set_option maxRecDepth 100000 in
theorem cmp_Compare_string.calls (a0 : ByteArray) (a1 : ByteArray) (r : Int) (w : World) (h : cmp_Compare_string.f a0 a1 = some r) :
    Calls Try.prog 64 #[.string a0, .string a1] w fun e w' => e = .returned (.int .i64 r) ∧ Drawn0 w w' := by
  have H : ((cmp_isNaN_string.f a0).bind fun t107 => ((cmp_isNaN_string.f a1).bind fun t108 => (if t107 = true then (if t108 = true then (some 0) else (some (-1))) else (if t108 = true then (some 1) else (if (Op.bytesLess a0.toList a1.toList) = true then (some (-1)) else (if (Op.bytesLess a1.toList a0.toList) = true then (some 1) else (some 0))))))) = some r := h
  clear h
  replace H := Option.bind_eq_some_iff.mp H
  obtain ⟨t107, A30, H⟩ := H
  replace H : ((cmp_isNaN_string.f a1).bind fun t108 => (if t107 = true then (if t108 = true then (some 0) else (some (-1))) else (if t108 = true then (some 1) else (if (Op.bytesLess a0.toList a1.toList) = true then (some (-1)) else (if (Op.bytesLess a1.toList a0.toList) = true then (some 1) else (some 0)))))) = some r := H
  have A3 := Aside0.mk A30
  clear A30
  replace H := Option.bind_eq_some_iff.mp H
  obtain ⟨t108, A40, H⟩ := H
  replace H : (if t107 = true then (if t108 = true then (some 0) else (some (-1))) else (if t108 = true then (some 1) else (if (Op.bytesLess a0.toList a1.toList) = true then (some (-1)) else (if (Op.bytesLess a1.toList a0.toList) = true then (some 1) else (some 0))))) = some r := H
  have A4 := Aside0.mk A40
  clear A40
  by_cases c5 : t107 = true
  · subst c5
    have H1 : (if t108 = true then (some 0) else (some (-1))) = some r := by rw [if_pos rfl] at H; exact H
    clear H
    have H := H1
    clear H1
    by_cases c6 : t108 = true
    · subst c6
      have H1 : (some 0) = some r := by rw [if_pos rfl] at H; exact H
      clear H
      have H := H1
      clear H1
      obtain rfl := Option.some.inj H
      go_enter Try.func64, Try.ntmps64
      go_wp2_with (first | ((with_reducible refine gate_callee (f := 67) rfl ?_); refine goesL_ (some 8) rfl rfl Try.func67 (by kernel_rfl) rfl #[.string a0] rfl pm_ ?_; (with_reducible refine (cmp_isNaN_string.calls a0 true _ A3.out).mono ?_); rintro e w' ⟨rfl, ⟨nd, rfl⟩⟩; refine ⟨_, rfl, ?_⟩) | ((with_reducible refine gate_callee (f := 67) rfl ?_); refine goesL_ (some 10) rfl rfl Try.func67 (by kernel_rfl) rfl #[.string a1] rfl pm_ ?_; (with_reducible refine (cmp_isNaN_string.calls a1 true _ A4.out).mono ?_); rintro e w' ⟨rfl, ⟨nd, rfl⟩⟩; refine ⟨_, rfl, ?_⟩))
      go_ret
      exact ⟨by first | rfl | (simp; done) | (simp [*]; done), by repeat (first | exact Drawn0.refl _ | apply Drawn0.step)⟩
    · replace c6 := Bool.eq_false_iff.mpr c6
      subst c6
      have H1 : (some (-1)) = some r := by rw [if_neg (show ¬ (false = true) by decide)] at H; exact H
      clear H
      have H := H1
      clear H1
      obtain rfl := Option.some.inj H
      go_enter Try.func64, Try.ntmps64
      go_wp2_with (first | ((with_reducible refine gate_callee (f := 67) rfl ?_); refine goesL_ (some 8) rfl rfl Try.func67 (by kernel_rfl) rfl #[.string a0] rfl pm_ ?_; (with_reducible refine (cmp_isNaN_string.calls a0 true _ A3.out).mono ?_); rintro e w' ⟨rfl, ⟨nd, rfl⟩⟩; refine ⟨_, rfl, ?_⟩) | ((with_reducible refine gate_callee (f := 67) rfl ?_); refine goesL_ (some 10) rfl rfl Try.func67 (by kernel_rfl) rfl #[.string a1] rfl pm_ ?_; (with_reducible refine (cmp_isNaN_string.calls a1 false _ A4.out).mono ?_); rintro e w' ⟨rfl, ⟨nd, rfl⟩⟩; refine ⟨_, rfl, ?_⟩))
      go_ret
      exact ⟨by first | rfl | (simp; done) | (simp [*]; done), by repeat (first | exact Drawn0.refl _ | apply Drawn0.step)⟩
  · replace c5 := Bool.eq_false_iff.mpr c5
    subst c5
    have H1 : (if t108 = true then (some 1) else (if (Op.bytesLess a0.toList a1.toList) = true then (some (-1)) else (if (Op.bytesLess a1.toList a0.toList) = true then (some 1) else (some 0)))) = some r := by rw [if_neg (show ¬ (false = true) by decide)] at H; exact H
    clear H
    have H := H1
    clear H1
    by_cases c7 : t108 = true
    · subst c7
      have H1 : (some 1) = some r := by rw [if_pos rfl] at H; exact H
      clear H
      have H := H1
      clear H1
      obtain rfl := Option.some.inj H
      go_enter Try.func64, Try.ntmps64
      go_wp2_with (first | ((with_reducible refine gate_callee (f := 67) rfl ?_); refine goesL_ (some 8) rfl rfl Try.func67 (by kernel_rfl) rfl #[.string a0] rfl pm_ ?_; (with_reducible refine (cmp_isNaN_string.calls a0 false _ A3.out).mono ?_); rintro e w' ⟨rfl, ⟨nd, rfl⟩⟩; refine ⟨_, rfl, ?_⟩) | ((with_reducible refine gate_callee (f := 67) rfl ?_); refine goesL_ (some 10) rfl rfl Try.func67 (by kernel_rfl) rfl #[.string a1] rfl pm_ ?_; (with_reducible refine (cmp_isNaN_string.calls a1 true _ A4.out).mono ?_); rintro e w' ⟨rfl, ⟨nd, rfl⟩⟩; refine ⟨_, rfl, ?_⟩))
      go_ret
      exact ⟨by first | rfl | (simp; done) | (simp [*]; done), by repeat (first | exact Drawn0.refl _ | apply Drawn0.step)⟩
    · replace c7 := Bool.eq_false_iff.mpr c7
      subst c7
      have H1 : (if (Op.bytesLess a0.toList a1.toList) = true then (some (-1)) else (if (Op.bytesLess a1.toList a0.toList) = true then (some 1) else (some 0))) = some r := by rw [if_neg (show ¬ (false = true) by decide)] at H; exact H
      clear H
      have H := H1
      clear H1
      by_cases c8 : (Op.bytesLess a0.toList a1.toList) = true
      · rw [if_pos c8] at H
        have c8b0 : (Op.bytesLess a0.toList a1.toList) = true := c8
        clear c8
        obtain rfl := Option.some.inj H
        go_enter Try.func64, Try.ntmps64
        go_wp2_with (first | ((with_reducible refine gate_callee (f := 67) rfl ?_); refine goesL_ (some 8) rfl rfl Try.func67 (by kernel_rfl) rfl #[.string a0] rfl pm_ ?_; (with_reducible refine (cmp_isNaN_string.calls a0 false _ A3.out).mono ?_); rintro e w' ⟨rfl, ⟨nd, rfl⟩⟩; refine ⟨_, rfl, ?_⟩) | ((with_reducible refine gate_callee (f := 67) rfl ?_); refine goesL_ (some 10) rfl rfl Try.func67 (by kernel_rfl) rfl #[.string a1] rfl pm_ ?_; (with_reducible refine (cmp_isNaN_string.calls a1 false _ A4.out).mono ?_); rintro e w' ⟨rfl, ⟨nd, rfl⟩⟩; refine ⟨_, rfl, ?_⟩))
        go_ret
        exact ⟨by first | rfl | (simp; done) | (simp [*]; done), by repeat (first | exact Drawn0.refl _ | apply Drawn0.step)⟩
      · rw [if_neg c8] at H
        have c8b0 : (Op.bytesLess a0.toList a1.toList) = false := by simpa using c8
        clear c8
        by_cases c9 : (Op.bytesLess a1.toList a0.toList) = true
        · rw [if_pos c9] at H
          have c9b0 : (Op.bytesLess a1.toList a0.toList) = true := c9
          clear c9
          obtain rfl := Option.some.inj H
          go_enter Try.func64, Try.ntmps64
          go_wp2_with (first | ((with_reducible refine gate_callee (f := 67) rfl ?_); refine goesL_ (some 8) rfl rfl Try.func67 (by kernel_rfl) rfl #[.string a0] rfl pm_ ?_; (with_reducible refine (cmp_isNaN_string.calls a0 false _ A3.out).mono ?_); rintro e w' ⟨rfl, ⟨nd, rfl⟩⟩; refine ⟨_, rfl, ?_⟩) | ((with_reducible refine gate_callee (f := 67) rfl ?_); refine goesL_ (some 10) rfl rfl Try.func67 (by kernel_rfl) rfl #[.string a1] rfl pm_ ?_; (with_reducible refine (cmp_isNaN_string.calls a1 false _ A4.out).mono ?_); rintro e w' ⟨rfl, ⟨nd, rfl⟩⟩; refine ⟨_, rfl, ?_⟩))
          go_ret
          exact ⟨by first | rfl | (simp; done) | (simp [*]; done), by repeat (first | exact Drawn0.refl _ | apply Drawn0.step)⟩
        · rw [if_neg c9] at H
          have c9b0 : (Op.bytesLess a1.toList a0.toList) = false := by simpa using c9
          clear c9
          obtain rfl := Option.some.inj H
          go_enter Try.func64, Try.ntmps64
          go_wp2_with (first | ((with_reducible refine gate_callee (f := 67) rfl ?_); refine goesL_ (some 8) rfl rfl Try.func67 (by kernel_rfl) rfl #[.string a0] rfl pm_ ?_; (with_reducible refine (cmp_isNaN_string.calls a0 false _ A3.out).mono ?_); rintro e w' ⟨rfl, ⟨nd, rfl⟩⟩; refine ⟨_, rfl, ?_⟩) | ((with_reducible refine gate_callee (f := 67) rfl ?_); refine goesL_ (some 10) rfl rfl Try.func67 (by kernel_rfl) rfl #[.string a1] rfl pm_ ?_; (with_reducible refine (cmp_isNaN_string.calls a1 false _ A4.out).mono ?_); rintro e w' ⟨rfl, ⟨nd, rfl⟩⟩; refine ⟨_, rfl, ?_⟩))
          go_ret
          exact ⟨by first | rfl | (simp; done) | (simp [*]; done), by repeat (first | exact Drawn0.refl _ | apply Drawn0.step)⟩

/-! ### cmp_isNaN_int: function 68 -/
def cmp_isNaN_int.f (a0 : Int) : Option (Bool) := some (a0 != a0)
set_option maxHeartbeats 8000000 in
set_option maxRecDepth 100000 in
theorem cmp_isNaN_int.calls (a0 : Int) (r : Bool) (w : World) (h : cmp_isNaN_int.f a0 = some r) :
    Calls Try.prog 68 #[.int .i64 a0] w fun e w' => e = .returned (.bool r) ∧ Drawn0 w w' := by
  have H : (some (a0 != a0)) = some r := h
  clear h
  obtain rfl := Option.some.inj H
  go_enter Try.func68, Try.ntmps68
  go_wp2
  go_ret
  exact ⟨by first | rfl | (simp; done) | (simp [*]; done), by repeat (first | exact Drawn0.refl _ | apply Drawn0.step)⟩

end Go.Proofs.Ytjmkdmbgldcleaa.PTearWorth
