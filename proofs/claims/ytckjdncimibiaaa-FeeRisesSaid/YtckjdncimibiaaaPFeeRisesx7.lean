-- Written by a program of this session's (a turned copy of the kit's print, with functions proved by hand).
import Derived.Test.YtckjdncimibiaaaPFeeRisesx0
import Derived.Test.YtckjdncimibiaaaPFeeRisesx4
import Derived.Test.YtckjdncimibiaaaPFeeRisesx5
import Derived.Test.YtckjdncimibiaaaPFeeRisesx6
namespace Go.Proofs.Ytckjdncimibiaaa.PFeeRises
open Go.RowKit Go.Proofs.YtckjdncimibiaaaW.PrintWords Go.Proofs.YtckjdncimibiaaaW.PrintLast Go.Proofs.YtckjdncimibiaaaW.PrintMore
attribute [local go_sem] max2_int min2_int max_two min_two max_three min_three max_four min_four Go.Proofs.YtckjdncimibiaaaHand.run_leq_str Go.Proofs.YtckjdncimibiaaaHand.run_gtr_str Go.Proofs.YtckjdncimibiaaaHand.run_geq_str   -- for this text's walks alone
set_option linter.unusedVariables false
set_option linter.unusedSimpArgs false

/-! ### fee_Flows: function 13 -/
/-- Strings as a map's keys. -/
def strQ (x y : ByteArray) : Bool := x.toList == y.toList
theorem strQ_iff (x y : ByteArray) : strQ x y = true ↔ x = y := by
  simp only [strQ, beq_iff_eq]
  constructor
  · intro h
    rw [ByteArray.toList_eq, ByteArray.toList_eq] at h
    exact ByteArray.ext (Array.ext' h)
  · rintro rfl
    rfl
theorem strQ_key (x y : ByteArray) : strQ x y = true ↔ Value.string x = Value.string y := by
  rw [strQ_iff]
  exact ⟨fun h => by rw [h], fun h => by injection h⟩
theorem str_keyed : Go.Maps.Keyed Try.prog 9 := Go.Maps.string_keyed Try.underlying9
theorem str_keyOf {s : ByteArray} (h : s.size ≤ 1000000) : keyOf Try.prog 9 (.string s) = some (.string s.data.toList) := Go.WideMaps.keyOf_string_mk Try.underlying9 (Nat.le_trans h (by decide))
theorem ints_zero (W : World) : (zeroValue 71).run Try.prog W = .ok (.slice none 0 0) W := by kernel_rfl
theorem rows_apart {α : Type} {d : Kd α} {e e' : TypeId} {w : World} {base : Nat} {ok : Nat → Prop} {v : Value} {xs : List α} (h : d.R e w base ok v xs) (hne : e ≠ e') : ∀ k cells, v.ownBlock = some k → w.heap[k]? = some (.cells cells e' (0, 0)) → False := by
  intro k cells hk hc
  obtain ⟨cells2, h2⟩ := Kd.R_typed h k hk
  rw [hc] at h2
  injection h2 with h2
  injection h2 with _ h2
  exact hne h2.symm
theorem blk_kept {α : Type} {d : Kd α} {e : TypeId} {w w1 : World} {base : Nat} {ok : Nat → Prop} {g t : Nat} {cs : Array Value} {v : Value} {xs : List α} (h : w.heap[g]? = some (.cells cs t (0, 0))) (hR : d.R e w base ok v xs) (ht : e ≠ t) (hg : w.grownBy w1 v.ownBlock) : w1.heap[g]? = some (.cells cs t (0, 0)) :=
  (hg.block g (blk_lt h) (fun he => rows_apart hR ht _ _ he.symm h)).trans h

/-- 'all[m] += q'. -/
def had_put (m : List (ByteArray × Int)) (g : ByteArray) (q : Int) : List (ByteArray × Int) := Go.Proofs.YtckjdncimibiaaaHand.put strQ g (wrap64 ((Go.Proofs.YtckjdncimibiaaaHand.look strQ m g).getD 0 + q)) m
def fee_had.go (k : Nat) : List S61 → List (ByteArray × Int) → Option (List (ByteArray × Int) × Int)
  | [], m => some (m, 0)
  | x :: r, m => if x.f4 < 1 ∨ x.f4 > 1048576 then some ([], 18) else (words_Name.f k x.f6.f0).bind fun b1 => if b1 = true then ((words_Name.f k x.f7.f0).bind fun b2 => if b2 = true then (if x.f6.f0.size ≤ 1000000 then (if x.f7.f0.size ≤ 1000000 then fee_had.go k r (had_put (had_put m x.f6.f0 x.f4) x.f7.f0 x.f4) else none) else none) else some ([], 10)) else some ([], 10)
theorem fee_had.mono (k : Nat) (l : List S61) : ∀ m, LeO (fee_had.go k l m) (fee_had.go (k + 1) l m) := by
  induction l with
  | nil => intro m; exact LeO.refl _
  | cons x r ih =>
    intro m
    unfold fee_had.go
    exact LeO.ite (LeO.refl _) (LeO.bind (words_Name.mono _ _) (fun b1 => LeO.ite (LeO.bind (words_Name.mono _ _) (fun b2 => LeO.ite (LeO.ite (LeO.ite (ih _) (LeO.refl _)) (LeO.refl _)) (LeO.refl _))) (LeO.refl _)))
theorem int_zero (W : World) : (zeroValue 3).run Try.prog W = .ok (.int .i64 0) W := by kernel_rfl
theorem had_look {w : World} {b : Nat} {m : List (ByteArray × Int)} {s : ByteArray} {kl : Lit} (hb : w.heap[b]? = some (Go.Proofs.YtckjdncimibiaaaHand.objM Value.string (Value.int .i64) m)) (hk : Go.Proofs.YtckjdncimibiaaaHand.KeysOk Try.prog 9 Value.string m) (hkey : keyOf Try.prog 9 (.string s) = some kl) :
    (Instr.lookup 77 (.map (some b)) (.string s) false).run Try.prog w = .ok (.int .i64 ((Go.Proofs.YtckjdncimibiaaaHand.look strQ m s).getD 0)) w := by
  rw [Go.Proofs.YtckjdncimibiaaaHand.run_look str_keyed Try.underlying77 (int_zero w) hb hk hkey (fun p _ => strQ_key _ _) false]
  cases Go.Proofs.YtckjdncimibiaaaHand.look strQ m s <;> rfl
theorem had_ok {m : List (ByteArray × Int)} {s : ByteArray} {kl : Lit} (hk : Go.Proofs.YtckjdncimibiaaaHand.KeysOk Try.prog 9 Value.string m) (hkey : keyOf Try.prog 9 (.string s) = some kl) (q : Int) : Go.Proofs.YtckjdncimibiaaaHand.KeysOk Try.prog 9 Value.string (had_put m s q) :=
  hk.put hkey (fun p _ => strQ_key _ _) _
theorem had_upd {w : World} {b : Nat} {m : List (ByteArray × Int)} {s : ByteArray} {kl : Lit} (hb : w.heap[b]? = some (Go.Proofs.YtckjdncimibiaaaHand.objM Value.string (Value.int .i64) m)) (hk : Go.Proofs.YtckjdncimibiaaaHand.KeysOk Try.prog 9 Value.string m) (hkey : keyOf Try.prog 9 (.string s) = some kl) (q : Int) :
    ∃ w2, (Instr.mapUpdate 77 (.map (some b)) (.string s) (.int .i64 (wrap64 ((Go.Proofs.YtckjdncimibiaaaHand.look strQ m s).getD 0 + q)))).run Try.prog w = .ok () w2 ∧ w2.heap[b]? = some (Go.Proofs.YtckjdncimibiaaaHand.objM Value.string (Value.int .i64) (had_put m s q)) ∧ w.grownBy w2 (some b) :=
  ⟨_, Go.Proofs.YtckjdncimibiaaaHand.run_put str_keyed Try.underlying77 hb hk hkey (fun p _ => strQ_key _ _) _, Go.Proofs.YtckjdncimibiaaaHand.new_setBlock hb _, Go.Proofs.YtckjdncimibiaaaHand.grown_setBlock hb _⟩
/-- What had hands back: a map, or why not. -/
def HadMap (w0 w : World) (v : Value) (m : List (ByteArray × Int)) : Prop := ∃ b, v = .map (some b) ∧ w0.heap.size ≤ b ∧ w.heap[b]? = some (Go.Proofs.YtckjdncimibiaaaHand.objM Value.string (Value.int .i64) m) ∧ Go.Proofs.YtckjdncimibiaaaHand.KeysOk Try.prog 9 Value.string m
set_option maxHeartbeats 3200000 in
set_option maxRecDepth 100000 in
theorem fee_had.calls (k : Nat) (A0 : Option Addr) (c0 : Nat) (l0 : List (S61)) (mm : List (ByteArray × Int)) (ee : Int) (w : World) (hr0 : Kd.C k61 w A0 l0.length l0) (hc0 : l0.length ≤ c0) (h : fee_had.go k l0 [] = some (mm, ee)) :
    Calls Try.prog 27 #[.slice A0 l0.length c0] w fun e w' => ∃ v : Value, e = .returned (.tuple #[v, .int .i64 ee]) ∧ (ee = 0 → HadMap w w' v mm) ∧ Below w.heap.size w w' := by
  have HR0 := Aside0.mk hr0
  have hl1 := hr0.2.1
  have HC0 := Aside0.mk hc0
  have HG := Aside0.mk h
  have hmm := @run_makeMap Try.prog
  have HGE : Aside0 (∀ kk, some w.heap.size = some kk → w.heap.size ≤ kk) := ⟨fun kk e => by cases e; exact Nat.le_refl _⟩
  clear hr0 hc0 h
  go_enter Try.func27, Try.ntmps27
  go_wp2
  go_loopg [10] l0.length (fun kq v10 w' => ∃ (x : Nat) (m : List (ByteArray × Int)), v10 = .int .i64 (x : Int) ∧ kq + x = l0.length ∧ Aside0 (fee_had.go k (l0.drop x) m = some (mm, ee)) ∧ Aside0 (w'.heap[w.heap.size]? = some (Go.Proofs.YtckjdncimibiaaaHand.objM Value.string (Value.int .i64) m)) ∧ Aside0 (Go.Proofs.YtckjdncimibiaaaHand.KeysOk Try.prog 9 Value.string m) ∧ Aside0 (Below w.heap.size w w'))
  case atStart => exact ⟨0, [], rfl, by omega, HG, ⟨blk_new _ _⟩, ⟨⟨fun p hp => (by cases hp), List.Pairwise.nil⟩⟩, ⟨(Below.refl _ _).alloc (Nat.le_refl _) _⟩⟩
  case round =>
    clear HG
    obtain ⟨x, m, rfl, hx, HA, HM, HK, HB⟩ := hrel
    have hsz := HB.out.size
    have hltM := blk_lt HM.out
    by_cases hlt : x < l0.length
    · obtain ⟨ad, ead, h0, h1, h2, h3, h4, h5, h6, h7, h8, h9, h10, h11, h12⟩ := at_T61 (Kd.C_below HR0.out HB.out) (x : Int) (by omega) (by omega)
      cases ead
      simp only [Int.toNat_natCast] at h0 h1 h2 h3 h4 h5 h6 h7 h8 h9 h10 h11 h12
      have hdr : l0.drop x = rd_T61 l0 x :: l0.drop (x + 1) := by
        rw [List.drop_eq_getElem_cons hlt]
        simp [rd_T61, hlt]
      have hA := HA.out
      rw [hdr, fee_had.go] at hA
      clear hdr HA
      generalize hp : rd_T61 l0 x = p at *
      clear hp
      obtain ⟨y0, y1, y2, ⟨y3, y4, y5, y6⟩, q, y8, ⟨s1, y10⟩, ⟨s2, y12⟩⟩ := p
      simp only at h0 h1 h2 h3 h4 h5 h6 h7 h8 h9 h10 h11 h12 hA
      by_cases hq : q < 1 ∨ q > 1048576
      · rw [if_pos hq] at hA
        have hA2 := Option.some.inj hA
        simp only [Prod.mk.injEq] at hA2
        obtain ⟨rfl, rfl⟩ := hA2
        clear hA
        by_cases hq1 : q < 1
        · have hd1 : decide (q < 1) = true := decide_eq_true hq1
          clear hq hq1
          go_wp2
          go_ret2
          exact ⟨_, rfl, (fun e => by cases e), HB.out.alloc HB.out.size _⟩
        · have hd1 : decide (q < 1) = false := decide_eq_false hq1
          have hd2 : decide (1048576 < q) = true := decide_eq_true (by omega)
          clear hq hq1
          go_wp2
          go_ret2
          exact ⟨_, rfl, (fun e => by cases e), HB.out.alloc HB.out.size _⟩
      rw [if_neg hq] at hA
      have hd1 : decide (q < 1) = false := decide_eq_false (by omega)
      have hd2 : decide (1048576 < q) = false := decide_eq_false (by omega)
      have HQ : Aside0 (1 ≤ q ∧ q ≤ 1048576) := ⟨by omega⟩
      clear hq
      obtain ⟨b1, hN1, hA⟩ := Option.bind_eq_some_iff.mp hA
      have HN1 := Aside0.mk hN1
      clear hN1
      cases b1 with
      | false =>
        rw [if_neg (by decide)] at hA
        have hA2 := Option.some.inj hA
        simp only [Prod.mk.injEq] at hA2
        obtain ⟨rfl, rfl⟩ := hA2
        clear hA
        have tok1 : True := trivial
        go_wp2_with ((go_at_call 35; have _t := tok1; ((with_reducible refine (words_Name.calls k s1 false _ HN1.out).mono ?_); rintro _ w2 ⟨rfl, hb⟩; have BX2 := Aside0.mk (blk_below (blk_new wr (.cells #[.int .i64 y0, .int .i64 y1, .int .i64 y2, .string y3, .int .i64 y4, .int .i64 y5, .int .i64 y6, .int .i64 q, .int .i64 y8, .string s1, .string y10, .string s2, .string y12] 61 (0, 0))) hb.below); have HM2 := Aside0.mk (blk_below (blk_alloc HM.out (.cells #[.int .i64 y0, .int .i64 y1, .int .i64 y2, .string y3, .int .i64 y4, .int .i64 y5, .int .i64 y6, .int .i64 q, .int .i64 y8, .string s1, .string y10, .string s2, .string y12] 61 (0, 0))) hb.below); have HB2 := Aside0.mk (below_step (HB.out.alloc HB.out.size (.cells #[.int .i64 y0, .int .i64 y1, .int .i64 y2, .string y3, .int .i64 y4, .int .i64 y5, .int .i64 y6, .int .i64 q, .int .i64 y8, .string s1, .string y10, .string s2, .string y12] 61 (0, 0))) hb.below); clear hb tok1 _t; have c7_ : w2.cell? ⟨wr.heap.size, 7, none⟩ = some (.int .i64 q) := (blk_cell BX2.out 7).trans rfl; have c9_ : w2.cell? ⟨wr.heap.size, 9, none⟩ = some (.string s1) := (blk_cell BX2.out 9).trans rfl; have c11_ : w2.cell? ⟨wr.heap.size, 11, none⟩ = some (.string s2) := (blk_cell BX2.out 11).trans rfl; have hltb := blk_lt BX2.out)))
        go_ret2
        exact ⟨_, rfl, (fun e => by cases e), HB2.out⟩
      | true =>
        rw [if_pos rfl] at hA
        obtain ⟨b2, hN2, hA⟩ := Option.bind_eq_some_iff.mp hA
        have HN2 := Aside0.mk hN2
        clear hN2
        have tok1 : True := trivial
        cases b2 with
        | false =>
          rw [if_neg (by decide)] at hA
          have hA2 := Option.some.inj hA
          simp only [Prod.mk.injEq] at hA2
          obtain ⟨rfl, rfl⟩ := hA2
          clear hA
          go_wp2_with (first | (go_at_call 35; have _t := tok1; ((with_reducible refine (words_Name.calls k s1 true _ HN1.out).mono ?_); rintro _ w2 ⟨rfl, hb⟩; have BX2 := Aside0.mk (blk_below (blk_new wr (.cells #[.int .i64 y0, .int .i64 y1, .int .i64 y2, .string y3, .int .i64 y4, .int .i64 y5, .int .i64 y6, .int .i64 q, .int .i64 y8, .string s1, .string y10, .string s2, .string y12] 61 (0, 0))) hb.below); have HM2 := Aside0.mk (blk_below (blk_alloc HM.out (.cells #[.int .i64 y0, .int .i64 y1, .int .i64 y2, .string y3, .int .i64 y4, .int .i64 y5, .int .i64 y6, .int .i64 q, .int .i64 y8, .string s1, .string y10, .string s2, .string y12] 61 (0, 0))) hb.below); have HB2 := Aside0.mk (below_step (HB.out.alloc HB.out.size (.cells #[.int .i64 y0, .int .i64 y1, .int .i64 y2, .string y3, .int .i64 y4, .int .i64 y5, .int .i64 y6, .int .i64 q, .int .i64 y8, .string s1, .string y10, .string s2, .string y12] 61 (0, 0))) hb.below); clear hb tok1 _t; have c7_ : w2.cell? ⟨wr.heap.size, 7, none⟩ = some (.int .i64 q) := (blk_cell BX2.out 7).trans rfl; have c9_ : w2.cell? ⟨wr.heap.size, 9, none⟩ = some (.string s1) := (blk_cell BX2.out 9).trans rfl; have c11_ : w2.cell? ⟨wr.heap.size, 11, none⟩ = some (.string s2) := (blk_cell BX2.out 11).trans rfl; have hltb := blk_lt BX2.out)) | (go_at_call 35; refine (words_Name.calls k s2 false _ HN2.out).mono ?_; rintro _ w3 ⟨rfl, hb⟩; have BX3 := Aside0.mk (blk_below BX2.out hb.below); have HM3 := Aside0.mk (blk_below HM2.out hb.below); have HB3 := Aside0.mk (below_step HB2.out hb.below); clear c7_ c9_ c11_ hltb hb; have c7_ : w3.cell? ⟨wr.heap.size, 7, none⟩ = some (.int .i64 q) := (blk_cell BX3.out 7).trans rfl; have c9_ : w3.cell? ⟨wr.heap.size, 9, none⟩ = some (.string s1) := (blk_cell BX3.out 9).trans rfl; have c11_ : w3.cell? ⟨wr.heap.size, 11, none⟩ = some (.string s2) := (blk_cell BX3.out 11).trans rfl; have hltb := blk_lt BX3.out))
          go_ret2
          exact ⟨_, rfl, (fun e => by cases e), HB3.out⟩
        | true =>
          rw [if_pos rfl] at hA
          by_cases hs1 : s1.size ≤ 1000000
          case neg => rw [if_neg hs1] at hA; cases hA
          rw [if_pos hs1] at hA
          by_cases hs2 : s2.size ≤ 1000000
          case neg => rw [if_neg hs2] at hA; cases hA
          rw [if_pos hs2] at hA
          have HA2 := Aside0.mk hA
          have HKEY1 := Aside0.mk (str_keyOf hs1)
          have HKEY2 := Aside0.mk (str_keyOf hs2)
          have HNB : Aside0 (wr.heap.size ≠ w.heap.size) := ⟨by omega⟩
          have tok2 : True := trivial
          clear hA hs1 hs2
          go_wp2_with (first | (go_at_call 35; have _t := tok1; ((with_reducible refine (words_Name.calls k s1 true _ HN1.out).mono ?_); rintro _ w2 ⟨rfl, hb⟩; have BX2 := Aside0.mk (blk_below (blk_new wr (.cells #[.int .i64 y0, .int .i64 y1, .int .i64 y2, .string y3, .int .i64 y4, .int .i64 y5, .int .i64 y6, .int .i64 q, .int .i64 y8, .string s1, .string y10, .string s2, .string y12] 61 (0, 0))) hb.below); have HM2 := Aside0.mk (blk_below (blk_alloc HM.out (.cells #[.int .i64 y0, .int .i64 y1, .int .i64 y2, .string y3, .int .i64 y4, .int .i64 y5, .int .i64 y6, .int .i64 q, .int .i64 y8, .string s1, .string y10, .string s2, .string y12] 61 (0, 0))) hb.below); have HB2 := Aside0.mk (below_step (HB.out.alloc HB.out.size (.cells #[.int .i64 y0, .int .i64 y1, .int .i64 y2, .string y3, .int .i64 y4, .int .i64 y5, .int .i64 y6, .int .i64 q, .int .i64 y8, .string s1, .string y10, .string s2, .string y12] 61 (0, 0))) hb.below); clear hb tok1 _t; have c7_ : w2.cell? ⟨wr.heap.size, 7, none⟩ = some (.int .i64 q) := (blk_cell BX2.out 7).trans rfl; have c9_ : w2.cell? ⟨wr.heap.size, 9, none⟩ = some (.string s1) := (blk_cell BX2.out 9).trans rfl; have c11_ : w2.cell? ⟨wr.heap.size, 11, none⟩ = some (.string s2) := (blk_cell BX2.out 11).trans rfl; have hltb := blk_lt BX2.out)) | (go_at_call 35; refine (words_Name.calls k s2 true _ HN2.out).mono ?_; rintro _ w3 ⟨rfl, hb⟩; have BX3 := Aside0.mk (blk_below BX2.out hb.below); have HM3 := Aside0.mk (blk_below HM2.out hb.below); have HB3 := Aside0.mk (below_step HB2.out hb.below); clear c7_ c9_ c11_ hltb hb; have c7_ : w3.cell? ⟨wr.heap.size, 7, none⟩ = some (.int .i64 q) := (blk_cell BX3.out 7).trans rfl; have c9_ : w3.cell? ⟨wr.heap.size, 9, none⟩ = some (.string s1) := (blk_cell BX3.out 9).trans rfl; have c11_ : w3.cell? ⟨wr.heap.size, 11, none⟩ = some (.string s2) := (blk_cell BX3.out 11).trans rfl; have hltb := blk_lt BX3.out) | (at_lookup; have _t := tok2; refine Go.Proofs.YtckjdncimibiaaaHand.wpL_look _ rfl (.tmp 36) (.tmp 39) 77 false rfl w.heap.size (.string s1) (.int .i64 ((Go.Proofs.YtckjdncimibiaaaHand.look strQ m s1).getD 0)) rfl rfl (had_look HM3.out HK.out HKEY1.out) ?_; clear _t) | (at_mapUpdate; have _t := tok2; obtain ⟨w4, hrunU, hM4, hG4⟩ := had_upd HM3.out HK.out HKEY1.out q; refine Go.Proofs.YtckjdncimibiaaaHand.wpL_upd rfl (.tmp 36) (.tmp 39) (.tmp 43) 77 rfl w.heap.size (.string s1) (.int .i64 (wrap64 ((Go.Proofs.YtckjdncimibiaaaHand.look strQ m s1).getD 0 + q))) rfl rfl rfl hrunU ?_; have HM4 := Aside0.mk hM4; have BX4 := Aside0.mk (blk_grown BX3.out hG4 (fun e_ => HNB.out (Option.some.inj e_))); have HB4 := Aside0.mk (pw_below_grown HB3.out _ HB3.out.size hG4 HGE.out); clear c7_ c9_ c11_ hltb tok2 _t hrunU hM4 hG4; have c7_ : w4.cell? ⟨wr.heap.size, 7, none⟩ = some (.int .i64 q) := (blk_cell BX4.out 7).trans rfl; have c9_ : w4.cell? ⟨wr.heap.size, 9, none⟩ = some (.string s1) := (blk_cell BX4.out 9).trans rfl; have c11_ : w4.cell? ⟨wr.heap.size, 11, none⟩ = some (.string s2) := (blk_cell BX4.out 11).trans rfl; have hltb := blk_lt BX4.out) | (at_lookup; refine Go.Proofs.YtckjdncimibiaaaHand.wpL_look _ rfl (.tmp 44) (.tmp 47) 77 false rfl w.heap.size (.string s2) (.int .i64 ((Go.Proofs.YtckjdncimibiaaaHand.look strQ (had_put m s1 q) s2).getD 0)) rfl rfl (had_look HM4.out (had_ok HK.out HKEY1.out q) HKEY2.out) ?_) | (at_mapUpdate; obtain ⟨w5, hrunU, hM5, hG5⟩ := had_upd HM4.out (had_ok HK.out HKEY1.out q) HKEY2.out q; refine Go.Proofs.YtckjdncimibiaaaHand.wpL_upd rfl (.tmp 44) (.tmp 47) (.tmp 51) 77 rfl w.heap.size (.string s2) (.int .i64 (wrap64 ((Go.Proofs.YtckjdncimibiaaaHand.look strQ (had_put m s1 q) s2).getD 0 + q))) rfl rfl rfl hrunU ?_; have HM5 := Aside0.mk hM5; have HB5 := Aside0.mk (pw_below_grown HB4.out _ HB4.out.size hG5 HGE.out); clear hrunU hM5 hG5))
          go_roundg (l0.length - (x + 1))
          case measure => omega
          case rel => exact ⟨x + 1, _, by go_num, by omega, HA2, HM5, ⟨had_ok (had_ok HK.out HKEY1.out q) HKEY2.out q⟩, HB5⟩
    · have hxe : x = l0.length := by omega
      have hA := HA.out
      rw [List.drop_eq_nil_of_le (by omega), fee_had.go] at hA
      have hA2 := Option.some.inj hA
      simp only [Prod.mk.injEq] at hA2
      obtain ⟨rfl, rfl⟩ := hA2
      have hd : decide ((x : Int) < (l0.length : Int)) = false := decide_eq_false (by omega)
      clear hA HA hxe
      go_wp2
      go_ret2
      exact ⟨_, rfl, ⟨w.heap.size, rfl, Nat.le_refl _, HM.out, HK.out⟩, HB.out⟩

def insS (x : ByteArray) : List ByteArray → List ByteArray
  | [] => [x]
  | y :: r => if Op.bytesLess y.toList x.toList = true then y :: insS x r else x :: y :: r
def sortS : List ByteArray → List ByteArray
  | [] => []
  | x :: r => insS x (sortS r)
theorem insS_perm (x : ByteArray) (l : List ByteArray) : (insS x l).Perm (x :: l) := by
  induction l with
  | nil => exact .refl _
  | cons y r ih =>
    rw [insS]
    split
    · exact (List.Perm.cons y ih).trans (List.Perm.swap x y r)
    · exact .refl _
theorem sortS_perm (l : List ByteArray) : (sortS l).Perm l := by
  induction l with
  | nil => exact .refl _
  | cons x r ih => exact (insS_perm x _).trans (List.Perm.cons x ih)
theorem leS (a b : ByteArray) : (Op.bytesLess b.toList a.toList = false) ↔ a.data.toList ≤ b.data.toList := by
  rw [Go.Proofs.bytesLess_eq, ByteArray.toList_eq, ByteArray.toList_eq, decide_eq_false_iff_not]
  rfl
theorem insS_sorted (x : ByteArray) {l : List ByteArray} (h : l.Pairwise fun a b => a.data.toList ≤ b.data.toList) : (insS x l).Pairwise fun a b => a.data.toList ≤ b.data.toList := by
  induction l with
  | nil => exact List.pairwise_singleton _ _
  | cons y r ih =>
    rw [List.pairwise_cons] at h
    rw [insS]
    split
    · rename_i hlt
      rw [List.pairwise_cons]
      refine ⟨fun b hb => ?_, ih h.2⟩
      rcases List.mem_cons.mp ((insS_perm x r).mem_iff.mp hb) with rfl | hb
      · rw [Go.Proofs.bytesLess_eq, ByteArray.toList_eq, ByteArray.toList_eq, decide_eq_true_eq] at hlt
        exact List.le_of_lt hlt
      · exact h.1 b hb
    · rename_i hlt
      have hxy := (leS x y).mp (by simpa using hlt)
      rw [List.pairwise_cons]
      refine ⟨fun b hb => ?_, List.pairwise_cons.mpr h⟩
      rcases List.mem_cons.mp hb with rfl | hb
      · exact hxy
      · exact List.le_trans hxy (h.1 b hb)
theorem sortS_sorted (l : List ByteArray) : (sortS l).Pairwise fun a b => a.data.toList ≤ b.data.toList := by
  induction l with
  | nil => exact List.Pairwise.nil
  | cons x r ih => exact insS_sorted x ih
theorem sortS_eq (l : List ByteArray) : (l.map (·.data.toList)).mergeSort (fun x y => decide (x ≤ y)) = (sortS l).map (·.data.toList) := by
  refine List.Perm.eq_of_pairwise (le := fun a b => a ≤ b) (fun a b _ _ => List.le_antisymm) ?_ ?_ ?_
  · have := List.pairwise_mergeSort (le := fun x y : List UInt8 => decide (x ≤ y)) (fun a b c h1 h2 => by simp only [decide_eq_true_eq] at *; exact List.le_trans h1 h2) (fun a b => by simp only [Bool.or_eq_true, decide_eq_true_eq]; exact List.le_total a b) (l.map (·.data.toList))
    simpa using this
  · rw [List.pairwise_map]
    exact sortS_sorted l
  · exact (List.mergeSort_perm _ _).trans ((sortS_perm l).map _).symm

def keysL_ren : Go.Shelf.Ren := ⟨fun | 7 => 29 | 10 => 44 | n => n, fun | 23 => 77 | 26 => 9 | 3 => 3 | 28 => 83 | 0 => 0 | 27 => 82 | 33 => 90 | 4 => 4 | n => n, fun | n => n⟩
theorem keysL : Go.Proofs.SlLaysZ.n7 Try.prog keysL_ren where
  mixed := by kernel_rfl
  f7 := ⟨ "maps.Keys[map[string]int,string,int]", by decide, Try.func29.trans (congrArg some (by kernel_rfl))⟩
  f10 := ⟨ "maps.Keys[map[string]int,string,int]$1", by decide, Try.func44.trans (congrArg some (by kernel_rfl))⟩
  t0 := Try.underlying0
  a0 := Try.isAgg0
  z0 := Try.sizeOf0
  v0 := Try.zeroValue0
  t4 := Try.underlying4
  a4 := Try.isAgg4
  z4 := Try.sizeOf4
  v4 := Try.zeroValue4
  t23 := Try.underlying77
  a23 := Try.isAgg77
  z23 := Try.sizeOf77
  v23 := Try.zeroValue77
  t26 := Try.underlying9
  a26 := Try.isAgg9
  z26 := Try.sizeOf9
  v26 := Try.zeroValue9
  t27 := Try.underlying82
  a27 := Try.isAgg82
  z27 := Try.sizeOf82
  v27 := Try.zeroValue82
  t28 := Try.underlying83
  a28 := Try.isAgg83
  z28 := Try.sizeOf83
  v28 := Try.zeroValue83
  t33 := Try.underlying90
  a33 := Try.isAgg90
  z33 := Try.sizeOf90
  v33 := Try.zeroValue90
def sortedL_ren : Go.Shelf.Ren := ⟨fun | 6 => 28 | 8 => 42 | 9 => 43 | 11 => 52 | 13 => 54 | 12 => 53 | 23 => 64 | 24 => 65 | 14 => 55 | 15 => 56 | 16 => 57 | 17 => 58 | 18 => 59 | 19 => 60 | 20 => 61 | 21 => 62 | 22 => 63 | 25 => 66 | 26 => 67 | 27 => 68 | 28 => 69 | 29 => 70 | 30 => 71 | 31 => 72 | n => n, fun | 26 => 9 | 28 => 83 | 24 => 80 | 0 => 0 | 3 => 3 | 37 => 92 | 48 => 116 | 50 => 98 | 4 => 4 | 40 => 108 | 39 => 107 | 45 => 113 | 5 => 5 | 9 => 9 | 51 => 118 | 55 => 122 | 57 => 124 | 58 => 28 | 33 => 90 | n => n, fun | n => n⟩
theorem sortedL : Go.Proofs.SlLaysZ.n6 Try.prog sortedL_ren where
  mixed := by kernel_rfl
  f6 := ⟨ "slices.Sorted[string]", by decide, Try.func28.trans (congrArg some (by kernel_rfl))⟩
  f8 := ⟨ "slices.Collect[string]", by decide, Try.func42.trans (congrArg some (by kernel_rfl))⟩
  f11 := ⟨ "slices.AppendSeq[[]string,string]", by decide, Try.func52.trans (congrArg some (by kernel_rfl))⟩
  t0 := Try.underlying0
  a0 := Try.isAgg0
  z0 := Try.sizeOf0
  v0 := Try.zeroValue0
  t24 := Try.underlying80
  a24 := Try.isAgg80
  z24 := Try.sizeOf80
  v24 := Try.zeroValue80
  t26 := Try.underlying9
  a26 := Try.isAgg9
  z26 := Try.sizeOf9
  v26 := Try.zeroValue9
  t28 := Try.underlying83
  a28 := Try.isAgg83
  z28 := Try.sizeOf83
  v28 := Try.zeroValue83
  i26 := by kernel_rfl
def sortL_ren : Go.Shelf.Ren := ⟨fun | 6 => 43 | 8 => 54 | 9 => 53 | 19 => 64 | 20 => 65 | 21 => 55 | 22 => 56 | 23 => 57 | 24 => 58 | 25 => 59 | 26 => 60 | 27 => 61 | 28 => 62 | 29 => 63 | 36 => 66 | 31 => 67 | 32 => 68 | 37 => 69 | 38 => 70 | 39 => 71 | 41 => 72 | n => n, fun | 27 => 80 | 29 => 9 | 3 => 3 | 32 => 92 | 26 => 80 | 0 => 0 | 44 => 116 | 46 => 98 | 4 => 4 | 36 => 108 | 35 => 107 | 41 => 113 | 5 => 5 | 9 => 9 | 53 => 118 | 57 => 122 | 63 => 124 | 64 => 28 | n => n, fun | n => n⟩
theorem sortL : Go.Proofs.SlLaysM.n6 Try.prog sortL_ren where
  mixed := by kernel_rfl
  f6 := ⟨ "slices.Sort[[]string,string]", by decide, Try.func43.trans (congrArg some (by kernel_rfl))⟩
  f8 := Try.func54.trans (congrArg some (by kernel_rfl))
  f9 := ⟨ "slices.pdqsortOrdered[string]", by decide, Try.func53.trans (congrArg some (by kernel_rfl))⟩
  f19 := Try.func64.trans (congrArg some (by kernel_rfl))
  f20 := Try.func65.trans (congrArg some (by kernel_rfl))
  f21 := ⟨ "slices.insertionSortOrdered[string]", by decide, Try.func55.trans (congrArg some (by kernel_rfl))⟩
  f22 := ⟨ "slices.heapSortOrdered[string]", by decide, Try.func56.trans (congrArg some (by kernel_rfl))⟩
  f23 := ⟨ "slices.breakPatternsOrdered[string]", by decide, Try.func57.trans (congrArg some (by kernel_rfl))⟩
  f24 := ⟨ "slices.choosePivotOrdered[string]", by decide, Try.func58.trans (congrArg some (by kernel_rfl))⟩
  f25 := ⟨ "slices.reverseRangeOrdered[string]", by decide, Try.func59.trans (congrArg some (by kernel_rfl))⟩
  f26 := ⟨ "slices.partialInsertionSortOrdered[string]", by decide, Try.func60.trans (congrArg some (by kernel_rfl))⟩
  f27 := ⟨ "cmp.Less[string]", by decide, Try.func61.trans (congrArg some (by kernel_rfl))⟩
  f28 := ⟨ "slices.partitionEqualOrdered[string]", by decide, Try.func62.trans (congrArg some (by kernel_rfl))⟩
  f29 := ⟨ "slices.partitionOrdered[string]", by decide, Try.func63.trans (congrArg some (by kernel_rfl))⟩
  f31 := Try.func67.trans (congrArg some (by kernel_rfl))
  f32 := Try.func68.trans (congrArg some (by kernel_rfl))
  f36 := ⟨ "slices.siftDownOrdered[string]", by decide, Try.func66.trans (congrArg some (by kernel_rfl))⟩
  f37 := ⟨ "slices.medianAdjacentOrdered[string]", by decide, Try.func69.trans (congrArg some (by kernel_rfl))⟩
  f38 := ⟨ "slices.medianOrdered[string]", by decide, Try.func70.trans (congrArg some (by kernel_rfl))⟩
  f39 := ⟨ "cmp.isNaN[string]", by decide, Try.func71.trans (congrArg some (by kernel_rfl))⟩
  f41 := ⟨ "slices.order2Ordered[string]", by decide, Try.func72.trans (congrArg some (by kernel_rfl))⟩
  t0 := Try.underlying0
  a0 := Try.isAgg0
  z0 := Try.sizeOf0
  v0 := Try.zeroValue0
  t3 := Try.underlying3
  a3 := Try.isAgg3
  z3 := Try.sizeOf3
  v3 := Try.zeroValue3
  t4 := Try.underlying4
  a4 := Try.isAgg4
  z4 := Try.sizeOf4
  v4 := Try.zeroValue4
  t5 := Try.underlying5
  a5 := Try.isAgg5
  z5 := Try.sizeOf5
  v5 := Try.zeroValue5
  t9 := Try.underlying9
  a9 := Try.isAgg9
  z9 := Try.sizeOf9
  v9 := Try.zeroValue9
  t26 := Try.underlying80
  a26 := Try.isAgg80
  z26 := Try.sizeOf80
  v26 := Try.zeroValue80
  t27 := Try.underlying80
  a27 := Try.isAgg80
  z27 := Try.sizeOf80
  v27 := Try.zeroValue80
  t29 := Try.underlying9
  a29 := Try.isAgg9
  z29 := Try.sizeOf9
  v29 := Try.zeroValue9
  t32 := Try.underlying92
  a32 := Try.isAgg92
  z32 := Try.sizeOf92
  v32 := Try.zeroValue92
  t35 := Try.underlying107
  a35 := Try.isAgg107
  z35 := Try.sizeOf107
  v35 := Try.zeroValue107
  t36 := Try.underlying108
  a36 := Try.isAgg108
  z36 := Try.sizeOf108
  v36 := Try.zeroValue108
  t41 := Try.underlying113
  a41 := Try.isAgg113
  z41 := Try.sizeOf113
  v41 := Try.zeroValue113
  t44 := Try.underlying116
  a44 := Try.isAgg116
  z44 := Try.sizeOf116
  v44 := Try.zeroValue116
  t46 := Try.underlying98
  a46 := Try.isAgg98
  z46 := Try.sizeOf98
  v46 := Try.zeroValue98
  t53 := Try.underlying118
  a53 := Try.isAgg118
  z53 := Try.sizeOf118
  v53 := Try.zeroValue118
  t57 := Try.underlying122
  a57 := Try.isAgg122
  z57 := Try.sizeOf122
  v57 := Try.zeroValue122
  t63 := Try.underlying124
  a63 := Try.isAgg124
  z63 := Try.sizeOf124
  v63 := Try.zeroValue124
  t64 := Try.underlying28
  a64 := Try.isAgg28
  z64 := Try.sizeOf28
  v64 := Try.zeroValue28
theorem insert_perm {H : Type} (x : Lit × DataW H) (l : List (Lit × DataW H)) : (DataW.insert x l).Perm (x :: l) := by
  induction l with
  | nil => exact .refl _
  | cons y r ih =>
    rw [DataW.insert]
    split
    · exact .refl _
    · exact (List.Perm.cons y ih).trans (List.Perm.swap x y r)
theorem inserts_perm {H : Type} (l : List (Lit × DataW H)) : (l.foldr DataW.insert []).Perm l := by
  induction l with
  | nil => exact .refl _
  | cons x r ih => exact (insert_perm x _).trans (List.Perm.cons x ih)
theorem key_size {s : ByteArray} {l : Lit} (h : keyOf Try.prog 9 (.string s) = some l) : s.size ≤ maxLen := by
  obtain ⟨s', e, _, hs⟩ := Go.WideMaps.string_of_keyOf Try.underlying9 h
  injection e with e
  rw [e]
  exact hs
/-- Reads nothing of an element. -/
def blindR : Value → Option (DataW Unit × List MemPlace) := fun _ => some (.nil, [])
/-- A map with string keys in the shelf's words. -/
theorem objM_owns {ν : Type} {ev : ν → Value} {w : World} {b : Nat} {m : List (ByteArray × ν)} (hb : w.heap[b]? = some (Go.Proofs.YtckjdncimibiaaaHand.objM Value.string ev m)) (hk : Go.Proofs.YtckjdncimibiaaaHand.KeysOk Try.prog 9 Value.string m) (hl : m.length ≤ 1000000) :
    ∃ D0 : DataW Unit, w.ownsMap Try.prog 9 blindR b m.length D0 ∧ (Go.strKeys D0).Perm (m.map (fun p => p.1.data.toList)) ∧ Go.Maps.size D0 = m.length := by
  have hrd : ∀ (p : (ByteArray × ν) × Nat), p.1 ∈ m → Go.WideElems.rd Try.prog 9 blindR ⟨Value.string p.1.1, ev p.1.2, p.2⟩ = some (.string p.1.1.data.toList, .nil) := by
    intro p hp
    obtain ⟨l, hl⟩ := hk.1 _ hp
    have hs := key_size hl
    unfold Go.WideElems.rd
    rw [Go.WideMaps.keyOf_string_mk Try.underlying9 hs]
    rfl
  have hmem : ∀ p ∈ m.zipIdx, p.1 ∈ m := fun p hp => by
    obtain ⟨i, hi, e⟩ := List.getElem_of_mem hp
    rw [List.getElem_zipIdx] at e
    rw [← e]
    exact List.getElem_mem _
  have hrg : (m.zipIdx.map fun p => (⟨Value.string p.1.1, ev p.1.2, p.2⟩ : MapEntry)).map (Go.WideElems.rg Try.prog 9 blindR) = m.map (fun p => ((.string p.1.data.toList : Lit), (.nil : DataW Unit))) := by
    rw [List.map_map]
    have h1 : m.zipIdx.map (Go.WideElems.rg Try.prog 9 blindR ∘ fun p => (⟨Value.string p.1.1, ev p.1.2, p.2⟩ : MapEntry)) = m.zipIdx.map ((fun p : ByteArray × ν => ((.string p.1.data.toList : Lit), (.nil : DataW Unit))) ∘ Prod.fst) := by
      apply List.map_congr_left
      intro p hp
      have h2 := hrd p (hmem p hp)
      simp only [Function.comp, Go.WideElems.rg, h2, Option.getD_some]
    rw [h1, ← List.map_map, List.zipIdx_map_fst]
  refine ⟨.map ((m.map (fun p => ((.string p.1.data.toList : Lit), (.nil : DataW Unit)))).foldr DataW.insert []), ⟨_, _, hb, ⟨?_, ?_, ?_⟩, ?_, ?_⟩, ?_, ?_⟩
  · simp only [List.size_toArray, List.length_map, List.length_zipIdx]
    exact Nat.le_trans hl (by decide)
  · refine ⟨fun x hx => ?_, ?_, ?_⟩
    · obtain ⟨p, hp, rfl⟩ := List.mem_map.mp (show x ∈ m.zipIdx.map (fun p => (⟨Value.string p.1.1, ev p.1.2, p.2⟩ : MapEntry)) from hx)
      obtain ⟨i, hi, e⟩ := List.getElem_of_mem hp
      rw [List.getElem_zipIdx] at e
      rw [← e]
      simp only [List.length_zipIdx] at hi
      simpa using hi
    · have e : (m.zipIdx.map fun p => (⟨Value.string p.1.1, ev p.1.2, p.2⟩ : MapEntry)).toArray.toList.map (·.born) = List.range' 0 m.length := by
        simp only [List.map_map]
        show m.zipIdx.map Prod.snd = _
        rw [List.zipIdx_map_snd]
      rw [e]
      exact List.nodup_range'
    · have e : (m.zipIdx.map fun p => (⟨Value.string p.1.1, ev p.1.2, p.2⟩ : MapEntry)).toArray.toList.map (·.key) = m.map (fun p => Value.string p.1) := by
        simp only [List.map_map]
        show m.zipIdx.map ((fun p : ByteArray × ν => Value.string p.1) ∘ Prod.fst) = _
        rw [← List.map_map, List.zipIdx_map_fst]
      rw [e]
      exact List.pairwise_map.mpr hk.2
  · intro x hx
    obtain ⟨p, hp, rfl⟩ := List.mem_map.mp (show x ∈ m.zipIdx.map (fun p => (⟨Value.string p.1.1, ev p.1.2, p.2⟩ : MapEntry)) from hx)
    exact ⟨_, hrd p (hmem p hp)⟩
  · simp
  · show _ = DataW.map _
    rw [List.toList_toArray, hrg]
  · show (((m.map (fun p => ((.string p.1.data.toList : Lit), (.nil : DataW Unit)))).foldr DataW.insert []).map fun p => Go.strOf p.1).Perm _
    refine ((inserts_perm _).map _).trans ?_
    rw [List.map_map]
    exact .refl _
  · show ((m.map (fun p => ((.string p.1.data.toList : Lit), (.nil : DataW Unit)))).foldr DataW.insert []).length = _
    rw [(inserts_perm _).length_eq, List.length_map]
theorem sorts_in (n : Nat) : Go.Proofs.AnyZ.SortsIn Try.prog sortedL_ren Fence.wide n :=
  ⟨fun blk off cap ss W hH hblk hsz => Go.callsIn_wide.2 (Go.Proofs.AnyM.slices_Sort_string sortL blk off cap ss W hH hblk hsz),
   fun p cap W => Go.callsIn_wide.2 (Go.Proofs.AnyM.slices_Sort_string_none sortL p cap W)⟩
theorem Keys.calls (mb : Option Nat) (W : World) : Calls Try.prog 29 #[.map mb] W fun e w' => e = .returned (.func (.func 44) #[] #[.pointer (some ⟨W.heap.size, 0, none⟩)]) ∧ w' = W.alloc (.cells #[.map mb] 77) :=
  Go.callsIn_wide.1 (Go.Proofs.AnyZ.keys_in keysL Fence.wide 5 trivial rfl mb W)
set_option maxHeartbeats 1000000 in
/-- slices.Sorted at what maps.Keys handed back ('w': the world ahead of maps.Keys). -/
theorem Sorted_keys.calls {ν : Type} {ev : ν → Value} (w : World) (b : Nat) (m : List (ByteArray × ν)) (hb : w.heap[b]? = some (Go.Proofs.YtckjdncimibiaaaHand.objM Value.string ev m)) (hk : Go.Proofs.YtckjdncimibiaaaHand.KeysOk Try.prog 9 Value.string m) (hl : m.length ≤ 1000000) :
    Calls Try.prog 28 #[.func (.func 44) #[] #[.pointer (some ⟨w.heap.size, 0, none⟩)]] (w.alloc (.cells #[.map (some b)] 77)) fun e w' => ∃ v : Value, e = .returned v ∧
      Kd.R Kd.string 9 w' (w.alloc (.cells #[.map (some b)] 77)).heap.size (fun _ => True) v (sortS (m.map (·.1))) ∧ Below (w.alloc (.cells #[.map (some b)] 77)).heap.size (w.alloc (.cells #[.map (some b)] 77)) w' := by
  obtain ⟨D0, hown, hperm, hsz⟩ := objM_owns hb hk hl
  have hbl := hown.lt
  have hseq : SeqGives Fence.wide 2 Try.prog 44 #[.pointer (some ⟨w.heap.size, 0, none⟩)] encStr (fun ss => ss.Perm (Go.strKeys D0)) (Go.Maps.size D0) (w.alloc (.cells #[.map (some b)] 77)) :=
    Go.Proofs.AnyZ.keys_gives (ρ := keysL_ren) { keysL with } Fence.wide _ trivial rfl (by omega) w.heap.size b m.length D0 _ (by simp) (by simp) (by
      obtain ⟨es, clock, hb, Ft, hs, hD⟩ := hown
      exact ⟨es, clock, (Below.heap_alloc _ _ b hbl).trans hb, Ft, hs, hD⟩)
  have h := Go.callsIn_wide.1 (Go.Proofs.AnyZ.sorted_in sortedL Fence.wide 5 trivial trivial trivial trivial rfl (by omega) (sorts_in _) (enters_of Try.func43 (by kernel_rfl) rfl) 44 #[.pointer (some ⟨w.heap.size, 0, none⟩)] trivial (enters_of Try.func44 (by kernel_rfl) rfl) _ _ (by rw [hsz]; exact Nat.le_trans hl (by decide)) (by rw [hsz]; omega) _ hseq)
  refine h.mono ?_
  rintro e w' ⟨v, ss, rfl, hp, ho, _, hB⟩
  refine ⟨v, rfl, Kd.R_of_own ?_ (fun _ _ => trivial), hB⟩
  have e1 : ss.mergeSort (fun x y => decide (x ≤ y)) = (sortS (m.map (·.1))).map (fun a => a.data.toList) := by
    rw [← sortS_eq]
    refine List.Perm.eq_of_pairwise (le := fun a b => a ≤ b) (fun a b _ _ => List.le_antisymm) ?_ ?_ ?_
    · have := List.pairwise_mergeSort (le := fun x y : List UInt8 => decide (x ≤ y)) (fun a b c h1 h2 => by simp only [decide_eq_true_eq] at *; exact List.le_trans h1 h2) (fun a b => by simp only [Bool.or_eq_true, decide_eq_true_eq]; exact List.le_total a b) ss
      simpa using this
    · have := List.pairwise_mergeSort (le := fun x y : List UInt8 => decide (x ≤ y)) (fun a b c h1 h2 => by simp only [decide_eq_true_eq] at *; exact List.le_trans h1 h2) (fun a b => by simp only [Bool.or_eq_true, decide_eq_true_eq]; exact List.le_total a b) ((m.map (·.1)).map (fun a => a.data.toList))
      simpa using this
    · refine (List.mergeSort_perm _ _).trans ((hp.trans (hperm.trans ?_)).trans (List.mergeSort_perm _ _).symm)
      rw [List.map_map]
      exact .refl _
  have e2 : ss.length = (sortS (m.map (·.1))).length := by
    have := congrArg List.length e1
    rw [(List.mergeSort_perm _ _).length_eq, List.length_map] at this
    exact this
  rw [e1, Go.Lib.map_encStr, e2] at ho
  exact ho

def fee_Flows.go (k : Nat) (mm : List (ByteArray × Int)) (l1 : List S51) (l2 : List S70) (a3 : Int) : List ByteArray → List S64 → Option (List S64 × Int)
  | [], t => some (t, 0)
  | s :: r, t => if s.size ≤ 1000000 then (fee_Lots.f k (fee_first.go s l1) ((Go.Proofs.YtckjdncimibiaaaHand.look strQ mm s).getD 0) l2).bind fun x => if x.2 = 0 then (if x.1 = 0 then fee_Flows.go k mm l1 l2 a3 r t else (if t.length < 1000000 then fee_Flows.go k mm l1 l2 a3 r (t ++ [⟨s, a3, wrap64 (-x.1), 5⟩]) else none)) else some ([], x.2) else none
def fee_Flows.f (k : Nat) (l0 : List S61) (l1 : List S51) (l2 : List S70) (a3 : Int) : Option (List S64 × Int) :=
  (fee_Check.f k l2).bind fun e0 => if e0 = 0 then ((fee_long.f l0 l1).bind fun b => if b = true then some ([], 8) else (if a3 < 0 ∨ a3 ≥ 8 then some ([], 25) else ((fee_had.go k l0 []).bind fun h => if h.2 = 0 then (if h.1.length ≤ 1000000 then fee_Flows.go k h.1 l1 l2 a3 (sortS (h.1.map (·.1))) [] else none) else some ([], h.2)))) else some ([], e0)
theorem fee_Flows.mono_go (k : Nat) (mm : List (ByteArray × Int)) (l1 : List S51) (l2 : List S70) (a3 : Int) (l : List ByteArray) : ∀ t, LeO (fee_Flows.go k mm l1 l2 a3 l t) (fee_Flows.go (k + 1) mm l1 l2 a3 l t) := by
  induction l with
  | nil => intro t; exact LeO.refl _
  | cons s r ih =>
    intro t
    unfold fee_Flows.go
    exact LeO.ite (LeO.bind (fee_Lots.mono _ _ _ _) (fun x => LeO.ite (LeO.ite (ih _) (LeO.ite (ih _) (LeO.refl _))) (LeO.refl _))) (LeO.refl _)
theorem fee_Flows.mono : ∀ a0 a1 a2 a3 k, LeO (fee_Flows.f k a0 a1 a2 a3) (fee_Flows.f (k + 1) a0 a1 a2 a3) := by
  intro a0 a1 a2 a3 k
  unfold fee_Flows.f
  exact LeO.bind (fee_Check.mono _ _) (fun e0 => LeO.ite (LeO.bind (LeO.refl _) (fun b => LeO.ite (LeO.refl _) (LeO.ite (LeO.refl _) (LeO.bind (fee_had.mono _ _ _) (fun h => LeO.ite (LeO.ite (fee_Flows.mono_go _ _ _ _ _ _ _) (LeO.refl _)) (LeO.refl _)))))) (LeO.refl _))
set_option maxHeartbeats 3200000 in
set_option maxRecDepth 100000 in
theorem fee_Flows.calls (k : Nat) (A0 : Option Addr) (c0 : Nat) (l0 : List (S61)) (A1 : Option Addr) (c1 : Nat) (l1 : List (S51)) (A2 : Option Addr) (c2 : Nat) (l2 : List (S70)) (a3 : Int) (r1 : List S64) (r2 : Int) (w : World) (hr0 : Kd.C k61 w A0 l0.length l0) (hc0 : l0.length ≤ c0) (hr1 : Kd.C k51 w A1 l1.length l1) (hc1 : l1.length ≤ c1) (hr2 : Kd.C k70 w A2 l2.length l2) (hc2 : l2.length ≤ c2) (h : fee_Flows.f k l0 l1 l2 a3 = some (r1, r2)) :
    Calls Try.prog 13 #[.slice A0 l0.length c0, .slice A1 l1.length c1, .slice A2 l2.length c2, .int .i64 a3] w fun e w' => ∃ v0_ : Value, e = .returned (.tuple #[v0_, .int .i64 r2]) ∧ Kd.R k64 64 w' w.heap.size (fun _ => True) v0_ r1 ∧ Below w.heap.size w w' := by
  obtain ⟨e0, hC0, hh⟩ := Option.bind_eq_some_iff.mp h
  have HR0 := Aside0.mk hr0
  have HC0 := Aside0.mk hc0
  have HR1 := Aside0.mk hr1
  have HC1 := Aside0.mk hc1
  have HR2 := Aside0.mk hr2
  have HC2 := Aside0.mk hc2
  have HE0 := Aside0.mk hC0
  clear hr0 hc0 hr1 hc1 hr2 hc2 hC0 h
  by_cases he : e0 = 0
  case neg =>
    rw [if_neg he] at hh
    have hh2 := Option.some.inj hh
    simp only [Prod.mk.injEq] at hh2
    obtain ⟨rfl, rfl⟩ := hh2
    have h0b : (e0 == 0) = false := beq_eq_false_iff_ne.mpr he
    have h1b : (e0 != 0) = true := bne_iff_ne.mpr he
    clear he hh
    go_enter Try.func13, Try.ntmps13
    go_wp2_with ((go_at_call 10; refine (fee_Check.calls k A2 c2 l2 e0 _ HR2.out HC2.out HE0.out).mono ?_; rintro _ w1 ⟨rfl, hb⟩; have HB1 := Aside0.mk hb; clear hb))
    go_ret2
    exact ⟨_, rfl, Kd.R_nil _ _ _ _ _, HB1.out⟩
  subst he
  rw [if_pos rfl] at hh
  obtain ⟨b, hL, hh⟩ := Option.bind_eq_some_iff.mp hh
  have HLG := Aside0.mk hL
  clear hL
  cases b with
  | true =>
    rw [if_pos rfl] at hh
    have hh2 := Option.some.inj hh
    simp only [Prod.mk.injEq] at hh2
    obtain ⟨rfl, rfl⟩ := hh2
    clear hh
    go_enter Try.func13, Try.ntmps13
    go_wp2_with (first | (go_at_call 10; refine (fee_Check.calls k A2 c2 l2 0 _ HR2.out HC2.out HE0.out).mono ?_; rintro _ w1 ⟨rfl, hb⟩; have HB1 := Aside0.mk hb; clear hb) | (go_at_call 26; refine (fee_long.calls A0 c0 l0 A1 c1 l1 true _ (Kd.C_below HR0.out HB1.out) HC0.out (Kd.C_below HR1.out HB1.out) HC1.out HLG.out).mono ?_; rintro _ w2 ⟨rfl, hb⟩; have HB2 := Aside0.mk (below_step HB1.out hb.below); clear hb))
    go_ret2
    exact ⟨_, rfl, Kd.R_nil _ _ _ _ _, HB2.out⟩
  | false =>
    rw [if_neg (by decide)] at hh
    by_cases ha : a3 < 0 ∨ a3 ≥ 8
    · rw [if_pos ha] at hh
      have hh2 := Option.some.inj hh
      simp only [Prod.mk.injEq] at hh2
      obtain ⟨rfl, rfl⟩ := hh2
      clear hh
      by_cases ha1 : a3 < 0
      · have hd1 : decide (a3 < 0) = true := decide_eq_true ha1
        clear ha ha1
        go_enter Try.func13, Try.ntmps13
        go_wp2_with (first | (go_at_call 10; refine (fee_Check.calls k A2 c2 l2 0 _ HR2.out HC2.out HE0.out).mono ?_; rintro _ w1 ⟨rfl, hb⟩; have HB1 := Aside0.mk hb; clear hb) | (go_at_call 26; refine (fee_long.calls A0 c0 l0 A1 c1 l1 false _ (Kd.C_below HR0.out HB1.out) HC0.out (Kd.C_below HR1.out HB1.out) HC1.out HLG.out).mono ?_; rintro _ w2 ⟨rfl, hb⟩; have HB2 := Aside0.mk (below_step HB1.out hb.below); clear hb))
        go_ret2
        exact ⟨_, rfl, Kd.R_nil _ _ _ _ _, HB2.out⟩
      · have hd1 : decide (a3 < 0) = false := decide_eq_false ha1
        have hd2 : decide (8 ≤ a3) = true := decide_eq_true (by omega)
        clear ha ha1
        go_enter Try.func13, Try.ntmps13
        go_wp2_with (first | (go_at_call 10; refine (fee_Check.calls k A2 c2 l2 0 _ HR2.out HC2.out HE0.out).mono ?_; rintro _ w1 ⟨rfl, hb⟩; have HB1 := Aside0.mk hb; clear hb) | (go_at_call 26; refine (fee_long.calls A0 c0 l0 A1 c1 l1 false _ (Kd.C_below HR0.out HB1.out) HC0.out (Kd.C_below HR1.out HB1.out) HC1.out HLG.out).mono ?_; rintro _ w2 ⟨rfl, hb⟩; have HB2 := Aside0.mk (below_step HB1.out hb.below); clear hb))
        go_ret2
        exact ⟨_, rfl, Kd.R_nil _ _ _ _ _, HB2.out⟩
    rw [if_neg ha] at hh
    have hd1 : decide (a3 < 0) = false := decide_eq_false (by omega)
    have hd2 : decide (8 ≤ a3) = false := decide_eq_false (by omega)
    clear ha
    obtain ⟨⟨mm, em⟩, hHD, hh⟩ := Option.bind_eq_some_iff.mp hh
    simp only at hh
    have HHD := Aside0.mk hHD
    clear hHD
    by_cases he : em = 0
    case neg =>
      rw [if_neg he] at hh
      have hh2 := Option.some.inj hh
      simp only [Prod.mk.injEq] at hh2
      obtain ⟨rfl, rfl⟩ := hh2
      have h0b : (em == 0) = false := beq_eq_false_iff_ne.mpr he
      have h1b : (em != 0) = true := bne_iff_ne.mpr he
      clear he hh
      go_enter Try.func13, Try.ntmps13
      go_wp2_with (first | (go_at_call 10; refine (fee_Check.calls k A2 c2 l2 0 _ HR2.out HC2.out HE0.out).mono ?_; rintro _ w1 ⟨rfl, hb⟩; have HB1 := Aside0.mk hb; clear hb) | (go_at_call 26; refine (fee_long.calls A0 c0 l0 A1 c1 l1 false _ (Kd.C_below HR0.out HB1.out) HC0.out (Kd.C_below HR1.out HB1.out) HC1.out HLG.out).mono ?_; rintro _ w2 ⟨rfl, hb⟩; have HB2 := Aside0.mk (below_step HB1.out hb.below); clear hb) | (go_at_call 27; refine (fee_had.calls k A0 c0 l0 mm em _ (Kd.C_below HR0.out HB2.out) HC0.out HHD.out).mono ?_; rintro _ w3 ⟨vm, rfl, hm, hb⟩; have HMP := Aside0.mk hm; have HB3 := Aside0.mk (below_step HB2.out hb); clear hb hm))
      go_ret2
      exact ⟨_, rfl, Kd.R_nil _ _ _ _ _, HB3.out⟩
    subst he
    rw [if_pos rfl] at hh
    by_cases hml : mm.length ≤ 1000000
    case neg => rw [if_neg hml] at hh; cases hh
    rw [if_pos hml] at hh
    have HG := Aside0.mk hh
    have HML := Aside0.mk hml
    clear hh hml
    go_enter Try.func13, Try.ntmps13
    go_wp2_with (first | (go_at_call 10; refine (fee_Check.calls k A2 c2 l2 0 _ HR2.out HC2.out HE0.out).mono ?_; rintro _ w1 ⟨rfl, hb⟩; have HB1 := Aside0.mk hb; clear hb) | (go_at_call 26; refine (fee_long.calls A0 c0 l0 A1 c1 l1 false _ (Kd.C_below HR0.out HB1.out) HC0.out (Kd.C_below HR1.out HB1.out) HC1.out HLG.out).mono ?_; rintro _ w2 ⟨rfl, hb⟩; have HB2 := Aside0.mk (below_step HB1.out hb.below); clear hb) | (go_at_call 27; refine (fee_had.calls k A0 c0 l0 mm 0 _ (Kd.C_below HR0.out HB2.out) HC0.out HHD.out).mono ?_; rintro _ w3 ⟨vm, rfl, hm, hb⟩; have HMP := Aside0.mk hm; have HB3 := Aside0.mk (below_step HB2.out hb); clear hb hm; obtain ⟨bm, em_, hmb0, hmb, hmk⟩ := HMP.out rfl; subst em_; have HMB := Aside0.mk hmb; have HMK := Aside0.mk hmk; have HM0 := Aside0.mk hmb0; clear hmb hmk hmb0) | (go_at_call 29; refine (Keys.calls (some bm) _).mono ?_; rintro _ w4 ⟨rfl, rfl⟩) | (go_at_call 28; refine (Sorted_keys.calls w3 bm mm HMB.out HMK.out HML.out).mono ?_; rintro _ w5 ⟨vn, rfl, ho, hb⟩; have HN5 := Aside0.mk ho; have HM5 := Aside0.mk (blk_below (blk_alloc HMB.out _) hb); have HB5 := Aside0.mk (below_step (below_alloc HB3.out (.cells #[.map (some bm)] 77 (0, 0))) hb); clear ho hb; obtain ⟨An, cn, en⟩ := Kd.R_slice HN5.out; subst en))
    have hszb := HB5.out.size
    have HSL := Aside0.mk (Kd.R_reads' HN5.out).2.2.2.1
    have hsl := HSL.out
    clear HB1 HB2 HB3 HMB HMP HE0 HLG HHD
    go_loopg [13, 46] (sortS (mm.map (·.1))).length (fun kq v13 v46 w' => ∃ (y : Nat) (t : List S64), v46 = .int .i64 (y : Int) ∧ kq + y = (sortS (mm.map (·.1))).length ∧ Aside0 (fee_Flows.go k mm l1 l2 a3 ((sortS (mm.map (·.1))).drop y) t = some (r1, r2)) ∧ Aside0 (Kd.R k64 64 w' w5.heap.size (fun _ => True) v13 t) ∧ Aside0 (Below w5.heap.size w5 w'))
    case atStart => exact ⟨0, [], rfl, by omega, HG, ⟨Kd.R_nil _ _ _ _ _⟩, ⟨Below.refl _ _⟩⟩
    case round =>
      clear HG
      obtain ⟨y, t, rfl, hy, HS, HR, HBW⟩ := hrel
      have hszw := HBW.out.size
      by_cases hlt2 : y < (sortS (mm.map (·.1))).length
      · have HNW := Aside0.mk (Kd.R_below HN5.out HBW.out)
        have HMW := Aside0.mk (blk_below HM5.out HBW.out)
        have HBT := Aside0.mk (below_step HB5.out HBW.out)
        obtain ⟨adn, eas, hs0⟩ := Kd.at_string (Kd.R_reads' HNW.out).2.2 (y : Int) (by omega) (by omega)
        cases eas
        simp only [Int.toNat_natCast] at hs0
        have hdr : (sortS (mm.map (·.1))).drop y = rdOf ByteArray.empty (sortS (mm.map (·.1))) y :: (sortS (mm.map (·.1))).drop (y + 1) := by
          rw [List.drop_eq_getElem_cons hlt2]
          simp [rdOf, hlt2]
        have hs := HS.out
        rw [hdr, fee_Flows.go] at hs
        clear hdr HS
        generalize hp : rdOf ByteArray.empty (sortS (mm.map (·.1))) y = s at *
        clear hp
        by_cases hk : s.size ≤ 1000000
        case neg => rw [if_neg hk] at hs; cases hs
        rw [if_pos hk] at hs
        obtain ⟨⟨n, e⟩, hN, hs⟩ := Option.bind_eq_some_iff.mp hs
        simp only at hs
        have HLO := Aside0.mk hN
        have HKEY := Aside0.mk (str_keyOf (s := s) hk)
        clear hN hk
        by_cases he : e = 0
        case neg =>
          rw [if_neg he] at hs
          have hs2 := Option.some.inj hs
          simp only [Prod.mk.injEq] at hs2
          obtain ⟨rfl, rfl⟩ := hs2
          have h0b : (e == 0) = false := beq_eq_false_iff_ne.mpr he
          have h1b : (e != 0) = true := bne_iff_ne.mpr he
          clear he hs
          go_wp2
          refine start_ (n := 13) (S := fun w' => (Instr.lookup 77 (.map (some bm)) (.string s) false).run Try.prog w' = .ok (.int .i64 ((Go.Proofs.YtckjdncimibiaaaHand.look strQ mm s).getD 0)) w') (ds := []) #[false, false, false, false, false, false, false, false, false, false, false, false, false] (by kernel_rfl) rfl rfl ((had_look (blk_drew HMW.out) HMK.out HKEY.out)) (fun hHeld => ?_)
          refine pure_ (i := 0) (N := some 51) (v := ?_) (a' := ?_) #[true, false, false, false, false, false, false, false, false, false, false, false, false] rfl rfl (by kernel_rfl) (fun _ _ _ h => h) (Or.inl ⟨by rfl, ?_⟩) ?_ ?_
          rotate_left
          · intro w'
            go_simp
            with_reducible rfl
          rotate_left
          · simp only [Act.put, List.setIfInBounds_toArray, List.set_cons_zero, List.set_cons_succ, i64_w, i32_w]
            rfl
          refine pure_ (i := 1) (N := some 52) (v := ?_) (a' := ?_) #[true, true, false, false, false, false, false, false, false, false, false, false, false] rfl rfl (by kernel_rfl) (fun _ _ _ h => h) (Or.inl ⟨by rfl, ?_⟩) ?_ ?_
          rotate_left
          · intro w'
            go_simp
            with_reducible rfl
          rotate_left
          · simp only [Act.put, List.setIfInBounds_toArray, List.set_cons_zero, List.set_cons_succ, i64_w, i32_w]
            rfl
          refine pure_ (i := 3) (N := some 54) (v := ?_) (a' := ?_) #[true, true, false, true, false, false, false, false, false, false, false, false, false] rfl rfl (by kernel_rfl) (fun _ _ _ h => h) (Or.inl ⟨by rfl, ?_⟩) ?_ ?_
          rotate_left
          · intro w'
            go_simp
            with_reducible rfl
          rotate_left
          · simp only [Act.put, List.setIfInBounds_toArray, List.set_cons_zero, List.set_cons_succ, i64_w, i32_w]
            rfl
          refine pure_ (i := 4) (N := some 55) (v := ?_) (a' := ?_) #[true, true, false, true, true, false, false, false, false, false, false, false, false] rfl rfl (by kernel_rfl) (fun _ _ _ h => h) (Or.inl ⟨by rfl, ?_⟩) ?_ ?_
          rotate_left
          · intro w'
            go_simp
            with_reducible rfl
          rotate_left
          · simp only [Act.put, List.setIfInBounds_toArray, List.set_cons_zero, List.set_cons_succ, i64_w, i32_w]
            rfl
          refine pure_ (i := 6) (N := some 57) (v := ?_) (a' := ?_) #[true, true, false, true, true, false, true, false, false, false, false, false, false] rfl rfl (by kernel_rfl) (fun _ _ _ h => h) (Or.inl ⟨by rfl, ?_⟩) ?_ ?_
          rotate_left
          · intro w'
            go_simp
            with_reducible rfl
          rotate_left
          · simp only [Act.put, List.setIfInBounds_toArray, List.set_cons_zero, List.set_cons_succ, i64_w, i32_w]
            rfl
          refine take_ (i := 5) (N := some 56) (v := ?_) (a' := ?_) #[true, true, false, true, true, true, true, false, false, false, false, false, false] rfl rfl (by kernel_rfl) (fun _ _ _ h => h) (Or.inl ⟨by rfl, ?_⟩) hHeld ?_ ?_
          rotate_left
          · intro w' s0
            go_simp
            with_reducible rfl
          rotate_left
          · simp only [Act.put, List.setIfInBounds_toArray, List.set_cons_zero, List.set_cons_succ, i64_w, i32_w]
            rfl
          refine one_ (i := 2) (N := some 53) #[true, true, true, true, true, true, true, false, false, false, false, false, false] rfl rfl (by kernel_rfl) (by decide) (fun K hK => ?_)
          refine goes_ Try.func30 (by kernel_rfl) rfl #[.slice A1 l1.length c1, .string s] (by rfl) rfl rfl (by simp only [List.map_toArray, List.map_cons, List.map_nil]; rfl) ?_
          with_reducible refine (fee_first.calls A1 c1 l1 s (fee_first.go s l1) _ (Kd.C_drew (Kd.C_below HR1.out HBT.out)) HC1.out rfl).mono ?_
          rintro e w7 ⟨rfl, hb⟩
          refine ⟨_, rfl, ?_⟩
          have HB7 := Aside0.mk (below_step (below_drew HBT.out) hb)
          have HBW7 := Aside0.mk (below_step (below_drew HBW.out) hb)
          have HBR7 := Aside0.mk (below_step (below_drew (Below.refl wr.heap.size wr)) hb)
          have HM7 := Aside0.mk (blk_below (blk_drew HMW.out) hb)
          clear hb
          refine hK.out _ _ ((had_look HM7.out HMK.out HKEY.out)) (fun hHeld => ?_)
          clear hK K
          refine norm_ (a' := ?_) ?_ ?_
          rotate_left
          · show Act.put _ (some 53) _ = _
            simp only [Act.put, List.setIfInBounds_toArray, List.set_cons_zero, List.set_cons_succ, i64_w, i32_w]
            rfl
          refine one_ (i := 7) (N := some 58) #[true, true, true, true, true, true, true, true, false, false, false, false, false] rfl rfl (by kernel_rfl) (by decide) (fun K hK => ?_)
          refine goes_ Try.func7 (by kernel_rfl) rfl #[.int .i64 (fee_first.go s l1), .int .i64 ((Go.Proofs.YtckjdncimibiaaaHand.look strQ mm s).getD 0), .slice A2 l2.length c2] (by rfl) rfl rfl (by simp only [List.map_toArray, List.map_cons, List.map_nil]; rfl) ?_
          with_reducible refine (fee_Lots.calls k (fee_first.go s l1) ((Go.Proofs.YtckjdncimibiaaaHand.look strQ mm s).getD 0) A2 c2 l2 n e _ (Kd.C_below HR2.out HB7.out) HC2.out HLO.out).mono ?_
          rintro e w8 ⟨rfl, hb⟩
          refine ⟨_, rfl, ?_⟩
          have HB8 := Aside0.mk (below_step HB7.out hb)
          have HBW8 := Aside0.mk (below_step HBW7.out hb)
          have HBR8 := Aside0.mk (below_step HBR7.out hb)
          have HM8 := Aside0.mk (blk_below HM7.out hb)
          clear hb
          refine hK.out _ _ ((had_look HM8.out HMK.out HKEY.out)) (fun hHeld => ?_)
          clear hK K
          refine norm_ (a' := ?_) ?_ ?_
          rotate_left
          · show Act.put _ (some 58) _ = _
            simp only [Act.put, List.setIfInBounds_toArray, List.set_cons_zero, List.set_cons_succ, i64_w, i32_w]
            rfl
          refine pure_ (i := 8) (N := some 50) (v := ?_) (a' := ?_) #[true, true, true, true, true, true, true, true, true, false, false, false, false] rfl rfl (by kernel_rfl) (fun _ _ _ h => h) (Or.inl ⟨by rfl, ?_⟩) ?_ ?_
          rotate_left
          · intro w'
            go_simp
            with_reducible rfl
          rotate_left
          · simp only [Act.put, List.setIfInBounds_toArray, List.set_cons_zero, List.set_cons_succ, i64_w, i32_w]
            rfl
          refine pure_ (i := 9) (N := some 59) (v := ?_) (a' := ?_) #[true, true, true, true, true, true, true, true, true, true, false, false, false] rfl rfl (by kernel_rfl) (fun _ _ _ h => h) (Or.inl ⟨by rfl, ?_⟩) ?_ ?_
          rotate_left
          · intro w'
            go_simp
            with_reducible rfl
          rotate_left
          · simp only [Act.put, List.setIfInBounds_toArray, List.set_cons_zero, List.set_cons_succ, i64_w, i32_w]
            rfl
          refine pure_ (i := 10) (N := some 60) (v := ?_) (a' := ?_) #[true, true, true, true, true, true, true, true, true, true, true, false, false] rfl rfl (by kernel_rfl) (fun _ _ _ h => h) (Or.inl ⟨by rfl, ?_⟩) ?_ ?_
          rotate_left
          · intro w'
            go_simp
            with_reducible rfl
          rotate_left
          · simp only [Act.put, List.setIfInBounds_toArray, List.set_cons_zero, List.set_cons_succ, i64_w, i32_w]
            rfl
          refine pure_ (i := 11) (N := some 16) (v := ?_) (a' := ?_) #[true, true, true, true, true, true, true, true, true, true, true, true, false] rfl rfl (by kernel_rfl) (fun _ _ _ h => h) (Or.inl ⟨by rfl, ?_⟩) ?_ ?_
          rotate_left
          · intro w'
            go_simp
            with_reducible rfl
          rotate_left
          · simp only [Act.put, List.setIfInBounds_toArray, List.set_cons_zero, List.set_cons_succ, i64_w, i32_w]
            rfl
          refine pure_ (i := 12) (N := some 17) (v := ?_) (a' := ?_) #[true, true, true, true, true, true, true, true, true, true, true, true, true] rfl rfl (by kernel_rfl) (fun _ _ _ h => h) (Or.inl ⟨by rfl, ?_⟩) ?_ ?_
          rotate_left
          · intro w'
            go_simp
            with_reducible rfl
          rotate_left
          · simp only [Act.put, List.setIfInBounds_toArray, List.set_cons_zero, List.set_cons_succ, i64_w, i32_w]
            rfl
          refine done_ (by kernel_rfl) ?_
          go_wp2
          go_ret2
          exact ⟨_, rfl, Kd.R_nil _ _ _ _ _, HB8.out⟩
        subst he
        rw [if_pos rfl] at hs
        by_cases hn : n = 0
        · rw [if_pos hn] at hs
          have HS2 := Aside0.mk hs
          subst hn
          clear hs
          go_wp2
          refine start_ (n := 13) (S := fun w' => (Instr.lookup 77 (.map (some bm)) (.string s) false).run Try.prog w' = .ok (.int .i64 ((Go.Proofs.YtckjdncimibiaaaHand.look strQ mm s).getD 0)) w') (ds := []) #[false, false, false, false, false, false, false, false, false, false, false, false, false] (by kernel_rfl) rfl rfl ((had_look (blk_drew HMW.out) HMK.out HKEY.out)) (fun hHeld => ?_)
          refine pure_ (i := 0) (N := some 51) (v := ?_) (a' := ?_) #[true, false, false, false, false, false, false, false, false, false, false, false, false] rfl rfl (by kernel_rfl) (fun _ _ _ h => h) (Or.inl ⟨by rfl, ?_⟩) ?_ ?_
          rotate_left
          · intro w'
            go_simp
            with_reducible rfl
          rotate_left
          · simp only [Act.put, List.setIfInBounds_toArray, List.set_cons_zero, List.set_cons_succ, i64_w, i32_w]
            rfl
          refine pure_ (i := 1) (N := some 52) (v := ?_) (a' := ?_) #[true, true, false, false, false, false, false, false, false, false, false, false, false] rfl rfl (by kernel_rfl) (fun _ _ _ h => h) (Or.inl ⟨by rfl, ?_⟩) ?_ ?_
          rotate_left
          · intro w'
            go_simp
            with_reducible rfl
          rotate_left
          · simp only [Act.put, List.setIfInBounds_toArray, List.set_cons_zero, List.set_cons_succ, i64_w, i32_w]
            rfl
          refine pure_ (i := 3) (N := some 54) (v := ?_) (a' := ?_) #[true, true, false, true, false, false, false, false, false, false, false, false, false] rfl rfl (by kernel_rfl) (fun _ _ _ h => h) (Or.inl ⟨by rfl, ?_⟩) ?_ ?_
          rotate_left
          · intro w'
            go_simp
            with_reducible rfl
          rotate_left
          · simp only [Act.put, List.setIfInBounds_toArray, List.set_cons_zero, List.set_cons_succ, i64_w, i32_w]
            rfl
          refine pure_ (i := 4) (N := some 55) (v := ?_) (a' := ?_) #[true, true, false, true, true, false, false, false, false, false, false, false, false] rfl rfl (by kernel_rfl) (fun _ _ _ h => h) (Or.inl ⟨by rfl, ?_⟩) ?_ ?_
          rotate_left
          · intro w'
            go_simp
            with_reducible rfl
          rotate_left
          · simp only [Act.put, List.setIfInBounds_toArray, List.set_cons_zero, List.set_cons_succ, i64_w, i32_w]
            rfl
          refine pure_ (i := 6) (N := some 57) (v := ?_) (a' := ?_) #[true, true, false, true, true, false, true, false, false, false, false, false, false] rfl rfl (by kernel_rfl) (fun _ _ _ h => h) (Or.inl ⟨by rfl, ?_⟩) ?_ ?_
          rotate_left
          · intro w'
            go_simp
            with_reducible rfl
          rotate_left
          · simp only [Act.put, List.setIfInBounds_toArray, List.set_cons_zero, List.set_cons_succ, i64_w, i32_w]
            rfl
          refine take_ (i := 5) (N := some 56) (v := ?_) (a' := ?_) #[true, true, false, true, true, true, true, false, false, false, false, false, false] rfl rfl (by kernel_rfl) (fun _ _ _ h => h) (Or.inl ⟨by rfl, ?_⟩) hHeld ?_ ?_
          rotate_left
          · intro w' s0
            go_simp
            with_reducible rfl
          rotate_left
          · simp only [Act.put, List.setIfInBounds_toArray, List.set_cons_zero, List.set_cons_succ, i64_w, i32_w]
            rfl
          refine one_ (i := 2) (N := some 53) #[true, true, true, true, true, true, true, false, false, false, false, false, false] rfl rfl (by kernel_rfl) (by decide) (fun K hK => ?_)
          refine goes_ Try.func30 (by kernel_rfl) rfl #[.slice A1 l1.length c1, .string s] (by rfl) rfl rfl (by simp only [List.map_toArray, List.map_cons, List.map_nil]; rfl) ?_
          with_reducible refine (fee_first.calls A1 c1 l1 s (fee_first.go s l1) _ (Kd.C_drew (Kd.C_below HR1.out HBT.out)) HC1.out rfl).mono ?_
          rintro e w7 ⟨rfl, hb⟩
          refine ⟨_, rfl, ?_⟩
          have HB7 := Aside0.mk (below_step (below_drew HBT.out) hb)
          have HBW7 := Aside0.mk (below_step (below_drew HBW.out) hb)
          have HBR7 := Aside0.mk (below_step (below_drew (Below.refl wr.heap.size wr)) hb)
          have HM7 := Aside0.mk (blk_below (blk_drew HMW.out) hb)
          clear hb
          refine hK.out _ _ ((had_look HM7.out HMK.out HKEY.out)) (fun hHeld => ?_)
          clear hK K
          refine norm_ (a' := ?_) ?_ ?_
          rotate_left
          · show Act.put _ (some 53) _ = _
            simp only [Act.put, List.setIfInBounds_toArray, List.set_cons_zero, List.set_cons_succ, i64_w, i32_w]
            rfl
          refine one_ (i := 7) (N := some 58) #[true, true, true, true, true, true, true, true, false, false, false, false, false] rfl rfl (by kernel_rfl) (by decide) (fun K hK => ?_)
          refine goes_ Try.func7 (by kernel_rfl) rfl #[.int .i64 (fee_first.go s l1), .int .i64 ((Go.Proofs.YtckjdncimibiaaaHand.look strQ mm s).getD 0), .slice A2 l2.length c2] (by rfl) rfl rfl (by simp only [List.map_toArray, List.map_cons, List.map_nil]; rfl) ?_
          with_reducible refine (fee_Lots.calls k (fee_first.go s l1) ((Go.Proofs.YtckjdncimibiaaaHand.look strQ mm s).getD 0) A2 c2 l2 0 0 _ (Kd.C_below HR2.out HB7.out) HC2.out HLO.out).mono ?_
          rintro e w8 ⟨rfl, hb⟩
          refine ⟨_, rfl, ?_⟩
          have HB8 := Aside0.mk (below_step HB7.out hb)
          have HBW8 := Aside0.mk (below_step HBW7.out hb)
          have HBR8 := Aside0.mk (below_step HBR7.out hb)
          have HM8 := Aside0.mk (blk_below HM7.out hb)
          clear hb
          refine hK.out _ _ ((had_look HM8.out HMK.out HKEY.out)) (fun hHeld => ?_)
          clear hK K
          refine norm_ (a' := ?_) ?_ ?_
          rotate_left
          · show Act.put _ (some 58) _ = _
            simp only [Act.put, List.setIfInBounds_toArray, List.set_cons_zero, List.set_cons_succ, i64_w, i32_w]
            rfl
          refine pure_ (i := 8) (N := some 50) (v := ?_) (a' := ?_) #[true, true, true, true, true, true, true, true, true, false, false, false, false] rfl rfl (by kernel_rfl) (fun _ _ _ h => h) (Or.inl ⟨by rfl, ?_⟩) ?_ ?_
          rotate_left
          · intro w'
            go_simp
            with_reducible rfl
          rotate_left
          · simp only [Act.put, List.setIfInBounds_toArray, List.set_cons_zero, List.set_cons_succ, i64_w, i32_w]
            rfl
          refine pure_ (i := 9) (N := some 59) (v := ?_) (a' := ?_) #[true, true, true, true, true, true, true, true, true, true, false, false, false] rfl rfl (by kernel_rfl) (fun _ _ _ h => h) (Or.inl ⟨by rfl, ?_⟩) ?_ ?_
          rotate_left
          · intro w'
            go_simp
            with_reducible rfl
          rotate_left
          · simp only [Act.put, List.setIfInBounds_toArray, List.set_cons_zero, List.set_cons_succ, i64_w, i32_w]
            rfl
          refine pure_ (i := 10) (N := some 60) (v := ?_) (a' := ?_) #[true, true, true, true, true, true, true, true, true, true, true, false, false] rfl rfl (by kernel_rfl) (fun _ _ _ h => h) (Or.inl ⟨by rfl, ?_⟩) ?_ ?_
          rotate_left
          · intro w'
            go_simp
            with_reducible rfl
          rotate_left
          · simp only [Act.put, List.setIfInBounds_toArray, List.set_cons_zero, List.set_cons_succ, i64_w, i32_w]
            rfl
          refine pure_ (i := 11) (N := some 16) (v := ?_) (a' := ?_) #[true, true, true, true, true, true, true, true, true, true, true, true, false] rfl rfl (by kernel_rfl) (fun _ _ _ h => h) (Or.inl ⟨by rfl, ?_⟩) ?_ ?_
          rotate_left
          · intro w'
            go_simp
            with_reducible rfl
          rotate_left
          · simp only [Act.put, List.setIfInBounds_toArray, List.set_cons_zero, List.set_cons_succ, i64_w, i32_w]
            rfl
          refine pure_ (i := 12) (N := some 17) (v := ?_) (a' := ?_) #[true, true, true, true, true, true, true, true, true, true, true, true, true] rfl rfl (by kernel_rfl) (fun _ _ _ h => h) (Or.inl ⟨by rfl, ?_⟩) ?_ ?_
          rotate_left
          · intro w'
            go_simp
            with_reducible rfl
          rotate_left
          · simp only [Act.put, List.setIfInBounds_toArray, List.set_cons_zero, List.set_cons_succ, i64_w, i32_w]
            rfl
          refine done_ (by kernel_rfl) ?_
          go_wp2
          go_roundg ((sortS (mm.map (·.1))).length - (y + 1))
          case measure => omega
          case rel => exact ⟨y + 1, t, by go_num, by omega, HS2, ⟨Kd.R_below HR.out HBR8.out⟩, HBW8⟩
        · rw [if_neg hn] at hs
          by_cases hln : t.length < 1000000
          case neg => rw [if_neg hln] at hs; cases hs
          rw [if_pos hln] at hs
          have HS2 := Aside0.mk hs
          have HL : Aside0 ((t.length + 1) * 40 ≤ 140737488355328) := ⟨by omega⟩
          have h0n : (n == 0) = false := beq_eq_false_iff_ne.mpr hn
          have h1n : (n != 0) = true := bne_iff_ne.mpr hn
          clear hs hn hln
          go_wp2
          refine start_ (n := 13) (S := fun w' => (Instr.lookup 77 (.map (some bm)) (.string s) false).run Try.prog w' = .ok (.int .i64 ((Go.Proofs.YtckjdncimibiaaaHand.look strQ mm s).getD 0)) w') (ds := []) #[false, false, false, false, false, false, false, false, false, false, false, false, false] (by kernel_rfl) rfl rfl ((had_look (blk_drew HMW.out) HMK.out HKEY.out)) (fun hHeld => ?_)
          refine pure_ (i := 0) (N := some 51) (v := ?_) (a' := ?_) #[true, false, false, false, false, false, false, false, false, false, false, false, false] rfl rfl (by kernel_rfl) (fun _ _ _ h => h) (Or.inl ⟨by rfl, ?_⟩) ?_ ?_
          rotate_left
          · intro w'
            go_simp
            with_reducible rfl
          rotate_left
          · simp only [Act.put, List.setIfInBounds_toArray, List.set_cons_zero, List.set_cons_succ, i64_w, i32_w]
            rfl
          refine pure_ (i := 1) (N := some 52) (v := ?_) (a' := ?_) #[true, true, false, false, false, false, false, false, false, false, false, false, false] rfl rfl (by kernel_rfl) (fun _ _ _ h => h) (Or.inl ⟨by rfl, ?_⟩) ?_ ?_
          rotate_left
          · intro w'
            go_simp
            with_reducible rfl
          rotate_left
          · simp only [Act.put, List.setIfInBounds_toArray, List.set_cons_zero, List.set_cons_succ, i64_w, i32_w]
            rfl
          refine pure_ (i := 3) (N := some 54) (v := ?_) (a' := ?_) #[true, true, false, true, false, false, false, false, false, false, false, false, false] rfl rfl (by kernel_rfl) (fun _ _ _ h => h) (Or.inl ⟨by rfl, ?_⟩) ?_ ?_
          rotate_left
          · intro w'
            go_simp
            with_reducible rfl
          rotate_left
          · simp only [Act.put, List.setIfInBounds_toArray, List.set_cons_zero, List.set_cons_succ, i64_w, i32_w]
            rfl
          refine pure_ (i := 4) (N := some 55) (v := ?_) (a' := ?_) #[true, true, false, true, true, false, false, false, false, false, false, false, false] rfl rfl (by kernel_rfl) (fun _ _ _ h => h) (Or.inl ⟨by rfl, ?_⟩) ?_ ?_
          rotate_left
          · intro w'
            go_simp
            with_reducible rfl
          rotate_left
          · simp only [Act.put, List.setIfInBounds_toArray, List.set_cons_zero, List.set_cons_succ, i64_w, i32_w]
            rfl
          refine pure_ (i := 6) (N := some 57) (v := ?_) (a' := ?_) #[true, true, false, true, true, false, true, false, false, false, false, false, false] rfl rfl (by kernel_rfl) (fun _ _ _ h => h) (Or.inl ⟨by rfl, ?_⟩) ?_ ?_
          rotate_left
          · intro w'
            go_simp
            with_reducible rfl
          rotate_left
          · simp only [Act.put, List.setIfInBounds_toArray, List.set_cons_zero, List.set_cons_succ, i64_w, i32_w]
            rfl
          refine take_ (i := 5) (N := some 56) (v := ?_) (a' := ?_) #[true, true, false, true, true, true, true, false, false, false, false, false, false] rfl rfl (by kernel_rfl) (fun _ _ _ h => h) (Or.inl ⟨by rfl, ?_⟩) hHeld ?_ ?_
          rotate_left
          · intro w' s0
            go_simp
            with_reducible rfl
          rotate_left
          · simp only [Act.put, List.setIfInBounds_toArray, List.set_cons_zero, List.set_cons_succ, i64_w, i32_w]
            rfl
          refine one_ (i := 2) (N := some 53) #[true, true, true, true, true, true, true, false, false, false, false, false, false] rfl rfl (by kernel_rfl) (by decide) (fun K hK => ?_)
          refine goes_ Try.func30 (by kernel_rfl) rfl #[.slice A1 l1.length c1, .string s] (by rfl) rfl rfl (by simp only [List.map_toArray, List.map_cons, List.map_nil]; rfl) ?_
          with_reducible refine (fee_first.calls A1 c1 l1 s (fee_first.go s l1) _ (Kd.C_drew (Kd.C_below HR1.out HBT.out)) HC1.out rfl).mono ?_
          rintro e w7 ⟨rfl, hb⟩
          refine ⟨_, rfl, ?_⟩
          have HB7 := Aside0.mk (below_step (below_drew HBT.out) hb)
          have HBW7 := Aside0.mk (below_step (below_drew HBW.out) hb)
          have HBR7 := Aside0.mk (below_step (below_drew (Below.refl wr.heap.size wr)) hb)
          have HM7 := Aside0.mk (blk_below (blk_drew HMW.out) hb)
          clear hb
          refine hK.out _ _ ((had_look HM7.out HMK.out HKEY.out)) (fun hHeld => ?_)
          clear hK K
          refine norm_ (a' := ?_) ?_ ?_
          rotate_left
          · show Act.put _ (some 53) _ = _
            simp only [Act.put, List.setIfInBounds_toArray, List.set_cons_zero, List.set_cons_succ, i64_w, i32_w]
            rfl
          refine one_ (i := 7) (N := some 58) #[true, true, true, true, true, true, true, true, false, false, false, false, false] rfl rfl (by kernel_rfl) (by decide) (fun K hK => ?_)
          refine goes_ Try.func7 (by kernel_rfl) rfl #[.int .i64 (fee_first.go s l1), .int .i64 ((Go.Proofs.YtckjdncimibiaaaHand.look strQ mm s).getD 0), .slice A2 l2.length c2] (by rfl) rfl rfl (by simp only [List.map_toArray, List.map_cons, List.map_nil]; rfl) ?_
          with_reducible refine (fee_Lots.calls k (fee_first.go s l1) ((Go.Proofs.YtckjdncimibiaaaHand.look strQ mm s).getD 0) A2 c2 l2 n 0 _ (Kd.C_below HR2.out HB7.out) HC2.out HLO.out).mono ?_
          rintro e w8 ⟨rfl, hb⟩
          refine ⟨_, rfl, ?_⟩
          have HB8 := Aside0.mk (below_step HB7.out hb)
          have HBW8 := Aside0.mk (below_step HBW7.out hb)
          have HBR8 := Aside0.mk (below_step HBR7.out hb)
          have HM8 := Aside0.mk (blk_below HM7.out hb)
          clear hb
          refine hK.out _ _ ((had_look HM8.out HMK.out HKEY.out)) (fun hHeld => ?_)
          clear hK K
          refine norm_ (a' := ?_) ?_ ?_
          rotate_left
          · show Act.put _ (some 58) _ = _
            simp only [Act.put, List.setIfInBounds_toArray, List.set_cons_zero, List.set_cons_succ, i64_w, i32_w]
            rfl
          refine pure_ (i := 8) (N := some 50) (v := ?_) (a' := ?_) #[true, true, true, true, true, true, true, true, true, false, false, false, false] rfl rfl (by kernel_rfl) (fun _ _ _ h => h) (Or.inl ⟨by rfl, ?_⟩) ?_ ?_
          rotate_left
          · intro w'
            go_simp
            with_reducible rfl
          rotate_left
          · simp only [Act.put, List.setIfInBounds_toArray, List.set_cons_zero, List.set_cons_succ, i64_w, i32_w]
            rfl
          refine pure_ (i := 9) (N := some 59) (v := ?_) (a' := ?_) #[true, true, true, true, true, true, true, true, true, true, false, false, false] rfl rfl (by kernel_rfl) (fun _ _ _ h => h) (Or.inl ⟨by rfl, ?_⟩) ?_ ?_
          rotate_left
          · intro w'
            go_simp
            with_reducible rfl
          rotate_left
          · simp only [Act.put, List.setIfInBounds_toArray, List.set_cons_zero, List.set_cons_succ, i64_w, i32_w]
            rfl
          refine pure_ (i := 10) (N := some 60) (v := ?_) (a' := ?_) #[true, true, true, true, true, true, true, true, true, true, true, false, false] rfl rfl (by kernel_rfl) (fun _ _ _ h => h) (Or.inl ⟨by rfl, ?_⟩) ?_ ?_
          rotate_left
          · intro w'
            go_simp
            with_reducible rfl
          rotate_left
          · simp only [Act.put, List.setIfInBounds_toArray, List.set_cons_zero, List.set_cons_succ, i64_w, i32_w]
            rfl
          refine pure_ (i := 11) (N := some 16) (v := ?_) (a' := ?_) #[true, true, true, true, true, true, true, true, true, true, true, true, false] rfl rfl (by kernel_rfl) (fun _ _ _ h => h) (Or.inl ⟨by rfl, ?_⟩) ?_ ?_
          rotate_left
          · intro w'
            go_simp
            with_reducible rfl
          rotate_left
          · simp only [Act.put, List.setIfInBounds_toArray, List.set_cons_zero, List.set_cons_succ, i64_w, i32_w]
            rfl
          refine pure_ (i := 12) (N := some 17) (v := ?_) (a' := ?_) #[true, true, true, true, true, true, true, true, true, true, true, true, true] rfl rfl (by kernel_rfl) (fun _ _ _ h => h) (Or.inl ⟨by rfl, ?_⟩) ?_ ?_
          rotate_left
          · intro w'
            go_simp
            with_reducible rfl
          rotate_left
          · simp only [Act.put, List.setIfInBounds_toArray, List.set_cons_zero, List.set_cons_succ, i64_w, i32_w]
            rfl
          refine done_ (by kernel_rfl) ?_
          have HR8 := Aside0.mk (Kd.R_below HR.out HBR8.out)
          go_wp2_with (((with_reducible refine gate_builtin (b := .append) (xs := #[.tmp 66, .tmp 72]) rfl ?_); at_builtin; refine Kd.R_append k64 (w0 := w5) w5.heap.size rfl (.tmp 66) (.tmp 72) 38 64 (.agg #[(.string ⟨#[]⟩), (.int .i64 0), (.int .i64 0), (.int .i64 0)]) 40 rfl Try.underlying38 info64 rfl (by decide) (by decide) u13 t ⟨s, a3, wrap64 (-n), 5⟩ [.string s, .int .i64 a3, .int .i64 (wrap64 (-n)), .int .i64 5] (fun _ => True) (fun _ => False) rfl ?aX ?aP (fun _ hk => hk.elim) (fun _ _ => trivial) HR8.out HBW8.out HBW8.out.size ?aL ?_; (case aX => rfl); (case aP => exact k64_mkM _ _ _ ⟨s, a3, wrap64 (-n), 5⟩); (case aL => exact HL.out); intro v9 w9 ho hb9 hg9 _; have HR9 := Aside0.mk ho; have HB9 := Aside0.mk hb9; clear ho hb9 hg9))
          go_roundg ((sortS (mm.map (·.1))).length - (y + 1))
          case measure => omega
          case rel => exact ⟨y + 1, _, by go_num, by omega, HS2, HR9, HB9⟩
      · have hye : y = (sortS (mm.map (·.1))).length := by omega
        have hs := HS.out
        rw [List.drop_eq_nil_of_le (by omega), fee_Flows.go] at hs
        have hs2 := Option.some.inj hs
        simp only [Prod.mk.injEq] at hs2
        obtain ⟨rfl, rfl⟩ := hs2
        have hd2_ : decide ((y : Int) < ((sortS (mm.map (·.1))).length : Int)) = false := decide_eq_false (by omega)
        clear hs HS hye
        go_wp2
        go_ret2
        exact ⟨_, rfl, Kd.R_lower HR.out hszb, below_step HB5.out HBW.out⟩

end Go.Proofs.Ytckjdncimibiaaa.PFeeRises
