-- Written by a program of this session's (a turned copy of the kit's print, with functions proved by hand).
import Derived.Test.YtaookghbppimnaaPStressMarginx0
import Derived.Test.YtaookghbppimnaaPStressMarginx2
import Derived.Test.YtaookghbppimnaaPStressMarginx3
namespace Go.Proofs.Ytaookghbppimnaa.PStressMargin
open Go.RowKit Go.Proofs.YtaookghbppimnaaW.PrintWords Go.Proofs.YtaookghbppimnaaW.PrintLast Go.Proofs.YtaookghbppimnaaW.PrintMore
attribute [local go_sem] max2_int min2_int max_two min_two max_three min_three max_four min_four Go.Proofs.YtaookghbppimnaaHand.run_leq_str Go.Proofs.YtaookghbppimnaaHand.run_gtr_str Go.Proofs.YtaookghbppimnaaHand.run_geq_str   -- for this text's walks alone
set_option linter.unusedVariables false
set_option linter.unusedSimpArgs false

/-! ### stress_Bare: function 11 -/
def laysSort_ren : Go.Shelf.Ren := ⟨fun | 190 => 23 | 125 => 39 | 258 => 38 | 128 => 55 | 129 => 56 | 302 => 47 | 303 => 48 | 304 => 49 | 305 => 50 | 306 => 51 | 307 => 52 | 308 => 45 | 309 => 53 | 310 => 54 | 333 => 58 | 329 => 59 | 330 => 60 | 334 => 61 | 335 => 62 | 336 => 57 | 344 => 63 | n => n, fun | 31 => 26 | 9 => 9 | 3 => 3 | 46 => 50 | 0 => 0 | 51 => 90 | 53 => 92 | 4 => 4 | 183 => 84 | 182 => 83 | 131 => 74 | 5 => 5 | 218 => 93 | 222 => 97 | 228 => 99 | 229 => 58 | n => n, fun | n => n⟩
theorem laysSort : Go.Proofs.Lays.n190 Try.prog laysSort_ren where
  mixed := by kernel_rfl
  f125 := Try.func39.trans (congrArg some (by kernel_rfl))
  f128 := Try.func55.trans (congrArg some (by kernel_rfl))
  f129 := Try.func56.trans (congrArg some (by kernel_rfl))
  f190 := Try.func23.trans (congrArg some (by kernel_rfl))
  f258 := Try.func38.trans (congrArg some (by kernel_rfl))
  f302 := Try.func47.trans (congrArg some (by kernel_rfl))
  f303 := Try.func48.trans (congrArg some (by kernel_rfl))
  f304 := Try.func49.trans (congrArg some (by kernel_rfl))
  f305 := Try.func50.trans (congrArg some (by kernel_rfl))
  f306 := Try.func51.trans (congrArg some (by kernel_rfl))
  f307 := Try.func52.trans (congrArg some (by kernel_rfl))
  f308 := Try.func45.trans (congrArg some (by kernel_rfl))
  f309 := Try.func53.trans (congrArg some (by kernel_rfl))
  f310 := Try.func54.trans (congrArg some (by kernel_rfl))
  f329 := Try.func59.trans (congrArg some (by kernel_rfl))
  f330 := Try.func60.trans (congrArg some (by kernel_rfl))
  f333 := Try.func58.trans (congrArg some (by kernel_rfl))
  f334 := Try.func61.trans (congrArg some (by kernel_rfl))
  f335 := Try.func62.trans (congrArg some (by kernel_rfl))
  f336 := Try.func57.trans (congrArg some (by kernel_rfl))
  f344 := Try.func63.trans (congrArg some (by kernel_rfl))
  t0 := Try.underlying0
  a0 := Try.isAgg0
  z0 := Try.sizeOf0
  v0 := Try.zeroValue0
  t3 := Try.underlying3
  a3 := Try.isAgg3
  z3 := Try.sizeOf3
  v3 := Try.zeroValue3
  t4 := Try.underlying4
  a4 := Try.isAgg4
  z4 := Try.sizeOf4
  v4 := Try.zeroValue4
  t5 := Try.underlying5
  a5 := Try.isAgg5
  z5 := Try.sizeOf5
  v5 := Try.zeroValue5
  t9 := Try.underlying9
  a9 := Try.isAgg9
  z9 := Try.sizeOf9
  v9 := Try.zeroValue9
  t31 := Try.underlying26
  a31 := Try.isAgg26
  z31 := Try.sizeOf26
  v31 := Try.zeroValue26
  t46 := Try.underlying50
  a46 := Try.isAgg50
  z46 := Try.sizeOf50
  v46 := Try.zeroValue50
  t51 := Try.underlying90
  a51 := Try.isAgg90
  z51 := Try.sizeOf90
  v51 := Try.zeroValue90
  t53 := Try.underlying92
  a53 := Try.isAgg92
  z53 := Try.sizeOf92
  v53 := Try.zeroValue92
  t131 := Try.underlying74
  a131 := Try.isAgg74
  z131 := Try.sizeOf74
  v131 := Try.zeroValue74
  t182 := Try.underlying83
  a182 := Try.isAgg83
  z182 := Try.sizeOf83
  v182 := Try.zeroValue83
  t183 := Try.underlying84
  a183 := Try.isAgg84
  z183 := Try.sizeOf84
  v183 := Try.zeroValue84
  t218 := Try.underlying93
  a218 := Try.isAgg93
  z218 := Try.sizeOf93
  v218 := Try.zeroValue93
  t222 := Try.underlying97
  a222 := Try.isAgg97
  z222 := Try.sizeOf97
  v222 := Try.zeroValue97
  t228 := Try.underlying99
  a228 := Try.isAgg99
  z228 := Try.sizeOf99
  v228 := Try.zeroValue99
  t229 := Try.underlying58
  a229 := Try.isAgg58
  z229 := Try.sizeOf58
  v229 := Try.zeroValue58
def insS (x : ByteArray) : List ByteArray → List ByteArray
  | [] => [x]
  | y :: r => if Op.bytesLess y.toList x.toList = true then y :: insS x r else x :: y :: r
def sortS : List ByteArray → List ByteArray
  | [] => []
  | x :: r => insS x (sortS r)
theorem insS_perm (x : ByteArray) (l : List ByteArray) : (insS x l).Perm (x :: l) := by
  induction l with
  | nil => exact .refl _
  | cons y r ih =>
    rw [insS]
    split
    · exact (List.Perm.cons y ih).trans (List.Perm.swap x y r)
    · exact .refl _
theorem sortS_perm (l : List ByteArray) : (sortS l).Perm l := by
  induction l with
  | nil => exact .refl _
  | cons x r ih => exact (insS_perm x _).trans (List.Perm.cons x ih)
theorem leS (a b : ByteArray) : (Op.bytesLess b.toList a.toList = false) ↔ a.data.toList ≤ b.data.toList := by
  rw [Go.Proofs.bytesLess_eq, ByteArray.toList_eq, ByteArray.toList_eq, decide_eq_false_iff_not]
  rfl
theorem insS_sorted (x : ByteArray) {l : List ByteArray} (h : l.Pairwise fun a b => a.data.toList ≤ b.data.toList) : (insS x l).Pairwise fun a b => a.data.toList ≤ b.data.toList := by
  induction l with
  | nil => exact List.pairwise_singleton _ _
  | cons y r ih =>
    rw [List.pairwise_cons] at h
    rw [insS]
    split
    · rename_i hlt
      rw [List.pairwise_cons]
      refine ⟨fun b hb => ?_, ih h.2⟩
      rcases List.mem_cons.mp ((insS_perm x r).mem_iff.mp hb) with rfl | hb
      · rw [Go.Proofs.bytesLess_eq, ByteArray.toList_eq, ByteArray.toList_eq, decide_eq_true_eq] at hlt
        exact List.le_of_lt hlt
      · exact h.1 b hb
    · rename_i hlt
      have hxy := (leS x y).mp (by simpa using hlt)
      rw [List.pairwise_cons]
      refine ⟨fun b hb => ?_, List.pairwise_cons.mpr h⟩
      rcases List.mem_cons.mp hb with rfl | hb
      · exact hxy
      · exact List.le_trans hxy (h.1 b hb)
theorem sortS_sorted (l : List ByteArray) : (sortS l).Pairwise fun a b => a.data.toList ≤ b.data.toList := by
  induction l with
  | nil => exact List.Pairwise.nil
  | cons x r ih => exact insS_sorted x ih
theorem sortS_eq (l : List ByteArray) : (l.map (·.data.toList)).mergeSort (fun x y => decide (x ≤ y)) = (sortS l).map (·.data.toList) := by
  refine List.Perm.eq_of_pairwise (le := fun a b => a ≤ b) (fun a b _ _ => List.le_antisymm) ?_ ?_ ?_
  · have := List.pairwise_mergeSort (le := fun x y : List UInt8 => decide (x ≤ y)) (fun a b c h1 h2 => by simp only [decide_eq_true_eq] at *; exact List.le_trans h1 h2) (fun a b => by simp only [Bool.or_eq_true, decide_eq_true_eq]; exact List.le_total a b) (l.map (·.data.toList))
    simpa using this
  · rw [List.pairwise_map]
    exact sortS_sorted l
  · exact (List.mergeSort_perm _ _).trans ((sortS_perm l).map _).symm

/-- slices.Sort of strings: the row holds the strings in order; nothing else has turned. -/
theorem Sort_string.calls {w : World} {base : Nat} {ok : Nat → Prop} (v : Value) (xs : List ByteArray) (hR : Kd.R Kd.string 9 w base ok v xs) (hlen : xs.length < 4611686018427387904) :
    Calls Try.prog 23 #[v] w fun e w' => e = .returned (.tuple #[]) ∧ Kd.R Kd.string 9 w' base ok v (sortS xs) ∧ w.grownBy w' v.ownBlock := by
  have hok := hR.1
  have ho := Kd.own_of_R hR
  have hs : (sortS xs).length = xs.length := (sortS_perm xs).length_eq
  unfold encs at ho
  rw [← Go.Lib.map_encStr] at ho
  have hl : (xs.map (fun a => a.data.toList)).length = xs.length := by simp
  rcases ho.2 with ⟨rfl, h0⟩ | ⟨g, cap, cur, rfl, hbase, hb, h1, h2, h3, h4⟩
  · have hx : xs = [] := by
      have : xs.length = 0 := by simpa using h0
      exact List.length_eq_zero_iff.mp this
    subst hx
    refine (Go.Proofs.Any.slices_Sort_string_none laysSort none 0 w).mono ?_
    rintro e w' ⟨rfl, rfl⟩
    exact ⟨rfl, hR, rfl, rfl, rfl, Nat.le_refl _, fun i _ _ => rfl⟩
  · have hH := Go.holds_of_block (ss := xs.map (fun a => a.data.toList)) hb (by rw [hl]; simpa using h4)
    have hc := Go.calls_of_every_depth fun D => Go.Proofs.AnyS.slices_Sort_string_alone laysSort D g 0 cap (xs.map (fun a => a.data.toList)) w hH (Array.getElem?_eq_some_iff.1 hb).1 (by rw [hl]; exact hlen)
    rw [hl] at hc
    refine hc.mono ?_
    rintro e w' ⟨rfl, n, os, rfl⟩
    rw [sortS_eq]
    have hr := Go.ownsRow_sorted (n := n) (os := os) (ss := xs.map (fun a => a.data.toList)) (ts := (sortS xs).map (fun a => a.data.toList)) (by simp [hs]) hbase hb (by rw [hl]; exact h1) h2 h3
    refine ⟨rfl, Kd.R_of_own ?_ hok, ?_⟩
    · rw [hl, Go.Lib.map_encStr] at hr
      unfold encs
      rw [hs]
      exact hr
    · exact Go.grownBy_sorted _

/-- Strings as a map's keys. -/
def strQ (x y : ByteArray) : Bool := x.toList == y.toList
theorem strQ_iff (x y : ByteArray) : strQ x y = true ↔ x = y := by
  simp only [strQ, beq_iff_eq]
  constructor
  · intro h
    rw [ByteArray.toList_eq, ByteArray.toList_eq] at h
    exact ByteArray.ext (Array.ext' h)
  · rintro rfl
    rfl
theorem strQ_key (x y : ByteArray) : strQ x y = true ↔ Value.string x = Value.string y := by
  rw [strQ_iff]
  exact ⟨fun h => by rw [h], fun h => by injection h⟩
theorem str_keyed : Go.Maps.Keyed Try.prog 9 := Go.Maps.string_keyed Try.underlying9
theorem str_keyOf {s : ByteArray} (h : s.size ≤ 1000000) : keyOf Try.prog 9 (.string s) = some (.string s.data.toList) := Go.WideMaps.keyOf_string_mk Try.underlying9 (Nat.le_trans h (by decide))
theorem ints_zero (W : World) : (zeroValue 27).run Try.prog W = .ok (.slice none 0 0) W := by kernel_rfl
theorem rows_apart {α : Type} {d : Kd α} {e e' : TypeId} {w : World} {base : Nat} {ok : Nat → Prop} {v : Value} {xs : List α} (h : d.R e w base ok v xs) (hne : e ≠ e') : ∀ k cells, v.ownBlock = some k → w.heap[k]? = some (.cells cells e' (0, 0)) → False := by
  intro k cells hk hc
  obtain ⟨cells2, h2⟩ := Kd.R_typed h k hk
  rw [hc] at h2
  injection h2 with h2
  injection h2 with _ h2
  exact hne h2.symm
theorem blk_kept {α : Type} {d : Kd α} {e : TypeId} {w w1 : World} {base : Nat} {ok : Nat → Prop} {g t : Nat} {cs : Array Value} {v : Value} {xs : List α} (h : w.heap[g]? = some (.cells cs t (0, 0))) (hR : d.R e w base ok v xs) (ht : e ≠ t) (hg : w.grownBy w1 v.ownBlock) : w1.heap[g]? = some (.cells cs t (0, 0)) :=
  (hg.block g (blk_lt h) (fun he => rows_apart hR ht _ _ he.symm h)).trans h

/-- Each group's bare losses, and the groups in the order in which they come. -/
def stress_Bare.go (a1 : Int) : List S49 → List ByteArray → List (ByteArray × List Int) → Option (List ByteArray × List (ByteArray × List Int))
  | [], t, m => some (t, m)
  | x :: r, t, m => if x.f1.size ≤ 1000000 then (if ((Go.Proofs.YtaookghbppimnaaHand.look strQ m x.f1).getD []).length < 1000000 then (if t.length < 1000000 then (if 0 ≤ a1 ∧ a1 < x.f2.length then
      stress_Bare.go a1 r (if ((Go.Proofs.YtaookghbppimnaaHand.look strQ m x.f1).getD []).length = 0 then t ++ [x.f1] else t) (Go.Proofs.YtaookghbppimnaaHand.put strQ x.f1 (((Go.Proofs.YtaookghbppimnaaHand.look strQ m x.f1).getD []) ++ [mx (wrap64 (rd x.f2 a1 - x.f3)) 0]) m)
      else none) else none) else none) else none
def stress_Bare.sums (k : Nat) (m : List (ByteArray × List Int)) : List ByteArray → List Int → Option (List Int × Int)
  | [], t => some (t, 0)
  | s :: r, t => if s.size ≤ 1000000 then (cents_Sum.f k ((Go.Proofs.YtaookghbppimnaaHand.look strQ m s).getD [])).bind fun x => if x.2 = 0 then (if t.length < 1000000 then stress_Bare.sums k m r (t ++ [x.1]) else none) else some ([], x.2) else none
def stress_Bare.f (k : Nat) (l0 : List S49) (a1 : Int) : Option (List ByteArray × List Int × Int) :=
  (stress_Check.f k l0).bind fun e0 => if e0 = 0 then (if a1 < 0 then some ([], [], 27) else (if 0 < (l0.length : Int) then (if a1 < ((rd_T49 l0 0).f2.length : Int) then
    ((stress_Bare.go a1 l0 [] []).bind fun x => if x.1.length < 1000000 then ((stress_Bare.sums k x.2 (sortS x.1) []).bind fun y => if y.2 = 0 then some (sortS x.1, y.1, 0) else some ([], [], y.2)) else none)
    else some ([], [], 27)) else none)) else some ([], [], e0)
theorem stress_Bare.mono_sums (k : Nat) (m : List (ByteArray × List Int)) (l : List ByteArray) : ∀ t, LeO (stress_Bare.sums k m l t) (stress_Bare.sums (k + 1) m l t) := by
  induction l with
  | nil => intro t; exact LeO.refl _
  | cons s r ih =>
    intro t
    unfold stress_Bare.sums
    exact LeO.ite (LeO.bind (cents_Sum.mono _ _) (fun x => LeO.ite (LeO.ite (ih _) (LeO.refl _)) (LeO.refl _))) (LeO.refl _)
theorem stress_Bare.mono : ∀ a0 a1 k, LeO (stress_Bare.f k a0 a1) (stress_Bare.f (k + 1) a0 a1) := by
  intro a0 a1 k
  unfold stress_Bare.f
  exact LeO.bind (stress_Check.mono _ _) (fun e0 => LeO.ite (LeO.ite (LeO.refl _) (LeO.ite (LeO.ite (LeO.bind (LeO.refl _) (fun x => LeO.ite (LeO.bind (stress_Bare.mono_sums _ _ _ _) (fun y => LeO.refl _)) (LeO.refl _))) (LeO.refl _)) (LeO.refl _))) (LeO.refl _))
set_option maxHeartbeats 3200000 in
set_option maxRecDepth 100000 in
theorem stress_Bare.calls (k : Nat) (A0 : Option Addr) (c0 : Nat) (l0 : List (S49)) (a1 : Int) (r1 : List ByteArray) (r2 : List Int) (r3 : Int) (w : World) (hr0 : Kd.C k49 w A0 l0.length l0) (hc0 : l0.length ≤ c0) (h : stress_Bare.f k l0 a1 = some (r1, r2, r3)) :
    Calls Try.prog 11 #[.slice A0 l0.length c0, .int .i64 a1] w fun e w' => ∃ v0_ v1_ : Value, e = .returned (.tuple #[v0_, v1_, .int .i64 r3]) ∧ Kd.R Kd.string 9 w' w.heap.size (fun _ => True) v0_ r1 ∧ Kd.R (Kd.int .i64) 3 w' w.heap.size (fun _ => True) v1_ r2 ∧ Below w.heap.size w w' := by
  obtain ⟨e0, hC0, h⟩ := Option.bind_eq_some_iff.mp h
  have HR0 := Aside0.mk hr0
  have hl1 := hr0.2.1
  have HC0 := Aside0.mk hc0
  have HE0 := Aside0.mk hC0
  have HH := Aside0.mk h
  have hmm := @run_makeMap Try.prog
  clear hr0 hc0 hC0 h
  by_cases he : e0 = 0
  case neg =>
    have hh := HH.out
    rw [if_neg he] at hh
    have hh2 := Option.some.inj hh
    simp only [Prod.mk.injEq] at hh2
    obtain ⟨rfl, rfl, rfl⟩ := hh2
    have h0b : (e0 == 0) = false := beq_eq_false_iff_ne.mpr he
    have h1b : (e0 != 0) = true := bne_iff_ne.mpr he
    clear he hh HH
    go_enter Try.func11, Try.ntmps11
    go_wp2_with (go_at_call 13; refine (stress_Check.calls k A0 c0 l0 e0 _ HR0.out HC0.out HE0.out).mono ?_; rintro _ w1 ⟨rfl, hb⟩; have HB := Aside0.mk hb; clear hb)
    go_ret3
    exact ⟨_, _, rfl, Kd.R_nil _ _ _ _ _, Kd.R_nil _ _ _ _ _, HB.out⟩
  subst he
  have hh := HH.out
  rw [if_pos rfl] at hh
  by_cases ha : a1 < 0
  case pos =>
    rw [if_pos ha] at hh
    have hh2 := Option.some.inj hh
    simp only [Prod.mk.injEq] at hh2
    obtain ⟨rfl, rfl, rfl⟩ := hh2
    have hd : decide (a1 < 0) = true := decide_eq_true ha
    clear hh HH ha
    go_enter Try.func11, Try.ntmps11
    go_wp2_with (go_at_call 13; refine (stress_Check.calls k A0 c0 l0 0 _ HR0.out HC0.out HE0.out).mono ?_; rintro _ w1 ⟨rfl, hb⟩; have HB := Aside0.mk hb; clear hb)
    go_ret3
    exact ⟨_, _, rfl, Kd.R_nil _ _ _ _ _, Kd.R_nil _ _ _ _ _, HB.out⟩
  rw [if_neg ha] at hh
  by_cases hl : 0 < (l0.length : Int)
  case neg => rw [if_neg hl] at hh; cases hh
  rw [if_pos hl] at hh
  obtain ⟨ad, A2, c2, ead, hz0, hz1, hz2, hz3, hz4, hz5⟩ := at_T49 HR0.out 0 (Int.le_refl _) hl
  cases ead
  have HZ2 : Aside0 (w.cell? ⟨ad.block, ad.off + 2, none⟩ = some (.slice A2 (rd_T49 l0 0).f2.length c2)) := ⟨hz2⟩
  have hd : decide (a1 < 0) = false := decide_eq_false ha
  clear hz0 hz1 hz2 hz3 hz4 hz5
  by_cases hq : a1 < ((rd_T49 l0 0).f2.length : Int)
  case neg =>
    rw [if_neg hq] at hh
    have hh2 := Option.some.inj hh
    simp only [Prod.mk.injEq] at hh2
    obtain ⟨rfl, rfl, rfl⟩ := hh2
    have hd2 : decide (((rd_T49 l0 0).f2.length : Int) ≤ a1) = true := decide_eq_true (by omega)
    clear hh HH ha hq
    go_enter Try.func11, Try.ntmps11
    go_wp2_with (go_at_call 13; refine (stress_Check.calls k (some ad) c0 l0 0 _ HR0.out HC0.out HE0.out).mono ?_; rintro _ w1 ⟨rfl, hb⟩; have HB := Aside0.mk hb; have hz := pw_cell_below hb HZ2.out; clear hb)
    go_ret3
    exact ⟨_, _, rfl, Kd.R_nil _ _ _ _ _, Kd.R_nil _ _ _ _ _, HB.out⟩
  rw [if_pos hq] at hh
  obtain ⟨⟨tt, mm⟩, hG, hh⟩ := Option.bind_eq_some_iff.mp hh
  have HG := Aside0.mk hG
  have HH := Aside0.mk hh
  have hd2 : decide (((rd_T49 l0 0).f2.length : Int) ≤ a1) = false := decide_eq_false (by omega)
  have HA1 : Aside0 (¬ a1 < 0) := ⟨ha⟩
  clear hG hh ha hq
  go_enter Try.func11, Try.ntmps11
  go_wp2_with (go_at_call 13; refine (stress_Check.calls k (some ad) c0 l0 0 _ HR0.out HC0.out HE0.out).mono ?_; rintro _ w1 ⟨rfl, hb⟩; have HB := Aside0.mk hb; have hz := pw_cell_below hb HZ2.out; clear hb)
  clear hz HZ2
  have hsz0 := HB.out.size
  have HGE : Aside0 (∀ kk, some w1.heap.size = some kk → w.heap.size ≤ kk) := ⟨fun kk e => by cases e; exact hsz0⟩
  go_loopg [4, 33] l0.length (fun kq v4 v33 w' => ∃ (x : Nat) (t : List ByteArray) (m : List (ByteArray × List Int)), v33 = .int .i64 x ∧ kq + x = l0.length ∧ Aside0 (stress_Bare.go a1 (l0.drop x) t m = some (tt, mm)) ∧ Aside0 (Kd.R Kd.string 9 w' w.heap.size (fun _ => True) v4 t) ∧ Aside0 (Go.Proofs.YtaookghbppimnaaHand.Groups Try.prog 9 (Kd.int .i64) 3 Value.string w' w.heap.size w1.heap.size m) ∧ Aside0 (Below w.heap.size w w'))
  case atStart => exact ⟨0, [], [], rfl, by omega, HG, ⟨Kd.R_nil _ _ _ _ _⟩, ⟨Go.Proofs.YtaookghbppimnaaHand.Groups.made _ _ _ _ _ _ _⟩, ⟨HB.out.alloc HB.out.size _⟩⟩
  case round =>
    clear HG HB HE0
    obtain ⟨x, t, m, rfl, hx, HA, HN, HM, HB⟩ := hrel
    have hsz := HB.out.size
    have hltM := HM.out.lt
    by_cases hlt : x < l0.length
    · obtain ⟨ad, A2, c2, ead, h0, h1, h2, h3, h4, h5⟩ := at_T49 HR0.out (x : Int) (by omega) (by omega)
      cases ead
      simp only [Int.toNat_natCast] at h0 h1 h2 h3 h4 h5
      have hdr : l0.drop x = rd_T49 l0 x :: l0.drop (x + 1) := by
        rw [List.drop_eq_getElem_cons hlt]
        simp [rd_T49, hlt]
      have hA := HA.out
      rw [hdr, stress_Bare.go] at hA
      clear hdr HA
      generalize hp : rd_T49 l0 x = p at *
      clear hp
      obtain ⟨p0, p1, p2, p3⟩ := p
      simp only at h0 h1 h2 h3 h4 h5 hA
      by_cases hk : p1.size ≤ 1000000
      case neg => rw [if_neg hk] at hA; cases hA
      rw [if_pos hk] at hA
      by_cases hl : ((Go.Proofs.YtaookghbppimnaaHand.look strQ m p1).getD []).length < 1000000
      case neg => rw [if_neg hl] at hA; cases hA
      rw [if_pos hl] at hA
      by_cases ht : t.length < 1000000
      case neg => rw [if_neg ht] at hA; cases hA
      rw [if_pos ht] at hA
      by_cases hi : 0 ≤ a1 ∧ a1 < p2.length
      case neg => rw [if_neg hi] at hA; cases hA
      rw [if_pos hi] at hA
      obtain ⟨hi0, hi1⟩ := hi
      obtain ⟨ae, eae, hme0⟩ := Kd.at_int h5 a1 hi0 hi1
      cases eae
      have HKEY := Aside0.mk (str_keyOf (s := p1) hk)
      have HL : Aside0 ((((Go.Proofs.YtaookghbppimnaaHand.look strQ m p1).getD []).length + 1) * 8 ≤ 140737488355328) := ⟨by omega⟩
      have HT : Aside0 ((t.length + 1) * 16 ≤ 140737488355328) := ⟨by omega⟩
      have h0 := pw_cell_below HB.out h0
      have h1 := pw_cell_below HB.out h1
      have h2 := pw_cell_below HB.out h2
      have h3 := pw_cell_below HB.out h3
      obtain ⟨vL, hrunL, hRL, _⟩ := HM.out.getW (q := strQ) (a := p1) rfl str_keyed Try.underlying53 ints_zero HKEY.out strQ_key
      obtain ⟨AL, cL, eL⟩ := Kd.R_slice hRL
      subst eL
      have HRN := Aside0.mk hrunL
      clear hrunL hRL hk ht h5
      by_cases hz : ((Go.Proofs.YtaookghbppimnaaHand.look strQ m p1).getD []).length = 0
      · rw [if_pos hz] at hA
        have HA2 := Aside0.mk hA
        have hzb : ((((Go.Proofs.YtaookghbppimnaaHand.look strQ m p1).getD []).length : Int) == 0) = true := by rw [hz]; rfl
        clear hA hz hl
        go_wp2_with (first | (at_lookup; refine Go.Proofs.YtaookghbppimnaaHand.wpL_look _ rfl (.tmp 37) (.tmp 39) 53 false rfl w1.heap.size (.string p1) (.slice AL ((Go.Proofs.YtaookghbppimnaaHand.look strQ m p1).getD []).length cL) rfl rfl (HRN.out _ (Below.heap_alloc _ _ _ hltM)) ?_) | ((with_reducible refine gate_builtin (b := .append) (xs := #[.tmp 43, .tmp 46]) rfl ?_); at_builtin; refine Kd.R_append Kd.string (w0 := w) w.heap.size rfl (.tmp 43) (.tmp 46) 26 9 (.string ⟨#[]⟩) 16 rfl Try.underlying26 info9 rfl (by decide) (by decide) u4 t p1 [.string p1] (fun _ => True) (fun _ => False) rfl ?aX ?aP (fun _ hk => hk.elim) (fun _ _ => trivial) (Kd.R_alloc HN.out _) (HB.out.alloc HB.out.size _) (HB.out.alloc HB.out.size _).size ?aL ?_; (case aX => (rw [World.size_alloc]; rfl)); (case aP => rfl); (case aL => exact HT.out); intro v6 w6 ho hb6 hg6 _; have HN6 := Aside0.mk ho; have HM6 := Aside0.mk ((HM.out.below (below_alloc (Below.refl _ _) (.cells #[.string p0, .string p1, .slice (some ae) p2.length c2, .int .i64 p3] 49 (0, 0)))).grown rfl hg6 (Go.Proofs.YtaookghbppimnaaHand.Groups.ne (HM.out.below (below_alloc (Below.refl _ _) (.cells #[.string p0, .string p1, .slice (some ae) p2.length c2, .int .i64 p3] 49 (0, 0)))) (Kd.R_alloc HN.out (.cells #[.string p0, .string p1, .slice (some ae) p2.length c2, .int .i64 p3] 49 (0, 0)))) (rows_apart (Kd.R_alloc HN.out (.cells #[.string p0, .string p1, .slice (some ae) p2.length c2, .int .i64 p3] 49 (0, 0))) (by decide))); have HB6 := Aside0.mk hb6; have BX6 := Aside0.mk (blk_kept (blk_new wr (.cells #[.string p0, .string p1, .slice (some ae) p2.length c2, .int .i64 p3] 49 (0, 0))) (Kd.R_alloc HN.out (.cells #[.string p0, .string p1, .slice (some ae) p2.length c2, .int .i64 p3] 49 (0, 0))) (by decide) hg6); clear ho hb6 hg6))
        clear h0 h1 h2 h3
        have hltN := HM6.out.lt
        obtain ⟨vM, hrunM, hRM, hbackM⟩ := (HM6.out.below (below_drew (Below.refl _ _))).getW (q := strQ) (a := p1) rfl str_keyed Try.underlying53 ints_zero HKEY.out strQ_key
        obtain ⟨AM, cM, eM⟩ := Kd.R_slice hRM
        subst eM
        have HRM := Aside0.mk hrunM
        have HRO := Aside0.mk hRM
        have HBK := Aside0.mk hbackM
        have HNM := Aside0.mk (Go.Proofs.YtaookghbppimnaaHand.Groups.ne (HM6.out.below (below_drew (Below.refl _ _))) hRM)
        have HNN := Aside0.mk (Go.Proofs.YtaookghbppimnaaHand.Groups.ne HM6.out HN6.out)
        have HME := Aside0.mk hme0
        have hme : (w6).drew.cell? (ae.add a1.toNat) = some (.int .i64 (rd p2 a1)) := pw_cell_below HB6.out hme0
        clear hrunM hRM hbackM
        refine start_ (n := 19) (S := fun w' => w'.cell? ⟨wr.heap.size, 1, none⟩ = some (.string p1) ∧ w'.cell? ⟨wr.heap.size, 2, none⟩ = some (.slice (some ae) p2.length c2) ∧ w'.cell? ⟨wr.heap.size, 3, none⟩ = some (.int .i64 p3) ∧ w'.cell? (ae.add a1.toNat) = some (.int .i64 (rd p2 a1)) ∧ (Instr.lookup 53 (.map (some w1.heap.size)) (.string p1) false).run Try.prog w' = .ok (.slice AM ((Go.Proofs.YtaookghbppimnaaHand.look strQ m p1).getD []).length cM) w') (ds := [18]) #[false, false, false, false, false, false, false, false, false, false, false, false, false, false, false, false, false, false, false] (by kernel_rfl) rfl rfl ⟨((blk_cell BX6.out 1).trans rfl), ((blk_cell BX6.out 2).trans rfl), ((blk_cell BX6.out 3).trans rfl), hme, (HRM.out _ rfl)⟩ (fun hHeld => ?_)
        refine pure_ (i := 0) (N := some 48) (v := ?_) (a' := ?_) #[true, false, false, false, false, false, false, false, false, false, false, false, false, false, false, false, false, false, false] rfl rfl (by kernel_rfl) (fun _ _ _ h => h) (Or.inl ⟨by rfl, ?_⟩) ?_ ?_
        rotate_left
        · intro w'
          go_simp
          with_reducible rfl
        rotate_left
        · simp only [Act.put, List.setIfInBounds_toArray, List.set_cons_zero, List.set_cons_succ, i64_w, i32_w]
          rfl
        refine pure_ (i := 1) (N := some 49) (v := ?_) (a' := ?_) #[true, true, false, false, false, false, false, false, false, false, false, false, false, false, false, false, false, false, false] rfl rfl (by kernel_rfl) (fun _ _ _ h => h) (Or.inl ⟨by rfl, ?_⟩) ?_ ?_
        rotate_left
        · intro w'
          go_simp
          with_reducible rfl
        rotate_left
        · simp only [Act.put, List.setIfInBounds_toArray, List.set_cons_zero, List.set_cons_succ, i64_w, i32_w]
          rfl
        refine pure_ (i := 3) (N := some 51) (v := ?_) (a' := ?_) #[true, true, false, true, false, false, false, false, false, false, false, false, false, false, false, false, false, false, false] rfl rfl (by kernel_rfl) (fun _ _ _ h => h) (Or.inl ⟨by rfl, ?_⟩) ?_ ?_
        rotate_left
        · intro w'
          go_simp
          with_reducible rfl
        rotate_left
        · simp only [Act.put, List.setIfInBounds_toArray, List.set_cons_zero, List.set_cons_succ, i64_w, i32_w]
          rfl
        refine pure_ (i := 4) (N := some 52) (v := ?_) (a' := ?_) #[true, true, false, true, true, false, false, false, false, false, false, false, false, false, false, false, false, false, false] rfl rfl (by kernel_rfl) (fun _ _ _ h => h) (Or.inl ⟨by rfl, ?_⟩) ?_ ?_
        rotate_left
        · intro w'
          go_simp
          with_reducible rfl
        rotate_left
        · simp only [Act.put, List.setIfInBounds_toArray, List.set_cons_zero, List.set_cons_succ, i64_w, i32_w]
          rfl
        refine pure_ (i := 7) (N := some 55) (v := ?_) (a' := ?_) #[true, true, false, true, true, false, false, true, false, false, false, false, false, false, false, false, false, false, false] rfl rfl (by kernel_rfl) (fun _ _ _ h => h) (Or.inl ⟨by rfl, ?_⟩) ?_ ?_
        rotate_left
        · intro w'
          go_simp
          with_reducible rfl
        rotate_left
        · simp only [Act.put, List.setIfInBounds_toArray, List.set_cons_zero, List.set_cons_succ, i64_w, i32_w]
          rfl
        refine pure_ (i := 9) (N := some 57) (v := ?_) (a' := ?_) #[true, true, false, true, true, false, false, true, false, true, false, false, false, false, false, false, false, false, false] rfl rfl (by kernel_rfl) (fun _ _ _ h => h) (Or.inl ⟨by rfl, ?_⟩) ?_ ?_
        rotate_left
        · intro w'
          go_simp
          with_reducible rfl
        rotate_left
        · simp only [Act.put, List.setIfInBounds_toArray, List.set_cons_zero, List.set_cons_succ, i64_w, i32_w]
          rfl
        refine pure_ (i := 12) (N := some 60) (v := ?_) (a' := ?_) #[true, true, false, true, true, false, false, true, false, true, false, false, true, false, false, false, false, false, false] rfl rfl (by kernel_rfl) (fun _ _ _ h => h) (Or.inl ⟨by rfl, ?_⟩) ?_ ?_
        rotate_left
        · intro w'
          go_simp
          with_reducible rfl
        rotate_left
        · simp only [Act.put, List.setIfInBounds_toArray, List.set_cons_zero, List.set_cons_succ, i64_w, i32_w]
          rfl
        refine take_ (i := 2) (N := some 50) (v := ?_) (a' := ?_) #[true, true, true, true, true, false, false, true, false, true, false, false, true, false, false, false, false, false, false] rfl rfl (by kernel_rfl) (fun _ _ _ h => h) (Or.inl ⟨by rfl, ?_⟩) hHeld ?_ ?_
        rotate_left
        · rintro w' ⟨s0, s1, s2, s3, s4⟩
          go_simp
          with_reducible rfl
        rotate_left
        · simp only [Act.put, List.setIfInBounds_toArray, List.set_cons_zero, List.set_cons_succ, i64_w, i32_w]
          rfl
        refine take_ (i := 5) (N := some 53) (v := ?_) (a' := ?_) #[true, true, true, true, true, true, false, true, false, true, false, false, true, false, false, false, false, false, false] rfl rfl (by kernel_rfl) (fun _ _ _ h => h) (Or.inl ⟨by rfl, ?_⟩) hHeld ?_ ?_
        rotate_left
        · rintro w' ⟨s0, s1, s2, s3, s4⟩
          go_simp
          with_reducible rfl
        rotate_left
        · simp only [Act.put, List.setIfInBounds_toArray, List.set_cons_zero, List.set_cons_succ, i64_w, i32_w]
          rfl
        refine take_ (i := 6) (N := some 54) (v := ?_) (a' := ?_) #[true, true, true, true, true, true, true, true, false, true, false, false, true, false, false, false, false, false, false] rfl rfl (by kernel_rfl) (fun _ _ _ h => h) (Or.inl ⟨by rfl, ?_⟩) hHeld ?_ ?_
        rotate_left
        · rintro w' ⟨s0, s1, s2, s3, s4⟩
          go_simp
          with_reducible rfl
        rotate_left
        · simp only [Act.put, List.setIfInBounds_toArray, List.set_cons_zero, List.set_cons_succ, i64_w, i32_w]
          rfl
        refine take_ (i := 8) (N := some 56) (v := ?_) (a' := ?_) #[true, true, true, true, true, true, true, true, true, true, false, false, true, false, false, false, false, false, false] rfl rfl (by kernel_rfl) (fun _ _ _ h => h) (Or.inl ⟨by rfl, ?_⟩) hHeld ?_ ?_
        rotate_left
        · rintro w' ⟨s0, s1, s2, s3, s4⟩
          go_simp
          with_reducible rfl
        rotate_left
        · simp only [Act.put, List.setIfInBounds_toArray, List.set_cons_zero, List.set_cons_succ, i64_w, i32_w]
          rfl
        refine pure_ (i := 10) (N := some 58) (v := ?_) (a' := ?_) #[true, true, true, true, true, true, true, true, true, true, true, false, true, false, false, false, false, false, false] rfl rfl (by kernel_rfl) (fun _ _ _ h => h) (Or.inl ⟨by rfl, ?_⟩) ?_ ?_
        rotate_left
        · intro w'
          go_simp
          with_reducible rfl
        rotate_left
        · simp only [Act.put, List.setIfInBounds_toArray, List.set_cons_zero, List.set_cons_succ, i64_w, i32_w]
          rfl
        refine take_ (i := 11) (N := some 59) (v := ?_) (a' := ?_) #[true, true, true, true, true, true, true, true, true, true, true, true, true, false, false, false, false, false, false] rfl rfl (by kernel_rfl) (fun _ _ _ h => h) (Or.inl ⟨by rfl, ?_⟩) hHeld ?_ ?_
        rotate_left
        · rintro w' ⟨s0, s1, s2, s3, s4⟩
          go_simp
          with_reducible rfl
        rotate_left
        · simp only [Act.put, List.setIfInBounds_toArray, List.set_cons_zero, List.set_cons_succ, i64_w, i32_w]
          rfl
        refine take_ (i := 13) (N := some 61) (v := ?_) (a' := ?_) #[true, true, true, true, true, true, true, true, true, true, true, true, true, true, false, false, false, false, false] rfl rfl (by kernel_rfl) (fun _ _ _ h => h) (Or.inl ⟨by rfl, ?_⟩) hHeld ?_ ?_
        rotate_left
        · rintro w' ⟨s0, s1, s2, s3, s4⟩
          go_simp
          with_reducible rfl
        rotate_left
        · simp only [Act.put, List.setIfInBounds_toArray, List.set_cons_zero, List.set_cons_succ, i64_w, i32_w]
          rfl
        refine pure_ (i := 14) (N := some 62) (v := ?_) (a' := ?_) #[true, true, true, true, true, true, true, true, true, true, true, true, true, true, true, false, false, false, false] rfl rfl (by kernel_rfl) (fun _ _ _ h => h) (Or.inl ⟨by rfl, ?_⟩) ?_ ?_
        rotate_left
        · intro w'
          go_simp
          with_reducible rfl
        rotate_left
        · simp only [Act.put, List.setIfInBounds_toArray, List.set_cons_zero, List.set_cons_succ, i64_w, i32_w]
          rfl
        refine pure_ (i := 15) (N := some 63) (v := ?_) (a' := ?_) #[true, true, true, true, true, true, true, true, true, true, true, true, true, true, true, true, false, false, false] rfl rfl (by kernel_rfl) (fun _ _ _ h => h) (Or.inl ⟨by rfl, ?_⟩) ?_ ?_
        rotate_left
        · intro w'
          go_simp
          with_reducible rfl
        rotate_left
        · simp only [Act.put, List.setIfInBounds_toArray, List.set_cons_zero, List.set_cons_succ, i64_w, i32_w]
          rfl
        refine one_ (i := 16) (N := some 64) #[true, true, true, true, true, true, true, true, true, true, true, true, true, true, true, true, true, false, false] rfl rfl (by kernel_rfl) (by decide) (fun K hK => ?_)
        refine value_ (w1 := ?_) (v := ?_) (by rfl) rfl ?_ ?_
        rotate_left 2
        · go_simp
          constructor
          · rfl
          · rfl
        refine hK.out _ _ ⟨((World.cell?_alloc_lt _ _ _ (World.block_lt_of_cell? _ _ hHeld.1)).trans hHeld.1), ((World.cell?_alloc_lt _ _ _ (World.block_lt_of_cell? _ _ hHeld.2.1)).trans hHeld.2.1), ((World.cell?_alloc_lt _ _ _ (World.block_lt_of_cell? _ _ hHeld.2.2.1)).trans hHeld.2.2.1), ((World.cell?_alloc_lt _ _ _ (World.block_lt_of_cell? _ _ hHeld.2.2.2.1)).trans hHeld.2.2.2.1), (HRM.out _ (Below.heap_alloc _ _ _ hltN))⟩ (fun hHeld => ?_)
        clear hK K
        refine norm_ (a' := ?_) ?_ ?_
        rotate_left
        · show Act.put _ (some 64) _ = _
          simp only [Act.put, List.setIfInBounds_toArray, List.set_cons_zero, List.set_cons_succ, i64_w, i32_w]
          rfl
        refine one_ (i := 17) (N := some 65) #[true, true, true, true, true, true, true, true, true, true, true, true, true, true, true, true, true, true, false] rfl rfl (by kernel_rfl) (by decide) (fun K hK => ?_)
        refine Kd.R_append_step (Kd.int .i64) (w0 := w) (W := w6.drew) w.heap.size (by rfl) (.tmp 54) (.tmp 64) 27 3 (.int .i64 0) 8 rfl Try.underlying27 info3 rfl (by decide) (by omega) (.slice AM ((Go.Proofs.YtaookghbppimnaaHand.look strQ m p1).getD []).length cM) ((Go.Proofs.YtaookghbppimnaaHand.look strQ m p1).getD []) (mx (wrap64 (rd p2 a1 - p3)) 0) [.int .i64 (mx (wrap64 (rd p2 a1 - p3)) 0)] (fun _ => True) (fun _ => False) rfl ?aX ?aP (fun _ hk => hk.elim) ?aF ?aO ?aB ?aS ?aL ?_
        (case aX => (first | rfl | (show _ = Value.slice (some ⟨(w6).heap.size, 0, none⟩) 1 1; rw [World.size_alloc]; rfl)))
        (case aP => rfl)
        (case aB => exact below_drew HB6.out)
        (case aF => exact (fun _ _ => trivial))
        (case aO => exact HRO.out)
        (case aS => exact HB6.out.size)
        (case aL => exact HL.out)
        intro v9 w9 ho hb hg hat
        obtain ⟨w10, hrunU, hM10, hg10⟩ := HBK.out _ _ _ hg ho hat
        have HN9 := Aside0.mk (Kd.R_over' (Kd.R_below HN6.out (below_drew (Below.refl _ _))) (Kd.R_typed HRO.out) (by decide) hg)
        have HN10 := Aside0.mk (Kd.R_grown2 HN9.out rfl hg10 (fun k hk => by cases hk; exact HNN.out))
        have BX9 := blk_kept (blk_drew BX6.out) HRO.out (by decide) hg
        have hme9 := pw_cell_below hb HME.out
        have HB9 := Aside0.mk hb
        have HB10 := Aside0.mk (pw_below_grown HB9.out _ HB9.out.size hg10 HGE.out)
        have HM10 := Aside0.mk hM10
        have HRU := Aside0.mk hrunU
        have HL9 : (Instr.lookup 53 (.map (some w1.heap.size)) (.string p1) false).run Try.prog w9 = .ok (.slice AM ((Go.Proofs.YtaookghbppimnaaHand.look strQ m p1).getD []).length cM) w9 := HRM.out _ (hg.block _ hltN HNM.out)
        clear ho hb hg hat hM10 hrunU hg10
        refine hK.out _ _ ⟨((blk_cell BX9 1).trans rfl), ((blk_cell BX9 2).trans rfl), ((blk_cell BX9 3).trans rfl), hme9, HL9⟩ (fun hHeld => ?_)
        clear hK K
        refine norm_ (a' := ?_) ?_ ?_
        rotate_left
        · show Act.put _ (some 65) _ = _
          simp only [Act.put, List.setIfInBounds_toArray, List.set_cons_zero, List.set_cons_succ, i64_w, i32_w]
          rfl
        refine last_ (i := 18) (N := none) #[true, true, true, true, true, true, true, true, true, true, true, true, true, true, true, true, true, true, true] rfl rfl (by kernel_rfl) (by decide) (fun K hK => ?_)
        clear BX9 hme9 HL9
        refine skip_ (w1 := w10) (by rfl) rfl (Go.Proofs.YtaookghbppimnaaHand.exec_upd rfl rfl rfl rfl HRU.out) ?_
        refine hK.out _ _ ?_
        clear hK K
        refine done_ (by kernel_rfl) ?_
        go_wp2
        all_goals (go_roundg (l0.length - (x + 1)); (case measure => omega); (case rel => exact ⟨x + 1, _, _, by go_num, by omega, HA2, HN10, HM10, HB10⟩))
      · rw [if_neg hz] at hA
        have HA2 := Aside0.mk hA
        have hzb : ((((Go.Proofs.YtaookghbppimnaaHand.look strQ m p1).getD []).length : Int) == 0) = false := beq_eq_false_iff_ne.mpr (by omega)
        clear hA hz hl
        go_wp2_with ((at_lookup; refine Go.Proofs.YtaookghbppimnaaHand.wpL_look _ rfl (.tmp 37) (.tmp 39) 53 false rfl w1.heap.size (.string p1) (.slice AL ((Go.Proofs.YtaookghbppimnaaHand.look strQ m p1).getD []).length cL) rfl rfl (HRN.out _ (Below.heap_alloc _ _ _ hltM)) ?_))
        have BX := Aside0.mk (blk_new wr (.cells #[.string p0, .string p1, .slice (some ae) p2.length c2, .int .i64 p3] 49 (0, 0)))
        have HNB := Aside0.mk (Kd.R_alloc HN.out (.cells #[.string p0, .string p1, .slice (some ae) p2.length c2, .int .i64 p3] 49 (0, 0)))
        have HMB := Aside0.mk (HM.out.below (below_alloc (Below.refl _ _) (.cells #[.string p0, .string p1, .slice (some ae) p2.length c2, .int .i64 p3] 49 (0, 0))))
        have HBB := Aside0.mk (HB.out.alloc HB.out.size (.cells #[.string p0, .string p1, .slice (some ae) p2.length c2, .int .i64 p3] 49 (0, 0)))
        clear h0 h1 h2 h3
        have hltN := HMB.out.lt
        obtain ⟨vM, hrunM, hRM, hbackM⟩ := (HMB.out.below (below_drew (Below.refl _ _))).getW (q := strQ) (a := p1) rfl str_keyed Try.underlying53 ints_zero HKEY.out strQ_key
        obtain ⟨AM, cM, eM⟩ := Kd.R_slice hRM
        subst eM
        have HRM := Aside0.mk hrunM
        have HRO := Aside0.mk hRM
        have HBK := Aside0.mk hbackM
        have HNM := Aside0.mk (Go.Proofs.YtaookghbppimnaaHand.Groups.ne (HMB.out.below (below_drew (Below.refl _ _))) hRM)
        have HNN := Aside0.mk (Go.Proofs.YtaookghbppimnaaHand.Groups.ne HMB.out HNB.out)
        have HME := Aside0.mk hme0
        have hme : ((wr.alloc (.cells #[.string p0, .string p1, .slice (some ae) p2.length c2, .int .i64 p3] 49 (0, 0)))).drew.cell? (ae.add a1.toNat) = some (.int .i64 (rd p2 a1)) := pw_cell_below HBB.out hme0
        clear hrunM hRM hbackM
        refine start_ (n := 19) (S := fun w' => w'.cell? ⟨wr.heap.size, 1, none⟩ = some (.string p1) ∧ w'.cell? ⟨wr.heap.size, 2, none⟩ = some (.slice (some ae) p2.length c2) ∧ w'.cell? ⟨wr.heap.size, 3, none⟩ = some (.int .i64 p3) ∧ w'.cell? (ae.add a1.toNat) = some (.int .i64 (rd p2 a1)) ∧ (Instr.lookup 53 (.map (some w1.heap.size)) (.string p1) false).run Try.prog w' = .ok (.slice AM ((Go.Proofs.YtaookghbppimnaaHand.look strQ m p1).getD []).length cM) w') (ds := [18]) #[false, false, false, false, false, false, false, false, false, false, false, false, false, false, false, false, false, false, false] (by kernel_rfl) rfl rfl ⟨((blk_cell BX.out 1).trans rfl), ((blk_cell BX.out 2).trans rfl), ((blk_cell BX.out 3).trans rfl), hme, (HRM.out _ rfl)⟩ (fun hHeld => ?_)
        refine pure_ (i := 0) (N := some 48) (v := ?_) (a' := ?_) #[true, false, false, false, false, false, false, false, false, false, false, false, false, false, false, false, false, false, false] rfl rfl (by kernel_rfl) (fun _ _ _ h => h) (Or.inl ⟨by rfl, ?_⟩) ?_ ?_
        rotate_left
        · intro w'
          go_simp
          with_reducible rfl
        rotate_left
        · simp only [Act.put, List.setIfInBounds_toArray, List.set_cons_zero, List.set_cons_succ, i64_w, i32_w]
          rfl
        refine pure_ (i := 1) (N := some 49) (v := ?_) (a' := ?_) #[true, true, false, false, false, false, false, false, false, false, false, false, false, false, false, false, false, false, false] rfl rfl (by kernel_rfl) (fun _ _ _ h => h) (Or.inl ⟨by rfl, ?_⟩) ?_ ?_
        rotate_left
        · intro w'
          go_simp
          with_reducible rfl
        rotate_left
        · simp only [Act.put, List.setIfInBounds_toArray, List.set_cons_zero, List.set_cons_succ, i64_w, i32_w]
          rfl
        refine pure_ (i := 3) (N := some 51) (v := ?_) (a' := ?_) #[true, true, false, true, false, false, false, false, false, false, false, false, false, false, false, false, false, false, false] rfl rfl (by kernel_rfl) (fun _ _ _ h => h) (Or.inl ⟨by rfl, ?_⟩) ?_ ?_
        rotate_left
        · intro w'
          go_simp
          with_reducible rfl
        rotate_left
        · simp only [Act.put, List.setIfInBounds_toArray, List.set_cons_zero, List.set_cons_succ, i64_w, i32_w]
          rfl
        refine pure_ (i := 4) (N := some 52) (v := ?_) (a' := ?_) #[true, true, false, true, true, false, false, false, false, false, false, false, false, false, false, false, false, false, false] rfl rfl (by kernel_rfl) (fun _ _ _ h => h) (Or.inl ⟨by rfl, ?_⟩) ?_ ?_
        rotate_left
        · intro w'
          go_simp
          with_reducible rfl
        rotate_left
        · simp only [Act.put, List.setIfInBounds_toArray, List.set_cons_zero, List.set_cons_succ, i64_w, i32_w]
          rfl
        refine pure_ (i := 7) (N := some 55) (v := ?_) (a' := ?_) #[true, true, false, true, true, false, false, true, false, false, false, false, false, false, false, false, false, false, false] rfl rfl (by kernel_rfl) (fun _ _ _ h => h) (Or.inl ⟨by rfl, ?_⟩) ?_ ?_
        rotate_left
        · intro w'
          go_simp
          with_reducible rfl
        rotate_left
        · simp only [Act.put, List.setIfInBounds_toArray, List.set_cons_zero, List.set_cons_succ, i64_w, i32_w]
          rfl
        refine pure_ (i := 9) (N := some 57) (v := ?_) (a' := ?_) #[true, true, false, true, true, false, false, true, false, true, false, false, false, false, false, false, false, false, false] rfl rfl (by kernel_rfl) (fun _ _ _ h => h) (Or.inl ⟨by rfl, ?_⟩) ?_ ?_
        rotate_left
        · intro w'
          go_simp
          with_reducible rfl
        rotate_left
        · simp only [Act.put, List.setIfInBounds_toArray, List.set_cons_zero, List.set_cons_succ, i64_w, i32_w]
          rfl
        refine pure_ (i := 12) (N := some 60) (v := ?_) (a' := ?_) #[true, true, false, true, true, false, false, true, false, true, false, false, true, false, false, false, false, false, false] rfl rfl (by kernel_rfl) (fun _ _ _ h => h) (Or.inl ⟨by rfl, ?_⟩) ?_ ?_
        rotate_left
        · intro w'
          go_simp
          with_reducible rfl
        rotate_left
        · simp only [Act.put, List.setIfInBounds_toArray, List.set_cons_zero, List.set_cons_succ, i64_w, i32_w]
          rfl
        refine take_ (i := 2) (N := some 50) (v := ?_) (a' := ?_) #[true, true, true, true, true, false, false, true, false, true, false, false, true, false, false, false, false, false, false] rfl rfl (by kernel_rfl) (fun _ _ _ h => h) (Or.inl ⟨by rfl, ?_⟩) hHeld ?_ ?_
        rotate_left
        · rintro w' ⟨s0, s1, s2, s3, s4⟩
          go_simp
          with_reducible rfl
        rotate_left
        · simp only [Act.put, List.setIfInBounds_toArray, List.set_cons_zero, List.set_cons_succ, i64_w, i32_w]
          rfl
        refine take_ (i := 5) (N := some 53) (v := ?_) (a' := ?_) #[true, true, true, true, true, true, false, true, false, true, false, false, true, false, false, false, false, false, false] rfl rfl (by kernel_rfl) (fun _ _ _ h => h) (Or.inl ⟨by rfl, ?_⟩) hHeld ?_ ?_
        rotate_left
        · rintro w' ⟨s0, s1, s2, s3, s4⟩
          go_simp
          with_reducible rfl
        rotate_left
        · simp only [Act.put, List.setIfInBounds_toArray, List.set_cons_zero, List.set_cons_succ, i64_w, i32_w]
          rfl
        refine take_ (i := 6) (N := some 54) (v := ?_) (a' := ?_) #[true, true, true, true, true, true, true, true, false, true, false, false, true, false, false, false, false, false, false] rfl rfl (by kernel_rfl) (fun _ _ _ h => h) (Or.inl ⟨by rfl, ?_⟩) hHeld ?_ ?_
        rotate_left
        · rintro w' ⟨s0, s1, s2, s3, s4⟩
          go_simp
          with_reducible rfl
        rotate_left
        · simp only [Act.put, List.setIfInBounds_toArray, List.set_cons_zero, List.set_cons_succ, i64_w, i32_w]
          rfl
        refine take_ (i := 8) (N := some 56) (v := ?_) (a' := ?_) #[true, true, true, true, true, true, true, true, true, true, false, false, true, false, false, false, false, false, false] rfl rfl (by kernel_rfl) (fun _ _ _ h => h) (Or.inl ⟨by rfl, ?_⟩) hHeld ?_ ?_
        rotate_left
        · rintro w' ⟨s0, s1, s2, s3, s4⟩
          go_simp
          with_reducible rfl
        rotate_left
        · simp only [Act.put, List.setIfInBounds_toArray, List.set_cons_zero, List.set_cons_succ, i64_w, i32_w]
          rfl
        refine pure_ (i := 10) (N := some 58) (v := ?_) (a' := ?_) #[true, true, true, true, true, true, true, true, true, true, true, false, true, false, false, false, false, false, false] rfl rfl (by kernel_rfl) (fun _ _ _ h => h) (Or.inl ⟨by rfl, ?_⟩) ?_ ?_
        rotate_left
        · intro w'
          go_simp
          with_reducible rfl
        rotate_left
        · simp only [Act.put, List.setIfInBounds_toArray, List.set_cons_zero, List.set_cons_succ, i64_w, i32_w]
          rfl
        refine take_ (i := 11) (N := some 59) (v := ?_) (a' := ?_) #[true, true, true, true, true, true, true, true, true, true, true, true, true, false, false, false, false, false, false] rfl rfl (by kernel_rfl) (fun _ _ _ h => h) (Or.inl ⟨by rfl, ?_⟩) hHeld ?_ ?_
        rotate_left
        · rintro w' ⟨s0, s1, s2, s3, s4⟩
          go_simp
          with_reducible rfl
        rotate_left
        · simp only [Act.put, List.setIfInBounds_toArray, List.set_cons_zero, List.set_cons_succ, i64_w, i32_w]
          rfl
        refine take_ (i := 13) (N := some 61) (v := ?_) (a' := ?_) #[true, true, true, true, true, true, true, true, true, true, true, true, true, true, false, false, false, false, false] rfl rfl (by kernel_rfl) (fun _ _ _ h => h) (Or.inl ⟨by rfl, ?_⟩) hHeld ?_ ?_
        rotate_left
        · rintro w' ⟨s0, s1, s2, s3, s4⟩
          go_simp
          with_reducible rfl
        rotate_left
        · simp only [Act.put, List.setIfInBounds_toArray, List.set_cons_zero, List.set_cons_succ, i64_w, i32_w]
          rfl
        refine pure_ (i := 14) (N := some 62) (v := ?_) (a' := ?_) #[true, true, true, true, true, true, true, true, true, true, true, true, true, true, true, false, false, false, false] rfl rfl (by kernel_rfl) (fun _ _ _ h => h) (Or.inl ⟨by rfl, ?_⟩) ?_ ?_
        rotate_left
        · intro w'
          go_simp
          with_reducible rfl
        rotate_left
        · simp only [Act.put, List.setIfInBounds_toArray, List.set_cons_zero, List.set_cons_succ, i64_w, i32_w]
          rfl
        refine pure_ (i := 15) (N := some 63) (v := ?_) (a' := ?_) #[true, true, true, true, true, true, true, true, true, true, true, true, true, true, true, true, false, false, false] rfl rfl (by kernel_rfl) (fun _ _ _ h => h) (Or.inl ⟨by rfl, ?_⟩) ?_ ?_
        rotate_left
        · intro w'
          go_simp
          with_reducible rfl
        rotate_left
        · simp only [Act.put, List.setIfInBounds_toArray, List.set_cons_zero, List.set_cons_succ, i64_w, i32_w]
          rfl
        refine one_ (i := 16) (N := some 64) #[true, true, true, true, true, true, true, true, true, true, true, true, true, true, true, true, true, false, false] rfl rfl (by kernel_rfl) (by decide) (fun K hK => ?_)
        refine value_ (w1 := ?_) (v := ?_) (by rfl) rfl ?_ ?_
        rotate_left 2
        · go_simp
          constructor
          · rfl
          · rfl
        refine hK.out _ _ ⟨((World.cell?_alloc_lt _ _ _ (World.block_lt_of_cell? _ _ hHeld.1)).trans hHeld.1), ((World.cell?_alloc_lt _ _ _ (World.block_lt_of_cell? _ _ hHeld.2.1)).trans hHeld.2.1), ((World.cell?_alloc_lt _ _ _ (World.block_lt_of_cell? _ _ hHeld.2.2.1)).trans hHeld.2.2.1), ((World.cell?_alloc_lt _ _ _ (World.block_lt_of_cell? _ _ hHeld.2.2.2.1)).trans hHeld.2.2.2.1), (HRM.out _ (Below.heap_alloc _ _ _ hltN))⟩ (fun hHeld => ?_)
        clear hK K
        refine norm_ (a' := ?_) ?_ ?_
        rotate_left
        · show Act.put _ (some 64) _ = _
          simp only [Act.put, List.setIfInBounds_toArray, List.set_cons_zero, List.set_cons_succ, i64_w, i32_w]
          rfl
        refine one_ (i := 17) (N := some 65) #[true, true, true, true, true, true, true, true, true, true, true, true, true, true, true, true, true, true, false] rfl rfl (by kernel_rfl) (by decide) (fun K hK => ?_)
        refine Kd.R_append_step (Kd.int .i64) (w0 := w) (W := (wr.alloc (.cells #[.string p0, .string p1, .slice (some ae) p2.length c2, .int .i64 p3] 49 (0, 0))).drew) w.heap.size (by rfl) (.tmp 54) (.tmp 64) 27 3 (.int .i64 0) 8 rfl Try.underlying27 info3 rfl (by decide) (by omega) (.slice AM ((Go.Proofs.YtaookghbppimnaaHand.look strQ m p1).getD []).length cM) ((Go.Proofs.YtaookghbppimnaaHand.look strQ m p1).getD []) (mx (wrap64 (rd p2 a1 - p3)) 0) [.int .i64 (mx (wrap64 (rd p2 a1 - p3)) 0)] (fun _ => True) (fun _ => False) rfl ?aX ?aP (fun _ hk => hk.elim) ?aF ?aO ?aB ?aS ?aL ?_
        (case aX => (first | rfl | (show _ = Value.slice (some ⟨((wr.alloc (.cells #[.string p0, .string p1, .slice (some ae) p2.length c2, .int .i64 p3] 49 (0, 0)))).heap.size, 0, none⟩) 1 1; rw [World.size_alloc]; rfl)))
        (case aP => rfl)
        (case aB => exact below_drew HBB.out)
        (case aF => exact (fun _ _ => trivial))
        (case aO => exact HRO.out)
        (case aS => exact HBB.out.size)
        (case aL => exact HL.out)
        intro v9 w9 ho hb hg hat
        obtain ⟨w10, hrunU, hM10, hg10⟩ := HBK.out _ _ _ hg ho hat
        have HN9 := Aside0.mk (Kd.R_over' (Kd.R_below HNB.out (below_drew (Below.refl _ _))) (Kd.R_typed HRO.out) (by decide) hg)
        have HN10 := Aside0.mk (Kd.R_grown2 HN9.out rfl hg10 (fun k hk => by cases hk; exact HNN.out))
        have BX9 := blk_kept (blk_drew BX.out) HRO.out (by decide) hg
        have hme9 := pw_cell_below hb HME.out
        have HB9 := Aside0.mk hb
        have HB10 := Aside0.mk (pw_below_grown HB9.out _ HB9.out.size hg10 HGE.out)
        have HM10 := Aside0.mk hM10
        have HRU := Aside0.mk hrunU
        have HL9 : (Instr.lookup 53 (.map (some w1.heap.size)) (.string p1) false).run Try.prog w9 = .ok (.slice AM ((Go.Proofs.YtaookghbppimnaaHand.look strQ m p1).getD []).length cM) w9 := HRM.out _ (hg.block _ hltN HNM.out)
        clear ho hb hg hat hM10 hrunU hg10
        refine hK.out _ _ ⟨((blk_cell BX9 1).trans rfl), ((blk_cell BX9 2).trans rfl), ((blk_cell BX9 3).trans rfl), hme9, HL9⟩ (fun hHeld => ?_)
        clear hK K
        refine norm_ (a' := ?_) ?_ ?_
        rotate_left
        · show Act.put _ (some 65) _ = _
          simp only [Act.put, List.setIfInBounds_toArray, List.set_cons_zero, List.set_cons_succ, i64_w, i32_w]
          rfl
        refine last_ (i := 18) (N := none) #[true, true, true, true, true, true, true, true, true, true, true, true, true, true, true, true, true, true, true] rfl rfl (by kernel_rfl) (by decide) (fun K hK => ?_)
        clear BX9 hme9 HL9
        refine skip_ (w1 := w10) (by rfl) rfl (Go.Proofs.YtaookghbppimnaaHand.exec_upd rfl rfl rfl rfl HRU.out) ?_
        refine hK.out _ _ ?_
        clear hK K
        refine done_ (by kernel_rfl) ?_
        go_wp2
        all_goals (go_roundg (l0.length - (x + 1)); (case measure => omega); (case rel => exact ⟨x + 1, _, _, by go_num, by omega, HA2, HN10, HM10, HB10⟩))
    · have hxe : x = l0.length := by omega
      have hA := HA.out
      rw [List.drop_eq_nil_of_le (by omega), stress_Bare.go] at hA
      have hA2 := Option.some.inj hA
      simp only [Prod.mk.injEq] at hA2
      obtain ⟨rfl, rfl⟩ := hA2
      have hh := HH.out
      try simp only at hh
      by_cases hk : t.length < 1000000
      case neg => rw [if_neg hk] at hh; cases hh
      rw [if_pos hk] at hh
      obtain ⟨⟨ns, es⟩, hS, hh⟩ := Option.bind_eq_some_iff.mp hh
      try simp only at hh
      have HS := Aside0.mk hS
      have HH := Aside0.mk hh
      have hd : decide ((x : Int) < (l0.length : Int)) = false := decide_eq_false (by omega)
      obtain ⟨inner, hown⟩ := Kd.R_own HN.out
      have HOB : Aside0 (∀ k_, u4.ownBlock = some k_ → w.heap.size ≤ k_) := ⟨fun k_ hk_ => own_base hown k_ hk_⟩
      have HTL : Aside0 (t.length < 4611686018427387904) := ⟨by omega⟩
      have HTK : Aside0 (t.length < 1000000) := ⟨hk⟩
      obtain ⟨Ac, cc, e4⟩ := Kd.R_slice HN.out
      subst e4
      clear hh hS HA hA hxe hown hk
      go_wp2_with (go_at_call 23; refine (Sort_string.calls _ t HN.out HTL.out).mono ?_; rintro _ w2 ⟨rfl, ho, hg⟩; have HN2 := Aside0.mk ho; have HM2 := Aside0.mk (HM.out.grown rfl hg (Go.Proofs.YtaookghbppimnaaHand.Groups.ne HM.out HN.out) (rows_apart HN.out (by decide))); have HB2 := Aside0.mk (pw_below_grown HB.out _ HB.out.size hg HOB.out); clear ho hg)
      have HSL := Aside0.mk (sortS_perm t).length_eq
      have hsl1 : (sortS t).length ≤ t.length := Nat.le_of_eq HSL.out
      have hsl2 : t.length ≤ (sortS t).length := Nat.le_of_eq HSL.out.symm
      have hszb := HB2.out.size
      have htk := HTK.out
      go_loopg [4, 5, 6, 71] t.length (fun kq v4 v5 v6 v71 w' => ∃ (y : Nat) (n : List Int), v4 = .slice Ac t.length cc ∧ v6 = .int .i64 0 ∧ v71 = .int .i64 y ∧ kq + y = t.length ∧ Aside0 (stress_Bare.sums k m ((sortS t).drop y) n = some (ns, es)) ∧ Aside0 (Kd.R (Kd.int .i64) 3 w' w2.heap.size (fun _ => True) v5 n) ∧ Aside0 (Below w2.heap.size w2 w'))
      case atStart => exact ⟨0, [], rfl, rfl, rfl, by omega, HS, ⟨Kd.R_nil _ _ _ _ _⟩, ⟨Below.refl _ _⟩⟩
      case round =>
        clear HS HM HB HN
        obtain ⟨y, n, rfl, rfl, rfl, hy, HS, HR, HBW⟩ := hrel
        have hszw := HBW.out.size
        by_cases hlt2 : y < t.length
        · have HNW := Aside0.mk (Kd.R_below HN2.out HBW.out)
          obtain ⟨adn, eas, hs0⟩ := Kd.at_string (Kd.R_reads' HNW.out).2.2 (y : Int) (by omega) (by omega)
          cases eas
          simp only [Int.toNat_natCast] at hs0
          have hdr : (sortS t).drop y = rdOf ByteArray.empty (sortS t) y :: (sortS t).drop (y + 1) := by
            rw [List.drop_eq_getElem_cons (by omega)]
            simp [rdOf, show y < (sortS t).length by omega]
          have hs := HS.out
          rw [hdr, stress_Bare.sums] at hs
          clear hdr HS
          generalize hp : rdOf ByteArray.empty (sortS t) y = s at *
          clear hp
          by_cases hk : s.size ≤ 1000000
          case neg => rw [if_neg hk] at hs; cases hs
          rw [if_pos hk] at hs
          obtain ⟨⟨c, e⟩, hN, hs⟩ := Option.bind_eq_some_iff.mp hs
          simp only at hs
          have HNC := Aside0.mk hN
          have HKEY := Aside0.mk (str_keyOf (s := s) hk)
          have HMW := Aside0.mk (HM2.out.below HBW.out)
          have hltW := HMW.out.lt
          clear hN hk
          by_cases he : e = 0
          case neg =>
            rw [if_neg he] at hs
            have hs2 := Option.some.inj hs
            simp only [Prod.mk.injEq] at hs2
            obtain ⟨rfl, rfl⟩ := hs2
            have hh := HH.out
            rw [if_neg he] at hh
            have hh2 := Option.some.inj hh
            simp only [Prod.mk.injEq] at hh2
            obtain ⟨rfl, rfl, rfl⟩ := hh2
            have h0b : (e == 0) = false := beq_eq_false_iff_ne.mpr he
            have h1b : (e != 0) = true := bne_iff_ne.mpr he
            clear he hs hh HH
            go_wp2_with (first | (at_lookup; obtain ⟨vL, hrunL, hRL, _⟩ := HMW.out.get (q := strQ) (a := s) rfl str_keyed Try.underlying53 ints_zero HKEY.out strQ_key; obtain ⟨AL, cL, eL⟩ := Kd.R_slice hRL; subst eL; refine Go.Proofs.YtaookghbppimnaaHand.wpL_look _ rfl (.tmp 76) (.tmp 77) 53 false rfl w1.heap.size (.string s) (.slice AL ((Go.Proofs.YtaookghbppimnaaHand.look strQ m s).getD []).length cL) rfl rfl hrunL ?_; have HRL := Aside0.mk hRL; clear hRL hrunL) | (go_at_call 24; refine (cents_Sum.calls k AL cL ((Go.Proofs.YtaookghbppimnaaHand.look strQ m s).getD []) c e _ (Kd.R_reads' HRL.out).2.2 (Kd.R_reads' HRL.out).2.1 HNC.out).mono ?_; rintro _ w8 ⟨rfl, hb⟩; have HB8 := Aside0.mk (below_step HBW.out (hb.below)); clear hb))
            go_ret3
            exact ⟨_, _, rfl, Kd.R_nil _ _ _ _ _, Kd.R_nil _ _ _ _ _, below_step HB2.out HB8.out⟩
          subst he
          rw [if_pos rfl] at hs
          by_cases hn : n.length < 1000000
          case neg => rw [if_neg hn] at hs; cases hs
          rw [if_pos hn] at hs
          have HS2 := Aside0.mk hs
          have HL : Aside0 ((n.length + 1) * 8 ≤ 140737488355328) := ⟨by omega⟩
          clear hs hn
          go_wp2_with (first | (at_lookup; obtain ⟨vL, hrunL, hRL, _⟩ := HMW.out.get (q := strQ) (a := s) rfl str_keyed Try.underlying53 ints_zero HKEY.out strQ_key; obtain ⟨AL, cL, eL⟩ := Kd.R_slice hRL; subst eL; refine Go.Proofs.YtaookghbppimnaaHand.wpL_look _ rfl (.tmp 76) (.tmp 77) 53 false rfl w1.heap.size (.string s) (.slice AL ((Go.Proofs.YtaookghbppimnaaHand.look strQ m s).getD []).length cL) rfl rfl hrunL ?_; have HRL := Aside0.mk hRL; clear hRL hrunL) | (go_at_call 24; refine (cents_Sum.calls k AL cL ((Go.Proofs.YtaookghbppimnaaHand.look strQ m s).getD []) c 0 _ (Kd.R_reads' HRL.out).2.2 (Kd.R_reads' HRL.out).2.1 HNC.out).mono ?_; rintro _ w8 ⟨rfl, hb⟩; have HB8 := Aside0.mk (below_step HBW.out (hb.below)); have HR8 := Aside0.mk (Kd.R_below HR.out (hb.below)); clear hb) | ((with_reducible refine gate_builtin (b := .append) (xs := #[.tmp 85, .tmp 87]) rfl ?_); at_builtin; refine Kd.R_append (Kd.int .i64) (w0 := w2) w2.heap.size rfl (.tmp 85) (.tmp 87) 27 3 (.int .i64 0) 8 rfl Try.underlying27 info3 rfl (by decide) (by decide) u5 n c [.int .i64 c] (fun _ => True) (fun _ => False) rfl ?aX ?aP (fun _ hk => hk.elim) (fun _ _ => trivial) HR8.out HB8.out HB8.out.size ?aL ?_; (case aX => rfl); (case aP => rfl); (case aL => exact HL.out); intro v9 w9 ho hb9 hg9 _; have HR9 := Aside0.mk ho; have HB9 := Aside0.mk hb9; clear ho hb9 hg9))
          go_roundg (t.length - (y + 1))
          case measure => omega
          case rel => exact ⟨y + 1, _, rfl, rfl, by go_num, by omega, HS2, HR9, HB9⟩
        · have hye : y = t.length := by omega
          have hs := HS.out
          rw [List.drop_eq_nil_of_le (by omega), stress_Bare.sums] at hs
          have hs2 := Option.some.inj hs
          simp only [Prod.mk.injEq] at hs2
          obtain ⟨rfl, rfl⟩ := hs2
          have hh := HH.out
          rw [if_pos rfl] at hh
          have hh2 := Option.some.inj hh
          simp only [Prod.mk.injEq] at hh2
          obtain ⟨rfl, rfl, rfl⟩ := hh2
          have hd2 : decide ((y : Int) < (t.length : Int)) = false := decide_eq_false (by omega)
          clear hs HS hye hh HH
          go_wp2
          go_ret3
          exact ⟨_, _, rfl, Kd.R_lower (Kd.R_below HN2.out HBW.out) (Nat.le_refl _), Kd.R_lower HR.out HB2.out.size, below_step HB2.out HBW.out⟩

end Go.Proofs.Ytaookghbppimnaa.PStressMargin
