-- Written by a program of this session's (a turned copy of the kit's print, with functions proved by hand).
import Derived.Test.YtmgeoombebkfaaaPDeliverSidesx0
import Derived.Test.YtmgeoombebkfaaaPDeliverSidesx4
import Derived.Test.YtmgeoombebkfaaaPDeliverSidesx9
import Derived.Test.YtmgeoombebkfaaaPDeliverSidesx10
namespace Go.Proofs.Ytmgeoombebkfaaa.PDeliverSides
open Go.RowKit Go.Proofs.YtmgeoombebkfaaaW.PrintWords Go.Proofs.YtmgeoombebkfaaaW.PrintLast Go.Proofs.YtmgeoombebkfaaaW.PrintMore
attribute [local go_sem] max2_int min2_int max_two min_two max_three min_three max_four min_four Go.Proofs.YtmgeoombebkfaaaHand.run_leq_str Go.Proofs.YtmgeoombebkfaaaHand.run_gtr_str Go.Proofs.YtmgeoombebkfaaaHand.run_geq_str   -- for this text's walks alone
set_option linter.unusedVariables false
set_option linter.unusedSimpArgs false

attribute [local go_sem high] eqA63
/-! ### deliver_Flows: function 18 -/
def insS (x : ByteArray) : List ByteArray → List ByteArray
  | [] => [x]
  | y :: r => if Op.bytesLess y.toList x.toList = true then y :: insS x r else x :: y :: r
def sortS : List ByteArray → List ByteArray
  | [] => []
  | x :: r => insS x (sortS r)
theorem insS_perm (x : ByteArray) (l : List ByteArray) : (insS x l).Perm (x :: l) := by
  induction l with
  | nil => exact .refl _
  | cons y r ih =>
    rw [insS]
    split
    · exact (List.Perm.cons y ih).trans (List.Perm.swap x y r)
    · exact .refl _
theorem sortS_perm (l : List ByteArray) : (sortS l).Perm l := by
  induction l with
  | nil => exact .refl _
  | cons x r ih => exact (insS_perm x _).trans (List.Perm.cons x ih)
theorem leS (a b : ByteArray) : (Op.bytesLess b.toList a.toList = false) ↔ a.data.toList ≤ b.data.toList := by
  rw [Go.Proofs.bytesLess_eq, ByteArray.toList_eq, ByteArray.toList_eq, decide_eq_false_iff_not]
  rfl
theorem insS_sorted (x : ByteArray) {l : List ByteArray} (h : l.Pairwise fun a b => a.data.toList ≤ b.data.toList) : (insS x l).Pairwise fun a b => a.data.toList ≤ b.data.toList := by
  induction l with
  | nil => exact List.pairwise_singleton _ _
  | cons y r ih =>
    rw [List.pairwise_cons] at h
    rw [insS]
    split
    · rename_i hlt
      rw [List.pairwise_cons]
      refine ⟨fun b hb => ?_, ih h.2⟩
      rcases List.mem_cons.mp ((insS_perm x r).mem_iff.mp hb) with rfl | hb
      · rw [Go.Proofs.bytesLess_eq, ByteArray.toList_eq, ByteArray.toList_eq, decide_eq_true_eq] at hlt
        exact List.le_of_lt hlt
      · exact h.1 b hb
    · rename_i hlt
      have hxy := (leS x y).mp (by simpa using hlt)
      rw [List.pairwise_cons]
      refine ⟨fun b hb => ?_, List.pairwise_cons.mpr h⟩
      rcases List.mem_cons.mp hb with rfl | hb
      · exact hxy
      · exact List.le_trans hxy (h.1 b hb)
theorem sortS_sorted (l : List ByteArray) : (sortS l).Pairwise fun a b => a.data.toList ≤ b.data.toList := by
  induction l with
  | nil => exact List.Pairwise.nil
  | cons x r ih => exact insS_sorted x ih
theorem sortS_eq (l : List ByteArray) : (l.map (·.data.toList)).mergeSort (fun x y => decide (x ≤ y)) = (sortS l).map (·.data.toList) := by
  refine List.Perm.eq_of_pairwise (le := fun a b => a ≤ b) (fun a b _ _ => List.le_antisymm) ?_ ?_ ?_
  · have := List.pairwise_mergeSort (le := fun x y : List UInt8 => decide (x ≤ y)) (fun a b c h1 h2 => by simp only [decide_eq_true_eq] at *; exact List.le_trans h1 h2) (fun a b => by simp only [Bool.or_eq_true, decide_eq_true_eq]; exact List.le_total a b) (l.map (·.data.toList))
    simpa using this
  · rw [List.pairwise_map]
    exact sortS_sorted l
  · exact (List.mergeSort_perm _ _).trans ((sortS_perm l).map _).symm

def laysSort_ren : Go.Shelf.Ren := ⟨fun | 190 => 38 | 125 => 62 | 258 => 61 | 128 => 83 | 129 => 84 | 302 => 74 | 303 => 75 | 304 => 76 | 305 => 77 | 306 => 78 | 307 => 79 | 308 => 80 | 309 => 81 | 310 => 82 | 333 => 92 | 329 => 93 | 330 => 94 | 334 => 95 | 335 => 96 | 336 => 97 | 344 => 99 | n => n, fun | 31 => 86 | 9 => 9 | 3 => 3 | 46 => 61 | 0 => 0 | 51 => 137 | 53 => 106 | 4 => 4 | 183 => 129 | 182 => 128 | 131 => 134 | 5 => 5 | 218 => 143 | 222 => 147 | 228 => 149 | 229 => 40 | n => n, fun | n => n⟩
theorem laysSort : Go.Proofs.Lays.n190 Try.prog laysSort_ren where
  mixed := by kernel_rfl
  f125 := Try.func62.trans (congrArg some (by kernel_rfl))
  f128 := Try.func83.trans (congrArg some (by kernel_rfl))
  f129 := Try.func84.trans (congrArg some (by kernel_rfl))
  f190 := Try.func38.trans (congrArg some (by kernel_rfl))
  f258 := Try.func61.trans (congrArg some (by kernel_rfl))
  f302 := Try.func74.trans (congrArg some (by kernel_rfl))
  f303 := Try.func75.trans (congrArg some (by kernel_rfl))
  f304 := Try.func76.trans (congrArg some (by kernel_rfl))
  f305 := Try.func77.trans (congrArg some (by kernel_rfl))
  f306 := Try.func78.trans (congrArg some (by kernel_rfl))
  f307 := Try.func79.trans (congrArg some (by kernel_rfl))
  f308 := Try.func80.trans (congrArg some (by kernel_rfl))
  f309 := Try.func81.trans (congrArg some (by kernel_rfl))
  f310 := Try.func82.trans (congrArg some (by kernel_rfl))
  f329 := Try.func93.trans (congrArg some (by kernel_rfl))
  f330 := Try.func94.trans (congrArg some (by kernel_rfl))
  f333 := Try.func92.trans (congrArg some (by kernel_rfl))
  f334 := Try.func95.trans (congrArg some (by kernel_rfl))
  f335 := Try.func96.trans (congrArg some (by kernel_rfl))
  f336 := Try.func97.trans (congrArg some (by kernel_rfl))
  f344 := Try.func99.trans (congrArg some (by kernel_rfl))
  t0 := Try.underlying0
  a0 := Try.isAgg0
  z0 := Try.sizeOf0
  v0 := Try.zeroValue0
  t3 := Try.underlying3
  a3 := Try.isAgg3
  z3 := Try.sizeOf3
  v3 := Try.zeroValue3
  t4 := Try.underlying4
  a4 := Try.isAgg4
  z4 := Try.sizeOf4
  v4 := Try.zeroValue4
  t5 := Try.underlying5
  a5 := Try.isAgg5
  z5 := Try.sizeOf5
  v5 := Try.zeroValue5
  t9 := Try.underlying9
  a9 := Try.isAgg9
  z9 := Try.sizeOf9
  v9 := Try.zeroValue9
  t31 := Try.underlying86
  a31 := Try.isAgg86
  z31 := Try.sizeOf86
  v31 := Try.zeroValue86
  t46 := Try.underlying61
  a46 := Try.isAgg61
  z46 := Try.sizeOf61
  v46 := Try.zeroValue61
  t51 := Try.underlying137
  a51 := Try.isAgg137
  z51 := Try.sizeOf137
  v51 := Try.zeroValue137
  t53 := Try.underlying106
  a53 := Try.isAgg106
  z53 := Try.sizeOf106
  v53 := Try.zeroValue106
  t131 := Try.underlying134
  a131 := Try.isAgg134
  z131 := Try.sizeOf134
  v131 := Try.zeroValue134
  t182 := Try.underlying128
  a182 := Try.isAgg128
  z182 := Try.sizeOf128
  v182 := Try.zeroValue128
  t183 := Try.underlying129
  a183 := Try.isAgg129
  z183 := Try.sizeOf129
  v183 := Try.zeroValue129
  t218 := Try.underlying143
  a218 := Try.isAgg143
  z218 := Try.sizeOf143
  v218 := Try.zeroValue143
  t222 := Try.underlying147
  a222 := Try.isAgg147
  z222 := Try.sizeOf147
  v222 := Try.zeroValue147
  t228 := Try.underlying149
  a228 := Try.isAgg149
  z228 := Try.sizeOf149
  v228 := Try.zeroValue149
  t229 := Try.underlying40
  a229 := Try.isAgg40
  z229 := Try.sizeOf40
  v229 := Try.zeroValue40
set_option maxRecDepth 100000 in
/-- slices.Sort of strings: the row holds the strings in order; nothing else has turned. -/
theorem Sort_string.calls {w : World} {base : Nat} {ok : Nat → Prop} (v : Value) (xs : List ByteArray) (hR : Kd.R Kd.string 9 w base ok v xs) (hlen : xs.length < 4611686018427387904) :
    Calls Try.prog 38 #[v] w fun e w' => e = .returned (.tuple #[]) ∧ Kd.R Kd.string 9 w' base ok v (sortS xs) ∧ w.grownBy w' v.ownBlock := by
  have hok := hR.1
  have ho := Kd.own_of_R hR
  have hs : (sortS xs).length = xs.length := (sortS_perm xs).length_eq
  unfold encs at ho
  rw [← Go.Lib.map_encStr] at ho
  have hl : (xs.map (fun a => a.data.toList)).length = xs.length := by simp
  rcases ho.2 with ⟨rfl, h0⟩ | ⟨g, cap, cur, rfl, hbase, hb, h1, h2, h3, h4⟩
  · have hx : xs = [] := by
      have : xs.length = 0 := by simpa using h0
      exact List.length_eq_zero_iff.mp this
    subst hx
    refine (Go.Proofs.Any.slices_Sort_string_none laysSort none 0 w).mono ?_
    rintro e w' ⟨rfl, rfl⟩
    exact ⟨rfl, hR, rfl, rfl, rfl, Nat.le_refl _, fun i _ _ => rfl⟩
  · have hH := Go.holds_of_block (ss := xs.map (fun a => a.data.toList)) hb (by rw [hl]; simpa using h4)
    have hc := Go.calls_of_every_depth fun D => Go.Proofs.AnyS.slices_Sort_string_alone laysSort D g 0 cap (xs.map (fun a => a.data.toList)) w hH (Array.getElem?_eq_some_iff.1 hb).1 (by rw [hl]; exact hlen)
    rw [hl] at hc
    refine hc.mono ?_
    rintro e w' ⟨rfl, n, os, rfl⟩
    rw [sortS_eq]
    have hr := Go.ownsRow_sorted (n := n) (os := os) (ss := xs.map (fun a => a.data.toList)) (ts := (sortS xs).map (fun a => a.data.toList)) (by simp [hs]) hbase hb (by rw [hl]; exact h1) h2 h3
    refine ⟨rfl, Kd.R_of_own ?_ hok, ?_⟩
    · rw [hl, Go.Lib.map_encStr] at hr
      unfold encs
      rw [hs]
      exact hr
    · exact Go.grownBy_sorted _

/-- Strings as a map's keys. -/
def strQ (x y : ByteArray) : Bool := x.toList == y.toList
theorem strQ_iff (x y : ByteArray) : strQ x y = true ↔ x = y := by
  simp only [strQ, beq_iff_eq]
  constructor
  · intro h
    rw [ByteArray.toList_eq, ByteArray.toList_eq] at h
    exact ByteArray.ext (Array.ext' h)
  · rintro rfl
    rfl
theorem strQ_key (x y : ByteArray) : strQ x y = true ↔ Value.string x = Value.string y := by
  rw [strQ_iff]
  exact ⟨fun h => by rw [h], fun h => by injection h⟩
theorem str_keyed : Go.Maps.Keyed Try.prog 9 := Go.Maps.string_keyed Try.underlying9
theorem str_keyOf {s : ByteArray} {n : Nat} (h : s.size ≤ n) (hn : n ≤ 9223372036854775807 := by decide) : keyOf Try.prog 9 (.string s) = some (.string s.data.toList) := Go.WideMaps.keyOf_string_mk Try.underlying9 (Nat.le_trans h hn)
theorem ints_zero (W : World) : (zeroValue 87).run Try.prog W = .ok (.slice none 0 0) W := by kernel_rfl
theorem rows_apart {α : Type} {d : Kd α} {e e' : TypeId} {w : World} {base : Nat} {ok : Nat → Prop} {v : Value} {xs : List α} (h : d.R e w base ok v xs) (hne : e ≠ e') : ∀ k cells, v.ownBlock = some k → w.heap[k]? = some (.cells cells e' (0, 0)) → False := by
  intro k cells hk hc
  obtain ⟨cells2, h2⟩ := Kd.R_typed h k hk
  rw [hc] at h2
  injection h2 with h2
  injection h2 with _ h2
  exact hne h2.symm
theorem blk_kept {α : Type} {d : Kd α} {e : TypeId} {w w1 : World} {base : Nat} {ok : Nat → Prop} {g t : Nat} {cs : Array Value} {v : Value} {xs : List α} (h : w.heap[g]? = some (.cells cs t (0, 0))) (hR : d.R e w base ok v xs) (ht : e ≠ t) (hg : w.grownBy w1 v.ownBlock) : w1.heap[g]? = some (.cells cs t (0, 0)) :=
  (hg.block g (blk_lt h) (fun he => rows_apart hR ht _ _ he.symm h)).trans h

/-- One's number is put to its name; a new name comes behind the others. The number turns for the next. -/
def deliver_Flows.two : List ByteArray → Int → List ByteArray → List (ByteArray × List Int) → Option (List ByteArray × List (ByteArray × List Int))
  | [], _, t, m => some (t, m)
  | s :: r, n, t, m => if s.size ≤ 9223372036854775807 then (if ((Go.Proofs.YtmgeoombebkfaaaHand.look strQ m s).getD []).length < 1000000 then (if t.length < 1000000 then
      deliver_Flows.two r (wrap64 (-n)) (if ((Go.Proofs.YtmgeoombebkfaaaHand.look strQ m s).getD []).length = 0 then t ++ [s] else t) (Go.Proofs.YtmgeoombebkfaaaHand.put strQ s (((Go.Proofs.YtmgeoombebkfaaaHand.look strQ m s).getD []) ++ [wrap64 (-n)]) m) else none) else none) else none
def deliver_Flows.go (k : Nat) (a0_0 : ByteArray) (a0_1 a0_2 a0_3 a0_4 a0_5 : Int) (a0_6 : Bool) (a1 : Int) : List S56 → List ByteArray → List (ByteArray × List Int) → Option (List ByteArray × List (ByteArray × List Int) × Int)
  | [], t, m => some (t, m, 0)
  | x :: r, t, m => (deliver_Invoice.f k a0_0 a0_1 a0_2 a0_3 a0_4 a0_5 a0_6 a1 x.f2).bind fun y => if y.2 = 0 then ((deliver_Flows.two [x.f1.f0, x.f0.f0] y.1 t m).bind fun u => deliver_Flows.go k a0_0 a0_1 a0_2 a0_3 a0_4 a0_5 a0_6 a1 r u.1 u.2) else some ([], [], y.2)
def deliver_Flows.out (k : Nat) (mm : List (ByteArray × List Int)) (cur : Int) : List ByteArray → List S63 → Option (List S63 × Int)
  | [], t => some (t, 0)
  | s :: r, t => if s.size ≤ 9223372036854775807 then (cents_Sum.f k ((Go.Proofs.YtmgeoombebkfaaaHand.look strQ mm s).getD [])).bind fun x => if x.2 = 0 then (if x.1 = 0 then deliver_Flows.out k mm cur r t else (if t.length < 1000000 then deliver_Flows.out k mm cur r (t ++ [⟨s, cur, x.1, 4⟩]) else none)) else some ([], x.2) else none
def deliver_Flows.f (k : Nat) (a0_0 : ByteArray) (a0_1 a0_2 a0_3 a0_4 a0_5 : Int) (a0_6 : Bool) (a1 : Int) (l2 : List S56) : Option (List S63 × Int) :=
  (deliver_Flows.go k a0_0 a0_1 a0_2 a0_3 a0_4 a0_5 a0_6 a1 l2 [] []).bind fun x => if x.2.2 = 0 then (if l2.length > 1024 then some ([], 8) else (if x.1.length < 1000000 then deliver_Flows.out k x.2.1 a0_1 (sortS x.1) [] else none)) else some ([], x.2.2)
theorem deliver_Flows.mono_go (k : Nat) (a0_0 : ByteArray) (a0_1 a0_2 a0_3 a0_4 a0_5 : Int) (a0_6 : Bool) (a1 : Int) (l : List S56) : ∀ t m, LeO (deliver_Flows.go k a0_0 a0_1 a0_2 a0_3 a0_4 a0_5 a0_6 a1 l t m) (deliver_Flows.go (k + 1) a0_0 a0_1 a0_2 a0_3 a0_4 a0_5 a0_6 a1 l t m) := by
  induction l with
  | nil => intro t m; exact LeO.refl _
  | cons h r ih =>
    intro t m
    unfold deliver_Flows.go
    exact LeO.bind (deliver_Invoice.mono _ _ _ _ _ _ _ _ _ _) (fun y => LeO.ite (LeO.bind (LeO.refl _) (fun u => ih _ _)) (LeO.refl _))
theorem deliver_Flows.mono_out (k : Nat) (mm : List (ByteArray × List Int)) (cur : Int) (l : List ByteArray) : ∀ t, LeO (deliver_Flows.out k mm cur l t) (deliver_Flows.out (k + 1) mm cur l t) := by
  induction l with
  | nil => intro m; exact LeO.refl _
  | cons h r ih =>
    intro m
    unfold deliver_Flows.out
    exact LeO.ite (LeO.bind (cents_Sum.mono _ _) (fun x => LeO.ite (LeO.ite (ih _) (LeO.ite (ih _) (LeO.refl _))) (LeO.refl _))) (LeO.refl _)
theorem deliver_Flows.mono : ∀ b0 b1 b2 b3 b4 b5 b6 b7 b8 k, LeO (deliver_Flows.f k b0 b1 b2 b3 b4 b5 b6 b7 b8) (deliver_Flows.f (k + 1) b0 b1 b2 b3 b4 b5 b6 b7 b8) := by
  intro b0 b1 b2 b3 b4 b5 b6 b7 b8 k
  unfold deliver_Flows.f
  exact LeO.bind (deliver_Flows.mono_go _ _ _ _ _ _ _ _ _ _ _ _) (fun x => LeO.ite (LeO.ite (LeO.refl _) (LeO.ite (deliver_Flows.mono_out _ _ _ _ _) (LeO.refl _))) (LeO.refl _))
set_option maxHeartbeats 3200000 in
set_option maxRecDepth 100000 in
theorem deliver_Flows.calls (k : Nat) (a0_0 : ByteArray) (a0_1 a0_2 a0_3 a0_4 a0_5 : Int) (a0_6 : Bool) (a1 : Int) (A2 : Option Addr) (c2 : Nat) (l2 : List (S56)) (r1 : List S63) (r2 : Int) (w : World) (hr2 : Kd.C k56 w A2 l2.length l2) (hc2 : l2.length ≤ c2) (h : deliver_Flows.f k a0_0 a0_1 a0_2 a0_3 a0_4 a0_5 a0_6 a1 l2 = some (r1, r2)) :
    Calls Try.prog 18 #[.agg #[.string a0_0, .int .i64 a0_1, .int .i64 a0_2, .int .i64 a0_3, .int .i64 a0_4, .int .i64 a0_5, .bool a0_6], .int .i64 a1, .slice A2 l2.length c2] w fun e w' => ∃ v0_ : Value, e = .returned (.tuple #[v0_, .int .i64 r2]) ∧ Kd.R k63 63 w' w.heap.size (fun _ => True) v0_ r1 ∧ Below w.heap.size w w' := by
  have HR2 := Aside0.mk hr2
  have hl2 := hr2.2.1
  have hmm := @run_makeMap Try.prog
  obtain ⟨⟨tt, mm, e0⟩, hG, hh⟩ := Option.bind_eq_some_iff.mp h
  simp only at hh
  have HG := Aside0.mk hG
  have HH := Aside0.mk hh
  clear hr2 hc2 h hG hh
  have HPP : Aside0 (((w.alloc (.cells #[.string a0_0, .int .i64 a0_1, .int .i64 a0_2, .int .i64 a0_3, .int .i64 a0_4, .int .i64 a0_5, .bool a0_6] 35 (0, 0))).alloc (.map #[] 0)).heap[w.heap.size]? = some (.cells #[.string a0_0, .int .i64 a0_1, .int .i64 a0_2, .int .i64 a0_3, .int .i64 a0_4, .int .i64 a0_5, .bool a0_6] 35 (0, 0))) := ⟨blk_alloc (blk_new w _) _⟩
  have HGE : Aside0 (∀ kk, some (w.heap.size + 1) = some kk → w.heap.size ≤ kk) := ⟨fun kk e => by cases e; omega⟩
  go_enter Try.func18, Try.ntmps18
  go_wp2
  go_loopg [6, 9, 23] l2.length (fun kq v6 v9 v23 w' => ∃ (x : Nat) (t : List ByteArray) (m : List (ByteArray × List Int)), v23 = .int .i64 (x : Int) ∧ v6 = .slice none 0 0 ∧ kq + x = l2.length ∧ Aside0 (deliver_Flows.go k a0_0 a0_1 a0_2 a0_3 a0_4 a0_5 a0_6 a1 (l2.drop x) t m = some (tt, mm, e0)) ∧ Aside0 (Kd.R Kd.string 9 w' w.heap.size (fun _ => True) v9 t) ∧ Aside0 (Go.Proofs.YtmgeoombebkfaaaHand.Groups Try.prog 9 (Kd.int .i64) 3 Value.string w' w.heap.size (w.heap.size + 1) m) ∧ Aside0 (w'.heap[w.heap.size]? = some (.cells #[.string a0_0, .int .i64 a0_1, .int .i64 a0_2, .int .i64 a0_3, .int .i64 a0_4, .int .i64 a0_5, .bool a0_6] 35 (0, 0))) ∧ Aside0 (Below w.heap.size w w'))
  case atStart => exact ⟨0, [], [], rfl, rfl, by omega, HG, ⟨Kd.R_nil _ _ _ _ _⟩, ⟨by have := Go.Proofs.YtmgeoombebkfaaaHand.Groups.made Try.prog 9 (Kd.int .i64) 3 Value.string (w.alloc (.cells #[.string a0_0, .int .i64 a0_1, .int .i64 a0_2, .int .i64 a0_3, .int .i64 a0_4, .int .i64 a0_5, .bool a0_6] 35 (0, 0))) w.heap.size; simpa using this⟩, HPP, ⟨below_alloc (below_alloc (Below.refl _ w) _) _⟩⟩
  case round =>
    clear HG HPP
    obtain ⟨x, t, m, rfl, rfl, hx, HA, HN, HM, BP, HB⟩ := hrel
    by_cases hlt : x < l2.length
    · obtain ⟨ad, ead, h0, h1, h2, h3, h4⟩ := at_T56 (Kd.C_below HR2.out HB.out) (x : Int) (by omega) (by omega)
      cases ead
      simp only [Int.toNat_natCast] at h0 h1 h2 h3 h4
      have hdr : l2.drop x = rd_T56 l2 x :: l2.drop (x + 1) := by
        rw [List.drop_eq_getElem_cons hlt]
        simp [rd_T56, hlt]
      have hA := HA.out
      rw [hdr, deliver_Flows.go] at hA
      clear hdr HA
      generalize hq : rd_T56 l2 x = q at *
      clear hq
      obtain ⟨⟨q0, q1⟩, ⟨q2, q3⟩, q4⟩ := q
      simp only at h0 h1 h2 h3 h4 hA
      obtain ⟨⟨n, e⟩, hI, hA⟩ := Option.bind_eq_some_iff.mp hA
      simp only at hA
      have HI := Aside0.mk hI
      clear hI
      have BPA := Aside0.mk (blk_alloc BP.out (.cells #[.string q0, .string q1, .string q2, .string q3, .int .i64 q4] 56 (0, 0)))
      have BX := Aside0.mk (blk_new wr (.cells #[.string q0, .string q1, .string q2, .string q3, .int .i64 q4] 56 (0, 0)))
      have HBA := Aside0.mk (below_alloc HB.out (.cells #[.string q0, .string q1, .string q2, .string q3, .int .i64 q4] 56 (0, 0)))
      have HNA := Aside0.mk (Kd.R_alloc HN.out (.cells #[.string q0, .string q1, .string q2, .string q3, .int .i64 q4] 56 (0, 0)))
      have HMA := Aside0.mk (HM.out.below (below_alloc (Below.refl _ _) (.cells #[.string q0, .string q1, .string q2, .string q3, .int .i64 q4] 56 (0, 0))))
      have hp0 : (wr.alloc (.cells #[.string q0, .string q1, .string q2, .string q3, .int .i64 q4] 56 (0, 0))).cell? ⟨w.heap.size, 0, none⟩ = some (.string a0_0) := (blk_cell BPA.out 0).trans rfl
      have hp1 : (wr.alloc (.cells #[.string q0, .string q1, .string q2, .string q3, .int .i64 q4] 56 (0, 0))).cell? ⟨w.heap.size, 1, none⟩ = some (.int .i64 a0_1) := (blk_cell BPA.out 1).trans rfl
      have hp2 : (wr.alloc (.cells #[.string q0, .string q1, .string q2, .string q3, .int .i64 q4] 56 (0, 0))).cell? ⟨w.heap.size, 2, none⟩ = some (.int .i64 a0_2) := (blk_cell BPA.out 2).trans rfl
      have hp3 : (wr.alloc (.cells #[.string q0, .string q1, .string q2, .string q3, .int .i64 q4] 56 (0, 0))).cell? ⟨w.heap.size, 3, none⟩ = some (.int .i64 a0_3) := (blk_cell BPA.out 3).trans rfl
      have hp4 : (wr.alloc (.cells #[.string q0, .string q1, .string q2, .string q3, .int .i64 q4] 56 (0, 0))).cell? ⟨w.heap.size, 4, none⟩ = some (.int .i64 a0_4) := (blk_cell BPA.out 4).trans rfl
      have hp5 : (wr.alloc (.cells #[.string q0, .string q1, .string q2, .string q3, .int .i64 q4] 56 (0, 0))).cell? ⟨w.heap.size, 5, none⟩ = some (.int .i64 a0_5) := (blk_cell BPA.out 5).trans rfl
      have hp6 : (wr.alloc (.cells #[.string q0, .string q1, .string q2, .string q3, .int .i64 q4] 56 (0, 0))).cell? ⟨w.heap.size, 6, none⟩ = some (.bool a0_6) := (blk_cell BPA.out 6).trans rfl
      by_cases he : e = 0
      case neg =>
        rw [if_neg he] at hA
        have hA2 := Option.some.inj hA
        simp only [Prod.mk.injEq] at hA2
        obtain ⟨rfl, rfl, rfl⟩ := hA2
        have hh := HH.out
        rw [if_neg he] at hh
        have hh2 := Option.some.inj hh
        simp only [Prod.mk.injEq] at hh2
        obtain ⟨rfl, rfl⟩ := hh2
        have h0b : (e == 0) = false := beq_eq_false_iff_ne.mpr he
        have h1b : (e != 0) = true := bne_iff_ne.mpr he
        clear he hA hh HH
        go_wp2_with (go_at_call 14; refine (deliver_Invoice.calls k a0_0 a0_1 a0_2 a0_3 a0_4 a0_5 a0_6 a1 q4 n e _ HI.out).mono ?_; rintro _ w5 ⟨rfl, hb⟩; have BX5 := Aside0.mk (blk_below BX.out hb); have BP5 := Aside0.mk (blk_below BPA.out hb); have HB5 := Aside0.mk (below_step HBA.out hb); have HN5 := Aside0.mk (Kd.R_below HNA.out hb); have HM5 := Aside0.mk (HMA.out.below hb); clear hb)
        go_ret2
        exact ⟨_, rfl, Kd.R_nil _ _ _ _ _, HB5.out⟩
      subst he
      rw [if_pos rfl] at hA
      obtain ⟨⟨t2, m2⟩, hU, hA⟩ := Option.bind_eq_some_iff.mp hA
      simp only at hA hU
      have HU := Aside0.mk hU
      have HA2 := Aside0.mk hA
      clear hU hA
      go_wp2_with (go_at_call 14; refine (deliver_Invoice.calls k a0_0 a0_1 a0_2 a0_3 a0_4 a0_5 a0_6 a1 q4 n 0 _ HI.out).mono ?_; rintro _ w5 ⟨rfl, hb⟩; have BX5 := Aside0.mk (blk_below BX.out hb); have BP5 := Aside0.mk (blk_below BPA.out hb); have HB5 := Aside0.mk (below_step HBA.out hb); have HN5 := Aside0.mk (Kd.R_below HNA.out hb); have HM5 := Aside0.mk (HMA.out.below hb); have e0_ : w5.cell? ⟨wr.heap.size, 0, none⟩ = some (.string q0) := (blk_cell BX5.out 0).trans rfl; have e2_ : w5.cell? ⟨wr.heap.size, 2, none⟩ = some (.string q2) := (blk_cell BX5.out 2).trans rfl; clear hb)
      have BG6 := Aside0.mk (blk_new w5 (.cells #[.string q2, .string q0] 9 (0, 0)))
      have BP6 := Aside0.mk (blk_alloc BP5.out (.cells #[.string q2, .string q0] 9 (0, 0)))
      have HB6 := Aside0.mk (below_alloc HB5.out (.cells #[.string q2, .string q0] 9 (0, 0)))
      have HN6 := Aside0.mk (Kd.R_alloc HN5.out (.cells #[.string q2, .string q0] 9 (0, 0)))
      have HM6 := Aside0.mk (HM5.out.below (below_alloc (Below.refl _ _) (.cells #[.string q2, .string q0] 9 (0, 0))))
      have HNR := Aside0.mk (Kd.R_reok (ok := fun k_ => k_ ≠ w5.heap.size) rfl HN6.out (fun k_ hk => by obtain ⟨cells, hc⟩ := Kd.R_typed HN5.out k_ hk; exact Nat.ne_of_lt (blk_lt hc)))
      have HLB := Aside0.mk HM5.out.lt
      clear BX5 BP5 HB5 HN5 HM5 BX BPA HBA HNA HMA hp0 hp1 hp2 hp3 hp4 hp5 hp6 h0 h1 h2 h3 h4 HN HM BP HB e0_ e2_
      go_loopg [9, 12, 46] 2 (fun kq v9 v12 v46 w' => ∃ (y : Nat) (nv : Int) (t1 : List ByteArray) (m1 : List (ByteArray × List Int)), v46 = .int .i64 (y : Int) ∧ v12 = .int .i64 nv ∧ kq + y = 2 ∧ Aside0 (deliver_Flows.two ([q2, q0].drop y) nv t1 m1 = some (t2, m2)) ∧ Aside0 (Kd.R Kd.string 9 w' w.heap.size (fun k_ => k_ ≠ w5.heap.size) v9 t1) ∧ Aside0 (Go.Proofs.YtmgeoombebkfaaaHand.Groups Try.prog 9 (Kd.int .i64) 3 Value.string w' w.heap.size (w.heap.size + 1) m1) ∧ Aside0 (w'.heap[w.heap.size]? = some (.cells #[.string a0_0, .int .i64 a0_1, .int .i64 a0_2, .int .i64 a0_3, .int .i64 a0_4, .int .i64 a0_5, .bool a0_6] 35 (0, 0))) ∧ Aside0 (w'.heap[w5.heap.size]? = some (.cells #[.string q2, .string q0] 9 (0, 0))) ∧ Aside0 (Below w.heap.size w w'))
      case atStart => exact ⟨0, n, t, m, rfl, rfl, rfl, HU, HNR, HM6, BP6, BG6, HB6⟩
      case round =>
        clear HU HN6 HNR HM6 BP6 BG6 HB6
        obtain ⟨y, nv, t1, m1, rfl, rfl, hy, HU, HN, HM, BP, BG, HB⟩ := hrel
        by_cases hy2 : y < 2
        · obtain ⟨s, hs, hds⟩ : ∃ s, wr.cell? ⟨w5.heap.size, y, none⟩ = some (.string s) ∧ [q2, q0].drop y = s :: [q2, q0].drop (y + 1) := by
            match y, hy2 with
            | 0, _ => exact ⟨q2, (blk_cell BG.out 0).trans rfl, rfl⟩
            | 1, _ => exact ⟨q0, (blk_cell BG.out 1).trans rfl, rfl⟩
          have hU := HU.out
          rw [hds, deliver_Flows.two] at hU
          clear hds HU
          by_cases hk : s.size ≤ 9223372036854775807
          case neg => rw [if_neg hk] at hU; cases hU
          rw [if_pos hk] at hU
          by_cases hl : ((Go.Proofs.YtmgeoombebkfaaaHand.look strQ m1 s).getD []).length < 1000000
          case neg => rw [if_neg hl] at hU; cases hU
          rw [if_pos hl] at hU
          by_cases ht : t1.length < 1000000
          case neg => rw [if_neg ht] at hU; cases hU
          rw [if_pos ht] at hU
          have HKEY := Aside0.mk (str_keyOf (s := s) hk)
          have HL : Aside0 ((((Go.Proofs.YtmgeoombebkfaaaHand.look strQ m1 s).getD []).length + 1) * 8 ≤ 140737488355328) := ⟨by omega⟩
          have HT : Aside0 ((t1.length + 1) * 16 ≤ 140737488355328) := ⟨by omega⟩
          have HU2 := Aside0.mk hU
          clear hU hk ht
          have hd2 : decide ((y : Int) < 2) = true := decide_eq_true (by omega)
          obtain ⟨vL, hrunL, hRL, _⟩ := HM.out.getW (q := strQ) (a := s) rfl str_keyed Try.underlying85 ints_zero HKEY.out strQ_key
          obtain ⟨AL, cL, eL⟩ := Kd.R_slice hRL
          subst eL
          have HRN := Aside0.mk hrunL
          clear hrunL hRL
          have hltM := HM.out.lt
          by_cases hz : ((Go.Proofs.YtmgeoombebkfaaaHand.look strQ m1 s).getD []).length = 0
          · have hU3 := HU2.out
            rw [if_pos hz] at hU3
            have HU3 := Aside0.mk hU3
            have hzb : ((((Go.Proofs.YtmgeoombebkfaaaHand.look strQ m1 s).getD []).length : Int) == 0) = true := by rw [hz]; rfl
            clear hU3 HU2 hz hl
            go_upto_region 14 with (first | (at_lookup; refine Go.Proofs.YtmgeoombebkfaaaHand.wpL_look _ rfl (.tmp 50) (.tmp 51) 85 false rfl (w.heap.size + 1) (.string s) (.slice AL ((Go.Proofs.YtmgeoombebkfaaaHand.look strQ m1 s).getD []).length cL) rfl rfl (HRN.out _ rfl) ?_) | ((with_reducible refine gate_builtin (b := .append) (xs := #[.tmp 55, .tmp 57]) rfl ?_); at_builtin; refine Kd.R_append Kd.string (w0 := w) w.heap.size rfl (.tmp 55) (.tmp 57) 86 9 (.string ⟨#[]⟩) 16 rfl Try.underlying86 info9 rfl (by decide) (by decide) u9 t1 s [.string s] (fun k_ => k_ ≠ w5.heap.size) (fun _ => False) rfl ?aX ?aP (fun _ hk => hk.elim) (fun k_ hk => Nat.ne_of_gt (Nat.lt_of_lt_of_le (blk_lt BG.out) hk)) HN.out HB.out HB.out.size ?aL ?_; (case aX => rfl); (case aP => rfl); (case aL => exact HT.out); intro v6 w6 ho hb6 hg6 _; have HN6 := Aside0.mk ho; have HM6 := Aside0.mk (HM.out.grown rfl hg6 (Go.Proofs.YtmgeoombebkfaaaHand.Groups.ne HM.out HN.out) (rows_apart HN.out (by decide))); have HB6 := Aside0.mk hb6; have BP6 := Aside0.mk ((hg6.block w.heap.size (blk_lt BP.out) (fun e => by obtain ⟨cells, hc⟩ := Kd.R_typed HN.out _ e.symm; rw [BP.out] at hc; cases hc)).trans BP.out); have BG6 := Aside0.mk ((hg6.block w5.heap.size (blk_lt BG.out) (fun e => HN.out.1 w5.heap.size e.symm rfl)).trans BG.out); clear ho hb6 hg6))
            obtain ⟨vM, hrunM, hRM, hbackM⟩ := HM6.out.getW (q := strQ) (a := s) rfl str_keyed Try.underlying85 ints_zero HKEY.out strQ_key
            obtain ⟨AM, cM, eM⟩ := Kd.R_slice hRM
            subst eM
            have HRM := Aside0.mk hrunM
            have HRO := Aside0.mk hRM
            have HBK := Aside0.mk hbackM
            have HNN := Aside0.mk (Go.Proofs.YtmgeoombebkfaaaHand.Groups.ne HM6.out HN6.out)
            clear hrunM hRM hbackM
            go_wp2_with (first | (at_lookup; refine Go.Proofs.YtmgeoombebkfaaaHand.wpL_look _ rfl (.tmp 61) (.tmp 62) 85 false rfl (w.heap.size + 1) (.string s) (.slice AM ((Go.Proofs.YtmgeoombebkfaaaHand.look strQ m1 s).getD []).length cM) rfl rfl (HRM.out _ rfl) ?_) | ((with_reducible refine gate_builtin (b := .append) (xs := #[.tmp 63, .tmp 66]) rfl ?_); at_builtin; refine Kd.R_append (Kd.int .i64) (w0 := w) w.heap.size rfl (.tmp 63) (.tmp 66) 87 3 (.int .i64 0) 8 rfl Try.underlying87 info3 rfl (by decide) (by decide) (.slice AM ((Go.Proofs.YtmgeoombebkfaaaHand.look strQ m1 s).getD []).length cM) ((Go.Proofs.YtmgeoombebkfaaaHand.look strQ m1 s).getD []) (wrap64 (-nv)) [.int .i64 (wrap64 (-nv))] (fun _ => True) (fun _ => False) rfl ?aX ?aP (fun _ hk => hk.elim) (fun _ _ => trivial) HRO.out HB6.out HB6.out.size ?aL ?_; (case aX => rfl); (case aP => rfl); (case aL => exact HL.out); intro v7 w7 ho hb hg hat; obtain ⟨w10, hrunU, hM10, hg10⟩ := HBK.out _ _ _ hg ho hat; have HN9 := Aside0.mk (Kd.R_over' HN6.out (Kd.R_typed HRO.out) (by decide) hg); have HN10 := Aside0.mk (Kd.R_grown2 HN9.out rfl hg10 (fun k hk => by cases hk; exact HNN.out)); have BP9 : w7.heap[w.heap.size]? = _ := (hg.block w.heap.size (blk_lt BP6.out) (fun e => by obtain ⟨cells, hc⟩ := Kd.R_typed HRO.out _ e.symm; rw [BP6.out] at hc; cases hc)).trans BP6.out; have BP10 := Aside0.mk ((hg10.block w.heap.size (blk_lt BP9) (fun e => absurd (Option.some.inj e) (Nat.ne_of_lt (Nat.lt_succ_self _)))).trans BP9); have BG9 : w7.heap[w5.heap.size]? = _ := (hg.block w5.heap.size (blk_lt BG6.out) (fun e => by obtain ⟨cells, hc⟩ := Kd.R_typed HRO.out _ e.symm; rw [BG6.out] at hc; cases hc)).trans BG6.out; have BG10 := Aside0.mk ((hg10.block w5.heap.size (blk_lt BG9) (fun e => absurd (Option.some.inj e) (Nat.ne_of_gt HLB.out))).trans BG9); have HB9 := Aside0.mk hb; have HB10 := Aside0.mk (pw_below_grown HB9.out _ HB9.out.size hg10 HGE.out); have HM10 := Aside0.mk hM10; have HRU := Aside0.mk hrunU; clear ho hb hg hat hM10 hrunU hg10 BP9 BG9) | (at_mapUpdate; refine Go.Proofs.YtmgeoombebkfaaaHand.wpL_upd rfl (.tmp 59) (.tmp 60) (.tmp 67) 85 rfl (w.heap.size + 1) (.string s) _ rfl rfl rfl HRU.out ?_))
            go_roundg (2 - (y + 1))
            case measure => omega
            case rel => exact ⟨y + 1, wrap64 (-nv), _, _, by go_num, by go_num, by omega, HU3, HN10, HM10, BP10, BG10, HB10⟩
          · have hU3 := HU2.out
            rw [if_neg hz] at hU3
            have HU3 := Aside0.mk hU3
            have hzb : ((((Go.Proofs.YtmgeoombebkfaaaHand.look strQ m1 s).getD []).length : Int) == 0) = false := beq_eq_false_iff_ne.mpr (by omega)
            clear hU3 HU2 hl
            go_upto_region 14 with (at_lookup; refine Go.Proofs.YtmgeoombebkfaaaHand.wpL_look _ rfl (.tmp 50) (.tmp 51) 85 false rfl (w.heap.size + 1) (.string s) (.slice AL ((Go.Proofs.YtmgeoombebkfaaaHand.look strQ m1 s).getD []).length cL) rfl rfl (HRN.out _ rfl) ?_)
            obtain ⟨vM, hrunM, hRM, hbackM⟩ := HM.out.getW (q := strQ) (a := s) rfl str_keyed Try.underlying85 ints_zero HKEY.out strQ_key
            obtain ⟨AM, cM, eM⟩ := Kd.R_slice hRM
            subst eM
            have HRM := Aside0.mk hrunM
            have HRO := Aside0.mk hRM
            have HBK := Aside0.mk hbackM
            have HNN := Aside0.mk (Go.Proofs.YtmgeoombebkfaaaHand.Groups.ne HM.out HN.out)
            clear hrunM hRM hbackM
            go_wp2_with (first | (at_lookup; refine Go.Proofs.YtmgeoombebkfaaaHand.wpL_look _ rfl (.tmp 61) (.tmp 62) 85 false rfl (w.heap.size + 1) (.string s) (.slice AM ((Go.Proofs.YtmgeoombebkfaaaHand.look strQ m1 s).getD []).length cM) rfl rfl (HRM.out _ rfl) ?_) | ((with_reducible refine gate_builtin (b := .append) (xs := #[.tmp 63, .tmp 66]) rfl ?_); at_builtin; refine Kd.R_append (Kd.int .i64) (w0 := w) w.heap.size rfl (.tmp 63) (.tmp 66) 87 3 (.int .i64 0) 8 rfl Try.underlying87 info3 rfl (by decide) (by decide) (.slice AM ((Go.Proofs.YtmgeoombebkfaaaHand.look strQ m1 s).getD []).length cM) ((Go.Proofs.YtmgeoombebkfaaaHand.look strQ m1 s).getD []) (wrap64 (-nv)) [.int .i64 (wrap64 (-nv))] (fun _ => True) (fun _ => False) rfl ?aX ?aP (fun _ hk => hk.elim) (fun _ _ => trivial) HRO.out HB.out HB.out.size ?aL ?_; (case aX => rfl); (case aP => rfl); (case aL => exact HL.out); intro v7 w7 ho hb hg hat; obtain ⟨w10, hrunU, hM10, hg10⟩ := HBK.out _ _ _ hg ho hat; have HN9 := Aside0.mk (Kd.R_over' HN.out (Kd.R_typed HRO.out) (by decide) hg); have HN10 := Aside0.mk (Kd.R_grown2 HN9.out rfl hg10 (fun k hk => by cases hk; exact HNN.out)); have BP9 : w7.heap[w.heap.size]? = _ := (hg.block w.heap.size (blk_lt BP.out) (fun e => by obtain ⟨cells, hc⟩ := Kd.R_typed HRO.out _ e.symm; rw [BP.out] at hc; cases hc)).trans BP.out; have BP10 := Aside0.mk ((hg10.block w.heap.size (blk_lt BP9) (fun e => absurd (Option.some.inj e) (Nat.ne_of_lt (Nat.lt_succ_self _)))).trans BP9); have BG9 : w7.heap[w5.heap.size]? = _ := (hg.block w5.heap.size (blk_lt BG.out) (fun e => by obtain ⟨cells, hc⟩ := Kd.R_typed HRO.out _ e.symm; rw [BG.out] at hc; cases hc)).trans BG.out; have BG10 := Aside0.mk ((hg10.block w5.heap.size (blk_lt BG9) (fun e => absurd (Option.some.inj e) (Nat.ne_of_gt HLB.out))).trans BG9); have HB9 := Aside0.mk hb; have HB10 := Aside0.mk (pw_below_grown HB9.out _ HB9.out.size hg10 HGE.out); have HM10 := Aside0.mk hM10; have HRU := Aside0.mk hrunU; clear ho hb hg hat hM10 hrunU hg10 BP9 BG9) | (at_mapUpdate; refine Go.Proofs.YtmgeoombebkfaaaHand.wpL_upd rfl (.tmp 59) (.tmp 60) (.tmp 67) 85 rfl (w.heap.size + 1) (.string s) _ rfl rfl rfl HRU.out ?_))
            go_roundg (2 - (y + 1))
            case measure => omega
            case rel => exact ⟨y + 1, wrap64 (-nv), _, _, by go_num, by go_num, by omega, HU3, HN10, HM10, BP10, BG10, HB10⟩
        · have hye : y = 2 := by omega
          subst hye
          have hU := HU.out
          change deliver_Flows.two [] nv t1 m1 = _ at hU
          rw [deliver_Flows.two] at hU
          have hU2 := Option.some.inj hU
          simp only [Prod.mk.injEq] at hU2
          obtain ⟨rfl, rfl⟩ := hU2
          have hd2 : decide (((2 : Nat) : Int) < 2) = false := by decide
          clear hU HU
          go_wp2
          go_roundg (l2.length - (x + 1))
          case measure => omega
          case rel => exact ⟨x + 1, _, _, by go_num, rfl, by omega, HA2, ⟨Kd.R_mono HN.out (fun _ _ => trivial)⟩, HM, BP, HB⟩
    · have hxe : x = l2.length := by omega
      have hA := HA.out
      rw [List.drop_eq_nil_of_le (by omega), deliver_Flows.go] at hA
      have hA2 := Option.some.inj hA
      simp only [Prod.mk.injEq] at hA2
      obtain ⟨rfl, rfl, rfl⟩ := hA2
      have hh := HH.out
      rw [if_pos rfl] at hh
      have hd : decide ((x : Int) < (l2.length : Int)) = false := decide_eq_false (by omega)
      clear hA HA HH
      by_cases hg : l2.length > 1024
      · rw [if_pos hg] at hh
        have hh2 := Option.some.inj hh
        simp only [Prod.mk.injEq] at hh2
        obtain ⟨rfl, rfl⟩ := hh2
        have hdl : decide (1024 < (l2.length : Int)) = true := decide_eq_true (by omega)
        clear hh hg hxe
        go_wp2
        go_ret2
        exact ⟨_, rfl, Kd.R_nil _ _ _ _ _, HB.out⟩
      rw [if_neg hg] at hh
      by_cases hk : t.length < 1000000
      case neg => rw [if_neg hk] at hh; cases hh
      rw [if_pos hk] at hh
      have HS := Aside0.mk hh
      have hdl : decide (1024 < (l2.length : Int)) = false := decide_eq_false (by omega)
      obtain ⟨inner, hown⟩ := Kd.R_own HN.out
      have HOB : Aside0 (∀ k_, u9.ownBlock = some k_ → w.heap.size ≤ k_) := ⟨fun k_ hk_ => own_base hown k_ hk_⟩
      have HTL : Aside0 (t.length < 4611686018427387904) := ⟨by omega⟩
      have HTK : Aside0 (t.length < 1000000) := ⟨hk⟩
      obtain ⟨Ac, cc, e4⟩ := Kd.R_slice HN.out
      subst e4
      clear hh hxe hown hk hg
      go_wp2_with (go_at_call 38; refine (Sort_string.calls _ t HN.out HTL.out).mono ?_; rintro _ w2 ⟨rfl, ho, hg⟩; have HN2 := Aside0.mk ho; have HM2 := Aside0.mk (HM.out.grown rfl hg (Go.Proofs.YtmgeoombebkfaaaHand.Groups.ne HM.out HN.out) (rows_apart HN.out (by decide))); have BP2 := Aside0.mk ((hg.block w.heap.size (blk_lt BP.out) (fun e => by obtain ⟨cells, hc⟩ := Kd.R_typed HN.out _ e.symm; rw [BP.out] at hc; cases hc)).trans BP.out); have HB2 := Aside0.mk (pw_below_grown HB.out _ HB.out.size hg HOB.out); clear ho hg)
      have HSL := Aside0.mk (sortS_perm t).length_eq
      have hsl1 : (sortS t).length ≤ t.length := Nat.le_of_eq HSL.out
      have hsl2 : t.length ≤ (sortS t).length := Nat.le_of_eq HSL.out.symm
      have hszb := HB2.out.size
      have htk := HTK.out
      clear HM HN BP HB hsl1 hsl2
      go_loopg [6, 79] (sortS t).length (fun kq v6 v79 w' => ∃ (y : Nat) (fl : List S63), v79 = .int .i64 (y : Int) ∧ kq + y = (sortS t).length ∧ Aside0 (deliver_Flows.out k m a0_1 ((sortS t).drop y) fl = some (r1, r2)) ∧ Aside0 (Kd.R k63 63 w' w2.heap.size (fun _ => True) v6 fl) ∧ Aside0 (Below w2.heap.size w2 w'))
      case atStart => exact ⟨0, [], rfl, by omega, HS, ⟨Kd.R_nil _ _ _ _ _⟩, ⟨Below.refl _ _⟩⟩
      case round =>
        clear HS
        obtain ⟨y, fl, rfl, hy, HS, HR, HBW⟩ := hrel
        have hszw := HBW.out.size
        by_cases hlt2 : y < (sortS t).length
        · have hlt3 : y < t.length := Nat.lt_of_lt_of_le hlt2 (Nat.le_of_eq HSL.out)
          have HNW := Aside0.mk (Kd.R_below HN2.out HBW.out)
          have HMW := Aside0.mk (HM2.out.below HBW.out)
          have BPW := Aside0.mk (blk_below BP2.out HBW.out)
          obtain ⟨adn, eas, hs0⟩ := Kd.at_string (Kd.R_reads' HNW.out).2.2 (y : Int) (by omega) (by omega)
          cases eas
          simp only [Int.toNat_natCast] at hs0
          have hdr : (sortS t).drop y = rdOf ByteArray.empty (sortS t) y :: (sortS t).drop (y + 1) := by
            rw [List.drop_eq_getElem_cons hlt2]
            simp [rdOf, hlt2]
          have hs := HS.out
          rw [hdr, deliver_Flows.out] at hs
          clear hdr HS
          generalize hp : rdOf ByteArray.empty (sortS t) y = s at *
          clear hp
          by_cases hk : s.size ≤ 9223372036854775807
          case neg => rw [if_neg hk] at hs; cases hs
          rw [if_pos hk] at hs
          obtain ⟨⟨n, e⟩, hN, hs⟩ := Option.bind_eq_some_iff.mp hs
          simp only at hs
          have HN := Aside0.mk hN
          have HKEY := Aside0.mk (str_keyOf (s := s) hk)
          clear hN hk
          by_cases he : e = 0
          case neg =>
            rw [if_neg he] at hs
            have hs2 := Option.some.inj hs
            simp only [Prod.mk.injEq] at hs2
            obtain ⟨rfl, rfl⟩ := hs2
            have h0b : (e == 0) = false := beq_eq_false_iff_ne.mpr he
            have h1b : (e != 0) = true := bne_iff_ne.mpr he
            clear he hs
            go_wp2_with (first | (at_lookup; obtain ⟨vL, hrunL, hRL, hbackL⟩ := HMW.out.get (q := strQ) (a := s) rfl str_keyed Try.underlying85 ints_zero HKEY.out strQ_key; obtain ⟨AL, cL, eL⟩ := Kd.R_slice hRL; subst eL; refine Go.Proofs.YtmgeoombebkfaaaHand.wpL_look _ rfl (.tmp 84) (.tmp 85) 85 false rfl (w.heap.size + 1) (.string s) (.slice AL ((Go.Proofs.YtmgeoombebkfaaaHand.look strQ m s).getD []).length cL) rfl rfl hrunL ?_; have HRL := Aside0.mk hRL; clear hRL hbackL hrunL) | (go_at_call 39; refine (cents_Sum.calls k AL cL ((Go.Proofs.YtmgeoombebkfaaaHand.look strQ m s).getD []) n e _ (Kd.R_reads' HRL.out).2.2 (Kd.R_reads' HRL.out).2.1 HN.out).mono ?_; rintro _ w8 ⟨rfl, hb⟩; have HB8 := Aside0.mk (below_step HBW.out hb.below); have HR8 := Aside0.mk (Kd.R_below HR.out hb.below); have BP8 := blk_below BPW.out hb.below; have hp1 : w8.cell? ⟨w.heap.size, 1, none⟩ = some (.int .i64 a0_1) := (blk_cell BP8 1).trans rfl; have hltP := blk_lt BP8; clear hb BP8))
            go_ret2
            exact ⟨_, rfl, Kd.R_nil _ _ _ _ _, below_step HB2.out HB8.out⟩
          subst he
          rw [if_pos rfl] at hs
          by_cases hn : n = 0
          · rw [if_pos hn] at hs
            have HS2 := Aside0.mk hs
            subst hn
            clear hs
            go_wp2_with (first | (at_lookup; obtain ⟨vL, hrunL, hRL, hbackL⟩ := HMW.out.get (q := strQ) (a := s) rfl str_keyed Try.underlying85 ints_zero HKEY.out strQ_key; obtain ⟨AL, cL, eL⟩ := Kd.R_slice hRL; subst eL; refine Go.Proofs.YtmgeoombebkfaaaHand.wpL_look _ rfl (.tmp 84) (.tmp 85) 85 false rfl (w.heap.size + 1) (.string s) (.slice AL ((Go.Proofs.YtmgeoombebkfaaaHand.look strQ m s).getD []).length cL) rfl rfl hrunL ?_; have HRL := Aside0.mk hRL; clear hRL hbackL hrunL) | (go_at_call 39; refine (cents_Sum.calls k AL cL ((Go.Proofs.YtmgeoombebkfaaaHand.look strQ m s).getD []) 0 0 _ (Kd.R_reads' HRL.out).2.2 (Kd.R_reads' HRL.out).2.1 HN.out).mono ?_; rintro _ w8 ⟨rfl, hb⟩; have HB8 := Aside0.mk (below_step HBW.out hb.below); have HR8 := Aside0.mk (Kd.R_below HR.out hb.below); have BP8 := blk_below BPW.out hb.below; have hp1 : w8.cell? ⟨w.heap.size, 1, none⟩ = some (.int .i64 a0_1) := (blk_cell BP8 1).trans rfl; have hltP := blk_lt BP8; clear hb BP8))
            go_roundg ((sortS t).length - (y + 1))
            case measure => omega
            case rel => exact ⟨y + 1, fl, by go_num, by omega, HS2, HR8, HB8⟩
          · rw [if_neg hn] at hs
            by_cases hln : fl.length < 1000000
            case neg => rw [if_neg hln] at hs; cases hs
            rw [if_pos hln] at hs
            have HS2 := Aside0.mk hs
            have HL : Aside0 ((fl.length + 1) * 40 ≤ 140737488355328) := ⟨by omega⟩
            have h0n : (n == 0) = false := beq_eq_false_iff_ne.mpr hn
            have h1n : (n != 0) = true := bne_iff_ne.mpr hn
            clear hs hn hln
            go_wp2_with (first | (at_lookup; obtain ⟨vL, hrunL, hRL, hbackL⟩ := HMW.out.get (q := strQ) (a := s) rfl str_keyed Try.underlying85 ints_zero HKEY.out strQ_key; obtain ⟨AL, cL, eL⟩ := Kd.R_slice hRL; subst eL; refine Go.Proofs.YtmgeoombebkfaaaHand.wpL_look _ rfl (.tmp 84) (.tmp 85) 85 false rfl (w.heap.size + 1) (.string s) (.slice AL ((Go.Proofs.YtmgeoombebkfaaaHand.look strQ m s).getD []).length cL) rfl rfl hrunL ?_; have HRL := Aside0.mk hRL; clear hRL hbackL hrunL) | (go_at_call 39; refine (cents_Sum.calls k AL cL ((Go.Proofs.YtmgeoombebkfaaaHand.look strQ m s).getD []) n 0 _ (Kd.R_reads' HRL.out).2.2 (Kd.R_reads' HRL.out).2.1 HN.out).mono ?_; rintro _ w8 ⟨rfl, hb⟩; have HB8 := Aside0.mk (below_step HBW.out hb.below); have HR8 := Aside0.mk (Kd.R_below HR.out hb.below); have BP8 := blk_below BPW.out hb.below; have hp1 : w8.cell? ⟨w.heap.size, 1, none⟩ = some (.int .i64 a0_1) := (blk_cell BP8 1).trans rfl; have hltP := blk_lt BP8; clear hb BP8) | ((with_reducible refine gate_builtin (b := .append) (xs := #[.tmp 95, .tmp 101]) rfl ?_); at_builtin; refine Kd.R_append k63 (w0 := w2) w2.heap.size rfl (.tmp 95) (.tmp 101) 45 63 (.agg #[(.string ⟨#[]⟩), (.int .i64 0), (.int .i64 0), (.int .i64 0)]) 40 rfl Try.underlying45 info63 rfl (by decide) (by decide) u6 fl ⟨s, a0_1, n, 4⟩ [.string s, .int .i64 a0_1, .int .i64 n, .int .i64 4] (fun _ => True) (fun _ => False) rfl ?aX ?aP (fun _ hk => hk.elim) (fun _ _ => trivial) HR8.out HB8.out HB8.out.size ?aL ?_; (case aX => rfl); (case aP => exact k63_mkM _ _ _ ⟨s, a0_1, n, 4⟩); (case aL => exact HL.out); intro v9 w9 ho hb9 hg9 _; have HR9 := Aside0.mk ho; have HB9 := Aside0.mk hb9; clear ho hb9 hg9))
            go_roundg ((sortS t).length - (y + 1))
            case measure => omega
            case rel => exact ⟨y + 1, _, by go_num, by omega, HS2, HR9, HB9⟩
        · have hye : y = (sortS t).length := by omega
          have hs := HS.out
          rw [List.drop_eq_nil_of_le (by omega), deliver_Flows.out] at hs
          have hs2 := Option.some.inj hs
          simp only [Prod.mk.injEq] at hs2
          obtain ⟨rfl, rfl⟩ := hs2
          have hle3 : t.length ≤ y := by have := HSL.out; omega
          have hnl3 : ¬ y < t.length := Nat.not_lt.mpr hle3
          have hd2_ : decide ((y : Int) < (t.length : Int)) = false := decide_eq_false (by omega)
          have hd3_ : ((y : Int) < (t.length : Int)) = False := eq_false (by omega)
          clear hs HS hye hlt2
          go_wp2
          go_ret2
          exact ⟨_, rfl, Kd.R_lower HR.out hszb, below_step HB2.out HBW.out⟩

/-! ### contangoref22_Same: function 21 -/
def contangoref22_Same.l0 : Nat → List (S63) → List (S63) → Int → Option (Bool)
  | 0, _, _, _ => none
  | k + 1, x0, x1, x5 => if x5 < (x0.length : Int) then (if 0 ≤ x5 then (if x5 < (x1.length : Int) then (if ((eqD63 ((rd_T63 x0 x5).f0) ((rd_T63 x1 x5).f0) ((rd_T63 x0 x5).f1) ((rd_T63 x1 x5).f1) ((rd_T63 x0 x5).f2) ((rd_T63 x1 x5).f2) ((rd_T63 x0 x5).f3) ((rd_T63 x1 x5).f3)) = true) then (contangoref22_Same.l0 k x0 x1 (wrap64 (x5 + 1))) else (some false)) else (none)) else (none)) else (some true)
def contangoref22_Same.f (k : Nat) (l0 : List (S63)) (l1 : List (S63)) : Option (Bool) := if (l0.length : Int) = (l1.length : Int) then (contangoref22_Same.l0 k l0 l1 0) else (some false)
theorem contangoref22_Same.mono_l : ∀ k, (∀ y0 y1 y2, LeO (contangoref22_Same.l0 k y0 y1 y2) (contangoref22_Same.l0 (k + 1) y0 y1 y2))
  | 0 => fun _ _ _ r h => by simp [contangoref22_Same.l0] at h
  | k + 1 => by
    have ih0 := contangoref22_Same.mono_l k
    · intro y0 y1 y2
      unfold contangoref22_Same.l0
      repeat' first
      | (with_reducible exact ih0 _ _ _)
      | (with_reducible exact LeO.refl _)
      | (with_reducible exact LeO.none _)
      | (with_reducible refine LeO.ite ?_ ?_)
      | (with_reducible refine LeO.bind ?_ (fun _ => ?_))
      | exact ih0 _ _ _
      | exact LeO.none _
      | refine LeO.ite ?_ ?_
      | refine LeO.bind ?_ (fun _ => ?_)
theorem contangoref22_Same.mono : ∀ a0 a1 k, LeO (contangoref22_Same.f k a0 a1) (contangoref22_Same.f (k + 1) a0 a1) := by
  intro a0 a1 k
  have ih0 := contangoref22_Same.mono_l k
  unfold contangoref22_Same.f
  repeat' first
      | (with_reducible exact ih0 _ _ _)
      | (with_reducible exact LeO.refl _)
      | (with_reducible exact LeO.none _)
      | (with_reducible refine LeO.ite ?_ ?_)
      | (with_reducible refine LeO.bind ?_ (fun _ => ?_))
      | exact ih0 _ _ _
      | exact LeO.none _
      | refine LeO.ite ?_ ?_
      | refine LeO.bind ?_ (fun _ => ?_)
set_option maxHeartbeats 8000000 in
set_option maxRecDepth 100000 in
theorem contangoref22_Same.calls (k : Nat) (A0 : Option Addr) (c0 : Nat) (l0 : List (S63)) (A1 : Option Addr) (c1 : Nat) (l1 : List (S63)) (r : Bool) (w : World) (hr0 : Kd.C k63 w A0 l0.length l0) (hc0 : l0.length ≤ c0) (hr1 : Kd.C k63 w A1 l1.length l1) (hc1 : l1.length ≤ c1) (h : contangoref22_Same.f k l0 l1 = some r) :
    Calls Try.prog 21 #[.slice A0 l0.length c0, .slice A1 l1.length c1] w fun e w' => e = .returned (.bool r) ∧ Drawn0 w w' := by
  have hu63 := Try.underlying63
  have HR0 := Aside0.mk hr0
  have HC0 := Aside0.mk hc0
  clear hr0 hc0
  have HR1 := Aside0.mk hr1
  have HC1 := Aside0.mk hc1
  clear hr1 hc1
  have H : (if (l0.length : Int) = (l1.length : Int) then (contangoref22_Same.l0 k l0 l1 0) else (some false)) = some r := h
  clear h
  by_cases c3 : (l0.length : Int) = (l1.length : Int)
  · rw [if_pos c3] at H
    have c3b0 : ((l0.length : Int) == (l1.length : Int)) = true := beq_iff_eq.mpr c3
    have c3b1 : ((l0.length : Int) != (l1.length : Int)) = false := bne_eq_false_iff_eq.mpr c3
    have c3b2 : (l0.length == l1.length) = true := by first | simpa using c3 | (simp at c3 ⊢; omega)
    clear c3
    have H' := Aside0.mk H
    clear H
    go_enter Try.func21, Try.ntmps21
    go_wp2
    repeat (go_quiet (fail); try go_wp2)
    go_loopg [5] k (fun kq v5 w' => ∃ (x5_1 : Int), v5 = .int .i64 x5_1 ∧ Aside0 (contangoref22_Same.l0 kq l0 l1 x5_1 = some r) ∧ Aside0 (kq ≤ k) ∧ Drawn0 w w')
    case atStart => exact ⟨(0), (by first | rfl | (simp; done) | (simp [*]; done)), H', ⟨Nat.le_refl _⟩, by repeat (first | exact Drawn0.refl _ | apply Drawn0.step)⟩
    case round =>
      clear H'
      try clear c1
      try clear c2
      try clear p2
      try clear c3
      try clear c3b0
      try clear c3b1
      try clear c3b2
      obtain ⟨x5_1, rfl, HA, HK1, ⟨m1, rfl⟩⟩ := hrel
      cases gk with
      | zero => exact absurd HA.out (by simp [contangoref22_Same.l0])
      | succ k1 =>
        have H := HA.out
        clear HA
        simp only [contangoref22_Same.l0] at H
        by_cases c4 : x5_1 < (l0.length : Int)
        · rw [if_pos c4] at H
          have c4b0 : decide (x5_1 < (l0.length : Int)) = true := decide_eq_true c4
          clear c4
          by_cases c5 : 0 ≤ x5_1
          · rw [if_pos c5] at H
            have c5b0 : decide (0 ≤ x5_1) = true := decide_eq_true c5
            clear c5
            by_cases c6 : x5_1 < (l1.length : Int)
            · rw [if_pos c6] at H
              have c6b0 : decide (x5_1 < (l1.length : Int)) = true := decide_eq_true c6
              clear c6
              by_cases c7 : ((eqD63 ((rd_T63 l0 x5_1).f0) ((rd_T63 l1 x5_1).f0) ((rd_T63 l0 x5_1).f1) ((rd_T63 l1 x5_1).f1) ((rd_T63 l0 x5_1).f2) ((rd_T63 l1 x5_1).f2) ((rd_T63 l0 x5_1).f3) ((rd_T63 l1 x5_1).f3)) = true)
              · rw [if_pos c7] at H
                have c7b0 : (eqD63 ((rd_T63 l0 x5_1).f0) ((rd_T63 l1 x5_1).f0) ((rd_T63 l0 x5_1).f1) ((rd_T63 l1 x5_1).f1) ((rd_T63 l0 x5_1).f2) ((rd_T63 l1 x5_1).f2) ((rd_T63 l0 x5_1).f3) ((rd_T63 l1 x5_1).f3)) = true := c7
                clear c7
                have H' := Aside0.mk H
                clear H
                have p132 : 0 ≤ (x5_1 : Int) := of_decide_eq_true (by first | (with_reducible assumption) | assumption)
                have q132 : x5_1 < (l0.length : Int) := of_decide_eq_true (by first | (with_reducible assumption) | assumption)
                obtain ⟨ad132, e132, hx132_0, hx132_1, hx132_2, hx132_3⟩ := at_T63 HR0.out x5_1 p132 q132
                cases e132
                replace p132 := eq_true p132
                replace q132 := eq_true q132
                have p133 : 0 ≤ (x5_1 : Int) := of_decide_eq_true (by first | (with_reducible assumption) | assumption)
                have q133 : x5_1 < (l1.length : Int) := of_decide_eq_true (by first | (with_reducible assumption) | assumption)
                obtain ⟨ad133, e133, hx133_0, hx133_1, hx133_2, hx133_3⟩ := at_T63 HR1.out x5_1 p133 q133
                cases e133
                replace p133 := eq_true p133
                replace q133 := eq_true q133
                go_wp2
                repeat (go_quiet (fail); try go_wp2)
                go_roundg k1
                case measure => have := HK1.out; omega
                case rel => exact ⟨(wrap64 (x5_1 + 1)), (by first | rfl | (simp; done) | (simp [*]; done)), H', ⟨by have := HK1.out; omega⟩, by repeat (first | exact Drawn0.refl _ | apply Drawn0.step)⟩
              · rw [if_neg c7] at H
                have c7b0 : (eqD63 ((rd_T63 l0 x5_1).f0) ((rd_T63 l1 x5_1).f0) ((rd_T63 l0 x5_1).f1) ((rd_T63 l1 x5_1).f1) ((rd_T63 l0 x5_1).f2) ((rd_T63 l1 x5_1).f2) ((rd_T63 l0 x5_1).f3) ((rd_T63 l1 x5_1).f3)) = false := by simpa using c7
                clear c7
                obtain rfl := Option.some.inj H
                have p132 : 0 ≤ (x5_1 : Int) := of_decide_eq_true (by first | (with_reducible assumption) | assumption)
                have q132 : x5_1 < (l0.length : Int) := of_decide_eq_true (by first | (with_reducible assumption) | assumption)
                obtain ⟨ad132, e132, hx132_0, hx132_1, hx132_2, hx132_3⟩ := at_T63 HR0.out x5_1 p132 q132
                cases e132
                replace p132 := eq_true p132
                replace q132 := eq_true q132
                have p133 : 0 ≤ (x5_1 : Int) := of_decide_eq_true (by first | (with_reducible assumption) | assumption)
                have q133 : x5_1 < (l1.length : Int) := of_decide_eq_true (by first | (with_reducible assumption) | assumption)
                obtain ⟨ad133, e133, hx133_0, hx133_1, hx133_2, hx133_3⟩ := at_T63 HR1.out x5_1 p133 q133
                cases e133
                replace p133 := eq_true p133
                replace q133 := eq_true q133
                go_wp2
                repeat (go_quiet (fail); try go_wp2)
                go_ret
                exact ⟨by first | rfl | (simp; done) | (simp [*]; done), by repeat (first | exact Drawn0.refl _ | apply Drawn0.step)⟩
            · rw [if_neg c6] at H
              exact absurd H (by simp)
          · rw [if_neg c5] at H
            exact absurd H (by simp)
        · rw [if_neg c4] at H
          have c4b0 : decide (x5_1 < (l0.length : Int)) = false := decide_eq_false c4
          clear c4
          obtain rfl := Option.some.inj H
          go_wp2
          repeat (go_quiet (fail); try go_wp2)
          go_ret
          exact ⟨by first | rfl | (simp; done) | (simp [*]; done), by repeat (first | exact Drawn0.refl _ | apply Drawn0.step)⟩
  · rw [if_neg c3] at H
    have c3b0 : ((l0.length : Int) == (l1.length : Int)) = false := beq_eq_false_iff_ne.mpr c3
    have c3b1 : ((l0.length : Int) != (l1.length : Int)) = true := bne_iff_ne.mpr c3
    have c3b2 : (l0.length == l1.length) = false := by first | simpa using c3 | (simp at c3 ⊢; omega)
    obtain rfl := Option.some.inj H
    go_enter Try.func21, Try.ntmps21
    go_wp2
    repeat (go_quiet (fail); try go_wp2)
    go_ret
    exact ⟨by first | rfl | (simp; done) | (simp [*]; done), by repeat (first | exact Drawn0.refl _ | apply Drawn0.step)⟩

/-! ### contangolaw52_acc: function 28 -/
def contangolaw52_acc.f (a0 : ByteArray) : Option (ByteArray × ByteArray) := some (a0, (⟨#[99]⟩ : ByteArray))
set_option maxHeartbeats 8000000 in
set_option maxRecDepth 100000 in
theorem contangolaw52_acc.calls (a0 : ByteArray) (r1 : ByteArray) (r2 : ByteArray) (w : World) (h : contangolaw52_acc.f a0 = some (r1, r2)) :
    Calls Try.prog 28 #[.string a0] w fun e w' => e = .returned (.agg #[.string r1, .string r2]) ∧ Below w.heap.size w w' := by
  have hu54 := Try.underlying54
  have HB := Aside0.mk (Below.refl w.heap.size w)
  have H : (some (a0, (⟨#[99]⟩ : ByteArray))) = some (r1, r2) := h
  clear h
  simp only [Option.some.injEq, Prod.mk.injEq] at H
  obtain ⟨rfl, rfl⟩ := H
  go_enter Try.func28, Try.ntmps28
  go_wp2_with (first | ((with_reducible refine gate_dst (N := 2) rfl ?_); refine box_event ?hg (N := 2) ?hd (cs := #[.string (⟨#[]⟩ : ByteArray), .string (⟨#[]⟩ : ByteArray)]) (t := 54) ?hr ?_; (case hd => rfl); (case hg => rfl); (case hr => first | (go_simp; done) | (go_simp; rfl)); intro gb134 hg w2 hbox hb; have n0_ := Aside0.mk (below_step (by repeat (first | (with_reducible first | exact HB.out | apply below_alloc | apply pw_below_drewN | apply below_drew1) | exact HB.out)) hb); have n1_ := Aside0.mk (hbox); have n2_ := Aside0.mk ((by rw [hg]; exact (below_size (by repeat (first | (with_reducible first | exact HB.out | apply below_alloc | apply pw_below_drewN | apply below_drew1) | exact HB.out))) : w.heap.size ≤ gb134)); have n3_ := Aside0.mk ((by rw [hg]; exact (below_size (by repeat (first | (with_reducible first | exact HB.out | apply below_alloc | apply pw_below_drewN | apply below_drew1) | exact HB.out))) : w.heap.size ≤ gb134)); clear HB; have HB := n0_; have BK134 := n1_; have GW134 := n2_; have GE134 := n3_; clear n0_ n1_ n2_ n3_; clear hb hbox hg; have hcz3_0 : w2.cell? ⟨gb134, 0, none⟩ = some (.string (⟨#[]⟩ : ByteArray)) := (blk_cell BK134.out 0).trans rfl; have hcz3_1 : w2.cell? ⟨gb134, 1, none⟩ = some (.string (⟨#[]⟩ : ByteArray)) := (blk_cell BK134.out 1).trans rfl; have hfz3_0 := blk_frozen BK134.out 0; have hfz3_1 := blk_frozen BK134.out 1))
  refine bodyPost_ret (results_cell_row rfl _ _ gb134 54 #[.string a0, .string (⟨#[99]⟩ : ByteArray)] (0, 0) _ rfl (by (with_reducible repeat (first | refine blk_drewN ?_ _ | refine blk_drew ?_ | refine blk_alloc ?_ _)); refine blk_put (cs := #[.string a0, .string (⟨#[]⟩ : ByteArray)]) ?_ 1 _ rfl; (with_reducible repeat (first | refine blk_drewN ?_ _ | refine blk_drew ?_ | refine blk_alloc ?_ _)); refine blk_put (cs := #[.string (⟨#[]⟩ : ByteArray), .string (⟨#[]⟩ : ByteArray)]) ?_ 0 _ rfl; (with_reducible repeat (first | refine blk_drewN ?_ _ | refine blk_drew ?_ | refine blk_alloc ?_ _)); exact BK134.out) Try.underlying54 rfl (by kernel_rfl)) rfl ?_
  exact ⟨by first | rfl | (simp [errW_none, errW_some] <;> rfl) | (simp [*, errW_none, errW_some] <;> rfl), by repeat (first | (with_reducible first | exact HB.out | apply below_alloc | apply pw_below_drewN | apply below_drew1 | refine below_set ?_ GE134.out) | exact HB.out)⟩

end Go.Proofs.Ytmgeoombebkfaaa.PDeliverSides
