import Derived.Test.YtoejllkjhaeeeaaPExpiryFlowsx0
import Derived.Test.YtoejllkjhaeeeaaPExpiryFlowsx9
import Derived.Test.YtoejllkjhaeeeaaPExpiryFlowsx10
import Derived.Test.YtoejllkjhaeeeaaPExpiryFlowsx11
import Derived.Test.YtoejllkjhaeeeaaPExpiryFlowsx13
namespace Go.Proofs.Ytoejllkjhaeeeaa.PExpiryFlows
open Go.RowKit Go.Proofs.YtoejllkjhaeeeaaW.PrintWords Go.Proofs.YtoejllkjhaeeeaaW.PrintLast Go.Proofs.YtoejllkjhaeeeaaW.PrintMore
attribute [local go_sem] max2_int min2_int max_two min_two max_three min_three max_four min_four Go.Proofs.YtoejllkjhaeeeaaHand.run_leq_str Go.Proofs.YtoejllkjhaeeeaaHand.run_gtr_str Go.Proofs.YtoejllkjhaeeeaaHand.run_geq_str   -- for this text's walks alone
set_option linter.unusedVariables false
set_option linter.unusedSimpArgs false

/-! ### expiry_Flows: function 19 -/
/-- Strings as a map's keys. -/
def strQ (x y : ByteArray) : Bool := x.toList == y.toList
theorem strQ_iff (x y : ByteArray) : strQ x y = true ↔ x = y := by
  simp only [strQ, beq_iff_eq]
  constructor
  · intro h
    rw [ByteArray.toList_eq, ByteArray.toList_eq] at h
    exact ByteArray.ext (Array.ext' h)
  · rintro rfl
    rfl
theorem strQ_key (x y : ByteArray) : strQ x y = true ↔ Value.string x = Value.string y := by
  rw [strQ_iff]
  exact ⟨fun h => by rw [h], fun h => by injection h⟩
theorem str_keyed : Go.Maps.Keyed Try.prog 9 := Go.Maps.string_keyed Try.underlying9
theorem str_keyOf {s : ByteArray} {n : Nat} (h : s.size ≤ n) (hn : n ≤ 9223372036854775807 := by decide) : keyOf Try.prog 9 (.string s) = some (.string s.data.toList) := Go.WideMaps.keyOf_string_mk Try.underlying9 (Nat.le_trans h hn)
theorem ints_zero (W : World) : (zeroValue 79).run Try.prog W = .ok (.slice none 0 0) W := by kernel_rfl
theorem rows_apart {α : Type} {d : Kd α} {e e' : TypeId} {w : World} {base : Nat} {ok : Nat → Prop} {v : Value} {xs : List α} (h : d.R e w base ok v xs) (hne : e ≠ e') : ∀ k cells, v.ownBlock = some k → w.heap[k]? = some (.cells cells e' (0, 0)) → False := by
  intro k cells hk hc
  obtain ⟨cells2, h2⟩ := Kd.R_typed h k hk
  rw [hc] at h2
  injection h2 with h2
  injection h2 with _ h2
  exact hne h2.symm
theorem blk_kept {α : Type} {d : Kd α} {e : TypeId} {w w1 : World} {base : Nat} {ok : Nat → Prop} {g t : Nat} {cs : Array Value} {v : Value} {xs : List α} (h : w.heap[g]? = some (.cells cs t (0, 0))) (hR : d.R e w base ok v xs) (ht : e ≠ t) (hg : w.grownBy w1 v.ownBlock) : w1.heap[g]? = some (.cells cs t (0, 0)) :=
  (hg.block g (blk_lt h) (fun he => rows_apart hR ht _ _ he.symm h)).trans h

def insS (x : ByteArray) : List ByteArray → List ByteArray
  | [] => [x]
  | y :: r => if Op.bytesLess y.toList x.toList = true then y :: insS x r else x :: y :: r
def sortS : List ByteArray → List ByteArray
  | [] => []
  | x :: r => insS x (sortS r)
theorem insS_perm (x : ByteArray) (l : List ByteArray) : (insS x l).Perm (x :: l) := by
  induction l with
  | nil => exact .refl _
  | cons y r ih =>
    rw [insS]
    split
    · exact (List.Perm.cons y ih).trans (List.Perm.swap x y r)
    · exact .refl _
theorem sortS_perm (l : List ByteArray) : (sortS l).Perm l := by
  induction l with
  | nil => exact .refl _
  | cons x r ih => exact (insS_perm x _).trans (List.Perm.cons x ih)
theorem leS (a b : ByteArray) : (Op.bytesLess b.toList a.toList = false) ↔ a.data.toList ≤ b.data.toList := by
  rw [Go.Proofs.bytesLess_eq, ByteArray.toList_eq, ByteArray.toList_eq, decide_eq_false_iff_not]
  rfl
theorem insS_sorted (x : ByteArray) {l : List ByteArray} (h : l.Pairwise fun a b => a.data.toList ≤ b.data.toList) : (insS x l).Pairwise fun a b => a.data.toList ≤ b.data.toList := by
  induction l with
  | nil => exact List.pairwise_singleton _ _
  | cons y r ih =>
    rw [List.pairwise_cons] at h
    rw [insS]
    split
    · rename_i hlt
      rw [List.pairwise_cons]
      refine ⟨fun b hb => ?_, ih h.2⟩
      rcases List.mem_cons.mp ((insS_perm x r).mem_iff.mp hb) with rfl | hb
      · rw [Go.Proofs.bytesLess_eq, ByteArray.toList_eq, ByteArray.toList_eq, decide_eq_true_eq] at hlt
        exact List.le_of_lt hlt
      · exact h.1 b hb
    · rename_i hlt
      have hxy := (leS x y).mp (by simpa using hlt)
      rw [List.pairwise_cons]
      refine ⟨fun b hb => ?_, List.pairwise_cons.mpr h⟩
      rcases List.mem_cons.mp hb with rfl | hb
      · exact hxy
      · exact List.le_trans hxy (h.1 b hb)
theorem sortS_sorted (l : List ByteArray) : (sortS l).Pairwise fun a b => a.data.toList ≤ b.data.toList := by
  induction l with
  | nil => exact List.Pairwise.nil
  | cons x r ih => exact insS_sorted x ih
theorem sortS_eq (l : List ByteArray) : (l.map (·.data.toList)).mergeSort (fun x y => decide (x ≤ y)) = (sortS l).map (·.data.toList) := by
  refine List.Perm.eq_of_pairwise (le := fun a b => a ≤ b) (fun a b _ _ => List.le_antisymm) ?_ ?_ ?_
  · have := List.pairwise_mergeSort (le := fun x y : List UInt8 => decide (x ≤ y)) (fun a b c h1 h2 => by simp only [decide_eq_true_eq] at *; exact List.le_trans h1 h2) (fun a b => by simp only [Bool.or_eq_true, decide_eq_true_eq]; exact List.le_total a b) (l.map (·.data.toList))
    simpa using this
  · rw [List.pairwise_map]
    exact sortS_sorted l
  · exact (List.mergeSort_perm _ _).trans ((sortS_perm l).map _).symm

def keysL_ren : Go.Shelf.Ren := ⟨fun | 7 => 48 | 10 => 76 | n => n, fun | 23 => 86 | 26 => 9 | 3 => 79 | 28 => 91 | 0 => 0 | 27 => 90 | 33 => 111 | 4 => 4 | n => n, fun | n => n⟩
theorem keysL : Go.Proofs.SlLaysZ.n7 Try.prog keysL_ren where
  mixed := by kernel_rfl
  f7 := ⟨ "maps.Keys[map[string][]int,string,[]int]", by decide, Try.func48.trans (congrArg some (by kernel_rfl))⟩
  f10 := ⟨ "maps.Keys[map[string][]int,string,[]int]$1", by decide, Try.func76.trans (congrArg some (by kernel_rfl))⟩
  t0 := Try.underlying0
  a0 := Try.isAgg0
  z0 := Try.sizeOf0
  v0 := Try.zeroValue0
  t4 := Try.underlying4
  a4 := Try.isAgg4
  z4 := Try.sizeOf4
  v4 := Try.zeroValue4
  t23 := Try.underlying86
  a23 := Try.isAgg86
  z23 := Try.sizeOf86
  v23 := Try.zeroValue86
  t26 := Try.underlying9
  a26 := Try.isAgg9
  z26 := Try.sizeOf9
  v26 := Try.zeroValue9
  t27 := Try.underlying90
  a27 := Try.isAgg90
  z27 := Try.sizeOf90
  v27 := Try.zeroValue90
  t28 := Try.underlying91
  a28 := Try.isAgg91
  z28 := Try.sizeOf91
  v28 := Try.zeroValue91
  t33 := Try.underlying111
  a33 := Try.isAgg111
  z33 := Try.sizeOf111
  v33 := Try.zeroValue111
def sortedL_ren : Go.Shelf.Ren := ⟨fun | 6 => 47 | 8 => 74 | 9 => 75 | 11 => 89 | 13 => 91 | 12 => 90 | 23 => 106 | 24 => 107 | 14 => 97 | 15 => 98 | 16 => 99 | 17 => 100 | 18 => 101 | 19 => 102 | 20 => 103 | 21 => 104 | 22 => 105 | 25 => 108 | 26 => 109 | 27 => 110 | 28 => 111 | 29 => 112 | 30 => 95 | 31 => 113 | n => n, fun | 26 => 9 | 28 => 91 | 24 => 88 | 0 => 0 | 3 => 3 | 37 => 112 | 48 => 132 | 50 => 134 | 4 => 4 | 40 => 124 | 39 => 123 | 45 => 129 | 5 => 5 | 9 => 9 | 51 => 135 | 55 => 139 | 57 => 141 | 58 => 33 | 33 => 111 | n => n, fun | n => n⟩
theorem sortedL : Go.Proofs.SlLaysZ.n6 Try.prog sortedL_ren where
  mixed := by kernel_rfl
  f6 := ⟨ "slices.Sorted[string]", by decide, Try.func47.trans (congrArg some (by kernel_rfl))⟩
  f8 := ⟨ "slices.Collect[string]", by decide, Try.func74.trans (congrArg some (by kernel_rfl))⟩
  f11 := ⟨ "slices.AppendSeq[[]string,string]", by decide, Try.func89.trans (congrArg some (by kernel_rfl))⟩
  t0 := Try.underlying0
  a0 := Try.isAgg0
  z0 := Try.sizeOf0
  v0 := Try.zeroValue0
  t24 := Try.underlying88
  a24 := Try.isAgg88
  z24 := Try.sizeOf88
  v24 := Try.zeroValue88
  t26 := Try.underlying9
  a26 := Try.isAgg9
  z26 := Try.sizeOf9
  v26 := Try.zeroValue9
  t28 := Try.underlying91
  a28 := Try.isAgg91
  z28 := Try.sizeOf91
  v28 := Try.zeroValue91
  i26 := by kernel_rfl
def sortL_ren : Go.Shelf.Ren := ⟨fun | 6 => 75 | 8 => 91 | 9 => 90 | 19 => 106 | 20 => 107 | 21 => 97 | 22 => 98 | 23 => 99 | 24 => 100 | 25 => 101 | 26 => 102 | 27 => 103 | 28 => 104 | 29 => 105 | 36 => 108 | 31 => 109 | 32 => 110 | 37 => 111 | 38 => 112 | 39 => 95 | 41 => 113 | n => n, fun | 27 => 88 | 29 => 9 | 3 => 3 | 32 => 112 | 26 => 88 | 0 => 0 | 44 => 132 | 46 => 134 | 4 => 4 | 36 => 124 | 35 => 123 | 41 => 129 | 5 => 5 | 9 => 9 | 53 => 135 | 57 => 139 | 63 => 141 | 64 => 33 | n => n, fun | n => n⟩
theorem sortL : Go.Proofs.SlLaysM.n6 Try.prog sortL_ren where
  mixed := by kernel_rfl
  f6 := ⟨ "slices.Sort[[]string,string]", by decide, Try.func75.trans (congrArg some (by kernel_rfl))⟩
  f8 := Try.func91.trans (congrArg some (by kernel_rfl))
  f9 := ⟨ "slices.pdqsortOrdered[string]", by decide, Try.func90.trans (congrArg some (by kernel_rfl))⟩
  f19 := Try.func106.trans (congrArg some (by kernel_rfl))
  f20 := Try.func107.trans (congrArg some (by kernel_rfl))
  f21 := ⟨ "slices.insertionSortOrdered[string]", by decide, Try.func97.trans (congrArg some (by kernel_rfl))⟩
  f22 := ⟨ "slices.heapSortOrdered[string]", by decide, Try.func98.trans (congrArg some (by kernel_rfl))⟩
  f23 := ⟨ "slices.breakPatternsOrdered[string]", by decide, Try.func99.trans (congrArg some (by kernel_rfl))⟩
  f24 := ⟨ "slices.choosePivotOrdered[string]", by decide, Try.func100.trans (congrArg some (by kernel_rfl))⟩
  f25 := ⟨ "slices.reverseRangeOrdered[string]", by decide, Try.func101.trans (congrArg some (by kernel_rfl))⟩
  f26 := ⟨ "slices.partialInsertionSortOrdered[string]", by decide, Try.func102.trans (congrArg some (by kernel_rfl))⟩
  f27 := ⟨ "cmp.Less[string]", by decide, Try.func103.trans (congrArg some (by kernel_rfl))⟩
  f28 := ⟨ "slices.partitionEqualOrdered[string]", by decide, Try.func104.trans (congrArg some (by kernel_rfl))⟩
  f29 := ⟨ "slices.partitionOrdered[string]", by decide, Try.func105.trans (congrArg some (by kernel_rfl))⟩
  f31 := Try.func109.trans (congrArg some (by kernel_rfl))
  f32 := Try.func110.trans (congrArg some (by kernel_rfl))
  f36 := ⟨ "slices.siftDownOrdered[string]", by decide, Try.func108.trans (congrArg some (by kernel_rfl))⟩
  f37 := ⟨ "slices.medianAdjacentOrdered[string]", by decide, Try.func111.trans (congrArg some (by kernel_rfl))⟩
  f38 := ⟨ "slices.medianOrdered[string]", by decide, Try.func112.trans (congrArg some (by kernel_rfl))⟩
  f39 := ⟨ "cmp.isNaN[string]", by decide, Try.func95.trans (congrArg some (by kernel_rfl))⟩
  f41 := ⟨ "slices.order2Ordered[string]", by decide, Try.func113.trans (congrArg some (by kernel_rfl))⟩
  t0 := Try.underlying0
  a0 := Try.isAgg0
  z0 := Try.sizeOf0
  v0 := Try.zeroValue0
  t3 := Try.underlying3
  a3 := Try.isAgg3
  z3 := Try.sizeOf3
  v3 := Try.zeroValue3
  t4 := Try.underlying4
  a4 := Try.isAgg4
  z4 := Try.sizeOf4
  v4 := Try.zeroValue4
  t5 := Try.underlying5
  a5 := Try.isAgg5
  z5 := Try.sizeOf5
  v5 := Try.zeroValue5
  t9 := Try.underlying9
  a9 := Try.isAgg9
  z9 := Try.sizeOf9
  v9 := Try.zeroValue9
  t26 := Try.underlying88
  a26 := Try.isAgg88
  z26 := Try.sizeOf88
  v26 := Try.zeroValue88
  t27 := Try.underlying88
  a27 := Try.isAgg88
  z27 := Try.sizeOf88
  v27 := Try.zeroValue88
  t29 := Try.underlying9
  a29 := Try.isAgg9
  z29 := Try.sizeOf9
  v29 := Try.zeroValue9
  t32 := Try.underlying112
  a32 := Try.isAgg112
  z32 := Try.sizeOf112
  v32 := Try.zeroValue112
  t35 := Try.underlying123
  a35 := Try.isAgg123
  z35 := Try.sizeOf123
  v35 := Try.zeroValue123
  t36 := Try.underlying124
  a36 := Try.isAgg124
  z36 := Try.sizeOf124
  v36 := Try.zeroValue124
  t41 := Try.underlying129
  a41 := Try.isAgg129
  z41 := Try.sizeOf129
  v41 := Try.zeroValue129
  t44 := Try.underlying132
  a44 := Try.isAgg132
  z44 := Try.sizeOf132
  v44 := Try.zeroValue132
  t46 := Try.underlying134
  a46 := Try.isAgg134
  z46 := Try.sizeOf134
  v46 := Try.zeroValue134
  t53 := Try.underlying135
  a53 := Try.isAgg135
  z53 := Try.sizeOf135
  v53 := Try.zeroValue135
  t57 := Try.underlying139
  a57 := Try.isAgg139
  z57 := Try.sizeOf139
  v57 := Try.zeroValue139
  t63 := Try.underlying141
  a63 := Try.isAgg141
  z63 := Try.sizeOf141
  v63 := Try.zeroValue141
  t64 := Try.underlying33
  a64 := Try.isAgg33
  z64 := Try.sizeOf33
  v64 := Try.zeroValue33
theorem insert_perm {H : Type} (x : Lit × DataW H) (l : List (Lit × DataW H)) : (DataW.insert x l).Perm (x :: l) := by
  induction l with
  | nil => exact .refl _
  | cons y r ih =>
    rw [DataW.insert]
    split
    · exact .refl _
    · exact (List.Perm.cons y ih).trans (List.Perm.swap x y r)
theorem inserts_perm {H : Type} (l : List (Lit × DataW H)) : (l.foldr DataW.insert []).Perm l := by
  induction l with
  | nil => exact .refl _
  | cons x r ih => exact (insert_perm x _).trans (List.Perm.cons x ih)
theorem key_size {s : ByteArray} {l : Lit} (h : keyOf Try.prog 9 (.string s) = some l) : s.size ≤ maxLen := by
  obtain ⟨s', e, _, hs⟩ := Go.WideMaps.string_of_keyOf Try.underlying9 h
  injection e with e
  rw [e]
  exact hs
/-- Reads nothing of an element. -/
def blindR : Value → Option (DataW Unit × List MemPlace) := fun _ => some (.nil, [])
/-- A map with string keys in the shelf's words. -/
theorem objM_owns {ν : Type} {ev : ν → Value} {w : World} {b : Nat} {m : List (ByteArray × ν)} (hb : w.heap[b]? = some (Go.Proofs.YtoejllkjhaeeeaaHand.objM Value.string ev m)) (hk : Go.Proofs.YtoejllkjhaeeeaaHand.KeysOk Try.prog 9 Value.string m) (hl : m.length ≤ 1000000) :
    ∃ D0 : DataW Unit, w.ownsMap Try.prog 9 blindR b m.length D0 ∧ (Go.strKeys D0).Perm (m.map (fun p => p.1.data.toList)) ∧ Go.Maps.size D0 = m.length := by
  have hrd : ∀ (p : (ByteArray × ν) × Nat), p.1 ∈ m → Go.WideElems.rd Try.prog 9 blindR ⟨Value.string p.1.1, ev p.1.2, p.2⟩ = some (.string p.1.1.data.toList, .nil) := by
    intro p hp
    obtain ⟨l, hl⟩ := hk.1 _ hp
    have hs := key_size hl
    unfold Go.WideElems.rd
    rw [Go.WideMaps.keyOf_string_mk Try.underlying9 hs]
    rfl
  have hmem : ∀ p ∈ m.zipIdx, p.1 ∈ m := fun p hp => by
    obtain ⟨i, hi, e⟩ := List.getElem_of_mem hp
    rw [List.getElem_zipIdx] at e
    rw [← e]
    exact List.getElem_mem _
  have hrg : (m.zipIdx.map fun p => (⟨Value.string p.1.1, ev p.1.2, p.2⟩ : MapEntry)).map (Go.WideElems.rg Try.prog 9 blindR) = m.map (fun p => ((.string p.1.data.toList : Lit), (.nil : DataW Unit))) := by
    rw [List.map_map]
    have h1 : m.zipIdx.map (Go.WideElems.rg Try.prog 9 blindR ∘ fun p => (⟨Value.string p.1.1, ev p.1.2, p.2⟩ : MapEntry)) = m.zipIdx.map ((fun p : ByteArray × ν => ((.string p.1.data.toList : Lit), (.nil : DataW Unit))) ∘ Prod.fst) := by
      apply List.map_congr_left
      intro p hp
      have h2 := hrd p (hmem p hp)
      simp only [Function.comp, Go.WideElems.rg, h2, Option.getD_some]
    rw [h1, ← List.map_map, List.zipIdx_map_fst]
  refine ⟨.map ((m.map (fun p => ((.string p.1.data.toList : Lit), (.nil : DataW Unit)))).foldr DataW.insert []), ⟨_, _, hb, ⟨?_, ?_, ?_⟩, ?_, ?_⟩, ?_, ?_⟩
  · simp only [List.size_toArray, List.length_map, List.length_zipIdx]
    exact Nat.le_trans hl (by decide)
  · refine ⟨fun x hx => ?_, ?_, ?_⟩
    · obtain ⟨p, hp, rfl⟩ := List.mem_map.mp (show x ∈ m.zipIdx.map (fun p => (⟨Value.string p.1.1, ev p.1.2, p.2⟩ : MapEntry)) from hx)
      obtain ⟨i, hi, e⟩ := List.getElem_of_mem hp
      rw [List.getElem_zipIdx] at e
      rw [← e]
      simp only [List.length_zipIdx] at hi
      simpa using hi
    · have e : (m.zipIdx.map fun p => (⟨Value.string p.1.1, ev p.1.2, p.2⟩ : MapEntry)).toArray.toList.map (·.born) = List.range' 0 m.length := by
        simp only [List.map_map]
        show m.zipIdx.map Prod.snd = _
        rw [List.zipIdx_map_snd]
      rw [e]
      exact List.nodup_range'
    · have e : (m.zipIdx.map fun p => (⟨Value.string p.1.1, ev p.1.2, p.2⟩ : MapEntry)).toArray.toList.map (·.key) = m.map (fun p => Value.string p.1) := by
        simp only [List.map_map]
        show m.zipIdx.map ((fun p : ByteArray × ν => Value.string p.1) ∘ Prod.fst) = _
        rw [← List.map_map, List.zipIdx_map_fst]
      rw [e]
      exact List.pairwise_map.mpr hk.2
  · intro x hx
    obtain ⟨p, hp, rfl⟩ := List.mem_map.mp (show x ∈ m.zipIdx.map (fun p => (⟨Value.string p.1.1, ev p.1.2, p.2⟩ : MapEntry)) from hx)
    exact ⟨_, hrd p (hmem p hp)⟩
  · simp
  · show _ = DataW.map _
    rw [List.toList_toArray, hrg]
  · show (((m.map (fun p => ((.string p.1.data.toList : Lit), (.nil : DataW Unit)))).foldr DataW.insert []).map fun p => Go.strOf p.1).Perm _
    refine ((inserts_perm _).map _).trans ?_
    rw [List.map_map]
    exact .refl _
  · show ((m.map (fun p => ((.string p.1.data.toList : Lit), (.nil : DataW Unit)))).foldr DataW.insert []).length = _
    rw [(inserts_perm _).length_eq, List.length_map]
theorem sorts_in (n : Nat) : Go.Proofs.AnyZ.SortsIn Try.prog sortedL_ren Fence.wide n :=
  ⟨fun blk off cap ss W hH hblk hsz => Go.callsIn_wide.2 (Go.Proofs.AnyM.slices_Sort_string sortL blk off cap ss W hH hblk hsz),
   fun p cap W => Go.callsIn_wide.2 (Go.Proofs.AnyM.slices_Sort_string_none sortL p cap W)⟩
theorem Keys.calls (mb : Option Nat) (W : World) : Calls Try.prog 48 #[.map mb] W fun e w' => e = .returned (.func (.func 76) #[] #[.pointer (some ⟨W.heap.size, 0, none⟩)]) ∧ w' = W.alloc (.cells #[.map mb] 86) :=
  Go.callsIn_wide.1 (Go.Proofs.AnyZ.keys_in keysL Fence.wide 5 trivial rfl mb W)
set_option maxHeartbeats 1000000 in
/-- slices.Sorted at what maps.Keys handed back ('w': the world ahead of maps.Keys). -/
theorem Sorted_keys.calls {ν : Type} {ev : ν → Value} (w : World) (b : Nat) (m : List (ByteArray × ν)) (hb : w.heap[b]? = some (Go.Proofs.YtoejllkjhaeeeaaHand.objM Value.string ev m)) (hk : Go.Proofs.YtoejllkjhaeeeaaHand.KeysOk Try.prog 9 Value.string m) (hl : m.length ≤ 1000000) :
    Calls Try.prog 47 #[.func (.func 76) #[] #[.pointer (some ⟨w.heap.size, 0, none⟩)]] (w.alloc (.cells #[.map (some b)] 86)) fun e w' => ∃ v : Value, e = .returned v ∧
      Kd.R Kd.string 9 w' (w.alloc (.cells #[.map (some b)] 86)).heap.size (fun _ => True) v (sortS (m.map (·.1))) ∧ Below (w.alloc (.cells #[.map (some b)] 86)).heap.size (w.alloc (.cells #[.map (some b)] 86)) w' := by
 obtain ⟨D0, hown, hperm, hsz⟩ := objM_owns hb hk hl
 have hbl := hown.lt
 have hseq : SeqGives Fence.wide 2 Try.prog 76 #[.pointer (some ⟨w.heap.size, 0, none⟩)] encStr (fun ss => ss.Perm (Go.strKeys D0)) (Go.Maps.size D0) (w.alloc (.cells #[.map (some b)] 86)) :=
   Go.Proofs.AnyZ.keys_gives (ρ := keysL_ren) { keysL with } Fence.wide _ trivial rfl (by omega) w.heap.size b m.length D0 _ (by simp) (by simp) (by
     obtain ⟨es, clock, hb, Ft, hs, hD⟩ := hown
     exact ⟨es, clock, (Below.heap_alloc _ _ b hbl).trans hb, Ft, hs, hD⟩)
 have h := Go.callsIn_wide.1 (Go.Proofs.AnyZ.sorted_in sortedL Fence.wide 5 trivial trivial trivial trivial rfl (by omega) (sorts_in _) (enters_of Try.func75 (by kernel_rfl) rfl) 76 #[.pointer (some ⟨w.heap.size, 0, none⟩)] trivial (enters_of Try.func76 (by kernel_rfl) rfl) _ _ (by rw [hsz]; exact Nat.le_trans hl (by decide)) (by rw [hsz]; omega) _ hseq)
 refine h.mono ?_
 rintro e w' ⟨v, ss, rfl, hp, ho, _, hB⟩
 refine ⟨v, rfl, Kd.R_of_own ?_ (fun _ _ => trivial), hB⟩
 have e1 : ss.mergeSort (fun x y => decide (x ≤ y)) = (sortS (m.map (·.1))).map (fun a => a.data.toList) := by
   rw [← sortS_eq]
   refine List.Perm.eq_of_pairwise (le := fun a b => a ≤ b) (fun a b _ _ => List.le_antisymm) ?_ ?_ ?_
   · have := List.pairwise_mergeSort (le := fun x y : List UInt8 => decide (x ≤ y)) (fun a b c h1 h2 => by simp only [decide_eq_true_eq] at *; exact List.le_trans h1 h2) (fun a b => by simp only [Bool.or_eq_true, decide_eq_true_eq]; exact List.le_total a b) ss
     simpa using this
   · have := List.pairwise_mergeSort (le := fun x y : List UInt8 => decide (x ≤ y)) (fun a b c h1 h2 => by simp only [decide_eq_true_eq] at *; exact List.le_trans h1 h2) (fun a b => by simp only [Bool.or_eq_true, decide_eq_true_eq]; exact List.le_total a b) ((m.map (·.1)).map (fun a => a.data.toList))
     simpa using this
   · refine (List.mergeSort_perm _ _).trans ((hp.trans (hperm.trans ?_)).trans (List.mergeSort_perm _ _).symm)
     rw [List.map_map]
     exact .refl _
 have e2 : ss.length = (sortS (m.map (·.1))).length := by
   have := congrArg List.length e1
   rw [(List.mergeSort_perm _ _).length_eq, List.length_map] at this
   exact this
 rw [e1, Go.Lib.map_encStr, e2] at ho
 exact ho

def expiry_Flows.go (k : Nat) (a0_0 : ByteArray) (a0_1 a0_2 a0_3 a0_4 a0_5 : Int) (a0_6 : Bool) (a2_0 : ByteArray) (a2_1 a2_2 a2_3 : Int) (a3 : Int) : List S47 → List (ByteArray × List Int) → Option (List (ByteArray × List Int) × Int)
  | [], m => some (m, 0)
  | h :: r, m => (position_Check.f k h.f1).bind fun e => if e = 0 then ((position_Find.f h.f1 a2_0 a2_1 a2_2 a2_3).bind fun x => (expiry_Cash.f k a0_0 a0_1 a0_2 a0_3 a0_4 a0_5 a0_6 a2_0 a2_1 a2_2 a2_3 x.1 x.2.1 x.2.2.1 x.2.2.2.1 x.2.2.2.2.1 x.2.2.2.2.2 a3).bind fun y => if y.2 = 0 then (if h.f0.f0.size ≤ 9223372036854775807 then (if ((Go.Proofs.YtoejllkjhaeeeaaHand.look strQ m h.f0.f0).getD []).length < 1000000 then expiry_Flows.go k a0_0 a0_1 a0_2 a0_3 a0_4 a0_5 a0_6 a2_0 a2_1 a2_2 a2_3 a3 r (Go.Proofs.YtoejllkjhaeeeaaHand.put strQ h.f0.f0 ((Go.Proofs.YtoejllkjhaeeeaaHand.look strQ m h.f0.f0).getD [] ++ [y.1]) m) else none) else none) else some ([], y.2)) else some ([], e)
def expiry_Flows.out (k : Nat) (mm : List (ByteArray × List Int)) (cur : Int) : List ByteArray → List S58 → Option (List S58 × Int)
  | [], t => some (t, 0)
  | s :: r, t => if s.size ≤ 9223372036854775807 then (cents_Sum.f k ((Go.Proofs.YtoejllkjhaeeeaaHand.look strQ mm s).getD [])).bind fun x => if x.2 = 0 then (if x.1 = 0 then expiry_Flows.out k mm cur r t else (if t.length < 1000000 then expiry_Flows.out k mm cur r (t ++ [⟨s, cur, x.1, 3⟩]) else none)) else some ([], x.2) else none
def expiry_Flows.f (k : Nat) (a0_0 : ByteArray) (a0_1 a0_2 a0_3 a0_4 a0_5 : Int) (a0_6 : Bool) (l1 : List S47) (a2_0 : ByteArray) (a2_1 a2_2 a2_3 : Int) (a3 : Int) : Option (List S58 × Int) :=
  if l1.length > 1024 then some ([], 8) else ((expiry_Flows.go k a0_0 a0_1 a0_2 a0_3 a0_4 a0_5 a0_6 a2_0 a2_1 a2_2 a2_3 a3 l1 []).bind fun x => if x.2 = 0 then (if x.1.length ≤ 1000000 then expiry_Flows.out k x.1 a0_1 (sortS (x.1.map (·.1))) [] else none) else some ([], x.2))
theorem expiry_Flows.mono_go (k : Nat) (a0_0 : ByteArray) (a0_1 a0_2 a0_3 a0_4 a0_5 : Int) (a0_6 : Bool) (a2_0 : ByteArray) (a2_1 a2_2 a2_3 : Int) (a3 : Int) (l : List S47) : ∀ m, LeO (expiry_Flows.go k a0_0 a0_1 a0_2 a0_3 a0_4 a0_5 a0_6 a2_0 a2_1 a2_2 a2_3 a3 l m) (expiry_Flows.go (k + 1) a0_0 a0_1 a0_2 a0_3 a0_4 a0_5 a0_6 a2_0 a2_1 a2_2 a2_3 a3 l m) := by
  induction l with
  | nil => intro m; exact LeO.refl _
  | cons h r ih =>
    intro m
    unfold expiry_Flows.go
    exact LeO.bind (position_Check.mono _ _) (fun e => LeO.ite (LeO.bind (LeO.refl _) (fun x => LeO.bind (expiry_Cash.mono _ _ _ _ _ _ _ _ _ _ _ _ _ _ _ _ _ _ _) (fun y => LeO.ite (LeO.ite (LeO.ite (ih _) (LeO.refl _)) (LeO.refl _)) (LeO.refl _)))) (LeO.refl _))
theorem expiry_Flows.mono_out (k : Nat) (mm : List (ByteArray × List Int)) (cur : Int) (l : List ByteArray) : ∀ t, LeO (expiry_Flows.out k mm cur l t) (expiry_Flows.out (k + 1) mm cur l t) := by
  induction l with
  | nil => intro m; exact LeO.refl _
  | cons h r ih =>
    intro m
    unfold expiry_Flows.out
    exact LeO.ite (LeO.bind (cents_Sum.mono _ _) (fun x => LeO.ite (LeO.ite (ih _) (LeO.ite (ih _) (LeO.refl _))) (LeO.refl _))) (LeO.refl _)
theorem expiry_Flows.mono : ∀ b0 b1 b2 b3 b4 b5 b6 b7 b8 b9 b10 b11 b12 k, LeO (expiry_Flows.f k b0 b1 b2 b3 b4 b5 b6 b7 b8 b9 b10 b11 b12) (expiry_Flows.f (k + 1) b0 b1 b2 b3 b4 b5 b6 b7 b8 b9 b10 b11 b12) := by
  intro b0 b1 b2 b3 b4 b5 b6 b7 b8 b9 b10 b11 b12 k
  unfold expiry_Flows.f
  exact LeO.ite (LeO.refl _) (LeO.bind (expiry_Flows.mono_go _ _ _ _ _ _ _ _ _ _ _ _ _ _ _) (fun x => LeO.ite (LeO.ite (expiry_Flows.mono_out _ _ _ _ _) (LeO.refl _)) (LeO.refl _)))
set_option maxHeartbeats 3200000 in
set_option maxRecDepth 100000 in
theorem expiry_Flows.calls (k : Nat) (a0_0 : ByteArray) (a0_1 a0_2 a0_3 a0_4 a0_5 : Int) (a0_6 : Bool) (A1 : Option Addr) (c1 : Nat) (l1 : List (S47)) (a2_0 : ByteArray) (a2_1 a2_2 a2_3 : Int) (a3 : Int) (r1 : List S58) (r2 : Int) (w : World) (hr1 : Kd.C k47 w A1 l1.length l1) (hc1 : l1.length ≤ c1) (h : expiry_Flows.f k a0_0 a0_1 a0_2 a0_3 a0_4 a0_5 a0_6 l1 a2_0 a2_1 a2_2 a2_3 a3 = some (r1, r2)) :
    Calls Try.prog 19 #[.agg #[.string a0_0, .int .i64 a0_1, .int .i64 a0_2, .int .i64 a0_3, .int .i64 a0_4, .int .i64 a0_5, .bool a0_6], .slice A1 l1.length c1, .agg #[.string a2_0, .int .i64 a2_1, .int .i64 a2_2, .int .i64 a2_3], .int .i64 a3] w fun e w' => ∃ v0_ : Value, e = .returned (.tuple #[v0_, .int .i64 r2]) ∧ Kd.R k58 58 w' w.heap.size (fun _ => True) v0_ r1 ∧ Below w.heap.size w w' := by
 have HR1 := Aside0.mk hr1
 have hl1 := hr1.2.1
 have HC1 := Aside0.mk hc1
 clear hr1 hc1
 unfold expiry_Flows.f at h
 by_cases hlen : l1.length > 1024
 · rw [if_pos hlen] at h
   have h2 := Option.some.inj h
   simp only [Prod.mk.injEq] at h2
   obtain ⟨rfl, rfl⟩ := h2
   clear h
   go_enter Try.func19, Try.ntmps19
   go_wp2
   go_ret2
   exact ⟨_, rfl, Kd.R_nil _ _ _ _ _, below_alloc (below_alloc (Below.refl _ _) _) _⟩
 rw [if_neg hlen] at h
 obtain ⟨⟨mm, em⟩, hG, h⟩ := Option.bind_eq_some_iff.mp h
 have HG := Aside0.mk hG
 have HH := Aside0.mk h
 have hmm := @run_makeMap Try.prog
 clear hG h
 go_enter Try.func19, Try.ntmps19
 go_wp2
 have HGE : Aside0 (∀ kk, some (w.heap.size + 1 + 1) = some kk → w.heap.size ≤ kk) := ⟨fun kk e => by cases e; omega⟩
 have HNP : Aside0 (some w.heap.size ≠ some (w.heap.size + 1 + 1)) := ⟨fun e => by have := Option.some.inj e; omega⟩
 have HNS : Aside0 (some (w.heap.size + 1) ≠ some (w.heap.size + 1 + 1)) := ⟨fun e => by have := Option.some.inj e; omega⟩
 go_loopg [27] l1.length (fun kq v27 w' => ∃ (x : Nat) (m : List (ByteArray × List Int)), v27 = .int .i64 (x : Int) ∧ kq + x = l1.length ∧ Aside0 (expiry_Flows.go k a0_0 a0_1 a0_2 a0_3 a0_4 a0_5 a0_6 a2_0 a2_1 a2_2 a2_3 a3 (l1.drop x) m = some (mm, em)) ∧ Aside0 (Go.Proofs.YtoejllkjhaeeeaaHand.Groups Try.prog 9 (Kd.int .i64) 3 Value.string w' w.heap.size (w.heap.size + 1 + 1) m) ∧ Aside0 (w'.heap[w.heap.size]? = some (.cells #[.string a0_0, .int .i64 a0_1, .int .i64 a0_2, .int .i64 a0_3, .int .i64 a0_4, .int .i64 a0_5, .bool a0_6] 23 (0, 0))) ∧ Aside0 (w'.heap[w.heap.size + 1]? = some (.cells #[.string a2_0, .int .i64 a2_1, .int .i64 a2_2, .int .i64 a2_3] 25 (0, 0))) ∧ Aside0 (Below w.heap.size w w'))
 case atStart => exact ⟨0, [], rfl, by omega, HG, ⟨by have := Go.Proofs.YtoejllkjhaeeeaaHand.Groups.made Try.prog 9 (Kd.int .i64) 3 Value.string ((w.alloc (.cells #[.string a0_0, .int .i64 a0_1, .int .i64 a0_2, .int .i64 a0_3, .int .i64 a0_4, .int .i64 a0_5, .bool a0_6] 23 (0, 0))).alloc (.cells #[.string a2_0, .int .i64 a2_1, .int .i64 a2_2, .int .i64 a2_3] 25 (0, 0))) w.heap.size; simpa using this⟩, ⟨blk_alloc (blk_alloc (blk_new w _) _) _⟩, ⟨by have := blk_alloc (blk_new (w.alloc (.cells #[.string a0_0, .int .i64 a0_1, .int .i64 a0_2, .int .i64 a0_3, .int .i64 a0_4, .int .i64 a0_5, .bool a0_6] 23 (0, 0))) (.cells #[.string a2_0, .int .i64 a2_1, .int .i64 a2_2, .int .i64 a2_3] 25 (0, 0))) (.map #[] 0); simpa using this⟩, ⟨below_alloc (below_alloc (below_alloc (Below.refl _ _) _) _) _⟩⟩
 case round =>
  clear HG
  obtain ⟨x, m, rfl, hx, HA, HM, BP, BS, HB⟩ := hrel
  have hsz := HB.out.size
  have hltM := HM.out.lt
  by_cases hlt : x < l1.length
  rotate_left
  · have hxe : x = l1.length := by omega
    have hA := HA.out
    rw [List.drop_eq_nil_of_le (by omega), expiry_Flows.go] at hA
    have hA2 := Option.some.inj hA
    simp only [Prod.mk.injEq] at hA2
    obtain ⟨rfl, rfl⟩ := hA2
    have hh := HH.out
    rw [if_pos rfl] at hh
    by_cases hml : m.length ≤ 1000000
    case neg => rw [if_neg hml] at hh; cases hh
    rw [if_pos hml] at hh
    have HG := Aside0.mk hh
    have hd : decide ((x : Int) < (l1.length : Int)) = false := decide_eq_false (by omega)
    obtain ⟨vs, hvb, hvk, hve, _⟩ := HM.out
    have HVB := Aside0.mk hvb
    have HVK := Aside0.mk hvk
    have HVE := Aside0.mk hve
    have HVL : Aside0 (vs.length ≤ 1000000) := ⟨by have := congrArg List.length hve; simp at this; omega⟩
    clear hvb hvk hve hh HH hA HA hxe hml
    go_wp2_with (first | (go_at_call 48; refine (Keys.calls (some (w.heap.size + 1 + 1)) _).mono ?_; rintro _ w4 ⟨rfl, rfl⟩) | (go_at_call 47; refine (Sorted_keys.calls wr (w.heap.size + 1 + 1) vs HVB.out HVK.out HVL.out).mono ?_; rintro _ w5 ⟨vn, rfl, ho, hb⟩; rw [HVE.out] at ho; have HN5 := Aside0.mk ho; have HM5 := Aside0.mk ((HM.out.below (below_alloc (Below.refl _ _) (.cells #[.map (some (w.heap.size + 1 + 1))] 86 (0, 0)))).below hb); have BP5 := Aside0.mk (blk_below (blk_alloc BP.out (.cells #[.map (some (w.heap.size + 1 + 1))] 86 (0, 0))) hb); have HB5 := Aside0.mk (below_step (below_alloc HB.out (.cells #[.map (some (w.heap.size + 1 + 1))] 86 (0, 0))) hb); clear ho hb; obtain ⟨An, cn, en⟩ := Kd.R_slice HN5.out; subst en))
    have hszb := HB5.out.size
    have HSL := Aside0.mk (Kd.R_reads' HN5.out).2.2.2.1
    have hsl := HSL.out
    clear HM BP BS HB HVB HVK HVE HVL
    go_loopg [16, 68] (sortS (m.map (·.1))).length (fun kq v16 v68 w' => ∃ (y : Nat) (t : List S58), v68 = .int .i64 (y : Int) ∧ kq + y = (sortS (m.map (·.1))).length ∧ Aside0 (expiry_Flows.out k m a0_1 ((sortS (m.map (·.1))).drop y) t = some (r1, r2)) ∧ Aside0 (Kd.R k58 58 w' w5.heap.size (fun _ => True) v16 t) ∧ Aside0 (Below w5.heap.size w5 w'))
    case atStart => exact ⟨0, [], rfl, by omega, HG, ⟨Kd.R_nil _ _ _ _ _⟩, ⟨Below.refl _ _⟩⟩
    case round =>
     clear HG
     obtain ⟨y, t, rfl, hy, HS, HR, HBW⟩ := hrel
     have hszw := HBW.out.size
     by_cases hlt2 : y < (sortS (m.map (·.1))).length
     rotate_left
     · have hye : y = (sortS (m.map (·.1))).length := by omega
       have hs := HS.out
       rw [List.drop_eq_nil_of_le (by omega), expiry_Flows.out] at hs
       have hs2 := Option.some.inj hs
       simp only [Prod.mk.injEq] at hs2
       obtain ⟨rfl, rfl⟩ := hs2
       have hd2_ : decide ((y : Int) < ((sortS (m.map (·.1))).length : Int)) = false := decide_eq_false (by omega)
       clear hs HS hye
       go_wp2
       go_ret2
       exact ⟨_, rfl, Kd.R_lower HR.out hszb, below_step HB5.out HBW.out⟩
     have HNW := Aside0.mk (Kd.R_below HN5.out HBW.out)
     have HMW := Aside0.mk (HM5.out.below HBW.out)
     have BPW := Aside0.mk (blk_below BP5.out HBW.out)
     obtain ⟨adn, eas, hs0⟩ := Kd.at_string (Kd.R_reads' HNW.out).2.2 (y : Int) (by omega) (by omega)
     cases eas
     simp only [Int.toNat_natCast] at hs0
     have hdr : (sortS (m.map (·.1))).drop y = rdOf ByteArray.empty (sortS (m.map (·.1))) y :: (sortS (m.map (·.1))).drop (y + 1) := by
       rw [List.drop_eq_getElem_cons hlt2]
       simp [rdOf, hlt2]
     have hs := HS.out
     rw [hdr, expiry_Flows.out] at hs
     clear hdr HS
     generalize hp : rdOf ByteArray.empty (sortS (m.map (·.1))) y = s at *
     clear hp
     by_cases hk : s.size ≤ 9223372036854775807
     case neg => rw [if_neg hk] at hs; cases hs
     rw [if_pos hk] at hs
     obtain ⟨⟨n, e⟩, hN, hs⟩ := Option.bind_eq_some_iff.mp hs
     simp only at hs
     have HN := Aside0.mk hN
     have HKEY := Aside0.mk (str_keyOf (s := s) hk)
     clear hN hk
     by_cases he : e = 0
     case neg =>
      rw [if_neg he] at hs
      have hs2 := Option.some.inj hs
      simp only [Prod.mk.injEq] at hs2
      obtain ⟨rfl, rfl⟩ := hs2
      have h0b : (e == 0) = false := beq_eq_false_iff_ne.mpr he
      have h1b : (e != 0) = true := bne_iff_ne.mpr he
      clear he hs
      go_wp2_with (first | (at_lookup; obtain ⟨vL, hrunL, hRL, hbackL⟩ := HMW.out.get (q := strQ) (a := s) rfl str_keyed Try.underlying86 ints_zero HKEY.out strQ_key; obtain ⟨AL, cL, eL⟩ := Kd.R_slice hRL; subst eL; refine Go.Proofs.YtoejllkjhaeeeaaHand.wpL_look _ rfl (.tmp 73) (.tmp 74) 86 false rfl (w.heap.size + 1 + 1) (.string s) (.slice AL ((Go.Proofs.YtoejllkjhaeeeaaHand.look strQ m s).getD []).length cL) rfl rfl hrunL ?_; have HRL := Aside0.mk hRL; clear hRL hbackL hrunL) | (go_at_call 49; refine (cents_Sum.calls k AL cL ((Go.Proofs.YtoejllkjhaeeeaaHand.look strQ m s).getD []) n e _ (Kd.R_reads' HRL.out).2.2 (Kd.R_reads' HRL.out).2.1 HN.out).mono ?_; rintro _ w8 ⟨rfl, hb⟩; have HB8 := Aside0.mk (below_step HBW.out hb.below); have HR8 := Aside0.mk (Kd.R_below HR.out hb.below); have BP8 := blk_below BPW.out hb.below; have hp1 : w8.cell? ⟨w.heap.size, 1, none⟩ = some (.int .i64 a0_1) := (blk_cell BP8 1).trans rfl; have hltP := blk_lt BP8; clear hb BP8))
      go_ret2
      exact ⟨_, rfl, Kd.R_nil _ _ _ _ _, below_step HB5.out HB8.out⟩
     subst he
     rw [if_pos rfl] at hs
     by_cases hn : n = 0
     · rw [if_pos hn] at hs
       have HS2 := Aside0.mk hs
       subst hn
       clear hs
       go_wp2_with (first | (at_lookup; obtain ⟨vL, hrunL, hRL, hbackL⟩ := HMW.out.get (q := strQ) (a := s) rfl str_keyed Try.underlying86 ints_zero HKEY.out strQ_key; obtain ⟨AL, cL, eL⟩ := Kd.R_slice hRL; subst eL; refine Go.Proofs.YtoejllkjhaeeeaaHand.wpL_look _ rfl (.tmp 73) (.tmp 74) 86 false rfl (w.heap.size + 1 + 1) (.string s) (.slice AL ((Go.Proofs.YtoejllkjhaeeeaaHand.look strQ m s).getD []).length cL) rfl rfl hrunL ?_; have HRL := Aside0.mk hRL; clear hRL hbackL hrunL) | (go_at_call 49; refine (cents_Sum.calls k AL cL ((Go.Proofs.YtoejllkjhaeeeaaHand.look strQ m s).getD []) 0 0 _ (Kd.R_reads' HRL.out).2.2 (Kd.R_reads' HRL.out).2.1 HN.out).mono ?_; rintro _ w8 ⟨rfl, hb⟩; have HB8 := Aside0.mk (below_step HBW.out hb.below); have HR8 := Aside0.mk (Kd.R_below HR.out hb.below); have BP8 := blk_below BPW.out hb.below; have hp1 : w8.cell? ⟨w.heap.size, 1, none⟩ = some (.int .i64 a0_1) := (blk_cell BP8 1).trans rfl; have hltP := blk_lt BP8; clear hb BP8))
       go_roundg ((sortS (m.map (·.1))).length - (y + 1))
       case measure => omega
       case rel => exact ⟨y + 1, t, by go_num, by omega, HS2, HR8, HB8⟩
     rw [if_neg hn] at hs
     by_cases hln : t.length < 1000000
     case neg => rw [if_neg hln] at hs; cases hs
     rw [if_pos hln] at hs
     have HS2 := Aside0.mk hs
     have HL : Aside0 ((t.length + 1) * 40 ≤ 140737488355328) := ⟨by omega⟩
     have h0n : (n == 0) = false := beq_eq_false_iff_ne.mpr hn
     have h1n : (n != 0) = true := bne_iff_ne.mpr hn
     clear hs hn hln
     go_wp2_with (first | (at_lookup; obtain ⟨vL, hrunL, hRL, hbackL⟩ := HMW.out.get (q := strQ) (a := s) rfl str_keyed Try.underlying86 ints_zero HKEY.out strQ_key; obtain ⟨AL, cL, eL⟩ := Kd.R_slice hRL; subst eL; refine Go.Proofs.YtoejllkjhaeeeaaHand.wpL_look _ rfl (.tmp 73) (.tmp 74) 86 false rfl (w.heap.size + 1 + 1) (.string s) (.slice AL ((Go.Proofs.YtoejllkjhaeeeaaHand.look strQ m s).getD []).length cL) rfl rfl hrunL ?_; have HRL := Aside0.mk hRL; clear hRL hbackL hrunL) | (go_at_call 49; refine (cents_Sum.calls k AL cL ((Go.Proofs.YtoejllkjhaeeeaaHand.look strQ m s).getD []) n 0 _ (Kd.R_reads' HRL.out).2.2 (Kd.R_reads' HRL.out).2.1 HN.out).mono ?_; rintro _ w8 ⟨rfl, hb⟩; have HB8 := Aside0.mk (below_step HBW.out hb.below); have HR8 := Aside0.mk (Kd.R_below HR.out hb.below); have BP8 := blk_below BPW.out hb.below; have hp1 : w8.cell? ⟨w.heap.size, 1, none⟩ = some (.int .i64 a0_1) := (blk_cell BP8 1).trans rfl; have hltP := blk_lt BP8; clear hb BP8) | ((with_reducible refine gate_builtin (b := .append) (xs := #[.tmp 84, .tmp 90]) rfl ?_); at_builtin; refine Kd.R_append k58 (w0 := w5) w5.heap.size rfl (.tmp 84) (.tmp 90) 54 58 (.agg #[(.string ⟨#[]⟩), (.int .i64 0), (.int .i64 0), (.int .i64 0)]) 40 rfl Try.underlying54 info58 rfl (by decide) (by decide) u16 t ⟨s, a0_1, n, 3⟩ [.string s, .int .i64 a0_1, .int .i64 n, .int .i64 3] (fun _ => True) (fun _ => False) rfl ?aX ?aP (fun _ hk => hk.elim) (fun _ _ => trivial) HR8.out HB8.out HB8.out.size ?aL ?_; (case aX => rfl); (case aP => exact k58_mkM _ _ _ ⟨s, a0_1, n, 3⟩); (case aL => exact HL.out); intro v9 w9 ho hb9 hg9 _; have HR9 := Aside0.mk ho; have HB9 := Aside0.mk hb9; clear ho hb9 hg9))
     go_roundg ((sortS (m.map (·.1))).length - (y + 1))
     case measure => omega
     case rel => exact ⟨y + 1, _, by go_num, by omega, HS2, HR9, HB9⟩
  obtain ⟨ad, A2, c2, ead, h0, h1, h2, h3, h4⟩ := at_T47 (Kd.C_below HR1.out HB.out) (x : Int) (by omega) (by omega)
  cases ead
  simp only [Int.toNat_natCast] at h0 h1 h2
  have hdr : l1.drop x = rd_T47 l1 x :: l1.drop (x + 1) := by
    rw [List.drop_eq_getElem_cons hlt]
    simp [rd_T47, hlt]
  have hA := HA.out
  rw [hdr, expiry_Flows.go] at hA
  clear hdr HA
  generalize hq : rd_T47 l1 x = q at *
  clear hq
  obtain ⟨⟨q0, q1⟩, q2⟩ := q
  simp only at h0 h1 h2 h3 h4 hA
  have H3 := Aside0.mk h3
  have H4 := Aside0.mk h4
  obtain ⟨e, hE, hA⟩ := Option.bind_eq_some_iff.mp hA
  have HE := Aside0.mk hE
  clear h3 h4 hE
  by_cases he : e = 0
  case neg =>
   rw [if_neg he] at hA
   have hA2 := Option.some.inj hA
   simp only [Prod.mk.injEq] at hA2
   obtain ⟨rfl, rfl⟩ := hA2
   have hh := HH.out
   rw [if_neg he] at hh
   have hh2 := Option.some.inj hh
   simp only [Prod.mk.injEq] at hh2
   obtain ⟨rfl, rfl⟩ := hh2
   have h0b : (e == 0) = false := beq_eq_false_iff_ne.mpr he
   have h1b : (e != 0) = true := bne_iff_ne.mpr he
   clear he hh HH hA
   go_wp2_with (go_at_call 45; refine (position_Check.calls k A2 c2 q2 e _ (Kd.C_alloc H4.out _) H3.out HE.out).mono ?_; rintro _ w5 ⟨rfl, hb⟩; have HB5 := Aside0.mk (below_step (below_alloc HB.out (.cells #[.string q0, .string q1, .slice A2 q2.length c2] 47 (0, 0))) hb); have BH5 := Aside0.mk (blk_below (blk_new wr (.cells #[.string q0, .string q1, .slice A2 q2.length c2] 47 (0, 0))) hb); have BP5 := Aside0.mk (blk_below (blk_alloc BP.out (.cells #[.string q0, .string q1, .slice A2 q2.length c2] 47 (0, 0))) hb); have BS5 := Aside0.mk (blk_below (blk_alloc BS.out (.cells #[.string q0, .string q1, .slice A2 q2.length c2] 47 (0, 0))) hb); have HM5 := Aside0.mk ((HM.out.below (below_alloc (Below.refl _ _) (.cells #[.string q0, .string q1, .slice A2 q2.length c2] 47 (0, 0)))).below hb); have HC5 := Aside0.mk (Kd.C_below (Kd.C_alloc H4.out (.cells #[.string q0, .string q1, .slice A2 q2.length c2] 47 (0, 0))) hb); clear hb)
   go_ret2
   exact ⟨_, rfl, Kd.R_nil _ _ _ _ _, HB5.out⟩
  subst he
  rw [if_pos rfl] at hA
  obtain ⟨⟨f0, f1, f2, f3, f4, f5⟩, hF, hA⟩ := Option.bind_eq_some_iff.mp hA
  obtain ⟨⟨n, e⟩, hC, hA⟩ := Option.bind_eq_some_iff.mp hA
  have HF := Aside0.mk hF
  have HCA := Aside0.mk hC
  simp only at hA
  clear hF hC
  by_cases he : e = 0
  case neg =>
   rw [if_neg he] at hA
   have hA2 := Option.some.inj hA
   simp only [Prod.mk.injEq] at hA2
   obtain ⟨rfl, rfl⟩ := hA2
   have hh := HH.out
   rw [if_neg he] at hh
   have hh2 := Option.some.inj hh
   simp only [Prod.mk.injEq] at hh2
   obtain ⟨rfl, rfl⟩ := hh2
   have h0b : (e == 0) = false := beq_eq_false_iff_ne.mpr he
   have h1b : (e != 0) = true := bne_iff_ne.mpr he
   clear he hh HH hA
   go_wp2_with (go_at_call 45; refine (position_Check.calls k A2 c2 q2 0 _ (Kd.C_alloc H4.out _) H3.out HE.out).mono ?_; rintro _ w5 ⟨rfl, hb⟩; have HB5 := Aside0.mk (below_step (below_alloc HB.out (.cells #[.string q0, .string q1, .slice A2 q2.length c2] 47 (0, 0))) hb); have BH5 := Aside0.mk (blk_below (blk_new wr (.cells #[.string q0, .string q1, .slice A2 q2.length c2] 47 (0, 0))) hb); have BP5 := Aside0.mk (blk_below (blk_alloc BP.out (.cells #[.string q0, .string q1, .slice A2 q2.length c2] 47 (0, 0))) hb); have BS5 := Aside0.mk (blk_below (blk_alloc BS.out (.cells #[.string q0, .string q1, .slice A2 q2.length c2] 47 (0, 0))) hb); have HM5 := Aside0.mk ((HM.out.below (below_alloc (Below.refl _ _) (.cells #[.string q0, .string q1, .slice A2 q2.length c2] 47 (0, 0)))).below hb); have HC5 := Aside0.mk (Kd.C_below (Kd.C_alloc H4.out (.cells #[.string q0, .string q1, .slice A2 q2.length c2] 47 (0, 0))) hb); clear hb)
   refine start_ (n := 13) (S := fun w' => w'.cell? ⟨w.heap.size, 0, none⟩ = some (.string a0_0) ∧ w'.cell? ⟨w.heap.size, 1, none⟩ = some (.int .i64 a0_1) ∧ w'.cell? ⟨w.heap.size, 2, none⟩ = some (.int .i64 a0_2) ∧ w'.cell? ⟨w.heap.size, 3, none⟩ = some (.int .i64 a0_3) ∧ w'.cell? ⟨w.heap.size, 4, none⟩ = some (.int .i64 a0_4) ∧ w'.cell? ⟨w.heap.size, 5, none⟩ = some (.int .i64 a0_5) ∧ w'.cell? ⟨w.heap.size, 6, none⟩ = some (.bool a0_6) ∧ w'.cell? ⟨w.heap.size + 1, 0, none⟩ = some (.string a2_0) ∧ w'.cell? ⟨w.heap.size + 1, 1, none⟩ = some (.int .i64 a2_1) ∧ w'.cell? ⟨w.heap.size + 1, 2, none⟩ = some (.int .i64 a2_2) ∧ w'.cell? ⟨w.heap.size + 1, 3, none⟩ = some (.int .i64 a2_3) ∧ w'.cell? ⟨wr.heap.size, 2, none⟩ = some (.slice A2 q2.length c2)) (ds := []) (tf 0 13) (by kernel_rfl) rfl rfl ⟨((blk_cell (blk_drew BP5.out) 0).trans rfl), ((blk_cell (blk_drew BP5.out) 1).trans rfl), ((blk_cell (blk_drew BP5.out) 2).trans rfl), ((blk_cell (blk_drew BP5.out) 3).trans rfl), ((blk_cell (blk_drew BP5.out) 4).trans rfl), ((blk_cell (blk_drew BP5.out) 5).trans rfl), ((blk_cell (blk_drew BP5.out) 6).trans rfl), ((blk_cell (blk_drew BS5.out) 0).trans rfl), ((blk_cell (blk_drew BS5.out) 1).trans rfl), ((blk_cell (blk_drew BS5.out) 2).trans rfl), ((blk_cell (blk_drew BS5.out) 3).trans rfl), ((blk_cell (blk_drew BH5.out) 2).trans rfl)⟩ (fun hHeld => ?_)
   refine pure_ (i := 2) (N := some 40) (v := ?_) (a' := ?_) #[false, false, true, false, false, false, false, false, false, false, false, false, false] rfl rfl (by kernel_rfl) (fun _ _ _ h => h) (Or.inl ⟨by rfl, ?_⟩) ?_ ?_
   rotate_left
   · intro w'
     go_simp
     with_reducible rfl
   rotate_left
   · exact ap_
   refine pure_ (i := 6) (N := some 44) (v := ?_) (a' := ?_) #[false, false, true, false, false, false, true, false, false, false, false, false, false] rfl rfl (by kernel_rfl) (fun _ _ _ h => h) (Or.inl ⟨by rfl, ?_⟩) ?_ ?_
   rotate_left
   · intro w'
     go_simp
     with_reducible rfl
   rotate_left
   · exact ap_
   refine take_ (i := 0) (N := some 38) (v := ?_) (a' := ?_) #[true, false, true, false, false, false, true, false, false, false, false, false, false] rfl rfl (by kernel_rfl) (fun _ _ _ h => h) (Or.inl ⟨by rfl, ?_⟩) hHeld ?_ ?_
   rotate_left
   · rintro w' ⟨s0, s1, s2, s3, s4, s5, s6, s7, s8, s9, s10, s11⟩
     go_simp
     with_reducible rfl
   rotate_left
   · exact ap_
   refine take_ (i := 1) (N := some 39) (v := ?_) (a' := ?_) #[true, true, true, false, false, false, true, false, false, false, false, false, false] rfl rfl (by kernel_rfl) (fun _ _ _ h => h) (Or.inl ⟨by rfl, ?_⟩) hHeld ?_ ?_
   rotate_left
   · rintro w' ⟨s0, s1, s2, s3, s4, s5, s6, s7, s8, s9, s10, s11⟩
     go_simp
     with_reducible rfl
   rotate_left
   · exact ap_
   refine take_ (i := 3) (N := some 41) (v := ?_) (a' := ?_) #[true, true, true, true, false, false, true, false, false, false, false, false, false] rfl rfl (by kernel_rfl) (fun _ _ _ h => h) (Or.inl ⟨by rfl, ?_⟩) hHeld ?_ ?_
   rotate_left
   · rintro w' ⟨s0, s1, s2, s3, s4, s5, s6, s7, s8, s9, s10, s11⟩
     go_simp
     with_reducible rfl
   rotate_left
   · exact ap_
   refine take_ (i := 4) (N := some 42) (v := ?_) (a' := ?_) #[true, true, true, true, true, false, true, false, false, false, false, false, false] rfl rfl (by kernel_rfl) (fun _ _ _ h => h) (Or.inl ⟨by rfl, ?_⟩) hHeld ?_ ?_
   rotate_left
   · rintro w' ⟨s0, s1, s2, s3, s4, s5, s6, s7, s8, s9, s10, s11⟩
     go_simp
     with_reducible rfl
   rotate_left
   · exact ap_
   refine one_ (i := 5) (N := some 43) (tf 7 6) rfl rfl (by kernel_rfl) (by decide) (fun K hK => ?_)
   refine goes_ Try.func46 (by kernel_rfl) rfl #[.slice A2 q2.length c2, .agg #[.string a2_0, .int .i64 a2_1, .int .i64 a2_2, .int .i64 a2_3]] (by rfl) rfl rfl (by simp only [List.map_toArray, List.map_cons, List.map_nil]; rfl) ?_
   with_reducible refine (position_Find.calls A2 c2 q2 a2_0 a2_1 a2_2 a2_3 f0 f1 f2 f3 f4 f5 _ (Kd.C_drew HC5.out) H3.out HF.out).mono ?_
   rintro _ w6 ⟨rfl, hb⟩
   refine ⟨_, rfl, ?_⟩
   have HB6 := Aside0.mk (below_step (below_drew HB5.out) hb)
   have BH6 := Aside0.mk (blk_below (blk_drew BH5.out) hb)
   have BP6 := Aside0.mk (blk_below (blk_drew BP5.out) hb)
   have BS6 := Aside0.mk (blk_below (blk_drew BS5.out) hb)
   have HM6 := Aside0.mk ((HM5.out.below (below_drew (Below.refl _ _))).below hb)
   clear hb
   refine hK.out _ _ ⟨((blk_cell BP6.out 0).trans rfl), ((blk_cell BP6.out 1).trans rfl), ((blk_cell BP6.out 2).trans rfl), ((blk_cell BP6.out 3).trans rfl), ((blk_cell BP6.out 4).trans rfl), ((blk_cell BP6.out 5).trans rfl), ((blk_cell BP6.out 6).trans rfl), ((blk_cell BS6.out 0).trans rfl), ((blk_cell BS6.out 1).trans rfl), ((blk_cell BS6.out 2).trans rfl), ((blk_cell BS6.out 3).trans rfl), ((blk_cell BH6.out 2).trans rfl)⟩ (fun hHeld => ?_)
   clear hK K
   refine norm_ (a' := ?_) ?_ ?_
   rotate_left
   · show Act.put _ (some 43) _ = _
     simp only [Act.put, List.setIfInBounds_toArray, List.set_cons_zero, List.set_cons_succ, i64_w, i32_w]
     rfl
   refine one_ (i := 7) (N := some 45) (tf 8 5) rfl rfl (by kernel_rfl) (by decide) (fun K hK => ?_)
   refine goes_ Try.func8 (by kernel_rfl) rfl #[.agg #[.string a0_0, .int .i64 a0_1, .int .i64 a0_2, .int .i64 a0_3, .int .i64 a0_4, .int .i64 a0_5, .bool a0_6], .agg #[.string a2_0, .int .i64 a2_1, .int .i64 a2_2, .int .i64 a2_3], .agg #[.string f0, .int .i64 f1, .int .i64 f2, .int .i64 f3, .int .i64 f4, .int .i64 f5], .int .i64 a3] (by rfl) rfl rfl (by simp only [List.map_toArray, List.map_cons, List.map_nil]; rfl) ?_
   with_reducible refine (expiry_Cash.calls k a0_0 a0_1 a0_2 a0_3 a0_4 a0_5 a0_6 a2_0 a2_1 a2_2 a2_3 f0 f1 f2 f3 f4 f5 a3 n e _ HCA.out).mono ?_
   rintro _ w7 ⟨rfl, hb⟩
   refine ⟨_, rfl, ?_⟩
   have HB7 := Aside0.mk (below_step HB6.out hb)
   have BH7 := Aside0.mk (blk_below BH6.out hb)
   have BP7 := Aside0.mk (blk_below BP6.out hb)
   have BS7 := Aside0.mk (blk_below BS6.out hb)
   have HM7 := Aside0.mk (HM6.out.below hb)
   clear hb
   refine hK.out _ _ ⟨((blk_cell BP7.out 0).trans rfl), ((blk_cell BP7.out 1).trans rfl), ((blk_cell BP7.out 2).trans rfl), ((blk_cell BP7.out 3).trans rfl), ((blk_cell BP7.out 4).trans rfl), ((blk_cell BP7.out 5).trans rfl), ((blk_cell BP7.out 6).trans rfl), ((blk_cell BS7.out 0).trans rfl), ((blk_cell BS7.out 1).trans rfl), ((blk_cell BS7.out 2).trans rfl), ((blk_cell BS7.out 3).trans rfl), ((blk_cell BH7.out 2).trans rfl)⟩ (fun hHeld => ?_)
   clear hK K
   refine norm_ (a' := ?_) ?_ ?_
   rotate_left
   · show Act.put _ (some 45) _ = _
     simp only [Act.put, List.setIfInBounds_toArray, List.set_cons_zero, List.set_cons_succ, i64_w, i32_w]
     rfl
   refine pure_ (i := 8) (N := some 37) (v := ?_) (a' := ?_) (tf 9 4) rfl rfl (by kernel_rfl) (fun _ _ _ h => h) (Or.inl ⟨by rfl, ?_⟩) ?_ ?_
   rotate_left
   · intro w'
     go_simp
     with_reducible rfl
   rotate_left
   · exact ap_
   refine pure_ (i := 9) (N := some 46) (v := ?_) (a' := ?_) (tf 10 3) rfl rfl (by kernel_rfl) (fun _ _ _ h => h) (Or.inl ⟨by rfl, ?_⟩) ?_ ?_
   rotate_left
   · intro w'
     go_simp
     with_reducible rfl
   rotate_left
   · exact ap_
   refine pure_ (i := 10) (N := some 47) (v := ?_) (a' := ?_) (tf 11 2) rfl rfl (by kernel_rfl) (fun _ _ _ h => h) (Or.inl ⟨by rfl, ?_⟩) ?_ ?_
   rotate_left
   · intro w'
     go_simp
     with_reducible rfl
   rotate_left
   · exact ap_
   refine pure_ (i := 11) (N := some 14) (v := ?_) (a' := ?_) (tf 12 1) rfl rfl (by kernel_rfl) (fun _ _ _ h => h) (Or.inl ⟨by rfl, ?_⟩) ?_ ?_
   rotate_left
   · intro w'
     go_simp
     with_reducible rfl
   rotate_left
   · exact ap_
   refine pure_ (i := 12) (N := some 15) (v := ?_) (a' := ?_) (tf 13 0) rfl rfl (by kernel_rfl) (fun _ _ _ h => h) (Or.inl ⟨by rfl, ?_⟩) ?_ ?_
   rotate_left
   · intro w'
     go_simp
     with_reducible rfl
   rotate_left
   · exact ap_
   refine done_ (by kernel_rfl) ?_
   go_wp2
   go_ret2
   exact ⟨_, rfl, Kd.R_nil _ _ _ _ _, HB7.out⟩
  subst he
  rw [if_pos rfl] at hA
  by_cases hk : q0.size ≤ 9223372036854775807
  case neg => rw [if_neg hk] at hA; cases hA
  rw [if_pos hk] at hA
  by_cases hl : ((Go.Proofs.YtoejllkjhaeeeaaHand.look strQ m q0).getD []).length < 1000000
  case neg => rw [if_neg hl] at hA; cases hA
  rw [if_pos hl] at hA
  have HA2 := Aside0.mk hA
  have HKEY := Aside0.mk (str_keyOf hk)
  have HL : Aside0 ((((Go.Proofs.YtoejllkjhaeeeaaHand.look strQ m q0).getD []).length + 1) * 8 ≤ 140737488355328) := ⟨by omega⟩
  clear hA hk hl
  go_wp2_with (go_at_call 45; refine (position_Check.calls k A2 c2 q2 0 _ (Kd.C_alloc H4.out _) H3.out HE.out).mono ?_; rintro _ w5 ⟨rfl, hb⟩; have HB5 := Aside0.mk (below_step (below_alloc HB.out (.cells #[.string q0, .string q1, .slice A2 q2.length c2] 47 (0, 0))) hb); have BH5 := Aside0.mk (blk_below (blk_new wr (.cells #[.string q0, .string q1, .slice A2 q2.length c2] 47 (0, 0))) hb); have BP5 := Aside0.mk (blk_below (blk_alloc BP.out (.cells #[.string q0, .string q1, .slice A2 q2.length c2] 47 (0, 0))) hb); have BS5 := Aside0.mk (blk_below (blk_alloc BS.out (.cells #[.string q0, .string q1, .slice A2 q2.length c2] 47 (0, 0))) hb); have HM5 := Aside0.mk ((HM.out.below (below_alloc (Below.refl _ _) (.cells #[.string q0, .string q1, .slice A2 q2.length c2] 47 (0, 0)))).below hb); have HC5 := Aside0.mk (Kd.C_below (Kd.C_alloc H4.out (.cells #[.string q0, .string q1, .slice A2 q2.length c2] 47 (0, 0))) hb); clear hb)
  refine start_ (n := 13) (S := fun w' => w'.cell? ⟨w.heap.size, 0, none⟩ = some (.string a0_0) ∧ w'.cell? ⟨w.heap.size, 1, none⟩ = some (.int .i64 a0_1) ∧ w'.cell? ⟨w.heap.size, 2, none⟩ = some (.int .i64 a0_2) ∧ w'.cell? ⟨w.heap.size, 3, none⟩ = some (.int .i64 a0_3) ∧ w'.cell? ⟨w.heap.size, 4, none⟩ = some (.int .i64 a0_4) ∧ w'.cell? ⟨w.heap.size, 5, none⟩ = some (.int .i64 a0_5) ∧ w'.cell? ⟨w.heap.size, 6, none⟩ = some (.bool a0_6) ∧ w'.cell? ⟨w.heap.size + 1, 0, none⟩ = some (.string a2_0) ∧ w'.cell? ⟨w.heap.size + 1, 1, none⟩ = some (.int .i64 a2_1) ∧ w'.cell? ⟨w.heap.size + 1, 2, none⟩ = some (.int .i64 a2_2) ∧ w'.cell? ⟨w.heap.size + 1, 3, none⟩ = some (.int .i64 a2_3) ∧ w'.cell? ⟨wr.heap.size, 2, none⟩ = some (.slice A2 q2.length c2)) (ds := []) (tf 0 13) (by kernel_rfl) rfl rfl ⟨((blk_cell (blk_drew BP5.out) 0).trans rfl), ((blk_cell (blk_drew BP5.out) 1).trans rfl), ((blk_cell (blk_drew BP5.out) 2).trans rfl), ((blk_cell (blk_drew BP5.out) 3).trans rfl), ((blk_cell (blk_drew BP5.out) 4).trans rfl), ((blk_cell (blk_drew BP5.out) 5).trans rfl), ((blk_cell (blk_drew BP5.out) 6).trans rfl), ((blk_cell (blk_drew BS5.out) 0).trans rfl), ((blk_cell (blk_drew BS5.out) 1).trans rfl), ((blk_cell (blk_drew BS5.out) 2).trans rfl), ((blk_cell (blk_drew BS5.out) 3).trans rfl), ((blk_cell (blk_drew BH5.out) 2).trans rfl)⟩ (fun hHeld => ?_)
  refine pure_ (i := 2) (N := some 40) (v := ?_) (a' := ?_) #[false, false, true, false, false, false, false, false, false, false, false, false, false] rfl rfl (by kernel_rfl) (fun _ _ _ h => h) (Or.inl ⟨by rfl, ?_⟩) ?_ ?_
  rotate_left
  · intro w'
    go_simp
    with_reducible rfl
  rotate_left
  · exact ap_
  refine pure_ (i := 6) (N := some 44) (v := ?_) (a' := ?_) #[false, false, true, false, false, false, true, false, false, false, false, false, false] rfl rfl (by kernel_rfl) (fun _ _ _ h => h) (Or.inl ⟨by rfl, ?_⟩) ?_ ?_
  rotate_left
  · intro w'
    go_simp
    with_reducible rfl
  rotate_left
  · exact ap_
  refine take_ (i := 0) (N := some 38) (v := ?_) (a' := ?_) #[true, false, true, false, false, false, true, false, false, false, false, false, false] rfl rfl (by kernel_rfl) (fun _ _ _ h => h) (Or.inl ⟨by rfl, ?_⟩) hHeld ?_ ?_
  rotate_left
  · rintro w' ⟨s0, s1, s2, s3, s4, s5, s6, s7, s8, s9, s10, s11⟩
    go_simp
    with_reducible rfl
  rotate_left
  · exact ap_
  refine take_ (i := 1) (N := some 39) (v := ?_) (a' := ?_) #[true, true, true, false, false, false, true, false, false, false, false, false, false] rfl rfl (by kernel_rfl) (fun _ _ _ h => h) (Or.inl ⟨by rfl, ?_⟩) hHeld ?_ ?_
  rotate_left
  · rintro w' ⟨s0, s1, s2, s3, s4, s5, s6, s7, s8, s9, s10, s11⟩
    go_simp
    with_reducible rfl
  rotate_left
  · exact ap_
  refine take_ (i := 3) (N := some 41) (v := ?_) (a' := ?_) #[true, true, true, true, false, false, true, false, false, false, false, false, false] rfl rfl (by kernel_rfl) (fun _ _ _ h => h) (Or.inl ⟨by rfl, ?_⟩) hHeld ?_ ?_
  rotate_left
  · rintro w' ⟨s0, s1, s2, s3, s4, s5, s6, s7, s8, s9, s10, s11⟩
    go_simp
    with_reducible rfl
  rotate_left
  · exact ap_
  refine take_ (i := 4) (N := some 42) (v := ?_) (a' := ?_) #[true, true, true, true, true, false, true, false, false, false, false, false, false] rfl rfl (by kernel_rfl) (fun _ _ _ h => h) (Or.inl ⟨by rfl, ?_⟩) hHeld ?_ ?_
  rotate_left
  · rintro w' ⟨s0, s1, s2, s3, s4, s5, s6, s7, s8, s9, s10, s11⟩
    go_simp
    with_reducible rfl
  rotate_left
  · exact ap_
  refine one_ (i := 5) (N := some 43) (tf 7 6) rfl rfl (by kernel_rfl) (by decide) (fun K hK => ?_)
  refine goes_ Try.func46 (by kernel_rfl) rfl #[.slice A2 q2.length c2, .agg #[.string a2_0, .int .i64 a2_1, .int .i64 a2_2, .int .i64 a2_3]] (by rfl) rfl rfl (by simp only [List.map_toArray, List.map_cons, List.map_nil]; rfl) ?_
  with_reducible refine (position_Find.calls A2 c2 q2 a2_0 a2_1 a2_2 a2_3 f0 f1 f2 f3 f4 f5 _ (Kd.C_drew HC5.out) H3.out HF.out).mono ?_
  rintro _ w6 ⟨rfl, hb⟩
  refine ⟨_, rfl, ?_⟩
  have HB6 := Aside0.mk (below_step (below_drew HB5.out) hb)
  have BH6 := Aside0.mk (blk_below (blk_drew BH5.out) hb)
  have BP6 := Aside0.mk (blk_below (blk_drew BP5.out) hb)
  have BS6 := Aside0.mk (blk_below (blk_drew BS5.out) hb)
  have HM6 := Aside0.mk ((HM5.out.below (below_drew (Below.refl _ _))).below hb)
  clear hb
  refine hK.out _ _ ⟨((blk_cell BP6.out 0).trans rfl), ((blk_cell BP6.out 1).trans rfl), ((blk_cell BP6.out 2).trans rfl), ((blk_cell BP6.out 3).trans rfl), ((blk_cell BP6.out 4).trans rfl), ((blk_cell BP6.out 5).trans rfl), ((blk_cell BP6.out 6).trans rfl), ((blk_cell BS6.out 0).trans rfl), ((blk_cell BS6.out 1).trans rfl), ((blk_cell BS6.out 2).trans rfl), ((blk_cell BS6.out 3).trans rfl), ((blk_cell BH6.out 2).trans rfl)⟩ (fun hHeld => ?_)
  clear hK K
  refine norm_ (a' := ?_) ?_ ?_
  rotate_left
  · show Act.put _ (some 43) _ = _
    simp only [Act.put, List.setIfInBounds_toArray, List.set_cons_zero, List.set_cons_succ, i64_w, i32_w]
    rfl
  refine one_ (i := 7) (N := some 45) (tf 8 5) rfl rfl (by kernel_rfl) (by decide) (fun K hK => ?_)
  refine goes_ Try.func8 (by kernel_rfl) rfl #[.agg #[.string a0_0, .int .i64 a0_1, .int .i64 a0_2, .int .i64 a0_3, .int .i64 a0_4, .int .i64 a0_5, .bool a0_6], .agg #[.string a2_0, .int .i64 a2_1, .int .i64 a2_2, .int .i64 a2_3], .agg #[.string f0, .int .i64 f1, .int .i64 f2, .int .i64 f3, .int .i64 f4, .int .i64 f5], .int .i64 a3] (by rfl) rfl rfl (by simp only [List.map_toArray, List.map_cons, List.map_nil]; rfl) ?_
  with_reducible refine (expiry_Cash.calls k a0_0 a0_1 a0_2 a0_3 a0_4 a0_5 a0_6 a2_0 a2_1 a2_2 a2_3 f0 f1 f2 f3 f4 f5 a3 n 0 _ HCA.out).mono ?_
  rintro _ w7 ⟨rfl, hb⟩
  refine ⟨_, rfl, ?_⟩
  have HB7 := Aside0.mk (below_step HB6.out hb)
  have BH7 := Aside0.mk (blk_below BH6.out hb)
  have BP7 := Aside0.mk (blk_below BP6.out hb)
  have BS7 := Aside0.mk (blk_below BS6.out hb)
  have HM7 := Aside0.mk (HM6.out.below hb)
  clear hb
  refine hK.out _ _ ⟨((blk_cell BP7.out 0).trans rfl), ((blk_cell BP7.out 1).trans rfl), ((blk_cell BP7.out 2).trans rfl), ((blk_cell BP7.out 3).trans rfl), ((blk_cell BP7.out 4).trans rfl), ((blk_cell BP7.out 5).trans rfl), ((blk_cell BP7.out 6).trans rfl), ((blk_cell BS7.out 0).trans rfl), ((blk_cell BS7.out 1).trans rfl), ((blk_cell BS7.out 2).trans rfl), ((blk_cell BS7.out 3).trans rfl), ((blk_cell BH7.out 2).trans rfl)⟩ (fun hHeld => ?_)
  clear hK K
  refine norm_ (a' := ?_) ?_ ?_
  rotate_left
  · show Act.put _ (some 45) _ = _
    simp only [Act.put, List.setIfInBounds_toArray, List.set_cons_zero, List.set_cons_succ, i64_w, i32_w]
    rfl
  refine pure_ (i := 8) (N := some 37) (v := ?_) (a' := ?_) (tf 9 4) rfl rfl (by kernel_rfl) (fun _ _ _ h => h) (Or.inl ⟨by rfl, ?_⟩) ?_ ?_
  rotate_left
  · intro w'
    go_simp
    with_reducible rfl
  rotate_left
  · exact ap_
  refine pure_ (i := 9) (N := some 46) (v := ?_) (a' := ?_) (tf 10 3) rfl rfl (by kernel_rfl) (fun _ _ _ h => h) (Or.inl ⟨by rfl, ?_⟩) ?_ ?_
  rotate_left
  · intro w'
    go_simp
    with_reducible rfl
  rotate_left
  · exact ap_
  refine pure_ (i := 10) (N := some 47) (v := ?_) (a' := ?_) (tf 11 2) rfl rfl (by kernel_rfl) (fun _ _ _ h => h) (Or.inl ⟨by rfl, ?_⟩) ?_ ?_
  rotate_left
  · intro w'
    go_simp
    with_reducible rfl
  rotate_left
  · exact ap_
  refine pure_ (i := 11) (N := some 14) (v := ?_) (a' := ?_) (tf 12 1) rfl rfl (by kernel_rfl) (fun _ _ _ h => h) (Or.inl ⟨by rfl, ?_⟩) ?_ ?_
  rotate_left
  · intro w'
    go_simp
    with_reducible rfl
  rotate_left
  · exact ap_
  refine pure_ (i := 12) (N := some 15) (v := ?_) (a' := ?_) (tf 13 0) rfl rfl (by kernel_rfl) (fun _ _ _ h => h) (Or.inl ⟨by rfl, ?_⟩) ?_ ?_
  rotate_left
  · intro w'
    go_simp
    with_reducible rfl
  rotate_left
  · exact ap_
  refine done_ (by kernel_rfl) ?_
  go_wp2
  have hltN := HM7.out.lt
  obtain ⟨vM, hrunM, hRM, hbackM⟩ := (HM7.out.below (below_drew (Below.refl _ _))).getW (q := strQ) (a := q0) rfl str_keyed Try.underlying86 ints_zero HKEY.out strQ_key
  obtain ⟨AM, cM, eM⟩ := Kd.R_slice hRM
  subst eM
  have HRM := Aside0.mk hrunM
  have HRO := Aside0.mk hRM
  have HBK := Aside0.mk hbackM
  have HNM := Aside0.mk (Go.Proofs.YtoejllkjhaeeeaaHand.Groups.ne (HM7.out.below (below_drew (Below.refl _ _))) hRM)
  clear hrunM hRM hbackM
  refine start_ (n := 13) (S := fun w' => w'.cell? ⟨wr.heap.size, 0, none⟩ = some (.string q0) ∧ (Instr.lookup 86 (.map (some (w.heap.size + 1 + 1))) (.string q0) false).run Try.prog w' = .ok (.slice AM ((Go.Proofs.YtoejllkjhaeeeaaHand.look strQ m q0).getD []).length cM) w') (ds := [12]) (tf 0 13) (by kernel_rfl) rfl rfl ⟨((blk_cell (blk_drew BH7.out) 0).trans rfl), (HRM.out _ rfl)⟩ (fun hHeld => ?_)
  refine pure_ (i := 0) (N := some 51) (v := ?_) (a' := ?_) (tf 1 12) rfl rfl (by kernel_rfl) (fun _ _ _ h => h) (Or.inl ⟨by rfl, ?_⟩) ?_ ?_
  rotate_left
  · intro w'
    go_simp
    with_reducible rfl
  rotate_left
  · exact ap_
  refine pure_ (i := 1) (N := some 52) (v := ?_) (a' := ?_) (tf 2 11) rfl rfl (by kernel_rfl) (fun _ _ _ h => h) (Or.inl ⟨by rfl, ?_⟩) ?_ ?_
  rotate_left
  · intro w'
    go_simp
    with_reducible rfl
  rotate_left
  · exact ap_
  refine pure_ (i := 2) (N := some 53) (v := ?_) (a' := ?_) (tf 3 10) rfl rfl (by kernel_rfl) (fun _ _ _ h => h) (Or.inl ⟨by rfl, ?_⟩) ?_ ?_
  rotate_left
  · intro w'
    go_simp
    with_reducible rfl
  rotate_left
  · exact ap_
  refine pure_ (i := 4) (N := some 55) (v := ?_) (a' := ?_) #[true, true, true, false, true, false, false, false, false, false, false, false, false] rfl rfl (by kernel_rfl) (fun _ _ _ h => h) (Or.inl ⟨by rfl, ?_⟩) ?_ ?_
  rotate_left
  · intro w'
    go_simp
    with_reducible rfl
  rotate_left
  · exact ap_
  refine pure_ (i := 5) (N := some 56) (v := ?_) (a' := ?_) #[true, true, true, false, true, true, false, false, false, false, false, false, false] rfl rfl (by kernel_rfl) (fun _ _ _ h => h) (Or.inl ⟨by rfl, ?_⟩) ?_ ?_
  rotate_left
  · intro w'
    go_simp
    with_reducible rfl
  rotate_left
  · exact ap_
  refine pure_ (i := 6) (N := some 57) (v := ?_) (a' := ?_) #[true, true, true, false, true, true, true, false, false, false, false, false, false] rfl rfl (by kernel_rfl) (fun _ _ _ h => h) (Or.inl ⟨by rfl, ?_⟩) ?_ ?_
  rotate_left
  · intro w'
    go_simp
    with_reducible rfl
  rotate_left
  · exact ap_
  refine pure_ (i := 9) (N := some 60) (v := ?_) (a' := ?_) #[true, true, true, false, true, true, true, false, false, true, false, false, false] rfl rfl (by kernel_rfl) (fun _ _ _ h => h) (Or.inl ⟨by rfl, ?_⟩) ?_ ?_
  rotate_left
  · intro w'
    go_simp
    with_reducible rfl
  rotate_left
  · exact ap_
  refine take_ (i := 3) (N := some 54) (v := ?_) (a' := ?_) #[true, true, true, true, true, true, true, false, false, true, false, false, false] rfl rfl (by kernel_rfl) (fun _ _ _ h => h) (Or.inl ⟨by rfl, ?_⟩) hHeld ?_ ?_
  rotate_left
  · rintro w' ⟨s0, s1⟩
    go_simp
    with_reducible rfl
  rotate_left
  · exact ap_
  refine take_ (i := 7) (N := some 58) (v := ?_) (a' := ?_) #[true, true, true, true, true, true, true, true, false, true, false, false, false] rfl rfl (by kernel_rfl) (fun _ _ _ h => h) (Or.inl ⟨by rfl, ?_⟩) hHeld ?_ ?_
  rotate_left
  · rintro w' ⟨s0, s1⟩
    go_simp
    with_reducible rfl
  rotate_left
  · exact ap_
  refine take_ (i := 8) (N := some 59) (v := ?_) (a' := ?_) (tf 10 3) rfl rfl (by kernel_rfl) (fun _ _ _ h => h) (Or.inl ⟨by rfl, ?_⟩) hHeld ?_ ?_
  rotate_left
  · rintro w' ⟨s0, s1⟩
    go_simp
    with_reducible rfl
  rotate_left
  · exact ap_
  refine one_ (i := 10) (N := some 61) (tf 11 2) rfl rfl (by kernel_rfl) (by decide) (fun K hK => ?_)
  refine value_ (w1 := ?_) (v := ?_) (by rfl) rfl ?_ ?_
  rotate_left 2
  · go_simp
    constructor
    · rfl
    · rfl
  refine hK.out _ _ ⟨((World.cell?_alloc_lt _ _ _ (World.block_lt_of_cell? _ _ hHeld.1)).trans hHeld.1), (HRM.out _ (Below.heap_alloc _ _ _ hltN))⟩ (fun hHeld => ?_)
  clear hK K
  refine norm_ (a' := ?_) ?_ ?_
  rotate_left
  · show Act.put _ (some 61) _ = _
    simp only [Act.put, List.setIfInBounds_toArray, List.set_cons_zero, List.set_cons_succ, i64_w, i32_w]
    rfl
  refine one_ (i := 11) (N := some 62) (tf 12 1) rfl rfl (by kernel_rfl) (by decide) (fun K hK => ?_)
  refine Kd.R_append_step (Kd.int .i64) (w0 := w) (W := w7.drew) w.heap.size (by rfl) (.tmp 59) (.tmp 61) 79 3 (.int .i64 0) 8 rfl Try.underlying79 info3 rfl (by decide) (by omega) (.slice AM ((Go.Proofs.YtoejllkjhaeeeaaHand.look strQ m q0).getD []).length cM) ((Go.Proofs.YtoejllkjhaeeeaaHand.look strQ m q0).getD []) n [.int .i64 n] (fun _ => True) (fun _ => False) rfl ?aX ?aP (fun _ hk => hk.elim) ?aF ?aO ?aB ?aS ?aL ?_
  (case aX => rfl)
  (case aP => rfl)
  (case aB => exact below_drew HB7.out)
  (case aF => exact (fun _ _ => trivial))
  (case aO => exact HRO.out)
  (case aS => exact HB7.out.size)
  (case aL => exact HL.out)
  intro v9 w9 ho hb hg hat
  obtain ⟨w10, hrunU, hM10, hg10⟩ := HBK.out _ _ _ hg ho hat
  have BH9 := blk_kept (blk_drew BH7.out) HRO.out (by decide) hg
  have BP9 := blk_kept (blk_drew BP7.out) HRO.out (by decide) hg
  have BS9 := blk_kept (blk_drew BS7.out) HRO.out (by decide) hg
  have BP10 := Aside0.mk (blk_grown BP9 hg10 HNP.out)
  have BS10 := Aside0.mk (blk_grown BS9 hg10 HNS.out)
  have HB9 := Aside0.mk hb
  have HB10 := Aside0.mk (pw_below_grown HB9.out _ HB9.out.size hg10 HGE.out)
  have HM10 := Aside0.mk hM10
  have HRU := Aside0.mk hrunU
  have HL9 : (Instr.lookup 86 (.map (some (w.heap.size + 1 + 1))) (.string q0) false).run Try.prog w9 = .ok (.slice AM ((Go.Proofs.YtoejllkjhaeeeaaHand.look strQ m q0).getD []).length cM) w9 := HRM.out _ (hg.block _ hltN HNM.out)
  clear ho hb hg hat hM10 hrunU hg10 BP9 BS9
  refine hK.out _ _ ⟨((blk_cell BH9 0).trans rfl), HL9⟩ (fun hHeld => ?_)
  clear hK K
  refine norm_ (a' := ?_) ?_ ?_
  rotate_left
  · show Act.put _ (some 62) _ = _
    simp only [Act.put, List.setIfInBounds_toArray, List.set_cons_zero, List.set_cons_succ, i64_w, i32_w]
    rfl
  refine last_ (i := 12) (N := none) (tf 13 0) rfl rfl (by kernel_rfl) (by decide) (fun K hK => ?_)
  clear BH9 HL9
  refine skip_ (w1 := w10) (by rfl) rfl (Go.Proofs.YtoejllkjhaeeeaaHand.exec_upd rfl rfl rfl rfl HRU.out) ?_
  refine hK.out _ _ ?_
  clear hK K
  refine done_ (by kernel_rfl) ?_
  go_wp2
  go_roundg (l1.length - (x + 1))
  case measure => omega
  case rel => exact ⟨x + 1, _, by go_num, by omega, HA2, HM10, BP10, BS10, HB10⟩

end Go.Proofs.Ytoejllkjhaeeeaa.PExpiryFlows
