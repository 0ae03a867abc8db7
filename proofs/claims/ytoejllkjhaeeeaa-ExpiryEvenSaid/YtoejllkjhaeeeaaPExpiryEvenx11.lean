-- Written by a program of this session's (a turned copy of the kit's print, with functions proved by hand).
import Derived.Test.YtoejllkjhaeeeaaPExpiryEvenx0
import Derived.Test.YtoejllkjhaeeeaaPExpiryEvenx2
import Derived.Test.YtoejllkjhaeeeaaPExpiryEvenx3
import Derived.Test.YtoejllkjhaeeeaaPExpiryEvenx7
import Derived.Test.YtoejllkjhaeeeaaPExpiryEvenx10
namespace Go.Proofs.Ytoejllkjhaeeeaa.PExpiryEven
open Go.RowKit Go.Proofs.YtoejllkjhaeeeaaW.PrintWords Go.Proofs.YtoejllkjhaeeeaaW.PrintLast Go.Proofs.YtoejllkjhaeeeaaW.PrintMore
attribute [local go_sem] max2_int min2_int max_two min_two max_three min_three max_four min_four Go.Proofs.YtoejllkjhaeeeaaHand.run_leq_str Go.Proofs.YtoejllkjhaeeeaaHand.run_gtr_str Go.Proofs.YtoejllkjhaeeeaaHand.run_geq_str   -- for this text's walks alone
set_option linter.unusedVariables false
set_option linter.unusedSimpArgs false

attribute [local go_sem high] eqA25 eqA44
/-! ### contangolaw51_goes: function 10 -/
/-- A block read as a row. -/
theorem C_block {α : Type} (d : Kd α) {W : World} {g t : Nat} {cs : List Value} {xs : List α} (hb : W.heap[g]? = some (.cells cs.toArray t (0, 0))) (hr : Reps (d.K W) d.sz xs cs) (hl : xs.length ≤ 9223372036854775807) : d.C W (some ⟨g, 0, none⟩) xs.length xs := by
  refine ⟨rfl, hl, fun _ => ⟨_, rfl, fun j p hj => ⟨(cs.drop (j * d.sz)).take d.sz, d.K_len (hr.2 j p hj), hr.2 j p hj, fun i u hu => ?_⟩⟩⟩
  rw [List.getElem?_take] at hu
  split at hu
  · rw [List.getElem?_drop] at hu
    have : (⟨g, 0, none⟩ : Addr).add (j * d.sz + i) = ⟨g, j * d.sz + i, none⟩ := by
      unfold Addr.add
      split <;> simp_all
    rw [this, blk_cell hb]
    simpa using hu
  · cases hu

def contangolaw51_goes.f (k : Nat) : Option Bool :=
  (expiry_Cash.f k ⟨#[111, 105, 108]⟩ 0 100 1 0 1000 false ⟨#[111, 105, 108]⟩ 2 20 50 ⟨#[111, 105, 108]⟩ 2 20 50 0 3 52).bind fun x => if x.1 = -600 ∧ x.2 = 0 then
    ((expiry_Assign.f k [⟨⟨⟨#[97]⟩, ⟨#[120]⟩⟩, [⟨⟨⟨#[111, 105, 108]⟩, 2, 20, 50⟩, 0, 2⟩]⟩, ⟨⟨⟨#[98]⟩, ⟨#[120]⟩⟩, []⟩, ⟨⟨⟨#[100]⟩, ⟨#[120]⟩⟩, [⟨⟨⟨#[111, 105, 108]⟩, 2, 20, 50⟩, 0, 6⟩]⟩] ⟨#[111, 105, 108]⟩ 2 20 50 5).bind fun y => if y.2 = 0 ∧ y.1.length = 2 ∧ (rd_T49 y.1 0).f1 = 1 ∧ (rd_T49 y.1 0).f0.f0.toList = [97] ∧ (rd_T49 y.1 1).f1 = 4 then some true else none) else none
theorem contangolaw51_goes.mono : ∀ k, LeO (contangolaw51_goes.f k) (contangolaw51_goes.f (k + 1)) := by
  intro k
  unfold contangolaw51_goes.f
  exact LeO.bind (expiry_Cash.mono _ _ _ _ _ _ _ _ _ _ _ _ _ _ _ _ _ _ _) (fun x => LeO.ite (LeO.bind (expiry_Assign.mono _ _ _ _ _ _ _) (fun y => LeO.refl _)) (LeO.refl _))
set_option maxHeartbeats 800000 in
set_option maxRecDepth 100000 in
theorem contangolaw51_goes.short (c0 : ByteArray) (c1 c2 c3 : Int) (b : Nat) (s : ByteArray) (n : Int) (w : World) (hb : w.heap[b]? = some (.cells #[.string c0, .int .i64 c1, .int .i64 c2, .int .i64 c3] 25 (0, 0))) :
    Calls Try.prog 33 #[.string s, .int .i64 n, .pointer (some ⟨b, 0, none⟩)] w fun e w' => ∃ (A : Option Addr) (c : Nat), e = .returned (.agg #[.string s, .string ⟨#[120]⟩, .slice A 1 c]) ∧ 1 ≤ c ∧ Kd.C k27 w' A 1 [⟨⟨c0, c1, c2, c3⟩, 0, n⟩] ∧ Below w.heap.size w w' := by
  have HBK := Aside0.mk hb
  have hltb := blk_lt hb
  have h0 : w.cell? ⟨b, 0, none⟩ = some (.string c0) := (blk_cell hb 0).trans rfl
  have h1 : w.cell? ⟨b, 1, none⟩ = some (.int .i64 c1) := (blk_cell hb 1).trans rfl
  have h2 : w.cell? ⟨b, 2, none⟩ = some (.int .i64 c2) := (blk_cell hb 2).trans rfl
  have h3 : w.cell? ⟨b, 3, none⟩ = some (.int .i64 c3) := (blk_cell hb 3).trans rfl
  clear hb
  go_enter Try.func33, Try.ntmps33
  go_wp2
  have hB := blk_new (w.alloc (.cells #[.string s, .string ⟨#[120]⟩, .slice (some ⟨w.heap.size + 1, 0, none⟩) 1 1] 47)) (.cells [Value.string c0, .int .i64 c1, .int .i64 c2, .int .i64 c3, .int .i64 0, .int .i64 n].toArray 27 (0, 0))
  simp only [World.size_alloc] at hB
  refine bodyPost_ret (results_cell_row rfl _ _ w.heap.size 47 #[.string s, .string ⟨#[120]⟩, .slice (some ⟨w.heap.size + 1, 0, none⟩) 1 1] (0, 0) _ rfl (blk_alloc (blk_new w _) _) Try.underlying47 rfl (by kernel_rfl)) rfl ?_
  refine ⟨some ⟨w.heap.size + 1, 0, none⟩, 1, rfl, Nat.le_refl _, ?_, below_alloc (below_alloc (Below.refl _ _) _) _⟩
  exact C_block k27 (xs := [⟨⟨c0, c1, c2, c3⟩, 0, n⟩]) hB (by have := (Reps.none (k27.K _) 6).snoc (k27_mk ((w.alloc (.cells #[.string s, .string ⟨#[120]⟩, .slice (some ⟨w.heap.size + 1, 0, none⟩) 1 1] 47)).alloc (.cells #[.string c0, .int .i64 c1, .int .i64 c2, .int .i64 c3, .int .i64 0, .int .i64 n] 27)) ⟨⟨c0, c1, c2, c3⟩, 0, n⟩) rfl; exact this) (by simp)
set_option maxHeartbeats 1600000 in
set_option maxRecDepth 100000 in
theorem contangolaw51_goes.calls (k : Nat) (r : Bool) (w : World) (h : contangolaw51_goes.f k = some r) :
    Calls Try.prog 10 #[] w fun e w' => e = .returned (.bool r) ∧ Below w.heap.size w w' := by
  unfold contangolaw51_goes.f at h
  obtain ⟨⟨x1, x2⟩, hX, h⟩ := Option.bind_eq_some_iff.mp h
  by_cases hx : x1 = -600 ∧ x2 = 0
  case neg => simp only at h; rw [if_neg hx] at h; cases h
  simp only at h
  rw [if_pos hx] at h
  obtain ⟨rfl, rfl⟩ := hx
  obtain ⟨⟨y, y2⟩, hY, h⟩ := Option.bind_eq_some_iff.mp h
  by_cases hy : y2 = 0 ∧ y.length = 2 ∧ (rd_T49 y 0).f1 = 1 ∧ (rd_T49 y 0).f0.f0.toList = [97] ∧ (rd_T49 y 1).f1 = 4
  case neg => simp only at h; rw [if_neg hy] at h; cases h
  simp only at h
  rw [if_pos hy] at h
  obtain rfl := Option.some.inj h
  obtain ⟨rfl, hy1, hy2, hy3, hy4⟩ := hy
  obtain ⟨p, q, rfl⟩ : ∃ p q, y = [p, q] := by
    match y, hy1 with
    | [p, q], _ => exact ⟨p, q, rfl⟩
  obtain ⟨⟨p0, p1⟩, p2⟩ := p
  obtain ⟨⟨q0, q1⟩, q2⟩ := q
  have hy2 : p2 = 1 := hy2
  have hy4 : q2 = 4 := hy4
  have hy3 : p0.toList = [97] := hy3
  subst hy2 hy4
  have hs1 : (p0.toList == [97]) = true := beq_iff_eq.mpr hy3
  have HX := Aside0.mk hX
  have HY := Aside0.mk hY
  have HS1 := Aside0.mk hs1
  clear h hX hY hy1 hy3 hs1
  go_enter Try.func10, Try.ntmps10
  go_wp2
  have BS := Aside0.mk (blk_new w (.cells #[.string (⟨#[111, 105, 108]⟩ : ByteArray), .int .i64 2, .int .i64 20, .int .i64 50] 25 (0, 0)))
  have HB := Aside0.mk (below_alloc (Below.refl _ w) (.cells #[.string (⟨#[111, 105, 108]⟩ : ByteArray), .int .i64 2, .int .i64 20, .int .i64 50] 25 (0, 0)))
  refine start_ (n := 10) (S := fun w' => w'.cell? ⟨w.heap.size, 0, none⟩ = some (.string (⟨#[111, 105, 108]⟩ : ByteArray)) ∧ w'.cell? ⟨w.heap.size, 1, none⟩ = some (.int .i64 2) ∧ w'.cell? ⟨w.heap.size, 2, none⟩ = some (.int .i64 20) ∧ w'.cell? ⟨w.heap.size, 3, none⟩ = some (.int .i64 50)) (ds := []) #[false, false, false, false, false, false, false, false, false, false] (by kernel_rfl) rfl rfl ⟨((blk_cell (blk_drew BS.out) 0).trans rfl), ((blk_cell (blk_drew BS.out) 1).trans rfl), ((blk_cell (blk_drew BS.out) 2).trans rfl), ((blk_cell (blk_drew BS.out) 3).trans rfl)⟩ (fun hHeld => ?_)
  refine take_ (i := 1) (N := some 11) (v := ?_) (a' := ?_) #[false, true, false, false, false, false, false, false, false, false] rfl rfl (by kernel_rfl) (fun _ _ _ h => h) (Or.inl ⟨by rfl, ?_⟩) hHeld ?_ ?_
  rotate_left
  · rintro w' ⟨s0, s1, s2, s3⟩
    go_simp
    with_reducible rfl
  rotate_left
  · simp only [Act.put, List.setIfInBounds_toArray, List.set_cons_zero, List.set_cons_succ, i64_w, i32_w]
    rfl
  refine take_ (i := 2) (N := some 12) (v := ?_) (a' := ?_) #[false, true, true, false, false, false, false, false, false, false] rfl rfl (by kernel_rfl) (fun _ _ _ h => h) (Or.inl ⟨by rfl, ?_⟩) hHeld ?_ ?_
  rotate_left
  · rintro w' ⟨s0, s1, s2, s3⟩
    go_simp
    with_reducible rfl
  rotate_left
  · simp only [Act.put, List.setIfInBounds_toArray, List.set_cons_zero, List.set_cons_succ, i64_w, i32_w]
    rfl
  refine pure_ (i := 3) (N := some 13) (v := ?_) (a' := ?_) #[false, true, true, true, false, false, false, false, false, false] rfl rfl (by kernel_rfl) (fun _ _ _ h => h) (Or.inl ⟨by rfl, ?_⟩) ?_ ?_
  rotate_left
  · intro w'
    go_simp
    with_reducible rfl
  rotate_left
  · simp only [Act.put, List.setIfInBounds_toArray, List.set_cons_zero, List.set_cons_succ, i64_w, i32_w]
    rfl
  refine one_ (i := 0) (N := some 10) #[true, true, true, true, false, false, false, false, false, false] rfl rfl (by kernel_rfl) (by decide) (fun K hK => ?_)
  refine goes_ Try.func34 (by kernel_rfl) rfl #[] (by rfl) rfl rfl (by simp) ?_
  with_reducible refine (contangolaw51_oil.calls (⟨#[111, 105, 108]⟩ : ByteArray) 0 100 1 0 1000 false _ rfl).mono ?_
  rintro _ w1 ⟨rfl, hb⟩
  refine ⟨_, rfl, ?_⟩
  have BS1 := Aside0.mk (blk_below (blk_drew BS.out) hb)
  have HB1 := Aside0.mk (below_step (below_drew HB.out) hb)
  clear hb
  refine hK.out _ _ ⟨((blk_cell BS1.out 0).trans rfl), ((blk_cell BS1.out 1).trans rfl), ((blk_cell BS1.out 2).trans rfl), ((blk_cell BS1.out 3).trans rfl)⟩ (fun hHeld => ?_)
  clear hK K
  refine norm_ (a' := ?_) ?_ ?_
  rotate_left
  · show Act.put _ (some 10) _ = _
    simp only [Act.put, List.setIfInBounds_toArray, List.set_cons_zero, List.set_cons_succ, i64_w, i32_w]
    rfl
  refine one_ (i := 4) (N := some 14) #[true, true, true, true, true, false, false, false, false, false] rfl rfl (by kernel_rfl) (by decide) (fun K hK => ?_)
  refine goes_ Try.func8 (by kernel_rfl) rfl #[.agg #[.string (⟨#[111, 105, 108]⟩ : ByteArray), .int .i64 0, .int .i64 100, .int .i64 1, .int .i64 0, .int .i64 1000, .bool false], .agg #[.string (⟨#[111, 105, 108]⟩ : ByteArray), .int .i64 2, .int .i64 20, .int .i64 50], .agg #[.string (⟨#[111, 105, 108]⟩ : ByteArray), .int .i64 2, .int .i64 20, .int .i64 50, .int .i64 0, .int .i64 3], .int .i64 52] (by rfl) rfl rfl (by simp only [List.map_toArray, List.map_cons, List.map_nil]; rfl) ?_
  with_reducible refine (expiry_Cash.calls k (⟨#[111, 105, 108]⟩ : ByteArray) 0 100 1 0 1000 false (⟨#[111, 105, 108]⟩ : ByteArray) 2 20 50 (⟨#[111, 105, 108]⟩ : ByteArray) 2 20 50 0 3 52 (-600) 0 _ HX.out).mono ?_
  rintro _ w2 ⟨rfl, hb⟩
  refine ⟨_, rfl, ?_⟩
  have BS2 := Aside0.mk (blk_below BS1.out hb)
  have HB2 := Aside0.mk (below_step HB1.out hb)
  clear hb
  refine hK.out _ _ ⟨((blk_cell BS2.out 0).trans rfl), ((blk_cell BS2.out 1).trans rfl), ((blk_cell BS2.out 2).trans rfl), ((blk_cell BS2.out 3).trans rfl)⟩ (fun hHeld => ?_)
  clear hK K
  refine norm_ (a' := ?_) ?_ ?_
  rotate_left
  · show Act.put _ (some 14) _ = _
    simp only [Act.put, List.setIfInBounds_toArray, List.set_cons_zero, List.set_cons_succ, i64_w, i32_w]
    rfl
  refine pure_ (i := 5) (N := some 9) (v := ?_) (a' := ?_) #[true, true, true, true, true, true, false, false, false, false] rfl rfl (by kernel_rfl) (fun _ _ _ h => h) (Or.inl ⟨by rfl, ?_⟩) ?_ ?_
  rotate_left
  · intro w'
    go_simp
    with_reducible rfl
  rotate_left
  · simp only [Act.put, List.setIfInBounds_toArray, List.set_cons_zero, List.set_cons_succ, i64_w, i32_w]
    rfl
  refine pure_ (i := 6) (N := some 15) (v := ?_) (a' := ?_) #[true, true, true, true, true, true, true, false, false, false] rfl rfl (by kernel_rfl) (fun _ _ _ h => h) (Or.inl ⟨by rfl, ?_⟩) ?_ ?_
  rotate_left
  · intro w'
    go_simp
    with_reducible rfl
  rotate_left
  · simp only [Act.put, List.setIfInBounds_toArray, List.set_cons_zero, List.set_cons_succ, i64_w, i32_w]
    rfl
  refine pure_ (i := 7) (N := some 16) (v := ?_) (a' := ?_) #[true, true, true, true, true, true, true, true, false, false] rfl rfl (by kernel_rfl) (fun _ _ _ h => h) (Or.inl ⟨by rfl, ?_⟩) ?_ ?_
  rotate_left
  · intro w'
    go_simp
    with_reducible rfl
  rotate_left
  · simp only [Act.put, List.setIfInBounds_toArray, List.set_cons_zero, List.set_cons_succ, i64_w, i32_w]
    rfl
  refine pure_ (i := 8) (N := some 3) (v := ?_) (a' := ?_) #[true, true, true, true, true, true, true, true, true, false] rfl rfl (by kernel_rfl) (fun _ _ _ h => h) (Or.inl ⟨by rfl, ?_⟩) ?_ ?_
  rotate_left
  · intro w'
    go_simp
    with_reducible rfl
  rotate_left
  · simp only [Act.put, List.setIfInBounds_toArray, List.set_cons_zero, List.set_cons_succ, i64_w, i32_w]
    rfl
  refine pure_ (i := 9) (N := some 4) (v := ?_) (a' := ?_) #[true, true, true, true, true, true, true, true, true, true] rfl rfl (by kernel_rfl) (fun _ _ _ h => h) (Or.inl ⟨by rfl, ?_⟩) ?_ ?_
  rotate_left
  · intro w'
    go_simp
    with_reducible rfl
  rotate_left
  · simp only [Act.put, List.setIfInBounds_toArray, List.set_cons_zero, List.set_cons_succ, i64_w, i32_w]
    rfl
  refine done_ (by kernel_rfl) ?_
  go_wp2
  refine start_ (n := 14) (S := fun w' => w'.cell? ⟨w.heap.size, 0, none⟩ = some (.string (⟨#[111, 105, 108]⟩ : ByteArray)) ∧ w'.cell? ⟨w.heap.size, 1, none⟩ = some (.int .i64 2) ∧ w'.cell? ⟨w.heap.size, 2, none⟩ = some (.int .i64 20) ∧ w'.cell? ⟨w.heap.size, 3, none⟩ = some (.int .i64 50)) (ds := []) #[false, false, false, false, false, false, false, false, false, false, false, false, false, false] (by kernel_rfl) rfl rfl ⟨((blk_cell (blk_drew BS2.out) 0).trans rfl), ((blk_cell (blk_drew BS2.out) 1).trans rfl), ((blk_cell (blk_drew BS2.out) 2).trans rfl), ((blk_cell (blk_drew BS2.out) 3).trans rfl)⟩ (fun hHeld => ?_)
  refine pure_ (i := 0) (N := some 18) (v := ?_) (a' := ?_) #[true, false, false, false, false, false, false, false, false, false, false, false, false, false] rfl rfl (by kernel_rfl) (fun _ _ _ h => h) (Or.inl ⟨by rfl, ?_⟩) ?_ ?_
  rotate_left
  · intro w'
    go_simp
    with_reducible rfl
  rotate_left
  · simp only [Act.put, List.setIfInBounds_toArray, List.set_cons_zero, List.set_cons_succ, i64_w, i32_w]
    rfl
  refine pure_ (i := 2) (N := some 20) (v := ?_) (a' := ?_) #[true, false, true, false, false, false, false, false, false, false, false, false, false, false] rfl rfl (by kernel_rfl) (fun _ _ _ h => h) (Or.inl ⟨by rfl, ?_⟩) ?_ ?_
  rotate_left
  · intro w'
    go_simp
    with_reducible rfl
  rotate_left
  · simp only [Act.put, List.setIfInBounds_toArray, List.set_cons_zero, List.set_cons_succ, i64_w, i32_w]
    rfl
  refine pure_ (i := 3) (N := some 21) (v := ?_) (a' := ?_) #[true, false, true, true, false, false, false, false, false, false, false, false, false, false] rfl rfl (by kernel_rfl) (fun _ _ _ h => h) (Or.inl ⟨by rfl, ?_⟩) ?_ ?_
  rotate_left
  · intro w'
    go_simp
    with_reducible rfl
  rotate_left
  · simp only [Act.put, List.setIfInBounds_toArray, List.set_cons_zero, List.set_cons_succ, i64_w, i32_w]
    rfl
  refine pure_ (i := 4) (N := some 22) (v := ?_) (a' := ?_) #[true, false, true, true, true, false, false, false, false, false, false, false, false, false] rfl rfl (by kernel_rfl) (fun _ _ _ h => h) (Or.inl ⟨by rfl, ?_⟩) ?_ ?_
  rotate_left
  · intro w'
    go_simp
    with_reducible rfl
  rotate_left
  · simp only [Act.put, List.setIfInBounds_toArray, List.set_cons_zero, List.set_cons_succ, i64_w, i32_w]
    rfl
  refine take_ (i := 7) (N := some 25) (v := ?_) (a' := ?_) #[true, false, true, true, true, false, false, true, false, false, false, false, false, false] rfl rfl (by kernel_rfl) (fun _ _ _ h => h) (Or.inl ⟨by rfl, ?_⟩) hHeld ?_ ?_
  rotate_left
  · rintro w' ⟨s0, s1, s2, s3⟩
    go_simp
    with_reducible rfl
  rotate_left
  · simp only [Act.put, List.setIfInBounds_toArray, List.set_cons_zero, List.set_cons_succ, i64_w, i32_w]
    rfl
  refine one_ (i := 1) (N := some 19) #[true, true, true, true, true, false, false, true, false, false, false, false, false, false] rfl rfl (by kernel_rfl) (by decide) (fun K hK => ?_)
  refine goesV_ (enters_of Try.func33 (by kernel_rfl) rfl) #[.string ⟨#[97]⟩, .int .i64 2] (by rfl) rfl rfl (by rfl) (by simp only [List.map_toArray, List.map_cons, List.map_nil]; rfl) ?_
  refine (contangolaw51_goes.short (⟨#[111, 105, 108]⟩ : ByteArray) 2 20 50 w.heap.size ⟨#[97]⟩ 2 _ (blk_drew BS2.out)).mono ?_
  rintro _ w3 ⟨A1, c1, rfl, hc1, hC1, hb⟩
  refine ⟨_, rfl, ?_⟩
  have BS3 := Aside0.mk (blk_below (blk_drew BS2.out) hb)
  have HB3 := Aside0.mk (below_step (below_drew HB2.out) hb)
  have HC1 := Aside0.mk hC1
  have HL1 := Aside0.mk hc1
  clear hb hC1 hc1
  refine hK.out _ _ ⟨((blk_cell BS3.out 0).trans rfl), ((blk_cell BS3.out 1).trans rfl), ((blk_cell BS3.out 2).trans rfl), ((blk_cell BS3.out 3).trans rfl)⟩ (fun hHeld => ?_)
  clear hK K
  refine norm_ (a' := ?_) ?_ ?_
  rotate_left
  · show Act.put _ (some 19) _ = _
    simp only [Act.put, List.setIfInBounds_toArray, List.set_cons_zero, List.set_cons_succ, i64_w, i32_w]
    rfl
  refine one_ (i := 5) (N := some 23) #[true, true, true, true, true, true, false, true, false, false, false, false, false, false] rfl rfl (by kernel_rfl) (by decide) (fun K hK => ?_)
  refine goesV_ (enters_of Try.func33 (by kernel_rfl) rfl) #[.string ⟨#[100]⟩, .int .i64 6] (by rfl) rfl rfl (by rfl) (by simp only [List.map_toArray, List.map_cons, List.map_nil]; rfl) ?_
  refine (contangolaw51_goes.short (⟨#[111, 105, 108]⟩ : ByteArray) 2 20 50 w.heap.size ⟨#[100]⟩ 6 _ BS3.out).mono ?_
  rintro _ w4 ⟨A2, c2, rfl, hc2, hC2, hb⟩
  refine ⟨_, rfl, ?_⟩
  have BS4 := Aside0.mk (blk_below BS3.out hb)
  have HB4 := Aside0.mk (below_step HB3.out hb)
  have HC12 := Aside0.mk (Kd.C_below HC1.out hb)
  have HC2 := Aside0.mk hC2
  have HL2 := Aside0.mk hc2
  clear hb hC2 hc2
  refine hK.out _ _ ⟨((blk_cell BS4.out 0).trans rfl), ((blk_cell BS4.out 1).trans rfl), ((blk_cell BS4.out 2).trans rfl), ((blk_cell BS4.out 3).trans rfl)⟩ (fun hHeld => ?_)
  clear hK K
  refine norm_ (a' := ?_) ?_ ?_
  rotate_left
  · show Act.put _ (some 23) _ = _
    simp only [Act.put, List.setIfInBounds_toArray, List.set_cons_zero, List.set_cons_succ, i64_w, i32_w]
    rfl
  refine one_ (i := 6) (N := some 24) #[true, true, true, true, true, true, true, true, false, false, false, false, false, false] rfl rfl (by kernel_rfl) (by decide) (fun K hK => ?_)
  refine value_ (w1 := ?_) (v := ?_) (by rfl) rfl ?_ ?_
  rotate_left 2
  · go_simp
    constructor
    · rfl
    · rfl
  have BS5 := Aside0.mk (blk_alloc BS4.out (.cells ([.string ⟨#[97]⟩, .string ⟨#[120]⟩, .slice A1 1 c1, .string ⟨#[98]⟩, .string ⟨#[120]⟩, .slice none 0 0, .string ⟨#[100]⟩, .string ⟨#[120]⟩, .slice A2 1 c2] : List Value).toArray 47 (0, 0)))
  have HB5 := Aside0.mk (below_alloc HB4.out (.cells ([.string ⟨#[97]⟩, .string ⟨#[120]⟩, .slice A1 1 c1, .string ⟨#[98]⟩, .string ⟨#[120]⟩, .slice none 0 0, .string ⟨#[100]⟩, .string ⟨#[120]⟩, .slice A2 1 c2] : List Value).toArray 47 (0, 0)))
  have HBL := Aside0.mk (blk_new w4 (.cells ([.string ⟨#[97]⟩, .string ⟨#[120]⟩, .slice A1 1 c1, .string ⟨#[98]⟩, .string ⟨#[120]⟩, .slice none 0 0, .string ⟨#[100]⟩, .string ⟨#[120]⟩, .slice A2 1 c2] : List Value).toArray 47 (0, 0)))
  have HCL : Aside0 (Kd.C k47 (w4.alloc (.cells ([.string ⟨#[97]⟩, .string ⟨#[120]⟩, .slice A1 1 c1, .string ⟨#[98]⟩, .string ⟨#[120]⟩, .slice none 0 0, .string ⟨#[100]⟩, .string ⟨#[120]⟩, .slice A2 1 c2] : List Value).toArray 47 (0, 0))) (some ⟨w4.heap.size, 0, none⟩) 3 [⟨⟨⟨#[97]⟩, ⟨#[120]⟩⟩, [⟨⟨(⟨#[111, 105, 108]⟩ : ByteArray), 2, 20, 50⟩, 0, 2⟩]⟩, ⟨⟨⟨#[98]⟩, ⟨#[120]⟩⟩, []⟩, ⟨⟨⟨#[100]⟩, ⟨#[120]⟩⟩, [⟨⟨(⟨#[111, 105, 108]⟩ : ByteArray), 2, 20, 50⟩, 0, 6⟩]⟩]) := ⟨C_block k47 (xs := [⟨⟨⟨#[97]⟩, ⟨#[120]⟩⟩, [⟨⟨(⟨#[111, 105, 108]⟩ : ByteArray), 2, 20, 50⟩, 0, 2⟩]⟩, ⟨⟨⟨#[98]⟩, ⟨#[120]⟩⟩, []⟩, ⟨⟨⟨#[100]⟩, ⟨#[120]⟩⟩, [⟨⟨(⟨#[111, 105, 108]⟩ : ByteArray), 2, 20, 50⟩, 0, 6⟩]⟩]) HBL.out (((((Reps.none (k47.K (w4.alloc (.cells ([.string ⟨#[97]⟩, .string ⟨#[120]⟩, .slice A1 1 c1, .string ⟨#[98]⟩, .string ⟨#[120]⟩, .slice none 0 0, .string ⟨#[100]⟩, .string ⟨#[120]⟩, .slice A2 1 c2] : List Value).toArray 47 (0, 0)))) 3).snoc (p := (⟨⟨⟨#[97]⟩, ⟨#[120]⟩⟩, [⟨⟨(⟨#[111, 105, 108]⟩ : ByteArray), 2, 20, 50⟩, 0, 2⟩]⟩ : S47)) (k47_mk (w4.alloc (.cells ([.string ⟨#[97]⟩, .string ⟨#[120]⟩, .slice A1 1 c1, .string ⟨#[98]⟩, .string ⟨#[120]⟩, .slice none 0 0, .string ⟨#[100]⟩, .string ⟨#[120]⟩, .slice A2 1 c2] : List Value).toArray 47 (0, 0))) (⟨⟨⟨#[97]⟩, ⟨#[120]⟩⟩, [⟨⟨(⟨#[111, 105, 108]⟩ : ByteArray), 2, 20, 50⟩, 0, 2⟩]⟩ : S47) (A2 := A1) (c2 := c1) HL1.out (Kd.C_alloc HC12.out _)) rfl).snoc (p := (⟨⟨⟨#[98]⟩, ⟨#[120]⟩⟩, []⟩ : S47)) (k47_mk (w4.alloc (.cells ([.string ⟨#[97]⟩, .string ⟨#[120]⟩, .slice A1 1 c1, .string ⟨#[98]⟩, .string ⟨#[120]⟩, .slice none 0 0, .string ⟨#[100]⟩, .string ⟨#[120]⟩, .slice A2 1 c2] : List Value).toArray 47 (0, 0))) (⟨⟨⟨#[98]⟩, ⟨#[120]⟩⟩, []⟩ : S47) (A2 := none) (c2 := 0) (Nat.le_refl _) (Kd.C_nil _ _)) rfl).snoc (p := (⟨⟨⟨#[100]⟩, ⟨#[120]⟩⟩, [⟨⟨(⟨#[111, 105, 108]⟩ : ByteArray), 2, 20, 50⟩, 0, 6⟩]⟩ : S47)) (k47_mk (w4.alloc (.cells ([.string ⟨#[97]⟩, .string ⟨#[120]⟩, .slice A1 1 c1, .string ⟨#[98]⟩, .string ⟨#[120]⟩, .slice none 0 0, .string ⟨#[100]⟩, .string ⟨#[120]⟩, .slice A2 1 c2] : List Value).toArray 47 (0, 0))) (⟨⟨⟨#[100]⟩, ⟨#[120]⟩⟩, [⟨⟨(⟨#[111, 105, 108]⟩ : ByteArray), 2, 20, 50⟩, 0, 6⟩]⟩ : S47) (A2 := A2) (c2 := c2) HL2.out (Kd.C_alloc HC2.out _)) rfl)) (by decide)⟩
  refine hK.out _ _ ⟨((blk_cell BS5.out 0).trans rfl), ((blk_cell BS5.out 1).trans rfl), ((blk_cell BS5.out 2).trans rfl), ((blk_cell BS5.out 3).trans rfl)⟩ (fun hHeld => ?_)
  clear hK K
  refine norm_ (a' := ?_) ?_ ?_
  rotate_left
  · show Act.put _ (some 24) _ = _
    simp only [Act.put, List.setIfInBounds_toArray, List.set_cons_zero, List.set_cons_succ, i64_w, i32_w]
    rfl
  refine one_ (i := 8) (N := some 26) #[true, true, true, true, true, true, true, true, true, false, false, false, false, false] rfl rfl (by kernel_rfl) (by decide) (fun K hK => ?_)
  refine goes_ Try.func11 (by kernel_rfl) rfl #[.slice (some ⟨w4.heap.size, 0, none⟩) 3 3, .agg #[.string (⟨#[111, 105, 108]⟩ : ByteArray), .int .i64 2, .int .i64 20, .int .i64 50], .int .i64 5] (by rfl) rfl rfl (by simp only [List.map_toArray, List.map_cons, List.map_nil]; rfl) ?_
  refine (expiry_Assign.calls k (some ⟨w4.heap.size, 0, none⟩) 3 [⟨⟨⟨#[97]⟩, ⟨#[120]⟩⟩, [⟨⟨(⟨#[111, 105, 108]⟩ : ByteArray), 2, 20, 50⟩, 0, 2⟩]⟩, ⟨⟨⟨#[98]⟩, ⟨#[120]⟩⟩, []⟩, ⟨⟨⟨#[100]⟩, ⟨#[120]⟩⟩, [⟨⟨(⟨#[111, 105, 108]⟩ : ByteArray), 2, 20, 50⟩, 0, 6⟩]⟩] (⟨#[111, 105, 108]⟩ : ByteArray) 2 20 50 5 _ 0 _ HCL.out (by decide) HY.out).mono ?_
  rintro _ w6 ⟨v6, rfl, hR, hb⟩
  refine ⟨_, rfl, ?_⟩
  obtain ⟨A6, c6, e6⟩ := Kd.R_slice hR
  subst e6
  have HC6 := Aside0.mk (Kd.R_reads' hR).2.2
  have BS6 := Aside0.mk (blk_below BS5.out hb)
  have HB6 := Aside0.mk (below_step HB5.out hb)
  clear hR hb
  refine hK.out _ _ ⟨((blk_cell BS6.out 0).trans rfl), ((blk_cell BS6.out 1).trans rfl), ((blk_cell BS6.out 2).trans rfl), ((blk_cell BS6.out 3).trans rfl)⟩ (fun hHeld => ?_)
  clear hK K
  refine norm_ (a' := ?_) ?_ ?_
  rotate_left
  · show Act.put _ (some 26) _ = _
    simp only [Act.put, List.setIfInBounds_toArray, List.set_cons_zero, List.set_cons_succ, i64_w, i32_w]
    rfl
  refine pure_ (i := 9) (N := some 17) (v := ?_) (a' := ?_) #[true, true, true, true, true, true, true, true, true, true, false, false, false, false] rfl rfl (by kernel_rfl) (fun _ _ _ h => h) (Or.inl ⟨by rfl, ?_⟩) ?_ ?_
  rotate_left
  · intro w'
    go_simp
    with_reducible rfl
  rotate_left
  · simp only [Act.put, List.setIfInBounds_toArray, List.set_cons_zero, List.set_cons_succ, i64_w, i32_w]
    rfl
  refine pure_ (i := 10) (N := some 27) (v := ?_) (a' := ?_) #[true, true, true, true, true, true, true, true, true, true, true, false, false, false] rfl rfl (by kernel_rfl) (fun _ _ _ h => h) (Or.inl ⟨by rfl, ?_⟩) ?_ ?_
  rotate_left
  · intro w'
    go_simp
    with_reducible rfl
  rotate_left
  · simp only [Act.put, List.setIfInBounds_toArray, List.set_cons_zero, List.set_cons_succ, i64_w, i32_w]
    rfl
  refine pure_ (i := 11) (N := some 28) (v := ?_) (a' := ?_) #[true, true, true, true, true, true, true, true, true, true, true, true, false, false] rfl rfl (by kernel_rfl) (fun _ _ _ h => h) (Or.inl ⟨by rfl, ?_⟩) ?_ ?_
  rotate_left
  · intro w'
    go_simp
    with_reducible rfl
  rotate_left
  · simp only [Act.put, List.setIfInBounds_toArray, List.set_cons_zero, List.set_cons_succ, i64_w, i32_w]
    rfl
  refine pure_ (i := 12) (N := some 5) (v := ?_) (a' := ?_) #[true, true, true, true, true, true, true, true, true, true, true, true, true, false] rfl rfl (by kernel_rfl) (fun _ _ _ h => h) (Or.inl ⟨by rfl, ?_⟩) ?_ ?_
  rotate_left
  · intro w'
    go_simp
    with_reducible rfl
  rotate_left
  · simp only [Act.put, List.setIfInBounds_toArray, List.set_cons_zero, List.set_cons_succ, i64_w, i32_w]
    rfl
  refine pure_ (i := 13) (N := some 6) (v := ?_) (a' := ?_) #[true, true, true, true, true, true, true, true, true, true, true, true, true, true] rfl rfl (by kernel_rfl) (fun _ _ _ h => h) (Or.inl ⟨by rfl, ?_⟩) ?_ ?_
  rotate_left
  · intro w'
    go_simp
    with_reducible rfl
  rotate_left
  · simp only [Act.put, List.setIfInBounds_toArray, List.set_cons_zero, List.set_cons_succ, i64_w, i32_w]
    rfl
  refine done_ (by kernel_rfl) ?_
  obtain ⟨ad, ead, h0, h1, h2⟩ := at_T49 HC6.out 0 (by decide) (by simp)
  cases ead
  obtain ⟨ad2, ead2, g0, g1, g2⟩ := at_T49 HC6.out 1 (by decide) (by simp)
  cases ead2
  have hz : ad.add 0 = ad := by simp [Addr.add]
  have t1 : (1 : Int).toNat = 1 := rfl
  simp only [Int.toNat_zero, Nat.zero_mul, t1, Nat.one_mul, hz] at h0 h1 h2 g0 g1 g2
  clear hz t1
  have h0 : w6.cell? ad = some (.string p0) := h0
  have h2 : w6.cell? ⟨ad.block, ad.off + 2, none⟩ = some (.int .i64 1) := h2
  have g2 : w6.cell? ⟨(ad.add 3).block, (ad.add 3).off + 2, none⟩ = some (.int .i64 4) := g2
  have g3 : w6.cell? ⟨ad.block, ad.off + 3 + 2, none⟩ = some (.int .i64 4) := g2
  have g4 : w6.cell? ⟨ad.block, ad.off + 5, none⟩ = some (.int .i64 4) := g2
  have hs1 : (p0.toList == [97]) = true := HS1.out
  clear h1 g0 g1
  go_wp2
  go_ret
  exact ⟨rfl, HB6.out⟩

/-! ### contangolaw51_twice: function 12 -/
mutual
def contangolaw51_twice.l0 : Nat → List (S47) → Int → Option (Bool)
  | 0, _, _ => none
  | k + 1, x0, x3 => if x3 < (x0.length : Int) then (contangolaw51_twice.l1 k x0 x3 0) else (some false)
def contangolaw51_twice.l1 : Nat → List (S47) → Int → Int → Option (Bool)
  | 0, _, _, _ => none
  | k + 1, x0, x3, x4 => if x4 < x3 then (if 0 ≤ x3 then (if x3 < (x0.length : Int) then (if 0 ≤ x4 then (if x4 < (x0.length : Int) then (if (eqD44 ((rd_T47 x0 x3).f0.f0) ((rd_T47 x0 x4).f0.f0) ((rd_T47 x0 x3).f0.f1) ((rd_T47 x0 x4).f0.f1)) = true then (some true) else (contangolaw51_twice.l1 k x0 x3 (wrap64 (x4 + 1)))) else (none)) else (none)) else (none)) else (none)) else (contangolaw51_twice.l0 k x0 (wrap64 (x3 + 1)))
end
def contangolaw51_twice.f (k : Nat) (l0 : List (S47)) : Option (Bool) := contangolaw51_twice.l0 k l0 0
theorem contangolaw51_twice.mono_l : ∀ k, (∀ y0 y1, LeO (contangolaw51_twice.l0 k y0 y1) (contangolaw51_twice.l0 (k + 1) y0 y1)) ∧ (∀ y0 y1 y2, LeO (contangolaw51_twice.l1 k y0 y1 y2) (contangolaw51_twice.l1 (k + 1) y0 y1 y2))
  | 0 => ⟨fun _ _ r h => by simp [contangolaw51_twice.l0] at h, fun _ _ _ r h => by simp [contangolaw51_twice.l1] at h⟩
  | k + 1 => by
    obtain ⟨ih0, ih1⟩ := contangolaw51_twice.mono_l k
    refine ⟨?_, ?_⟩
    · intro y0 y1
      unfold contangolaw51_twice.l0
      repeat' first
      | (with_reducible exact ih0 _ _)
      | (with_reducible exact ih1 _ _ _)
      | (with_reducible exact LeO.refl _)
      | (with_reducible exact LeO.none _)
      | (with_reducible refine LeO.ite ?_ ?_)
      | (with_reducible refine LeO.bind ?_ (fun _ => ?_))
      | exact ih0 _ _
      | exact ih1 _ _ _
      | exact LeO.none _
      | refine LeO.ite ?_ ?_
      | refine LeO.bind ?_ (fun _ => ?_)
    · intro y0 y1 y2
      unfold contangolaw51_twice.l1
      repeat' first
      | (with_reducible exact ih0 _ _)
      | (with_reducible exact ih1 _ _ _)
      | (with_reducible exact LeO.refl _)
      | (with_reducible exact LeO.none _)
      | (with_reducible refine LeO.ite ?_ ?_)
      | (with_reducible refine LeO.bind ?_ (fun _ => ?_))
      | exact ih0 _ _
      | exact ih1 _ _ _
      | exact LeO.none _
      | refine LeO.ite ?_ ?_
      | refine LeO.bind ?_ (fun _ => ?_)
theorem contangolaw51_twice.mono : ∀ a0 k, LeO (contangolaw51_twice.f k a0) (contangolaw51_twice.f (k + 1) a0) := by
  intro a0 k
  obtain ⟨ih0, ih1⟩ := contangolaw51_twice.mono_l k
  unfold contangolaw51_twice.f
  repeat' first
      | (with_reducible exact ih0 _ _)
      | (with_reducible exact ih1 _ _ _)
      | (with_reducible exact LeO.refl _)
      | (with_reducible exact LeO.none _)
      | (with_reducible refine LeO.ite ?_ ?_)
      | (with_reducible refine LeO.bind ?_ (fun _ => ?_))
      | exact ih0 _ _
      | exact ih1 _ _ _
      | exact LeO.none _
      | refine LeO.ite ?_ ?_
      | refine LeO.bind ?_ (fun _ => ?_)
set_option maxHeartbeats 8000000 in
set_option maxRecDepth 100000 in
theorem contangolaw51_twice.calls (k : Nat) (A0 : Option Addr) (c0 : Nat) (l0 : List (S47)) (r : Bool) (w : World) (hr0 : Kd.C k47 w A0 l0.length l0) (hc0 : l0.length ≤ c0) (h : contangolaw51_twice.f k l0 = some r) :
    Calls Try.prog 12 #[.slice A0 l0.length c0] w fun e w' => e = .returned (.bool r) ∧ Drawn0 w w' := by
  have hu44 := Try.underlying44
  have HR0 := Aside0.mk hr0
  have HC0 := Aside0.mk hc0
  clear hr0 hc0
  have H : (contangolaw51_twice.l0 k l0 0) = some r := h
  clear h
  have H' := Aside0.mk H
  clear H
  go_enter Try.func12, Try.ntmps12
  go_wp2
  repeat (go_quiet (fail); try go_wp2)
  go_loopg [3] k (fun kq v3 w' => ∃ (x3_1 : Int), v3 = .int .i64 x3_1 ∧ Aside0 (contangolaw51_twice.l0 kq l0 x3_1 = some r) ∧ Aside0 (kq ≤ k) ∧ Drawn0 w w')
  case atStart => exact ⟨(0), (by first | rfl | (simp; done) | (simp [*]; done)), H', ⟨Nat.le_refl _⟩, by repeat (first | exact Drawn0.refl _ | apply Drawn0.step)⟩
  case round =>
    clear H'
    try clear c1
    obtain ⟨x3_1, rfl, HA, HK1, ⟨m1, rfl⟩⟩ := hrel
    cases gk with
    | zero => exact absurd HA.out (by simp [contangolaw51_twice.l0])
    | succ k1 =>
      have H := HA.out
      clear HA
      simp only [contangolaw51_twice.l0] at H
      by_cases c2 : x3_1 < (l0.length : Int)
      · rw [if_pos c2] at H
        have c2b0 : decide (x3_1 < (l0.length : Int)) = true := decide_eq_true c2
        clear c2
        have H' := Aside0.mk H
        clear H
        go_wp2
        repeat (go_quiet (fail); try go_wp2)
        go_loopg [4] k1 (fun kq v4 w' => ∃ (x4_2 : Int), v4 = .int .i64 x4_2 ∧ Aside0 (contangolaw51_twice.l1 kq l0 x3_1 x4_2 = some r) ∧ Aside0 (kq ≤ k1) ∧ Drawn0 w w')
        case atStart => exact ⟨(0), (by first | rfl | (simp; done) | (simp [*]; done)), H', ⟨Nat.le_refl _⟩, by repeat (first | exact Drawn0.refl _ | apply Drawn0.step)⟩
        case round =>
          clear H'
          try clear c1
          try clear c2
          try clear c2b0
          try clear p2
          obtain ⟨x4_2, rfl, HA, HK2, ⟨m2, rfl⟩⟩ := hrel
          cases gk with
          | zero => exact absurd HA.out (by simp [contangolaw51_twice.l1])
          | succ k2 =>
            have H := HA.out
            clear HA
            simp only [contangolaw51_twice.l1] at H
            by_cases c3 : x4_2 < x3_1
            · rw [if_pos c3] at H
              have c3b0 : decide (x4_2 < x3_1) = true := decide_eq_true c3
              clear c3
              by_cases c4 : 0 ≤ x3_1
              · rw [if_pos c4] at H
                have c4b0 : decide (0 ≤ x3_1) = true := decide_eq_true c4
                clear c4
                by_cases c5 : x3_1 < (l0.length : Int)
                · rw [if_pos c5] at H
                  have c5b0 : decide (x3_1 < (l0.length : Int)) = true := decide_eq_true c5
                  clear c5
                  by_cases c6 : 0 ≤ x4_2
                  · rw [if_pos c6] at H
                    have c6b0 : decide (0 ≤ x4_2) = true := decide_eq_true c6
                    clear c6
                    by_cases c7 : x4_2 < (l0.length : Int)
                    · rw [if_pos c7] at H
                      have c7b0 : decide (x4_2 < (l0.length : Int)) = true := decide_eq_true c7
                      clear c7
                      by_cases c8 : (eqD44 ((rd_T47 l0 x3_1).f0.f0) ((rd_T47 l0 x4_2).f0.f0) ((rd_T47 l0 x3_1).f0.f1) ((rd_T47 l0 x4_2).f0.f1)) = true
                      · rw [if_pos c8] at H
                        have c8b0 : (eqD44 ((rd_T47 l0 x3_1).f0.f0) ((rd_T47 l0 x4_2).f0.f0) ((rd_T47 l0 x3_1).f0.f1) ((rd_T47 l0 x4_2).f0.f1)) = true := c8
                        clear c8
                        obtain rfl := Option.some.inj H
                        have p154 : 0 ≤ (x3_1 : Int) := of_decide_eq_true (by first | (with_reducible assumption) | assumption)
                        have q154 : x3_1 < (l0.length : Int) := of_decide_eq_true (by first | (with_reducible assumption) | assumption)
                        obtain ⟨ad154, A154_2, c154_2, e154, hx154_0, hx154_1, hx154_2, hl154_2, hi154_2⟩ := at_T47 HR0.out x3_1 p154 q154
                        cases e154
                        have HR154_2 := Aside0.mk hi154_2
                        have HC154_2 := Aside0.mk hl154_2
                        clear hi154_2 hl154_2
                        replace p154 := eq_true p154
                        replace q154 := eq_true q154
                        have p155 : 0 ≤ (x4_2 : Int) := of_decide_eq_true (by first | (with_reducible assumption) | assumption)
                        have q155 : x4_2 < (l0.length : Int) := of_decide_eq_true (by first | (with_reducible assumption) | assumption)
                        obtain ⟨ad155, A155_2, c155_2, e155, hx155_0, hx155_1, hx155_2, hl155_2, hi155_2⟩ := at_T47 HR0.out x4_2 p155 q155
                        obtain rfl : ad154 = ad155 := (by injection e155)
                        have HR155_2 := Aside0.mk hi155_2
                        have HC155_2 := Aside0.mk hl155_2
                        clear hi155_2 hl155_2
                        replace p155 := eq_true p155
                        replace q155 := eq_true q155
                        go_wp2
                        repeat (go_quiet (fail); try go_wp2)
                        go_ret
                        exact ⟨by first | rfl | (simp; done) | (simp [*]; done), by repeat (first | exact Drawn0.refl _ | apply Drawn0.step)⟩
                      · rw [if_neg c8] at H
                        have c8b0 : (eqD44 ((rd_T47 l0 x3_1).f0.f0) ((rd_T47 l0 x4_2).f0.f0) ((rd_T47 l0 x3_1).f0.f1) ((rd_T47 l0 x4_2).f0.f1)) = false := by simpa using c8
                        clear c8
                        have H' := Aside0.mk H
                        clear H
                        have p154 : 0 ≤ (x3_1 : Int) := of_decide_eq_true (by first | (with_reducible assumption) | assumption)
                        have q154 : x3_1 < (l0.length : Int) := of_decide_eq_true (by first | (with_reducible assumption) | assumption)
                        obtain ⟨ad154, A154_2, c154_2, e154, hx154_0, hx154_1, hx154_2, hl154_2, hi154_2⟩ := at_T47 HR0.out x3_1 p154 q154
                        cases e154
                        have HR154_2 := Aside0.mk hi154_2
                        have HC154_2 := Aside0.mk hl154_2
                        clear hi154_2 hl154_2
                        replace p154 := eq_true p154
                        replace q154 := eq_true q154
                        have p155 : 0 ≤ (x4_2 : Int) := of_decide_eq_true (by first | (with_reducible assumption) | assumption)
                        have q155 : x4_2 < (l0.length : Int) := of_decide_eq_true (by first | (with_reducible assumption) | assumption)
                        obtain ⟨ad155, A155_2, c155_2, e155, hx155_0, hx155_1, hx155_2, hl155_2, hi155_2⟩ := at_T47 HR0.out x4_2 p155 q155
                        obtain rfl : ad154 = ad155 := (by injection e155)
                        have HR155_2 := Aside0.mk hi155_2
                        have HC155_2 := Aside0.mk hl155_2
                        clear hi155_2 hl155_2
                        replace p155 := eq_true p155
                        replace q155 := eq_true q155
                        go_wp2
                        repeat (go_quiet (fail); try go_wp2)
                        go_roundg k2
                        case measure => have := HK1.out; have := HK2.out; omega
                        case rel => exact ⟨(wrap64 (x4_2 + 1)), (by first | rfl | (simp; done) | (simp [*]; done)), H', ⟨by have := HK1.out; have := HK2.out; omega⟩, by repeat (first | exact Drawn0.refl _ | apply Drawn0.step)⟩
                    · rw [if_neg c7] at H
                      exact absurd H (by simp)
                  · rw [if_neg c6] at H
                    exact absurd H (by simp)
                · rw [if_neg c5] at H
                  exact absurd H (by simp)
              · rw [if_neg c4] at H
                exact absurd H (by simp)
            · rw [if_neg c3] at H
              have c3b0 : decide (x4_2 < x3_1) = false := decide_eq_false c3
              clear c3
              have H' := Aside0.mk H
              clear H
              go_wp2
              repeat (go_quiet (fail); try go_wp2)
              go_roundg k2
              case measure => have := HK1.out; have := HK2.out; omega
              case rel => exact ⟨(wrap64 (x3_1 + 1)), (by first | rfl | (simp; done) | (simp [*]; done)), H', ⟨by have := HK1.out; have := HK2.out; omega⟩, by repeat (first | exact Drawn0.refl _ | apply Drawn0.step)⟩
      · rw [if_neg c2] at H
        have c2b0 : decide (x3_1 < (l0.length : Int)) = false := decide_eq_false c2
        clear c2
        obtain rfl := Option.some.inj H
        go_wp2
        repeat (go_quiet (fail); try go_wp2)
        go_ret
        exact ⟨by first | rfl | (simp; done) | (simp [*]; done), by repeat (first | exact Drawn0.refl _ | apply Drawn0.step)⟩

/-! ### contangoref15_Find: function 13 -/
def contangoref15_Find.l0 : Nat → List (S27) → Int → ByteArray → Int → Int → Int → Option (ByteArray × Int × Int × Int × Int × Int)
  | 0, _, _, _, _, _, _ => none
  | k + 1, x0, x5, x157000, x157001, x157002, x157003 => if x5 < (x0.length : Int) then (if 0 ≤ x5 then (if (eqD25 ((rd_T27 x0 x5).f0.f0) x157000 ((rd_T27 x0 x5).f0.f1) x157001 ((rd_T27 x0 x5).f0.f2) x157002 ((rd_T27 x0 x5).f0.f3) x157003) = true then (some ((rd_T27 x0 x5).f0.f0, (rd_T27 x0 x5).f0.f1, (rd_T27 x0 x5).f0.f2, (rd_T27 x0 x5).f0.f3, (rd_T27 x0 x5).f1, (rd_T27 x0 x5).f2)) else (contangoref15_Find.l0 k x0 (wrap64 (x5 + 1)) x157000 x157001 x157002 x157003)) else (none)) else (some (x157000, x157001, x157002, x157003, 0, 0))
def contangoref15_Find.f (k : Nat) (l0 : List (S27)) (a1_0 : ByteArray) (a1_1 : Int) (a1_2 : Int) (a1_3 : Int) : Option (ByteArray × Int × Int × Int × Int × Int) := contangoref15_Find.l0 k l0 0 a1_0 a1_1 a1_2 a1_3
theorem contangoref15_Find.mono_l : ∀ k, (∀ y0 y1 y2 y3 y4 y5, LeO (contangoref15_Find.l0 k y0 y1 y2 y3 y4 y5) (contangoref15_Find.l0 (k + 1) y0 y1 y2 y3 y4 y5))
  | 0 => fun _ _ _ _ _ _ r h => by simp [contangoref15_Find.l0] at h
  | k + 1 => by
    have ih0 := contangoref15_Find.mono_l k
    · intro y0 y1 y2 y3 y4 y5
      unfold contangoref15_Find.l0
      repeat' first
      | (with_reducible exact ih0 _ _ _ _ _ _)
      | (with_reducible exact LeO.refl _)
      | (with_reducible exact LeO.none _)
      | (with_reducible refine LeO.ite ?_ ?_)
      | (with_reducible refine LeO.bind ?_ (fun _ => ?_))
      | exact ih0 _ _ _ _ _ _
      | exact LeO.none _
      | refine LeO.ite ?_ ?_
      | refine LeO.bind ?_ (fun _ => ?_)
theorem contangoref15_Find.mono : ∀ a0 a1 a2 a3 a4 k, LeO (contangoref15_Find.f k a0 a1 a2 a3 a4) (contangoref15_Find.f (k + 1) a0 a1 a2 a3 a4) := by
  intro a0 a1 a2 a3 a4 k
  have ih0 := contangoref15_Find.mono_l k
  unfold contangoref15_Find.f
  repeat' first
      | (with_reducible exact ih0 _ _ _ _ _ _)
      | (with_reducible exact LeO.refl _)
      | (with_reducible exact LeO.none _)
      | (with_reducible refine LeO.ite ?_ ?_)
      | (with_reducible refine LeO.bind ?_ (fun _ => ?_))
      | exact ih0 _ _ _ _ _ _
      | exact LeO.none _
      | refine LeO.ite ?_ ?_
      | refine LeO.bind ?_ (fun _ => ?_)
set_option maxHeartbeats 8000000 in
set_option maxRecDepth 100000 in
theorem contangoref15_Find.calls (k : Nat) (A0 : Option Addr) (c0 : Nat) (l0 : List (S27)) (a1_0 : ByteArray) (a1_1 : Int) (a1_2 : Int) (a1_3 : Int) (r1 : ByteArray) (r2 : Int) (r3 : Int) (r4 : Int) (r5 : Int) (r6 : Int) (w : World) (hr0 : Kd.C k27 w A0 l0.length l0) (hc0 : l0.length ≤ c0) (h : contangoref15_Find.f k l0 a1_0 a1_1 a1_2 a1_3 = some (r1, r2, r3, r4, r5, r6)) :
    Calls Try.prog 13 #[.slice A0 l0.length c0, .agg #[.string a1_0, .int .i64 a1_1, .int .i64 a1_2, .int .i64 a1_3]] w fun e w' => e = .returned (.agg #[.string r1, .int .i64 r2, .int .i64 r3, .int .i64 r4, .int .i64 r5, .int .i64 r6]) ∧ Below w.heap.size w w' := by
  have hu25 := Try.underlying25
  have hu27 := Try.underlying27
  have HR0 := Aside0.mk hr0
  have HC0 := Aside0.mk hc0
  clear hr0 hc0
  have HB := Aside0.mk (Below.refl w.heap.size w)
  have H : (contangoref15_Find.l0 k l0 0 a1_0 a1_1 a1_2 a1_3) = some (r1, r2, r3, r4, r5, r6) := h
  clear h
  have H' := Aside0.mk H
  clear H
  go_enter Try.func13, Try.ntmps13
  go_wp2_with (first | ((with_reducible refine gate_dst (N := 3) rfl ?_); refine box_event ?hg (N := 3) ?hd (cs := #[.string a1_0, .int .i64 a1_1, .int .i64 a1_2, .int .i64 a1_3]) (t := 25) ?hr ?_; (case hd => rfl); (case hg => rfl); (case hr => first | (go_simp; done) | (go_simp; rfl)); intro gb156 hg w3 hbox hb; have n0_ := Aside0.mk (below_step (by repeat (first | (with_reducible first | exact HB.out | apply below_alloc | apply pw_below_drewN | apply below_drew1) | exact HB.out)) hb); have n1_ := Aside0.mk (hbox); have n2_ := Aside0.mk ((by rw [hg]; exact (below_size (by repeat (first | (with_reducible first | exact HB.out | apply below_alloc | apply pw_below_drewN | apply below_drew1) | exact HB.out))) : w.heap.size ≤ gb156)); have n3_ := Aside0.mk ((by rw [hg]; exact (below_size (by repeat (first | (with_reducible first | exact HB.out | apply below_alloc | apply pw_below_drewN | apply below_drew1) | exact HB.out))) : w.heap.size ≤ gb156)); clear HB; have HB := n0_; have BK156 := n1_; have GW156 := n2_; have GE156 := n3_; clear n0_ n1_ n2_ n3_; clear hb hbox hg) | ((with_reducible refine gate_dst (N := 4) rfl ?_); refine box_event ?hg (N := 4) ?hd (cs := #[.string (⟨#[]⟩ : ByteArray), .int .i64 0, .int .i64 0, .int .i64 0, .int .i64 0, .int .i64 0]) (t := 27) ?hr ?_; (case hd => rfl); (case hg => rfl); (case hr => first | (go_simp; done) | (go_simp; rfl)); intro gb157 hg w4 hbox hb; have n0_ := Aside0.mk (blk_below (g := gb156) (o := .cells #[.string a1_0, .int .i64 a1_1, .int .i64 a1_2, .int .i64 a1_3] 25 (0, 0)) (by (with_reducible repeat (first | refine blk_drewN ?_ _ | refine blk_drew ?_ | refine blk_alloc ?_ _)); exact BK156.out) hb); have n1_ := Aside0.mk (below_step (by repeat (first | (with_reducible first | exact HB.out | apply below_alloc | apply pw_below_drewN | apply below_drew1 | refine below_set ?_ GE156.out) | exact HB.out)) hb); have n2_ := Aside0.mk (hbox); have n3_ := Aside0.mk ((by rw [hg]; exact (below_size (by repeat (first | (with_reducible first | exact HB.out | apply below_alloc | apply pw_below_drewN | apply below_drew1 | refine below_set ?_ GE156.out) | exact HB.out))) : w.heap.size ≤ gb157)); have n4_ := Aside0.mk ((by rw [hg]; exact (below_size (by repeat (first | (with_reducible first | exact HB.out | apply below_alloc | apply pw_below_drewN | apply below_drew1 | refine below_set ?_ GE156.out) | exact HB.out))) : w.heap.size ≤ gb157)); have n5_ := Aside0.mk ((by rw [hg]; exact Nat.ne_of_lt (blk_lt (g := gb156) (o := .cells #[.string a1_0, .int .i64 a1_1, .int .i64 a1_2, .int .i64 a1_3] 25 (0, 0)) (by (with_reducible repeat (first | refine blk_drewN ?_ _ | refine blk_drew ?_ | refine blk_alloc ?_ _)); exact BK156.out)) : gb156 ≠ gb157)); have n6_ := Aside0.mk ((by rw [hg]; exact Nat.ne_of_gt (blk_lt (g := gb156) (o := .cells #[.string a1_0, .int .i64 a1_1, .int .i64 a1_2, .int .i64 a1_3] 25 (0, 0)) (by (with_reducible repeat (first | refine blk_drewN ?_ _ | refine blk_drew ?_ | refine blk_alloc ?_ _)); exact BK156.out)) : gb157 ≠ gb156)); clear BK156; clear HB; have BK156 := n0_; have HB := n1_; have BK157 := n2_; have GW157 := n3_; have GE157 := n4_; have NB156_157 := n5_; have NB157_156 := n6_; clear n0_ n1_ n2_ n3_ n4_ n5_ n6_; clear hb hbox hg))
  repeat (go_quiet (first | ((with_reducible refine gate_dst (N := 3) rfl ?_); refine box_event ?hg (N := 3) ?hd (cs := #[.string a1_0, .int .i64 a1_1, .int .i64 a1_2, .int .i64 a1_3]) (t := 25) ?hr ?_; (case hd => rfl); (case hg => rfl); (case hr => first | (go_simp; done) | (go_simp; rfl)); intro gb156 hg w3 hbox hb; have n0_ := Aside0.mk (below_step (by repeat (first | (with_reducible first | exact HB.out | apply below_alloc | apply pw_below_drewN | apply below_drew1) | exact HB.out)) hb); have n1_ := Aside0.mk (hbox); have n2_ := Aside0.mk ((by rw [hg]; exact (below_size (by repeat (first | (with_reducible first | exact HB.out | apply below_alloc | apply pw_below_drewN | apply below_drew1) | exact HB.out))) : w.heap.size ≤ gb156)); have n3_ := Aside0.mk ((by rw [hg]; exact (below_size (by repeat (first | (with_reducible first | exact HB.out | apply below_alloc | apply pw_below_drewN | apply below_drew1) | exact HB.out))) : w.heap.size ≤ gb156)); clear HB; have HB := n0_; have BK156 := n1_; have GW156 := n2_; have GE156 := n3_; clear n0_ n1_ n2_ n3_; clear hb hbox hg) | ((with_reducible refine gate_dst (N := 4) rfl ?_); refine box_event ?hg (N := 4) ?hd (cs := #[.string (⟨#[]⟩ : ByteArray), .int .i64 0, .int .i64 0, .int .i64 0, .int .i64 0, .int .i64 0]) (t := 27) ?hr ?_; (case hd => rfl); (case hg => rfl); (case hr => first | (go_simp; done) | (go_simp; rfl)); intro gb157 hg w4 hbox hb; have n0_ := Aside0.mk (blk_below (g := gb156) (o := .cells #[.string a1_0, .int .i64 a1_1, .int .i64 a1_2, .int .i64 a1_3] 25 (0, 0)) (by (with_reducible repeat (first | refine blk_drewN ?_ _ | refine blk_drew ?_ | refine blk_alloc ?_ _)); exact BK156.out) hb); have n1_ := Aside0.mk (below_step (by repeat (first | (with_reducible first | exact HB.out | apply below_alloc | apply pw_below_drewN | apply below_drew1 | refine below_set ?_ GE156.out) | exact HB.out)) hb); have n2_ := Aside0.mk (hbox); have n3_ := Aside0.mk ((by rw [hg]; exact (below_size (by repeat (first | (with_reducible first | exact HB.out | apply below_alloc | apply pw_below_drewN | apply below_drew1 | refine below_set ?_ GE156.out) | exact HB.out))) : w.heap.size ≤ gb157)); have n4_ := Aside0.mk ((by rw [hg]; exact (below_size (by repeat (first | (with_reducible first | exact HB.out | apply below_alloc | apply pw_below_drewN | apply below_drew1 | refine below_set ?_ GE156.out) | exact HB.out))) : w.heap.size ≤ gb157)); have n5_ := Aside0.mk ((by rw [hg]; exact Nat.ne_of_lt (blk_lt (g := gb156) (o := .cells #[.string a1_0, .int .i64 a1_1, .int .i64 a1_2, .int .i64 a1_3] 25 (0, 0)) (by (with_reducible repeat (first | refine blk_drewN ?_ _ | refine blk_drew ?_ | refine blk_alloc ?_ _)); exact BK156.out)) : gb156 ≠ gb157)); have n6_ := Aside0.mk ((by rw [hg]; exact Nat.ne_of_gt (blk_lt (g := gb156) (o := .cells #[.string a1_0, .int .i64 a1_1, .int .i64 a1_2, .int .i64 a1_3] 25 (0, 0)) (by (with_reducible repeat (first | refine blk_drewN ?_ _ | refine blk_drew ?_ | refine blk_alloc ?_ _)); exact BK156.out)) : gb157 ≠ gb156)); clear BK156; clear HB; have BK156 := n0_; have HB := n1_; have BK157 := n2_; have GW157 := n3_; have GE157 := n4_; have NB156_157 := n5_; have NB157_156 := n6_; clear n0_ n1_ n2_ n3_ n4_ n5_ n6_; clear hb hbox hg)); try go_wp2_with (first | ((with_reducible refine gate_dst (N := 3) rfl ?_); refine box_event ?hg (N := 3) ?hd (cs := #[.string a1_0, .int .i64 a1_1, .int .i64 a1_2, .int .i64 a1_3]) (t := 25) ?hr ?_; (case hd => rfl); (case hg => rfl); (case hr => first | (go_simp; done) | (go_simp; rfl)); intro gb156 hg w3 hbox hb; have n0_ := Aside0.mk (below_step (by repeat (first | (with_reducible first | exact HB.out | apply below_alloc | apply pw_below_drewN | apply below_drew1) | exact HB.out)) hb); have n1_ := Aside0.mk (hbox); have n2_ := Aside0.mk ((by rw [hg]; exact (below_size (by repeat (first | (with_reducible first | exact HB.out | apply below_alloc | apply pw_below_drewN | apply below_drew1) | exact HB.out))) : w.heap.size ≤ gb156)); have n3_ := Aside0.mk ((by rw [hg]; exact (below_size (by repeat (first | (with_reducible first | exact HB.out | apply below_alloc | apply pw_below_drewN | apply below_drew1) | exact HB.out))) : w.heap.size ≤ gb156)); clear HB; have HB := n0_; have BK156 := n1_; have GW156 := n2_; have GE156 := n3_; clear n0_ n1_ n2_ n3_; clear hb hbox hg) | ((with_reducible refine gate_dst (N := 4) rfl ?_); refine box_event ?hg (N := 4) ?hd (cs := #[.string (⟨#[]⟩ : ByteArray), .int .i64 0, .int .i64 0, .int .i64 0, .int .i64 0, .int .i64 0]) (t := 27) ?hr ?_; (case hd => rfl); (case hg => rfl); (case hr => first | (go_simp; done) | (go_simp; rfl)); intro gb157 hg w4 hbox hb; have n0_ := Aside0.mk (blk_below (g := gb156) (o := .cells #[.string a1_0, .int .i64 a1_1, .int .i64 a1_2, .int .i64 a1_3] 25 (0, 0)) (by (with_reducible repeat (first | refine blk_drewN ?_ _ | refine blk_drew ?_ | refine blk_alloc ?_ _)); exact BK156.out) hb); have n1_ := Aside0.mk (below_step (by repeat (first | (with_reducible first | exact HB.out | apply below_alloc | apply pw_below_drewN | apply below_drew1 | refine below_set ?_ GE156.out) | exact HB.out)) hb); have n2_ := Aside0.mk (hbox); have n3_ := Aside0.mk ((by rw [hg]; exact (below_size (by repeat (first | (with_reducible first | exact HB.out | apply below_alloc | apply pw_below_drewN | apply below_drew1 | refine below_set ?_ GE156.out) | exact HB.out))) : w.heap.size ≤ gb157)); have n4_ := Aside0.mk ((by rw [hg]; exact (below_size (by repeat (first | (with_reducible first | exact HB.out | apply below_alloc | apply pw_below_drewN | apply below_drew1 | refine below_set ?_ GE156.out) | exact HB.out))) : w.heap.size ≤ gb157)); have n5_ := Aside0.mk ((by rw [hg]; exact Nat.ne_of_lt (blk_lt (g := gb156) (o := .cells #[.string a1_0, .int .i64 a1_1, .int .i64 a1_2, .int .i64 a1_3] 25 (0, 0)) (by (with_reducible repeat (first | refine blk_drewN ?_ _ | refine blk_drew ?_ | refine blk_alloc ?_ _)); exact BK156.out)) : gb156 ≠ gb157)); have n6_ := Aside0.mk ((by rw [hg]; exact Nat.ne_of_gt (blk_lt (g := gb156) (o := .cells #[.string a1_0, .int .i64 a1_1, .int .i64 a1_2, .int .i64 a1_3] 25 (0, 0)) (by (with_reducible repeat (first | refine blk_drewN ?_ _ | refine blk_drew ?_ | refine blk_alloc ?_ _)); exact BK156.out)) : gb157 ≠ gb156)); clear BK156; clear HB; have BK156 := n0_; have HB := n1_; have BK157 := n2_; have GW157 := n3_; have GE157 := n4_; have NB156_157 := n5_; have NB157_156 := n6_; clear n0_ n1_ n2_ n3_ n4_ n5_ n6_; clear hb hbox hg)))
  go_loopg [5] k (fun kq v5 w' => ∃ (x5_1 : Int) (x158000_1 : ByteArray) (x158001_1 : Int) (x158002_1 : Int) (x158003_1 : Int) (x158004_1 : Int) (x158005_1 : Int), v5 = .int .i64 x5_1 ∧ Aside0 (contangoref15_Find.l0 kq l0 x5_1 a1_0 a1_1 a1_2 a1_3 = some (r1, r2, r3, r4, r5, r6)) ∧ Aside0 (kq ≤ k) ∧ Aside0 (w'.heap[gb156]? = some (.cells #[.string a1_0, .int .i64 a1_1, .int .i64 a1_2, .int .i64 a1_3] 25 (0, 0))) ∧ Aside0 (w'.heap[gb157]? = some (.cells #[.string x158000_1, .int .i64 x158001_1, .int .i64 x158002_1, .int .i64 x158003_1, .int .i64 x158004_1, .int .i64 x158005_1] 27 (0, 0))) ∧ Aside0 (Below w.heap.size w w'))
  case atStart => exact ⟨(0), ((⟨#[]⟩ : ByteArray)), (0), (0), (0), (0), (0), (by first | rfl | (simp; done) | (simp [*]; done)), H', ⟨Nat.le_refl _⟩, ⟨by (with_reducible repeat (first | refine blk_drewN ?_ _ | refine blk_drew ?_ | refine blk_alloc ?_ _)); exact BK156.out⟩, ⟨by (with_reducible repeat (first | refine blk_drewN ?_ _ | refine blk_drew ?_ | refine blk_alloc ?_ _)); exact BK157.out⟩, ⟨by repeat (first | (with_reducible first | exact HB.out | apply below_alloc | apply pw_below_drewN | apply below_drew1 | refine below_set ?_ GE156.out | refine below_set ?_ GE157.out) | exact HB.out)⟩⟩
  case round =>
    clear H'
    try clear c1
    try clear p2
    obtain ⟨x5_1, x158000_1, x158001_1, x158002_1, x158003_1, x158004_1, x158005_1, rfl, HA, HK1, BK156, BK157, HB⟩ := hrel
    cases gk with
    | zero => exact absurd HA.out (by simp [contangoref15_Find.l0])
    | succ k1 =>
      have H := HA.out
      clear HA
      simp only [contangoref15_Find.l0] at H
      by_cases c5 : x5_1 < (l0.length : Int)
      · rw [if_pos c5] at H
        have c5b0 : decide (x5_1 < (l0.length : Int)) = true := decide_eq_true c5
        clear c5
        by_cases c6 : 0 ≤ x5_1
        · rw [if_pos c6] at H
          have c6b0 : decide (0 ≤ x5_1) = true := decide_eq_true c6
          clear c6
          by_cases c7 : (eqD25 ((rd_T27 l0 x5_1).f0.f0) a1_0 ((rd_T27 l0 x5_1).f0.f1) a1_1 ((rd_T27 l0 x5_1).f0.f2) a1_2 ((rd_T27 l0 x5_1).f0.f3) a1_3) = true
          · rw [if_pos c7] at H
            have c7b0 : (eqD25 ((rd_T27 l0 x5_1).f0.f0) a1_0 ((rd_T27 l0 x5_1).f0.f1) a1_1 ((rd_T27 l0 x5_1).f0.f2) a1_2 ((rd_T27 l0 x5_1).f0.f3) a1_3) = true := c7
            clear c7
            simp only [Option.some.injEq, Prod.mk.injEq] at H
            obtain ⟨rfl, rfl, rfl, rfl, rfl, rfl⟩ := H
            have p158 : 0 ≤ (x5_1 : Int) := of_decide_eq_true (by first | (with_reducible assumption) | assumption)
            have q158 : x5_1 < (l0.length : Int) := of_decide_eq_true (by first | (with_reducible assumption) | assumption)
            obtain ⟨ad158, e158, hx158_0, hx158_1, hx158_2, hx158_3, hx158_4, hx158_5⟩ := at_T27 HR0.out x5_1 p158 q158
            cases e158
            replace hx158_0 := (HB.out.cell (World.block_lt_of_cell? w _ hx158_0)).trans hx158_0
            replace hx158_1 := (HB.out.cell (World.block_lt_of_cell? w _ hx158_1)).trans hx158_1
            replace hx158_2 := (HB.out.cell (World.block_lt_of_cell? w _ hx158_2)).trans hx158_2
            replace hx158_3 := (HB.out.cell (World.block_lt_of_cell? w _ hx158_3)).trans hx158_3
            replace hx158_4 := (HB.out.cell (World.block_lt_of_cell? w _ hx158_4)).trans hx158_4
            replace hx158_5 := (HB.out.cell (World.block_lt_of_cell? w _ hx158_5)).trans hx158_5
            replace p158 := eq_true p158
            replace q158 := eq_true q158
            have hnb8 := NB156_157.out
            have hnc8 := NB157_156.out
            have hcz9_0 : wr.cell? ⟨gb156, 0, none⟩ = some (.string a1_0) := (blk_cell BK156.out 0).trans rfl
            have hcz9_1 : wr.cell? ⟨gb156, 1, none⟩ = some (.int .i64 a1_1) := (blk_cell BK156.out 1).trans rfl
            have hcz9_2 : wr.cell? ⟨gb156, 2, none⟩ = some (.int .i64 a1_2) := (blk_cell BK156.out 2).trans rfl
            have hcz9_3 : wr.cell? ⟨gb156, 3, none⟩ = some (.int .i64 a1_3) := (blk_cell BK156.out 3).trans rfl
            have hfz9_0 := blk_frozen BK156.out 0
            have hfz9_1 := blk_frozen BK156.out 1
            have hfz9_2 := blk_frozen BK156.out 2
            have hfz9_3 := blk_frozen BK156.out 3
            have p159 : 0 ≤ (x5_1 : Int) := of_decide_eq_true (by first | (with_reducible assumption) | assumption)
            have q159 : x5_1 < (l0.length : Int) := of_decide_eq_true (by first | (with_reducible assumption) | assumption)
            obtain ⟨ad159, e159, hx159_0, hx159_1, hx159_2, hx159_3, hx159_4, hx159_5⟩ := at_T27 HR0.out x5_1 p159 q159
            obtain rfl : ad158 = ad159 := (by injection e159)
            replace hx159_0 := (HB.out.cell (World.block_lt_of_cell? w _ hx159_0)).trans hx159_0
            replace hx159_1 := (HB.out.cell (World.block_lt_of_cell? w _ hx159_1)).trans hx159_1
            replace hx159_2 := (HB.out.cell (World.block_lt_of_cell? w _ hx159_2)).trans hx159_2
            replace hx159_3 := (HB.out.cell (World.block_lt_of_cell? w _ hx159_3)).trans hx159_3
            replace hx159_4 := (HB.out.cell (World.block_lt_of_cell? w _ hx159_4)).trans hx159_4
            replace hx159_5 := (HB.out.cell (World.block_lt_of_cell? w _ hx159_5)).trans hx159_5
            replace p159 := eq_true p159
            replace q159 := eq_true q159
            have hcz10_0 : wr.cell? ⟨gb157, 0, none⟩ = some (.string x158000_1) := (blk_cell BK157.out 0).trans rfl
            have hcz10_1 : wr.cell? ⟨gb157, 1, none⟩ = some (.int .i64 x158001_1) := (blk_cell BK157.out 1).trans rfl
            have hcz10_2 : wr.cell? ⟨gb157, 2, none⟩ = some (.int .i64 x158002_1) := (blk_cell BK157.out 2).trans rfl
            have hcz10_3 : wr.cell? ⟨gb157, 3, none⟩ = some (.int .i64 x158003_1) := (blk_cell BK157.out 3).trans rfl
            have hcz10_4 : wr.cell? ⟨gb157, 4, none⟩ = some (.int .i64 x158004_1) := (blk_cell BK157.out 4).trans rfl
            have hcz10_5 : wr.cell? ⟨gb157, 5, none⟩ = some (.int .i64 x158005_1) := (blk_cell BK157.out 5).trans rfl
            have hfz10_0 := blk_frozen BK157.out 0
            have hfz10_1 := blk_frozen BK157.out 1
            have hfz10_2 := blk_frozen BK157.out 2
            have hfz10_3 := blk_frozen BK157.out 3
            have hfz10_4 := blk_frozen BK157.out 4
            have hfz10_5 := blk_frozen BK157.out 5
            go_wp2
            repeat (go_quiet (fail); try go_wp2)
            refine bodyPost_ret (results_cell_row rfl _ _ gb157 27 #[.string ((rd_T27 l0 x5_1).f0.f0), .int .i64 ((rd_T27 l0 x5_1).f0.f1), .int .i64 ((rd_T27 l0 x5_1).f0.f2), .int .i64 ((rd_T27 l0 x5_1).f0.f3), .int .i64 ((rd_T27 l0 x5_1).f1), .int .i64 ((rd_T27 l0 x5_1).f2)] (0, 0) _ rfl (by (with_reducible repeat (first | refine blk_drewN ?_ _ | refine blk_drew ?_ | refine blk_alloc ?_ _)); refine blk_put (cs := #[.string ((rd_T27 l0 x5_1).f0.f0), .int .i64 ((rd_T27 l0 x5_1).f0.f1), .int .i64 ((rd_T27 l0 x5_1).f0.f2), .int .i64 ((rd_T27 l0 x5_1).f0.f3), .int .i64 ((rd_T27 l0 x5_1).f1), .int .i64 x158005_1]) ?_ 5 _ rfl; (with_reducible repeat (first | refine blk_drewN ?_ _ | refine blk_drew ?_ | refine blk_alloc ?_ _)); refine blk_put (cs := #[.string ((rd_T27 l0 x5_1).f0.f0), .int .i64 ((rd_T27 l0 x5_1).f0.f1), .int .i64 ((rd_T27 l0 x5_1).f0.f2), .int .i64 ((rd_T27 l0 x5_1).f0.f3), .int .i64 x158004_1, .int .i64 x158005_1]) ?_ 4 _ rfl; (with_reducible repeat (first | refine blk_drewN ?_ _ | refine blk_drew ?_ | refine blk_alloc ?_ _)); refine blk_put (cs := #[.string ((rd_T27 l0 x5_1).f0.f0), .int .i64 ((rd_T27 l0 x5_1).f0.f1), .int .i64 ((rd_T27 l0 x5_1).f0.f2), .int .i64 x158003_1, .int .i64 x158004_1, .int .i64 x158005_1]) ?_ 3 _ rfl; (with_reducible repeat (first | refine blk_drewN ?_ _ | refine blk_drew ?_ | refine blk_alloc ?_ _)); refine blk_put (cs := #[.string ((rd_T27 l0 x5_1).f0.f0), .int .i64 ((rd_T27 l0 x5_1).f0.f1), .int .i64 x158002_1, .int .i64 x158003_1, .int .i64 x158004_1, .int .i64 x158005_1]) ?_ 2 _ rfl; (with_reducible repeat (first | refine blk_drewN ?_ _ | refine blk_drew ?_ | refine blk_alloc ?_ _)); refine blk_put (cs := #[.string ((rd_T27 l0 x5_1).f0.f0), .int .i64 x158001_1, .int .i64 x158002_1, .int .i64 x158003_1, .int .i64 x158004_1, .int .i64 x158005_1]) ?_ 1 _ rfl; (with_reducible repeat (first | refine blk_drewN ?_ _ | refine blk_drew ?_ | refine blk_alloc ?_ _)); refine blk_put (cs := #[.string x158000_1, .int .i64 x158001_1, .int .i64 x158002_1, .int .i64 x158003_1, .int .i64 x158004_1, .int .i64 x158005_1]) ?_ 0 _ rfl; (with_reducible repeat (first | refine blk_drewN ?_ _ | refine blk_drew ?_ | refine blk_alloc ?_ _)); exact BK157.out) Try.underlying27 rfl (by kernel_rfl)) rfl ?_
            exact ⟨by first | rfl | (simp [errW_none, errW_some] <;> rfl) | (simp [*, errW_none, errW_some] <;> rfl), by repeat (first | (with_reducible first | exact HB.out | apply below_alloc | apply pw_below_drewN | apply below_drew1 | refine below_set ?_ GE156.out | refine below_set ?_ GE157.out) | exact HB.out)⟩
          · rw [if_neg c7] at H
            have c7b0 : (eqD25 ((rd_T27 l0 x5_1).f0.f0) a1_0 ((rd_T27 l0 x5_1).f0.f1) a1_1 ((rd_T27 l0 x5_1).f0.f2) a1_2 ((rd_T27 l0 x5_1).f0.f3) a1_3) = false := by simpa using c7
            clear c7
            have H' := Aside0.mk H
            clear H
            have p158 : 0 ≤ (x5_1 : Int) := of_decide_eq_true (by first | (with_reducible assumption) | assumption)
            have q158 : x5_1 < (l0.length : Int) := of_decide_eq_true (by first | (with_reducible assumption) | assumption)
            obtain ⟨ad158, e158, hx158_0, hx158_1, hx158_2, hx158_3, hx158_4, hx158_5⟩ := at_T27 HR0.out x5_1 p158 q158
            cases e158
            replace hx158_0 := (HB.out.cell (World.block_lt_of_cell? w _ hx158_0)).trans hx158_0
            replace hx158_1 := (HB.out.cell (World.block_lt_of_cell? w _ hx158_1)).trans hx158_1
            replace hx158_2 := (HB.out.cell (World.block_lt_of_cell? w _ hx158_2)).trans hx158_2
            replace hx158_3 := (HB.out.cell (World.block_lt_of_cell? w _ hx158_3)).trans hx158_3
            replace hx158_4 := (HB.out.cell (World.block_lt_of_cell? w _ hx158_4)).trans hx158_4
            replace hx158_5 := (HB.out.cell (World.block_lt_of_cell? w _ hx158_5)).trans hx158_5
            replace p158 := eq_true p158
            replace q158 := eq_true q158
            have hnb11 := NB156_157.out
            have hnc11 := NB157_156.out
            have hcz12_0 : wr.cell? ⟨gb156, 0, none⟩ = some (.string a1_0) := (blk_cell BK156.out 0).trans rfl
            have hcz12_1 : wr.cell? ⟨gb156, 1, none⟩ = some (.int .i64 a1_1) := (blk_cell BK156.out 1).trans rfl
            have hcz12_2 : wr.cell? ⟨gb156, 2, none⟩ = some (.int .i64 a1_2) := (blk_cell BK156.out 2).trans rfl
            have hcz12_3 : wr.cell? ⟨gb156, 3, none⟩ = some (.int .i64 a1_3) := (blk_cell BK156.out 3).trans rfl
            have hfz12_0 := blk_frozen BK156.out 0
            have hfz12_1 := blk_frozen BK156.out 1
            have hfz12_2 := blk_frozen BK156.out 2
            have hfz12_3 := blk_frozen BK156.out 3
            go_wp2
            repeat (go_quiet (fail); try go_wp2)
            go_roundg k1
            case measure => have := HK1.out; omega
            case rel => exact ⟨(wrap64 (x5_1 + 1)), (x158000_1), (x158001_1), (x158002_1), (x158003_1), (x158004_1), (x158005_1), (by first | rfl | (simp; done) | (simp [*]; done)), H', ⟨by have := HK1.out; omega⟩, ⟨by (with_reducible repeat (first | refine blk_drewN ?_ _ | refine blk_drew ?_ | refine blk_alloc ?_ _)); exact BK156.out⟩, ⟨by (with_reducible repeat (first | refine blk_drewN ?_ _ | refine blk_drew ?_ | refine blk_alloc ?_ _)); exact BK157.out⟩, ⟨by repeat (first | (with_reducible first | exact HB.out | apply below_alloc | apply pw_below_drewN | apply below_drew1 | refine below_set ?_ GE156.out | refine below_set ?_ GE157.out) | exact HB.out)⟩⟩
        · rw [if_neg c6] at H
          exact absurd H (by simp)
      · rw [if_neg c5] at H
        have c5b0 : decide (x5_1 < (l0.length : Int)) = false := decide_eq_false c5
        clear c5
        simp only [Option.some.injEq, Prod.mk.injEq] at H
        obtain ⟨rfl, rfl, rfl, rfl, rfl, rfl⟩ := H
        have hnb13 := NB156_157.out
        have hnc13 := NB157_156.out
        have hcz14_0 : wr.cell? ⟨gb156, 0, none⟩ = some (.string a1_0) := (blk_cell BK156.out 0).trans rfl
        have hcz14_1 : wr.cell? ⟨gb156, 1, none⟩ = some (.int .i64 a1_1) := (blk_cell BK156.out 1).trans rfl
        have hcz14_2 : wr.cell? ⟨gb156, 2, none⟩ = some (.int .i64 a1_2) := (blk_cell BK156.out 2).trans rfl
        have hcz14_3 : wr.cell? ⟨gb156, 3, none⟩ = some (.int .i64 a1_3) := (blk_cell BK156.out 3).trans rfl
        have hfz14_0 := blk_frozen BK156.out 0
        have hfz14_1 := blk_frozen BK156.out 1
        have hfz14_2 := blk_frozen BK156.out 2
        have hfz14_3 := blk_frozen BK156.out 3
        have hcz15_0 : wr.cell? ⟨gb157, 0, none⟩ = some (.string x158000_1) := (blk_cell BK157.out 0).trans rfl
        have hcz15_1 : wr.cell? ⟨gb157, 1, none⟩ = some (.int .i64 x158001_1) := (blk_cell BK157.out 1).trans rfl
        have hcz15_2 : wr.cell? ⟨gb157, 2, none⟩ = some (.int .i64 x158002_1) := (blk_cell BK157.out 2).trans rfl
        have hcz15_3 : wr.cell? ⟨gb157, 3, none⟩ = some (.int .i64 x158003_1) := (blk_cell BK157.out 3).trans rfl
        have hcz15_4 : wr.cell? ⟨gb157, 4, none⟩ = some (.int .i64 x158004_1) := (blk_cell BK157.out 4).trans rfl
        have hcz15_5 : wr.cell? ⟨gb157, 5, none⟩ = some (.int .i64 x158005_1) := (blk_cell BK157.out 5).trans rfl
        have hfz15_0 := blk_frozen BK157.out 0
        have hfz15_1 := blk_frozen BK157.out 1
        have hfz15_2 := blk_frozen BK157.out 2
        have hfz15_3 := blk_frozen BK157.out 3
        have hfz15_4 := blk_frozen BK157.out 4
        have hfz15_5 := blk_frozen BK157.out 5
        go_wp2
        repeat (go_quiet (fail); try go_wp2)
        refine bodyPost_ret (results_cell_row rfl _ _ gb157 27 #[.string a1_0, .int .i64 a1_1, .int .i64 a1_2, .int .i64 a1_3, .int .i64 0, .int .i64 0] (0, 0) _ rfl (by (with_reducible repeat (first | refine blk_drewN ?_ _ | refine blk_drew ?_ | refine blk_alloc ?_ _)); refine blk_put (cs := #[.string a1_0, .int .i64 a1_1, .int .i64 a1_2, .int .i64 a1_3, .int .i64 0, .int .i64 x158005_1]) ?_ 5 _ rfl; (with_reducible repeat (first | refine blk_drewN ?_ _ | refine blk_drew ?_ | refine blk_alloc ?_ _)); refine blk_put (cs := #[.string a1_0, .int .i64 a1_1, .int .i64 a1_2, .int .i64 a1_3, .int .i64 x158004_1, .int .i64 x158005_1]) ?_ 4 _ rfl; (with_reducible repeat (first | refine blk_drewN ?_ _ | refine blk_drew ?_ | refine blk_alloc ?_ _)); refine blk_put (cs := #[.string a1_0, .int .i64 a1_1, .int .i64 a1_2, .int .i64 x158003_1, .int .i64 x158004_1, .int .i64 x158005_1]) ?_ 3 _ rfl; (with_reducible repeat (first | refine blk_drewN ?_ _ | refine blk_drew ?_ | refine blk_alloc ?_ _)); refine blk_put (cs := #[.string a1_0, .int .i64 a1_1, .int .i64 x158002_1, .int .i64 x158003_1, .int .i64 x158004_1, .int .i64 x158005_1]) ?_ 2 _ rfl; (with_reducible repeat (first | refine blk_drewN ?_ _ | refine blk_drew ?_ | refine blk_alloc ?_ _)); refine blk_put (cs := #[.string a1_0, .int .i64 x158001_1, .int .i64 x158002_1, .int .i64 x158003_1, .int .i64 x158004_1, .int .i64 x158005_1]) ?_ 1 _ rfl; (with_reducible repeat (first | refine blk_drewN ?_ _ | refine blk_drew ?_ | refine blk_alloc ?_ _)); refine blk_put (cs := #[.string x158000_1, .int .i64 x158001_1, .int .i64 x158002_1, .int .i64 x158003_1, .int .i64 x158004_1, .int .i64 x158005_1]) ?_ 0 _ rfl; (with_reducible repeat (first | refine blk_drewN ?_ _ | refine blk_drew ?_ | refine blk_alloc ?_ _)); exact BK157.out) Try.underlying27 rfl (by kernel_rfl)) rfl ?_
        exact ⟨by first | rfl | (simp [errW_none, errW_some] <;> rfl) | (simp [*, errW_none, errW_some] <;> rfl), by repeat (first | (with_reducible first | exact HB.out | apply below_alloc | apply pw_below_drewN | apply below_drew1 | refine below_set ?_ GE156.out | refine below_set ?_ GE157.out) | exact HB.out)⟩

end Go.Proofs.Ytoejllkjhaeeeaa.PExpiryEven
