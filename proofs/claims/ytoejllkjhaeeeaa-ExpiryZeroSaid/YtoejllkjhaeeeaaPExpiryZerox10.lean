-- Written by a program of this session's (a turned copy of the kit's print, with functions proved by hand).
import Derived.Test.YtoejllkjhaeeeaaPExpiryZerox0
import Derived.Test.YtoejllkjhaeeeaaPExpiryZerox2
import Derived.Test.YtoejllkjhaeeeaaPExpiryZerox5
import Derived.Test.YtoejllkjhaeeeaaPExpiryZerox6
import Derived.Test.YtoejllkjhaeeeaaPExpiryZerox8
import Derived.Test.YtoejllkjhaeeeaaPExpiryZerox9
namespace Go.Proofs.Ytoejllkjhaeeeaa.PExpiryZero
open Go.RowKit Go.Proofs.YtoejllkjhaeeeaaW.PrintWords Go.Proofs.YtoejllkjhaeeeaaW.PrintLast Go.Proofs.YtoejllkjhaeeeaaW.PrintMore
attribute [local go_sem] max2_int min2_int max_two min_two max_three min_three max_four min_four Go.Proofs.YtoejllkjhaeeeaaHand.run_leq_str Go.Proofs.YtoejllkjhaeeeaaHand.run_gtr_str Go.Proofs.YtoejllkjhaeeeaaHand.run_geq_str   -- for this text's walks alone
set_option linter.unusedVariables false
set_option linter.unusedSimpArgs false

attribute [local go_sem high] eqA25
/-! ### contangolaw51_goes: function 10 -/
/-- A block read as a row. -/
theorem C_block {α : Type} (d : Kd α) {W : World} {g t : Nat} {cs : List Value} {xs : List α} (hb : W.heap[g]? = some (.cells cs.toArray t (0, 0))) (hr : Reps (d.K W) d.sz xs cs) (hl : xs.length ≤ 9223372036854775807) : d.C W (some ⟨g, 0, none⟩) xs.length xs := by
  refine ⟨rfl, hl, fun _ => ⟨_, rfl, fun j p hj => ⟨(cs.drop (j * d.sz)).take d.sz, d.K_len (hr.2 j p hj), hr.2 j p hj, fun i u hu => ?_⟩⟩⟩
  rw [List.getElem?_take] at hu
  split at hu
  · rw [List.getElem?_drop] at hu
    have : (⟨g, 0, none⟩ : Addr).add (j * d.sz + i) = ⟨g, j * d.sz + i, none⟩ := by
      unfold Addr.add
      split <;> simp_all
    rw [this, blk_cell hb]
    simpa using hu
  · cases hu

def contangolaw51_goes.f (k : Nat) : Option Bool :=
  (expiry_Cash.f k ⟨#[111, 105, 108]⟩ 0 100 1 0 1000 false ⟨#[111, 105, 108]⟩ 2 20 50 ⟨#[111, 105, 108]⟩ 2 20 50 0 3 52).bind fun x => if x.1 = -600 ∧ x.2 = 0 then
    ((expiry_Assign.f k [⟨⟨⟨#[97]⟩, ⟨#[120]⟩⟩, [⟨⟨⟨#[111, 105, 108]⟩, 2, 20, 50⟩, 0, 2⟩]⟩, ⟨⟨⟨#[98]⟩, ⟨#[120]⟩⟩, []⟩, ⟨⟨⟨#[100]⟩, ⟨#[120]⟩⟩, [⟨⟨⟨#[111, 105, 108]⟩, 2, 20, 50⟩, 0, 6⟩]⟩] ⟨#[111, 105, 108]⟩ 2 20 50 5).bind fun y => if y.2 = 0 ∧ y.1.length = 2 ∧ (rd_T49 y.1 0).f1 = 1 ∧ (rd_T49 y.1 0).f0.f0.toList = [97] ∧ (rd_T49 y.1 1).f1 = 4 then some true else none) else none
theorem contangolaw51_goes.mono : ∀ k, LeO (contangolaw51_goes.f k) (contangolaw51_goes.f (k + 1)) := by
  intro k
  unfold contangolaw51_goes.f
  exact LeO.bind (expiry_Cash.mono _ _ _ _ _ _ _ _ _ _ _ _ _ _ _ _ _ _ _) (fun x => LeO.ite (LeO.bind (expiry_Assign.mono _ _ _ _ _ _ _) (fun y => LeO.refl _)) (LeO.refl _))
set_option maxHeartbeats 800000 in
set_option maxRecDepth 100000 in
theorem contangolaw51_goes.short (c0 : ByteArray) (c1 c2 c3 : Int) (b : Nat) (s : ByteArray) (n : Int) (w : World) (hb : w.heap[b]? = some (.cells #[.string c0, .int .i64 c1, .int .i64 c2, .int .i64 c3] 25 (0, 0))) :
    Calls Try.prog 33 #[.string s, .int .i64 n, .pointer (some ⟨b, 0, none⟩)] w fun e w' => ∃ (A : Option Addr) (c : Nat), e = .returned (.agg #[.string s, .string ⟨#[120]⟩, .slice A 1 c]) ∧ 1 ≤ c ∧ Kd.C k27 w' A 1 [⟨⟨c0, c1, c2, c3⟩, 0, n⟩] ∧ Below w.heap.size w w' := by
  have HBK := Aside0.mk hb
  have hltb := blk_lt hb
  have h0 : w.cell? ⟨b, 0, none⟩ = some (.string c0) := (blk_cell hb 0).trans rfl
  have h1 : w.cell? ⟨b, 1, none⟩ = some (.int .i64 c1) := (blk_cell hb 1).trans rfl
  have h2 : w.cell? ⟨b, 2, none⟩ = some (.int .i64 c2) := (blk_cell hb 2).trans rfl
  have h3 : w.cell? ⟨b, 3, none⟩ = some (.int .i64 c3) := (blk_cell hb 3).trans rfl
  clear hb
  go_enter Try.func33, Try.ntmps33
  go_wp2
  have hB := blk_new (w.alloc (.cells #[.string s, .string ⟨#[120]⟩, .slice (some ⟨w.heap.size + 1, 0, none⟩) 1 1] 47)) (.cells [Value.string c0, .int .i64 c1, .int .i64 c2, .int .i64 c3, .int .i64 0, .int .i64 n].toArray 27 (0, 0))
  simp only [World.size_alloc] at hB
  refine bodyPost_ret (results_cell_row rfl _ _ w.heap.size 47 #[.string s, .string ⟨#[120]⟩, .slice (some ⟨w.heap.size + 1, 0, none⟩) 1 1] (0, 0) _ rfl (blk_alloc (blk_new w _) _) Try.underlying47 rfl (by kernel_rfl)) rfl ?_
  refine ⟨some ⟨w.heap.size + 1, 0, none⟩, 1, rfl, Nat.le_refl _, ?_, below_alloc (below_alloc (Below.refl _ _) _) _⟩
  exact C_block k27 (xs := [⟨⟨c0, c1, c2, c3⟩, 0, n⟩]) hB (by have := (Reps.none (k27.K _) 6).snoc (k27_mk ((w.alloc (.cells #[.string s, .string ⟨#[120]⟩, .slice (some ⟨w.heap.size + 1, 0, none⟩) 1 1] 47)).alloc (.cells #[.string c0, .int .i64 c1, .int .i64 c2, .int .i64 c3, .int .i64 0, .int .i64 n] 27)) ⟨⟨c0, c1, c2, c3⟩, 0, n⟩) rfl; exact this) (by simp)
set_option maxHeartbeats 1600000 in
set_option maxRecDepth 100000 in
theorem contangolaw51_goes.calls (k : Nat) (r : Bool) (w : World) (h : contangolaw51_goes.f k = some r) :
    Calls Try.prog 10 #[] w fun e w' => e = .returned (.bool r) ∧ Below w.heap.size w w' := by
  unfold contangolaw51_goes.f at h
  obtain ⟨⟨x1, x2⟩, hX, h⟩ := Option.bind_eq_some_iff.mp h
  by_cases hx : x1 = -600 ∧ x2 = 0
  case neg => simp only at h; rw [if_neg hx] at h; cases h
  simp only at h
  rw [if_pos hx] at h
  obtain ⟨rfl, rfl⟩ := hx
  obtain ⟨⟨y, y2⟩, hY, h⟩ := Option.bind_eq_some_iff.mp h
  by_cases hy : y2 = 0 ∧ y.length = 2 ∧ (rd_T49 y 0).f1 = 1 ∧ (rd_T49 y 0).f0.f0.toList = [97] ∧ (rd_T49 y 1).f1 = 4
  case neg => simp only at h; rw [if_neg hy] at h; cases h
  simp only at h
  rw [if_pos hy] at h
  obtain rfl := Option.some.inj h
  obtain ⟨rfl, hy1, hy2, hy3, hy4⟩ := hy
  obtain ⟨p, q, rfl⟩ : ∃ p q, y = [p, q] := by
    match y, hy1 with
    | [p, q], _ => exact ⟨p, q, rfl⟩
  obtain ⟨⟨p0, p1⟩, p2⟩ := p
  obtain ⟨⟨q0, q1⟩, q2⟩ := q
  have hy2 : p2 = 1 := hy2
  have hy4 : q2 = 4 := hy4
  have hy3 : p0.toList = [97] := hy3
  subst hy2 hy4
  have hs1 : (p0.toList == [97]) = true := beq_iff_eq.mpr hy3
  have HX := Aside0.mk hX
  have HY := Aside0.mk hY
  have HS1 := Aside0.mk hs1
  clear h hX hY hy1 hy3 hs1
  go_enter Try.func10, Try.ntmps10
  go_wp2
  have BS := Aside0.mk (blk_new w (.cells #[.string (⟨#[111, 105, 108]⟩ : ByteArray), .int .i64 2, .int .i64 20, .int .i64 50] 25 (0, 0)))
  have HB := Aside0.mk (below_alloc (Below.refl _ w) (.cells #[.string (⟨#[111, 105, 108]⟩ : ByteArray), .int .i64 2, .int .i64 20, .int .i64 50] 25 (0, 0)))
  refine start_ (n := 10) (S := fun w' => w'.cell? ⟨w.heap.size, 0, none⟩ = some (.string (⟨#[111, 105, 108]⟩ : ByteArray)) ∧ w'.cell? ⟨w.heap.size, 1, none⟩ = some (.int .i64 2) ∧ w'.cell? ⟨w.heap.size, 2, none⟩ = some (.int .i64 20) ∧ w'.cell? ⟨w.heap.size, 3, none⟩ = some (.int .i64 50)) (ds := []) #[false, false, false, false, false, false, false, false, false, false] (by kernel_rfl) rfl rfl ⟨((blk_cell (blk_drew BS.out) 0).trans rfl), ((blk_cell (blk_drew BS.out) 1).trans rfl), ((blk_cell (blk_drew BS.out) 2).trans rfl), ((blk_cell (blk_drew BS.out) 3).trans rfl)⟩ (fun hHeld => ?_)
  refine take_ (i := 1) (N := some 11) (v := ?_) (a' := ?_) #[false, true, false, false, false, false, false, false, false, false] rfl rfl (by kernel_rfl) (fun _ _ _ h => h) (Or.inl ⟨by rfl, ?_⟩) hHeld ?_ ?_
  rotate_left
  · rintro w' ⟨s0, s1, s2, s3⟩
    go_simp
    with_reducible rfl
  rotate_left
  · simp only [Act.put, List.setIfInBounds_toArray, List.set_cons_zero, List.set_cons_succ, i64_w, i32_w]
    rfl
  refine take_ (i := 2) (N := some 12) (v := ?_) (a' := ?_) #[false, true, true, false, false, false, false, false, false, false] rfl rfl (by kernel_rfl) (fun _ _ _ h => h) (Or.inl ⟨by rfl, ?_⟩) hHeld ?_ ?_
  rotate_left
  · rintro w' ⟨s0, s1, s2, s3⟩
    go_simp
    with_reducible rfl
  rotate_left
  · simp only [Act.put, List.setIfInBounds_toArray, List.set_cons_zero, List.set_cons_succ, i64_w, i32_w]
    rfl
  refine pure_ (i := 3) (N := some 13) (v := ?_) (a' := ?_) #[false, true, true, true, false, false, false, false, false, false] rfl rfl (by kernel_rfl) (fun _ _ _ h => h) (Or.inl ⟨by rfl, ?_⟩) ?_ ?_
  rotate_left
  · intro w'
    go_simp
    with_reducible rfl
  rotate_left
  · simp only [Act.put, List.setIfInBounds_toArray, List.set_cons_zero, List.set_cons_succ, i64_w, i32_w]
    rfl
  refine one_ (i := 0) (N := some 10) #[true, true, true, true, false, false, false, false, false, false] rfl rfl (by kernel_rfl) (by decide) (fun K hK => ?_)
  refine goes_ Try.func34 (by kernel_rfl) rfl #[] (by rfl) rfl rfl (by simp) ?_
  with_reducible refine (contangolaw51_oil.calls (⟨#[111, 105, 108]⟩ : ByteArray) 0 100 1 0 1000 false _ rfl).mono ?_
  rintro _ w1 ⟨rfl, hb⟩
  refine ⟨_, rfl, ?_⟩
  have BS1 := Aside0.mk (blk_below (blk_drew BS.out) hb)
  have HB1 := Aside0.mk (below_step (below_drew HB.out) hb)
  clear hb
  refine hK.out _ _ ⟨((blk_cell BS1.out 0).trans rfl), ((blk_cell BS1.out 1).trans rfl), ((blk_cell BS1.out 2).trans rfl), ((blk_cell BS1.out 3).trans rfl)⟩ (fun hHeld => ?_)
  clear hK K
  refine norm_ (a' := ?_) ?_ ?_
  rotate_left
  · show Act.put _ (some 10) _ = _
    simp only [Act.put, List.setIfInBounds_toArray, List.set_cons_zero, List.set_cons_succ, i64_w, i32_w]
    rfl
  refine one_ (i := 4) (N := some 14) #[true, true, true, true, true, false, false, false, false, false] rfl rfl (by kernel_rfl) (by decide) (fun K hK => ?_)
  refine goes_ Try.func8 (by kernel_rfl) rfl #[.agg #[.string (⟨#[111, 105, 108]⟩ : ByteArray), .int .i64 0, .int .i64 100, .int .i64 1, .int .i64 0, .int .i64 1000, .bool false], .agg #[.string (⟨#[111, 105, 108]⟩ : ByteArray), .int .i64 2, .int .i64 20, .int .i64 50], .agg #[.string (⟨#[111, 105, 108]⟩ : ByteArray), .int .i64 2, .int .i64 20, .int .i64 50, .int .i64 0, .int .i64 3], .int .i64 52] (by rfl) rfl rfl (by simp only [List.map_toArray, List.map_cons, List.map_nil]; rfl) ?_
  with_reducible refine (expiry_Cash.calls k (⟨#[111, 105, 108]⟩ : ByteArray) 0 100 1 0 1000 false (⟨#[111, 105, 108]⟩ : ByteArray) 2 20 50 (⟨#[111, 105, 108]⟩ : ByteArray) 2 20 50 0 3 52 (-600) 0 _ HX.out).mono ?_
  rintro _ w2 ⟨rfl, hb⟩
  refine ⟨_, rfl, ?_⟩
  have BS2 := Aside0.mk (blk_below BS1.out hb)
  have HB2 := Aside0.mk (below_step HB1.out hb)
  clear hb
  refine hK.out _ _ ⟨((blk_cell BS2.out 0).trans rfl), ((blk_cell BS2.out 1).trans rfl), ((blk_cell BS2.out 2).trans rfl), ((blk_cell BS2.out 3).trans rfl)⟩ (fun hHeld => ?_)
  clear hK K
  refine norm_ (a' := ?_) ?_ ?_
  rotate_left
  · show Act.put _ (some 14) _ = _
    simp only [Act.put, List.setIfInBounds_toArray, List.set_cons_zero, List.set_cons_succ, i64_w, i32_w]
    rfl
  refine pure_ (i := 5) (N := some 9) (v := ?_) (a' := ?_) #[true, true, true, true, true, true, false, false, false, false] rfl rfl (by kernel_rfl) (fun _ _ _ h => h) (Or.inl ⟨by rfl, ?_⟩) ?_ ?_
  rotate_left
  · intro w'
    go_simp
    with_reducible rfl
  rotate_left
  · simp only [Act.put, List.setIfInBounds_toArray, List.set_cons_zero, List.set_cons_succ, i64_w, i32_w]
    rfl
  refine pure_ (i := 6) (N := some 15) (v := ?_) (a' := ?_) #[true, true, true, true, true, true, true, false, false, false] rfl rfl (by kernel_rfl) (fun _ _ _ h => h) (Or.inl ⟨by rfl, ?_⟩) ?_ ?_
  rotate_left
  · intro w'
    go_simp
    with_reducible rfl
  rotate_left
  · simp only [Act.put, List.setIfInBounds_toArray, List.set_cons_zero, List.set_cons_succ, i64_w, i32_w]
    rfl
  refine pure_ (i := 7) (N := some 16) (v := ?_) (a' := ?_) #[true, true, true, true, true, true, true, true, false, false] rfl rfl (by kernel_rfl) (fun _ _ _ h => h) (Or.inl ⟨by rfl, ?_⟩) ?_ ?_
  rotate_left
  · intro w'
    go_simp
    with_reducible rfl
  rotate_left
  · simp only [Act.put, List.setIfInBounds_toArray, List.set_cons_zero, List.set_cons_succ, i64_w, i32_w]
    rfl
  refine pure_ (i := 8) (N := some 3) (v := ?_) (a' := ?_) #[true, true, true, true, true, true, true, true, true, false] rfl rfl (by kernel_rfl) (fun _ _ _ h => h) (Or.inl ⟨by rfl, ?_⟩) ?_ ?_
  rotate_left
  · intro w'
    go_simp
    with_reducible rfl
  rotate_left
  · simp only [Act.put, List.setIfInBounds_toArray, List.set_cons_zero, List.set_cons_succ, i64_w, i32_w]
    rfl
  refine pure_ (i := 9) (N := some 4) (v := ?_) (a' := ?_) #[true, true, true, true, true, true, true, true, true, true] rfl rfl (by kernel_rfl) (fun _ _ _ h => h) (Or.inl ⟨by rfl, ?_⟩) ?_ ?_
  rotate_left
  · intro w'
    go_simp
    with_reducible rfl
  rotate_left
  · simp only [Act.put, List.setIfInBounds_toArray, List.set_cons_zero, List.set_cons_succ, i64_w, i32_w]
    rfl
  refine done_ (by kernel_rfl) ?_
  go_wp2
  refine start_ (n := 14) (S := fun w' => w'.cell? ⟨w.heap.size, 0, none⟩ = some (.string (⟨#[111, 105, 108]⟩ : ByteArray)) ∧ w'.cell? ⟨w.heap.size, 1, none⟩ = some (.int .i64 2) ∧ w'.cell? ⟨w.heap.size, 2, none⟩ = some (.int .i64 20) ∧ w'.cell? ⟨w.heap.size, 3, none⟩ = some (.int .i64 50)) (ds := []) #[false, false, false, false, false, false, false, false, false, false, false, false, false, false] (by kernel_rfl) rfl rfl ⟨((blk_cell (blk_drew BS2.out) 0).trans rfl), ((blk_cell (blk_drew BS2.out) 1).trans rfl), ((blk_cell (blk_drew BS2.out) 2).trans rfl), ((blk_cell (blk_drew BS2.out) 3).trans rfl)⟩ (fun hHeld => ?_)
  refine pure_ (i := 0) (N := some 18) (v := ?_) (a' := ?_) #[true, false, false, false, false, false, false, false, false, false, false, false, false, false] rfl rfl (by kernel_rfl) (fun _ _ _ h => h) (Or.inl ⟨by rfl, ?_⟩) ?_ ?_
  rotate_left
  · intro w'
    go_simp
    with_reducible rfl
  rotate_left
  · simp only [Act.put, List.setIfInBounds_toArray, List.set_cons_zero, List.set_cons_succ, i64_w, i32_w]
    rfl
  refine pure_ (i := 2) (N := some 20) (v := ?_) (a' := ?_) #[true, false, true, false, false, false, false, false, false, false, false, false, false, false] rfl rfl (by kernel_rfl) (fun _ _ _ h => h) (Or.inl ⟨by rfl, ?_⟩) ?_ ?_
  rotate_left
  · intro w'
    go_simp
    with_reducible rfl
  rotate_left
  · simp only [Act.put, List.setIfInBounds_toArray, List.set_cons_zero, List.set_cons_succ, i64_w, i32_w]
    rfl
  refine pure_ (i := 3) (N := some 21) (v := ?_) (a' := ?_) #[true, false, true, true, false, false, false, false, false, false, false, false, false, false] rfl rfl (by kernel_rfl) (fun _ _ _ h => h) (Or.inl ⟨by rfl, ?_⟩) ?_ ?_
  rotate_left
  · intro w'
    go_simp
    with_reducible rfl
  rotate_left
  · simp only [Act.put, List.setIfInBounds_toArray, List.set_cons_zero, List.set_cons_succ, i64_w, i32_w]
    rfl
  refine pure_ (i := 4) (N := some 22) (v := ?_) (a' := ?_) #[true, false, true, true, true, false, false, false, false, false, false, false, false, false] rfl rfl (by kernel_rfl) (fun _ _ _ h => h) (Or.inl ⟨by rfl, ?_⟩) ?_ ?_
  rotate_left
  · intro w'
    go_simp
    with_reducible rfl
  rotate_left
  · simp only [Act.put, List.setIfInBounds_toArray, List.set_cons_zero, List.set_cons_succ, i64_w, i32_w]
    rfl
  refine take_ (i := 7) (N := some 25) (v := ?_) (a' := ?_) #[true, false, true, true, true, false, false, true, false, false, false, false, false, false] rfl rfl (by kernel_rfl) (fun _ _ _ h => h) (Or.inl ⟨by rfl, ?_⟩) hHeld ?_ ?_
  rotate_left
  · rintro w' ⟨s0, s1, s2, s3⟩
    go_simp
    with_reducible rfl
  rotate_left
  · simp only [Act.put, List.setIfInBounds_toArray, List.set_cons_zero, List.set_cons_succ, i64_w, i32_w]
    rfl
  refine one_ (i := 1) (N := some 19) #[true, true, true, true, true, false, false, true, false, false, false, false, false, false] rfl rfl (by kernel_rfl) (by decide) (fun K hK => ?_)
  refine goesV_ (enters_of Try.func33 (by kernel_rfl) rfl) #[.string ⟨#[97]⟩, .int .i64 2] (by rfl) rfl rfl (by rfl) (by simp only [List.map_toArray, List.map_cons, List.map_nil]; rfl) ?_
  refine (contangolaw51_goes.short (⟨#[111, 105, 108]⟩ : ByteArray) 2 20 50 w.heap.size ⟨#[97]⟩ 2 _ (blk_drew BS2.out)).mono ?_
  rintro _ w3 ⟨A1, c1, rfl, hc1, hC1, hb⟩
  refine ⟨_, rfl, ?_⟩
  have BS3 := Aside0.mk (blk_below (blk_drew BS2.out) hb)
  have HB3 := Aside0.mk (below_step (below_drew HB2.out) hb)
  have HC1 := Aside0.mk hC1
  have HL1 := Aside0.mk hc1
  clear hb hC1 hc1
  refine hK.out _ _ ⟨((blk_cell BS3.out 0).trans rfl), ((blk_cell BS3.out 1).trans rfl), ((blk_cell BS3.out 2).trans rfl), ((blk_cell BS3.out 3).trans rfl)⟩ (fun hHeld => ?_)
  clear hK K
  refine norm_ (a' := ?_) ?_ ?_
  rotate_left
  · show Act.put _ (some 19) _ = _
    simp only [Act.put, List.setIfInBounds_toArray, List.set_cons_zero, List.set_cons_succ, i64_w, i32_w]
    rfl
  refine one_ (i := 5) (N := some 23) #[true, true, true, true, true, true, false, true, false, false, false, false, false, false] rfl rfl (by kernel_rfl) (by decide) (fun K hK => ?_)
  refine goesV_ (enters_of Try.func33 (by kernel_rfl) rfl) #[.string ⟨#[100]⟩, .int .i64 6] (by rfl) rfl rfl (by rfl) (by simp only [List.map_toArray, List.map_cons, List.map_nil]; rfl) ?_
  refine (contangolaw51_goes.short (⟨#[111, 105, 108]⟩ : ByteArray) 2 20 50 w.heap.size ⟨#[100]⟩ 6 _ BS3.out).mono ?_
  rintro _ w4 ⟨A2, c2, rfl, hc2, hC2, hb⟩
  refine ⟨_, rfl, ?_⟩
  have BS4 := Aside0.mk (blk_below BS3.out hb)
  have HB4 := Aside0.mk (below_step HB3.out hb)
  have HC12 := Aside0.mk (Kd.C_below HC1.out hb)
  have HC2 := Aside0.mk hC2
  have HL2 := Aside0.mk hc2
  clear hb hC2 hc2
  refine hK.out _ _ ⟨((blk_cell BS4.out 0).trans rfl), ((blk_cell BS4.out 1).trans rfl), ((blk_cell BS4.out 2).trans rfl), ((blk_cell BS4.out 3).trans rfl)⟩ (fun hHeld => ?_)
  clear hK K
  refine norm_ (a' := ?_) ?_ ?_
  rotate_left
  · show Act.put _ (some 23) _ = _
    simp only [Act.put, List.setIfInBounds_toArray, List.set_cons_zero, List.set_cons_succ, i64_w, i32_w]
    rfl
  refine one_ (i := 6) (N := some 24) #[true, true, true, true, true, true, true, true, false, false, false, false, false, false] rfl rfl (by kernel_rfl) (by decide) (fun K hK => ?_)
  refine value_ (w1 := ?_) (v := ?_) (by rfl) rfl ?_ ?_
  rotate_left 2
  · go_simp
    constructor
    · rfl
    · rfl
  have BS5 := Aside0.mk (blk_alloc BS4.out (.cells ([.string ⟨#[97]⟩, .string ⟨#[120]⟩, .slice A1 1 c1, .string ⟨#[98]⟩, .string ⟨#[120]⟩, .slice none 0 0, .string ⟨#[100]⟩, .string ⟨#[120]⟩, .slice A2 1 c2] : List Value).toArray 47 (0, 0)))
  have HB5 := Aside0.mk (below_alloc HB4.out (.cells ([.string ⟨#[97]⟩, .string ⟨#[120]⟩, .slice A1 1 c1, .string ⟨#[98]⟩, .string ⟨#[120]⟩, .slice none 0 0, .string ⟨#[100]⟩, .string ⟨#[120]⟩, .slice A2 1 c2] : List Value).toArray 47 (0, 0)))
  have HBL := Aside0.mk (blk_new w4 (.cells ([.string ⟨#[97]⟩, .string ⟨#[120]⟩, .slice A1 1 c1, .string ⟨#[98]⟩, .string ⟨#[120]⟩, .slice none 0 0, .string ⟨#[100]⟩, .string ⟨#[120]⟩, .slice A2 1 c2] : List Value).toArray 47 (0, 0)))
  have HCL : Aside0 (Kd.C k47 (w4.alloc (.cells ([.string ⟨#[97]⟩, .string ⟨#[120]⟩, .slice A1 1 c1, .string ⟨#[98]⟩, .string ⟨#[120]⟩, .slice none 0 0, .string ⟨#[100]⟩, .string ⟨#[120]⟩, .slice A2 1 c2] : List Value).toArray 47 (0, 0))) (some ⟨w4.heap.size, 0, none⟩) 3 [⟨⟨⟨#[97]⟩, ⟨#[120]⟩⟩, [⟨⟨(⟨#[111, 105, 108]⟩ : ByteArray), 2, 20, 50⟩, 0, 2⟩]⟩, ⟨⟨⟨#[98]⟩, ⟨#[120]⟩⟩, []⟩, ⟨⟨⟨#[100]⟩, ⟨#[120]⟩⟩, [⟨⟨(⟨#[111, 105, 108]⟩ : ByteArray), 2, 20, 50⟩, 0, 6⟩]⟩]) := ⟨C_block k47 (xs := [⟨⟨⟨#[97]⟩, ⟨#[120]⟩⟩, [⟨⟨(⟨#[111, 105, 108]⟩ : ByteArray), 2, 20, 50⟩, 0, 2⟩]⟩, ⟨⟨⟨#[98]⟩, ⟨#[120]⟩⟩, []⟩, ⟨⟨⟨#[100]⟩, ⟨#[120]⟩⟩, [⟨⟨(⟨#[111, 105, 108]⟩ : ByteArray), 2, 20, 50⟩, 0, 6⟩]⟩]) HBL.out (((((Reps.none (k47.K (w4.alloc (.cells ([.string ⟨#[97]⟩, .string ⟨#[120]⟩, .slice A1 1 c1, .string ⟨#[98]⟩, .string ⟨#[120]⟩, .slice none 0 0, .string ⟨#[100]⟩, .string ⟨#[120]⟩, .slice A2 1 c2] : List Value).toArray 47 (0, 0)))) 3).snoc (p := (⟨⟨⟨#[97]⟩, ⟨#[120]⟩⟩, [⟨⟨(⟨#[111, 105, 108]⟩ : ByteArray), 2, 20, 50⟩, 0, 2⟩]⟩ : S47)) (k47_mk (w4.alloc (.cells ([.string ⟨#[97]⟩, .string ⟨#[120]⟩, .slice A1 1 c1, .string ⟨#[98]⟩, .string ⟨#[120]⟩, .slice none 0 0, .string ⟨#[100]⟩, .string ⟨#[120]⟩, .slice A2 1 c2] : List Value).toArray 47 (0, 0))) (⟨⟨⟨#[97]⟩, ⟨#[120]⟩⟩, [⟨⟨(⟨#[111, 105, 108]⟩ : ByteArray), 2, 20, 50⟩, 0, 2⟩]⟩ : S47) (A2 := A1) (c2 := c1) HL1.out (Kd.C_alloc HC12.out _)) rfl).snoc (p := (⟨⟨⟨#[98]⟩, ⟨#[120]⟩⟩, []⟩ : S47)) (k47_mk (w4.alloc (.cells ([.string ⟨#[97]⟩, .string ⟨#[120]⟩, .slice A1 1 c1, .string ⟨#[98]⟩, .string ⟨#[120]⟩, .slice none 0 0, .string ⟨#[100]⟩, .string ⟨#[120]⟩, .slice A2 1 c2] : List Value).toArray 47 (0, 0))) (⟨⟨⟨#[98]⟩, ⟨#[120]⟩⟩, []⟩ : S47) (A2 := none) (c2 := 0) (Nat.le_refl _) (Kd.C_nil _ _)) rfl).snoc (p := (⟨⟨⟨#[100]⟩, ⟨#[120]⟩⟩, [⟨⟨(⟨#[111, 105, 108]⟩ : ByteArray), 2, 20, 50⟩, 0, 6⟩]⟩ : S47)) (k47_mk (w4.alloc (.cells ([.string ⟨#[97]⟩, .string ⟨#[120]⟩, .slice A1 1 c1, .string ⟨#[98]⟩, .string ⟨#[120]⟩, .slice none 0 0, .string ⟨#[100]⟩, .string ⟨#[120]⟩, .slice A2 1 c2] : List Value).toArray 47 (0, 0))) (⟨⟨⟨#[100]⟩, ⟨#[120]⟩⟩, [⟨⟨(⟨#[111, 105, 108]⟩ : ByteArray), 2, 20, 50⟩, 0, 6⟩]⟩ : S47) (A2 := A2) (c2 := c2) HL2.out (Kd.C_alloc HC2.out _)) rfl)) (by decide)⟩
  refine hK.out _ _ ⟨((blk_cell BS5.out 0).trans rfl), ((blk_cell BS5.out 1).trans rfl), ((blk_cell BS5.out 2).trans rfl), ((blk_cell BS5.out 3).trans rfl)⟩ (fun hHeld => ?_)
  clear hK K
  refine norm_ (a' := ?_) ?_ ?_
  rotate_left
  · show Act.put _ (some 24) _ = _
    simp only [Act.put, List.setIfInBounds_toArray, List.set_cons_zero, List.set_cons_succ, i64_w, i32_w]
    rfl
  refine one_ (i := 8) (N := some 26) #[true, true, true, true, true, true, true, true, true, false, false, false, false, false] rfl rfl (by kernel_rfl) (by decide) (fun K hK => ?_)
  refine goes_ Try.func11 (by kernel_rfl) rfl #[.slice (some ⟨w4.heap.size, 0, none⟩) 3 3, .agg #[.string (⟨#[111, 105, 108]⟩ : ByteArray), .int .i64 2, .int .i64 20, .int .i64 50], .int .i64 5] (by rfl) rfl rfl (by simp only [List.map_toArray, List.map_cons, List.map_nil]; rfl) ?_
  refine (expiry_Assign.calls k (some ⟨w4.heap.size, 0, none⟩) 3 [⟨⟨⟨#[97]⟩, ⟨#[120]⟩⟩, [⟨⟨(⟨#[111, 105, 108]⟩ : ByteArray), 2, 20, 50⟩, 0, 2⟩]⟩, ⟨⟨⟨#[98]⟩, ⟨#[120]⟩⟩, []⟩, ⟨⟨⟨#[100]⟩, ⟨#[120]⟩⟩, [⟨⟨(⟨#[111, 105, 108]⟩ : ByteArray), 2, 20, 50⟩, 0, 6⟩]⟩] (⟨#[111, 105, 108]⟩ : ByteArray) 2 20 50 5 _ 0 _ HCL.out (by decide) HY.out).mono ?_
  rintro _ w6 ⟨v6, rfl, hR, hb⟩
  refine ⟨_, rfl, ?_⟩
  obtain ⟨A6, c6, e6⟩ := Kd.R_slice hR
  subst e6
  have HC6 := Aside0.mk (Kd.R_reads' hR).2.2
  have BS6 := Aside0.mk (blk_below BS5.out hb)
  have HB6 := Aside0.mk (below_step HB5.out hb)
  clear hR hb
  refine hK.out _ _ ⟨((blk_cell BS6.out 0).trans rfl), ((blk_cell BS6.out 1).trans rfl), ((blk_cell BS6.out 2).trans rfl), ((blk_cell BS6.out 3).trans rfl)⟩ (fun hHeld => ?_)
  clear hK K
  refine norm_ (a' := ?_) ?_ ?_
  rotate_left
  · show Act.put _ (some 26) _ = _
    simp only [Act.put, List.setIfInBounds_toArray, List.set_cons_zero, List.set_cons_succ, i64_w, i32_w]
    rfl
  refine pure_ (i := 9) (N := some 17) (v := ?_) (a' := ?_) #[true, true, true, true, true, true, true, true, true, true, false, false, false, false] rfl rfl (by kernel_rfl) (fun _ _ _ h => h) (Or.inl ⟨by rfl, ?_⟩) ?_ ?_
  rotate_left
  · intro w'
    go_simp
    with_reducible rfl
  rotate_left
  · simp only [Act.put, List.setIfInBounds_toArray, List.set_cons_zero, List.set_cons_succ, i64_w, i32_w]
    rfl
  refine pure_ (i := 10) (N := some 27) (v := ?_) (a' := ?_) #[true, true, true, true, true, true, true, true, true, true, true, false, false, false] rfl rfl (by kernel_rfl) (fun _ _ _ h => h) (Or.inl ⟨by rfl, ?_⟩) ?_ ?_
  rotate_left
  · intro w'
    go_simp
    with_reducible rfl
  rotate_left
  · simp only [Act.put, List.setIfInBounds_toArray, List.set_cons_zero, List.set_cons_succ, i64_w, i32_w]
    rfl
  refine pure_ (i := 11) (N := some 28) (v := ?_) (a' := ?_) #[true, true, true, true, true, true, true, true, true, true, true, true, false, false] rfl rfl (by kernel_rfl) (fun _ _ _ h => h) (Or.inl ⟨by rfl, ?_⟩) ?_ ?_
  rotate_left
  · intro w'
    go_simp
    with_reducible rfl
  rotate_left
  · simp only [Act.put, List.setIfInBounds_toArray, List.set_cons_zero, List.set_cons_succ, i64_w, i32_w]
    rfl
  refine pure_ (i := 12) (N := some 5) (v := ?_) (a' := ?_) #[true, true, true, true, true, true, true, true, true, true, true, true, true, false] rfl rfl (by kernel_rfl) (fun _ _ _ h => h) (Or.inl ⟨by rfl, ?_⟩) ?_ ?_
  rotate_left
  · intro w'
    go_simp
    with_reducible rfl
  rotate_left
  · simp only [Act.put, List.setIfInBounds_toArray, List.set_cons_zero, List.set_cons_succ, i64_w, i32_w]
    rfl
  refine pure_ (i := 13) (N := some 6) (v := ?_) (a' := ?_) #[true, true, true, true, true, true, true, true, true, true, true, true, true, true] rfl rfl (by kernel_rfl) (fun _ _ _ h => h) (Or.inl ⟨by rfl, ?_⟩) ?_ ?_
  rotate_left
  · intro w'
    go_simp
    with_reducible rfl
  rotate_left
  · simp only [Act.put, List.setIfInBounds_toArray, List.set_cons_zero, List.set_cons_succ, i64_w, i32_w]
    rfl
  refine done_ (by kernel_rfl) ?_
  obtain ⟨ad, ead, h0, h1, h2⟩ := at_T49 HC6.out 0 (by decide) (by simp)
  cases ead
  obtain ⟨ad2, ead2, g0, g1, g2⟩ := at_T49 HC6.out 1 (by decide) (by simp)
  cases ead2
  have hz : ad.add 0 = ad := by simp [Addr.add]
  have t1 : (1 : Int).toNat = 1 := rfl
  simp only [Int.toNat_zero, Nat.zero_mul, t1, Nat.one_mul, hz] at h0 h1 h2 g0 g1 g2
  clear hz t1
  have h0 : w6.cell? ad = some (.string p0) := h0
  have h2 : w6.cell? ⟨ad.block, ad.off + 2, none⟩ = some (.int .i64 1) := h2
  have g2 : w6.cell? ⟨(ad.add 3).block, (ad.add 3).off + 2, none⟩ = some (.int .i64 4) := g2
  have g3 : w6.cell? ⟨ad.block, ad.off + 3 + 2, none⟩ = some (.int .i64 4) := g2
  have g4 : w6.cell? ⟨ad.block, ad.off + 5, none⟩ = some (.int .i64 4) := g2
  have hs1 : (p0.toList == [97]) = true := HS1.out
  clear h1 g0 g1
  go_wp2
  go_ret
  exact ⟨rfl, HB6.out⟩

/-! ### contangoref15_Find: function 13 -/
def contangoref15_Find.l0 : Nat → List (S27) → Int → ByteArray → Int → Int → Int → Option (ByteArray × Int × Int × Int × Int × Int)
  | 0, _, _, _, _, _, _ => none
  | k + 1, x0, x5, x155000, x155001, x155002, x155003 => if x5 < (x0.length : Int) then (if 0 ≤ x5 then (if (eqD25 ((rd_T27 x0 x5).f0.f0) x155000 ((rd_T27 x0 x5).f0.f1) x155001 ((rd_T27 x0 x5).f0.f2) x155002 ((rd_T27 x0 x5).f0.f3) x155003) = true then (some ((rd_T27 x0 x5).f0.f0, (rd_T27 x0 x5).f0.f1, (rd_T27 x0 x5).f0.f2, (rd_T27 x0 x5).f0.f3, (rd_T27 x0 x5).f1, (rd_T27 x0 x5).f2)) else (contangoref15_Find.l0 k x0 (wrap64 (x5 + 1)) x155000 x155001 x155002 x155003)) else (none)) else (some (x155000, x155001, x155002, x155003, 0, 0))
def contangoref15_Find.f (k : Nat) (l0 : List (S27)) (a1_0 : ByteArray) (a1_1 : Int) (a1_2 : Int) (a1_3 : Int) : Option (ByteArray × Int × Int × Int × Int × Int) := contangoref15_Find.l0 k l0 0 a1_0 a1_1 a1_2 a1_3
theorem contangoref15_Find.mono_l : ∀ k, (∀ y0 y1 y2 y3 y4 y5, LeO (contangoref15_Find.l0 k y0 y1 y2 y3 y4 y5) (contangoref15_Find.l0 (k + 1) y0 y1 y2 y3 y4 y5))
  | 0 => fun _ _ _ _ _ _ r h => by simp [contangoref15_Find.l0] at h
  | k + 1 => by
    have ih0 := contangoref15_Find.mono_l k
    · intro y0 y1 y2 y3 y4 y5
      unfold contangoref15_Find.l0
      repeat' first
      | (with_reducible exact ih0 _ _ _ _ _ _)
      | (with_reducible exact LeO.refl _)
      | (with_reducible exact LeO.none _)
      | (with_reducible refine LeO.ite ?_ ?_)
      | (with_reducible refine LeO.bind ?_ (fun _ => ?_))
      | exact ih0 _ _ _ _ _ _
      | exact LeO.none _
      | refine LeO.ite ?_ ?_
      | refine LeO.bind ?_ (fun _ => ?_)
theorem contangoref15_Find.mono : ∀ a0 a1 a2 a3 a4 k, LeO (contangoref15_Find.f k a0 a1 a2 a3 a4) (contangoref15_Find.f (k + 1) a0 a1 a2 a3 a4) := by
  intro a0 a1 a2 a3 a4 k
  have ih0 := contangoref15_Find.mono_l k
  unfold contangoref15_Find.f
  repeat' first
      | (with_reducible exact ih0 _ _ _ _ _ _)
      | (with_reducible exact LeO.refl _)
      | (with_reducible exact LeO.none _)
      | (with_reducible refine LeO.ite ?_ ?_)
      | (with_reducible refine LeO.bind ?_ (fun _ => ?_))
      | exact ih0 _ _ _ _ _ _
      | exact LeO.none _
      | refine LeO.ite ?_ ?_
      | refine LeO.bind ?_ (fun _ => ?_)
set_option maxHeartbeats 8000000 in
set_option maxRecDepth 100000 in
theorem contangoref15_Find.calls (k : Nat) (A0 : Option Addr) (c0 : Nat) (l0 : List (S27)) (a1_0 : ByteArray) (a1_1 : Int) (a1_2 : Int) (a1_3 : Int) (r1 : ByteArray) (r2 : Int) (r3 : Int) (r4 : Int) (r5 : Int) (r6 : Int) (w : World) (hr0 : Kd.C k27 w A0 l0.length l0) (hc0 : l0.length ≤ c0) (h : contangoref15_Find.f k l0 a1_0 a1_1 a1_2 a1_3 = some (r1, r2, r3, r4, r5, r6)) :
    Calls Try.prog 13 #[.slice A0 l0.length c0, .agg #[.string a1_0, .int .i64 a1_1, .int .i64 a1_2, .int .i64 a1_3]] w fun e w' => e = .returned (.agg #[.string r1, .int .i64 r2, .int .i64 r3, .int .i64 r4, .int .i64 r5, .int .i64 r6]) ∧ Below w.heap.size w w' := by
  have hu25 := Try.underlying25
  have hu27 := Try.underlying27
  have HR0 := Aside0.mk hr0
  have HC0 := Aside0.mk hc0
  clear hr0 hc0
  have HB := Aside0.mk (Below.refl w.heap.size w)
  have H : (contangoref15_Find.l0 k l0 0 a1_0 a1_1 a1_2 a1_3) = some (r1, r2, r3, r4, r5, r6) := h
  clear h
  have H' := Aside0.mk H
  clear H
  go_enter Try.func13, Try.ntmps13
  go_wp2_with (first | ((with_reducible refine gate_dst (N := 3) rfl ?_); refine box_event ?hg (N := 3) ?hd (cs := #[.string a1_0, .int .i64 a1_1, .int .i64 a1_2, .int .i64 a1_3]) (t := 25) ?hr ?_; (case hd => rfl); (case hg => rfl); (case hr => first | (go_simp; done) | (go_simp; rfl)); intro gb154 hg w3 hbox hb; have n0_ := Aside0.mk (below_step (by repeat (first | (with_reducible first | exact HB.out | apply below_alloc | apply pw_below_drewN | apply below_drew1) | exact HB.out)) hb); have n1_ := Aside0.mk (hbox); have n2_ := Aside0.mk ((by rw [hg]; exact (below_size (by repeat (first | (with_reducible first | exact HB.out | apply below_alloc | apply pw_below_drewN | apply below_drew1) | exact HB.out))) : w.heap.size ≤ gb154)); have n3_ := Aside0.mk ((by rw [hg]; exact (below_size (by repeat (first | (with_reducible first | exact HB.out | apply below_alloc | apply pw_below_drewN | apply below_drew1) | exact HB.out))) : w.heap.size ≤ gb154)); clear HB; have HB := n0_; have BK154 := n1_; have GW154 := n2_; have GE154 := n3_; clear n0_ n1_ n2_ n3_; clear hb hbox hg) | ((with_reducible refine gate_dst (N := 4) rfl ?_); refine box_event ?hg (N := 4) ?hd (cs := #[.string (⟨#[]⟩ : ByteArray), .int .i64 0, .int .i64 0, .int .i64 0, .int .i64 0, .int .i64 0]) (t := 27) ?hr ?_; (case hd => rfl); (case hg => rfl); (case hr => first | (go_simp; done) | (go_simp; rfl)); intro gb155 hg w4 hbox hb; have n0_ := Aside0.mk (blk_below (g := gb154) (o := .cells #[.string a1_0, .int .i64 a1_1, .int .i64 a1_2, .int .i64 a1_3] 25 (0, 0)) (by (with_reducible repeat (first | refine blk_drewN ?_ _ | refine blk_drew ?_ | refine blk_alloc ?_ _)); exact BK154.out) hb); have n1_ := Aside0.mk (below_step (by repeat (first | (with_reducible first | exact HB.out | apply below_alloc | apply pw_below_drewN | apply below_drew1 | refine below_set ?_ GE154.out) | exact HB.out)) hb); have n2_ := Aside0.mk (hbox); have n3_ := Aside0.mk ((by rw [hg]; exact (below_size (by repeat (first | (with_reducible first | exact HB.out | apply below_alloc | apply pw_below_drewN | apply below_drew1 | refine below_set ?_ GE154.out) | exact HB.out))) : w.heap.size ≤ gb155)); have n4_ := Aside0.mk ((by rw [hg]; exact (below_size (by repeat (first | (with_reducible first | exact HB.out | apply below_alloc | apply pw_below_drewN | apply below_drew1 | refine below_set ?_ GE154.out) | exact HB.out))) : w.heap.size ≤ gb155)); have n5_ := Aside0.mk ((by rw [hg]; exact Nat.ne_of_lt (blk_lt (g := gb154) (o := .cells #[.string a1_0, .int .i64 a1_1, .int .i64 a1_2, .int .i64 a1_3] 25 (0, 0)) (by (with_reducible repeat (first | refine blk_drewN ?_ _ | refine blk_drew ?_ | refine blk_alloc ?_ _)); exact BK154.out)) : gb154 ≠ gb155)); have n6_ := Aside0.mk ((by rw [hg]; exact Nat.ne_of_gt (blk_lt (g := gb154) (o := .cells #[.string a1_0, .int .i64 a1_1, .int .i64 a1_2, .int .i64 a1_3] 25 (0, 0)) (by (with_reducible repeat (first | refine blk_drewN ?_ _ | refine blk_drew ?_ | refine blk_alloc ?_ _)); exact BK154.out)) : gb155 ≠ gb154)); clear BK154; clear HB; have BK154 := n0_; have HB := n1_; have BK155 := n2_; have GW155 := n3_; have GE155 := n4_; have NB154_155 := n5_; have NB155_154 := n6_; clear n0_ n1_ n2_ n3_ n4_ n5_ n6_; clear hb hbox hg))
  repeat (go_quiet (first | ((with_reducible refine gate_dst (N := 3) rfl ?_); refine box_event ?hg (N := 3) ?hd (cs := #[.string a1_0, .int .i64 a1_1, .int .i64 a1_2, .int .i64 a1_3]) (t := 25) ?hr ?_; (case hd => rfl); (case hg => rfl); (case hr => first | (go_simp; done) | (go_simp; rfl)); intro gb154 hg w3 hbox hb; have n0_ := Aside0.mk (below_step (by repeat (first | (with_reducible first | exact HB.out | apply below_alloc | apply pw_below_drewN | apply below_drew1) | exact HB.out)) hb); have n1_ := Aside0.mk (hbox); have n2_ := Aside0.mk ((by rw [hg]; exact (below_size (by repeat (first | (with_reducible first | exact HB.out | apply below_alloc | apply pw_below_drewN | apply below_drew1) | exact HB.out))) : w.heap.size ≤ gb154)); have n3_ := Aside0.mk ((by rw [hg]; exact (below_size (by repeat (first | (with_reducible first | exact HB.out | apply below_alloc | apply pw_below_drewN | apply below_drew1) | exact HB.out))) : w.heap.size ≤ gb154)); clear HB; have HB := n0_; have BK154 := n1_; have GW154 := n2_; have GE154 := n3_; clear n0_ n1_ n2_ n3_; clear hb hbox hg) | ((with_reducible refine gate_dst (N := 4) rfl ?_); refine box_event ?hg (N := 4) ?hd (cs := #[.string (⟨#[]⟩ : ByteArray), .int .i64 0, .int .i64 0, .int .i64 0, .int .i64 0, .int .i64 0]) (t := 27) ?hr ?_; (case hd => rfl); (case hg => rfl); (case hr => first | (go_simp; done) | (go_simp; rfl)); intro gb155 hg w4 hbox hb; have n0_ := Aside0.mk (blk_below (g := gb154) (o := .cells #[.string a1_0, .int .i64 a1_1, .int .i64 a1_2, .int .i64 a1_3] 25 (0, 0)) (by (with_reducible repeat (first | refine blk_drewN ?_ _ | refine blk_drew ?_ | refine blk_alloc ?_ _)); exact BK154.out) hb); have n1_ := Aside0.mk (below_step (by repeat (first | (with_reducible first | exact HB.out | apply below_alloc | apply pw_below_drewN | apply below_drew1 | refine below_set ?_ GE154.out) | exact HB.out)) hb); have n2_ := Aside0.mk (hbox); have n3_ := Aside0.mk ((by rw [hg]; exact (below_size (by repeat (first | (with_reducible first | exact HB.out | apply below_alloc | apply pw_below_drewN | apply below_drew1 | refine below_set ?_ GE154.out) | exact HB.out))) : w.heap.size ≤ gb155)); have n4_ := Aside0.mk ((by rw [hg]; exact (below_size (by repeat (first | (with_reducible first | exact HB.out | apply below_alloc | apply pw_below_drewN | apply below_drew1 | refine below_set ?_ GE154.out) | exact HB.out))) : w.heap.size ≤ gb155)); have n5_ := Aside0.mk ((by rw [hg]; exact Nat.ne_of_lt (blk_lt (g := gb154) (o := .cells #[.string a1_0, .int .i64 a1_1, .int .i64 a1_2, .int .i64 a1_3] 25 (0, 0)) (by (with_reducible repeat (first | refine blk_drewN ?_ _ | refine blk_drew ?_ | refine blk_alloc ?_ _)); exact BK154.out)) : gb154 ≠ gb155)); have n6_ := Aside0.mk ((by rw [hg]; exact Nat.ne_of_gt (blk_lt (g := gb154) (o := .cells #[.string a1_0, .int .i64 a1_1, .int .i64 a1_2, .int .i64 a1_3] 25 (0, 0)) (by (with_reducible repeat (first | refine blk_drewN ?_ _ | refine blk_drew ?_ | refine blk_alloc ?_ _)); exact BK154.out)) : gb155 ≠ gb154)); clear BK154; clear HB; have BK154 := n0_; have HB := n1_; have BK155 := n2_; have GW155 := n3_; have GE155 := n4_; have NB154_155 := n5_; have NB155_154 := n6_; clear n0_ n1_ n2_ n3_ n4_ n5_ n6_; clear hb hbox hg)); try go_wp2_with (first | ((with_reducible refine gate_dst (N := 3) rfl ?_); refine box_event ?hg (N := 3) ?hd (cs := #[.string a1_0, .int .i64 a1_1, .int .i64 a1_2, .int .i64 a1_3]) (t := 25) ?hr ?_; (case hd => rfl); (case hg => rfl); (case hr => first | (go_simp; done) | (go_simp; rfl)); intro gb154 hg w3 hbox hb; have n0_ := Aside0.mk (below_step (by repeat (first | (with_reducible first | exact HB.out | apply below_alloc | apply pw_below_drewN | apply below_drew1) | exact HB.out)) hb); have n1_ := Aside0.mk (hbox); have n2_ := Aside0.mk ((by rw [hg]; exact (below_size (by repeat (first | (with_reducible first | exact HB.out | apply below_alloc | apply pw_below_drewN | apply below_drew1) | exact HB.out))) : w.heap.size ≤ gb154)); have n3_ := Aside0.mk ((by rw [hg]; exact (below_size (by repeat (first | (with_reducible first | exact HB.out | apply below_alloc | apply pw_below_drewN | apply below_drew1) | exact HB.out))) : w.heap.size ≤ gb154)); clear HB; have HB := n0_; have BK154 := n1_; have GW154 := n2_; have GE154 := n3_; clear n0_ n1_ n2_ n3_; clear hb hbox hg) | ((with_reducible refine gate_dst (N := 4) rfl ?_); refine box_event ?hg (N := 4) ?hd (cs := #[.string (⟨#[]⟩ : ByteArray), .int .i64 0, .int .i64 0, .int .i64 0, .int .i64 0, .int .i64 0]) (t := 27) ?hr ?_; (case hd => rfl); (case hg => rfl); (case hr => first | (go_simp; done) | (go_simp; rfl)); intro gb155 hg w4 hbox hb; have n0_ := Aside0.mk (blk_below (g := gb154) (o := .cells #[.string a1_0, .int .i64 a1_1, .int .i64 a1_2, .int .i64 a1_3] 25 (0, 0)) (by (with_reducible repeat (first | refine blk_drewN ?_ _ | refine blk_drew ?_ | refine blk_alloc ?_ _)); exact BK154.out) hb); have n1_ := Aside0.mk (below_step (by repeat (first | (with_reducible first | exact HB.out | apply below_alloc | apply pw_below_drewN | apply below_drew1 | refine below_set ?_ GE154.out) | exact HB.out)) hb); have n2_ := Aside0.mk (hbox); have n3_ := Aside0.mk ((by rw [hg]; exact (below_size (by repeat (first | (with_reducible first | exact HB.out | apply below_alloc | apply pw_below_drewN | apply below_drew1 | refine below_set ?_ GE154.out) | exact HB.out))) : w.heap.size ≤ gb155)); have n4_ := Aside0.mk ((by rw [hg]; exact (below_size (by repeat (first | (with_reducible first | exact HB.out | apply below_alloc | apply pw_below_drewN | apply below_drew1 | refine below_set ?_ GE154.out) | exact HB.out))) : w.heap.size ≤ gb155)); have n5_ := Aside0.mk ((by rw [hg]; exact Nat.ne_of_lt (blk_lt (g := gb154) (o := .cells #[.string a1_0, .int .i64 a1_1, .int .i64 a1_2, .int .i64 a1_3] 25 (0, 0)) (by (with_reducible repeat (first | refine blk_drewN ?_ _ | refine blk_drew ?_ | refine blk_alloc ?_ _)); exact BK154.out)) : gb154 ≠ gb155)); have n6_ := Aside0.mk ((by rw [hg]; exact Nat.ne_of_gt (blk_lt (g := gb154) (o := .cells #[.string a1_0, .int .i64 a1_1, .int .i64 a1_2, .int .i64 a1_3] 25 (0, 0)) (by (with_reducible repeat (first | refine blk_drewN ?_ _ | refine blk_drew ?_ | refine blk_alloc ?_ _)); exact BK154.out)) : gb155 ≠ gb154)); clear BK154; clear HB; have BK154 := n0_; have HB := n1_; have BK155 := n2_; have GW155 := n3_; have GE155 := n4_; have NB154_155 := n5_; have NB155_154 := n6_; clear n0_ n1_ n2_ n3_ n4_ n5_ n6_; clear hb hbox hg)))
  go_loopg [5] k (fun kq v5 w' => ∃ (x5_1 : Int) (x156000_1 : ByteArray) (x156001_1 : Int) (x156002_1 : Int) (x156003_1 : Int) (x156004_1 : Int) (x156005_1 : Int), v5 = .int .i64 x5_1 ∧ Aside0 (contangoref15_Find.l0 kq l0 x5_1 a1_0 a1_1 a1_2 a1_3 = some (r1, r2, r3, r4, r5, r6)) ∧ Aside0 (kq ≤ k) ∧ Aside0 (w'.heap[gb154]? = some (.cells #[.string a1_0, .int .i64 a1_1, .int .i64 a1_2, .int .i64 a1_3] 25 (0, 0))) ∧ Aside0 (w'.heap[gb155]? = some (.cells #[.string x156000_1, .int .i64 x156001_1, .int .i64 x156002_1, .int .i64 x156003_1, .int .i64 x156004_1, .int .i64 x156005_1] 27 (0, 0))) ∧ Aside0 (Below w.heap.size w w'))
  case atStart => exact ⟨(0), ((⟨#[]⟩ : ByteArray)), (0), (0), (0), (0), (0), (by first | rfl | (simp; done) | (simp [*]; done)), H', ⟨Nat.le_refl _⟩, ⟨by (with_reducible repeat (first | refine blk_drewN ?_ _ | refine blk_drew ?_ | refine blk_alloc ?_ _)); exact BK154.out⟩, ⟨by (with_reducible repeat (first | refine blk_drewN ?_ _ | refine blk_drew ?_ | refine blk_alloc ?_ _)); exact BK155.out⟩, ⟨by repeat (first | (with_reducible first | exact HB.out | apply below_alloc | apply pw_below_drewN | apply below_drew1 | refine below_set ?_ GE154.out | refine below_set ?_ GE155.out) | exact HB.out)⟩⟩
  case round =>
    clear H'
    try clear c1
    try clear p2
    obtain ⟨x5_1, x156000_1, x156001_1, x156002_1, x156003_1, x156004_1, x156005_1, rfl, HA, HK1, BK154, BK155, HB⟩ := hrel
    cases gk with
    | zero => exact absurd HA.out (by simp [contangoref15_Find.l0])
    | succ k1 =>
      have H := HA.out
      clear HA
      simp only [contangoref15_Find.l0] at H
      by_cases c5 : x5_1 < (l0.length : Int)
      · rw [if_pos c5] at H
        have c5b0 : decide (x5_1 < (l0.length : Int)) = true := decide_eq_true c5
        clear c5
        by_cases c6 : 0 ≤ x5_1
        · rw [if_pos c6] at H
          have c6b0 : decide (0 ≤ x5_1) = true := decide_eq_true c6
          clear c6
          by_cases c7 : (eqD25 ((rd_T27 l0 x5_1).f0.f0) a1_0 ((rd_T27 l0 x5_1).f0.f1) a1_1 ((rd_T27 l0 x5_1).f0.f2) a1_2 ((rd_T27 l0 x5_1).f0.f3) a1_3) = true
          · rw [if_pos c7] at H
            have c7b0 : (eqD25 ((rd_T27 l0 x5_1).f0.f0) a1_0 ((rd_T27 l0 x5_1).f0.f1) a1_1 ((rd_T27 l0 x5_1).f0.f2) a1_2 ((rd_T27 l0 x5_1).f0.f3) a1_3) = true := c7
            clear c7
            simp only [Option.some.injEq, Prod.mk.injEq] at H
            obtain ⟨rfl, rfl, rfl, rfl, rfl, rfl⟩ := H
            have p156 : 0 ≤ (x5_1 : Int) := of_decide_eq_true (by first | (with_reducible assumption) | assumption)
            have q156 : x5_1 < (l0.length : Int) := of_decide_eq_true (by first | (with_reducible assumption) | assumption)
            obtain ⟨ad156, e156, hx156_0, hx156_1, hx156_2, hx156_3, hx156_4, hx156_5⟩ := at_T27 HR0.out x5_1 p156 q156
            cases e156
            replace hx156_0 := (HB.out.cell (World.block_lt_of_cell? w _ hx156_0)).trans hx156_0
            replace hx156_1 := (HB.out.cell (World.block_lt_of_cell? w _ hx156_1)).trans hx156_1
            replace hx156_2 := (HB.out.cell (World.block_lt_of_cell? w _ hx156_2)).trans hx156_2
            replace hx156_3 := (HB.out.cell (World.block_lt_of_cell? w _ hx156_3)).trans hx156_3
            replace hx156_4 := (HB.out.cell (World.block_lt_of_cell? w _ hx156_4)).trans hx156_4
            replace hx156_5 := (HB.out.cell (World.block_lt_of_cell? w _ hx156_5)).trans hx156_5
            replace p156 := eq_true p156
            replace q156 := eq_true q156
            have hnb8 := NB154_155.out
            have hnc8 := NB155_154.out
            have hcz9_0 : wr.cell? ⟨gb154, 0, none⟩ = some (.string a1_0) := (blk_cell BK154.out 0).trans rfl
            have hcz9_1 : wr.cell? ⟨gb154, 1, none⟩ = some (.int .i64 a1_1) := (blk_cell BK154.out 1).trans rfl
            have hcz9_2 : wr.cell? ⟨gb154, 2, none⟩ = some (.int .i64 a1_2) := (blk_cell BK154.out 2).trans rfl
            have hcz9_3 : wr.cell? ⟨gb154, 3, none⟩ = some (.int .i64 a1_3) := (blk_cell BK154.out 3).trans rfl
            have hfz9_0 := blk_frozen BK154.out 0
            have hfz9_1 := blk_frozen BK154.out 1
            have hfz9_2 := blk_frozen BK154.out 2
            have hfz9_3 := blk_frozen BK154.out 3
            have p157 : 0 ≤ (x5_1 : Int) := of_decide_eq_true (by first | (with_reducible assumption) | assumption)
            have q157 : x5_1 < (l0.length : Int) := of_decide_eq_true (by first | (with_reducible assumption) | assumption)
            obtain ⟨ad157, e157, hx157_0, hx157_1, hx157_2, hx157_3, hx157_4, hx157_5⟩ := at_T27 HR0.out x5_1 p157 q157
            obtain rfl : ad156 = ad157 := (by injection e157)
            replace hx157_0 := (HB.out.cell (World.block_lt_of_cell? w _ hx157_0)).trans hx157_0
            replace hx157_1 := (HB.out.cell (World.block_lt_of_cell? w _ hx157_1)).trans hx157_1
            replace hx157_2 := (HB.out.cell (World.block_lt_of_cell? w _ hx157_2)).trans hx157_2
            replace hx157_3 := (HB.out.cell (World.block_lt_of_cell? w _ hx157_3)).trans hx157_3
            replace hx157_4 := (HB.out.cell (World.block_lt_of_cell? w _ hx157_4)).trans hx157_4
            replace hx157_5 := (HB.out.cell (World.block_lt_of_cell? w _ hx157_5)).trans hx157_5
            replace p157 := eq_true p157
            replace q157 := eq_true q157
            have hcz10_0 : wr.cell? ⟨gb155, 0, none⟩ = some (.string x156000_1) := (blk_cell BK155.out 0).trans rfl
            have hcz10_1 : wr.cell? ⟨gb155, 1, none⟩ = some (.int .i64 x156001_1) := (blk_cell BK155.out 1).trans rfl
            have hcz10_2 : wr.cell? ⟨gb155, 2, none⟩ = some (.int .i64 x156002_1) := (blk_cell BK155.out 2).trans rfl
            have hcz10_3 : wr.cell? ⟨gb155, 3, none⟩ = some (.int .i64 x156003_1) := (blk_cell BK155.out 3).trans rfl
            have hcz10_4 : wr.cell? ⟨gb155, 4, none⟩ = some (.int .i64 x156004_1) := (blk_cell BK155.out 4).trans rfl
            have hcz10_5 : wr.cell? ⟨gb155, 5, none⟩ = some (.int .i64 x156005_1) := (blk_cell BK155.out 5).trans rfl
            have hfz10_0 := blk_frozen BK155.out 0
            have hfz10_1 := blk_frozen BK155.out 1
            have hfz10_2 := blk_frozen BK155.out 2
            have hfz10_3 := blk_frozen BK155.out 3
            have hfz10_4 := blk_frozen BK155.out 4
            have hfz10_5 := blk_frozen BK155.out 5
            go_wp2
            repeat (go_quiet (fail); try go_wp2)
            refine bodyPost_ret (results_cell_row rfl _ _ gb155 27 #[.string ((rd_T27 l0 x5_1).f0.f0), .int .i64 ((rd_T27 l0 x5_1).f0.f1), .int .i64 ((rd_T27 l0 x5_1).f0.f2), .int .i64 ((rd_T27 l0 x5_1).f0.f3), .int .i64 ((rd_T27 l0 x5_1).f1), .int .i64 ((rd_T27 l0 x5_1).f2)] (0, 0) _ rfl (by (with_reducible repeat (first | refine blk_drewN ?_ _ | refine blk_drew ?_ | refine blk_alloc ?_ _)); refine blk_put (cs := #[.string ((rd_T27 l0 x5_1).f0.f0), .int .i64 ((rd_T27 l0 x5_1).f0.f1), .int .i64 ((rd_T27 l0 x5_1).f0.f2), .int .i64 ((rd_T27 l0 x5_1).f0.f3), .int .i64 ((rd_T27 l0 x5_1).f1), .int .i64 x156005_1]) ?_ 5 _ rfl; (with_reducible repeat (first | refine blk_drewN ?_ _ | refine blk_drew ?_ | refine blk_alloc ?_ _)); refine blk_put (cs := #[.string ((rd_T27 l0 x5_1).f0.f0), .int .i64 ((rd_T27 l0 x5_1).f0.f1), .int .i64 ((rd_T27 l0 x5_1).f0.f2), .int .i64 ((rd_T27 l0 x5_1).f0.f3), .int .i64 x156004_1, .int .i64 x156005_1]) ?_ 4 _ rfl; (with_reducible repeat (first | refine blk_drewN ?_ _ | refine blk_drew ?_ | refine blk_alloc ?_ _)); refine blk_put (cs := #[.string ((rd_T27 l0 x5_1).f0.f0), .int .i64 ((rd_T27 l0 x5_1).f0.f1), .int .i64 ((rd_T27 l0 x5_1).f0.f2), .int .i64 x156003_1, .int .i64 x156004_1, .int .i64 x156005_1]) ?_ 3 _ rfl; (with_reducible repeat (first | refine blk_drewN ?_ _ | refine blk_drew ?_ | refine blk_alloc ?_ _)); refine blk_put (cs := #[.string ((rd_T27 l0 x5_1).f0.f0), .int .i64 ((rd_T27 l0 x5_1).f0.f1), .int .i64 x156002_1, .int .i64 x156003_1, .int .i64 x156004_1, .int .i64 x156005_1]) ?_ 2 _ rfl; (with_reducible repeat (first | refine blk_drewN ?_ _ | refine blk_drew ?_ | refine blk_alloc ?_ _)); refine blk_put (cs := #[.string ((rd_T27 l0 x5_1).f0.f0), .int .i64 x156001_1, .int .i64 x156002_1, .int .i64 x156003_1, .int .i64 x156004_1, .int .i64 x156005_1]) ?_ 1 _ rfl; (with_reducible repeat (first | refine blk_drewN ?_ _ | refine blk_drew ?_ | refine blk_alloc ?_ _)); refine blk_put (cs := #[.string x156000_1, .int .i64 x156001_1, .int .i64 x156002_1, .int .i64 x156003_1, .int .i64 x156004_1, .int .i64 x156005_1]) ?_ 0 _ rfl; (with_reducible repeat (first | refine blk_drewN ?_ _ | refine blk_drew ?_ | refine blk_alloc ?_ _)); exact BK155.out) Try.underlying27 rfl (by kernel_rfl)) rfl ?_
            exact ⟨by first | rfl | (simp [errW_none, errW_some] <;> rfl) | (simp [*, errW_none, errW_some] <;> rfl), by repeat (first | (with_reducible first | exact HB.out | apply below_alloc | apply pw_below_drewN | apply below_drew1 | refine below_set ?_ GE154.out | refine below_set ?_ GE155.out) | exact HB.out)⟩
          · rw [if_neg c7] at H
            have c7b0 : (eqD25 ((rd_T27 l0 x5_1).f0.f0) a1_0 ((rd_T27 l0 x5_1).f0.f1) a1_1 ((rd_T27 l0 x5_1).f0.f2) a1_2 ((rd_T27 l0 x5_1).f0.f3) a1_3) = false := by simpa using c7
            clear c7
            have H' := Aside0.mk H
            clear H
            have p156 : 0 ≤ (x5_1 : Int) := of_decide_eq_true (by first | (with_reducible assumption) | assumption)
            have q156 : x5_1 < (l0.length : Int) := of_decide_eq_true (by first | (with_reducible assumption) | assumption)
            obtain ⟨ad156, e156, hx156_0, hx156_1, hx156_2, hx156_3, hx156_4, hx156_5⟩ := at_T27 HR0.out x5_1 p156 q156
            cases e156
            replace hx156_0 := (HB.out.cell (World.block_lt_of_cell? w _ hx156_0)).trans hx156_0
            replace hx156_1 := (HB.out.cell (World.block_lt_of_cell? w _ hx156_1)).trans hx156_1
            replace hx156_2 := (HB.out.cell (World.block_lt_of_cell? w _ hx156_2)).trans hx156_2
            replace hx156_3 := (HB.out.cell (World.block_lt_of_cell? w _ hx156_3)).trans hx156_3
            replace hx156_4 := (HB.out.cell (World.block_lt_of_cell? w _ hx156_4)).trans hx156_4
            replace hx156_5 := (HB.out.cell (World.block_lt_of_cell? w _ hx156_5)).trans hx156_5
            replace p156 := eq_true p156
            replace q156 := eq_true q156
            have hnb11 := NB154_155.out
            have hnc11 := NB155_154.out
            have hcz12_0 : wr.cell? ⟨gb154, 0, none⟩ = some (.string a1_0) := (blk_cell BK154.out 0).trans rfl
            have hcz12_1 : wr.cell? ⟨gb154, 1, none⟩ = some (.int .i64 a1_1) := (blk_cell BK154.out 1).trans rfl
            have hcz12_2 : wr.cell? ⟨gb154, 2, none⟩ = some (.int .i64 a1_2) := (blk_cell BK154.out 2).trans rfl
            have hcz12_3 : wr.cell? ⟨gb154, 3, none⟩ = some (.int .i64 a1_3) := (blk_cell BK154.out 3).trans rfl
            have hfz12_0 := blk_frozen BK154.out 0
            have hfz12_1 := blk_frozen BK154.out 1
            have hfz12_2 := blk_frozen BK154.out 2
            have hfz12_3 := blk_frozen BK154.out 3
            go_wp2
            repeat (go_quiet (fail); try go_wp2)
            go_roundg k1
            case measure => have := HK1.out; omega
            case rel => exact ⟨(wrap64 (x5_1 + 1)), (x156000_1), (x156001_1), (x156002_1), (x156003_1), (x156004_1), (x156005_1), (by first | rfl | (simp; done) | (simp [*]; done)), H', ⟨by have := HK1.out; omega⟩, ⟨by (with_reducible repeat (first | refine blk_drewN ?_ _ | refine blk_drew ?_ | refine blk_alloc ?_ _)); exact BK154.out⟩, ⟨by (with_reducible repeat (first | refine blk_drewN ?_ _ | refine blk_drew ?_ | refine blk_alloc ?_ _)); exact BK155.out⟩, ⟨by repeat (first | (with_reducible first | exact HB.out | apply below_alloc | apply pw_below_drewN | apply below_drew1 | refine below_set ?_ GE154.out | refine below_set ?_ GE155.out) | exact HB.out)⟩⟩
        · rw [if_neg c6] at H
          exact absurd H (by simp)
      · rw [if_neg c5] at H
        have c5b0 : decide (x5_1 < (l0.length : Int)) = false := decide_eq_false c5
        clear c5
        simp only [Option.some.injEq, Prod.mk.injEq] at H
        obtain ⟨rfl, rfl, rfl, rfl, rfl, rfl⟩ := H
        have hnb13 := NB154_155.out
        have hnc13 := NB155_154.out
        have hcz14_0 : wr.cell? ⟨gb154, 0, none⟩ = some (.string a1_0) := (blk_cell BK154.out 0).trans rfl
        have hcz14_1 : wr.cell? ⟨gb154, 1, none⟩ = some (.int .i64 a1_1) := (blk_cell BK154.out 1).trans rfl
        have hcz14_2 : wr.cell? ⟨gb154, 2, none⟩ = some (.int .i64 a1_2) := (blk_cell BK154.out 2).trans rfl
        have hcz14_3 : wr.cell? ⟨gb154, 3, none⟩ = some (.int .i64 a1_3) := (blk_cell BK154.out 3).trans rfl
        have hfz14_0 := blk_frozen BK154.out 0
        have hfz14_1 := blk_frozen BK154.out 1
        have hfz14_2 := blk_frozen BK154.out 2
        have hfz14_3 := blk_frozen BK154.out 3
        have hcz15_0 : wr.cell? ⟨gb155, 0, none⟩ = some (.string x156000_1) := (blk_cell BK155.out 0).trans rfl
        have hcz15_1 : wr.cell? ⟨gb155, 1, none⟩ = some (.int .i64 x156001_1) := (blk_cell BK155.out 1).trans rfl
        have hcz15_2 : wr.cell? ⟨gb155, 2, none⟩ = some (.int .i64 x156002_1) := (blk_cell BK155.out 2).trans rfl
        have hcz15_3 : wr.cell? ⟨gb155, 3, none⟩ = some (.int .i64 x156003_1) := (blk_cell BK155.out 3).trans rfl
        have hcz15_4 : wr.cell? ⟨gb155, 4, none⟩ = some (.int .i64 x156004_1) := (blk_cell BK155.out 4).trans rfl
        have hcz15_5 : wr.cell? ⟨gb155, 5, none⟩ = some (.int .i64 x156005_1) := (blk_cell BK155.out 5).trans rfl
        have hfz15_0 := blk_frozen BK155.out 0
        have hfz15_1 := blk_frozen BK155.out 1
        have hfz15_2 := blk_frozen BK155.out 2
        have hfz15_3 := blk_frozen BK155.out 3
        have hfz15_4 := blk_frozen BK155.out 4
        have hfz15_5 := blk_frozen BK155.out 5
        go_wp2
        repeat (go_quiet (fail); try go_wp2)
        refine bodyPost_ret (results_cell_row rfl _ _ gb155 27 #[.string a1_0, .int .i64 a1_1, .int .i64 a1_2, .int .i64 a1_3, .int .i64 0, .int .i64 0] (0, 0) _ rfl (by (with_reducible repeat (first | refine blk_drewN ?_ _ | refine blk_drew ?_ | refine blk_alloc ?_ _)); refine blk_put (cs := #[.string a1_0, .int .i64 a1_1, .int .i64 a1_2, .int .i64 a1_3, .int .i64 0, .int .i64 x156005_1]) ?_ 5 _ rfl; (with_reducible repeat (first | refine blk_drewN ?_ _ | refine blk_drew ?_ | refine blk_alloc ?_ _)); refine blk_put (cs := #[.string a1_0, .int .i64 a1_1, .int .i64 a1_2, .int .i64 a1_3, .int .i64 x156004_1, .int .i64 x156005_1]) ?_ 4 _ rfl; (with_reducible repeat (first | refine blk_drewN ?_ _ | refine blk_drew ?_ | refine blk_alloc ?_ _)); refine blk_put (cs := #[.string a1_0, .int .i64 a1_1, .int .i64 a1_2, .int .i64 x156003_1, .int .i64 x156004_1, .int .i64 x156005_1]) ?_ 3 _ rfl; (with_reducible repeat (first | refine blk_drewN ?_ _ | refine blk_drew ?_ | refine blk_alloc ?_ _)); refine blk_put (cs := #[.string a1_0, .int .i64 a1_1, .int .i64 x156002_1, .int .i64 x156003_1, .int .i64 x156004_1, .int .i64 x156005_1]) ?_ 2 _ rfl; (with_reducible repeat (first | refine blk_drewN ?_ _ | refine blk_drew ?_ | refine blk_alloc ?_ _)); refine blk_put (cs := #[.string a1_0, .int .i64 x156001_1, .int .i64 x156002_1, .int .i64 x156003_1, .int .i64 x156004_1, .int .i64 x156005_1]) ?_ 1 _ rfl; (with_reducible repeat (first | refine blk_drewN ?_ _ | refine blk_drew ?_ | refine blk_alloc ?_ _)); refine blk_put (cs := #[.string x156000_1, .int .i64 x156001_1, .int .i64 x156002_1, .int .i64 x156003_1, .int .i64 x156004_1, .int .i64 x156005_1]) ?_ 0 _ rfl; (with_reducible repeat (first | refine blk_drewN ?_ _ | refine blk_drew ?_ | refine blk_alloc ?_ _)); exact BK155.out) Try.underlying27 rfl (by kernel_rfl)) rfl ?_
        exact ⟨by first | rfl | (simp [errW_none, errW_some] <;> rfl) | (simp [*, errW_none, errW_some] <;> rfl), by repeat (first | (with_reducible first | exact HB.out | apply below_alloc | apply pw_below_drewN | apply below_drew1 | refine below_set ?_ GE154.out | refine below_set ?_ GE155.out) | exact HB.out)⟩

/-! ### option_Ends: function 40 -/
def option_Ends.f (k : Nat) (a0_0 : ByteArray) (a0_1 : Int) (a0_2 : Int) (a0_3 : Int) (a1 : Int) : Option (Bool) := (option_Intrinsic.f k a0_0 a0_1 a0_2 a0_3 a1).bind fun t159 => (some (decide (t159 > 0)))
theorem option_Ends.mono : ∀ a0 a1 a2 a3 a4 k, LeO (option_Ends.f k a0 a1 a2 a3 a4) (option_Ends.f (k + 1) a0 a1 a2 a3 a4) := by
  intro a0 a1 a2 a3 a4 k
  unfold option_Ends.f
  repeat' first
      | (with_reducible exact option_Intrinsic.mono _ _ _ _ _ _)
      | (with_reducible exact LeO.refl _)
      | (with_reducible exact LeO.none _)
      | (with_reducible refine LeO.ite ?_ ?_)
      | (with_reducible refine LeO.bind ?_ (fun _ => ?_))
      | exact option_Intrinsic.mono _ _ _ _ _ _
      | exact LeO.none _
      | refine LeO.ite ?_ ?_
      | refine LeO.bind ?_ (fun _ => ?_)
set_option maxHeartbeats 8000000 in
set_option maxRecDepth 100000 in
theorem option_Ends.calls (k : Nat) (a0_0 : ByteArray) (a0_1 : Int) (a0_2 : Int) (a0_3 : Int) (a1 : Int) (r : Bool) (w : World) (h : option_Ends.f k a0_0 a0_1 a0_2 a0_3 a1 = some r) :
    Calls Try.prog 40 #[.agg #[.string a0_0, .int .i64 a0_1, .int .i64 a0_2, .int .i64 a0_3], .int .i64 a1] w fun e w' => e = .returned (.bool r) ∧ Below w.heap.size w w' := by
  have hu25 := Try.underlying25
  have HB := Aside0.mk (Below.refl w.heap.size w)
  have H : ((option_Intrinsic.f k a0_0 a0_1 a0_2 a0_3 a1).bind fun t159 => (some (decide (t159 > 0)))) = some r := h
  clear h
  replace H := Option.bind_eq_some_iff.mp H
  obtain ⟨t159, A30, H⟩ := H
  replace H : (some (decide (t159 > 0))) = some r := H
  have A3 := Aside0.mk A30
  clear A30
  obtain rfl := Option.some.inj H
  go_enter Try.func40, Try.ntmps40
  go_wp2_with (first | ((with_reducible refine gate_dst (N := 2) rfl ?_); refine box_event ?hg (N := 2) ?hd (cs := #[.string a0_0, .int .i64 a0_1, .int .i64 a0_2, .int .i64 a0_3]) (t := 25) ?hr ?_; (case hd => rfl); (case hg => rfl); (case hr => first | (go_simp; done) | (go_simp; rfl)); intro gb158 hg w4 hbox hb; have n0_ := Aside0.mk (below_step (by repeat (first | (with_reducible first | exact HB.out | apply below_alloc | apply pw_below_drewN | apply below_drew1) | exact HB.out)) hb); have n1_ := Aside0.mk (hbox); have n2_ := Aside0.mk ((by rw [hg]; exact (below_size (by repeat (first | (with_reducible first | exact HB.out | apply below_alloc | apply pw_below_drewN | apply below_drew1) | exact HB.out))) : w.heap.size ≤ gb158)); have n3_ := Aside0.mk ((by rw [hg]; exact (below_size (by repeat (first | (with_reducible first | exact HB.out | apply below_alloc | apply pw_below_drewN | apply below_drew1) | exact HB.out))) : w.heap.size ≤ gb158)); clear HB; have HB := n0_; have BK158 := n1_; have GW158 := n2_; have GE158 := n3_; clear n0_ n1_ n2_ n3_; clear hb hbox hg; have hcz5_0 : w4.cell? ⟨gb158, 0, none⟩ = some (.string a0_0) := (blk_cell BK158.out 0).trans rfl; have hcz5_1 : w4.cell? ⟨gb158, 1, none⟩ = some (.int .i64 a0_1) := (blk_cell BK158.out 1).trans rfl; have hcz5_2 : w4.cell? ⟨gb158, 2, none⟩ = some (.int .i64 a0_2) := (blk_cell BK158.out 2).trans rfl; have hcz5_3 : w4.cell? ⟨gb158, 3, none⟩ = some (.int .i64 a0_3) := (blk_cell BK158.out 3).trans rfl; have hfz5_0 := blk_frozen BK158.out 0; have hfz5_1 := blk_frozen BK158.out 1; have hfz5_2 := blk_frozen BK158.out 2; have hfz5_3 := blk_frozen BK158.out 3) | ((with_reducible refine gate_callee (f := 28) rfl ?_); refine goesL_ (some 7) rfl rfl Try.func28 (by kernel_rfl) rfl #[.agg #[.string a0_0, .int .i64 a0_1, .int .i64 a0_2, .int .i64 a0_3], .int .i64 a1] rfl (by (try simp only [List.map_toArray, List.map_cons, List.map_nil]); first | done | rfl | (simp only [List.length_drop, List.length_take]; rfl)) ?_; (with_reducible refine (option_Intrinsic.calls k a0_0 a0_1 a0_2 a0_3 a1 t159 _ A3.out).mono ?_); rintro e w6 ⟨rfl, hb⟩; refine ⟨_, rfl, ?_⟩; have n0_ := Aside0.mk (blk_below (g := gb158) (o := .cells #[.string a0_0, .int .i64 a0_1, .int .i64 a0_2, .int .i64 a0_3] 25 (0, 0)) (by (with_reducible repeat (first | refine blk_drewN ?_ _ | refine blk_drew ?_ | refine blk_alloc ?_ _)); exact BK158.out) hb); have n1_ := Aside0.mk (below_step (by repeat (first | (with_reducible first | exact HB.out | apply below_alloc | apply pw_below_drewN | apply below_drew1 | refine below_set ?_ GE158.out) | exact HB.out)) hb); clear BK158; clear HB; have BK158 := n0_; have HB := n1_; clear n0_ n1_; (try clear hb); (try clear hb2); (try clear hk); (try clear hi)))
  go_ret
  exact ⟨by first | rfl | (simp [errW_none, errW_some] <;> rfl) | (simp [*, errW_none, errW_some] <;> rfl), by repeat (first | (with_reducible first | exact HB.out | apply below_alloc | apply pw_below_drewN | apply below_drew1 | refine below_set ?_ GE158.out) | exact HB.out)⟩

/-! ### expiry_Exercised: function 15 -/
def expiry_Exercised.f (k : Nat) (l0 : List S47) (a1_0 : ByteArray) (a1_1 a1_2 a1_3 : Int) (a2 : Int) : Option (List S49 × Int) :=
  (expiry_check.f k l0).bind fun e => if e = 0 then ((option_Ends.f k a1_0 a1_1 a1_2 a1_3 a2).bind fun b => if b = true then (if l0.length ≤ 1000000 then ((sides_go (fun a _ => a) a1_0 a1_1 a1_2 a1_3 l0).bind fun t => some (t, 0)) else none) else some ([], 0)) else some ([], e)
theorem expiry_Exercised.mono : ∀ a0 a1 a2 a3 a4 a5 k, LeO (expiry_Exercised.f k a0 a1 a2 a3 a4 a5) (expiry_Exercised.f (k + 1) a0 a1 a2 a3 a4 a5) := by
  intro a0 a1 a2 a3 a4 a5 k
  unfold expiry_Exercised.f
  exact LeO.bind (expiry_check.mono _ _) (fun e => LeO.ite (LeO.bind (option_Ends.mono _ _ _ _ _ _) (fun b => LeO.refl _)) (LeO.refl _))
theorem expiry_Exercised.side : SideFn 41 (fun a _ => a) := by
  intro W x0 x1 x2 x3 x4 x5
  go_enter Try.func41, Try.ntmps41
  go_wp2
  go_ret
  exact ⟨rfl, (Below.refl _ _).alloc (Nat.le_refl _) _⟩
set_option maxHeartbeats 3200000 in
set_option maxRecDepth 100000 in
theorem expiry_Exercised.calls (k : Nat) (A0 : Option Addr) (c0 : Nat) (l0 : List (S47)) (a1_0 : ByteArray) (a1_1 a1_2 a1_3 : Int) (a2 : Int) (r1 : List S49) (r2 : Int) (w : World) (hr0 : Kd.C k47 w A0 l0.length l0) (hc0 : l0.length ≤ c0) (h : expiry_Exercised.f k l0 a1_0 a1_1 a1_2 a1_3 a2 = some (r1, r2)) :
    Calls Try.prog 15 #[.slice A0 l0.length c0, .agg #[.string a1_0, .int .i64 a1_1, .int .i64 a1_2, .int .i64 a1_3], .int .i64 a2] w fun e w' => ∃ v0_ : Value, e = .returned (.tuple #[v0_, .int .i64 r2]) ∧ Kd.R k49 49 w' w.heap.size (fun _ => True) v0_ r1 ∧ Below w.heap.size w w' := by
  have HR0 := Aside0.mk hr0
  have HC0 := Aside0.mk hc0
  obtain ⟨e, hE, h⟩ := Option.bind_eq_some_iff.mp h
  have HE := Aside0.mk hE
  clear hr0 hc0 hE
  by_cases he : e = 0
  case neg =>
    rw [if_neg he] at h
    have h2 := Option.some.inj h
    simp only [Prod.mk.injEq] at h2
    obtain ⟨rfl, rfl⟩ := h2
    have h0b : (e == 0) = false := beq_eq_false_iff_ne.mpr he
    have h1b : (e != 0) = true := bne_iff_ne.mpr he
    clear he h
    go_enter Try.func15, Try.ntmps15
    go_wp2_with (go_at_call 35; refine (expiry_check.calls k A0 c0 l0 e _ (Kd.C_alloc HR0.out _) HC0.out HE.out).mono ?_; rintro _ w1 ⟨rfl, hb⟩; have BS := Aside0.mk (blk_below (blk_new w (.cells #[.string a1_0, .int .i64 a1_1, .int .i64 a1_2, .int .i64 a1_3] 25 (0, 0))) hb); have HB := Aside0.mk (below_step (below_alloc (Below.refl _ w) (.cells #[.string a1_0, .int .i64 a1_1, .int .i64 a1_2, .int .i64 a1_3] 25 (0, 0))) hb); clear hb; have s0_ : w1.cell? ⟨w.heap.size, 0, none⟩ = some (.string a1_0) := (blk_cell BS.out 0).trans rfl; have s1_ : w1.cell? ⟨w.heap.size, 1, none⟩ = some (.int .i64 a1_1) := (blk_cell BS.out 1).trans rfl; have s2_ : w1.cell? ⟨w.heap.size, 2, none⟩ = some (.int .i64 a1_2) := (blk_cell BS.out 2).trans rfl; have s3_ : w1.cell? ⟨w.heap.size, 3, none⟩ = some (.int .i64 a1_3) := (blk_cell BS.out 3).trans rfl; have hltS := blk_lt BS.out)
    go_ret2
    exact ⟨_, rfl, Kd.R_nil _ _ _ _ _, HB.out⟩
  subst he
  rw [if_pos rfl] at h
  obtain ⟨b, hN, h⟩ := Option.bind_eq_some_iff.mp h
  have HN := Aside0.mk hN
  clear hN
  cases b with
  | false =>
    rw [if_neg (by decide)] at h
    have h2 := Option.some.inj h
    simp only [Prod.mk.injEq] at h2
    obtain ⟨rfl, rfl⟩ := h2
    clear h
    go_enter Try.func15, Try.ntmps15
    go_wp2_with (first | (go_at_call 35; refine (expiry_check.calls k A0 c0 l0 0 _ (Kd.C_alloc HR0.out _) HC0.out HE.out).mono ?_; rintro _ w1 ⟨rfl, hb⟩; have BS := Aside0.mk (blk_below (blk_new w (.cells #[.string a1_0, .int .i64 a1_1, .int .i64 a1_2, .int .i64 a1_3] 25 (0, 0))) hb); have HB := Aside0.mk (below_step (below_alloc (Below.refl _ w) (.cells #[.string a1_0, .int .i64 a1_1, .int .i64 a1_2, .int .i64 a1_3] 25 (0, 0))) hb); clear hb; have s0_ : w1.cell? ⟨w.heap.size, 0, none⟩ = some (.string a1_0) := (blk_cell BS.out 0).trans rfl; have s1_ : w1.cell? ⟨w.heap.size, 1, none⟩ = some (.int .i64 a1_1) := (blk_cell BS.out 1).trans rfl; have s2_ : w1.cell? ⟨w.heap.size, 2, none⟩ = some (.int .i64 a1_2) := (blk_cell BS.out 2).trans rfl; have s3_ : w1.cell? ⟨w.heap.size, 3, none⟩ = some (.int .i64 a1_3) := (blk_cell BS.out 3).trans rfl; have hltS := blk_lt BS.out) | (go_at_call 40; refine (option_Ends.calls k a1_0 a1_1 a1_2 a1_3 a2 false _ HN.out).mono ?_; rintro _ w2 ⟨rfl, hb⟩; have BS2 := Aside0.mk (blk_below BS.out hb); have HB2 := Aside0.mk (below_step HB.out hb); clear hb s0_ s1_ s2_ s3_ hltS; have s0_ : w2.cell? ⟨w.heap.size, 0, none⟩ = some (.string a1_0) := (blk_cell BS2.out 0).trans rfl; have s1_ : w2.cell? ⟨w.heap.size, 1, none⟩ = some (.int .i64 a1_1) := (blk_cell BS2.out 1).trans rfl; have s2_ : w2.cell? ⟨w.heap.size, 2, none⟩ = some (.int .i64 a1_2) := (blk_cell BS2.out 2).trans rfl; have s3_ : w2.cell? ⟨w.heap.size, 3, none⟩ = some (.int .i64 a1_3) := (blk_cell BS2.out 3).trans rfl; have hltS := blk_lt BS2.out))
    go_ret2
    exact ⟨_, rfl, Kd.R_nil _ _ _ _ _, HB2.out⟩
  | true =>
    rw [if_pos rfl] at h
    by_cases hln : l0.length ≤ 1000000
    case neg => rw [if_neg hln] at h; cases h
    rw [if_pos hln] at h
    obtain ⟨t, hT, h⟩ := Option.bind_eq_some_iff.mp h
    have h2 := Option.some.inj h
    simp only [Prod.mk.injEq] at h2
    obtain ⟨rfl, rfl⟩ := h2
    have HT := Aside0.mk hT
    have HLN := Aside0.mk (Nat.le_trans (sides_length _ _ _ _ _ _ _ hT) hln)
    clear h hT hln
    go_enter Try.func15, Try.ntmps15
    go_wp2_with (first | (go_at_call 35; refine (expiry_check.calls k A0 c0 l0 0 _ (Kd.C_alloc HR0.out _) HC0.out HE.out).mono ?_; rintro _ w1 ⟨rfl, hb⟩; have BS := Aside0.mk (blk_below (blk_new w (.cells #[.string a1_0, .int .i64 a1_1, .int .i64 a1_2, .int .i64 a1_3] 25 (0, 0))) hb); have HB := Aside0.mk (below_step (below_alloc (Below.refl _ w) (.cells #[.string a1_0, .int .i64 a1_1, .int .i64 a1_2, .int .i64 a1_3] 25 (0, 0))) hb); clear hb; have s0_ : w1.cell? ⟨w.heap.size, 0, none⟩ = some (.string a1_0) := (blk_cell BS.out 0).trans rfl; have s1_ : w1.cell? ⟨w.heap.size, 1, none⟩ = some (.int .i64 a1_1) := (blk_cell BS.out 1).trans rfl; have s2_ : w1.cell? ⟨w.heap.size, 2, none⟩ = some (.int .i64 a1_2) := (blk_cell BS.out 2).trans rfl; have s3_ : w1.cell? ⟨w.heap.size, 3, none⟩ = some (.int .i64 a1_3) := (blk_cell BS.out 3).trans rfl; have hltS := blk_lt BS.out) | (go_at_call 40; refine (option_Ends.calls k a1_0 a1_1 a1_2 a1_3 a2 true _ HN.out).mono ?_; rintro _ w2 ⟨rfl, hb⟩; have BS2 := Aside0.mk (blk_below BS.out hb); have HB2 := Aside0.mk (below_step HB.out hb); clear hb s0_ s1_ s2_ s3_ hltS; have s0_ : w2.cell? ⟨w.heap.size, 0, none⟩ = some (.string a1_0) := (blk_cell BS2.out 0).trans rfl; have s1_ : w2.cell? ⟨w.heap.size, 1, none⟩ = some (.int .i64 a1_1) := (blk_cell BS2.out 1).trans rfl; have s2_ : w2.cell? ⟨w.heap.size, 2, none⟩ = some (.int .i64 a1_2) := (blk_cell BS2.out 2).trans rfl; have s3_ : w2.cell? ⟨w.heap.size, 3, none⟩ = some (.int .i64 a1_3) := (blk_cell BS2.out 3).trans rfl; have hltS := blk_lt BS2.out) | (go_at_call 37; refine (sides.calls A0 c0 l0.length a1_0 a1_1 a1_2 a1_3 41 _).mono ?_; rintro _ w3 ⟨rfl, rfl⟩; clear s0_ s1_ s2_ s3_ hltS) | (go_at_call 36; refine (Collect_api_Part.calls 63 _ (enters_of Try.func63 (by kernel_rfl) rfl) t HLN.out _ (sides_stops 41 (enters_of Try.func41 (by kernel_rfl) rfl) _ expiry_Exercised.side A0 c0 l0 a1_0 a1_1 a1_2 a1_3 t _ _ _ _ (blk_alloc (blk_alloc (blk_new w2 _) _) _) (by have := blk_new ((w2.alloc (.cells #[.slice A0 l0.length c0] 37)).alloc (.cells #[.string a1_0, .int .i64 a1_1, .int .i64 a1_2, .int .i64 a1_3] 25)) (.cells #[.func (.func 41) #[] #[]] 69 (0, 0)); simpa using this) (by have := blk_alloc (blk_new (w2.alloc (.cells #[.slice A0 l0.length c0] 37)) (.cells #[.string a1_0, .int .i64 a1_1, .int .i64 a1_2, .int .i64 a1_3] 25 (0, 0))) (.cells #[.func (.func 41) #[] #[]] 69 (0, 0)); simpa using this) (Kd.C_alloc (Kd.C_alloc (Kd.C_alloc (Kd.C_below HR0.out HB2.out) _) _) _) HT.out 4)).mono ?_; rintro _ w4 ⟨v, rfl, hR, hb⟩; have HR := Aside0.mk hR; have HB4 := Aside0.mk (below_step (below_alloc (below_alloc (below_alloc HB2.out _) _) _) hb); clear hR hb))
    go_ret2
    exact ⟨_, rfl, Kd.R_lower HR.out (by have := HB2.out.size; simp; omega), HB4.out⟩

/-! ### cents_Fits: function 77 -/
def cents_Fits.f (a0 : Int) : Option (Bool) := if a0 ≥ (-1152921504606846976) then (some (decide (a0 ≤ 1152921504606846976))) else (some false)
set_option maxHeartbeats 8000000 in
set_option maxRecDepth 100000 in
theorem cents_Fits.calls (a0 : Int) (r : Bool) (w : World) (h : cents_Fits.f a0 = some r) :
    Calls Try.prog 77 #[.int .i64 a0] w fun e w' => e = .returned (.bool r) ∧ Drawn0 w w' := by
  have H : (if a0 ≥ (-1152921504606846976) then (some (decide (a0 ≤ 1152921504606846976))) else (some false)) = some r := h
  clear h
  by_cases c2 : a0 ≥ (-1152921504606846976)
  · rw [if_pos c2] at H
    have c2b0 : decide ((-1152921504606846976) ≤ a0) = true := decide_eq_true c2
    clear c2
    obtain rfl := Option.some.inj H
    go_enter Try.func77, Try.ntmps77
    go_wp2
    go_ret
    exact ⟨by first | rfl | (simp; done) | (simp [*]; done), by repeat (first | exact Drawn0.refl _ | apply Drawn0.step)⟩
  · rw [if_neg c2] at H
    have c2b0 : decide ((-1152921504606846976) ≤ a0) = false := decide_eq_false c2
    clear c2
    obtain rfl := Option.some.inj H
    go_enter Try.func77, Try.ntmps77
    go_wp2
    go_ret
    exact ⟨by first | rfl | (simp; done) | (simp [*]; done), by repeat (first | exact Drawn0.refl _ | apply Drawn0.step)⟩

/-! ### cents_fitting: function 78 -/
def cents_fitting.f (a0 : Int) : Option (Int × Int) := (cents_Fits.f a0).bind fun t160 => (if t160 = true then (some (a0, 0)) else (some (0, 3)))
set_option maxHeartbeats 8000000 in
set_option maxRecDepth 100000 in
theorem cents_fitting.calls (a0 : Int) (r1 : Int) (r2 : Int) (w : World) (h : cents_fitting.f a0 = some (r1, r2)) :
    Calls Try.prog 78 #[.int .i64 a0] w fun e w' => e = .returned (.tuple #[.int .i64 r1, .int .i64 r2]) ∧ Drawn0 w w' := by
  have H : ((cents_Fits.f a0).bind fun t160 => (if t160 = true then (some (a0, 0)) else (some (0, 3)))) = some (r1, r2) := h
  clear h
  replace H := Option.bind_eq_some_iff.mp H
  obtain ⟨t160, A20, H⟩ := H
  replace H : (if t160 = true then (some (a0, 0)) else (some (0, 3))) = some (r1, r2) := H
  have A2 := Aside0.mk A20
  clear A20
  by_cases c3 : t160 = true
  · subst c3
    have H1 : (some (a0, 0)) = some (r1, r2) := by rw [if_pos rfl] at H; exact H
    clear H
    have H := H1
    clear H1
    simp only [Option.some.injEq, Prod.mk.injEq] at H
    obtain ⟨rfl, rfl⟩ := H
    go_enter Try.func78, Try.ntmps78
    go_wp2_with (first | ((with_reducible refine gate_callee (f := 77) rfl ?_); refine goesL_ (some 5) rfl rfl Try.func77 (by kernel_rfl) rfl #[.int .i64 a0] rfl (by (try simp only [List.map_toArray, List.map_cons, List.map_nil]); first | done | rfl | (simp only [List.length_drop, List.length_take]; rfl)) ?_; (with_reducible refine (cents_Fits.calls a0 true _ A2.out).mono ?_); rintro e w' ⟨rfl, ⟨nd, rfl⟩⟩; refine ⟨_, rfl, ?_⟩))
    go_ret2
    exact ⟨by first | rfl | (simp; done) | (simp [*]; done), by repeat (first | exact Drawn0.refl _ | apply Drawn0.step)⟩
  · replace c3 := Bool.eq_false_iff.mpr c3
    subst c3
    have H1 : (some (0, 3)) = some (r1, r2) := by rw [if_neg (show ¬ (false = true) by decide)] at H; exact H
    clear H
    have H := H1
    clear H1
    simp only [Option.some.injEq, Prod.mk.injEq] at H
    obtain ⟨rfl, rfl⟩ := H
    go_enter Try.func78, Try.ntmps78
    go_wp2_with (first | ((with_reducible refine gate_callee (f := 77) rfl ?_); refine goesL_ (some 5) rfl rfl Try.func77 (by kernel_rfl) rfl #[.int .i64 a0] rfl (by (try simp only [List.map_toArray, List.map_cons, List.map_nil]); first | done | rfl | (simp only [List.length_drop, List.length_take]; rfl)) ?_; (with_reducible refine (cents_Fits.calls a0 false _ A2.out).mono ?_); rintro e w' ⟨rfl, ⟨nd, rfl⟩⟩; refine ⟨_, rfl, ?_⟩))
    go_ret2
    exact ⟨by first | rfl | (simp; done) | (simp [*]; done), by repeat (first | exact Drawn0.refl _ | apply Drawn0.step)⟩

/-! ### cents_Sum: function 49 -/
def cents_Sum.l0 : Nat → List Int → Int → Int → Int → Int → Option (Int × Int)
  | 0, _, _, _, _, _ => none
  | k + 1, x0, x4, x5, x9, x10 => if x10 < x9 then (if 0 ≤ x10 then (if x10 < (x0.length : Int) then ((cents_Fits.f (rd x0 x10)).bind fun t162 => (if t162 = true then (cents_Sum.l0 k x0 (wrap64 (x4 + ((rd x0 x10) / 4294967296))) (wrap64 (x5 + (Go.bits .and .i64 (rd x0 x10) 4294967295))) x9 (wrap64 (x10 + 1))) else (some (0, 2)))) else (none)) else (none)) else (if (wrap64 (x4 + (x5 / 4294967296))) < (-268435456) then (some (0, 3)) else (if (wrap64 (x4 + (x5 / 4294967296))) > 268435456 then (some (0, 3)) else ((cents_fitting.f (wrap64 ((wrap64 ((wrap64 (x4 + (x5 / 4294967296))) * 4294967296)) + (Go.bits .and .i64 x5 4294967295)))).bind fun bt165 => (some (bt165.1, bt165.2)))))
def cents_Sum.f (k : Nat) (l0 : List Int) : Option (Int × Int) := cents_Sum.l0 k l0 0 0 (l0.length : Int) 0
theorem cents_Sum.mono_l : ∀ k, (∀ y0 y1 y2 y3 y4, LeO (cents_Sum.l0 k y0 y1 y2 y3 y4) (cents_Sum.l0 (k + 1) y0 y1 y2 y3 y4))
  | 0 => fun _ _ _ _ _ r h => by simp [cents_Sum.l0] at h
  | k + 1 => by
    have ih0 := cents_Sum.mono_l k
    · intro y0 y1 y2 y3 y4
      unfold cents_Sum.l0
      repeat' first
      | (with_reducible exact ih0 _ _ _ _ _)
      | (with_reducible exact LeO.refl _)
      | (with_reducible exact LeO.none _)
      | (with_reducible refine LeO.ite ?_ ?_)
      | (with_reducible refine LeO.bind ?_ (fun _ => ?_))
      | exact ih0 _ _ _ _ _
      | exact LeO.none _
      | refine LeO.ite ?_ ?_
      | refine LeO.bind ?_ (fun _ => ?_)
theorem cents_Sum.mono : ∀ a0 k, LeO (cents_Sum.f k a0) (cents_Sum.f (k + 1) a0) := by
  intro a0 k
  have ih0 := cents_Sum.mono_l k
  unfold cents_Sum.f
  repeat' first
      | (with_reducible exact ih0 _ _ _ _ _)
      | (with_reducible exact LeO.refl _)
      | (with_reducible exact LeO.none _)
      | (with_reducible refine LeO.ite ?_ ?_)
      | (with_reducible refine LeO.bind ?_ (fun _ => ?_))
      | exact ih0 _ _ _ _ _
      | exact LeO.none _
      | refine LeO.ite ?_ ?_
      | refine LeO.bind ?_ (fun _ => ?_)
set_option maxHeartbeats 8000000 in
set_option maxRecDepth 100000 in
theorem cents_Sum.calls (k : Nat) (A0 : Option Addr) (c0 : Nat) (l0 : List Int) (r1 : Int) (r2 : Int) (w : World) (hr0 : Kd.C (Kd.int .i64) w A0 l0.length l0) (hc0 : l0.length ≤ c0) (h : cents_Sum.f k l0 = some (r1, r2)) :
    Calls Try.prog 49 #[.slice A0 l0.length c0] w fun e w' => e = .returned (.tuple #[.int .i64 r1, .int .i64 r2]) ∧ Drawn0 w w' := by
  have HR0 := Aside0.mk hr0
  have HC0 := Aside0.mk hc0
  clear hr0 hc0
  have H : (cents_Sum.l0 k l0 0 0 (l0.length : Int) 0) = some (r1, r2) := h
  clear h
  have H' := Aside0.mk H
  clear H
  go_enter Try.func49, Try.ntmps49
  go_wp2
  go_loopg [4, 5, 10] k (fun kq v4 v5 v10 w' => ∃ (x4_1 : Int) (x5_1 : Int) (x10_1 : Int), v4 = .int .i64 x4_1 ∧ v5 = .int .i64 x5_1 ∧ v10 = .int .i64 x10_1 ∧ Aside0 (cents_Sum.l0 kq l0 x4_1 x5_1 (l0.length : Int) x10_1 = some (r1, r2)) ∧ Aside0 (kq ≤ k) ∧ Drawn0 w w')
  case atStart => exact ⟨(0), (0), (0), (by first | rfl | (simp; done) | (simp [*]; done)), (by first | rfl | (simp; done) | (simp [*]; done)), (by first | rfl | (simp; done) | (simp [*]; done)), H', ⟨Nat.le_refl _⟩, by repeat (first | exact Drawn0.refl _ | apply Drawn0.step)⟩
  case round =>
    clear H'
    obtain ⟨x4_1, x5_1, x10_1, rfl, rfl, rfl, HA, HK1, ⟨m1, rfl⟩⟩ := hrel
    cases gk with
    | zero => exact absurd HA.out (by simp [cents_Sum.l0])
    | succ k1 =>
      have H := HA.out
      clear HA
      simp only [cents_Sum.l0] at H
      by_cases c2 : x10_1 < (l0.length : Int)
      · rw [if_pos c2] at H
        have c2b0 : decide (x10_1 < (l0.length : Int)) = true := decide_eq_true c2
        clear c2
        by_cases c3 : 0 ≤ x10_1
        · rw [if_pos c3] at H
          have c3b0 : decide (0 ≤ x10_1) = true := decide_eq_true c3
          clear c3
          by_cases c4 : x10_1 < (l0.length : Int)
          · rw [if_pos c4] at H
            have c4b0 : decide (x10_1 < (l0.length : Int)) = true := decide_eq_true c4
            clear c4
            replace H := Option.bind_eq_some_iff.mp H
            obtain ⟨t162, A50, H⟩ := H
            replace H : (if t162 = true then (cents_Sum.l0 k1 l0 (wrap64 (x4_1 + ((rd l0 x10_1) / 4294967296))) (wrap64 (x5_1 + (Go.bits .and .i64 (rd l0 x10_1) 4294967295))) (l0.length : Int) (wrap64 (x10_1 + 1))) else (some (0, 2))) = some (r1, r2) := H
            have A5 := Aside0.mk A50
            clear A50
            by_cases c6 : t162 = true
            · subst c6
              have H1 : (cents_Sum.l0 k1 l0 (wrap64 (x4_1 + ((rd l0 x10_1) / 4294967296))) (wrap64 (x5_1 + (Go.bits .and .i64 (rd l0 x10_1) 4294967295))) (l0.length : Int) (wrap64 (x10_1 + 1))) = some (r1, r2) := by rw [if_pos rfl] at H; exact H
              clear H
              have H := H1
              clear H1
              have H' := Aside0.mk H
              clear H
              have p161 : 0 ≤ (x10_1 : Int) := of_decide_eq_true (by first | (with_reducible assumption) | assumption)
              have q161 : x10_1 < (l0.length : Int) := of_decide_eq_true (by first | (with_reducible assumption) | assumption)
              obtain ⟨ad161, e161, hx161_0⟩ := Kd.at_int HR0.out x10_1 p161 q161
              cases e161
              replace p161 := eq_true p161
              replace q161 := eq_true q161
              go_wp2_with (first | ((with_reducible refine gate_callee (f := 77) rfl ?_); refine goesL_ (some 17) rfl rfl Try.func77 (by kernel_rfl) rfl #[.int .i64 (rd l0 x10_1)] rfl (by (try simp only [List.map_toArray, List.map_cons, List.map_nil]); first | done | rfl | (simp only [List.length_drop, List.length_take]; rfl)) ?_; (with_reducible refine (cents_Fits.calls (rd l0 x10_1) true _ A5.out).mono ?_); rintro e w' ⟨rfl, ⟨nd, rfl⟩⟩; refine ⟨_, rfl, ?_⟩; have p163 : 0 ≤ (x10_1 : Int) := of_decide_eq_true (by first | (with_reducible assumption) | assumption); have q163 : x10_1 < (l0.length : Int) := of_decide_eq_true (by first | (with_reducible assumption) | assumption); obtain ⟨ad163, e163, hx163_0⟩ := Kd.at_int HR0.out x10_1 p163 q163; obtain rfl : ad161 = ad163 := (by injection e163); replace p163 := eq_true p163; replace q163 := eq_true q163; have p164 : 0 ≤ (x10_1 : Int) := of_decide_eq_true (by first | (with_reducible assumption) | assumption); have q164 : x10_1 < (l0.length : Int) := of_decide_eq_true (by first | (with_reducible assumption) | assumption); obtain ⟨ad164, e164, hx164_0⟩ := Kd.at_int HR0.out x10_1 p164 q164; obtain rfl : ad161 = ad164 := (by injection e164); replace p164 := eq_true p164; replace q164 := eq_true q164))
              go_roundg k1
              case measure => have := HK1.out; omega
              case rel => exact ⟨(wrap64 (x4_1 + ((rd l0 x10_1) / 4294967296))), (wrap64 (x5_1 + (Go.bits .and .i64 (rd l0 x10_1) 4294967295))), (wrap64 (x10_1 + 1)), (by first | rfl | (simp; done) | (simp [i64_w]; done) | (simp [*]; done)), (by first | rfl | (simp; done) | (simp [i64_w]; done) | (simp [*]; done)), (by first | rfl | (simp; done) | (simp [i64_w]; done) | (simp [*]; done)), H', ⟨by have := HK1.out; omega⟩, by repeat (first | exact Drawn0.refl _ | apply Drawn0.step)⟩
            · replace c6 := Bool.eq_false_iff.mpr c6
              subst c6
              have H1 : (some (0, 2)) = some (r1, r2) := by rw [if_neg (show ¬ (false = true) by decide)] at H; exact H
              clear H
              have H := H1
              clear H1
              simp only [Option.some.injEq, Prod.mk.injEq] at H
              obtain ⟨rfl, rfl⟩ := H
              have p161 : 0 ≤ (x10_1 : Int) := of_decide_eq_true (by first | (with_reducible assumption) | assumption)
              have q161 : x10_1 < (l0.length : Int) := of_decide_eq_true (by first | (with_reducible assumption) | assumption)
              obtain ⟨ad161, e161, hx161_0⟩ := Kd.at_int HR0.out x10_1 p161 q161
              cases e161
              replace p161 := eq_true p161
              replace q161 := eq_true q161
              go_wp2_with (first | ((with_reducible refine gate_callee (f := 77) rfl ?_); refine goesL_ (some 17) rfl rfl Try.func77 (by kernel_rfl) rfl #[.int .i64 (rd l0 x10_1)] rfl (by (try simp only [List.map_toArray, List.map_cons, List.map_nil]); first | done | rfl | (simp only [List.length_drop, List.length_take]; rfl)) ?_; (with_reducible refine (cents_Fits.calls (rd l0 x10_1) false _ A5.out).mono ?_); rintro e w' ⟨rfl, ⟨nd, rfl⟩⟩; refine ⟨_, rfl, ?_⟩))
              go_ret2
              exact ⟨by first | rfl | (simp; done) | (simp [*]; done), by repeat (first | exact Drawn0.refl _ | apply Drawn0.step)⟩
          · rw [if_neg c4] at H
            exact absurd H (by simp)
        · rw [if_neg c3] at H
          exact absurd H (by simp)
      · rw [if_neg c2] at H
        have c2b0 : decide (x10_1 < (l0.length : Int)) = false := decide_eq_false c2
        clear c2
        by_cases c7 : (wrap64 (x4_1 + (x5_1 / 4294967296))) < (-268435456)
        · rw [if_pos c7] at H
          have c7b0 : decide ((wrap64 (x4_1 + (x5_1 / 4294967296))) < (-268435456)) = true := decide_eq_true c7
          clear c7
          simp only [Option.some.injEq, Prod.mk.injEq] at H
          obtain ⟨rfl, rfl⟩ := H
          go_wp2
          go_ret2
          exact ⟨by first | rfl | (simp; done) | (simp [*]; done), by repeat (first | exact Drawn0.refl _ | apply Drawn0.step)⟩
        · rw [if_neg c7] at H
          have c7b0 : decide ((wrap64 (x4_1 + (x5_1 / 4294967296))) < (-268435456)) = false := decide_eq_false c7
          clear c7
          by_cases c8 : (wrap64 (x4_1 + (x5_1 / 4294967296))) > 268435456
          · rw [if_pos c8] at H
            have c8b0 : decide (268435456 < (wrap64 (x4_1 + (x5_1 / 4294967296)))) = true := decide_eq_true c8
            clear c8
            simp only [Option.some.injEq, Prod.mk.injEq] at H
            obtain ⟨rfl, rfl⟩ := H
            go_wp2
            go_ret2
            exact ⟨by first | rfl | (simp; done) | (simp [*]; done), by repeat (first | exact Drawn0.refl _ | apply Drawn0.step)⟩
          · rw [if_neg c8] at H
            have c8b0 : decide (268435456 < (wrap64 (x4_1 + (x5_1 / 4294967296)))) = false := decide_eq_false c8
            clear c8
            replace H := Option.bind_eq_some_iff.mp H
            obtain ⟨⟨t165, t166⟩, A90, H⟩ := H
            replace H : (some (t165, t166)) = some (r1, r2) := H
            have A9 := Aside0.mk A90
            clear A90
            simp only [Option.some.injEq, Prod.mk.injEq] at H
            obtain ⟨rfl, rfl⟩ := H
            go_wp2_with (first | ((with_reducible refine gate_callee (f := 78) rfl ?_); refine goesL_ (some 52) rfl rfl Try.func78 (by kernel_rfl) rfl #[.int .i64 (wrap64 ((wrap64 ((wrap64 (x4_1 + (x5_1 / 4294967296))) * 4294967296)) + (Go.bits .and .i64 x5_1 4294967295)))] rfl (by (try simp only [List.map_toArray, List.map_cons, List.map_nil]); first | done | rfl | (simp only [List.length_drop, List.length_take]; rfl)) ?_; (with_reducible refine (cents_fitting.calls (wrap64 ((wrap64 ((wrap64 (x4_1 + (x5_1 / 4294967296))) * 4294967296)) + (Go.bits .and .i64 x5_1 4294967295))) t165 t166 _ A9.out).mono ?_); rintro e w' ⟨rfl, ⟨nd, rfl⟩⟩; refine ⟨_, rfl, ?_⟩))
            go_ret2
            exact ⟨by first | rfl | (simp; done) | (simp [*]; done), by repeat (first | exact Drawn0.refl _ | apply Drawn0.step)⟩

end Go.Proofs.Ytoejllkjhaeeeaa.PExpiryZero
