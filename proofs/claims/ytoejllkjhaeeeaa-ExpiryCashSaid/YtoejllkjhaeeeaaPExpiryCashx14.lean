-- Written by a program of this session's (a turned copy of the kit's print, with functions proved by hand).
import Derived.Test.YtoejllkjhaeeeaaPExpiryCashx0
import Derived.Test.YtoejllkjhaeeeaaPExpiryCashx6
import Derived.Test.YtoejllkjhaeeeaaPExpiryCashx9
import Derived.Test.YtoejllkjhaeeeaaPExpiryCashx13
namespace Go.Proofs.Ytoejllkjhaeeeaa.PExpiryCash
open Go.RowKit Go.Proofs.YtoejllkjhaeeeaaW.PrintWords Go.Proofs.YtoejllkjhaeeeaaW.PrintLast Go.Proofs.YtoejllkjhaeeeaaW.PrintMore
attribute [local go_sem] max2_int min2_int max_two min_two max_three min_three max_four min_four Go.Proofs.YtoejllkjhaeeeaaHand.run_leq_str Go.Proofs.YtoejllkjhaeeeaaHand.run_gtr_str Go.Proofs.YtoejllkjhaeeeaaHand.run_geq_str   -- for this text's walks alone
set_option linter.unusedVariables false
set_option linter.unusedSimpArgs false

/-! ### contangolaw51_goes: function 10 -/
/-- A block read as a row. -/
theorem C_block {α : Type} (d : Kd α) {W : World} {g t : Nat} {cs : List Value} {xs : List α} (hb : W.heap[g]? = some (.cells cs.toArray t (0, 0))) (hr : Reps (d.K W) d.sz xs cs) (hl : xs.length ≤ 9223372036854775807) : d.C W (some ⟨g, 0, none⟩) xs.length xs := by
  refine ⟨rfl, hl, fun _ => ⟨_, rfl, fun j p hj => ⟨(cs.drop (j * d.sz)).take d.sz, d.K_len (hr.2 j p hj), hr.2 j p hj, fun i u hu => ?_⟩⟩⟩
  rw [List.getElem?_take] at hu
  split at hu
  · rw [List.getElem?_drop] at hu
    have : (⟨g, 0, none⟩ : Addr).add (j * d.sz + i) = ⟨g, j * d.sz + i, none⟩ := by
      unfold Addr.add
      split <;> simp_all
    rw [this, blk_cell hb]
    simpa using hu
  · cases hu

def contangolaw51_goes.f (k : Nat) : Option Bool :=
  (expiry_Cash.f k ⟨#[111, 105, 108]⟩ 0 100 1 0 1000 false ⟨#[111, 105, 108]⟩ 2 20 50 ⟨#[111, 105, 108]⟩ 2 20 50 0 3 52).bind fun x => if x.1 = -600 ∧ x.2 = 0 then
    ((expiry_Assign.f k [⟨⟨⟨#[97]⟩, ⟨#[120]⟩⟩, [⟨⟨⟨#[111, 105, 108]⟩, 2, 20, 50⟩, 0, 2⟩]⟩, ⟨⟨⟨#[98]⟩, ⟨#[120]⟩⟩, []⟩, ⟨⟨⟨#[100]⟩, ⟨#[120]⟩⟩, [⟨⟨⟨#[111, 105, 108]⟩, 2, 20, 50⟩, 0, 6⟩]⟩] ⟨#[111, 105, 108]⟩ 2 20 50 5).bind fun y => if y.2 = 0 ∧ y.1.length = 2 ∧ (rd_T49 y.1 0).f1 = 1 ∧ (rd_T49 y.1 0).f0.f0.toList = [97] ∧ (rd_T49 y.1 1).f1 = 4 then some true else none) else none
theorem contangolaw51_goes.mono : ∀ k, LeO (contangolaw51_goes.f k) (contangolaw51_goes.f (k + 1)) := by
  intro k
  unfold contangolaw51_goes.f
  exact LeO.bind (expiry_Cash.mono _ _ _ _ _ _ _ _ _ _ _ _ _ _ _ _ _ _ _) (fun x => LeO.ite (LeO.bind (expiry_Assign.mono _ _ _ _ _ _ _) (fun y => LeO.refl _)) (LeO.refl _))
set_option maxHeartbeats 800000 in
set_option maxRecDepth 100000 in
theorem contangolaw51_goes.short (c0 : ByteArray) (c1 c2 c3 : Int) (b : Nat) (s : ByteArray) (n : Int) (w : World) (hb : w.heap[b]? = some (.cells #[.string c0, .int .i64 c1, .int .i64 c2, .int .i64 c3] 25 (0, 0))) :
    Calls Try.prog 33 #[.string s, .int .i64 n, .pointer (some ⟨b, 0, none⟩)] w fun e w' => ∃ (A : Option Addr) (c : Nat), e = .returned (.agg #[.string s, .string ⟨#[120]⟩, .slice A 1 c]) ∧ 1 ≤ c ∧ Kd.C k27 w' A 1 [⟨⟨c0, c1, c2, c3⟩, 0, n⟩] ∧ Below w.heap.size w w' := by
  have HBK := Aside0.mk hb
  have hltb := blk_lt hb
  have h0 : w.cell? ⟨b, 0, none⟩ = some (.string c0) := (blk_cell hb 0).trans rfl
  have h1 : w.cell? ⟨b, 1, none⟩ = some (.int .i64 c1) := (blk_cell hb 1).trans rfl
  have h2 : w.cell? ⟨b, 2, none⟩ = some (.int .i64 c2) := (blk_cell hb 2).trans rfl
  have h3 : w.cell? ⟨b, 3, none⟩ = some (.int .i64 c3) := (blk_cell hb 3).trans rfl
  clear hb
  go_enter Try.func33, Try.ntmps33
  go_wp2
  have hB := blk_new (w.alloc (.cells #[.string s, .string ⟨#[120]⟩, .slice (some ⟨w.heap.size + 1, 0, none⟩) 1 1] 47)) (.cells [Value.string c0, .int .i64 c1, .int .i64 c2, .int .i64 c3, .int .i64 0, .int .i64 n].toArray 27 (0, 0))
  simp only [World.size_alloc] at hB
  refine bodyPost_ret (results_cell_row rfl _ _ w.heap.size 47 #[.string s, .string ⟨#[120]⟩, .slice (some ⟨w.heap.size + 1, 0, none⟩) 1 1] (0, 0) _ rfl (blk_alloc (blk_new w _) _) Try.underlying47 rfl (by kernel_rfl)) rfl ?_
  refine ⟨some ⟨w.heap.size + 1, 0, none⟩, 1, rfl, Nat.le_refl _, ?_, below_alloc (below_alloc (Below.refl _ _) _) _⟩
  exact C_block k27 (xs := [⟨⟨c0, c1, c2, c3⟩, 0, n⟩]) hB (by have := (Reps.none (k27.K _) 6).snoc (k27_mk ((w.alloc (.cells #[.string s, .string ⟨#[120]⟩, .slice (some ⟨w.heap.size + 1, 0, none⟩) 1 1] 47)).alloc (.cells #[.string c0, .int .i64 c1, .int .i64 c2, .int .i64 c3, .int .i64 0, .int .i64 n] 27)) ⟨⟨c0, c1, c2, c3⟩, 0, n⟩) rfl; exact this) (by simp)
set_option maxHeartbeats 1600000 in
set_option maxRecDepth 100000 in
theorem contangolaw51_goes.calls (k : Nat) (r : Bool) (w : World) (h : contangolaw51_goes.f k = some r) :
    Calls Try.prog 10 #[] w fun e w' => e = .returned (.bool r) ∧ Below w.heap.size w w' := by
  unfold contangolaw51_goes.f at h
  obtain ⟨⟨x1, x2⟩, hX, h⟩ := Option.bind_eq_some_iff.mp h
  by_cases hx : x1 = -600 ∧ x2 = 0
  case neg => simp only at h; rw [if_neg hx] at h; cases h
  simp only at h
  rw [if_pos hx] at h
  obtain ⟨rfl, rfl⟩ := hx
  obtain ⟨⟨y, y2⟩, hY, h⟩ := Option.bind_eq_some_iff.mp h
  by_cases hy : y2 = 0 ∧ y.length = 2 ∧ (rd_T49 y 0).f1 = 1 ∧ (rd_T49 y 0).f0.f0.toList = [97] ∧ (rd_T49 y 1).f1 = 4
  case neg => simp only at h; rw [if_neg hy] at h; cases h
  simp only at h
  rw [if_pos hy] at h
  obtain rfl := Option.some.inj h
  obtain ⟨rfl, hy1, hy2, hy3, hy4⟩ := hy
  obtain ⟨p, q, rfl⟩ : ∃ p q, y = [p, q] := by
    match y, hy1 with
    | [p, q], _ => exact ⟨p, q, rfl⟩
  obtain ⟨⟨p0, p1⟩, p2⟩ := p
  obtain ⟨⟨q0, q1⟩, q2⟩ := q
  have hy2 : p2 = 1 := hy2
  have hy4 : q2 = 4 := hy4
  have hy3 : p0.toList = [97] := hy3
  subst hy2 hy4
  have hs1 : (p0.toList == [97]) = true := beq_iff_eq.mpr hy3
  have HX := Aside0.mk hX
  have HY := Aside0.mk hY
  have HS1 := Aside0.mk hs1
  clear h hX hY hy1 hy3 hs1
  go_enter Try.func10, Try.ntmps10
  go_wp2
  have BS := Aside0.mk (blk_new w (.cells #[.string (⟨#[111, 105, 108]⟩ : ByteArray), .int .i64 2, .int .i64 20, .int .i64 50] 25 (0, 0)))
  have HB := Aside0.mk (below_alloc (Below.refl _ w) (.cells #[.string (⟨#[111, 105, 108]⟩ : ByteArray), .int .i64 2, .int .i64 20, .int .i64 50] 25 (0, 0)))
  refine start_ (n := 10) (S := fun w' => w'.cell? ⟨w.heap.size, 0, none⟩ = some (.string (⟨#[111, 105, 108]⟩ : ByteArray)) ∧ w'.cell? ⟨w.heap.size, 1, none⟩ = some (.int .i64 2) ∧ w'.cell? ⟨w.heap.size, 2, none⟩ = some (.int .i64 20) ∧ w'.cell? ⟨w.heap.size, 3, none⟩ = some (.int .i64 50)) (ds := []) #[false, false, false, false, false, false, false, false, false, false] (by kernel_rfl) rfl rfl ⟨((blk_cell (blk_drew BS.out) 0).trans rfl), ((blk_cell (blk_drew BS.out) 1).trans rfl), ((blk_cell (blk_drew BS.out) 2).trans rfl), ((blk_cell (blk_drew BS.out) 3).trans rfl)⟩ (fun hHeld => ?_)
  refine take_ (i := 1) (N := some 11) (v := ?_) (a' := ?_) #[false, true, false, false, false, false, false, false, false, false] rfl rfl (by kernel_rfl) (fun _ _ _ h => h) (Or.inl ⟨by rfl, ?_⟩) hHeld ?_ ?_
  rotate_left
  · rintro w' ⟨s0, s1, s2, s3⟩
    go_simp
    with_reducible rfl
  rotate_left
  · simp only [Act.put, List.setIfInBounds_toArray, List.set_cons_zero, List.set_cons_succ, i64_w, i32_w]
    rfl
  refine take_ (i := 2) (N := some 12) (v := ?_) (a' := ?_) #[false, true, true, false, false, false, false, false, false, false] rfl rfl (by kernel_rfl) (fun _ _ _ h => h) (Or.inl ⟨by rfl, ?_⟩) hHeld ?_ ?_
  rotate_left
  · rintro w' ⟨s0, s1, s2, s3⟩
    go_simp
    with_reducible rfl
  rotate_left
  · simp only [Act.put, List.setIfInBounds_toArray, List.set_cons_zero, List.set_cons_succ, i64_w, i32_w]
    rfl
  refine pure_ (i := 3) (N := some 13) (v := ?_) (a' := ?_) #[false, true, true, true, false, false, false, false, false, false] rfl rfl (by kernel_rfl) (fun _ _ _ h => h) (Or.inl ⟨by rfl, ?_⟩) ?_ ?_
  rotate_left
  · intro w'
    go_simp
    with_reducible rfl
  rotate_left
  · simp only [Act.put, List.setIfInBounds_toArray, List.set_cons_zero, List.set_cons_succ, i64_w, i32_w]
    rfl
  refine one_ (i := 0) (N := some 10) #[true, true, true, true, false, false, false, false, false, false] rfl rfl (by kernel_rfl) (by decide) (fun K hK => ?_)
  refine goes_ Try.func34 (by kernel_rfl) rfl #[] (by rfl) rfl rfl (by simp) ?_
  with_reducible refine (contangolaw51_oil.calls (⟨#[111, 105, 108]⟩ : ByteArray) 0 100 1 0 1000 false _ rfl).mono ?_
  rintro _ w1 ⟨rfl, hb⟩
  refine ⟨_, rfl, ?_⟩
  have BS1 := Aside0.mk (blk_below (blk_drew BS.out) hb)
  have HB1 := Aside0.mk (below_step (below_drew HB.out) hb)
  clear hb
  refine hK.out _ _ ⟨((blk_cell BS1.out 0).trans rfl), ((blk_cell BS1.out 1).trans rfl), ((blk_cell BS1.out 2).trans rfl), ((blk_cell BS1.out 3).trans rfl)⟩ (fun hHeld => ?_)
  clear hK K
  refine norm_ (a' := ?_) ?_ ?_
  rotate_left
  · show Act.put _ (some 10) _ = _
    simp only [Act.put, List.setIfInBounds_toArray, List.set_cons_zero, List.set_cons_succ, i64_w, i32_w]
    rfl
  refine one_ (i := 4) (N := some 14) #[true, true, true, true, true, false, false, false, false, false] rfl rfl (by kernel_rfl) (by decide) (fun K hK => ?_)
  refine goes_ Try.func8 (by kernel_rfl) rfl #[.agg #[.string (⟨#[111, 105, 108]⟩ : ByteArray), .int .i64 0, .int .i64 100, .int .i64 1, .int .i64 0, .int .i64 1000, .bool false], .agg #[.string (⟨#[111, 105, 108]⟩ : ByteArray), .int .i64 2, .int .i64 20, .int .i64 50], .agg #[.string (⟨#[111, 105, 108]⟩ : ByteArray), .int .i64 2, .int .i64 20, .int .i64 50, .int .i64 0, .int .i64 3], .int .i64 52] (by rfl) rfl rfl (by simp only [List.map_toArray, List.map_cons, List.map_nil]; rfl) ?_
  with_reducible refine (expiry_Cash.calls k (⟨#[111, 105, 108]⟩ : ByteArray) 0 100 1 0 1000 false (⟨#[111, 105, 108]⟩ : ByteArray) 2 20 50 (⟨#[111, 105, 108]⟩ : ByteArray) 2 20 50 0 3 52 (-600) 0 _ HX.out).mono ?_
  rintro _ w2 ⟨rfl, hb⟩
  refine ⟨_, rfl, ?_⟩
  have BS2 := Aside0.mk (blk_below BS1.out hb)
  have HB2 := Aside0.mk (below_step HB1.out hb)
  clear hb
  refine hK.out _ _ ⟨((blk_cell BS2.out 0).trans rfl), ((blk_cell BS2.out 1).trans rfl), ((blk_cell BS2.out 2).trans rfl), ((blk_cell BS2.out 3).trans rfl)⟩ (fun hHeld => ?_)
  clear hK K
  refine norm_ (a' := ?_) ?_ ?_
  rotate_left
  · show Act.put _ (some 14) _ = _
    simp only [Act.put, List.setIfInBounds_toArray, List.set_cons_zero, List.set_cons_succ, i64_w, i32_w]
    rfl
  refine pure_ (i := 5) (N := some 9) (v := ?_) (a' := ?_) #[true, true, true, true, true, true, false, false, false, false] rfl rfl (by kernel_rfl) (fun _ _ _ h => h) (Or.inl ⟨by rfl, ?_⟩) ?_ ?_
  rotate_left
  · intro w'
    go_simp
    with_reducible rfl
  rotate_left
  · simp only [Act.put, List.setIfInBounds_toArray, List.set_cons_zero, List.set_cons_succ, i64_w, i32_w]
    rfl
  refine pure_ (i := 6) (N := some 15) (v := ?_) (a' := ?_) #[true, true, true, true, true, true, true, false, false, false] rfl rfl (by kernel_rfl) (fun _ _ _ h => h) (Or.inl ⟨by rfl, ?_⟩) ?_ ?_
  rotate_left
  · intro w'
    go_simp
    with_reducible rfl
  rotate_left
  · simp only [Act.put, List.setIfInBounds_toArray, List.set_cons_zero, List.set_cons_succ, i64_w, i32_w]
    rfl
  refine pure_ (i := 7) (N := some 16) (v := ?_) (a' := ?_) #[true, true, true, true, true, true, true, true, false, false] rfl rfl (by kernel_rfl) (fun _ _ _ h => h) (Or.inl ⟨by rfl, ?_⟩) ?_ ?_
  rotate_left
  · intro w'
    go_simp
    with_reducible rfl
  rotate_left
  · simp only [Act.put, List.setIfInBounds_toArray, List.set_cons_zero, List.set_cons_succ, i64_w, i32_w]
    rfl
  refine pure_ (i := 8) (N := some 3) (v := ?_) (a' := ?_) #[true, true, true, true, true, true, true, true, true, false] rfl rfl (by kernel_rfl) (fun _ _ _ h => h) (Or.inl ⟨by rfl, ?_⟩) ?_ ?_
  rotate_left
  · intro w'
    go_simp
    with_reducible rfl
  rotate_left
  · simp only [Act.put, List.setIfInBounds_toArray, List.set_cons_zero, List.set_cons_succ, i64_w, i32_w]
    rfl
  refine pure_ (i := 9) (N := some 4) (v := ?_) (a' := ?_) #[true, true, true, true, true, true, true, true, true, true] rfl rfl (by kernel_rfl) (fun _ _ _ h => h) (Or.inl ⟨by rfl, ?_⟩) ?_ ?_
  rotate_left
  · intro w'
    go_simp
    with_reducible rfl
  rotate_left
  · simp only [Act.put, List.setIfInBounds_toArray, List.set_cons_zero, List.set_cons_succ, i64_w, i32_w]
    rfl
  refine done_ (by kernel_rfl) ?_
  go_wp2
  refine start_ (n := 14) (S := fun w' => w'.cell? ⟨w.heap.size, 0, none⟩ = some (.string (⟨#[111, 105, 108]⟩ : ByteArray)) ∧ w'.cell? ⟨w.heap.size, 1, none⟩ = some (.int .i64 2) ∧ w'.cell? ⟨w.heap.size, 2, none⟩ = some (.int .i64 20) ∧ w'.cell? ⟨w.heap.size, 3, none⟩ = some (.int .i64 50)) (ds := []) #[false, false, false, false, false, false, false, false, false, false, false, false, false, false] (by kernel_rfl) rfl rfl ⟨((blk_cell (blk_drew BS2.out) 0).trans rfl), ((blk_cell (blk_drew BS2.out) 1).trans rfl), ((blk_cell (blk_drew BS2.out) 2).trans rfl), ((blk_cell (blk_drew BS2.out) 3).trans rfl)⟩ (fun hHeld => ?_)
  refine pure_ (i := 0) (N := some 18) (v := ?_) (a' := ?_) #[true, false, false, false, false, false, false, false, false, false, false, false, false, false] rfl rfl (by kernel_rfl) (fun _ _ _ h => h) (Or.inl ⟨by rfl, ?_⟩) ?_ ?_
  rotate_left
  · intro w'
    go_simp
    with_reducible rfl
  rotate_left
  · simp only [Act.put, List.setIfInBounds_toArray, List.set_cons_zero, List.set_cons_succ, i64_w, i32_w]
    rfl
  refine pure_ (i := 2) (N := some 20) (v := ?_) (a' := ?_) #[true, false, true, false, false, false, false, false, false, false, false, false, false, false] rfl rfl (by kernel_rfl) (fun _ _ _ h => h) (Or.inl ⟨by rfl, ?_⟩) ?_ ?_
  rotate_left
  · intro w'
    go_simp
    with_reducible rfl
  rotate_left
  · simp only [Act.put, List.setIfInBounds_toArray, List.set_cons_zero, List.set_cons_succ, i64_w, i32_w]
    rfl
  refine pure_ (i := 3) (N := some 21) (v := ?_) (a' := ?_) #[true, false, true, true, false, false, false, false, false, false, false, false, false, false] rfl rfl (by kernel_rfl) (fun _ _ _ h => h) (Or.inl ⟨by rfl, ?_⟩) ?_ ?_
  rotate_left
  · intro w'
    go_simp
    with_reducible rfl
  rotate_left
  · simp only [Act.put, List.setIfInBounds_toArray, List.set_cons_zero, List.set_cons_succ, i64_w, i32_w]
    rfl
  refine pure_ (i := 4) (N := some 22) (v := ?_) (a' := ?_) #[true, false, true, true, true, false, false, false, false, false, false, false, false, false] rfl rfl (by kernel_rfl) (fun _ _ _ h => h) (Or.inl ⟨by rfl, ?_⟩) ?_ ?_
  rotate_left
  · intro w'
    go_simp
    with_reducible rfl
  rotate_left
  · simp only [Act.put, List.setIfInBounds_toArray, List.set_cons_zero, List.set_cons_succ, i64_w, i32_w]
    rfl
  refine take_ (i := 7) (N := some 25) (v := ?_) (a' := ?_) #[true, false, true, true, true, false, false, true, false, false, false, false, false, false] rfl rfl (by kernel_rfl) (fun _ _ _ h => h) (Or.inl ⟨by rfl, ?_⟩) hHeld ?_ ?_
  rotate_left
  · rintro w' ⟨s0, s1, s2, s3⟩
    go_simp
    with_reducible rfl
  rotate_left
  · simp only [Act.put, List.setIfInBounds_toArray, List.set_cons_zero, List.set_cons_succ, i64_w, i32_w]
    rfl
  refine one_ (i := 1) (N := some 19) #[true, true, true, true, true, false, false, true, false, false, false, false, false, false] rfl rfl (by kernel_rfl) (by decide) (fun K hK => ?_)
  refine goesV_ (enters_of Try.func33 (by kernel_rfl) rfl) #[.string ⟨#[97]⟩, .int .i64 2] (by rfl) rfl rfl (by rfl) (by simp only [List.map_toArray, List.map_cons, List.map_nil]; rfl) ?_
  refine (contangolaw51_goes.short (⟨#[111, 105, 108]⟩ : ByteArray) 2 20 50 w.heap.size ⟨#[97]⟩ 2 _ (blk_drew BS2.out)).mono ?_
  rintro _ w3 ⟨A1, c1, rfl, hc1, hC1, hb⟩
  refine ⟨_, rfl, ?_⟩
  have BS3 := Aside0.mk (blk_below (blk_drew BS2.out) hb)
  have HB3 := Aside0.mk (below_step (below_drew HB2.out) hb)
  have HC1 := Aside0.mk hC1
  have HL1 := Aside0.mk hc1
  clear hb hC1 hc1
  refine hK.out _ _ ⟨((blk_cell BS3.out 0).trans rfl), ((blk_cell BS3.out 1).trans rfl), ((blk_cell BS3.out 2).trans rfl), ((blk_cell BS3.out 3).trans rfl)⟩ (fun hHeld => ?_)
  clear hK K
  refine norm_ (a' := ?_) ?_ ?_
  rotate_left
  · show Act.put _ (some 19) _ = _
    simp only [Act.put, List.setIfInBounds_toArray, List.set_cons_zero, List.set_cons_succ, i64_w, i32_w]
    rfl
  refine one_ (i := 5) (N := some 23) #[true, true, true, true, true, true, false, true, false, false, false, false, false, false] rfl rfl (by kernel_rfl) (by decide) (fun K hK => ?_)
  refine goesV_ (enters_of Try.func33 (by kernel_rfl) rfl) #[.string ⟨#[100]⟩, .int .i64 6] (by rfl) rfl rfl (by rfl) (by simp only [List.map_toArray, List.map_cons, List.map_nil]; rfl) ?_
  refine (contangolaw51_goes.short (⟨#[111, 105, 108]⟩ : ByteArray) 2 20 50 w.heap.size ⟨#[100]⟩ 6 _ BS3.out).mono ?_
  rintro _ w4 ⟨A2, c2, rfl, hc2, hC2, hb⟩
  refine ⟨_, rfl, ?_⟩
  have BS4 := Aside0.mk (blk_below BS3.out hb)
  have HB4 := Aside0.mk (below_step HB3.out hb)
  have HC12 := Aside0.mk (Kd.C_below HC1.out hb)
  have HC2 := Aside0.mk hC2
  have HL2 := Aside0.mk hc2
  clear hb hC2 hc2
  refine hK.out _ _ ⟨((blk_cell BS4.out 0).trans rfl), ((blk_cell BS4.out 1).trans rfl), ((blk_cell BS4.out 2).trans rfl), ((blk_cell BS4.out 3).trans rfl)⟩ (fun hHeld => ?_)
  clear hK K
  refine norm_ (a' := ?_) ?_ ?_
  rotate_left
  · show Act.put _ (some 23) _ = _
    simp only [Act.put, List.setIfInBounds_toArray, List.set_cons_zero, List.set_cons_succ, i64_w, i32_w]
    rfl
  refine one_ (i := 6) (N := some 24) #[true, true, true, true, true, true, true, true, false, false, false, false, false, false] rfl rfl (by kernel_rfl) (by decide) (fun K hK => ?_)
  refine value_ (w1 := ?_) (v := ?_) (by rfl) rfl ?_ ?_
  rotate_left 2
  · go_simp
    constructor
    · rfl
    · rfl
  have BS5 := Aside0.mk (blk_alloc BS4.out (.cells ([.string ⟨#[97]⟩, .string ⟨#[120]⟩, .slice A1 1 c1, .string ⟨#[98]⟩, .string ⟨#[120]⟩, .slice none 0 0, .string ⟨#[100]⟩, .string ⟨#[120]⟩, .slice A2 1 c2] : List Value).toArray 47 (0, 0)))
  have HB5 := Aside0.mk (below_alloc HB4.out (.cells ([.string ⟨#[97]⟩, .string ⟨#[120]⟩, .slice A1 1 c1, .string ⟨#[98]⟩, .string ⟨#[120]⟩, .slice none 0 0, .string ⟨#[100]⟩, .string ⟨#[120]⟩, .slice A2 1 c2] : List Value).toArray 47 (0, 0)))
  have HBL := Aside0.mk (blk_new w4 (.cells ([.string ⟨#[97]⟩, .string ⟨#[120]⟩, .slice A1 1 c1, .string ⟨#[98]⟩, .string ⟨#[120]⟩, .slice none 0 0, .string ⟨#[100]⟩, .string ⟨#[120]⟩, .slice A2 1 c2] : List Value).toArray 47 (0, 0)))
  have HCL : Aside0 (Kd.C k47 (w4.alloc (.cells ([.string ⟨#[97]⟩, .string ⟨#[120]⟩, .slice A1 1 c1, .string ⟨#[98]⟩, .string ⟨#[120]⟩, .slice none 0 0, .string ⟨#[100]⟩, .string ⟨#[120]⟩, .slice A2 1 c2] : List Value).toArray 47 (0, 0))) (some ⟨w4.heap.size, 0, none⟩) 3 [⟨⟨⟨#[97]⟩, ⟨#[120]⟩⟩, [⟨⟨(⟨#[111, 105, 108]⟩ : ByteArray), 2, 20, 50⟩, 0, 2⟩]⟩, ⟨⟨⟨#[98]⟩, ⟨#[120]⟩⟩, []⟩, ⟨⟨⟨#[100]⟩, ⟨#[120]⟩⟩, [⟨⟨(⟨#[111, 105, 108]⟩ : ByteArray), 2, 20, 50⟩, 0, 6⟩]⟩]) := ⟨C_block k47 (xs := [⟨⟨⟨#[97]⟩, ⟨#[120]⟩⟩, [⟨⟨(⟨#[111, 105, 108]⟩ : ByteArray), 2, 20, 50⟩, 0, 2⟩]⟩, ⟨⟨⟨#[98]⟩, ⟨#[120]⟩⟩, []⟩, ⟨⟨⟨#[100]⟩, ⟨#[120]⟩⟩, [⟨⟨(⟨#[111, 105, 108]⟩ : ByteArray), 2, 20, 50⟩, 0, 6⟩]⟩]) HBL.out (((((Reps.none (k47.K (w4.alloc (.cells ([.string ⟨#[97]⟩, .string ⟨#[120]⟩, .slice A1 1 c1, .string ⟨#[98]⟩, .string ⟨#[120]⟩, .slice none 0 0, .string ⟨#[100]⟩, .string ⟨#[120]⟩, .slice A2 1 c2] : List Value).toArray 47 (0, 0)))) 3).snoc (p := (⟨⟨⟨#[97]⟩, ⟨#[120]⟩⟩, [⟨⟨(⟨#[111, 105, 108]⟩ : ByteArray), 2, 20, 50⟩, 0, 2⟩]⟩ : S47)) (k47_mk (w4.alloc (.cells ([.string ⟨#[97]⟩, .string ⟨#[120]⟩, .slice A1 1 c1, .string ⟨#[98]⟩, .string ⟨#[120]⟩, .slice none 0 0, .string ⟨#[100]⟩, .string ⟨#[120]⟩, .slice A2 1 c2] : List Value).toArray 47 (0, 0))) (⟨⟨⟨#[97]⟩, ⟨#[120]⟩⟩, [⟨⟨(⟨#[111, 105, 108]⟩ : ByteArray), 2, 20, 50⟩, 0, 2⟩]⟩ : S47) (A2 := A1) (c2 := c1) HL1.out (Kd.C_alloc HC12.out _)) rfl).snoc (p := (⟨⟨⟨#[98]⟩, ⟨#[120]⟩⟩, []⟩ : S47)) (k47_mk (w4.alloc (.cells ([.string ⟨#[97]⟩, .string ⟨#[120]⟩, .slice A1 1 c1, .string ⟨#[98]⟩, .string ⟨#[120]⟩, .slice none 0 0, .string ⟨#[100]⟩, .string ⟨#[120]⟩, .slice A2 1 c2] : List Value).toArray 47 (0, 0))) (⟨⟨⟨#[98]⟩, ⟨#[120]⟩⟩, []⟩ : S47) (A2 := none) (c2 := 0) (Nat.le_refl _) (Kd.C_nil _ _)) rfl).snoc (p := (⟨⟨⟨#[100]⟩, ⟨#[120]⟩⟩, [⟨⟨(⟨#[111, 105, 108]⟩ : ByteArray), 2, 20, 50⟩, 0, 6⟩]⟩ : S47)) (k47_mk (w4.alloc (.cells ([.string ⟨#[97]⟩, .string ⟨#[120]⟩, .slice A1 1 c1, .string ⟨#[98]⟩, .string ⟨#[120]⟩, .slice none 0 0, .string ⟨#[100]⟩, .string ⟨#[120]⟩, .slice A2 1 c2] : List Value).toArray 47 (0, 0))) (⟨⟨⟨#[100]⟩, ⟨#[120]⟩⟩, [⟨⟨(⟨#[111, 105, 108]⟩ : ByteArray), 2, 20, 50⟩, 0, 6⟩]⟩ : S47) (A2 := A2) (c2 := c2) HL2.out (Kd.C_alloc HC2.out _)) rfl)) (by decide)⟩
  refine hK.out _ _ ⟨((blk_cell BS5.out 0).trans rfl), ((blk_cell BS5.out 1).trans rfl), ((blk_cell BS5.out 2).trans rfl), ((blk_cell BS5.out 3).trans rfl)⟩ (fun hHeld => ?_)
  clear hK K
  refine norm_ (a' := ?_) ?_ ?_
  rotate_left
  · show Act.put _ (some 24) _ = _
    simp only [Act.put, List.setIfInBounds_toArray, List.set_cons_zero, List.set_cons_succ, i64_w, i32_w]
    rfl
  refine one_ (i := 8) (N := some 26) #[true, true, true, true, true, true, true, true, true, false, false, false, false, false] rfl rfl (by kernel_rfl) (by decide) (fun K hK => ?_)
  refine goes_ Try.func11 (by kernel_rfl) rfl #[.slice (some ⟨w4.heap.size, 0, none⟩) 3 3, .agg #[.string (⟨#[111, 105, 108]⟩ : ByteArray), .int .i64 2, .int .i64 20, .int .i64 50], .int .i64 5] (by rfl) rfl rfl (by simp only [List.map_toArray, List.map_cons, List.map_nil]; rfl) ?_
  refine (expiry_Assign.calls k (some ⟨w4.heap.size, 0, none⟩) 3 [⟨⟨⟨#[97]⟩, ⟨#[120]⟩⟩, [⟨⟨(⟨#[111, 105, 108]⟩ : ByteArray), 2, 20, 50⟩, 0, 2⟩]⟩, ⟨⟨⟨#[98]⟩, ⟨#[120]⟩⟩, []⟩, ⟨⟨⟨#[100]⟩, ⟨#[120]⟩⟩, [⟨⟨(⟨#[111, 105, 108]⟩ : ByteArray), 2, 20, 50⟩, 0, 6⟩]⟩] (⟨#[111, 105, 108]⟩ : ByteArray) 2 20 50 5 _ 0 _ HCL.out (by decide) HY.out).mono ?_
  rintro _ w6 ⟨v6, rfl, hR, hb⟩
  refine ⟨_, rfl, ?_⟩
  obtain ⟨A6, c6, e6⟩ := Kd.R_slice hR
  subst e6
  have HC6 := Aside0.mk (Kd.R_reads' hR).2.2
  have BS6 := Aside0.mk (blk_below BS5.out hb)
  have HB6 := Aside0.mk (below_step HB5.out hb)
  clear hR hb
  refine hK.out _ _ ⟨((blk_cell BS6.out 0).trans rfl), ((blk_cell BS6.out 1).trans rfl), ((blk_cell BS6.out 2).trans rfl), ((blk_cell BS6.out 3).trans rfl)⟩ (fun hHeld => ?_)
  clear hK K
  refine norm_ (a' := ?_) ?_ ?_
  rotate_left
  · show Act.put _ (some 26) _ = _
    simp only [Act.put, List.setIfInBounds_toArray, List.set_cons_zero, List.set_cons_succ, i64_w, i32_w]
    rfl
  refine pure_ (i := 9) (N := some 17) (v := ?_) (a' := ?_) #[true, true, true, true, true, true, true, true, true, true, false, false, false, false] rfl rfl (by kernel_rfl) (fun _ _ _ h => h) (Or.inl ⟨by rfl, ?_⟩) ?_ ?_
  rotate_left
  · intro w'
    go_simp
    with_reducible rfl
  rotate_left
  · simp only [Act.put, List.setIfInBounds_toArray, List.set_cons_zero, List.set_cons_succ, i64_w, i32_w]
    rfl
  refine pure_ (i := 10) (N := some 27) (v := ?_) (a' := ?_) #[true, true, true, true, true, true, true, true, true, true, true, false, false, false] rfl rfl (by kernel_rfl) (fun _ _ _ h => h) (Or.inl ⟨by rfl, ?_⟩) ?_ ?_
  rotate_left
  · intro w'
    go_simp
    with_reducible rfl
  rotate_left
  · simp only [Act.put, List.setIfInBounds_toArray, List.set_cons_zero, List.set_cons_succ, i64_w, i32_w]
    rfl
  refine pure_ (i := 11) (N := some 28) (v := ?_) (a' := ?_) #[true, true, true, true, true, true, true, true, true, true, true, true, false, false] rfl rfl (by kernel_rfl) (fun _ _ _ h => h) (Or.inl ⟨by rfl, ?_⟩) ?_ ?_
  rotate_left
  · intro w'
    go_simp
    with_reducible rfl
  rotate_left
  · simp only [Act.put, List.setIfInBounds_toArray, List.set_cons_zero, List.set_cons_succ, i64_w, i32_w]
    rfl
  refine pure_ (i := 12) (N := some 5) (v := ?_) (a' := ?_) #[true, true, true, true, true, true, true, true, true, true, true, true, true, false] rfl rfl (by kernel_rfl) (fun _ _ _ h => h) (Or.inl ⟨by rfl, ?_⟩) ?_ ?_
  rotate_left
  · intro w'
    go_simp
    with_reducible rfl
  rotate_left
  · simp only [Act.put, List.setIfInBounds_toArray, List.set_cons_zero, List.set_cons_succ, i64_w, i32_w]
    rfl
  refine pure_ (i := 13) (N := some 6) (v := ?_) (a' := ?_) #[true, true, true, true, true, true, true, true, true, true, true, true, true, true] rfl rfl (by kernel_rfl) (fun _ _ _ h => h) (Or.inl ⟨by rfl, ?_⟩) ?_ ?_
  rotate_left
  · intro w'
    go_simp
    with_reducible rfl
  rotate_left
  · simp only [Act.put, List.setIfInBounds_toArray, List.set_cons_zero, List.set_cons_succ, i64_w, i32_w]
    rfl
  refine done_ (by kernel_rfl) ?_
  obtain ⟨ad, ead, h0, h1, h2⟩ := at_T49 HC6.out 0 (by decide) (by simp)
  cases ead
  obtain ⟨ad2, ead2, g0, g1, g2⟩ := at_T49 HC6.out 1 (by decide) (by simp)
  cases ead2
  have hz : ad.add 0 = ad := by simp [Addr.add]
  have t1 : (1 : Int).toNat = 1 := rfl
  simp only [Int.toNat_zero, Nat.zero_mul, t1, Nat.one_mul, hz] at h0 h1 h2 g0 g1 g2
  clear hz t1
  have h0 : w6.cell? ad = some (.string p0) := h0
  have h2 : w6.cell? ⟨ad.block, ad.off + 2, none⟩ = some (.int .i64 1) := h2
  have g2 : w6.cell? ⟨(ad.add 3).block, (ad.add 3).off + 2, none⟩ = some (.int .i64 4) := g2
  have g3 : w6.cell? ⟨ad.block, ad.off + 3 + 2, none⟩ = some (.int .i64 4) := g2
  have g4 : w6.cell? ⟨ad.block, ad.off + 5, none⟩ = some (.int .i64 4) := g2
  have hs1 : (p0.toList == [97]) = true := HS1.out
  clear h1 g0 g1
  go_wp2
  go_ret
  exact ⟨rfl, HB6.out⟩

/-! ### contangolaw51_ExpiryCash: function 3 -/
def contangolaw51_ExpiryCash.f (k : Nat) (a0_0 : ByteArray) (a0_1 : Int) (a0_2 : Int) (a0_3 : Int) (a0_4 : Int) (a0_5 : Int) (a0_6 : Bool) (a1_0 : ByteArray) (a1_1 : Int) (a1_2 : Int) (a1_3 : Int) (a1_4 : Int) (a1_5 : Int) (a2_0 : ByteArray) (a2_1 : Int) (a2_2 : Int) (a2_3 : Int) (a2_4 : Int) (a2_5 : Int) : Option (Bool) := (expiry_Cash.f k a0_0 a0_1 a0_2 a0_3 a0_4 a0_5 a0_6 a2_0 a2_1 a2_2 a2_3 a1_0 a1_1 a1_2 a1_3 a1_4 a1_5 a2_4).bind fun bt184 => ((contangoref51_Cash.f k a0_0 a0_1 a0_2 a0_3 a0_4 a0_5 a0_6 a2_0 a2_1 a2_2 a2_3 a1_0 a1_1 a1_2 a1_3 a1_4 a1_5 a2_4).bind fun bt186 => (if bt184.1 = bt186.1 then (if bt184.2 = bt186.2 then ((contangolaw51_goes.f k).bind fun t188 => (some t188)) else (some false)) else (some false)))
theorem contangolaw51_ExpiryCash.mono : ∀ a0 a1 a2 a3 a4 a5 a6 a7 a8 a9 a10 a11 a12 a13 a14 a15 a16 a17 a18 k, LeO (contangolaw51_ExpiryCash.f k a0 a1 a2 a3 a4 a5 a6 a7 a8 a9 a10 a11 a12 a13 a14 a15 a16 a17 a18) (contangolaw51_ExpiryCash.f (k + 1) a0 a1 a2 a3 a4 a5 a6 a7 a8 a9 a10 a11 a12 a13 a14 a15 a16 a17 a18) := by
  intro a0 a1 a2 a3 a4 a5 a6 a7 a8 a9 a10 a11 a12 a13 a14 a15 a16 a17 a18 k
  unfold contangolaw51_ExpiryCash.f
  repeat' first
      | (with_reducible exact contangolaw51_goes.mono _)
      | (with_reducible exact contangoref51_Cash.mono _ _ _ _ _ _ _ _ _ _ _ _ _ _ _ _ _ _ _)
      | (with_reducible exact expiry_Cash.mono _ _ _ _ _ _ _ _ _ _ _ _ _ _ _ _ _ _ _)
      | (with_reducible exact LeO.refl _)
      | (with_reducible exact LeO.none _)
      | (with_reducible refine LeO.ite ?_ ?_)
      | (with_reducible refine LeO.bind ?_ (fun _ => ?_))
      | exact contangolaw51_goes.mono _
      | exact contangoref51_Cash.mono _ _ _ _ _ _ _ _ _ _ _ _ _ _ _ _ _ _ _
      | exact expiry_Cash.mono _ _ _ _ _ _ _ _ _ _ _ _ _ _ _ _ _ _ _
      | exact LeO.none _
      | refine LeO.ite ?_ ?_
      | refine LeO.bind ?_ (fun _ => ?_)
set_option maxHeartbeats 8000000 in
set_option maxRecDepth 100000 in
theorem contangolaw51_ExpiryCash.calls (k : Nat) (a0_0 : ByteArray) (a0_1 : Int) (a0_2 : Int) (a0_3 : Int) (a0_4 : Int) (a0_5 : Int) (a0_6 : Bool) (a1_0 : ByteArray) (a1_1 : Int) (a1_2 : Int) (a1_3 : Int) (a1_4 : Int) (a1_5 : Int) (a2_0 : ByteArray) (a2_1 : Int) (a2_2 : Int) (a2_3 : Int) (a2_4 : Int) (a2_5 : Int) (r : Bool) (hrt : r = true) (w : World) (h : contangolaw51_ExpiryCash.f k a0_0 a0_1 a0_2 a0_3 a0_4 a0_5 a0_6 a1_0 a1_1 a1_2 a1_3 a1_4 a1_5 a2_0 a2_1 a2_2 a2_3 a2_4 a2_5 = some r) :
    Calls Try.prog 3 #[.agg #[.string a0_0, .int .i64 a0_1, .int .i64 a0_2, .int .i64 a0_3, .int .i64 a0_4, .int .i64 a0_5, .bool a0_6], .agg #[.string a1_0, .int .i64 a1_1, .int .i64 a1_2, .int .i64 a1_3, .int .i64 a1_4, .int .i64 a1_5], .agg #[.string a2_0, .int .i64 a2_1, .int .i64 a2_2, .int .i64 a2_3, .int .i64 a2_4, .int .i64 a2_5]] w fun e w' => e = .returned (.bool r) ∧ Below w.heap.size w w' := by
  have hu23 := Try.underlying23
  have hu27 := Try.underlying27
  have hu29 := Try.underlying29
  have hu25 := Try.underlying25
  have HB := Aside0.mk (Below.refl w.heap.size w)
  have HRT := Aside0.mk hrt
  clear hrt
  have H : ((expiry_Cash.f k a0_0 a0_1 a0_2 a0_3 a0_4 a0_5 a0_6 a2_0 a2_1 a2_2 a2_3 a1_0 a1_1 a1_2 a1_3 a1_4 a1_5 a2_4).bind fun bt184 => ((contangoref51_Cash.f k a0_0 a0_1 a0_2 a0_3 a0_4 a0_5 a0_6 a2_0 a2_1 a2_2 a2_3 a1_0 a1_1 a1_2 a1_3 a1_4 a1_5 a2_4).bind fun bt186 => (if bt184.1 = bt186.1 then (if bt184.2 = bt186.2 then ((contangolaw51_goes.f k).bind fun t188 => (some t188)) else (some false)) else (some false)))) = some r := h
  clear h
  replace H := Option.bind_eq_some_iff.mp H
  obtain ⟨⟨t184, t185⟩, A40, H⟩ := H
  replace H : ((contangoref51_Cash.f k a0_0 a0_1 a0_2 a0_3 a0_4 a0_5 a0_6 a2_0 a2_1 a2_2 a2_3 a1_0 a1_1 a1_2 a1_3 a1_4 a1_5 a2_4).bind fun bt186 => (if t184 = bt186.1 then (if t185 = bt186.2 then ((contangolaw51_goes.f k).bind fun t188 => (some t188)) else (some false)) else (some false))) = some r := H
  have A4 := Aside0.mk A40
  clear A40
  replace H := Option.bind_eq_some_iff.mp H
  obtain ⟨⟨t186, t187⟩, A50, H⟩ := H
  replace H : (if t184 = t186 then (if t185 = t187 then ((contangolaw51_goes.f k).bind fun t188 => (some t188)) else (some false)) else (some false)) = some r := H
  have A5 := Aside0.mk A50
  clear A50
  by_cases c6 : t184 = t186
  · rw [if_pos c6] at H
    have c6b0 : (t184 == t186) = true := beq_iff_eq.mpr c6
    have c6b1 : (t184 != t186) = false := bne_eq_false_iff_eq.mpr c6
    clear c6
    by_cases c7 : t185 = t187
    · rw [if_pos c7] at H
      have c7b0 : (t185 == t187) = true := beq_iff_eq.mpr c7
      have c7b1 : (t185 != t187) = false := bne_eq_false_iff_eq.mpr c7
      clear c7
      replace H := Option.bind_eq_some_iff.mp H
      obtain ⟨t188, A80, H⟩ := H
      replace H : (some t188) = some r := H
      have A8 := Aside0.mk A80
      clear A80
      obtain rfl := Option.some.inj H
      go_enter Try.func3, Try.ntmps3
      go_wp2_with (first | ((with_reducible refine gate_dst (N := 3) rfl ?_); refine box_event ?hg (N := 3) ?hd (cs := #[.string a0_0, .int .i64 a0_1, .int .i64 a0_2, .int .i64 a0_3, .int .i64 a0_4, .int .i64 a0_5, .bool a0_6]) (t := 23) ?hr ?_; (case hd => rfl); (case hg => rfl); (case hr => first | (go_simp; done) | (go_simp; rfl)); intro gb181 hg w9 hbox hb; have n0_ := Aside0.mk (below_step (by repeat (first | (with_reducible first | exact HB.out | apply below_alloc | apply pw_below_drewN | apply below_drew1) | exact HB.out)) hb); have n1_ := Aside0.mk (hbox); have n2_ := Aside0.mk ((by rw [hg]; exact (below_size (by repeat (first | (with_reducible first | exact HB.out | apply below_alloc | apply pw_below_drewN | apply below_drew1) | exact HB.out))) : w.heap.size ≤ gb181)); have n3_ := Aside0.mk ((by rw [hg]; exact (below_size (by repeat (first | (with_reducible first | exact HB.out | apply below_alloc | apply pw_below_drewN | apply below_drew1) | exact HB.out))) : w.heap.size ≤ gb181)); clear HB; have HB := n0_; have BK181 := n1_; have GW181 := n2_; have GE181 := n3_; clear n0_ n1_ n2_ n3_; clear hb hbox hg) | ((with_reducible refine gate_dst (N := 4) rfl ?_); refine box_event ?hg (N := 4) ?hd (cs := #[.string a1_0, .int .i64 a1_1, .int .i64 a1_2, .int .i64 a1_3, .int .i64 a1_4, .int .i64 a1_5]) (t := 27) ?hr ?_; (case hd => rfl); (case hg => rfl); (case hr => first | (go_simp; done) | (go_simp; rfl)); intro gb182 hg w10 hbox hb; have n0_ := Aside0.mk (blk_below (g := gb181) (o := .cells #[.string a0_0, .int .i64 a0_1, .int .i64 a0_2, .int .i64 a0_3, .int .i64 a0_4, .int .i64 a0_5, .bool a0_6] 23 (0, 0)) (by (with_reducible repeat (first | refine blk_drewN ?_ _ | refine blk_drew ?_ | refine blk_alloc ?_ _)); exact BK181.out) hb); have n1_ := Aside0.mk (below_step (by repeat (first | (with_reducible first | exact HB.out | apply below_alloc | apply pw_below_drewN | apply below_drew1 | refine below_set ?_ GE181.out) | exact HB.out)) hb); have n2_ := Aside0.mk (hbox); have n3_ := Aside0.mk ((by rw [hg]; exact (below_size (by repeat (first | (with_reducible first | exact HB.out | apply below_alloc | apply pw_below_drewN | apply below_drew1 | refine below_set ?_ GE181.out) | exact HB.out))) : w.heap.size ≤ gb182)); have n4_ := Aside0.mk ((by rw [hg]; exact (below_size (by repeat (first | (with_reducible first | exact HB.out | apply below_alloc | apply pw_below_drewN | apply below_drew1 | refine below_set ?_ GE181.out) | exact HB.out))) : w.heap.size ≤ gb182)); have n5_ := Aside0.mk ((by rw [hg]; exact Nat.ne_of_lt (blk_lt (g := gb181) (o := .cells #[.string a0_0, .int .i64 a0_1, .int .i64 a0_2, .int .i64 a0_3, .int .i64 a0_4, .int .i64 a0_5, .bool a0_6] 23 (0, 0)) (by (with_reducible repeat (first | refine blk_drewN ?_ _ | refine blk_drew ?_ | refine blk_alloc ?_ _)); exact BK181.out)) : gb181 ≠ gb182)); have n6_ := Aside0.mk ((by rw [hg]; exact Nat.ne_of_gt (blk_lt (g := gb181) (o := .cells #[.string a0_0, .int .i64 a0_1, .int .i64 a0_2, .int .i64 a0_3, .int .i64 a0_4, .int .i64 a0_5, .bool a0_6] 23 (0, 0)) (by (with_reducible repeat (first | refine blk_drewN ?_ _ | refine blk_drew ?_ | refine blk_alloc ?_ _)); exact BK181.out)) : gb182 ≠ gb181)); clear BK181; clear HB; have BK181 := n0_; have HB := n1_; have BK182 := n2_; have GW182 := n3_; have GE182 := n4_; have NB181_182 := n5_; have NB182_181 := n6_; clear n0_ n1_ n2_ n3_ n4_ n5_ n6_; clear hb hbox hg) | ((with_reducible refine gate_dst (N := 5) rfl ?_); refine box_event ?hg (N := 5) ?hd (cs := #[.string a2_0, .int .i64 a2_1, .int .i64 a2_2, .int .i64 a2_3, .int .i64 a2_4, .int .i64 a2_5]) (t := 29) ?hr ?_; (case hd => rfl); (case hg => rfl); (case hr => first | (go_simp; done) | (go_simp; rfl)); intro gb183 hg w11 hbox hb; have n0_ := Aside0.mk (blk_below (g := gb181) (o := .cells #[.string a0_0, .int .i64 a0_1, .int .i64 a0_2, .int .i64 a0_3, .int .i64 a0_4, .int .i64 a0_5, .bool a0_6] 23 (0, 0)) (by (with_reducible repeat (first | refine blk_drewN ?_ _ | refine blk_drew ?_ | refine blk_alloc ?_ _)); exact BK181.out) hb); have n1_ := Aside0.mk (blk_below (g := gb182) (o := .cells #[.string a1_0, .int .i64 a1_1, .int .i64 a1_2, .int .i64 a1_3, .int .i64 a1_4, .int .i64 a1_5] 27 (0, 0)) (by (with_reducible repeat (first | refine blk_drewN ?_ _ | refine blk_drew ?_ | refine blk_alloc ?_ _)); exact BK182.out) hb); have n2_ := Aside0.mk (below_step (by repeat (first | (with_reducible first | exact HB.out | apply below_alloc | apply pw_below_drewN | apply below_drew1 | refine below_set ?_ GE181.out | refine below_set ?_ GE182.out) | exact HB.out)) hb); have n3_ := Aside0.mk (hbox); have n4_ := Aside0.mk ((by rw [hg]; exact (below_size (by repeat (first | (with_reducible first | exact HB.out | apply below_alloc | apply pw_below_drewN | apply below_drew1 | refine below_set ?_ GE181.out | refine below_set ?_ GE182.out) | exact HB.out))) : w.heap.size ≤ gb183)); have n5_ := Aside0.mk ((by rw [hg]; exact (below_size (by repeat (first | (with_reducible first | exact HB.out | apply below_alloc | apply pw_below_drewN | apply below_drew1 | refine below_set ?_ GE181.out | refine below_set ?_ GE182.out) | exact HB.out))) : w.heap.size ≤ gb183)); have n6_ := Aside0.mk ((by rw [hg]; exact Nat.ne_of_lt (blk_lt (g := gb181) (o := .cells #[.string a0_0, .int .i64 a0_1, .int .i64 a0_2, .int .i64 a0_3, .int .i64 a0_4, .int .i64 a0_5, .bool a0_6] 23 (0, 0)) (by (with_reducible repeat (first | refine blk_drewN ?_ _ | refine blk_drew ?_ | refine blk_alloc ?_ _)); exact BK181.out)) : gb181 ≠ gb183)); have n7_ := Aside0.mk ((by rw [hg]; exact Nat.ne_of_gt (blk_lt (g := gb181) (o := .cells #[.string a0_0, .int .i64 a0_1, .int .i64 a0_2, .int .i64 a0_3, .int .i64 a0_4, .int .i64 a0_5, .bool a0_6] 23 (0, 0)) (by (with_reducible repeat (first | refine blk_drewN ?_ _ | refine blk_drew ?_ | refine blk_alloc ?_ _)); exact BK181.out)) : gb183 ≠ gb181)); have n8_ := Aside0.mk ((by rw [hg]; exact Nat.ne_of_lt (blk_lt (g := gb182) (o := .cells #[.string a1_0, .int .i64 a1_1, .int .i64 a1_2, .int .i64 a1_3, .int .i64 a1_4, .int .i64 a1_5] 27 (0, 0)) (by (with_reducible repeat (first | refine blk_drewN ?_ _ | refine blk_drew ?_ | refine blk_alloc ?_ _)); exact BK182.out)) : gb182 ≠ gb183)); have n9_ := Aside0.mk ((by rw [hg]; exact Nat.ne_of_gt (blk_lt (g := gb182) (o := .cells #[.string a1_0, .int .i64 a1_1, .int .i64 a1_2, .int .i64 a1_3, .int .i64 a1_4, .int .i64 a1_5] 27 (0, 0)) (by (with_reducible repeat (first | refine blk_drewN ?_ _ | refine blk_drew ?_ | refine blk_alloc ?_ _)); exact BK182.out)) : gb183 ≠ gb182)); clear BK181; clear BK182; clear HB; have BK181 := n0_; have BK182 := n1_; have HB := n2_; have BK183 := n3_; have GW183 := n4_; have GE183 := n5_; have NB181_183 := n6_; have NB183_181 := n7_; have NB182_183 := n8_; have NB183_182 := n9_; clear n0_ n1_ n2_ n3_ n4_ n5_ n6_ n7_ n8_ n9_; clear hb hbox hg; have hnb12 := NB181_182.out; have hnc12 := NB182_181.out; have hnb13 := NB181_183.out; have hnc13 := NB183_181.out; have hcz14_0 : w11.cell? ⟨gb181, 0, none⟩ = some (.string a0_0) := (blk_cell BK181.out 0).trans rfl; have hcz14_1 : w11.cell? ⟨gb181, 1, none⟩ = some (.int .i64 a0_1) := (blk_cell BK181.out 1).trans rfl; have hcz14_2 : w11.cell? ⟨gb181, 2, none⟩ = some (.int .i64 a0_2) := (blk_cell BK181.out 2).trans rfl; have hcz14_3 : w11.cell? ⟨gb181, 3, none⟩ = some (.int .i64 a0_3) := (blk_cell BK181.out 3).trans rfl; have hcz14_4 : w11.cell? ⟨gb181, 4, none⟩ = some (.int .i64 a0_4) := (blk_cell BK181.out 4).trans rfl; have hcz14_5 : w11.cell? ⟨gb181, 5, none⟩ = some (.int .i64 a0_5) := (blk_cell BK181.out 5).trans rfl; have hcz14_6 : w11.cell? ⟨gb181, 6, none⟩ = some (.bool a0_6) := (blk_cell BK181.out 6).trans rfl; have hfz14_0 := blk_frozen BK181.out 0; have hfz14_1 := blk_frozen BK181.out 1; have hfz14_2 := blk_frozen BK181.out 2; have hfz14_3 := blk_frozen BK181.out 3; have hfz14_4 := blk_frozen BK181.out 4; have hfz14_5 := blk_frozen BK181.out 5; have hfz14_6 := blk_frozen BK181.out 6; have hnb15 := NB183_182.out; have hnc15 := NB182_183.out; have hcz16_0 : w11.cell? ⟨gb183, 0, none⟩ = some (.string a2_0) := (blk_cell BK183.out 0).trans rfl; have hcz16_1 : w11.cell? ⟨gb183, 1, none⟩ = some (.int .i64 a2_1) := (blk_cell BK183.out 1).trans rfl; have hcz16_2 : w11.cell? ⟨gb183, 2, none⟩ = some (.int .i64 a2_2) := (blk_cell BK183.out 2).trans rfl; have hcz16_3 : w11.cell? ⟨gb183, 3, none⟩ = some (.int .i64 a2_3) := (blk_cell BK183.out 3).trans rfl; have hcz16_4 : w11.cell? ⟨gb183, 4, none⟩ = some (.int .i64 a2_4) := (blk_cell BK183.out 4).trans rfl; have hcz16_5 : w11.cell? ⟨gb183, 5, none⟩ = some (.int .i64 a2_5) := (blk_cell BK183.out 5).trans rfl; have hfz16_0 := blk_frozen BK183.out 0; have hfz16_1 := blk_frozen BK183.out 1; have hfz16_2 := blk_frozen BK183.out 2; have hfz16_3 := blk_frozen BK183.out 3; have hfz16_4 := blk_frozen BK183.out 4; have hfz16_5 := blk_frozen BK183.out 5; have hcz17_0 : w11.cell? ⟨gb182, 0, none⟩ = some (.string a1_0) := (blk_cell BK182.out 0).trans rfl; have hcz17_1 : w11.cell? ⟨gb182, 1, none⟩ = some (.int .i64 a1_1) := (blk_cell BK182.out 1).trans rfl; have hcz17_2 : w11.cell? ⟨gb182, 2, none⟩ = some (.int .i64 a1_2) := (blk_cell BK182.out 2).trans rfl; have hcz17_3 : w11.cell? ⟨gb182, 3, none⟩ = some (.int .i64 a1_3) := (blk_cell BK182.out 3).trans rfl; have hcz17_4 : w11.cell? ⟨gb182, 4, none⟩ = some (.int .i64 a1_4) := (blk_cell BK182.out 4).trans rfl; have hcz17_5 : w11.cell? ⟨gb182, 5, none⟩ = some (.int .i64 a1_5) := (blk_cell BK182.out 5).trans rfl; have hfz17_0 := blk_frozen BK182.out 0; have hfz17_1 := blk_frozen BK182.out 1; have hfz17_2 := blk_frozen BK182.out 2; have hfz17_3 := blk_frozen BK182.out 3; have hfz17_4 := blk_frozen BK182.out 4; have hfz17_5 := blk_frozen BK182.out 5) | ((with_reducible refine gate_callee (f := 8) rfl ?_); refine goesL_ (some 18) rfl rfl Try.func8 (by kernel_rfl) rfl #[.agg #[.string a0_0, .int .i64 a0_1, .int .i64 a0_2, .int .i64 a0_3, .int .i64 a0_4, .int .i64 a0_5, .bool a0_6], .agg #[.string a2_0, .int .i64 a2_1, .int .i64 a2_2, .int .i64 a2_3], .agg #[.string a1_0, .int .i64 a1_1, .int .i64 a1_2, .int .i64 a1_3, .int .i64 a1_4, .int .i64 a1_5], .int .i64 a2_4] rfl (by (try simp only [List.map_toArray, List.map_cons, List.map_nil]); first | done | rfl | (simp only [List.length_drop, List.length_take]; rfl)) ?_; (with_reducible refine (expiry_Cash.calls k a0_0 a0_1 a0_2 a0_3 a0_4 a0_5 a0_6 a2_0 a2_1 a2_2 a2_3 a1_0 a1_1 a1_2 a1_3 a1_4 a1_5 a2_4 t184 t185 _ A4.out).mono ?_); rintro e w18 ⟨rfl, hb⟩; refine ⟨_, rfl, ?_⟩; have n0_ := Aside0.mk (blk_below (g := gb181) (o := .cells #[.string a0_0, .int .i64 a0_1, .int .i64 a0_2, .int .i64 a0_3, .int .i64 a0_4, .int .i64 a0_5, .bool a0_6] 23 (0, 0)) (by (with_reducible repeat (first | refine blk_drewN ?_ _ | refine blk_drew ?_ | refine blk_alloc ?_ _)); exact BK181.out) hb); have n1_ := Aside0.mk (blk_below (g := gb182) (o := .cells #[.string a1_0, .int .i64 a1_1, .int .i64 a1_2, .int .i64 a1_3, .int .i64 a1_4, .int .i64 a1_5] 27 (0, 0)) (by (with_reducible repeat (first | refine blk_drewN ?_ _ | refine blk_drew ?_ | refine blk_alloc ?_ _)); exact BK182.out) hb); have n2_ := Aside0.mk (blk_below (g := gb183) (o := .cells #[.string a2_0, .int .i64 a2_1, .int .i64 a2_2, .int .i64 a2_3, .int .i64 a2_4, .int .i64 a2_5] 29 (0, 0)) (by (with_reducible repeat (first | refine blk_drewN ?_ _ | refine blk_drew ?_ | refine blk_alloc ?_ _)); exact BK183.out) hb); have n3_ := Aside0.mk (below_step (by repeat (first | (with_reducible first | exact HB.out | apply below_alloc | apply pw_below_drewN | apply below_drew1 | refine below_set ?_ GE181.out | refine below_set ?_ GE182.out | refine below_set ?_ GE183.out) | exact HB.out)) hb); clear BK181; clear BK182; clear BK183; clear HB; have BK181 := n0_; have BK182 := n1_; have BK183 := n2_; have HB := n3_; clear n0_ n1_ n2_ n3_; (try clear hb); (try clear hb2); (try clear hk); (try clear hi); have hcz19_0 : w18.cell? ⟨gb181, 0, none⟩ = some (.string a0_0) := (blk_cell BK181.out 0).trans rfl; have hcz19_1 : w18.cell? ⟨gb181, 1, none⟩ = some (.int .i64 a0_1) := (blk_cell BK181.out 1).trans rfl; have hcz19_2 : w18.cell? ⟨gb181, 2, none⟩ = some (.int .i64 a0_2) := (blk_cell BK181.out 2).trans rfl; have hcz19_3 : w18.cell? ⟨gb181, 3, none⟩ = some (.int .i64 a0_3) := (blk_cell BK181.out 3).trans rfl; have hcz19_4 : w18.cell? ⟨gb181, 4, none⟩ = some (.int .i64 a0_4) := (blk_cell BK181.out 4).trans rfl; have hcz19_5 : w18.cell? ⟨gb181, 5, none⟩ = some (.int .i64 a0_5) := (blk_cell BK181.out 5).trans rfl; have hcz19_6 : w18.cell? ⟨gb181, 6, none⟩ = some (.bool a0_6) := (blk_cell BK181.out 6).trans rfl; have hfz19_0 := blk_frozen BK181.out 0; have hfz19_1 := blk_frozen BK181.out 1; have hfz19_2 := blk_frozen BK181.out 2; have hfz19_3 := blk_frozen BK181.out 3; have hfz19_4 := blk_frozen BK181.out 4; have hfz19_5 := blk_frozen BK181.out 5; have hfz19_6 := blk_frozen BK181.out 6; have hcz20_0 : w18.cell? ⟨gb183, 0, none⟩ = some (.string a2_0) := (blk_cell BK183.out 0).trans rfl; have hcz20_1 : w18.cell? ⟨gb183, 1, none⟩ = some (.int .i64 a2_1) := (blk_cell BK183.out 1).trans rfl; have hcz20_2 : w18.cell? ⟨gb183, 2, none⟩ = some (.int .i64 a2_2) := (blk_cell BK183.out 2).trans rfl; have hcz20_3 : w18.cell? ⟨gb183, 3, none⟩ = some (.int .i64 a2_3) := (blk_cell BK183.out 3).trans rfl; have hcz20_4 : w18.cell? ⟨gb183, 4, none⟩ = some (.int .i64 a2_4) := (blk_cell BK183.out 4).trans rfl; have hcz20_5 : w18.cell? ⟨gb183, 5, none⟩ = some (.int .i64 a2_5) := (blk_cell BK183.out 5).trans rfl; have hfz20_0 := blk_frozen BK183.out 0; have hfz20_1 := blk_frozen BK183.out 1; have hfz20_2 := blk_frozen BK183.out 2; have hfz20_3 := blk_frozen BK183.out 3; have hfz20_4 := blk_frozen BK183.out 4; have hfz20_5 := blk_frozen BK183.out 5; have hcz21_0 : w18.cell? ⟨gb182, 0, none⟩ = some (.string a1_0) := (blk_cell BK182.out 0).trans rfl; have hcz21_1 : w18.cell? ⟨gb182, 1, none⟩ = some (.int .i64 a1_1) := (blk_cell BK182.out 1).trans rfl; have hcz21_2 : w18.cell? ⟨gb182, 2, none⟩ = some (.int .i64 a1_2) := (blk_cell BK182.out 2).trans rfl; have hcz21_3 : w18.cell? ⟨gb182, 3, none⟩ = some (.int .i64 a1_3) := (blk_cell BK182.out 3).trans rfl; have hcz21_4 : w18.cell? ⟨gb182, 4, none⟩ = some (.int .i64 a1_4) := (blk_cell BK182.out 4).trans rfl; have hcz21_5 : w18.cell? ⟨gb182, 5, none⟩ = some (.int .i64 a1_5) := (blk_cell BK182.out 5).trans rfl; have hfz21_0 := blk_frozen BK182.out 0; have hfz21_1 := blk_frozen BK182.out 1; have hfz21_2 := blk_frozen BK182.out 2; have hfz21_3 := blk_frozen BK182.out 3; have hfz21_4 := blk_frozen BK182.out 4; have hfz21_5 := blk_frozen BK182.out 5) | ((with_reducible refine gate_callee (f := 9) rfl ?_); refine goesL_ (some 28) rfl rfl Try.func9 (by kernel_rfl) rfl #[.agg #[.string a0_0, .int .i64 a0_1, .int .i64 a0_2, .int .i64 a0_3, .int .i64 a0_4, .int .i64 a0_5, .bool a0_6], .agg #[.string a2_0, .int .i64 a2_1, .int .i64 a2_2, .int .i64 a2_3], .agg #[.string a1_0, .int .i64 a1_1, .int .i64 a1_2, .int .i64 a1_3, .int .i64 a1_4, .int .i64 a1_5], .int .i64 a2_4] rfl (by (try simp only [List.map_toArray, List.map_cons, List.map_nil]); first | done | rfl | (simp only [List.length_drop, List.length_take]; rfl)) ?_; (with_reducible refine (contangoref51_Cash.calls k a0_0 a0_1 a0_2 a0_3 a0_4 a0_5 a0_6 a2_0 a2_1 a2_2 a2_3 a1_0 a1_1 a1_2 a1_3 a1_4 a1_5 a2_4 t186 t187 _ A5.out).mono ?_); rintro e w22 ⟨rfl, hb⟩; refine ⟨_, rfl, ?_⟩; have n0_ := Aside0.mk (blk_below (g := gb181) (o := .cells #[.string a0_0, .int .i64 a0_1, .int .i64 a0_2, .int .i64 a0_3, .int .i64 a0_4, .int .i64 a0_5, .bool a0_6] 23 (0, 0)) (by (with_reducible repeat (first | refine blk_drewN ?_ _ | refine blk_drew ?_ | refine blk_alloc ?_ _)); exact BK181.out) hb); have n1_ := Aside0.mk (blk_below (g := gb182) (o := .cells #[.string a1_0, .int .i64 a1_1, .int .i64 a1_2, .int .i64 a1_3, .int .i64 a1_4, .int .i64 a1_5] 27 (0, 0)) (by (with_reducible repeat (first | refine blk_drewN ?_ _ | refine blk_drew ?_ | refine blk_alloc ?_ _)); exact BK182.out) hb); have n2_ := Aside0.mk (blk_below (g := gb183) (o := .cells #[.string a2_0, .int .i64 a2_1, .int .i64 a2_2, .int .i64 a2_3, .int .i64 a2_4, .int .i64 a2_5] 29 (0, 0)) (by (with_reducible repeat (first | refine blk_drewN ?_ _ | refine blk_drew ?_ | refine blk_alloc ?_ _)); exact BK183.out) hb); have n3_ := Aside0.mk (below_step (by repeat (first | (with_reducible first | exact HB.out | apply below_alloc | apply pw_below_drewN | apply below_drew1 | refine below_set ?_ GE181.out | refine below_set ?_ GE182.out | refine below_set ?_ GE183.out) | exact HB.out)) hb); clear BK181; clear BK182; clear BK183; clear HB; have BK181 := n0_; have BK182 := n1_; have BK183 := n2_; have HB := n3_; clear n0_ n1_ n2_ n3_; (try clear hb); (try clear hb2); (try clear hk); (try clear hi)) | (go_at_call 10; (with_reducible refine (contangolaw51_goes.calls k  t188 _ A8.out).mono ?_); rintro e w23 ⟨rfl, hb⟩; have n0_ := Aside0.mk (blk_below (g := gb181) (o := .cells #[.string a0_0, .int .i64 a0_1, .int .i64 a0_2, .int .i64 a0_3, .int .i64 a0_4, .int .i64 a0_5, .bool a0_6] 23 (0, 0)) (by (with_reducible repeat (first | refine blk_drewN ?_ _ | refine blk_drew ?_ | refine blk_alloc ?_ _)); exact BK181.out) hb); have n1_ := Aside0.mk (blk_below (g := gb182) (o := .cells #[.string a1_0, .int .i64 a1_1, .int .i64 a1_2, .int .i64 a1_3, .int .i64 a1_4, .int .i64 a1_5] 27 (0, 0)) (by (with_reducible repeat (first | refine blk_drewN ?_ _ | refine blk_drew ?_ | refine blk_alloc ?_ _)); exact BK182.out) hb); have n2_ := Aside0.mk (blk_below (g := gb183) (o := .cells #[.string a2_0, .int .i64 a2_1, .int .i64 a2_2, .int .i64 a2_3, .int .i64 a2_4, .int .i64 a2_5] 29 (0, 0)) (by (with_reducible repeat (first | refine blk_drewN ?_ _ | refine blk_drew ?_ | refine blk_alloc ?_ _)); exact BK183.out) hb); have n3_ := Aside0.mk (below_step (by repeat (first | (with_reducible first | exact HB.out | apply below_alloc | apply pw_below_drewN | apply below_drew1 | refine below_set ?_ GE181.out | refine below_set ?_ GE182.out | refine below_set ?_ GE183.out) | exact HB.out)) hb); clear BK181; clear BK182; clear BK183; clear HB; have BK181 := n0_; have BK182 := n1_; have BK183 := n2_; have HB := n3_; clear n0_ n1_ n2_ n3_; (try clear hb); (try clear hb2); (try clear hk); (try clear hi)))
      go_ret
      exact ⟨by first | rfl | (simp [errW_none, errW_some] <;> rfl) | (simp [*, errW_none, errW_some] <;> rfl), by repeat (first | (with_reducible first | exact HB.out | apply below_alloc | apply pw_below_drewN | apply below_drew1 | refine below_set ?_ GE181.out | refine below_set ?_ GE182.out | refine below_set ?_ GE183.out) | exact HB.out)⟩
    · rw [if_neg c7] at H
      exact absurd (H.trans (congrArg some HRT.out)) (by first | simp [] | (simp only []; (repeat' split) <;> simp))
  · rw [if_neg c6] at H
    exact absurd (H.trans (congrArg some HRT.out)) (by first | simp [] | (simp only []; (repeat' split) <;> simp))

end Go.Proofs.Ytoejllkjhaeeeaa.PExpiryCash
