import Derived.Test.YtoejllkjhaeeeaaPExpiryFlowsx0
import Derived.Test.YtoejllkjhaeeeaaPExpiryFlowsx9
import Derived.Test.YtoejllkjhaeeeaaPExpiryFlowsx12
namespace Go.Proofs.Ytoejllkjhaeeeaa.PExpiryFlows
open Go.RowKit Go.Proofs.YtoejllkjhaeeeaaW.PrintWords Go.Proofs.YtoejllkjhaeeeaaW.PrintLast Go.Proofs.YtoejllkjhaeeeaaW.PrintMore
attribute [local go_sem] max2_int min2_int max_two min_two max_three min_three max_four min_four Go.Proofs.YtoejllkjhaeeeaaHand.run_leq_str Go.Proofs.YtoejllkjhaeeeaaHand.run_gtr_str Go.Proofs.YtoejllkjhaeeeaaHand.run_geq_str   -- for this text's walks alone
set_option linter.unusedVariables false
set_option linter.unusedSimpArgs false

/-! ### contangolaw51_goes: function 10 -/
/-- A block read as a row. -/
theorem C_block {α : Type} (d : Kd α) {W : World} {g t : Nat} {cs : List Value} {xs : List α} (hb : W.heap[g]? = some (.cells cs.toArray t (0, 0))) (hr : Reps (d.K W) d.sz xs cs) (hl : xs.length ≤ 9223372036854775807) : d.C W (some ⟨g, 0, none⟩) xs.length xs := by
  refine ⟨rfl, hl, fun _ => ⟨_, rfl, fun j p hj => ⟨(cs.drop (j * d.sz)).take d.sz, d.K_len (hr.2 j p hj), hr.2 j p hj, fun i u hu => ?_⟩⟩⟩
  rw [List.getElem?_take] at hu
  split at hu
  · rw [List.getElem?_drop] at hu
    have : (⟨g, 0, none⟩ : Addr).add (j * d.sz + i) = ⟨g, j * d.sz + i, none⟩ := by
      unfold Addr.add
      split <;> simp_all
    rw [this, blk_cell hb]
    simpa using hu
  · cases hu

def contangolaw51_goes.f (k : Nat) : Option Bool :=
  (expiry_Cash.f k ⟨#[111, 105, 108]⟩ 0 100 1 0 1000 false ⟨#[111, 105, 108]⟩ 2 20 50 ⟨#[111, 105, 108]⟩ 2 20 50 0 3 52).bind fun x => if x.1 = -600 ∧ x.2 = 0 then
    ((expiry_Assign.f k [⟨⟨⟨#[97]⟩, ⟨#[120]⟩⟩, [⟨⟨⟨#[111, 105, 108]⟩, 2, 20, 50⟩, 0, 2⟩]⟩, ⟨⟨⟨#[98]⟩, ⟨#[120]⟩⟩, []⟩, ⟨⟨⟨#[100]⟩, ⟨#[120]⟩⟩, [⟨⟨⟨#[111, 105, 108]⟩, 2, 20, 50⟩, 0, 6⟩]⟩] ⟨#[111, 105, 108]⟩ 2 20 50 5).bind fun y => if y.2 = 0 ∧ y.1.length = 2 ∧ (rd_T49 y.1 0).f1 = 1 ∧ (rd_T49 y.1 0).f0.f0.toList = [97] ∧ (rd_T49 y.1 1).f1 = 4 then some true else none) else none
theorem contangolaw51_goes.mono : ∀ k, LeO (contangolaw51_goes.f k) (contangolaw51_goes.f (k + 1)) := by
  intro k
  unfold contangolaw51_goes.f
  exact LeO.bind (expiry_Cash.mono _ _ _ _ _ _ _ _ _ _ _ _ _ _ _ _ _ _ _) (fun x => LeO.ite (LeO.bind (expiry_Assign.mono _ _ _ _ _ _ _) (fun y => LeO.refl _)) (LeO.refl _))
set_option maxHeartbeats 800000 in
set_option maxRecDepth 100000 in
theorem contangolaw51_goes.short (c0 : ByteArray) (c1 c2 c3 : Int) (b : Nat) (s : ByteArray) (n : Int) (w : World) (hb : w.heap[b]? = some (.cells #[.string c0, .int .i64 c1, .int .i64 c2, .int .i64 c3] 25 (0, 0))) :
    Calls Try.prog 33 #[.string s, .int .i64 n, .pointer (some ⟨b, 0, none⟩)] w fun e w' => ∃ (A : Option Addr) (c : Nat), e = .returned (.agg #[.string s, .string ⟨#[120]⟩, .slice A 1 c]) ∧ 1 ≤ c ∧ Kd.C k27 w' A 1 [⟨⟨c0, c1, c2, c3⟩, 0, n⟩] ∧ Below w.heap.size w w' := by
  have HBK := Aside0.mk hb
  have hltb := blk_lt hb
  have h0 : w.cell? ⟨b, 0, none⟩ = some (.string c0) := (blk_cell hb 0).trans rfl
  have h1 : w.cell? ⟨b, 1, none⟩ = some (.int .i64 c1) := (blk_cell hb 1).trans rfl
  have h2 : w.cell? ⟨b, 2, none⟩ = some (.int .i64 c2) := (blk_cell hb 2).trans rfl
  have h3 : w.cell? ⟨b, 3, none⟩ = some (.int .i64 c3) := (blk_cell hb 3).trans rfl
  clear hb
  go_enter Try.func33, Try.ntmps33
  go_wp2
  have hB := blk_new (w.alloc (.cells #[.string s, .string ⟨#[120]⟩, .slice (some ⟨w.heap.size + 1, 0, none⟩) 1 1] 47)) (.cells [Value.string c0, .int .i64 c1, .int .i64 c2, .int .i64 c3, .int .i64 0, .int .i64 n].toArray 27 (0, 0))
  simp only [World.size_alloc] at hB
  refine bodyPost_ret (results_cell_row rfl _ _ w.heap.size 47 #[.string s, .string ⟨#[120]⟩, .slice (some ⟨w.heap.size + 1, 0, none⟩) 1 1] (0, 0) _ rfl (blk_alloc (blk_new w _) _) Try.underlying47 rfl (by kernel_rfl)) rfl ?_
  refine ⟨some ⟨w.heap.size + 1, 0, none⟩, 1, rfl, Nat.le_refl _, ?_, below_alloc (below_alloc (Below.refl _ _) _) _⟩
  exact C_block k27 (xs := [⟨⟨c0, c1, c2, c3⟩, 0, n⟩]) hB (by have := (Reps.none (k27.K _) 6).snoc (k27_mk ((w.alloc (.cells #[.string s, .string ⟨#[120]⟩, .slice (some ⟨w.heap.size + 1, 0, none⟩) 1 1] 47)).alloc (.cells #[.string c0, .int .i64 c1, .int .i64 c2, .int .i64 c3, .int .i64 0, .int .i64 n] 27)) ⟨⟨c0, c1, c2, c3⟩, 0, n⟩) rfl; exact this) (by simp)
set_option maxHeartbeats 1600000 in
set_option maxRecDepth 100000 in
theorem contangolaw51_goes.calls (k : Nat) (r : Bool) (w : World) (h : contangolaw51_goes.f k = some r) :
    Calls Try.prog 10 #[] w fun e w' => e = .returned (.bool r) ∧ Below w.heap.size w w' := by
 unfold contangolaw51_goes.f at h
 obtain ⟨⟨x1, x2⟩, hX, h⟩ := Option.bind_eq_some_iff.mp h
 by_cases hx : x1 = -600 ∧ x2 = 0
 case neg => simp only at h; rw [if_neg hx] at h; cases h
 simp only at h
 rw [if_pos hx] at h
 obtain ⟨rfl, rfl⟩ := hx
 obtain ⟨⟨y, y2⟩, hY, h⟩ := Option.bind_eq_some_iff.mp h
 by_cases hy : y2 = 0 ∧ y.length = 2 ∧ (rd_T49 y 0).f1 = 1 ∧ (rd_T49 y 0).f0.f0.toList = [97] ∧ (rd_T49 y 1).f1 = 4
 case neg => simp only at h; rw [if_neg hy] at h; cases h
 simp only at h
 rw [if_pos hy] at h
 obtain rfl := Option.some.inj h
 obtain ⟨rfl, hy1, hy2, hy3, hy4⟩ := hy
 obtain ⟨p, q, rfl⟩ : ∃ p q, y = [p, q] := by
   match y, hy1 with
   | [p, q], _ => exact ⟨p, q, rfl⟩
 obtain ⟨⟨p0, p1⟩, p2⟩ := p
 obtain ⟨⟨q0, q1⟩, q2⟩ := q
 have hy2 : p2 = 1 := hy2
 have hy4 : q2 = 4 := hy4
 have hy3 : p0.toList = [97] := hy3
 subst hy2 hy4
 have hs1 : (p0.toList == [97]) = true := beq_iff_eq.mpr hy3
 have HX := Aside0.mk hX
 have HY := Aside0.mk hY
 have HS1 := Aside0.mk hs1
 clear h hX hY hy1 hy3 hs1
 go_enter Try.func10, Try.ntmps10
 go_wp2
 have BS := Aside0.mk (blk_new w (.cells #[.string (⟨#[111, 105, 108]⟩ : ByteArray), .int .i64 2, .int .i64 20, .int .i64 50] 25 (0, 0)))
 have HB := Aside0.mk (below_alloc (Below.refl _ w) (.cells #[.string (⟨#[111, 105, 108]⟩ : ByteArray), .int .i64 2, .int .i64 20, .int .i64 50] 25 (0, 0)))
 refine start_ (n := 10) (S := fun w' => w'.cell? ⟨w.heap.size, 0, none⟩ = some (.string (⟨#[111, 105, 108]⟩ : ByteArray)) ∧ w'.cell? ⟨w.heap.size, 1, none⟩ = some (.int .i64 2) ∧ w'.cell? ⟨w.heap.size, 2, none⟩ = some (.int .i64 20) ∧ w'.cell? ⟨w.heap.size, 3, none⟩ = some (.int .i64 50)) (ds := []) (tf 0 10) (by kernel_rfl) rfl rfl ⟨((blk_cell (blk_drew BS.out) 0).trans rfl), ((blk_cell (blk_drew BS.out) 1).trans rfl), ((blk_cell (blk_drew BS.out) 2).trans rfl), ((blk_cell (blk_drew BS.out) 3).trans rfl)⟩ (fun hHeld => ?_)
 refine take_ (i := 1) (N := some 11) (v := ?_) (a' := ?_) #[false, true, false, false, false, false, false, false, false, false] rfl rfl (by kernel_rfl) (fun _ _ _ h => h) (Or.inl ⟨by rfl, ?_⟩) hHeld ?_ ?_
 rotate_left
 · rintro w' ⟨s0, s1, s2, s3⟩
   go_simp
   with_reducible rfl
 rotate_left
 · exact ap_
 refine take_ (i := 2) (N := some 12) (v := ?_) (a' := ?_) #[false, true, true, false, false, false, false, false, false, false] rfl rfl (by kernel_rfl) (fun _ _ _ h => h) (Or.inl ⟨by rfl, ?_⟩) hHeld ?_ ?_
 rotate_left
 · rintro w' ⟨s0, s1, s2, s3⟩
   go_simp
   with_reducible rfl
 rotate_left
 · exact ap_
 refine pure_ (i := 3) (N := some 13) (v := ?_) (a' := ?_) #[false, true, true, true, false, false, false, false, false, false] rfl rfl (by kernel_rfl) (fun _ _ _ h => h) (Or.inl ⟨by rfl, ?_⟩) ?_ ?_
 rotate_left
 · intro w'
   go_simp
   with_reducible rfl
 rotate_left
 · exact ap_
 refine one_ (i := 0) (N := some 10) (tf 4 6) rfl rfl (by kernel_rfl) (by decide) (fun K hK => ?_)
 refine goes_ Try.func34 (by kernel_rfl) rfl #[] (by rfl) rfl rfl (by simp) ?_
 with_reducible refine (contangolaw51_oil.calls (⟨#[111, 105, 108]⟩ : ByteArray) 0 100 1 0 1000 false _ rfl).mono ?_
 rintro _ w1 ⟨rfl, hb⟩
 refine ⟨_, rfl, ?_⟩
 have BS1 := Aside0.mk (blk_below (blk_drew BS.out) hb)
 have HB1 := Aside0.mk (below_step (below_drew HB.out) hb)
 clear hb
 refine hK.out _ _ ⟨((blk_cell BS1.out 0).trans rfl), ((blk_cell BS1.out 1).trans rfl), ((blk_cell BS1.out 2).trans rfl), ((blk_cell BS1.out 3).trans rfl)⟩ (fun hHeld => ?_)
 clear hK K
 refine norm_ (a' := ?_) ?_ ?_
 rotate_left
 · show Act.put _ (some 10) _ = _
   simp only [Act.put, List.setIfInBounds_toArray, List.set_cons_zero, List.set_cons_succ, i64_w, i32_w]
   rfl
 refine one_ (i := 4) (N := some 14) (tf 5 5) rfl rfl (by kernel_rfl) (by decide) (fun K hK => ?_)
 refine goes_ Try.func8 (by kernel_rfl) rfl #[.agg #[.string (⟨#[111, 105, 108]⟩ : ByteArray), .int .i64 0, .int .i64 100, .int .i64 1, .int .i64 0, .int .i64 1000, .bool false], .agg #[.string (⟨#[111, 105, 108]⟩ : ByteArray), .int .i64 2, .int .i64 20, .int .i64 50], .agg #[.string (⟨#[111, 105, 108]⟩ : ByteArray), .int .i64 2, .int .i64 20, .int .i64 50, .int .i64 0, .int .i64 3], .int .i64 52] (by rfl) rfl rfl (by simp only [List.map_toArray, List.map_cons, List.map_nil]; rfl) ?_
 with_reducible refine (expiry_Cash.calls k (⟨#[111, 105, 108]⟩ : ByteArray) 0 100 1 0 1000 false (⟨#[111, 105, 108]⟩ : ByteArray) 2 20 50 (⟨#[111, 105, 108]⟩ : ByteArray) 2 20 50 0 3 52 (-600) 0 _ HX.out).mono ?_
 rintro _ w2 ⟨rfl, hb⟩
 refine ⟨_, rfl, ?_⟩
 have BS2 := Aside0.mk (blk_below BS1.out hb)
 have HB2 := Aside0.mk (below_step HB1.out hb)
 clear hb
 refine hK.out _ _ ⟨((blk_cell BS2.out 0).trans rfl), ((blk_cell BS2.out 1).trans rfl), ((blk_cell BS2.out 2).trans rfl), ((blk_cell BS2.out 3).trans rfl)⟩ (fun hHeld => ?_)
 clear hK K
 refine norm_ (a' := ?_) ?_ ?_
 rotate_left
 · show Act.put _ (some 14) _ = _
   simp only [Act.put, List.setIfInBounds_toArray, List.set_cons_zero, List.set_cons_succ, i64_w, i32_w]
   rfl
 refine pure_ (i := 5) (N := some 9) (v := ?_) (a' := ?_) (tf 6 4) rfl rfl (by kernel_rfl) (fun _ _ _ h => h) (Or.inl ⟨by rfl, ?_⟩) ?_ ?_
 rotate_left
 · intro w'
   go_simp
   with_reducible rfl
 rotate_left
 · exact ap_
 refine pure_ (i := 6) (N := some 15) (v := ?_) (a' := ?_) (tf 7 3) rfl rfl (by kernel_rfl) (fun _ _ _ h => h) (Or.inl ⟨by rfl, ?_⟩) ?_ ?_
 rotate_left
 · intro w'
   go_simp
   with_reducible rfl
 rotate_left
 · exact ap_
 refine pure_ (i := 7) (N := some 16) (v := ?_) (a' := ?_) (tf 8 2) rfl rfl (by kernel_rfl) (fun _ _ _ h => h) (Or.inl ⟨by rfl, ?_⟩) ?_ ?_
 rotate_left
 · intro w'
   go_simp
   with_reducible rfl
 rotate_left
 · exact ap_
 refine pure_ (i := 8) (N := some 3) (v := ?_) (a' := ?_) (tf 9 1) rfl rfl (by kernel_rfl) (fun _ _ _ h => h) (Or.inl ⟨by rfl, ?_⟩) ?_ ?_
 rotate_left
 · intro w'
   go_simp
   with_reducible rfl
 rotate_left
 · exact ap_
 refine pure_ (i := 9) (N := some 4) (v := ?_) (a' := ?_) (tf 10 0) rfl rfl (by kernel_rfl) (fun _ _ _ h => h) (Or.inl ⟨by rfl, ?_⟩) ?_ ?_
 rotate_left
 · intro w'
   go_simp
   with_reducible rfl
 rotate_left
 · exact ap_
 refine done_ (by kernel_rfl) ?_
 go_wp2
 refine start_ (n := 14) (S := fun w' => w'.cell? ⟨w.heap.size, 0, none⟩ = some (.string (⟨#[111, 105, 108]⟩ : ByteArray)) ∧ w'.cell? ⟨w.heap.size, 1, none⟩ = some (.int .i64 2) ∧ w'.cell? ⟨w.heap.size, 2, none⟩ = some (.int .i64 20) ∧ w'.cell? ⟨w.heap.size, 3, none⟩ = some (.int .i64 50)) (ds := []) (tf 0 14) (by kernel_rfl) rfl rfl ⟨((blk_cell (blk_drew BS2.out) 0).trans rfl), ((blk_cell (blk_drew BS2.out) 1).trans rfl), ((blk_cell (blk_drew BS2.out) 2).trans rfl), ((blk_cell (blk_drew BS2.out) 3).trans rfl)⟩ (fun hHeld => ?_)
 refine pure_ (i := 0) (N := some 18) (v := ?_) (a' := ?_) (tf 1 13) rfl rfl (by kernel_rfl) (fun _ _ _ h => h) (Or.inl ⟨by rfl, ?_⟩) ?_ ?_
 rotate_left
 · intro w'
   go_simp
   with_reducible rfl
 rotate_left
 · exact ap_
 refine pure_ (i := 2) (N := some 20) (v := ?_) (a' := ?_) #[true, false, true, false, false, false, false, false, false, false, false, false, false, false] rfl rfl (by kernel_rfl) (fun _ _ _ h => h) (Or.inl ⟨by rfl, ?_⟩) ?_ ?_
 rotate_left
 · intro w'
   go_simp
   with_reducible rfl
 rotate_left
 · exact ap_
 refine pure_ (i := 3) (N := some 21) (v := ?_) (a' := ?_) #[true, false, true, true, false, false, false, false, false, false, false, false, false, false] rfl rfl (by kernel_rfl) (fun _ _ _ h => h) (Or.inl ⟨by rfl, ?_⟩) ?_ ?_
 rotate_left
 · intro w'
   go_simp
   with_reducible rfl
 rotate_left
 · exact ap_
 refine pure_ (i := 4) (N := some 22) (v := ?_) (a' := ?_) #[true, false, true, true, true, false, false, false, false, false, false, false, false, false] rfl rfl (by kernel_rfl) (fun _ _ _ h => h) (Or.inl ⟨by rfl, ?_⟩) ?_ ?_
 rotate_left
 · intro w'
   go_simp
   with_reducible rfl
 rotate_left
 · exact ap_
 refine take_ (i := 7) (N := some 25) (v := ?_) (a' := ?_) #[true, false, true, true, true, false, false, true, false, false, false, false, false, false] rfl rfl (by kernel_rfl) (fun _ _ _ h => h) (Or.inl ⟨by rfl, ?_⟩) hHeld ?_ ?_
 rotate_left
 · rintro w' ⟨s0, s1, s2, s3⟩
   go_simp
   with_reducible rfl
 rotate_left
 · exact ap_
 refine one_ (i := 1) (N := some 19) #[true, true, true, true, true, false, false, true, false, false, false, false, false, false] rfl rfl (by kernel_rfl) (by decide) (fun K hK => ?_)
 refine goesV_ (enters_of Try.func33 (by kernel_rfl) rfl) #[.string ⟨#[97]⟩, .int .i64 2] (by rfl) rfl rfl (by rfl) (by simp only [List.map_toArray, List.map_cons, List.map_nil]; rfl) ?_
 refine (contangolaw51_goes.short (⟨#[111, 105, 108]⟩ : ByteArray) 2 20 50 w.heap.size ⟨#[97]⟩ 2 _ (blk_drew BS2.out)).mono ?_
 rintro _ w3 ⟨A1, c1, rfl, hc1, hC1, hb⟩
 refine ⟨_, rfl, ?_⟩
 have BS3 := Aside0.mk (blk_below (blk_drew BS2.out) hb)
 have HB3 := Aside0.mk (below_step (below_drew HB2.out) hb)
 have HC1 := Aside0.mk hC1
 have HL1 := Aside0.mk hc1
 clear hb hC1 hc1
 refine hK.out _ _ ⟨((blk_cell BS3.out 0).trans rfl), ((blk_cell BS3.out 1).trans rfl), ((blk_cell BS3.out 2).trans rfl), ((blk_cell BS3.out 3).trans rfl)⟩ (fun hHeld => ?_)
 clear hK K
 refine norm_ (a' := ?_) ?_ ?_
 rotate_left
 · show Act.put _ (some 19) _ = _
   simp only [Act.put, List.setIfInBounds_toArray, List.set_cons_zero, List.set_cons_succ, i64_w, i32_w]
   rfl
 refine one_ (i := 5) (N := some 23) #[true, true, true, true, true, true, false, true, false, false, false, false, false, false] rfl rfl (by kernel_rfl) (by decide) (fun K hK => ?_)
 refine goesV_ (enters_of Try.func33 (by kernel_rfl) rfl) #[.string ⟨#[100]⟩, .int .i64 6] (by rfl) rfl rfl (by rfl) (by simp only [List.map_toArray, List.map_cons, List.map_nil]; rfl) ?_
 refine (contangolaw51_goes.short (⟨#[111, 105, 108]⟩ : ByteArray) 2 20 50 w.heap.size ⟨#[100]⟩ 6 _ BS3.out).mono ?_
 rintro _ w4 ⟨A2, c2, rfl, hc2, hC2, hb⟩
 refine ⟨_, rfl, ?_⟩
 have BS4 := Aside0.mk (blk_below BS3.out hb)
 have HB4 := Aside0.mk (below_step HB3.out hb)
 have HC12 := Aside0.mk (Kd.C_below HC1.out hb)
 have HC2 := Aside0.mk hC2
 have HL2 := Aside0.mk hc2
 clear hb hC2 hc2
 refine hK.out _ _ ⟨((blk_cell BS4.out 0).trans rfl), ((blk_cell BS4.out 1).trans rfl), ((blk_cell BS4.out 2).trans rfl), ((blk_cell BS4.out 3).trans rfl)⟩ (fun hHeld => ?_)
 clear hK K
 refine norm_ (a' := ?_) ?_ ?_
 rotate_left
 · show Act.put _ (some 23) _ = _
   simp only [Act.put, List.setIfInBounds_toArray, List.set_cons_zero, List.set_cons_succ, i64_w, i32_w]
   rfl
 refine one_ (i := 6) (N := some 24) (tf 8 6) rfl rfl (by kernel_rfl) (by decide) (fun K hK => ?_)
 refine value_ (w1 := ?_) (v := ?_) (by rfl) rfl ?_ ?_
 rotate_left 2
 · go_simp
   constructor
   · rfl
   · rfl
 have BS5 := Aside0.mk (blk_alloc BS4.out (.cells ([.string ⟨#[97]⟩, .string ⟨#[120]⟩, .slice A1 1 c1, .string ⟨#[98]⟩, .string ⟨#[120]⟩, .slice none 0 0, .string ⟨#[100]⟩, .string ⟨#[120]⟩, .slice A2 1 c2] : List Value).toArray 47 (0, 0)))
 have HB5 := Aside0.mk (below_alloc HB4.out (.cells ([.string ⟨#[97]⟩, .string ⟨#[120]⟩, .slice A1 1 c1, .string ⟨#[98]⟩, .string ⟨#[120]⟩, .slice none 0 0, .string ⟨#[100]⟩, .string ⟨#[120]⟩, .slice A2 1 c2] : List Value).toArray 47 (0, 0)))
 have HBL := Aside0.mk (blk_new w4 (.cells ([.string ⟨#[97]⟩, .string ⟨#[120]⟩, .slice A1 1 c1, .string ⟨#[98]⟩, .string ⟨#[120]⟩, .slice none 0 0, .string ⟨#[100]⟩, .string ⟨#[120]⟩, .slice A2 1 c2] : List Value).toArray 47 (0, 0)))
 have HCL : Aside0 (Kd.C k47 (w4.alloc (.cells ([.string ⟨#[97]⟩, .string ⟨#[120]⟩, .slice A1 1 c1, .string ⟨#[98]⟩, .string ⟨#[120]⟩, .slice none 0 0, .string ⟨#[100]⟩, .string ⟨#[120]⟩, .slice A2 1 c2] : List Value).toArray 47 (0, 0))) (some ⟨w4.heap.size, 0, none⟩) 3 [⟨⟨⟨#[97]⟩, ⟨#[120]⟩⟩, [⟨⟨(⟨#[111, 105, 108]⟩ : ByteArray), 2, 20, 50⟩, 0, 2⟩]⟩, ⟨⟨⟨#[98]⟩, ⟨#[120]⟩⟩, []⟩, ⟨⟨⟨#[100]⟩, ⟨#[120]⟩⟩, [⟨⟨(⟨#[111, 105, 108]⟩ : ByteArray), 2, 20, 50⟩, 0, 6⟩]⟩]) := ⟨C_block k47 (xs := [⟨⟨⟨#[97]⟩, ⟨#[120]⟩⟩, [⟨⟨(⟨#[111, 105, 108]⟩ : ByteArray), 2, 20, 50⟩, 0, 2⟩]⟩, ⟨⟨⟨#[98]⟩, ⟨#[120]⟩⟩, []⟩, ⟨⟨⟨#[100]⟩, ⟨#[120]⟩⟩, [⟨⟨(⟨#[111, 105, 108]⟩ : ByteArray), 2, 20, 50⟩, 0, 6⟩]⟩]) HBL.out (((((Reps.none (k47.K (w4.alloc (.cells ([.string ⟨#[97]⟩, .string ⟨#[120]⟩, .slice A1 1 c1, .string ⟨#[98]⟩, .string ⟨#[120]⟩, .slice none 0 0, .string ⟨#[100]⟩, .string ⟨#[120]⟩, .slice A2 1 c2] : List Value).toArray 47 (0, 0)))) 3).snoc (p := (⟨⟨⟨#[97]⟩, ⟨#[120]⟩⟩, [⟨⟨(⟨#[111, 105, 108]⟩ : ByteArray), 2, 20, 50⟩, 0, 2⟩]⟩ : S47)) (k47_mk (w4.alloc (.cells ([.string ⟨#[97]⟩, .string ⟨#[120]⟩, .slice A1 1 c1, .string ⟨#[98]⟩, .string ⟨#[120]⟩, .slice none 0 0, .string ⟨#[100]⟩, .string ⟨#[120]⟩, .slice A2 1 c2] : List Value).toArray 47 (0, 0))) (⟨⟨⟨#[97]⟩, ⟨#[120]⟩⟩, [⟨⟨(⟨#[111, 105, 108]⟩ : ByteArray), 2, 20, 50⟩, 0, 2⟩]⟩ : S47) (A2 := A1) (c2 := c1) HL1.out (Kd.C_alloc HC12.out _)) rfl).snoc (p := (⟨⟨⟨#[98]⟩, ⟨#[120]⟩⟩, []⟩ : S47)) (k47_mk (w4.alloc (.cells ([.string ⟨#[97]⟩, .string ⟨#[120]⟩, .slice A1 1 c1, .string ⟨#[98]⟩, .string ⟨#[120]⟩, .slice none 0 0, .string ⟨#[100]⟩, .string ⟨#[120]⟩, .slice A2 1 c2] : List Value).toArray 47 (0, 0))) (⟨⟨⟨#[98]⟩, ⟨#[120]⟩⟩, []⟩ : S47) (A2 := none) (c2 := 0) (Nat.le_refl _) (Kd.C_nil _ _)) rfl).snoc (p := (⟨⟨⟨#[100]⟩, ⟨#[120]⟩⟩, [⟨⟨(⟨#[111, 105, 108]⟩ : ByteArray), 2, 20, 50⟩, 0, 6⟩]⟩ : S47)) (k47_mk (w4.alloc (.cells ([.string ⟨#[97]⟩, .string ⟨#[120]⟩, .slice A1 1 c1, .string ⟨#[98]⟩, .string ⟨#[120]⟩, .slice none 0 0, .string ⟨#[100]⟩, .string ⟨#[120]⟩, .slice A2 1 c2] : List Value).toArray 47 (0, 0))) (⟨⟨⟨#[100]⟩, ⟨#[120]⟩⟩, [⟨⟨(⟨#[111, 105, 108]⟩ : ByteArray), 2, 20, 50⟩, 0, 6⟩]⟩ : S47) (A2 := A2) (c2 := c2) HL2.out (Kd.C_alloc HC2.out _)) rfl)) (by decide)⟩
 refine hK.out _ _ ⟨((blk_cell BS5.out 0).trans rfl), ((blk_cell BS5.out 1).trans rfl), ((blk_cell BS5.out 2).trans rfl), ((blk_cell BS5.out 3).trans rfl)⟩ (fun hHeld => ?_)
 clear hK K
 refine norm_ (a' := ?_) ?_ ?_
 rotate_left
 · show Act.put _ (some 24) _ = _
   simp only [Act.put, List.setIfInBounds_toArray, List.set_cons_zero, List.set_cons_succ, i64_w, i32_w]
   rfl
 refine one_ (i := 8) (N := some 26) (tf 9 5) rfl rfl (by kernel_rfl) (by decide) (fun K hK => ?_)
 refine goes_ Try.func11 (by kernel_rfl) rfl #[.slice (some ⟨w4.heap.size, 0, none⟩) 3 3, .agg #[.string (⟨#[111, 105, 108]⟩ : ByteArray), .int .i64 2, .int .i64 20, .int .i64 50], .int .i64 5] (by rfl) rfl rfl (by simp only [List.map_toArray, List.map_cons, List.map_nil]; rfl) ?_
 refine (expiry_Assign.calls k (some ⟨w4.heap.size, 0, none⟩) 3 [⟨⟨⟨#[97]⟩, ⟨#[120]⟩⟩, [⟨⟨(⟨#[111, 105, 108]⟩ : ByteArray), 2, 20, 50⟩, 0, 2⟩]⟩, ⟨⟨⟨#[98]⟩, ⟨#[120]⟩⟩, []⟩, ⟨⟨⟨#[100]⟩, ⟨#[120]⟩⟩, [⟨⟨(⟨#[111, 105, 108]⟩ : ByteArray), 2, 20, 50⟩, 0, 6⟩]⟩] (⟨#[111, 105, 108]⟩ : ByteArray) 2 20 50 5 _ 0 _ HCL.out (by decide) HY.out).mono ?_
 rintro _ w6 ⟨v6, rfl, hR, hb⟩
 refine ⟨_, rfl, ?_⟩
 obtain ⟨A6, c6, e6⟩ := Kd.R_slice hR
 subst e6
 have HC6 := Aside0.mk (Kd.R_reads' hR).2.2
 have BS6 := Aside0.mk (blk_below BS5.out hb)
 have HB6 := Aside0.mk (below_step HB5.out hb)
 clear hR hb
 refine hK.out _ _ ⟨((blk_cell BS6.out 0).trans rfl), ((blk_cell BS6.out 1).trans rfl), ((blk_cell BS6.out 2).trans rfl), ((blk_cell BS6.out 3).trans rfl)⟩ (fun hHeld => ?_)
 clear hK K
 refine norm_ (a' := ?_) ?_ ?_
 rotate_left
 · show Act.put _ (some 26) _ = _
   simp only [Act.put, List.setIfInBounds_toArray, List.set_cons_zero, List.set_cons_succ, i64_w, i32_w]
   rfl
 refine pure_ (i := 9) (N := some 17) (v := ?_) (a' := ?_) (tf 10 4) rfl rfl (by kernel_rfl) (fun _ _ _ h => h) (Or.inl ⟨by rfl, ?_⟩) ?_ ?_
 rotate_left
 · intro w'
   go_simp
   with_reducible rfl
 rotate_left
 · exact ap_
 refine pure_ (i := 10) (N := some 27) (v := ?_) (a' := ?_) (tf 11 3) rfl rfl (by kernel_rfl) (fun _ _ _ h => h) (Or.inl ⟨by rfl, ?_⟩) ?_ ?_
 rotate_left
 · intro w'
   go_simp
   with_reducible rfl
 rotate_left
 · exact ap_
 refine pure_ (i := 11) (N := some 28) (v := ?_) (a' := ?_) (tf 12 2) rfl rfl (by kernel_rfl) (fun _ _ _ h => h) (Or.inl ⟨by rfl, ?_⟩) ?_ ?_
 rotate_left
 · intro w'
   go_simp
   with_reducible rfl
 rotate_left
 · exact ap_
 refine pure_ (i := 12) (N := some 5) (v := ?_) (a' := ?_) (tf 13 1) rfl rfl (by kernel_rfl) (fun _ _ _ h => h) (Or.inl ⟨by rfl, ?_⟩) ?_ ?_
 rotate_left
 · intro w'
   go_simp
   with_reducible rfl
 rotate_left
 · exact ap_
 refine pure_ (i := 13) (N := some 6) (v := ?_) (a' := ?_) (tf 14 0) rfl rfl (by kernel_rfl) (fun _ _ _ h => h) (Or.inl ⟨by rfl, ?_⟩) ?_ ?_
 rotate_left
 · intro w'
   go_simp
   with_reducible rfl
 rotate_left
 · exact ap_
 refine done_ (by kernel_rfl) ?_
 obtain ⟨ad, ead, h0, h1, h2⟩ := at_T49 HC6.out 0 (by decide) (by simp)
 cases ead
 obtain ⟨ad2, ead2, g0, g1, g2⟩ := at_T49 HC6.out 1 (by decide) (by simp)
 cases ead2
 have hz : ad.add 0 = ad := by simp [Addr.add]
 have t1 : (1 : Int).toNat = 1 := rfl
 simp only [Int.toNat_zero, Nat.zero_mul, t1, Nat.one_mul, hz] at h0 h1 h2 g0 g1 g2
 clear hz t1
 have h0 : w6.cell? ad = some (.string p0) := h0
 have h2 : w6.cell? ⟨ad.block, ad.off + 2, none⟩ = some (.int .i64 1) := h2
 have g2 : w6.cell? ⟨(ad.add 3).block, (ad.add 3).off + 2, none⟩ = some (.int .i64 4) := g2
 have g3 : w6.cell? ⟨ad.block, ad.off + 3 + 2, none⟩ = some (.int .i64 4) := g2
 have g4 : w6.cell? ⟨ad.block, ad.off + 5, none⟩ = some (.int .i64 4) := g2
 have hs1 : (p0.toList == [97]) = true := HS1.out
 clear h1 g0 g1
 go_wp2
 go_ret
 exact ⟨rfl, HB6.out⟩

/-! ### contangolaw51_few: function 14 -/
def contangolaw51_few.f (l0 : List (S47)) : Option (Bool) := if (l0.length : Int) ≤ 40 then (some true) else (some (decide ((l0.length : Int) > 1024)))
set_option maxHeartbeats 8000000 in
set_option maxRecDepth 100000 in
theorem contangolaw51_few.calls (A0 : Option Addr) (c0 : Nat) (l0 : List (S47)) (r : Bool) (w : World) (hr0 : Kd.C k47 w A0 l0.length l0) (hc0 : l0.length ≤ c0) (h : contangolaw51_few.f l0 = some r) :
    Calls Try.prog 14 #[.slice A0 l0.length c0] w fun e w' => e = .returned (.bool r) ∧ Drawn0 w w' := by
 have HR0 := Aside0.mk hr0
 have HC0 := Aside0.mk hc0
 clear hr0 hc0
 have H : (if (l0.length : Int) ≤ 40 then (some true) else (some (decide ((l0.length : Int) > 1024)))) = some r := h
 clear h
 by_cases c2 : (l0.length : Int) ≤ 40
 · rw [if_pos c2] at H
   have c2b0 : decide ((l0.length : Int) ≤ 40) = true := decide_eq_true c2
   have c2b1 : decide (l0.length ≤ 40) = true := decide_eq_true (by omega)
   clear c2
   obtain rfl := Option.some.inj H
   go_enter Try.func14, Try.ntmps14
   go_wp2
   go_ret
   exact ⟨by first | rfl | (simp; done) | (simp [*]; done), by repeat (first | exact Drawn0.refl _ | apply Drawn0.step)⟩
 rw [if_neg c2] at H
 have c2b0 : decide ((l0.length : Int) ≤ 40) = false := decide_eq_false c2
 have c2b1 : decide (l0.length ≤ 40) = false := decide_eq_false (by omega)
 clear c2
 obtain rfl := Option.some.inj H
 go_enter Try.func14, Try.ntmps14
 go_wp2
 go_ret
 exact ⟨by first | rfl | (simp; done) | (simp [*]; done), by repeat (first | exact Drawn0.refl _ | apply Drawn0.step)⟩

/-! ### cents_Fits: function 77 -/
def cents_Fits.f (a0 : Int) : Option (Bool) := if a0 ≥ (-1152921504606846976) then (some (decide (a0 ≤ 1152921504606846976))) else (some false)
set_option maxHeartbeats 8000000 in
set_option maxRecDepth 100000 in
theorem cents_Fits.calls (a0 : Int) (r : Bool) (w : World) (h : cents_Fits.f a0 = some r) :
    Calls Try.prog 77 #[.int .i64 a0] w fun e w' => e = .returned (.bool r) ∧ Drawn0 w w' := by
 have H : (if a0 ≥ (-1152921504606846976) then (some (decide (a0 ≤ 1152921504606846976))) else (some false)) = some r := h
 clear h
 by_cases c2 : a0 ≥ (-1152921504606846976)
 · rw [if_pos c2] at H
   have c2b0 : decide ((-1152921504606846976) ≤ a0) = true := decide_eq_true c2
   clear c2
   obtain rfl := Option.some.inj H
   go_enter Try.func77, Try.ntmps77
   go_wp2
   go_ret
   exact ⟨by first | rfl | (simp; done) | (simp [*]; done), by repeat (first | exact Drawn0.refl _ | apply Drawn0.step)⟩
 rw [if_neg c2] at H
 have c2b0 : decide ((-1152921504606846976) ≤ a0) = false := decide_eq_false c2
 clear c2
 obtain rfl := Option.some.inj H
 go_enter Try.func77, Try.ntmps77
 go_wp2
 go_ret
 exact ⟨by first | rfl | (simp; done) | (simp [*]; done), by repeat (first | exact Drawn0.refl _ | apply Drawn0.step)⟩

/-! ### cents_fitting: function 78 -/
def cents_fitting.f (a0 : Int) : Option (Int × Int) := (cents_Fits.f a0).bind fun t154 => (if t154 = true then (some (a0, 0)) else (some (0, 3)))
set_option maxHeartbeats 8000000 in
set_option maxRecDepth 100000 in
theorem cents_fitting.calls (a0 : Int) (r1 : Int) (r2 : Int) (w : World) (h : cents_fitting.f a0 = some (r1, r2)) :
    Calls Try.prog 78 #[.int .i64 a0] w fun e w' => e = .returned (.tuple #[.int .i64 r1, .int .i64 r2]) ∧ Drawn0 w w' := by
 have H : ((cents_Fits.f a0).bind fun t154 => (if t154 = true then (some (a0, 0)) else (some (0, 3)))) = some (r1, r2) := h
 clear h
 replace H := Option.bind_eq_some_iff.mp H
 obtain ⟨t154, A20, H⟩ := H
 replace H : (if t154 = true then (some (a0, 0)) else (some (0, 3))) = some (r1, r2) := H
 have A2 := Aside0.mk A20
 clear A20
 by_cases c3 : t154 = true
 · subst c3
   have H1 : (some (a0, 0)) = some (r1, r2) := by rw [if_pos rfl] at H; exact H
   clear H
   have H := H1
   clear H1
   simp only [Option.some.injEq, Prod.mk.injEq] at H
   obtain ⟨rfl, rfl⟩ := H
   go_enter Try.func78, Try.ntmps78
   go_wp2_with (first | ((with_reducible refine gate_callee (f := 77) rfl ?_); refine goesL_ (some 5) rfl rfl Try.func77 (by kernel_rfl) rfl #[.int .i64 a0] rfl pm_ ?_; (with_reducible refine (cents_Fits.calls a0 true _ A2.out).mono ?_); rintro e w' ⟨rfl, ⟨nd, rfl⟩⟩; refine ⟨_, rfl, ?_⟩))
   go_ret2
   exact ⟨by first | rfl | (simp; done) | (simp [*]; done), by repeat (first | exact Drawn0.refl _ | apply Drawn0.step)⟩
 replace c3 := Bool.eq_false_iff.mpr c3
 subst c3
 have H1 : (some (0, 3)) = some (r1, r2) := by rw [if_neg (show ¬ (false = true) by decide)] at H; exact H
 clear H
 have H := H1
 clear H1
 simp only [Option.some.injEq, Prod.mk.injEq] at H
 obtain ⟨rfl, rfl⟩ := H
 go_enter Try.func78, Try.ntmps78
 go_wp2_with (first | ((with_reducible refine gate_callee (f := 77) rfl ?_); refine goesL_ (some 5) rfl rfl Try.func77 (by kernel_rfl) rfl #[.int .i64 a0] rfl pm_ ?_; (with_reducible refine (cents_Fits.calls a0 false _ A2.out).mono ?_); rintro e w' ⟨rfl, ⟨nd, rfl⟩⟩; refine ⟨_, rfl, ?_⟩))
 go_ret2
 exact ⟨by first | rfl | (simp; done) | (simp [*]; done), by repeat (first | exact Drawn0.refl _ | apply Drawn0.step)⟩

/-! ### cents_Sum: function 49 -/
def cents_Sum.l0 : Nat → List Int → Int → Int → Int → Int → Option (Int × Int)
  | 0, _, _, _, _, _ => none
  | k + 1, x0, x4, x5, x9, x10 => if x10 < x9 then (if 0 ≤ x10 then (if x10 < (x0.length : Int) then ((cents_Fits.f (rd x0 x10)).bind fun t156 => (if t156 = true then (cents_Sum.l0 k x0 (wrap64 (x4 + ((rd x0 x10) / 4294967296))) (wrap64 (x5 + (Go.bits .and .i64 (rd x0 x10) 4294967295))) x9 (wrap64 (x10 + 1))) else (some (0, 2)))) else (none)) else (none)) else (if (wrap64 (x4 + (x5 / 4294967296))) < (-268435456) then (some (0, 3)) else (if (wrap64 (x4 + (x5 / 4294967296))) > 268435456 then (some (0, 3)) else ((cents_fitting.f (wrap64 ((wrap64 ((wrap64 (x4 + (x5 / 4294967296))) * 4294967296)) + (Go.bits .and .i64 x5 4294967295)))).bind fun bt159 => (some (bt159.1, bt159.2)))))
def cents_Sum.f (k : Nat) (l0 : List Int) : Option (Int × Int) := cents_Sum.l0 k l0 0 0 (l0.length : Int) 0
theorem cents_Sum.mono_l : ∀ k, (∀ y0 y1 y2 y3 y4, LeO (cents_Sum.l0 k y0 y1 y2 y3 y4) (cents_Sum.l0 (k + 1) y0 y1 y2 y3 y4))
  | 0 => fun _ _ _ _ _ r h => by simp [cents_Sum.l0] at h
  | k + 1 => by
    have ih0 := cents_Sum.mono_l k
    · intro y0 y1 y2 y3 y4
      unfold cents_Sum.l0
      repeat' first
      | (with_reducible exact ih0 _ _ _ _ _)
      | (with_reducible exact LeO.refl _)
      | (with_reducible exact LeO.none _)
      | (with_reducible refine LeO.ite ?_ ?_)
      | (with_reducible refine LeO.bind ?_ (fun _ => ?_))
      | exact LeO.none _
      | refine LeO.ite ?_ ?_
      | refine LeO.bind ?_ (fun _ => ?_)
theorem cents_Sum.mono : ∀ a0 k, LeO (cents_Sum.f k a0) (cents_Sum.f (k + 1) a0) := by
  intro a0 k
  have ih0 := cents_Sum.mono_l k
  unfold cents_Sum.f
  repeat' first
      | (with_reducible exact ih0 _ _ _ _ _)
      | (with_reducible exact LeO.refl _)
      | (with_reducible exact LeO.none _)
      | (with_reducible refine LeO.ite ?_ ?_)
      | (with_reducible refine LeO.bind ?_ (fun _ => ?_))
      | exact LeO.none _
      | refine LeO.ite ?_ ?_
      | refine LeO.bind ?_ (fun _ => ?_)
set_option maxHeartbeats 8000000 in
set_option maxRecDepth 100000 in
theorem cents_Sum.calls (k : Nat) (A0 : Option Addr) (c0 : Nat) (l0 : List Int) (r1 : Int) (r2 : Int) (w : World) (hr0 : Kd.C (Kd.int .i64) w A0 l0.length l0) (hc0 : l0.length ≤ c0) (h : cents_Sum.f k l0 = some (r1, r2)) :
    Calls Try.prog 49 #[.slice A0 l0.length c0] w fun e w' => e = .returned (.tuple #[.int .i64 r1, .int .i64 r2]) ∧ Drawn0 w w' := by
 have HR0 := Aside0.mk hr0
 have HC0 := Aside0.mk hc0
 clear hr0 hc0
 have H : (cents_Sum.l0 k l0 0 0 (l0.length : Int) 0) = some (r1, r2) := h
 clear h
 have H' := Aside0.mk H
 clear H
 go_enter Try.func49, Try.ntmps49
 go_wp2
 go_loopg [4, 5, 10] k (fun kq v4 v5 v10 w' => ∃ (x4_1 : Int) (x5_1 : Int) (x10_1 : Int), v4 = .int .i64 x4_1 ∧ v5 = .int .i64 x5_1 ∧ v10 = .int .i64 x10_1 ∧ Aside0 (cents_Sum.l0 kq l0 x4_1 x5_1 (l0.length : Int) x10_1 = some (r1, r2)) ∧ Aside0 (kq ≤ k) ∧ Drawn0 w w')
 case atStart => exact ⟨(0), (0), (0), rf_, rf_, rf_, H', ⟨Nat.le_refl _⟩, by repeat (first | exact Drawn0.refl _ | apply Drawn0.step)⟩
 case round =>
  clear H'
  obtain ⟨x4_1, x5_1, x10_1, rfl, rfl, rfl, HA, HK1, ⟨m1, rfl⟩⟩ := hrel
  cases gk with
  | zero => exact absurd HA.out (by simp [cents_Sum.l0])
  | succ k1 =>
   have H := HA.out
   clear HA
   simp only [cents_Sum.l0] at H
   by_cases c2 : x10_1 < (l0.length : Int)
   rotate_left
   · rw [if_neg c2] at H
     have c2b0 : decide (x10_1 < (l0.length : Int)) = false := decide_eq_false c2
     clear c2
     by_cases c7 : (wrap64 (x4_1 + (x5_1 / 4294967296))) < (-268435456)
     · rw [if_pos c7] at H
       have c7b0 : decide ((wrap64 (x4_1 + (x5_1 / 4294967296))) < (-268435456)) = true := decide_eq_true c7
       clear c7
       simp only [Option.some.injEq, Prod.mk.injEq] at H
       obtain ⟨rfl, rfl⟩ := H
       go_wp2
       go_ret2
       exact ⟨by first | rfl | (simp; done) | (simp [*]; done), by repeat (first | exact Drawn0.refl _ | apply Drawn0.step)⟩
     rw [if_neg c7] at H
     have c7b0 : decide ((wrap64 (x4_1 + (x5_1 / 4294967296))) < (-268435456)) = false := decide_eq_false c7
     clear c7
     by_cases c8 : (wrap64 (x4_1 + (x5_1 / 4294967296))) > 268435456
     · rw [if_pos c8] at H
       have c8b0 : decide (268435456 < (wrap64 (x4_1 + (x5_1 / 4294967296)))) = true := decide_eq_true c8
       clear c8
       simp only [Option.some.injEq, Prod.mk.injEq] at H
       obtain ⟨rfl, rfl⟩ := H
       go_wp2
       go_ret2
       exact ⟨by first | rfl | (simp; done) | (simp [*]; done), by repeat (first | exact Drawn0.refl _ | apply Drawn0.step)⟩
     rw [if_neg c8] at H
     have c8b0 : decide (268435456 < (wrap64 (x4_1 + (x5_1 / 4294967296)))) = false := decide_eq_false c8
     clear c8
     replace H := Option.bind_eq_some_iff.mp H
     obtain ⟨⟨t159, t160⟩, A90, H⟩ := H
     replace H : (some (t159, t160)) = some (r1, r2) := H
     have A9 := Aside0.mk A90
     clear A90
     simp only [Option.some.injEq, Prod.mk.injEq] at H
     obtain ⟨rfl, rfl⟩ := H
     go_wp2_with (first | ((with_reducible refine gate_callee (f := 78) rfl ?_); refine goesL_ (some 52) rfl rfl Try.func78 (by kernel_rfl) rfl #[.int .i64 (wrap64 ((wrap64 ((wrap64 (x4_1 + (x5_1 / 4294967296))) * 4294967296)) + (Go.bits .and .i64 x5_1 4294967295)))] rfl pm_ ?_; (with_reducible refine (cents_fitting.calls (wrap64 ((wrap64 ((wrap64 (x4_1 + (x5_1 / 4294967296))) * 4294967296)) + (Go.bits .and .i64 x5_1 4294967295))) t159 t160 _ A9.out).mono ?_); rintro e w' ⟨rfl, ⟨nd, rfl⟩⟩; refine ⟨_, rfl, ?_⟩))
     go_ret2
     exact ⟨by first | rfl | (simp; done) | (simp [*]; done), by repeat (first | exact Drawn0.refl _ | apply Drawn0.step)⟩
   rw [if_pos c2] at H
   have c2b0 : decide (x10_1 < (l0.length : Int)) = true := decide_eq_true c2
   clear c2
   by_cases c3 : 0 ≤ x10_1
   rotate_left
   · rw [if_neg c3] at H
     exact absurd H (by simp)
   rw [if_pos c3] at H
   have c3b0 : decide (0 ≤ x10_1) = true := decide_eq_true c3
   clear c3
   by_cases c4 : x10_1 < (l0.length : Int)
   rotate_left
   · rw [if_neg c4] at H
     exact absurd H (by simp)
   rw [if_pos c4] at H
   have c4b0 : decide (x10_1 < (l0.length : Int)) = true := decide_eq_true c4
   clear c4
   replace H := Option.bind_eq_some_iff.mp H
   obtain ⟨t156, A50, H⟩ := H
   replace H : (if t156 = true then (cents_Sum.l0 k1 l0 (wrap64 (x4_1 + ((rd l0 x10_1) / 4294967296))) (wrap64 (x5_1 + (Go.bits .and .i64 (rd l0 x10_1) 4294967295))) (l0.length : Int) (wrap64 (x10_1 + 1))) else (some (0, 2))) = some (r1, r2) := H
   have A5 := Aside0.mk A50
   clear A50
   by_cases c6 : t156 = true
   rotate_left
   · replace c6 := Bool.eq_false_iff.mpr c6
     subst c6
     have H1 : (some (0, 2)) = some (r1, r2) := by rw [if_neg (show ¬ (false = true) by decide)] at H; exact H
     clear H
     have H := H1
     clear H1
     simp only [Option.some.injEq, Prod.mk.injEq] at H
     obtain ⟨rfl, rfl⟩ := H
     have p155 : 0 ≤ (x10_1 : Int) := od_
     have q155 : x10_1 < (l0.length : Int) := od_
     obtain ⟨ad155, e155, hx155_0⟩ := Kd.at_int HR0.out x10_1 p155 q155
     cases e155
     replace p155 := eq_true p155
     replace q155 := eq_true q155
     go_wp2_with (first | ((with_reducible refine gate_callee (f := 77) rfl ?_); refine goesL_ (some 17) rfl rfl Try.func77 (by kernel_rfl) rfl #[.int .i64 (rd l0 x10_1)] rfl pm_ ?_; (with_reducible refine (cents_Fits.calls (rd l0 x10_1) false _ A5.out).mono ?_); rintro e w' ⟨rfl, ⟨nd, rfl⟩⟩; refine ⟨_, rfl, ?_⟩))
     go_ret2
     exact ⟨by first | rfl | (simp; done) | (simp [*]; done), by repeat (first | exact Drawn0.refl _ | apply Drawn0.step)⟩
   subst c6
   have H1 : (cents_Sum.l0 k1 l0 (wrap64 (x4_1 + ((rd l0 x10_1) / 4294967296))) (wrap64 (x5_1 + (Go.bits .and .i64 (rd l0 x10_1) 4294967295))) (l0.length : Int) (wrap64 (x10_1 + 1))) = some (r1, r2) := by rw [if_pos rfl] at H; exact H
   clear H
   have H := H1
   clear H1
   have H' := Aside0.mk H
   clear H
   have p155 : 0 ≤ (x10_1 : Int) := od_
   have q155 : x10_1 < (l0.length : Int) := od_
   obtain ⟨ad155, e155, hx155_0⟩ := Kd.at_int HR0.out x10_1 p155 q155
   cases e155
   replace p155 := eq_true p155
   replace q155 := eq_true q155
   go_wp2_with (first | ((with_reducible refine gate_callee (f := 77) rfl ?_); refine goesL_ (some 17) rfl rfl Try.func77 (by kernel_rfl) rfl #[.int .i64 (rd l0 x10_1)] rfl pm_ ?_; (with_reducible refine (cents_Fits.calls (rd l0 x10_1) true _ A5.out).mono ?_); rintro e w' ⟨rfl, ⟨nd, rfl⟩⟩; refine ⟨_, rfl, ?_⟩; have p157 : 0 ≤ (x10_1 : Int) := od_; have q157 : x10_1 < (l0.length : Int) := od_; obtain ⟨ad157, e157, hx157_0⟩ := Kd.at_int HR0.out x10_1 p157 q157; obtain rfl : ad155 = ad157 := (by injection e157); replace p157 := eq_true p157; replace q157 := eq_true q157; have p158 : 0 ≤ (x10_1 : Int) := od_; have q158 : x10_1 < (l0.length : Int) := od_; obtain ⟨ad158, e158, hx158_0⟩ := Kd.at_int HR0.out x10_1 p158 q158; obtain rfl : ad155 = ad158 := (by injection e158); replace p158 := eq_true p158; replace q158 := eq_true q158))
   go_roundg k1
   case measure => have := HK1.out; omega
   case rel => exact ⟨(wrap64 (x4_1 + ((rd l0 x10_1) / 4294967296))), (wrap64 (x5_1 + (Go.bits .and .i64 (rd l0 x10_1) 4294967295))), (wrap64 (x10_1 + 1)), (by first | rfl | (simp; done) | (simp [i64_w]; done) | (simp [*]; done)), (by first | rfl | (simp; done) | (simp [i64_w]; done) | (simp [*]; done)), (by first | rfl | (simp; done) | (simp [i64_w]; done) | (simp [*]; done)), H', ⟨by have := HK1.out; omega⟩, by repeat (first | exact Drawn0.refl _ | apply Drawn0.step)⟩

end Go.Proofs.Ytoejllkjhaeeeaa.PExpiryFlows
