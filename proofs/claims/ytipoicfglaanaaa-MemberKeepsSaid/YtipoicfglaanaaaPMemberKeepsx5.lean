-- Written by a program of this session's (a turned copy of the kit's print, with functions proved by hand).
import Derived.Test.YtipoicfglaanaaaPMemberKeepsx0
import Derived.Test.YtipoicfglaanaaaPMemberKeepsx2
import Derived.Test.YtipoicfglaanaaaPMemberKeepsx3
import Derived.Test.YtipoicfglaanaaaPMemberKeepsx4
namespace Go.Proofs.Ytipoicfglaanaaa.PMemberKeeps
open Go.RowKit Go.Proofs.YtipoicfglaanaaaW.PrintWords Go.Proofs.YtipoicfglaanaaaW.PrintLast Go.Proofs.YtipoicfglaanaaaW.PrintMore
attribute [local go_sem] max2_int min2_int max_two min_two max_three min_three max_four min_four Go.Proofs.YtipoicfglaanaaaHand.run_leq_str Go.Proofs.YtipoicfglaanaaaHand.run_gtr_str Go.Proofs.YtipoicfglaanaaaHand.run_geq_str   -- for this text's walks alone
set_option linter.unusedVariables false
set_option linter.unusedSimpArgs false

/-! ### member_Account: function 22 -/
/-- slices.IndexFunc at api.Account. -/
theorem IndexFunc_api_Account.calls (p : S53 → Bool) (g : Nat) (lb : Array Value) (eg : ∀ args w, (callFunc g args).run Try.prog w = .ok (.enter g args) w) (A0 : Option Addr) (c0 : Nat) (l0 : List (S53)) (w : World) (hp : PredK Try.prog k53 g lb p w) (hr0 : Kd.C k53 w A0 l0.length l0) :
    Calls Try.prog 46 #[.slice A0 l0.length c0, .func (.func g) #[] lb] w fun e w' => e = .returned (.int .i64 (idxOf p l0 0)) ∧ Below w.heap.size w w' := by
  have HR0 := Aside0.mk hr0
  have HL := hr0.2.1
  have HP := Aside0.mk hp
  clear hr0 hp
  go_enter Try.func46, Try.ntmps46
  go_wp2
  go_loopg [5, 8] l0.length (fun kq _ v8 w' => ∃ (x8 : Nat), v8 = .int .i64 x8 ∧ kq + x8 = l0.length ∧ Aside0 (idxOf p (l0.drop x8) x8 = idxOf p l0 0) ∧ Aside0 (Below w.heap.size w w'))
  case atStart => exact ⟨0, rfl, by omega, ⟨rfl⟩, ⟨Below.refl _ _⟩⟩
  case round =>
    obtain ⟨x8, rfl, hx, HA, HB⟩ := hrel
    have hsz := HB.out.size
    by_cases hlt : x8 < l0.length
    · obtain ⟨ad, cs, e, hlen, hK, hcell⟩ := Kd.C_get (Kd.C_below HR0.out HB.out) z53 x8 (by omega) (by omega)
      cases e
      have hcall := HP.out wr _ _ HB.out hK
      simp only [Int.toNat_natCast] at hcell hK hcall
      have hg := idxOf_drop p l0 z53 x8 hlt
      have HA2 := Aside0.mk (HA.out ▸ hg).symm
      clear hg HA
      simp only [show k53.sz = 2 from rfl] at hcell
      clear hlen
      obtain rfl := k53_open hK
      have h0 := hcell 0 _ rfl
      have h1 := hcell 1 _ rfl; rw [add_field _ _ 1 (by omega)] at h1
      clear hcell hK
      simp only [Nat.add_zero] at h0
      generalize hy : l0.getD x8 z53 = y at *
      clear hy
      by_cases hq : p y = true
      · have HA3 := Aside0.mk (by have := HA2.out; rwa [if_pos hq] at this)
        rw [hq] at hcall
        clear hq HA2
        go_wp2_with ((with_reducible refine hcall.mono ?_); rintro e w' ⟨rfl, hb'⟩)
        go_ret
        have := HA3.out
        exact ⟨congrArg (fun z => Ending.returned (.int .i64 z)) this, below_step HB.out hb'⟩
      · have hq2 : p y = false := by simpa using hq
        have HA3 := Aside0.mk (by have := HA2.out; rwa [if_neg hq] at this)
        rw [hq2] at hcall
        clear hq hq2 HA2
        go_wp2_with ((with_reducible refine hcall.mono ?_); rintro e w' ⟨rfl, hb'⟩)
        go_roundg (l0.length - (x8 + 1))
        case measure => omega
        case rel => exact ⟨x8 + 1, by go_num, by omega, HA3, ⟨below_step HB.out hb'⟩⟩
    · have hxe : x8 = l0.length := by omega
      have HA3 := Aside0.mk (by have := HA.out; rwa [List.drop_eq_nil_of_le (by omega)] at this)
      clear HA
      have hd : decide ((x8 : Int) < (l0.length : Int)) = false := by simp; omega
      clear hxe
      go_wp2
      go_ret
      have := HA3.out
      simp only [idxOf] at this
      exact ⟨congrArg (fun z => Ending.returned (.int .i64 z)) this, HB.out⟩

/-- The first account of a name, of the first member of a name. -/
def member_Account.f (l0 : List S45) (a1_0 : ByteArray) (a1_1 : ByteArray) : Option (ByteArray × Int × Bool) :=
  (member_Find.f l0 a1_0).bind fun t => if idxOf (fun x : S53 => x.f0.toList == a1_1.toList) t.2.2.1 0 < 0 then some ((⟨#[]⟩ : ByteArray), 0, false)
    else some ((rd_T53 t.2.2.1 (idxOf (fun x : S53 => x.f0.toList == a1_1.toList) t.2.2.1 0)).f0, (rd_T53 t.2.2.1 (idxOf (fun x : S53 => x.f0.toList == a1_1.toList) t.2.2.1 0)).f1, true)
theorem member_Account.pred (a1_0 a1_1 : ByteArray) (w : World) (b : Nat) (hb : w.heap[b]? = some (.cells #[.string a1_0, .string a1_1] 29 (0, 0))) :
    PredK Try.prog k53 47 #[.pointer (some ⟨b, 0, none⟩)] (fun x : S53 => x.f0.toList == a1_1.toList) w := by
  intro W x cs hW hK
  obtain rfl := k53_open hK
  have hb' := blk_below hb hW
  have h0 : W.cell? ⟨b, 0, none⟩ = some (.string a1_0) := (blk_cell hb' 0).trans rfl
  have h1 : W.cell? ⟨b, 1, none⟩ = some (.string a1_1) := (blk_cell hb' 1).trans rfl
  have hlt := blk_lt hb'
  clear hb hb' hK
  go_enter Try.func47, Try.ntmps47
  go_wp2
  go_ret
  exact ⟨rfl, (Below.refl _ _).alloc (Nat.le_refl _) _⟩
set_option maxHeartbeats 800000 in
set_option maxRecDepth 100000 in
theorem member_Account.calls (A0 : Option Addr) (c0 : Nat) (l0 : List (S45)) (a1_0 : ByteArray) (a1_1 : ByteArray) (r1 : ByteArray) (r2 : Int) (r3 : Bool) (w : World) (hr0 : Kd.C k45 w A0 l0.length l0) (hc0 : l0.length ≤ c0) (h : member_Account.f l0 a1_0 a1_1 = some (r1, r2, r3)) :
    Calls Try.prog 22 #[.slice A0 l0.length c0, .agg #[.string a1_0, .string a1_1]] w fun e w' => e = .returned (.tuple #[.agg #[.string r1, .int .i64 r2], .bool r3]) ∧ Below w.heap.size w w' := by
  obtain ⟨⟨t1, t2, t3, t4⟩, hF, h⟩ := Option.bind_eq_some_iff.mp h
  have HR0 := Aside0.mk hr0
  have HC0 := Aside0.mk hc0
  have HF := Aside0.mk hF
  have HH := Aside0.mk h
  clear hr0 hc0 hF h
  go_enter Try.func22, Try.ntmps22
  go_wp2_with (go_at_call 18; refine (member_Find.calls A0 c0 l0 a1_0 t1 t2 t3 t4 _ (Kd.C_alloc (Kd.C_alloc HR0.out _) _) HC0.out HF.out).mono ?_; rintro e w1 ⟨v2, rfl, hR, hb⟩; obtain ⟨Av, cv, rfl⟩ := Kd.R_slice hR; have HV := Aside0.mk hR; have BK := Aside0.mk (blk_below (blk_alloc (blk_new w (.cells #[.string a1_0, .string a1_1] 29 (0, 0))) (.cells #[.string ⟨#[]⟩, .int .i64 0] 53 (0, 0))) hb); have BZ := Aside0.mk (blk_below (blk_new (w.alloc (.cells #[.string a1_0, .string a1_1] 29 (0, 0))) (.cells #[.string ⟨#[]⟩, .int .i64 0] 53 (0, 0))) hb); have HB := Aside0.mk (below_step (below_alloc (below_alloc (Below.refl _ w) (.cells #[.string a1_0, .string a1_1] 29 (0, 0))) (.cells #[.string ⟨#[]⟩, .int .i64 0] 53 (0, 0))) hb); clear hR hb)
  refine (IndexFunc_api_Account.calls _ 47 _ (enters_of Try.func47 (by kernel_rfl) rfl) Av cv t3 _ (member_Account.pred a1_0 a1_1 _ _ (blk_alloc BK.out _)) (Kd.C_alloc (Kd.R_reads' HV.out).2.2 _)).mono ?_
  rintro e w2 ⟨rfl, hb⟩
  have BM := Aside0.mk (blk_below (blk_new w1 (.cells #[.string t1, .int .i64 t2, .slice Av t3.length cv] 45 (0, 0))) hb)
  have BZ2 := Aside0.mk (blk_below (blk_alloc BZ.out _) hb)
  have HV2 := Aside0.mk (Kd.C_below (Kd.C_alloc (Kd.R_reads' HV.out).2.2 _) hb)
  have HB2 := Aside0.mk (below_step (below_alloc HB.out _) hb)
  clear hb HB BZ BK HV
  have hm2 : w2.cell? ⟨w1.heap.size, 2, none⟩ = some (.slice Av t3.length cv) := (blk_cell BM.out 2).trans rfl
  have BZ3 : Aside0 (w2.heap[w.heap.size + 1]? = some (.cells #[.string ⟨#[]⟩, .int .i64 0] 53 (0, 0))) := ⟨by have := BZ2.out; rwa [World.size_alloc] at this⟩
  clear BZ2
  have hz0 : w2.cell? ⟨w.heap.size + 1, 0, none⟩ = some (.string ⟨#[]⟩) := (blk_cell BZ3.out 0).trans rfl
  have hz1 : w2.cell? ⟨w.heap.size + 1, 1, none⟩ = some (.int .i64 0) := (blk_cell BZ3.out 1).trans rfl
  have hf0 := blk_frozen BZ3.out 0
  have hf1 := blk_frozen BZ3.out 1
  have H := HH.out
  clear HH
  generalize hi : idxOf (fun x : S53 => x.f0.toList == a1_1.toList) t3 0 = i at *
  have hlt := idxOf_lt (fun x : S53 => x.f0.toList == a1_1.toList) t3 0
  rw [hi] at hlt
  clear hi
  by_cases hn : i < 0
  · rw [if_pos hn] at H
    simp only [Option.some.injEq, Prod.mk.injEq] at H
    obtain ⟨rfl, rfl, rfl⟩ := H
    clear hlt
    go_wp2
    refine bodyPost_ret (results_ct rfl _ _ (w.heap.size + 1) 53 #[.string ⟨#[]⟩, .int .i64 0] (0, 0) _ rfl ?_ Try.underlying53 rfl (by kernel_rfl)) rfl ?_
    · refine blk_put (cs := #[.string ⟨#[]⟩, .int .i64 0]) ?_ 1 _ rfl
      refine blk_put (cs := #[.string ⟨#[]⟩, .int .i64 0]) ?_ 0 _ rfl
      exact BZ3.out
    · exact ⟨rfl, below_set (below_set HB2.out (by omega)) (by omega)⟩
  · rw [if_neg hn] at H
    simp only [Option.some.injEq, Prod.mk.injEq] at H
    obtain ⟨rfl, rfl, rfl⟩ := H
    have hl3 := HV2.out.1
    have h0i : 0 ≤ i := by omega
    have hiN : i < (t3.length : Int) := by omega
    obtain ⟨ad, e, h0, h1⟩ := at_T53 HV2.out i h0i hiN
    cases e
    clear hlt
    have hd1 := eq_true h0i
    have hd2 := eq_true hiN
    go_wp2
    refine bodyPost_ret (results_ct rfl _ _ (w.heap.size + 1) 53 #[.string (rd_T53 t3 i).f0, .int .i64 (rd_T53 t3 i).f1] (0, 0) _ rfl ?_ Try.underlying53 rfl (by kernel_rfl)) rfl ?_
    · refine blk_put (cs := #[.string (rd_T53 t3 i).f0, .int .i64 0]) ?_ 1 _ rfl
      refine blk_put (cs := #[.string ⟨#[]⟩, .int .i64 0]) ?_ 0 _ rfl
      exact BZ3.out
    · exact ⟨rfl, below_set (below_set HB2.out (by omega)) (by omega)⟩

/-! ### member_Open: function 13 -/
set_option maxHeartbeats 1000000 in
set_option maxRecDepth 100000 in
theorem Into_api_Account.calls (p : S53 → Bool) (g : Nat) (lb : Array Value) (eg : ∀ args w, (callFunc g args).run Try.prog w = .ok (.enter g args) w) (A0 : Option Addr) (c0 : Nat) (l0 : List (S53)) (inner : List Value) (x0 x1 : Value) (base : Nat) (w : World) (k : Nat)
    (hp : PredK Try.prog k53 g lb p w) (hC : Kd.C k53 w A0 l0.length l0) (ho : w.ownsRow base 53 2 (.slice A0 l0.length c0) l0.length inner) (hone : ∀ u ∈ inner, u.oneCell' = true) (hone2 : ∀ u ∈ [x0, x1], u.oneCell' = true)
    (hk : (if idxOf p l0 0 < 0 then (l0.length : Int) else idxOf p l0 0) = (k : Int)) (hl : (l0.length + 1) * 24 ≤ 140737488355328) :
    Calls Try.prog 41 #[.slice A0 l0.length c0, .agg #[x0, x1], .func (.func g) #[] lb] w fun e w' => ∃ v' : Value, e = .returned v' ∧ w'.ownsRow w.heap.size 53 2 v' (l0.length + 1) (inner.take (k * 2) ++ (x0 :: x1 :: inner.drop (k * 2))) ∧ Below w.heap.size w w' := by
  have hn63 : l0.length ≤ 9223372036854775807 := hC.2.1
  have hkn : k ≤ l0.length := by
    have hil := idxOf_lt p l0 0
    split at hk <;> omega
  have hc0 : l0.length ≤ c0 := by
    rcases ho.2 with ⟨hv, hn⟩ | ⟨g', cap, cur, hv, _, _, hnc, _⟩
    · injection hv with _ h1 h2
      omega
    · injection hv with _ _ h2
      omega
  have HC := Aside0.mk hC
  have HP := Aside0.mk hp
  have HO := Aside0.mk ho
  have HL := Aside0.mk hl
  have HN1 := Aside0.mk hone
  have HN2 := Aside0.mk hone2
  obtain ⟨ti, hi, hzz⟩ := Option.map_eq_some_iff.1 info53
  simp only [Prod.mk.injEq] at hzz
  obtain ⟨hz0, hz1, hz2⟩ := hzz
  have HT := Aside0.mk hi
  have HT0 := Aside0.mk hz0
  have HT1 := Aside0.mk hz1
  have HT2 := Aside0.mk hz2
  clear hC hp ho hl hone hone2 hi hz0 hz1 hz2
  generalize hq : idxOf p l0 0 = i at hk
  have HI := Aside0.mk hq
  clear hq
  by_cases hneg : i < 0
  · rw [if_pos hneg] at hk
    obtain rfl : k = l0.length := by omega
    clear hk
    have hd : decide (i < 0) = true := decide_eq_true hneg
    have hkc : l0.length ≤ c0 := by omega
    go_enter Try.func41, Try.ntmps41
    go_wp2_with (go_at_call 46; refine (IndexFunc_api_Account.calls p g lb eg A0 c0 l0 _ (HP.out.later (below_alloc (Below.refl _ _) _)) (Kd.C_alloc HC.out _)).mono ?_; rintro e w1 ⟨rfl, hb⟩; have HBW := Aside0.mk (below_step (below_alloc (Below.refl _ _) _) hb); have hx := blk_below (blk_new w (.cells #[x0, x1] 53 (0, 0))) hb; have HK := Aside0.mk hx; clear hx hb; rw [HI.out])
    have HBX := Aside0.mk (below_drew (below_alloc HBW.out (.cells #[x0, x1] 53 (0, 0))))
    have hsz := HBX.out.size
    obtain ⟨v1, w3, hr1, ho1, hg1⟩ := append_cut (P := Try.prog) (t := 43) (ty := 43) Try.underlying43 HT.out HT0.out HT1.out HT2.out rfl (by decide) HO.out HBX.out l0.length hkn ⟨w1.heap.size, 0, none⟩ 1 1 [x0, x1] (by decide) rfl (fun j u hu => by rw [add_plain]; exact (blk_cell (blk_drew (blk_new w1 (.cells #[x0, x1] 53 (0, 0)))) j).trans (by simpa using hu)) HN2.out (by have := HL.out; simp only [maxLen]; omega) (by have := HL.out; omega)
    have HB3 := Aside0.mk (pw_below_grown HBX.out none hsz hg1 (by intro k hk; cases hk))
    have HO1 := Aside0.mk ho1
    have hsz3 := hg1.size
    obtain ⟨v2, w4, hr2, ho2, hg2⟩ := append_rest (P := Try.prog) (t := 43) (ty := 43) Try.underlying43 HT.out HT0.out HT1.out HT2.out rfl (by decide) HO.out HN1.out HB3.out l0.length hkn ho1 hsz3 (by have := HL.out; simp only [maxLen]; omega) (by have := HL.out; omega)
    have HB4 := Aside0.mk (pw_below_grown HB3.out v1.ownBlock (Nat.le_trans hsz hsz3) hg2 (fun k hk => Nat.le_trans hsz (own_base ho1 k hk)))
    have HO2 := Aside0.mk (own_weaken ho2 hsz)
    clear ho1 hg1 ho2 hg2
    rw [Nat.sub_self] at hr2
    refine start_ (n := 12) (S := fun w' => w'.cell? ⟨w.heap.size, 0, none⟩ = some x0 ∧ w'.cell? ⟨w.heap.size, 1, none⟩ = some x1) (ds := [6, 10]) #[false, false, false, false, false, false, false, false, false, false, false, false] (by kernel_rfl) rfl rfl ⟨((blk_cell HK.out 0).trans rfl), ((blk_cell HK.out 1).trans rfl)⟩ (fun hHeld => ?_)
    refine pure_ (i := 0) (N := some 15) (v := ?_) (a' := ?_) #[true, false, false, false, false, false, false, false, false, false, false, false] rfl rfl (by kernel_rfl) (fun _ _ _ h => h) (Or.inl ⟨by rfl, ?_⟩) ?_ ?_
    rotate_left
    · intro w'
      go_simp
      with_reducible rfl
    rotate_left
    · simp only [Act.put, List.setIfInBounds_toArray, List.set_cons_zero, List.set_cons_succ, i64_w, i32_w]
      rfl
    refine pure_ (i := 1) (N := some 16) (v := ?_) (a' := ?_) #[true, true, false, false, false, false, false, false, false, false, false, false] rfl rfl (by kernel_rfl) (fun _ _ _ h => h) (Or.inl ⟨by rfl, ?_⟩) ?_ ?_
    rotate_left
    · intro w'
      go_simp
      with_reducible rfl
    rotate_left
    · simp only [Act.put, List.setIfInBounds_toArray, List.set_cons_zero, List.set_cons_succ, i64_w, i32_w]
      rfl
    refine pure_ (i := 2) (N := some 17) (v := ?_) (a' := ?_) #[true, true, true, false, false, false, false, false, false, false, false, false] rfl rfl (by kernel_rfl) (fun _ _ _ h => h) (Or.inl ⟨by rfl, ?_⟩) ?_ ?_
    rotate_left
    · intro w'
      go_simp
      with_reducible rfl
    rotate_left
    · simp only [Act.put, List.setIfInBounds_toArray, List.set_cons_zero, List.set_cons_succ, i64_w, i32_w]
      rfl
    refine pure_ (i := 3) (N := some 18) (v := ?_) (a' := ?_) #[true, true, true, true, false, false, false, false, false, false, false, false] rfl rfl (by kernel_rfl) (fun _ _ _ h => h) (Or.inl ⟨by rfl, ?_⟩) ?_ ?_
    rotate_left
    · intro w'
      go_simp
      with_reducible rfl
    rotate_left
    · simp only [Act.put, List.setIfInBounds_toArray, List.set_cons_zero, List.set_cons_succ, i64_w, i32_w]
      rfl
    refine pure_ (i := 7) (N := some 22) (v := ?_) (a' := ?_) #[true, true, true, true, false, false, false, true, false, false, false, false] rfl rfl (by kernel_rfl) (fun _ _ _ h => h) (Or.inl ⟨by rfl, ?_⟩) ?_ ?_
    rotate_left
    · intro w'
      go_simp
      with_reducible rfl
    rotate_left
    · simp only [Act.put, List.setIfInBounds_toArray, List.set_cons_zero, List.set_cons_succ, i64_w, i32_w]
      rfl
    refine pure_ (i := 8) (N := some 23) (v := ?_) (a' := ?_) #[true, true, true, true, false, false, false, true, true, false, false, false] rfl rfl (by kernel_rfl) (fun _ _ _ h => h) (Or.inl ⟨by rfl, ?_⟩) ?_ ?_
    rotate_left
    · intro w'
      go_simp
      with_reducible rfl
    rotate_left
    · simp only [Act.put, List.setIfInBounds_toArray, List.set_cons_zero, List.set_cons_succ, i64_w, i32_w]
      rfl
    refine pure_ (i := 9) (N := some 24) (v := ?_) (a' := ?_) #[true, true, true, true, false, false, false, true, true, true, false, false] rfl rfl (by kernel_rfl) (fun _ _ _ h => h) (Or.inl ⟨by rfl, ?_⟩) ?_ ?_
    rotate_left
    · intro w'
      go_simp
      with_reducible rfl
    rotate_left
    · simp only [Act.put, List.setIfInBounds_toArray, List.set_cons_zero, List.set_cons_succ, i64_w, i32_w]
      rfl
    refine take_ (i := 4) (N := some 19) (v := ?_) (a' := ?_) #[true, true, true, true, true, false, false, true, true, true, false, false] rfl rfl (by kernel_rfl) (fun _ _ _ h => h) (Or.inl ⟨by rfl, ?_⟩) hHeld ?_ ?_
    rotate_left
    · rintro w' ⟨s0, s1⟩
      go_simp
      with_reducible rfl
    rotate_left
    · simp only [Act.put, List.setIfInBounds_toArray, List.set_cons_zero, List.set_cons_succ, i64_w, i32_w]
      rfl
    refine one_ (i := 5) (N := some 20) #[true, true, true, true, true, true, false, true, true, true, false, false] rfl rfl (by kernel_rfl) (by decide) (fun K hK => ?_)
    refine value_ (w1 := ?_) (v := ?_) (by rfl) rfl ?_ ?_
    rotate_left 2
    · go_simp
      constructor
      · rfl
      · rfl
    refine hK.out _ _ ⟨(pw_cell_below (below_alloc (Below.refl _ _) _) hHeld.1), (pw_cell_below (below_alloc (Below.refl _ _) _) hHeld.2)⟩ (fun hHeld => ?_)
    clear hK K
    refine norm_ (a' := ?_) ?_ ?_
    rotate_left
    · show Act.put _ (some 20) _ = _
      simp only [Act.put, List.setIfInBounds_toArray, List.set_cons_zero, List.set_cons_succ, i64_w, i32_w]
      rfl
    refine last_ (i := 6) (N := some 21) #[true, true, true, true, true, true, true, true, true, true, false, false] rfl rfl (by kernel_rfl) (by decide) (fun K hK => ?_)
    refine value_ (w1 := w3) (v := v1) (by rfl) rfl (exec_append rfl rfl rfl hr1) ?_
    refine hK.out _ _ ?_
    clear hK K
    refine norm_ (a' := ?_) ?_ ?_
    rotate_left
    · show Act.put _ (some 21) _ = _
      simp only [Act.put, List.setIfInBounds_toArray, List.set_cons_zero, List.set_cons_succ, i64_w, i32_w]
      rfl
    refine last_ (i := 10) (N := some 25) #[true, true, true, true, true, true, true, true, true, true, true, false] rfl rfl (by kernel_rfl) (by decide) (fun K hK => ?_)
    refine value_ (w1 := w4) (v := v2) (by rfl) rfl (exec_append rfl rfl rfl hr2) ?_
    refine hK.out _ _ ?_
    clear hK K
    refine norm_ (a' := ?_) ?_ ?_
    rotate_left
    · show Act.put _ (some 25) _ = _
      simp only [Act.put, List.setIfInBounds_toArray, List.set_cons_zero, List.set_cons_succ, i64_w, i32_w]
      rfl
    refine pure_ (i := 11) (N := some 6) (v := ?_) (a' := ?_) #[true, true, true, true, true, true, true, true, true, true, true, true] rfl rfl (by kernel_rfl) (fun _ _ _ h => h) (Or.inl ⟨by rfl, ?_⟩) ?_ ?_
    rotate_left
    · intro w'
      go_simp
      with_reducible rfl
    rotate_left
    · simp only [Act.put, List.setIfInBounds_toArray, List.set_cons_zero, List.set_cons_succ, i64_w, i32_w]
      rfl
    refine done_ (by kernel_rfl) ?_
    go_wp2
    all_goals
      go_ret
      refine ⟨v2, rfl, ?_, HB4.out⟩
      have := HO2.out
      simp only [List.append_assoc, List.cons_append, List.nil_append] at this
      rwa [show l0.length + 1 + (l0.length - l0.length) = l0.length + 1 from by omega] at this
  · rw [if_neg hneg] at hk
    subst hk
    have hd : decide ((k : Int) < 0) = false := decide_eq_false hneg
    have hkc : k ≤ c0 := by omega
    go_enter Try.func41, Try.ntmps41
    go_wp2_with (go_at_call 46; refine (IndexFunc_api_Account.calls p g lb eg A0 c0 l0 _ (HP.out.later (below_alloc (Below.refl _ _) _)) (Kd.C_alloc HC.out _)).mono ?_; rintro e w1 ⟨rfl, hb⟩; have HBW := Aside0.mk (below_step (below_alloc (Below.refl _ _) _) hb); have hx := blk_below (blk_new w (.cells #[x0, x1] 53 (0, 0))) hb; have HK := Aside0.mk hx; clear hx hb; rw [HI.out])
    have HBX := Aside0.mk (below_drew (below_alloc HBW.out (.cells #[x0, x1] 53 (0, 0))))
    have hsz := HBX.out.size
    obtain ⟨v1, w3, hr1, ho1, hg1⟩ := append_cut (P := Try.prog) (t := 43) (ty := 43) Try.underlying43 HT.out HT0.out HT1.out HT2.out rfl (by decide) HO.out HBX.out k hkn ⟨w1.heap.size, 0, none⟩ 1 1 [x0, x1] (by decide) rfl (fun j u hu => by rw [add_plain]; exact (blk_cell (blk_drew (blk_new w1 (.cells #[x0, x1] 53 (0, 0)))) j).trans (by simpa using hu)) HN2.out (by have := HL.out; simp only [maxLen]; omega) (by have := HL.out; omega)
    have HB3 := Aside0.mk (pw_below_grown HBX.out none hsz hg1 (by intro k hk; cases hk))
    have HO1 := Aside0.mk ho1
    have hsz3 := hg1.size
    obtain ⟨v2, w4, hr2, ho2, hg2⟩ := append_rest (P := Try.prog) (t := 43) (ty := 43) Try.underlying43 HT.out HT0.out HT1.out HT2.out rfl (by decide) HO.out HN1.out HB3.out k hkn ho1 hsz3 (by have := HL.out; simp only [maxLen]; omega) (by have := HL.out; omega)
    have HB4 := Aside0.mk (pw_below_grown HB3.out v1.ownBlock (Nat.le_trans hsz hsz3) hg2 (fun k hk => Nat.le_trans hsz (own_base ho1 k hk)))
    have HO2 := Aside0.mk (own_weaken ho2 hsz)
    clear ho1 hg1 ho2 hg2
    skip
    refine start_ (n := 12) (S := fun w' => w'.cell? ⟨w.heap.size, 0, none⟩ = some x0 ∧ w'.cell? ⟨w.heap.size, 1, none⟩ = some x1) (ds := [6, 10]) #[false, false, false, false, false, false, false, false, false, false, false, false] (by kernel_rfl) rfl rfl ⟨((blk_cell HK.out 0).trans rfl), ((blk_cell HK.out 1).trans rfl)⟩ (fun hHeld => ?_)
    refine pure_ (i := 0) (N := some 15) (v := ?_) (a' := ?_) #[true, false, false, false, false, false, false, false, false, false, false, false] rfl rfl (by kernel_rfl) (fun _ _ _ h => h) (Or.inl ⟨by rfl, ?_⟩) ?_ ?_
    rotate_left
    · intro w'
      go_simp
      with_reducible rfl
    rotate_left
    · simp only [Act.put, List.setIfInBounds_toArray, List.set_cons_zero, List.set_cons_succ, i64_w, i32_w]
      rfl
    refine pure_ (i := 1) (N := some 16) (v := ?_) (a' := ?_) #[true, true, false, false, false, false, false, false, false, false, false, false] rfl rfl (by kernel_rfl) (fun _ _ _ h => h) (Or.inl ⟨by rfl, ?_⟩) ?_ ?_
    rotate_left
    · intro w'
      go_simp
      with_reducible rfl
    rotate_left
    · simp only [Act.put, List.setIfInBounds_toArray, List.set_cons_zero, List.set_cons_succ, i64_w, i32_w]
      rfl
    refine pure_ (i := 2) (N := some 17) (v := ?_) (a' := ?_) #[true, true, true, false, false, false, false, false, false, false, false, false] rfl rfl (by kernel_rfl) (fun _ _ _ h => h) (Or.inl ⟨by rfl, ?_⟩) ?_ ?_
    rotate_left
    · intro w'
      go_simp
      with_reducible rfl
    rotate_left
    · simp only [Act.put, List.setIfInBounds_toArray, List.set_cons_zero, List.set_cons_succ, i64_w, i32_w]
      rfl
    refine pure_ (i := 3) (N := some 18) (v := ?_) (a' := ?_) #[true, true, true, true, false, false, false, false, false, false, false, false] rfl rfl (by kernel_rfl) (fun _ _ _ h => h) (Or.inl ⟨by rfl, ?_⟩) ?_ ?_
    rotate_left
    · intro w'
      go_simp
      with_reducible rfl
    rotate_left
    · simp only [Act.put, List.setIfInBounds_toArray, List.set_cons_zero, List.set_cons_succ, i64_w, i32_w]
      rfl
    refine pure_ (i := 7) (N := some 22) (v := ?_) (a' := ?_) #[true, true, true, true, false, false, false, true, false, false, false, false] rfl rfl (by kernel_rfl) (fun _ _ _ h => h) (Or.inl ⟨by rfl, ?_⟩) ?_ ?_
    rotate_left
    · intro w'
      go_simp
      with_reducible rfl
    rotate_left
    · simp only [Act.put, List.setIfInBounds_toArray, List.set_cons_zero, List.set_cons_succ, i64_w, i32_w]
      rfl
    refine pure_ (i := 8) (N := some 23) (v := ?_) (a' := ?_) #[true, true, true, true, false, false, false, true, true, false, false, false] rfl rfl (by kernel_rfl) (fun _ _ _ h => h) (Or.inl ⟨by rfl, ?_⟩) ?_ ?_
    rotate_left
    · intro w'
      go_simp
      with_reducible rfl
    rotate_left
    · simp only [Act.put, List.setIfInBounds_toArray, List.set_cons_zero, List.set_cons_succ, i64_w, i32_w]
      rfl
    refine pure_ (i := 9) (N := some 24) (v := ?_) (a' := ?_) #[true, true, true, true, false, false, false, true, true, true, false, false] rfl rfl (by kernel_rfl) (fun _ _ _ h => h) (Or.inl ⟨by rfl, ?_⟩) ?_ ?_
    rotate_left
    · intro w'
      go_simp
      with_reducible rfl
    rotate_left
    · simp only [Act.put, List.setIfInBounds_toArray, List.set_cons_zero, List.set_cons_succ, i64_w, i32_w]
      rfl
    refine take_ (i := 4) (N := some 19) (v := ?_) (a' := ?_) #[true, true, true, true, true, false, false, true, true, true, false, false] rfl rfl (by kernel_rfl) (fun _ _ _ h => h) (Or.inl ⟨by rfl, ?_⟩) hHeld ?_ ?_
    rotate_left
    · rintro w' ⟨s0, s1⟩
      go_simp
      with_reducible rfl
    rotate_left
    · simp only [Act.put, List.setIfInBounds_toArray, List.set_cons_zero, List.set_cons_succ, i64_w, i32_w]
      rfl
    refine one_ (i := 5) (N := some 20) #[true, true, true, true, true, true, false, true, true, true, false, false] rfl rfl (by kernel_rfl) (by decide) (fun K hK => ?_)
    refine value_ (w1 := ?_) (v := ?_) (by rfl) rfl ?_ ?_
    rotate_left 2
    · go_simp
      constructor
      · rfl
      · rfl
    refine hK.out _ _ ⟨(pw_cell_below (below_alloc (Below.refl _ _) _) hHeld.1), (pw_cell_below (below_alloc (Below.refl _ _) _) hHeld.2)⟩ (fun hHeld => ?_)
    clear hK K
    refine norm_ (a' := ?_) ?_ ?_
    rotate_left
    · show Act.put _ (some 20) _ = _
      simp only [Act.put, List.setIfInBounds_toArray, List.set_cons_zero, List.set_cons_succ, i64_w, i32_w]
      rfl
    refine last_ (i := 6) (N := some 21) #[true, true, true, true, true, true, true, true, true, true, false, false] rfl rfl (by kernel_rfl) (by decide) (fun K hK => ?_)
    refine value_ (w1 := w3) (v := v1) (by rfl) rfl (exec_append rfl rfl rfl hr1) ?_
    refine hK.out _ _ ?_
    clear hK K
    refine norm_ (a' := ?_) ?_ ?_
    rotate_left
    · show Act.put _ (some 21) _ = _
      simp only [Act.put, List.setIfInBounds_toArray, List.set_cons_zero, List.set_cons_succ, i64_w, i32_w]
      rfl
    refine last_ (i := 10) (N := some 25) #[true, true, true, true, true, true, true, true, true, true, true, false] rfl rfl (by kernel_rfl) (by decide) (fun K hK => ?_)
    refine value_ (w1 := w4) (v := v2) (by rfl) rfl (exec_append rfl rfl rfl hr2) ?_
    refine hK.out _ _ ?_
    clear hK K
    refine norm_ (a' := ?_) ?_ ?_
    rotate_left
    · show Act.put _ (some 25) _ = _
      simp only [Act.put, List.setIfInBounds_toArray, List.set_cons_zero, List.set_cons_succ, i64_w, i32_w]
      rfl
    refine pure_ (i := 11) (N := some 6) (v := ?_) (a' := ?_) #[true, true, true, true, true, true, true, true, true, true, true, true] rfl rfl (by kernel_rfl) (fun _ _ _ h => h) (Or.inl ⟨by rfl, ?_⟩) ?_ ?_
    rotate_left
    · intro w'
      go_simp
      with_reducible rfl
    rotate_left
    · simp only [Act.put, List.setIfInBounds_toArray, List.set_cons_zero, List.set_cons_succ, i64_w, i32_w]
      rfl
    refine done_ (by kernel_rfl) ?_
    go_wp2
    all_goals
      go_ret
      refine ⟨v2, rfl, ?_, HB4.out⟩
      have := HO2.out
      simp only [List.append_assoc, List.cons_append, List.nil_append] at this
      rwa [show k + 1 + (l0.length - k) = l0.length + 1 from by omega] at this

/-- An element's accounts, and the members behind the store of other ones. -/
theorem S_at {w : World} {base g cv : Nat} {l : List S45} {inner : List Value} {f : Nat → Nat} {i : Nat} (hi : i < l.length)
    (ho : w.ownsRow base 45 3 (.slice (some ⟨g, 0, none⟩) l.length cv) l.length inner)
    (hr : ∀ j p, l[j]? = some p → k45.M w base (fun b => (True ∧ some b ≠ (Value.slice (some ⟨g, 0, none⟩) l.length cv).ownBlock) ∧ f b = j) p ((inner.drop (j * 3)).take 3)) :
    ∃ v2, (inner.drop (i * 3)).take 3 = [.string (rd_T45 l i).f0, .int .i64 (rd_T45 l i).f1, v2] ∧ Kd.R k53 53 w base (fun _ => True) v2 (rd_T45 l i).f2 ∧
      w.cell? ⟨g, i * 3 + 2, none⟩ = some v2 ∧ w.frozen? ⟨g, i * 3 + 2, none⟩ = false := by
  have hp : l[i]? = some (rd_T45 l i) := by
    rw [List.getElem?_eq_getElem hi]
    simp [rd_T45, List.getD_eq_getElem?_getD, List.getElem?_eq_getElem hi]
  obtain ⟨v2, hcs, hR⟩ := k45_openM (hr i _ hp)
  have hget : inner[i * 3 + 2]? = some v2 := by
    have := congrArg (fun l => l[2]?) hcs
    simpa [List.getElem?_take, List.getElem?_drop] using this
  have hcell := ho.cells (g := g) rfl (i * 3 + 2) _ hget
  rw [add_plain] at hcell
  obtain ⟨cells, hc⟩ := own_typed ho g (by simp [Value.ownBlock])
  exact ⟨v2, hcs, Kd.R_mono hR (fun _ _ => trivial), hcell, blk_frozen hc _⟩
theorem S_put {w w1 : World} {base g cv : Nat} {l : List S45} {inner : List Value} {f : Nat → Nat} {i : Nat} {v3 : Value} {acc : List S53} (hi : i < l.length)
    (ho : w.ownsRow base 45 3 (.slice (some ⟨g, 0, none⟩) l.length cv) l.length inner)
    (hr : ∀ j p, l[j]? = some p → k45.M w base (fun b => (True ∧ some b ≠ (Value.slice (some ⟨g, 0, none⟩) l.length cv).ownBlock) ∧ f b = j) p ((inner.drop (j * 3)).take 3))
    (hb : Below w.heap.size w w1) (h3 : Kd.R k53 53 w1 w.heap.size (fun _ => True) v3 acc) (hbase : base ≤ w.heap.size) :
    Kd.S k45 45 (w1.setCell ⟨g, i * 3 + 2, none⟩ v3) base (fun _ => True) (.slice (some ⟨g, 0, none⟩) l.length cv) (l.set i ⟨(rd_T45 l i).f0, (rd_T45 l i).f1, acc⟩) := by
  obtain ⟨v2, hcs, _, _, _⟩ := S_at hi ho hr
  have hgl := own_lt ho g (by simp [Value.ownBlock])
  have ho1 := pw_own_below ho hb
  obtain ⟨hs1, hs2⟩ := ho1.stored (i * 3 + 2) v3
  have hL : (l.set i ⟨(rd_T45 l i).f0, (rd_T45 l i).f1, acc⟩).length = l.length := List.length_set
  refine ⟨fun b => if w.heap.size ≤ b then i else f b, fun _ _ => trivial, _, by rw [List.length_zipIdx, hL]; exact hs1, by rw [List.length_zipIdx, hL]; exact hs1.1, fun j p hj => ?_⟩
  rw [List.getElem?_zipIdx, List.getElem?_set] at hj
  obtain ⟨q, hq, rfl⟩ := Option.map_eq_some_iff.1 hj
  simp only [Nat.zero_add]
  show k45.M _ base (fun b => (True ∧ some b ≠ (Value.slice (some ⟨g, 0, none⟩) l.length cv).ownBlock) ∧ (if w.heap.size ≤ b then i else f b) = j) q (List.take 3 (List.drop (j * 3) (inner.set (i * 3 + 2) v3)))
  by_cases hji : j = i
  · subst hji
    rw [if_pos rfl, if_pos hi] at hq
    obtain rfl := Option.some.inj hq
    rw [seg_set_eq (by omega), hcs]
    refine k45_mkM _ _ _ _ ?_
    refine Kd.R_mono (Kd.R_grown (Kd.R_lower (Kd.R_bound h3) hbase) hs2 ?_) ?_
    · intro k hk he
      have := hk.2.1
      injection he with he
      omega
    · intro k hk
      have := hk.2.1
      refine ⟨⟨trivial, fun he => ?_⟩, by rw [if_pos this]⟩
      simp only [Value.ownBlock, Option.map_some, Option.some.injEq] at he
      omega
  · rw [if_neg (fun h => hji h.symm)] at hq
    rw [seg_set_ne (by omega) hji]
    refine Kd.M_grown (Kd.M_below (k45.M_mono (fun k hk => ?_) (k45.M_bound (hr j q hq))) hb) hs2 (fun k hk => by have := hk.1.2; simpa [Value.ownBlock] using this)
    exact ⟨hk.1.1, by rw [if_neg (by omega)]; exact hk.1.2⟩
/-- Accounts with one more. -/
theorem R_insert {w w' : World} {base : Nat} {v v' : Value} {l : List S53} {inner : List Value} {k : Nat} {x : S53} (hk : k ≤ l.length)
    (ho : w.ownsRow base 53 2 v l.length inner) (hr : ∀ j p, l[j]? = some p → k53.K w p ((inner.drop (j * 2)).take 2))
    (ho' : w'.ownsRow w.heap.size 53 2 v' (l.length + 1) (inner.take (k * 2) ++ (.string x.f0 :: .int .i64 x.f1 :: inner.drop (k * 2)))) :
    Kd.R k53 53 w' w.heap.size (fun _ => True) v' (insAt l k x) := by
  have hlen := ho.1
  have hks : k * 2 ≤ inner.length := by omega
  have hlen' := ho'.1
  refine ⟨fun _ _ => trivial, _, by rw [insAt_length l k x hk]; exact ho', by rw [insAt_length l k x hk]; exact hlen', fun j p hj => ?_⟩
  rw [insAt_get l k x hk] at hj
  have mk : ∀ cs : List Value, k53.K w p cs → k53.M w' w.heap.size (fun b => True ∧ some b ≠ v'.ownBlock) p cs := fun cs h => by rw [k53_open h]; exact k53_mkM _ _ _ _
  show k53.M w' w.heap.size _ p (List.take 2 (List.drop (j * 2) _))
  by_cases h1 : j < k
  · rw [if_pos h1] at hj
    have e : ((inner.take (k * 2) ++ (.string x.f0 :: .int .i64 x.f1 :: inner.drop (k * 2))).drop (j * 2)).take 2 = (inner.drop (j * 2)).take 2 := seg_ins_lt h1 hks
    rw [e]
    exact mk _ (hr j p hj)
  · rw [if_neg h1] at hj
    by_cases h2 : j = k
    · rw [if_pos h2] at hj
      obtain rfl := Option.some.inj hj
      have e : List.take 2 (List.drop (k * 2) (inner.take (k * 2) ++ (.string x.f0 :: .int .i64 x.f1 :: inner.drop (k * 2)))) = [.string x.f0, .int .i64 x.f1] := seg_ins_eq (cs := [.string x.f0, .int .i64 x.f1]) rfl hks
      rw [h2, e]
      exact k53_mkM _ _ _ _
    · rw [if_neg h2] at hj
      have e : List.take 2 (List.drop (j * 2) (inner.take (k * 2) ++ (.string x.f0 :: .int .i64 x.f1 :: inner.drop (k * 2)))) = (inner.drop ((j - 1) * 2)).take 2 := seg_ins_gt (cs := [.string x.f0, .int .i64 x.f1]) rfl (by omega) hks
      rw [e]
      exact mk _ (hr (j - 1) p hj)
theorem firstErr_zero (f : Nat → Int) (d : Nat) : ∀ i, firstErr f d i = 0 → ∀ j, i ≤ j → j < i + d → f j = 0 := by
  induction d with
  | zero => intro i _ j h1 h2; omega
  | succ d ih =>
    intro i h j h1 h2
    unfold firstErr at h
    by_cases h0 : f i = 0
    · rw [if_pos h0] at h
      by_cases hj : j = i
      · rw [hj]; exact h0
      · exact ih (i + 1) h j (by omega) (by omega)
    · rw [if_neg h0] at h
      exact absurd h h0
theorem member_Check.few {l : List S45} (h : member_Check.f l = some 0) {i : Nat} (hi : i < l.length) : (rd_T45 l i).f2.length ≤ 16 := by
  have h1 := Option.some.inj h
  by_cases h2 : 32 < l.length
  · rw [if_pos h2] at h1
    exact absurd h1 (by decide)
  · rw [if_neg h2] at h1
    have h3 := firstErr_zero _ _ _ h1 i (Nat.zero_le _) (by omega)
    unfold mErr at h3
    split at h3
    · split at h3
      · exact absurd h3 (by decide)
      · split at h3
        · exact absurd h3 (by decide)
        · omega
    · exact absurd h3 (by assumption)

/-- A further account. -/
def member_Open.f (l0 : List S45) (a1_0 a1_1 : ByteArray) (a2 : Int) : Option (List S45 × Int) :=
  (member_Check.f l0).bind fun e => if e = 0 then
    (if member_at.go a1_0 l0 0 < 0 ∨ (rd_T45 l0 (member_at.go a1_0 l0 0)).f1 ≠ 1 then some ([], 20) else
    if nameB a1_1 = true then (if 1 ≤ a2 ∧ a2 ≤ 3 then
      ((member_Account.f l0 a1_0 a1_1).bind fun t => if t.2.2 = true then some ([], 12) else
        if (rd_T45 l0 (member_at.go a1_0 l0 0)).f2.length = 16 then some ([], 8) else
        (member_own.f l0).bind fun o => some (o.set (member_at.go a1_0 l0 0).toNat ⟨(rd_T45 o (member_at.go a1_0 l0 0).toNat).f0, (rd_T45 o (member_at.go a1_0 l0 0).toNat).f1,
          insAt (rd_T45 o (member_at.go a1_0 l0 0).toNat).f2 (placeOf (idxOf (fun a : S53 => Op.bytesLess a1_1.toList a.f0.toList) (rd_T45 o (member_at.go a1_0 l0 0).toNat).f2 0) (rd_T45 o (member_at.go a1_0 l0 0).toNat).f2.length) ⟨a1_1, a2⟩⟩, 0))
      else some ([], 21)) else some ([], 10)) else some ([], e)
theorem member_Open.pred (a1_0 a1_1 : ByteArray) (w : World) (b : Nat) (hb : w.heap[b]? = some (.cells #[.string a1_0, .string a1_1] 29 (0, 0))) :
    PredK Try.prog k53 42 #[.pointer (some ⟨b, 0, none⟩)] (fun a : S53 => Op.bytesLess a1_1.toList a.f0.toList) w := by
  intro W x cs hW hK
  obtain rfl := k53_open hK
  have hb' := blk_below hb hW
  have h0 : W.cell? ⟨b, 1, none⟩ = some (.string a1_1) := (blk_cell hb' 1).trans rfl
  have hlt := blk_lt hb'
  clear hb hb' hK
  go_enter Try.func42, Try.ntmps42
  go_wp2
  go_ret
  exact ⟨rfl, (Below.refl _ _).alloc (Nat.le_refl _) _⟩
theorem member_at.go_lt (a1 : ByteArray) (l : List S45) (i : Int) : member_at.go a1 l i = -1 ∨ (i ≤ member_at.go a1 l i ∧ member_at.go a1 l i < i + l.length) := by
  induction l generalizing i with
  | nil => exact .inl rfl
  | cons x xs ih =>
    unfold member_at.go
    split
    · exact .inr ⟨Int.le_refl _, by simp only [List.length_cons]; omega⟩
    · rcases ih (i + 1) with h | h
      · exact .inl h
      · exact .inr ⟨by omega, by simp only [List.length_cons]; omega⟩
set_option maxHeartbeats 4000000 in
set_option maxRecDepth 100000 in
theorem member_Open.calls (A0 : Option Addr) (c0 : Nat) (l0 : List (S45)) (a1_0 : ByteArray) (a1_1 : ByteArray) (a2 : Int) (r1 : List (S45)) (r2 : Int) (w : World) (hr0 : Kd.C k45 w A0 l0.length l0) (hc0 : l0.length ≤ c0) (h : member_Open.f l0 a1_0 a1_1 a2 = some (r1, r2)) :
    Calls Try.prog 13 #[.slice A0 l0.length c0, .agg #[.string a1_0, .string a1_1], .int .i64 a2] w fun e w' => ∃ v0_ : Value, e = .returned (.tuple #[v0_, .int .i64 r2]) ∧ Kd.S k45 45 w' w.heap.size (fun _ => True) v0_ r1 ∧ Below w.heap.size w w' := by
  obtain ⟨ec, hE, h⟩ := Option.bind_eq_some_iff.mp h
  have HR0 := Aside0.mk hr0
  have HC0 := Aside0.mk hc0
  have HE := Aside0.mk hE
  have HB := Aside0.mk (below_alloc (Below.refl w.heap.size w) (.cells #[.string a1_0, .string a1_1] 29 (0, 0)))
  have HK := Aside0.mk (blk_new w (.cells #[.string a1_0, .string a1_1] 29 (0, 0)))
  have hn32 : l0.length ≤ 9223372036854775807 := hr0.2.1
  have HNM := Aside0.mk (words_Name_some a1_1)
  have HKI := Aside0.mk (member_kind_eq a2)
  have HAT : Aside0 (member_at.f l0 a1_0 = some (member_at.go a1_0 l0 0)) := ⟨rfl⟩
  have hgl := member_at.go_lt a1_0 l0 0
  generalize member_at.go a1_0 l0 0 = ia at h HAT hgl
  clear hr0 hc0 hE
  by_cases he : ec = 0
  · have he1 : (ec != 0) = false := bne_eq_false_iff_eq.mpr he
    rw [if_pos he] at h
    have HE0 := Aside0.mk (show member_Check.f l0 = some 0 by rw [← he]; exact HE.out)
    clear he
    by_cases hia : ia < 0
    · have hia1 : decide (ia < 0) = true := decide_eq_true hia
      rw [if_pos (Or.inl hia)] at h
      simp only [Option.some.injEq, Prod.mk.injEq] at h
      obtain ⟨rfl, rfl⟩ := h
      clear hgl
      go_enter Try.func13, Try.ntmps13
      go_wp2_with (first | (go_at_call 8; refine (member_Check.calls A0 c0 l0 ec _ (Kd.C_below HR0.out HB.out) HC0.out HE.out).mono ?_; rintro _ w1 ⟨rfl, hb⟩; have HB2 := Aside0.mk (below_step HB.out hb); have HK2 := Aside0.mk (blk_below HK.out hb); clear HB HK; have HB := HB2; have HK := HK2; clear HB2 HK2; have hlt := blk_lt HK.out; have hbx0 : World.cell? _ ⟨w.heap.size, 0, none⟩ = some (.string a1_0) := (blk_cell HK.out 0).trans rfl; have hbx1 : World.cell? _ ⟨w.heap.size, 1, none⟩ = some (.string a1_1) := (blk_cell HK.out 1).trans rfl; clear hb) | (go_at_call 36; refine (member_at.calls A0 c0 l0 a1_0 ia _ (Kd.C_below HR0.out HB.out) HC0.out HAT.out).mono ?_; rintro _ w2 ⟨rfl, hb⟩; (clear hlt hbx0 hbx1); have HB2 := Aside0.mk (below_step HB.out hb); have HK2 := Aside0.mk (blk_below HK.out hb); clear HB HK; have HB := HB2; have HK := HK2; clear HB2 HK2; have hlt := blk_lt HK.out; have hbx0 : World.cell? _ ⟨w.heap.size, 0, none⟩ = some (.string a1_0) := (blk_cell HK.out 0).trans rfl; have hbx1 : World.cell? _ ⟨w.heap.size, 1, none⟩ = some (.string a1_1) := (blk_cell HK.out 1).trans rfl; clear hb))
      go_ret2
      exact ⟨_, rfl, Kd.S_nil _ _ _ _ _, HB.out⟩
    · have hia1 : decide (ia < 0) = false := decide_eq_false hia
      have hia2 : 0 ≤ ia := by omega
      have hia3 : ia < (l0.length : Int) := by omega
      obtain ⟨ka, rfl⟩ := Int.eq_ofNat_of_zero_le hia2
      simp only [Int.toNat_natCast] at h
      have q1 := eq_true hia2
      have q2 := eq_true hia3
      clear hgl
      by_cases hst : (rd_T45 l0 (ka : Int)).f1 = 1
      · have hst1 : ((rd_T45 l0 (ka : Int)).f1 != 1) = false := bne_eq_false_iff_eq.mpr hst
        rw [if_neg (fun h => h.elim hia (fun h => h hst))] at h
        clear hst
        cases hnb : nameB a1_1 with
        | false =>
          rw [hnb] at HNM
          rw [if_neg (by rw [hnb]; decide)] at h
          simp only [Option.some.injEq, Prod.mk.injEq] at h
          obtain ⟨rfl, rfl⟩ := h
          clear hnb
          go_enter Try.func13, Try.ntmps13
          go_wp2_with (first | (go_at_call 8; refine (member_Check.calls A0 c0 l0 ec _ (Kd.C_below HR0.out HB.out) HC0.out HE.out).mono ?_; rintro _ w1 ⟨rfl, hb⟩; have HB2 := Aside0.mk (below_step HB.out hb); have HK2 := Aside0.mk (blk_below HK.out hb); clear HB HK; have HB := HB2; have HK := HK2; clear HB2 HK2; have hlt := blk_lt HK.out; have hbx0 : World.cell? _ ⟨w.heap.size, 0, none⟩ = some (.string a1_0) := (blk_cell HK.out 0).trans rfl; have hbx1 : World.cell? _ ⟨w.heap.size, 1, none⟩ = some (.string a1_1) := (blk_cell HK.out 1).trans rfl; clear hb) | (go_at_call 36; refine (member_at.calls A0 c0 l0 a1_0 (ka : Int) _ (Kd.C_below HR0.out HB.out) HC0.out HAT.out).mono ?_; rintro _ w2 ⟨rfl, hb⟩; (clear hlt hbx0 hbx1); have HB2 := Aside0.mk (below_step HB.out hb); have HK2 := Aside0.mk (blk_below HK.out hb); clear HB HK; have HB := HB2; have HK := HK2; clear HB2 HK2; have hlt := blk_lt HK.out; have hbx0 : World.cell? _ ⟨w.heap.size, 0, none⟩ = some (.string a1_0) := (blk_cell HK.out 0).trans rfl; have hbx1 : World.cell? _ ⟨w.heap.size, 1, none⟩ = some (.string a1_1) := (blk_cell HK.out 1).trans rfl; clear hb; obtain ⟨ad, A2, c2, e2, hm0, hm1, hm2, hm3, hm4⟩ := at_T45 (Kd.C_below HR0.out HB.out) (ka : Int) hia2 hia3; cases e2; simp only [Int.toNat_natCast] at hm0 hm1 hm2; have HM4 := Aside0.mk hm4; clear hm4) | (go_at_call 35; refine (words_Name.calls 20 a1_1 _ _ HNM.out).mono ?_; rintro _ w3 ⟨rfl, hb⟩; (clear hlt hbx0 hbx1); have HB2 := Aside0.mk (below_step HB.out hb.below); have HK2 := Aside0.mk (blk_below HK.out hb.below); clear HB HK; have HB := HB2; have HK := HK2; clear HB2 HK2; have hlt := blk_lt HK.out; have hbx0 : World.cell? _ ⟨w.heap.size, 0, none⟩ = some (.string a1_0) := (blk_cell HK.out 0).trans rfl; have hbx1 : World.cell? _ ⟨w.heap.size, 1, none⟩ = some (.string a1_1) := (blk_cell HK.out 1).trans rfl; clear hb))
          go_ret2
          exact ⟨_, rfl, Kd.S_nil _ _ _ _ _, HB.out⟩
        | true =>
          rw [hnb] at HNM
          rw [if_pos hnb] at h
          clear hnb
          by_cases hki : 1 ≤ a2 ∧ a2 ≤ 3
          · rw [if_pos hki] at h
            rw [decide_eq_true hki] at HKI
            clear hki
            obtain ⟨⟨t1, t2, t3⟩, hAC, h⟩ := Option.bind_eq_some_iff.mp h
            have HAC := Aside0.mk hAC
            clear hAC
            cases t3 with
            | true =>
              rw [if_pos rfl] at h
              simp only [Option.some.injEq, Prod.mk.injEq] at h
              obtain ⟨rfl, rfl⟩ := h
              go_enter Try.func13, Try.ntmps13
              go_wp2_with (first | (go_at_call 8; refine (member_Check.calls A0 c0 l0 ec _ (Kd.C_below HR0.out HB.out) HC0.out HE.out).mono ?_; rintro _ w1 ⟨rfl, hb⟩; have HB2 := Aside0.mk (below_step HB.out hb); have HK2 := Aside0.mk (blk_below HK.out hb); clear HB HK; have HB := HB2; have HK := HK2; clear HB2 HK2; have hlt := blk_lt HK.out; have hbx0 : World.cell? _ ⟨w.heap.size, 0, none⟩ = some (.string a1_0) := (blk_cell HK.out 0).trans rfl; have hbx1 : World.cell? _ ⟨w.heap.size, 1, none⟩ = some (.string a1_1) := (blk_cell HK.out 1).trans rfl; clear hb) | (go_at_call 36; refine (member_at.calls A0 c0 l0 a1_0 (ka : Int) _ (Kd.C_below HR0.out HB.out) HC0.out HAT.out).mono ?_; rintro _ w2 ⟨rfl, hb⟩; (clear hlt hbx0 hbx1); have HB2 := Aside0.mk (below_step HB.out hb); have HK2 := Aside0.mk (blk_below HK.out hb); clear HB HK; have HB := HB2; have HK := HK2; clear HB2 HK2; have hlt := blk_lt HK.out; have hbx0 : World.cell? _ ⟨w.heap.size, 0, none⟩ = some (.string a1_0) := (blk_cell HK.out 0).trans rfl; have hbx1 : World.cell? _ ⟨w.heap.size, 1, none⟩ = some (.string a1_1) := (blk_cell HK.out 1).trans rfl; clear hb; obtain ⟨ad, A2, c2, e2, hm0, hm1, hm2, hm3, hm4⟩ := at_T45 (Kd.C_below HR0.out HB.out) (ka : Int) hia2 hia3; cases e2; simp only [Int.toNat_natCast] at hm0 hm1 hm2; have HM4 := Aside0.mk hm4; clear hm4) | (go_at_call 35; refine (words_Name.calls 20 a1_1 _ _ HNM.out).mono ?_; rintro _ w3 ⟨rfl, hb⟩; (clear hlt hbx0 hbx1); have HB2 := Aside0.mk (below_step HB.out hb.below); have HK2 := Aside0.mk (blk_below HK.out hb.below); clear HB HK; have HB := HB2; have HK := HK2; clear HB2 HK2; have hlt := blk_lt HK.out; have hbx0 : World.cell? _ ⟨w.heap.size, 0, none⟩ = some (.string a1_0) := (blk_cell HK.out 0).trans rfl; have hbx1 : World.cell? _ ⟨w.heap.size, 1, none⟩ = some (.string a1_1) := (blk_cell HK.out 1).trans rfl; clear hb) | (go_at_call 32; refine (member_kind.calls a2 _ _ HKI.out).mono ?_; rintro _ w4 ⟨rfl, hb⟩; (clear hlt hbx0 hbx1); have HB2 := Aside0.mk (below_step HB.out hb.below); have HK2 := Aside0.mk (blk_below HK.out hb.below); clear HB HK; have HB := HB2; have HK := HK2; clear HB2 HK2; have hlt := blk_lt HK.out; have hbx0 : World.cell? _ ⟨w.heap.size, 0, none⟩ = some (.string a1_0) := (blk_cell HK.out 0).trans rfl; have hbx1 : World.cell? _ ⟨w.heap.size, 1, none⟩ = some (.string a1_1) := (blk_cell HK.out 1).trans rfl; clear hb) | (go_at_call 22; refine (member_Account.calls _ c0 l0 a1_0 a1_1 t1 t2 true _ (Kd.C_below HR0.out HB.out) HC0.out HAC.out).mono ?_; rintro _ w5 ⟨rfl, hb⟩; (clear hlt hbx0 hbx1); have HB2 := Aside0.mk (below_step HB.out hb); have HK2 := Aside0.mk (blk_below HK.out hb); clear HB HK; have HB := HB2; have HK := HK2; clear HB2 HK2; have hlt := blk_lt HK.out; have hbx0 : World.cell? _ ⟨w.heap.size, 0, none⟩ = some (.string a1_0) := (blk_cell HK.out 0).trans rfl; have hbx1 : World.cell? _ ⟨w.heap.size, 1, none⟩ = some (.string a1_1) := (blk_cell HK.out 1).trans rfl; clear hb))
              go_ret2
              exact ⟨_, rfl, Kd.S_nil _ _ _ _ _, below_alloc HB.out _⟩
            | false =>
              rw [if_neg (fun h => by cases h)] at h
              by_cases h16 : (rd_T45 l0 (ka : Int)).f2.length = 16
              · have h161 : (((rd_T45 l0 (ka : Int)).f2.length : Int) == 16) = true := beq_iff_eq.mpr (by omega)
                rw [if_pos h16] at h
                clear h16
                simp only [Option.some.injEq, Prod.mk.injEq] at h
                obtain ⟨rfl, rfl⟩ := h
                go_enter Try.func13, Try.ntmps13
                go_wp2_with (first | (go_at_call 8; refine (member_Check.calls A0 c0 l0 ec _ (Kd.C_below HR0.out HB.out) HC0.out HE.out).mono ?_; rintro _ w1 ⟨rfl, hb⟩; have HB2 := Aside0.mk (below_step HB.out hb); have HK2 := Aside0.mk (blk_below HK.out hb); clear HB HK; have HB := HB2; have HK := HK2; clear HB2 HK2; have hlt := blk_lt HK.out; have hbx0 : World.cell? _ ⟨w.heap.size, 0, none⟩ = some (.string a1_0) := (blk_cell HK.out 0).trans rfl; have hbx1 : World.cell? _ ⟨w.heap.size, 1, none⟩ = some (.string a1_1) := (blk_cell HK.out 1).trans rfl; clear hb) | (go_at_call 36; refine (member_at.calls A0 c0 l0 a1_0 (ka : Int) _ (Kd.C_below HR0.out HB.out) HC0.out HAT.out).mono ?_; rintro _ w2 ⟨rfl, hb⟩; (clear hlt hbx0 hbx1); have HB2 := Aside0.mk (below_step HB.out hb); have HK2 := Aside0.mk (blk_below HK.out hb); clear HB HK; have HB := HB2; have HK := HK2; clear HB2 HK2; have hlt := blk_lt HK.out; have hbx0 : World.cell? _ ⟨w.heap.size, 0, none⟩ = some (.string a1_0) := (blk_cell HK.out 0).trans rfl; have hbx1 : World.cell? _ ⟨w.heap.size, 1, none⟩ = some (.string a1_1) := (blk_cell HK.out 1).trans rfl; clear hb; obtain ⟨ad, A2, c2, e2, hm0, hm1, hm2, hm3, hm4⟩ := at_T45 (Kd.C_below HR0.out HB.out) (ka : Int) hia2 hia3; cases e2; simp only [Int.toNat_natCast] at hm0 hm1 hm2; have HM4 := Aside0.mk hm4; clear hm4) | (go_at_call 35; refine (words_Name.calls 20 a1_1 _ _ HNM.out).mono ?_; rintro _ w3 ⟨rfl, hb⟩; (clear hlt hbx0 hbx1); have HB2 := Aside0.mk (below_step HB.out hb.below); have HK2 := Aside0.mk (blk_below HK.out hb.below); clear HB HK; have HB := HB2; have HK := HK2; clear HB2 HK2; have hlt := blk_lt HK.out; have hbx0 : World.cell? _ ⟨w.heap.size, 0, none⟩ = some (.string a1_0) := (blk_cell HK.out 0).trans rfl; have hbx1 : World.cell? _ ⟨w.heap.size, 1, none⟩ = some (.string a1_1) := (blk_cell HK.out 1).trans rfl; clear hb) | (go_at_call 32; refine (member_kind.calls a2 _ _ HKI.out).mono ?_; rintro _ w4 ⟨rfl, hb⟩; (clear hlt hbx0 hbx1); have HB2 := Aside0.mk (below_step HB.out hb.below); have HK2 := Aside0.mk (blk_below HK.out hb.below); clear HB HK; have HB := HB2; have HK := HK2; clear HB2 HK2; have hlt := blk_lt HK.out; have hbx0 : World.cell? _ ⟨w.heap.size, 0, none⟩ = some (.string a1_0) := (blk_cell HK.out 0).trans rfl; have hbx1 : World.cell? _ ⟨w.heap.size, 1, none⟩ = some (.string a1_1) := (blk_cell HK.out 1).trans rfl; clear hb) | (go_at_call 22; refine (member_Account.calls _ c0 l0 a1_0 a1_1 t1 t2 false _ (Kd.C_below HR0.out HB.out) HC0.out HAC.out).mono ?_; rintro _ w5 ⟨rfl, hb⟩; (clear hlt hbx0 hbx1); have HB2 := Aside0.mk (below_step HB.out hb); have HK2 := Aside0.mk (blk_below HK.out hb); clear HB HK; have HB := HB2; have HK := HK2; clear HB2 HK2; have hlt := blk_lt HK.out; have hbx0 : World.cell? _ ⟨w.heap.size, 0, none⟩ = some (.string a1_0) := (blk_cell HK.out 0).trans rfl; have hbx1 : World.cell? _ ⟨w.heap.size, 1, none⟩ = some (.string a1_1) := (blk_cell HK.out 1).trans rfl; clear hb; (clear hm0 hm1 hm2 hm3 HM4); obtain ⟨ad5, A5, c5, e5, hm0, hm1, hm2, hm3, hm4⟩ := at_T45 (Kd.C_below HR0.out HB.out) (ka : Int) hia2 hia3; cases e5; simp only [Int.toNat_natCast] at hm0 hm1 hm2; have HM4 := Aside0.mk hm4; clear hm4; have hlt5 := World.block_lt_of_cell? _ _ hm2))
                go_ret2
                exact ⟨_, rfl, Kd.S_nil _ _ _ _ _, below_alloc HB.out _⟩
              · have h161 : (((rd_T45 l0 (ka : Int)).f2.length : Int) == 16) = false := beq_eq_false_iff_ne.mpr (by omega)
                rw [if_neg h16] at h
                clear h16
                obtain ⟨o, hO, h⟩ := Option.bind_eq_some_iff.mp h
                simp only [Option.some.injEq, Prod.mk.injEq] at h
                obtain ⟨rfl, rfl⟩ := h
                have HOW := Aside0.mk hO
                have hol : l0 = o := by
                  unfold member_own.f at hO
                  split at hO
                  · exact Option.some.inj hO
                  · cases hO
                subst hol
                clear hO
                go_enter Try.func13, Try.ntmps13
                go_wp2_with (first | (go_at_call 8; refine (member_Check.calls A0 c0 l0 ec _ (Kd.C_below HR0.out HB.out) HC0.out HE.out).mono ?_; rintro _ w1 ⟨rfl, hb⟩; have HB2 := Aside0.mk (below_step HB.out hb); have HK2 := Aside0.mk (blk_below HK.out hb); clear HB HK; have HB := HB2; have HK := HK2; clear HB2 HK2; have hlt := blk_lt HK.out; have hbx0 : World.cell? _ ⟨w.heap.size, 0, none⟩ = some (.string a1_0) := (blk_cell HK.out 0).trans rfl; have hbx1 : World.cell? _ ⟨w.heap.size, 1, none⟩ = some (.string a1_1) := (blk_cell HK.out 1).trans rfl; clear hb) | (go_at_call 36; refine (member_at.calls A0 c0 l0 a1_0 (ka : Int) _ (Kd.C_below HR0.out HB.out) HC0.out HAT.out).mono ?_; rintro _ w2 ⟨rfl, hb⟩; (clear hlt hbx0 hbx1); have HB2 := Aside0.mk (below_step HB.out hb); have HK2 := Aside0.mk (blk_below HK.out hb); clear HB HK; have HB := HB2; have HK := HK2; clear HB2 HK2; have hlt := blk_lt HK.out; have hbx0 : World.cell? _ ⟨w.heap.size, 0, none⟩ = some (.string a1_0) := (blk_cell HK.out 0).trans rfl; have hbx1 : World.cell? _ ⟨w.heap.size, 1, none⟩ = some (.string a1_1) := (blk_cell HK.out 1).trans rfl; clear hb; obtain ⟨ad, A2, c2, e2, hm0, hm1, hm2, hm3, hm4⟩ := at_T45 (Kd.C_below HR0.out HB.out) (ka : Int) hia2 hia3; cases e2; simp only [Int.toNat_natCast] at hm0 hm1 hm2; have HM4 := Aside0.mk hm4; clear hm4) | (go_at_call 35; refine (words_Name.calls 20 a1_1 _ _ HNM.out).mono ?_; rintro _ w3 ⟨rfl, hb⟩; (clear hlt hbx0 hbx1); have HB2 := Aside0.mk (below_step HB.out hb.below); have HK2 := Aside0.mk (blk_below HK.out hb.below); clear HB HK; have HB := HB2; have HK := HK2; clear HB2 HK2; have hlt := blk_lt HK.out; have hbx0 : World.cell? _ ⟨w.heap.size, 0, none⟩ = some (.string a1_0) := (blk_cell HK.out 0).trans rfl; have hbx1 : World.cell? _ ⟨w.heap.size, 1, none⟩ = some (.string a1_1) := (blk_cell HK.out 1).trans rfl; clear hb) | (go_at_call 32; refine (member_kind.calls a2 _ _ HKI.out).mono ?_; rintro _ w4 ⟨rfl, hb⟩; (clear hlt hbx0 hbx1); have HB2 := Aside0.mk (below_step HB.out hb.below); have HK2 := Aside0.mk (blk_below HK.out hb.below); clear HB HK; have HB := HB2; have HK := HK2; clear HB2 HK2; have hlt := blk_lt HK.out; have hbx0 : World.cell? _ ⟨w.heap.size, 0, none⟩ = some (.string a1_0) := (blk_cell HK.out 0).trans rfl; have hbx1 : World.cell? _ ⟨w.heap.size, 1, none⟩ = some (.string a1_1) := (blk_cell HK.out 1).trans rfl; clear hb) | (go_at_call 22; refine (member_Account.calls _ c0 l0 a1_0 a1_1 t1 t2 false _ (Kd.C_below HR0.out HB.out) HC0.out HAC.out).mono ?_; rintro _ w5 ⟨rfl, hb⟩; (clear hlt hbx0 hbx1); have HB2 := Aside0.mk (below_step HB.out hb); have HK2 := Aside0.mk (blk_below HK.out hb); clear HB HK; have HB := HB2; have HK := HK2; clear HB2 HK2; have hlt := blk_lt HK.out; have hbx0 : World.cell? _ ⟨w.heap.size, 0, none⟩ = some (.string a1_0) := (blk_cell HK.out 0).trans rfl; have hbx1 : World.cell? _ ⟨w.heap.size, 1, none⟩ = some (.string a1_1) := (blk_cell HK.out 1).trans rfl; clear hb; (clear hm0 hm1 hm2 hm3 HM4); obtain ⟨ad5, A5, c5, e5, hm0, hm1, hm2, hm3, hm4⟩ := at_T45 (Kd.C_below HR0.out HB.out) (ka : Int) hia2 hia3; cases e5; simp only [Int.toNat_natCast] at hm0 hm1 hm2; have HM4 := Aside0.mk hm4; clear hm4; have hlt5 := World.block_lt_of_cell? _ _ hm2))
                refine (member_own.calls _ c0 l0 l0 _ (Kd.C_alloc (Kd.C_below HR0.out HB.out) _) HC0.out HOW.out).mono ?_
                rintro e w6 ⟨v1, rfl, hs, hb⟩
                have hlt0 : ka < l0.length := by omega
                have hb6 := hb.size
                have HB6 := Aside0.mk (below_step (below_alloc HB.out _) hb)
                have HK6 := Aside0.mk (blk_below (blk_alloc HK.out _) hb)
                obtain ⟨A1, c1, rfl⟩ := Kd.R_slice (Kd.S_R hs)
                obtain ⟨f1, _, inner, ho, hrep⟩ := hs
                rw [List.length_zipIdx] at ho
                obtain ⟨g, hg⟩ : ∃ g, A1 = some ⟨g, 0, none⟩ := by
                  obtain ⟨g, cap, e, _⟩ := ho.form (by omega)
                  injection e with e _ _
                  exact ⟨g, e⟩
                subst hg
                have HO := Aside0.mk ho
                have HREP := Aside0.mk (fun j p hj => hrep.2 j (p, j) (Kd.zip_at hj))
                obtain ⟨v2, hcs, hR2, hc2, hf2⟩ := S_at hlt0 ho (fun j p hj => hrep.2 j (p, j) (Kd.zip_at hj))
                obtain ⟨A2, c2, rfl⟩ := Kd.R_slice hR2
                have HC2 := Aside0.mk (Kd.R_reads' hR2).2.2
                obtain ⟨_, inner2, ho2, hrep2⟩ := hR2
                have HO2 := Aside0.mk ho2
                have HO2D := Aside0.mk (pw_own_below ho2 (below_drew (Below.refl w6.heap.size w6)))
                have HREP2 := Aside0.mk (fun j p hj => k53.K_of_M (hrep2.2 j p hj))
                have HONE2 := Aside0.mk (Kd.reps_one hrep2 (by decide) (fun p c hp => k53.K_one (k53.K_of_M hp)))
                have hgb := own_base ho g (by simp [Value.ownBlock])
                have hgl := own_lt ho g (by simp [Value.ownBlock])
                have hbk := blk_lt HK6.out
                clear hb ho hrep ho2 hrep2 hcs hlt hbx0 hbx1 hm0 hm1 hm2 hm3 HM4 hlt5
                have hpl := placeOf_le (fun a : S53 => Op.bytesLess a1_1.toList a.f0.toList) (rd_T45 l0 ka).f2
                generalize hkq : placeOf (idxOf (fun a : S53 => Op.bytesLess a1_1.toList a.f0.toList) (rd_T45 l0 ka).f2 0) (rd_T45 l0 ka).f2.length = kq at hpl
                have HKQ := Aside0.mk hkq
                have hfew := member_Check.few HE0.out hlt0
                have HOB := Aside0.mk (show ((rd_T45 l0 ka).f2.length + 1) * 24 ≤ 140737488355328 by omega)
                clear hkq
                have eg : ∀ args w, (callFunc 42 args).run Try.prog w = .ok (.enter 42 args) w := enters_of Try.func42 (by kernel_rfl) rfl
                go_wp2
                refine start_ (n := 16) (S := fun w' => w'.cell? ⟨g, ka * 3 + 2, none⟩ = some (.slice A2 (rd_T45 l0 ka).f2.length c2) ∧ w'.cell? ⟨w.heap.size, 1, none⟩ = some (.string a1_1)) (ds := [12, 15]) #[false, false, false, false, false, false, false, false, false, false, false, false, false, false, false, false] (by kernel_rfl) rfl rfl ⟨hc2, ((blk_cell HK6.out 1).trans rfl)⟩ (fun hHeld => ?_)
                refine pure_ (i := 0) (N := some 53) (v := ?_) (a' := ?_) #[true, false, false, false, false, false, false, false, false, false, false, false, false, false, false, false] rfl rfl (by kernel_rfl) (fun _ _ _ h => h) (Or.inl ⟨by rfl, ?_⟩) ?_ ?_
                rotate_left
                · intro w'
                  go_simp
                  with_reducible rfl
                rotate_left
                · simp only [Act.put, List.setIfInBounds_toArray, List.set_cons_zero, List.set_cons_succ, i64_w, i32_w]
                  rfl
                refine pure_ (i := 1) (N := some 54) (v := ?_) (a' := ?_) #[true, true, false, false, false, false, false, false, false, false, false, false, false, false, false, false] rfl rfl (by kernel_rfl) (fun _ _ _ h => h) (Or.inl ⟨by rfl, ?_⟩) ?_ ?_
                rotate_left
                · intro w'
                  go_simp
                  with_reducible rfl
                rotate_left
                · simp only [Act.put, List.setIfInBounds_toArray, List.set_cons_zero, List.set_cons_succ, i64_w, i32_w]
                  rfl
                refine pure_ (i := 2) (N := some 55) (v := ?_) (a' := ?_) #[true, true, true, false, false, false, false, false, false, false, false, false, false, false, false, false] rfl rfl (by kernel_rfl) (fun _ _ _ h => h) (Or.inl ⟨by rfl, ?_⟩) ?_ ?_
                rotate_left
                · intro w'
                  go_simp
                  with_reducible rfl
                rotate_left
                · simp only [Act.put, List.setIfInBounds_toArray, List.set_cons_zero, List.set_cons_succ, i64_w, i32_w]
                  rfl
                refine pure_ (i := 3) (N := some 56) (v := ?_) (a' := ?_) #[true, true, true, true, false, false, false, false, false, false, false, false, false, false, false, false] rfl rfl (by kernel_rfl) (fun _ _ _ h => h) (Or.inl ⟨by rfl, ?_⟩) ?_ ?_
                rotate_left
                · intro w'
                  go_simp
                  with_reducible rfl
                rotate_left
                · simp only [Act.put, List.setIfInBounds_toArray, List.set_cons_zero, List.set_cons_succ, i64_w, i32_w]
                  rfl
                refine pure_ (i := 4) (N := some 57) (v := ?_) (a' := ?_) #[true, true, true, true, true, false, false, false, false, false, false, false, false, false, false, false] rfl rfl (by kernel_rfl) (fun _ _ _ h => h) (Or.inl ⟨by rfl, ?_⟩) ?_ ?_
                rotate_left
                · intro w'
                  go_simp
                  with_reducible rfl
                rotate_left
                · simp only [Act.put, List.setIfInBounds_toArray, List.set_cons_zero, List.set_cons_succ, i64_w, i32_w]
                  rfl
                refine pure_ (i := 5) (N := some 58) (v := ?_) (a' := ?_) #[true, true, true, true, true, true, false, false, false, false, false, false, false, false, false, false] rfl rfl (by kernel_rfl) (fun _ _ _ h => h) (Or.inl ⟨by rfl, ?_⟩) ?_ ?_
                rotate_left
                · intro w'
                  go_simp
                  with_reducible rfl
                rotate_left
                · simp only [Act.put, List.setIfInBounds_toArray, List.set_cons_zero, List.set_cons_succ, i64_w, i32_w]
                  rfl
                refine pure_ (i := 7) (N := some 60) (v := ?_) (a' := ?_) #[true, true, true, true, true, true, false, true, false, false, false, false, false, false, false, false] rfl rfl (by kernel_rfl) (fun _ _ _ h => h) (Or.inl ⟨by rfl, ?_⟩) ?_ ?_
                rotate_left
                · intro w'
                  go_simp
                  with_reducible rfl
                rotate_left
                · simp only [Act.put, List.setIfInBounds_toArray, List.set_cons_zero, List.set_cons_succ, i64_w, i32_w]
                  rfl
                refine pure_ (i := 9) (N := some 62) (v := ?_) (a' := ?_) #[true, true, true, true, true, true, false, true, false, true, false, false, false, false, false, false] rfl rfl (by kernel_rfl) (fun _ _ _ h => h) (Or.inl ⟨by rfl, ?_⟩) ?_ ?_
                rotate_left
                · intro w'
                  go_simp
                  with_reducible rfl
                rotate_left
                · simp only [Act.put, List.setIfInBounds_toArray, List.set_cons_zero, List.set_cons_succ, i64_w, i32_w]
                  rfl
                refine pure_ (i := 11) (N := some 64) (v := ?_) (a' := ?_) #[true, true, true, true, true, true, false, true, false, true, false, true, false, false, false, false] rfl rfl (by kernel_rfl) (fun _ _ _ h => h) (Or.inl ⟨by rfl, ?_⟩) ?_ ?_
                rotate_left
                · intro w'
                  go_simp
                  with_reducible rfl
                rotate_left
                · simp only [Act.put, List.setIfInBounds_toArray, List.set_cons_zero, List.set_cons_succ, i64_w, i32_w]
                  rfl
                refine take_ (i := 6) (N := some 59) (v := ?_) (a' := ?_) #[true, true, true, true, true, true, true, true, false, true, false, true, false, false, false, false] rfl rfl (by kernel_rfl) (fun _ _ _ h => h) (Or.inl ⟨by rfl, ?_⟩) hHeld ?_ ?_
                rotate_left
                · rintro w' ⟨s0, s1⟩
                  go_simp
                  with_reducible rfl
                rotate_left
                · simp only [Act.put, List.setIfInBounds_toArray, List.set_cons_zero, List.set_cons_succ, i64_w, i32_w]
                  rfl
                refine take_ (i := 8) (N := some 61) (v := ?_) (a' := ?_) #[true, true, true, true, true, true, true, true, true, true, false, true, false, false, false, false] rfl rfl (by kernel_rfl) (fun _ _ _ h => h) (Or.inl ⟨by rfl, ?_⟩) hHeld ?_ ?_
                rotate_left
                · rintro w' ⟨s0, s1⟩
                  go_simp
                  with_reducible rfl
                rotate_left
                · simp only [Act.put, List.setIfInBounds_toArray, List.set_cons_zero, List.set_cons_succ, i64_w, i32_w]
                  rfl
                refine pure_ (i := 10) (N := some 63) (v := ?_) (a' := ?_) #[true, true, true, true, true, true, true, true, true, true, true, true, false, false, false, false] rfl rfl (by kernel_rfl) (fun _ _ _ h => h) (Or.inl ⟨by rfl, ?_⟩) ?_ ?_
                rotate_left
                · intro w'
                  go_simp
                  with_reducible rfl
                rotate_left
                · simp only [Act.put, List.setIfInBounds_toArray, List.set_cons_zero, List.set_cons_succ, i64_w, i32_w]
                  rfl
                refine last_ (i := 12) (N := some 65) #[true, true, true, true, true, true, true, true, true, true, true, true, true, false, false, false] rfl rfl (by kernel_rfl) (by decide) (fun K hK => ?_)
                refine goes_ Try.func41 (by kernel_rfl) rfl #[.slice A2 (rd_T45 l0 ka).f2.length c2, .agg #[.string a1_1, .int .i64 a2], .func (.func 42) #[] #[.pointer (some ⟨w.heap.size, 0, none⟩)]] (by rfl) rfl rfl (by simp only [List.map_toArray, List.map_cons, List.map_nil]; rfl) ?_
                with_reducible refine (Into_api_Account.calls (fun a : S53 => Op.bytesLess a1_1.toList a.f0.toList) 42 _ eg A2 c2 _ inner2 (.string a1_1) (.int .i64 a2) _ _ kq (member_Open.pred a1_0 a1_1 _ _ (blk_drew HK6.out)) (Kd.C_drew HC2.out) HO2D.out HONE2.out (by intro u hu; simp only [List.mem_cons, List.not_mem_nil, or_false] at hu; rcases hu with rfl | rfl <;> simp [Value.oneCell']) (by rw [placeOf_int, HKQ.out]) HOB.out).mono ?_
                rintro e w7 ⟨v3, rfl, ho3, hb7⟩
                refine ⟨_, rfl, ?_⟩
                have HO3 := Aside0.mk ho3
                have HB7 := Aside0.mk hb7
                have hc7 := pw_cell_below hb7 (show (World.drew _).cell? _ = _ from hc2)
                have hf7 := (hb7.frozen (p := ⟨g, ka * 3 + 2, none⟩) hgl).trans hf2
                obtain ⟨A3, c3, rfl⟩ := own_slice ho3
                clear ho3 hb7
                refine hK.out _ _ ?_
                clear hK K
                refine norm_ (a' := ?_) ?_ ?_
                rotate_left
                · show Act.put _ (some 65) _ = _
                  simp only [Act.put, List.setIfInBounds_toArray, List.set_cons_zero, List.set_cons_succ, i64_w, i32_w]
                  rfl
                refine pure_ (i := 13) (N := some 66) (v := ?_) (a' := ?_) #[true, true, true, true, true, true, true, true, true, true, true, true, true, true, false, false] rfl rfl (by kernel_rfl) (fun _ _ _ h => h) (Or.inl ⟨by rfl, ?_⟩) ?_ ?_
                rotate_left
                · intro w'
                  go_simp
                  with_reducible rfl
                rotate_left
                · simp only [Act.put, List.setIfInBounds_toArray, List.set_cons_zero, List.set_cons_succ, i64_w, i32_w]
                  rfl
                refine pure_ (i := 14) (N := some 67) (v := ?_) (a' := ?_) #[true, true, true, true, true, true, true, true, true, true, true, true, true, true, true, false] rfl rfl (by kernel_rfl) (fun _ _ _ h => h) (Or.inl ⟨by rfl, ?_⟩) ?_ ?_
                rotate_left
                · intro w'
                  go_simp
                  with_reducible rfl
                rotate_left
                · simp only [Act.put, List.setIfInBounds_toArray, List.set_cons_zero, List.set_cons_succ, i64_w, i32_w]
                  rfl
                refine last_ (i := 15) (N := none) #[true, true, true, true, true, true, true, true, true, true, true, true, true, true, true, true] rfl rfl (by kernel_rfl) (by decide) (fun K hK => ?_)
                refine skip_ (w1 := ?_) (by rfl) rfl ?_ ?_
                rotate_left
                · go_simp
                  rfl
                refine hK.out _ _ ?_
                clear hK K
                refine done_ (by kernel_rfl) ?_
                go_wp2
                go_ret2
                have hbx : Below w6.heap.size w6 w7 := below_step (below_drew (Below.refl _ _)) HB7.out
                refine ⟨_, rfl, ?_, below_set (below_step HB6.out hbx) (Nat.le_trans HB.out.size (Nat.le_trans (by simp) hgb))⟩
                rw [HKQ.out]
                refine Kd.S_lower (S_put hlt0 HO.out HREP.out hbx (R_insert (w := w6.drew) (x := ⟨a1_1, a2⟩) hpl HO2D.out HREP2.out HO3.out) hb6) ?_
                exact Nat.le_trans HB.out.size (by simp)
          · rw [if_neg hki] at h
            rw [decide_eq_false hki] at HKI
            simp only [Option.some.injEq, Prod.mk.injEq] at h
            obtain ⟨rfl, rfl⟩ := h
            clear hki
            go_enter Try.func13, Try.ntmps13
            go_wp2_with (first | (go_at_call 8; refine (member_Check.calls A0 c0 l0 ec _ (Kd.C_below HR0.out HB.out) HC0.out HE.out).mono ?_; rintro _ w1 ⟨rfl, hb⟩; have HB2 := Aside0.mk (below_step HB.out hb); have HK2 := Aside0.mk (blk_below HK.out hb); clear HB HK; have HB := HB2; have HK := HK2; clear HB2 HK2; have hlt := blk_lt HK.out; have hbx0 : World.cell? _ ⟨w.heap.size, 0, none⟩ = some (.string a1_0) := (blk_cell HK.out 0).trans rfl; have hbx1 : World.cell? _ ⟨w.heap.size, 1, none⟩ = some (.string a1_1) := (blk_cell HK.out 1).trans rfl; clear hb) | (go_at_call 36; refine (member_at.calls A0 c0 l0 a1_0 (ka : Int) _ (Kd.C_below HR0.out HB.out) HC0.out HAT.out).mono ?_; rintro _ w2 ⟨rfl, hb⟩; (clear hlt hbx0 hbx1); have HB2 := Aside0.mk (below_step HB.out hb); have HK2 := Aside0.mk (blk_below HK.out hb); clear HB HK; have HB := HB2; have HK := HK2; clear HB2 HK2; have hlt := blk_lt HK.out; have hbx0 : World.cell? _ ⟨w.heap.size, 0, none⟩ = some (.string a1_0) := (blk_cell HK.out 0).trans rfl; have hbx1 : World.cell? _ ⟨w.heap.size, 1, none⟩ = some (.string a1_1) := (blk_cell HK.out 1).trans rfl; clear hb; obtain ⟨ad, A2, c2, e2, hm0, hm1, hm2, hm3, hm4⟩ := at_T45 (Kd.C_below HR0.out HB.out) (ka : Int) hia2 hia3; cases e2; simp only [Int.toNat_natCast] at hm0 hm1 hm2; have HM4 := Aside0.mk hm4; clear hm4) | (go_at_call 35; refine (words_Name.calls 20 a1_1 _ _ HNM.out).mono ?_; rintro _ w3 ⟨rfl, hb⟩; (clear hlt hbx0 hbx1); have HB2 := Aside0.mk (below_step HB.out hb.below); have HK2 := Aside0.mk (blk_below HK.out hb.below); clear HB HK; have HB := HB2; have HK := HK2; clear HB2 HK2; have hlt := blk_lt HK.out; have hbx0 : World.cell? _ ⟨w.heap.size, 0, none⟩ = some (.string a1_0) := (blk_cell HK.out 0).trans rfl; have hbx1 : World.cell? _ ⟨w.heap.size, 1, none⟩ = some (.string a1_1) := (blk_cell HK.out 1).trans rfl; clear hb) | (go_at_call 32; refine (member_kind.calls a2 _ _ HKI.out).mono ?_; rintro _ w4 ⟨rfl, hb⟩; (clear hlt hbx0 hbx1); have HB2 := Aside0.mk (below_step HB.out hb.below); have HK2 := Aside0.mk (blk_below HK.out hb.below); clear HB HK; have HB := HB2; have HK := HK2; clear HB2 HK2; have hlt := blk_lt HK.out; have hbx0 : World.cell? _ ⟨w.heap.size, 0, none⟩ = some (.string a1_0) := (blk_cell HK.out 0).trans rfl; have hbx1 : World.cell? _ ⟨w.heap.size, 1, none⟩ = some (.string a1_1) := (blk_cell HK.out 1).trans rfl; clear hb))
            go_ret2
            exact ⟨_, rfl, Kd.S_nil _ _ _ _ _, HB.out⟩
      · have hst1 : ((rd_T45 l0 (ka : Int)).f1 != 1) = true := bne_iff_ne.mpr hst
        rw [if_pos (Or.inr hst)] at h
        simp only [Option.some.injEq, Prod.mk.injEq] at h
        obtain ⟨rfl, rfl⟩ := h
        clear hst
        go_enter Try.func13, Try.ntmps13
        go_wp2_with (first | (go_at_call 8; refine (member_Check.calls A0 c0 l0 ec _ (Kd.C_below HR0.out HB.out) HC0.out HE.out).mono ?_; rintro _ w1 ⟨rfl, hb⟩; have HB2 := Aside0.mk (below_step HB.out hb); have HK2 := Aside0.mk (blk_below HK.out hb); clear HB HK; have HB := HB2; have HK := HK2; clear HB2 HK2; have hlt := blk_lt HK.out; have hbx0 : World.cell? _ ⟨w.heap.size, 0, none⟩ = some (.string a1_0) := (blk_cell HK.out 0).trans rfl; have hbx1 : World.cell? _ ⟨w.heap.size, 1, none⟩ = some (.string a1_1) := (blk_cell HK.out 1).trans rfl; clear hb) | (go_at_call 36; refine (member_at.calls A0 c0 l0 a1_0 (ka : Int) _ (Kd.C_below HR0.out HB.out) HC0.out HAT.out).mono ?_; rintro _ w2 ⟨rfl, hb⟩; (clear hlt hbx0 hbx1); have HB2 := Aside0.mk (below_step HB.out hb); have HK2 := Aside0.mk (blk_below HK.out hb); clear HB HK; have HB := HB2; have HK := HK2; clear HB2 HK2; have hlt := blk_lt HK.out; have hbx0 : World.cell? _ ⟨w.heap.size, 0, none⟩ = some (.string a1_0) := (blk_cell HK.out 0).trans rfl; have hbx1 : World.cell? _ ⟨w.heap.size, 1, none⟩ = some (.string a1_1) := (blk_cell HK.out 1).trans rfl; clear hb; obtain ⟨ad, A2, c2, e2, hm0, hm1, hm2, hm3, hm4⟩ := at_T45 (Kd.C_below HR0.out HB.out) (ka : Int) hia2 hia3; cases e2; simp only [Int.toNat_natCast] at hm0 hm1 hm2; have HM4 := Aside0.mk hm4; clear hm4))
        go_ret2
        exact ⟨_, rfl, Kd.S_nil _ _ _ _ _, HB.out⟩
  · have he1 : (ec != 0) = true := bne_iff_ne.mpr he
    rw [if_neg he] at h
    simp only [Option.some.injEq, Prod.mk.injEq] at h
    obtain ⟨rfl, rfl⟩ := h
    clear he hgl
    go_enter Try.func13, Try.ntmps13
    go_wp2_with (go_at_call 8; refine (member_Check.calls A0 c0 l0 ec _ (Kd.C_below HR0.out HB.out) HC0.out HE.out).mono ?_; rintro _ w1 ⟨rfl, hb⟩; have HB2 := Aside0.mk (below_step HB.out hb); have HK2 := Aside0.mk (blk_below HK.out hb); clear HB HK; have HB := HB2; have HK := HK2; clear HB2 HK2; have hlt := blk_lt HK.out; have hbx0 : World.cell? _ ⟨w.heap.size, 0, none⟩ = some (.string a1_0) := (blk_cell HK.out 0).trans rfl; have hbx1 : World.cell? _ ⟨w.heap.size, 1, none⟩ = some (.string a1_1) := (blk_cell HK.out 1).trans rfl; clear hb)
    go_ret2
    exact ⟨_, rfl, Kd.S_nil _ _ _ _ _, HB.out⟩

end Go.Proofs.Ytipoicfglaanaaa.PMemberKeeps
