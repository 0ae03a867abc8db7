-- Written by a program of this session's (a turned copy of the kit's print, with functions proved by hand).
import Derived.Test.YtipoicfglaanaaaPMemberKeepsx0
import Derived.Test.YtipoicfglaanaaaPMemberKeepsx2
import Derived.Test.YtipoicfglaanaaaPMemberKeepsx3
namespace Go.Proofs.Ytipoicfglaanaaa.PMemberKeeps
open Go.RowKit Go.Proofs.YtipoicfglaanaaaW.PrintWords Go.Proofs.YtipoicfglaanaaaW.PrintLast Go.Proofs.YtipoicfglaanaaaW.PrintMore
attribute [local go_sem] max2_int min2_int max_two min_two max_three min_three max_four min_four Go.Proofs.YtipoicfglaanaaaHand.run_leq_str Go.Proofs.YtipoicfglaanaaaHand.run_gtr_str Go.Proofs.YtipoicfglaanaaaHand.run_geq_str   -- for this text's walks alone
set_option linter.unusedVariables false
set_option linter.unusedSimpArgs false

/-! ### member_Add: function 11 -/
/-- slices.IndexFunc at api.Member. -/
theorem IndexFunc_api_Member.calls (p : S45 → Bool) (g : Nat) (lb : Array Value) (eg : ∀ args w, (callFunc g args).run Try.prog w = .ok (.enter g args) w) (A0 : Option Addr) (c0 : Nat) (l0 : List (S45)) (w : World) (hp : PredK Try.prog k45 g lb p w) (hr0 : Kd.C k45 w A0 l0.length l0) :
    Calls Try.prog 51 #[.slice A0 l0.length c0, .func (.func g) #[] lb] w fun e w' => e = .returned (.int .i64 (idxOf p l0 0)) ∧ Below w.heap.size w w' := by
  have HR0 := Aside0.mk hr0
  have HL := hr0.2.1
  have HP := Aside0.mk hp
  clear hr0 hp
  go_enter Try.func51, Try.ntmps51
  go_wp2
  go_loopg [5, 8] l0.length (fun kq _ v8 w' => ∃ (x8 : Nat), v8 = .int .i64 x8 ∧ kq + x8 = l0.length ∧ Aside0 (idxOf p (l0.drop x8) x8 = idxOf p l0 0) ∧ Aside0 (Below w.heap.size w w'))
  case atStart => exact ⟨0, rfl, by omega, ⟨rfl⟩, ⟨Below.refl _ _⟩⟩
  case round =>
    obtain ⟨x8, rfl, hx, HA, HB⟩ := hrel
    have hsz := HB.out.size
    by_cases hlt : x8 < l0.length
    · obtain ⟨ad, cs, e, hlen, hK, hcell⟩ := Kd.C_get (Kd.C_below HR0.out HB.out) z45 x8 (by omega) (by omega)
      cases e
      have hcall := HP.out wr _ _ HB.out hK
      simp only [Int.toNat_natCast] at hcell hK hcall
      have hg := idxOf_drop p l0 z45 x8 hlt
      have HA2 := Aside0.mk (HA.out ▸ hg).symm
      clear hg HA
      simp only [show k45.sz = 3 from rfl] at hcell
      clear hlen
      obtain ⟨A_, c_, rfl, hl_, hg_⟩ := k45_open hK
      have h0 := hcell 0 _ rfl
      have h1 := hcell 1 _ rfl; rw [add_field _ _ 1 (by omega)] at h1
      have h2 := hcell 2 _ rfl; rw [add_field _ _ 2 (by omega)] at h2
      clear hcell hK hl_ hg_
      simp only [Nat.add_zero] at h0
      generalize hy : l0.getD x8 z45 = y at *
      clear hy
      by_cases hq : p y = true
      · have HA3 := Aside0.mk (by have := HA2.out; rwa [if_pos hq] at this)
        rw [hq] at hcall
        clear hq HA2
        go_wp2_with ((with_reducible refine hcall.mono ?_); rintro e w' ⟨rfl, hb'⟩)
        go_ret
        have := HA3.out
        exact ⟨congrArg (fun z => Ending.returned (.int .i64 z)) this, below_step HB.out hb'⟩
      · have hq2 : p y = false := by simpa using hq
        have HA3 := Aside0.mk (by have := HA2.out; rwa [if_neg hq] at this)
        rw [hq2] at hcall
        clear hq hq2 HA2
        go_wp2_with ((with_reducible refine hcall.mono ?_); rintro e w' ⟨rfl, hb'⟩)
        go_roundg (l0.length - (x8 + 1))
        case measure => omega
        case rel => exact ⟨x8 + 1, by go_num, by omega, HA3, ⟨below_step HB.out hb'⟩⟩
    · have hxe : x8 = l0.length := by omega
      have HA3 := Aside0.mk (by have := HA.out; rwa [List.drop_eq_nil_of_le (by omega)] at this)
      clear HA
      have hd : decide ((x8 : Int) < (l0.length : Int)) = false := by simp; omega
      clear hxe
      go_wp2
      go_ret
      have := HA3.out
      simp only [idxOf] at this
      exact ⟨congrArg (fun z => Ending.returned (.int .i64 z)) this, HB.out⟩

section
variable {P : Program} {t ty e : TypeId} {ti : TypeInfo} {z : Value} {size bytes : Nat}
/-- append(xs[:k:k], ys...), ys of one element or more: a new row. -/
theorem append_cut (ht : P.underlying t = some (.slice e)) (hi : P.info? e = some ti) (hz : ti.zero = some z) (hsize : ti.size = size) (hby : ti.bytes = bytes) (hzs : z.cells.size = size) (hsz : 0 < size)
    {w W : World} {base n c0 : Nat} {A0 : Option Addr} {inner : List Value} (ho : w.ownsRow base e size (.slice A0 n c0) n inner) (hb : Below w.heap.size w W) (k : Nat) (hk : k ≤ n)
    (a : Addr) (m c : Nat) (news : List Value) (hm : 0 < m) (hl : news.length = m * size) (hnews : ∀ j u, news[j]? = some u → W.cell? (a.add j) = some u) (h1 : ∀ u ∈ news, u.oneCell' = true)
    (h63 : k + m ≤ maxLen) (hbytes : (k + m) * bytes ≤ 140737488355328) :
    ∃ v' w', (Builtin.append_ #[t, t] ty #[.slice A0 k k, .slice (some a) m c]).run P W = .ok v' w' ∧ w'.ownsRow W.heap.size e size v' (k + m) (inner.take (k * size) ++ news) ∧ W.grownBy w' none := by
  rcases ho.2 with ⟨hv, hn⟩ | ⟨g, cap, cur, hv, hg, hh, _⟩
  · injection hv with hA hn0 hc0
    subst hA
    obtain rfl : k = 0 := by omega
    obtain ⟨v', w', hr, h2, h3, _, _⟩ := run_append_own_at (P := P) W W.heap.size t ty e ti z size bytes ht hi hz hsize hby hzs hsz (.slice none 0 0) 0 [] (own_nil _ _ _ _) a m c news hl hnews h1 h63 hbytes (Nat.le_refl _)
    exact ⟨v', w', hr, by simpa using h2, by simpa [Value.ownBlock] using h3⟩
  · injection hv with hA _ hc0
    subst hA
    have hlen := ho.1
    refine run_append_arg_grows (w := W) t ty e ti z size bytes ht hi hz hsize hby hzs hsz ⟨g, 0, none⟩ k k (inner.take (k * size)) ?_ ?_ a m c news hl hnews (by omega) h63 hbytes
    · rw [List.length_take, hlen, Nat.min_eq_left (Nat.mul_le_mul_right _ hk)]
    · intro j u hu
      rw [List.getElem?_take] at hu
      split at hu
      · exact pw_cell_below hb (ho.cells (g := g) rfl j u hu)
      · cases hu
/-- append(v, xs[k:]...), v a row of the call's own. -/
theorem append_rest (ht : P.underlying t = some (.slice e)) (hi : P.info? e = some ti) (hz : ti.zero = some z) (hsize : ti.size = size) (hby : ti.bytes = bytes) (hzs : z.cells.size = size) (hsz : 0 < size)
    {w W : World} {base n c0 : Nat} {A0 : Option Addr} {inner : List Value} (ho : w.ownsRow base e size (.slice A0 n c0) n inner) (h1 : ∀ u ∈ inner, u.oneCell' = true) (hb : Below w.heap.size w W) (k : Nat) (hk : k ≤ n)
    {b1 n1 : Nat} {v : Value} {xs : List Value} (hv : W.ownsRow b1 e size v n1 xs) (hb1 : b1 ≤ W.heap.size)
    (h63 : n1 + (n - k) ≤ maxLen) (hbytes : (n1 + (n - k)) * bytes ≤ 140737488355328) :
    ∃ v' w', (Builtin.append_ #[t, t] ty #[v, .slice (if c0 = k then A0 else Option.map (fun x : Addr => x.add (k * size)) A0) (n - k) (c0 - k)]).run P W = .ok v' w' ∧ w'.ownsRow b1 e size v' (n1 + (n - k)) (xs ++ inner.drop (k * size)) ∧ W.grownBy w' v.ownBlock := by
  have hlen := ho.1
  have nil_ : ∀ c, n - k = 0 → ∃ v' w', (Builtin.append_ #[t, t] ty #[v, .slice none 0 c]).run P W = .ok v' w' ∧ w'.ownsRow b1 e size v' (n1 + (n - k)) (xs ++ inner.drop (k * size)) ∧ W.grownBy w' v.ownBlock := by
    intro c h0
    refine ⟨v, W, ?_, ?_, World.grownBy.refl W _⟩
    · rcases hv.2 with ⟨rfl, _⟩ | ⟨g, cap, cur, rfl, _, _, hnc, _⟩
      · simp [Builtin.append_, run_underlying ht, sizeOf, typeInfo, hi, Builtin.lenOf, Builtin.firstCells]
      · simp [Builtin.append_, run_underlying ht, sizeOf, typeInfo, hi, Builtin.lenOf, Builtin.firstCells, hnc, storeCells]
    · rw [h0, Nat.add_zero, List.drop_eq_nil_of_le (by rw [hlen]; exact Nat.mul_le_mul_right _ (by omega)), List.append_nil]
      exact hv
  have some_ : ∀ (a : Addr) c, (∀ j u, (inner.drop (k * size))[j]? = some u → W.cell? (a.add j) = some u) → ∃ v' w', (Builtin.append_ #[t, t] ty #[v, .slice (some a) (n - k) c]).run P W = .ok v' w' ∧ w'.ownsRow b1 e size v' (n1 + (n - k)) (xs ++ inner.drop (k * size)) ∧ W.grownBy w' v.ownBlock := by
    intro a c hc
    obtain ⟨v', w', hr, h2, h3, _, _⟩ := run_append_own_at (P := P) W b1 t ty e ti z size bytes ht hi hz hsize hby hzs hsz v n1 xs hv a (n - k) c (inner.drop (k * size)) (by rw [List.length_drop, hlen, Nat.sub_mul]) hc (fun u hu => h1 u (List.mem_of_mem_drop hu)) h63 hbytes hb1
    exact ⟨v', w', hr, h2, h3⟩
  rcases ho.2 with ⟨hv0, hn⟩ | ⟨g, cap, cur, hv0, hg, hh, hnc, _⟩
  · injection hv0 with hA hn0 hc0
    subst hA
    have h0 : n - k = 0 := by omega
    have hif : (if c0 = k then (none : Option Addr) else Option.map (fun x : Addr => x.add (k * size)) none) = none := by split <;> rfl
    rw [hif, h0]
    have := nil_ (c0 - k) h0
    rwa [h0] at this
  · injection hv0 with hA _ hc0
    subst hA
    subst hc0
    by_cases hck : c0 = k
    · rw [if_pos hck]
      refine some_ _ _ (fun j u hu => ?_)
      rw [List.drop_eq_nil_of_le (by rw [hlen]; exact Nat.mul_le_mul_right _ (by omega))] at hu
      simp at hu
    · rw [if_neg hck]
      refine some_ _ _ (fun j u hu => ?_)
      rw [List.getElem?_drop] at hu
      have := pw_cell_below hb (ho.cells (g := g) rfl (k * size + j) u hu)
      rw [add_plain] at this
      show W.cell? (((⟨g, 0, none⟩ : Addr).add (k * size)).add j) = some u
      rw [add_plain, Addr.add_lit]
      exact this
end
theorem exec_append {P : Program} {oi : Oper} {a : Act} {w w1 : World} {s x : Operand} {t : TypeId} {vs vx v1 : Value} (ho : oi.op = .call { callee := .builtin .append, args := #[s, x], argTypes := #[t, t] }) (hs : a.eval s = vs) (hx : a.eval x = vx)
    (hr : (Builtin.append_ #[t, t] oi.type #[vs, vx]).run P w = .ok v1 w1) : (execOp a.eval oi).run P w = .ok (.value v1) w1 := by
  unfold execOp
  simp [ho, resolve, invoke, builtin, hs, hx, hr, Result.andThen]

set_option maxHeartbeats 1000000 in
set_option maxRecDepth 100000 in
theorem Into_api_Member.calls (p : S45 → Bool) (g : Nat) (lb : Array Value) (eg : ∀ args w, (callFunc g args).run Try.prog w = .ok (.enter g args) w) (A0 : Option Addr) (c0 : Nat) (l0 : List (S45)) (inner : List Value) (x0 x1 x2 : Value) (base : Nat) (w : World) (k : Nat)
    (hp : PredK Try.prog k45 g lb p w) (hC : Kd.C k45 w A0 l0.length l0) (ho : w.ownsRow base 45 3 (.slice A0 l0.length c0) l0.length inner) (hone : ∀ u ∈ inner, u.oneCell' = true) (hone2 : ∀ u ∈ [x0, x1, x2], u.oneCell' = true)
    (hk : (if idxOf p l0 0 < 0 then (l0.length : Int) else idxOf p l0 0) = (k : Int)) (hl : (l0.length + 1) * 48 ≤ 140737488355328) :
    Calls Try.prog 37 #[.slice A0 l0.length c0, .agg #[x0, x1, x2], .func (.func g) #[] lb] w fun e w' => ∃ v' : Value, e = .returned v' ∧ w'.ownsRow w.heap.size 45 3 v' (l0.length + 1) (inner.take (k * 3) ++ (x0 :: x1 :: x2 :: inner.drop (k * 3))) ∧ Below w.heap.size w w' := by
  have hn63 : l0.length ≤ 9223372036854775807 := hC.2.1
  have hkn : k ≤ l0.length := by
    have hil := idxOf_lt p l0 0
    split at hk <;> omega
  have hc0 : l0.length ≤ c0 := by
    rcases ho.2 with ⟨hv, hn⟩ | ⟨g', cap, cur, hv, _, _, hnc, _⟩
    · injection hv with _ h1 h2
      omega
    · injection hv with _ _ h2
      omega
  have HC := Aside0.mk hC
  have HP := Aside0.mk hp
  have HO := Aside0.mk ho
  have HL := Aside0.mk hl
  have HN1 := Aside0.mk hone
  have HN2 := Aside0.mk hone2
  obtain ⟨ti, hi, hzz⟩ := Option.map_eq_some_iff.1 info45
  simp only [Prod.mk.injEq] at hzz
  obtain ⟨hz0, hz1, hz2⟩ := hzz
  have HT := Aside0.mk hi
  have HT0 := Aside0.mk hz0
  have HT1 := Aside0.mk hz1
  have HT2 := Aside0.mk hz2
  clear hC hp ho hl hone hone2 hi hz0 hz1 hz2
  generalize hq : idxOf p l0 0 = i at hk
  have HI := Aside0.mk hq
  clear hq
  by_cases hneg : i < 0
  · rw [if_pos hneg] at hk
    obtain rfl : k = l0.length := by omega
    clear hk
    have hd : decide (i < 0) = true := decide_eq_true hneg
    have hkc : l0.length ≤ c0 := by omega
    go_enter Try.func37, Try.ntmps37
    go_wp2_with (go_at_call 51; refine (IndexFunc_api_Member.calls p g lb eg A0 c0 l0 _ (HP.out.later (below_alloc (Below.refl _ _) _)) (Kd.C_alloc HC.out _)).mono ?_; rintro e w1 ⟨rfl, hb⟩; have HBW := Aside0.mk (below_step (below_alloc (Below.refl _ _) _) hb); have hx := blk_below (blk_new w (.cells #[x0, x1, x2] 45 (0, 0))) hb; have HK := Aside0.mk hx; clear hx hb; rw [HI.out])
    have HBX := Aside0.mk (below_drew (below_alloc HBW.out (.cells #[x0, x1, x2] 45 (0, 0))))
    have hsz := HBX.out.size
    obtain ⟨v1, w3, hr1, ho1, hg1⟩ := append_cut (P := Try.prog) (t := 22) (ty := 22) Try.underlying22 HT.out HT0.out HT1.out HT2.out rfl (by decide) HO.out HBX.out l0.length hkn ⟨w1.heap.size, 0, none⟩ 1 1 [x0, x1, x2] (by decide) rfl (fun j u hu => by rw [add_plain]; exact (blk_cell (blk_drew (blk_new w1 (.cells #[x0, x1, x2] 45 (0, 0)))) j).trans (by simpa using hu)) HN2.out (by have := HL.out; simp only [maxLen]; omega) (by have := HL.out; omega)
    have HB3 := Aside0.mk (pw_below_grown HBX.out none hsz hg1 (by intro k hk; cases hk))
    have HO1 := Aside0.mk ho1
    have hsz3 := hg1.size
    obtain ⟨v2, w4, hr2, ho2, hg2⟩ := append_rest (P := Try.prog) (t := 22) (ty := 22) Try.underlying22 HT.out HT0.out HT1.out HT2.out rfl (by decide) HO.out HN1.out HB3.out l0.length hkn ho1 hsz3 (by have := HL.out; simp only [maxLen]; omega) (by have := HL.out; omega)
    have HB4 := Aside0.mk (pw_below_grown HB3.out v1.ownBlock (Nat.le_trans hsz hsz3) hg2 (fun k hk => Nat.le_trans hsz (own_base ho1 k hk)))
    have HO2 := Aside0.mk (own_weaken ho2 hsz)
    clear ho1 hg1 ho2 hg2
    rw [Nat.sub_self] at hr2
    refine start_ (n := 12) (S := fun w' => w'.cell? ⟨w.heap.size, 0, none⟩ = some x0 ∧ w'.cell? ⟨w.heap.size, 1, none⟩ = some x1 ∧ w'.cell? ⟨w.heap.size, 2, none⟩ = some x2) (ds := [6, 10]) #[false, false, false, false, false, false, false, false, false, false, false, false] (by kernel_rfl) rfl rfl ⟨((blk_cell HK.out 0).trans rfl), ((blk_cell HK.out 1).trans rfl), ((blk_cell HK.out 2).trans rfl)⟩ (fun hHeld => ?_)
    refine pure_ (i := 0) (N := some 15) (v := ?_) (a' := ?_) #[true, false, false, false, false, false, false, false, false, false, false, false] rfl rfl (by kernel_rfl) (fun _ _ _ h => h) (Or.inl ⟨by rfl, ?_⟩) ?_ ?_
    rotate_left
    · intro w'
      go_simp
      with_reducible rfl
    rotate_left
    · simp only [Act.put, List.setIfInBounds_toArray, List.set_cons_zero, List.set_cons_succ, i64_w, i32_w]
      rfl
    refine pure_ (i := 1) (N := some 16) (v := ?_) (a' := ?_) #[true, true, false, false, false, false, false, false, false, false, false, false] rfl rfl (by kernel_rfl) (fun _ _ _ h => h) (Or.inl ⟨by rfl, ?_⟩) ?_ ?_
    rotate_left
    · intro w'
      go_simp
      with_reducible rfl
    rotate_left
    · simp only [Act.put, List.setIfInBounds_toArray, List.set_cons_zero, List.set_cons_succ, i64_w, i32_w]
      rfl
    refine pure_ (i := 2) (N := some 17) (v := ?_) (a' := ?_) #[true, true, true, false, false, false, false, false, false, false, false, false] rfl rfl (by kernel_rfl) (fun _ _ _ h => h) (Or.inl ⟨by rfl, ?_⟩) ?_ ?_
    rotate_left
    · intro w'
      go_simp
      with_reducible rfl
    rotate_left
    · simp only [Act.put, List.setIfInBounds_toArray, List.set_cons_zero, List.set_cons_succ, i64_w, i32_w]
      rfl
    refine pure_ (i := 3) (N := some 18) (v := ?_) (a' := ?_) #[true, true, true, true, false, false, false, false, false, false, false, false] rfl rfl (by kernel_rfl) (fun _ _ _ h => h) (Or.inl ⟨by rfl, ?_⟩) ?_ ?_
    rotate_left
    · intro w'
      go_simp
      with_reducible rfl
    rotate_left
    · simp only [Act.put, List.setIfInBounds_toArray, List.set_cons_zero, List.set_cons_succ, i64_w, i32_w]
      rfl
    refine pure_ (i := 7) (N := some 22) (v := ?_) (a' := ?_) #[true, true, true, true, false, false, false, true, false, false, false, false] rfl rfl (by kernel_rfl) (fun _ _ _ h => h) (Or.inl ⟨by rfl, ?_⟩) ?_ ?_
    rotate_left
    · intro w'
      go_simp
      with_reducible rfl
    rotate_left
    · simp only [Act.put, List.setIfInBounds_toArray, List.set_cons_zero, List.set_cons_succ, i64_w, i32_w]
      rfl
    refine pure_ (i := 8) (N := some 23) (v := ?_) (a' := ?_) #[true, true, true, true, false, false, false, true, true, false, false, false] rfl rfl (by kernel_rfl) (fun _ _ _ h => h) (Or.inl ⟨by rfl, ?_⟩) ?_ ?_
    rotate_left
    · intro w'
      go_simp
      with_reducible rfl
    rotate_left
    · simp only [Act.put, List.setIfInBounds_toArray, List.set_cons_zero, List.set_cons_succ, i64_w, i32_w]
      rfl
    refine pure_ (i := 9) (N := some 24) (v := ?_) (a' := ?_) #[true, true, true, true, false, false, false, true, true, true, false, false] rfl rfl (by kernel_rfl) (fun _ _ _ h => h) (Or.inl ⟨by rfl, ?_⟩) ?_ ?_
    rotate_left
    · intro w'
      go_simp
      with_reducible rfl
    rotate_left
    · simp only [Act.put, List.setIfInBounds_toArray, List.set_cons_zero, List.set_cons_succ, i64_w, i32_w]
      rfl
    refine take_ (i := 4) (N := some 19) (v := ?_) (a' := ?_) #[true, true, true, true, true, false, false, true, true, true, false, false] rfl rfl (by kernel_rfl) (fun _ _ _ h => h) (Or.inl ⟨by rfl, ?_⟩) hHeld ?_ ?_
    rotate_left
    · rintro w' ⟨s0, s1, s2⟩
      go_simp
      with_reducible rfl
    rotate_left
    · simp only [Act.put, List.setIfInBounds_toArray, List.set_cons_zero, List.set_cons_succ, i64_w, i32_w]
      rfl
    refine one_ (i := 5) (N := some 20) #[true, true, true, true, true, true, false, true, true, true, false, false] rfl rfl (by kernel_rfl) (by decide) (fun K hK => ?_)
    refine value_ (w1 := ?_) (v := ?_) (by rfl) rfl ?_ ?_
    rotate_left 2
    · go_simp
      constructor
      · rfl
      · rfl
    refine hK.out _ _ ⟨(pw_cell_below (below_alloc (Below.refl _ _) _) hHeld.1), (pw_cell_below (below_alloc (Below.refl _ _) _) hHeld.2.1), (pw_cell_below (below_alloc (Below.refl _ _) _) hHeld.2.2)⟩ (fun hHeld => ?_)
    clear hK K
    refine norm_ (a' := ?_) ?_ ?_
    rotate_left
    · show Act.put _ (some 20) _ = _
      simp only [Act.put, List.setIfInBounds_toArray, List.set_cons_zero, List.set_cons_succ, i64_w, i32_w]
      rfl
    refine last_ (i := 6) (N := some 21) #[true, true, true, true, true, true, true, true, true, true, false, false] rfl rfl (by kernel_rfl) (by decide) (fun K hK => ?_)
    refine value_ (w1 := w3) (v := v1) (by rfl) rfl (exec_append rfl rfl rfl hr1) ?_
    refine hK.out _ _ ?_
    clear hK K
    refine norm_ (a' := ?_) ?_ ?_
    rotate_left
    · show Act.put _ (some 21) _ = _
      simp only [Act.put, List.setIfInBounds_toArray, List.set_cons_zero, List.set_cons_succ, i64_w, i32_w]
      rfl
    refine last_ (i := 10) (N := some 25) #[true, true, true, true, true, true, true, true, true, true, true, false] rfl rfl (by kernel_rfl) (by decide) (fun K hK => ?_)
    refine value_ (w1 := w4) (v := v2) (by rfl) rfl (exec_append rfl rfl rfl hr2) ?_
    refine hK.out _ _ ?_
    clear hK K
    refine norm_ (a' := ?_) ?_ ?_
    rotate_left
    · show Act.put _ (some 25) _ = _
      simp only [Act.put, List.setIfInBounds_toArray, List.set_cons_zero, List.set_cons_succ, i64_w, i32_w]
      rfl
    refine pure_ (i := 11) (N := some 6) (v := ?_) (a' := ?_) #[true, true, true, true, true, true, true, true, true, true, true, true] rfl rfl (by kernel_rfl) (fun _ _ _ h => h) (Or.inl ⟨by rfl, ?_⟩) ?_ ?_
    rotate_left
    · intro w'
      go_simp
      with_reducible rfl
    rotate_left
    · simp only [Act.put, List.setIfInBounds_toArray, List.set_cons_zero, List.set_cons_succ, i64_w, i32_w]
      rfl
    refine done_ (by kernel_rfl) ?_
    go_wp2
    all_goals
      go_ret
      refine ⟨v2, rfl, ?_, HB4.out⟩
      have := HO2.out
      simp only [List.append_assoc, List.cons_append, List.nil_append] at this
      rwa [show l0.length + 1 + (l0.length - l0.length) = l0.length + 1 from by omega] at this
  · rw [if_neg hneg] at hk
    subst hk
    have hd : decide ((k : Int) < 0) = false := decide_eq_false hneg
    have hkc : k ≤ c0 := by omega
    go_enter Try.func37, Try.ntmps37
    go_wp2_with (go_at_call 51; refine (IndexFunc_api_Member.calls p g lb eg A0 c0 l0 _ (HP.out.later (below_alloc (Below.refl _ _) _)) (Kd.C_alloc HC.out _)).mono ?_; rintro e w1 ⟨rfl, hb⟩; have HBW := Aside0.mk (below_step (below_alloc (Below.refl _ _) _) hb); have hx := blk_below (blk_new w (.cells #[x0, x1, x2] 45 (0, 0))) hb; have HK := Aside0.mk hx; clear hx hb; rw [HI.out])
    have HBX := Aside0.mk (below_drew (below_alloc HBW.out (.cells #[x0, x1, x2] 45 (0, 0))))
    have hsz := HBX.out.size
    obtain ⟨v1, w3, hr1, ho1, hg1⟩ := append_cut (P := Try.prog) (t := 22) (ty := 22) Try.underlying22 HT.out HT0.out HT1.out HT2.out rfl (by decide) HO.out HBX.out k hkn ⟨w1.heap.size, 0, none⟩ 1 1 [x0, x1, x2] (by decide) rfl (fun j u hu => by rw [add_plain]; exact (blk_cell (blk_drew (blk_new w1 (.cells #[x0, x1, x2] 45 (0, 0)))) j).trans (by simpa using hu)) HN2.out (by have := HL.out; simp only [maxLen]; omega) (by have := HL.out; omega)
    have HB3 := Aside0.mk (pw_below_grown HBX.out none hsz hg1 (by intro k hk; cases hk))
    have HO1 := Aside0.mk ho1
    have hsz3 := hg1.size
    obtain ⟨v2, w4, hr2, ho2, hg2⟩ := append_rest (P := Try.prog) (t := 22) (ty := 22) Try.underlying22 HT.out HT0.out HT1.out HT2.out rfl (by decide) HO.out HN1.out HB3.out k hkn ho1 hsz3 (by have := HL.out; simp only [maxLen]; omega) (by have := HL.out; omega)
    have HB4 := Aside0.mk (pw_below_grown HB3.out v1.ownBlock (Nat.le_trans hsz hsz3) hg2 (fun k hk => Nat.le_trans hsz (own_base ho1 k hk)))
    have HO2 := Aside0.mk (own_weaken ho2 hsz)
    clear ho1 hg1 ho2 hg2
    skip
    refine start_ (n := 12) (S := fun w' => w'.cell? ⟨w.heap.size, 0, none⟩ = some x0 ∧ w'.cell? ⟨w.heap.size, 1, none⟩ = some x1 ∧ w'.cell? ⟨w.heap.size, 2, none⟩ = some x2) (ds := [6, 10]) #[false, false, false, false, false, false, false, false, false, false, false, false] (by kernel_rfl) rfl rfl ⟨((blk_cell HK.out 0).trans rfl), ((blk_cell HK.out 1).trans rfl), ((blk_cell HK.out 2).trans rfl)⟩ (fun hHeld => ?_)
    refine pure_ (i := 0) (N := some 15) (v := ?_) (a' := ?_) #[true, false, false, false, false, false, false, false, false, false, false, false] rfl rfl (by kernel_rfl) (fun _ _ _ h => h) (Or.inl ⟨by rfl, ?_⟩) ?_ ?_
    rotate_left
    · intro w'
      go_simp
      with_reducible rfl
    rotate_left
    · simp only [Act.put, List.setIfInBounds_toArray, List.set_cons_zero, List.set_cons_succ, i64_w, i32_w]
      rfl
    refine pure_ (i := 1) (N := some 16) (v := ?_) (a' := ?_) #[true, true, false, false, false, false, false, false, false, false, false, false] rfl rfl (by kernel_rfl) (fun _ _ _ h => h) (Or.inl ⟨by rfl, ?_⟩) ?_ ?_
    rotate_left
    · intro w'
      go_simp
      with_reducible rfl
    rotate_left
    · simp only [Act.put, List.setIfInBounds_toArray, List.set_cons_zero, List.set_cons_succ, i64_w, i32_w]
      rfl
    refine pure_ (i := 2) (N := some 17) (v := ?_) (a' := ?_) #[true, true, true, false, false, false, false, false, false, false, false, false] rfl rfl (by kernel_rfl) (fun _ _ _ h => h) (Or.inl ⟨by rfl, ?_⟩) ?_ ?_
    rotate_left
    · intro w'
      go_simp
      with_reducible rfl
    rotate_left
    · simp only [Act.put, List.setIfInBounds_toArray, List.set_cons_zero, List.set_cons_succ, i64_w, i32_w]
      rfl
    refine pure_ (i := 3) (N := some 18) (v := ?_) (a' := ?_) #[true, true, true, true, false, false, false, false, false, false, false, false] rfl rfl (by kernel_rfl) (fun _ _ _ h => h) (Or.inl ⟨by rfl, ?_⟩) ?_ ?_
    rotate_left
    · intro w'
      go_simp
      with_reducible rfl
    rotate_left
    · simp only [Act.put, List.setIfInBounds_toArray, List.set_cons_zero, List.set_cons_succ, i64_w, i32_w]
      rfl
    refine pure_ (i := 7) (N := some 22) (v := ?_) (a' := ?_) #[true, true, true, true, false, false, false, true, false, false, false, false] rfl rfl (by kernel_rfl) (fun _ _ _ h => h) (Or.inl ⟨by rfl, ?_⟩) ?_ ?_
    rotate_left
    · intro w'
      go_simp
      with_reducible rfl
    rotate_left
    · simp only [Act.put, List.setIfInBounds_toArray, List.set_cons_zero, List.set_cons_succ, i64_w, i32_w]
      rfl
    refine pure_ (i := 8) (N := some 23) (v := ?_) (a' := ?_) #[true, true, true, true, false, false, false, true, true, false, false, false] rfl rfl (by kernel_rfl) (fun _ _ _ h => h) (Or.inl ⟨by rfl, ?_⟩) ?_ ?_
    rotate_left
    · intro w'
      go_simp
      with_reducible rfl
    rotate_left
    · simp only [Act.put, List.setIfInBounds_toArray, List.set_cons_zero, List.set_cons_succ, i64_w, i32_w]
      rfl
    refine pure_ (i := 9) (N := some 24) (v := ?_) (a' := ?_) #[true, true, true, true, false, false, false, true, true, true, false, false] rfl rfl (by kernel_rfl) (fun _ _ _ h => h) (Or.inl ⟨by rfl, ?_⟩) ?_ ?_
    rotate_left
    · intro w'
      go_simp
      with_reducible rfl
    rotate_left
    · simp only [Act.put, List.setIfInBounds_toArray, List.set_cons_zero, List.set_cons_succ, i64_w, i32_w]
      rfl
    refine take_ (i := 4) (N := some 19) (v := ?_) (a' := ?_) #[true, true, true, true, true, false, false, true, true, true, false, false] rfl rfl (by kernel_rfl) (fun _ _ _ h => h) (Or.inl ⟨by rfl, ?_⟩) hHeld ?_ ?_
    rotate_left
    · rintro w' ⟨s0, s1, s2⟩
      go_simp
      with_reducible rfl
    rotate_left
    · simp only [Act.put, List.setIfInBounds_toArray, List.set_cons_zero, List.set_cons_succ, i64_w, i32_w]
      rfl
    refine one_ (i := 5) (N := some 20) #[true, true, true, true, true, true, false, true, true, true, false, false] rfl rfl (by kernel_rfl) (by decide) (fun K hK => ?_)
    refine value_ (w1 := ?_) (v := ?_) (by rfl) rfl ?_ ?_
    rotate_left 2
    · go_simp
      constructor
      · rfl
      · rfl
    refine hK.out _ _ ⟨(pw_cell_below (below_alloc (Below.refl _ _) _) hHeld.1), (pw_cell_below (below_alloc (Below.refl _ _) _) hHeld.2.1), (pw_cell_below (below_alloc (Below.refl _ _) _) hHeld.2.2)⟩ (fun hHeld => ?_)
    clear hK K
    refine norm_ (a' := ?_) ?_ ?_
    rotate_left
    · show Act.put _ (some 20) _ = _
      simp only [Act.put, List.setIfInBounds_toArray, List.set_cons_zero, List.set_cons_succ, i64_w, i32_w]
      rfl
    refine last_ (i := 6) (N := some 21) #[true, true, true, true, true, true, true, true, true, true, false, false] rfl rfl (by kernel_rfl) (by decide) (fun K hK => ?_)
    refine value_ (w1 := w3) (v := v1) (by rfl) rfl (exec_append rfl rfl rfl hr1) ?_
    refine hK.out _ _ ?_
    clear hK K
    refine norm_ (a' := ?_) ?_ ?_
    rotate_left
    · show Act.put _ (some 21) _ = _
      simp only [Act.put, List.setIfInBounds_toArray, List.set_cons_zero, List.set_cons_succ, i64_w, i32_w]
      rfl
    refine last_ (i := 10) (N := some 25) #[true, true, true, true, true, true, true, true, true, true, true, false] rfl rfl (by kernel_rfl) (by decide) (fun K hK => ?_)
    refine value_ (w1 := w4) (v := v2) (by rfl) rfl (exec_append rfl rfl rfl hr2) ?_
    refine hK.out _ _ ?_
    clear hK K
    refine norm_ (a' := ?_) ?_ ?_
    rotate_left
    · show Act.put _ (some 25) _ = _
      simp only [Act.put, List.setIfInBounds_toArray, List.set_cons_zero, List.set_cons_succ, i64_w, i32_w]
      rfl
    refine pure_ (i := 11) (N := some 6) (v := ?_) (a' := ?_) #[true, true, true, true, true, true, true, true, true, true, true, true] rfl rfl (by kernel_rfl) (fun _ _ _ h => h) (Or.inl ⟨by rfl, ?_⟩) ?_ ?_
    rotate_left
    · intro w'
      go_simp
      with_reducible rfl
    rotate_left
    · simp only [Act.put, List.setIfInBounds_toArray, List.set_cons_zero, List.set_cons_succ, i64_w, i32_w]
      rfl
    refine done_ (by kernel_rfl) ?_
    go_wp2
    all_goals
      go_ret
      refine ⟨v2, rfl, ?_, HB4.out⟩
      have := HO2.out
      simp only [List.append_assoc, List.cons_append, List.nil_append] at this
      rwa [show k + 1 + (l0.length - k) = l0.length + 1 from by omega] at this

/-- A list with x at place k. -/
def insAt {α : Type} (l : List α) (k : Nat) (x : α) : List α := l.take k ++ x :: l.drop k
/-- Where x goes: ahead of the first that is above it, else behind all. -/
def placeOf (i : Int) (n : Nat) : Nat := if i < 0 then n else i.toNat
theorem placeOf_int (i : Int) (n : Nat) : (if i < 0 then (n : Int) else i) = ((placeOf i n : Nat) : Int) := by
  unfold placeOf
  split <;> omega
theorem placeOf_le {α : Type} (p : α → Bool) (l : List α) : placeOf (idxOf p l 0) l.length ≤ l.length := by
  have := idxOf_lt p l 0
  unfold placeOf
  split <;> omega
theorem insAt_length {α : Type} (l : List α) (k : Nat) (x : α) (hk : k ≤ l.length) : (insAt l k x).length = l.length + 1 := by
  simp only [insAt, List.length_append, List.length_take, List.length_cons, List.length_drop]
  omega
theorem insAt_get {α : Type} (l : List α) (k : Nat) (x : α) (hk : k ≤ l.length) (j : Nat) : (insAt l k x)[j]? = if j < k then l[j]? else if j = k then some x else l[j - 1]? := by
  unfold insAt
  have hl : (l.take k).length = k := by rw [List.length_take]; omega
  by_cases h1 : j < k
  · rw [if_pos h1, List.getElem?_append_left (by omega), List.getElem?_take, if_pos h1]
  · rw [if_neg h1, List.getElem?_append_right (by omega), hl]
    by_cases h2 : j = k
    · rw [if_pos h2, h2, Nat.sub_self]
      rfl
    · rw [if_neg h2]
      obtain ⟨q, hq⟩ : ∃ q, j - k = q + 1 := ⟨j - k - 1, by omega⟩
      rw [hq, List.getElem?_cons_succ, List.getElem?_drop]
      congr 1
      omega
theorem seg_ins_lt {α : Type} {xs ys : List α} {j k sz : Nat} (h : j < k) (hl : k * sz ≤ xs.length) : ((xs.take (k * sz) ++ ys).drop (j * sz)).take sz = (xs.drop (j * sz)).take sz := by
  have hm := Nat.mul_le_mul_right sz (show j + 1 ≤ k from h)
  rw [Nat.succ_mul] at hm
  apply List.ext_getElem?
  intro q
  rw [List.getElem?_take, List.getElem?_take, List.getElem?_drop, List.getElem?_drop]
  by_cases hq : q < sz
  · rw [if_pos hq, if_pos hq, List.getElem?_append_left (by rw [List.length_take]; omega), List.getElem?_take, if_pos (by omega)]
  · rw [if_neg hq, if_neg hq]
theorem seg_ins_eq {α : Type} {xs cs ys : List α} {k sz : Nat} (hc : cs.length = sz) (hl : k * sz ≤ xs.length) : ((xs.take (k * sz) ++ (cs ++ ys)).drop (k * sz)).take sz = cs := by
  rw [List.drop_append_of_le_length (by rw [List.length_take]; omega), List.drop_eq_nil_of_le (by rw [List.length_take]; omega), List.nil_append, List.take_append_of_le_length (by omega), List.take_of_length_le (by omega)]
theorem seg_ins_gt {α : Type} {xs cs : List α} {j k sz : Nat} (hc : cs.length = sz) (h : k < j) (hl : k * sz ≤ xs.length) : ((xs.take (k * sz) ++ (cs ++ xs.drop (k * sz))).drop (j * sz)).take sz = (xs.drop ((j - 1) * sz)).take sz := by
  obtain ⟨q, rfl⟩ : ∃ q, j = k + 1 + q := ⟨j - (k + 1), by omega⟩
  have e1 : (k + 1 + q) * sz = k * sz + sz + q * sz := by rw [Nat.add_mul, Nat.add_mul, Nat.one_mul]
  have e2 : (k + 1 + q - 1) * sz = k * sz + q * sz := by rw [show k + 1 + q - 1 = k + q from by omega, Nat.add_mul]
  have hL : (xs.take (k * sz)).length = k * sz := by rw [List.length_take]; omega
  rw [e1, e2]
  congr 1
  apply List.ext_getElem?
  intro p
  rw [List.getElem?_drop, List.getElem?_drop, List.getElem?_append_right (by omega), hL, List.getElem?_append_right (by omega), List.getElem?_drop]
  congr 1
  omega
/-- Members with one more, that has no accounts. -/
theorem S_insert {w w' : World} {base : Nat} {v v' : Value} {l : List S45} {inner : List Value} {f : Nat → Nat} {k : Nat} {x : S45} {x2 : Value} (hk : k ≤ l.length)
    (ho : w.ownsRow base 45 3 v l.length inner)
    (hr : ∀ j p, l[j]? = some p → k45.M w base (fun b => (True ∧ some b ≠ v.ownBlock) ∧ f b = j) p ((inner.drop (j * 3)).take 3))
    (hx : k45.M w' base (fun _ => False) x [.string x.f0, .int .i64 x.f1, x2])
    (ho' : w'.ownsRow w.heap.size 45 3 v' (l.length + 1) (inner.take (k * 3) ++ (.string x.f0 :: .int .i64 x.f1 :: x2 :: inner.drop (k * 3)))) (hb : Below w.heap.size w w') (hbase : base ≤ w.heap.size) :
    Kd.S k45 45 w' base (fun _ => True) v' (insAt l k x) := by
  have hlen := ho.1
  have hks : k * 3 ≤ inner.length := by omega
  have hge : ∀ b, v'.ownBlock = some b → w.heap.size ≤ b := own_base ho'
  refine ⟨fun b => if f b < k then f b else f b + 1, fun _ _ => trivial, _, by rw [List.length_zipIdx, insAt_length l k x hk]; exact own_weaken ho' hbase, ?_⟩
  have hlen' := ho'.1
  refine ⟨by rw [List.length_zipIdx, insAt_length l k x hk]; exact hlen', fun j p hj => ?_⟩
  rw [List.getElem?_zipIdx, insAt_get l k x hk] at hj
  obtain ⟨q, hq, rfl⟩ := Option.map_eq_some_iff.1 hj
  simp only [Nat.zero_add]
  show k45.M w' base (fun b => (True ∧ some b ≠ v'.ownBlock) ∧ (if f b < k then f b else f b + 1) = j) q _
  have mover : ∀ i, l[i]? = some q → (∀ b, f b = i → (if f b < k then f b else f b + 1) = j) → k45.M w' base (fun b => (True ∧ some b ≠ v'.ownBlock) ∧ (if f b < k then f b else f b + 1) = j) q ((inner.drop (i * 3)).take 3) := by
    intro i hi hf
    refine k45.M_mono (fun b hb' => ?_) (Kd.M_below (k45.M_bound (hr i q hi)) hb)
    refine ⟨⟨trivial, fun he => ?_⟩, hf b hb'.1.2⟩
    have := hge b he.symm
    omega
  by_cases h1 : j < k
  · rw [if_pos h1] at hq
    have e : ((inner.take (k * 3) ++ (.string x.f0 :: .int .i64 x.f1 :: x2 :: inner.drop (k * 3))).drop (j * 3)).take 3 = (inner.drop (j * 3)).take 3 := seg_ins_lt h1 hks
    show k45.M w' base _ q (List.take 3 (List.drop (j * 3) _))
    rw [e]
    exact mover j hq (fun b hb' => by rw [if_pos (by omega)]; exact hb')
  · rw [if_neg h1] at hq
    by_cases h2 : j = k
    · rw [if_pos h2] at hq
      obtain rfl := Option.some.inj hq
      have e : ((inner.take (k * 3) ++ ([.string x.f0, .int .i64 x.f1, x2] ++ inner.drop (k * 3))).drop (k * 3)).take 3 = [.string x.f0, .int .i64 x.f1, x2] := seg_ins_eq rfl hks
      show k45.M w' base _ x (List.take 3 (List.drop (j * 3) _))
      rw [h2]
      have e' : List.take 3 (List.drop (k * 3) (inner.take (k * 3) ++ (.string x.f0 :: .int .i64 x.f1 :: x2 :: inner.drop (k * 3)))) = [.string x.f0, .int .i64 x.f1, x2] := e
      rw [e']
      exact k45.M_mono (fun _ h => h.elim) hx
    · rw [if_neg h2] at hq
      have e : ((inner.take (k * 3) ++ ([.string x.f0, .int .i64 x.f1, x2] ++ inner.drop (k * 3))).drop (j * 3)).take 3 = (inner.drop ((j - 1) * 3)).take 3 := seg_ins_gt rfl (by omega) hks
      show k45.M w' base _ q (List.take 3 (List.drop (j * 3) _))
      have e' : List.take 3 (List.drop (j * 3) (inner.take (k * 3) ++ (.string x.f0 :: .int .i64 x.f1 :: x2 :: inner.drop (k * 3)))) = (inner.drop ((j - 1) * 3)).take 3 := e
      rw [e']
      exact mover (j - 1) hq (fun b hb' => by rw [if_neg (by omega)]; omega)

/-- A further member. -/
def member_Add.f (l0 : List S45) (a1 : ByteArray) : Option (List S45 × Int) :=
  (member_Check.f l0).bind fun e => if e = 0 then (if nameB a1 = true then (if 0 ≤ member_at.go a1 l0 0 then some ([], 12) else if l0.length = 32 then some ([], 8)
    else (member_own.f l0).bind fun o => some (insAt o (placeOf (idxOf (fun m : S45 => Op.bytesLess a1.toList m.f0.toList) o 0) o.length) ⟨a1, 1, []⟩, 0)) else some ([], 10)) else some ([], e)
theorem member_Add.pred (a1 : ByteArray) (w : World) (b : Nat) (hb : w.heap[b]? = some (.cells #[.string a1] 9 (0, 0))) :
    PredK Try.prog k45 39 #[.pointer (some ⟨b, 0, none⟩)] (fun m : S45 => Op.bytesLess a1.toList m.f0.toList) w := by
  intro W x cs hW hK
  obtain ⟨A2, c2, rfl, hl2, hC2⟩ := k45_open hK
  have hb' := blk_below hb hW
  have h0 : W.cell? ⟨b, 0, none⟩ = some (.string a1) := (blk_cell hb' 0).trans rfl
  have hlt := blk_lt hb'
  clear hb hb' hK hC2
  go_enter Try.func39, Try.ntmps39
  go_wp2
  go_ret
  exact ⟨rfl, (Below.refl _ _).alloc (Nat.le_refl _) _⟩
set_option maxHeartbeats 2000000 in
set_option maxRecDepth 100000 in
theorem member_Add.calls (A0 : Option Addr) (c0 : Nat) (l0 : List (S45)) (a1 : ByteArray) (r1 : List (S45)) (r2 : Int) (w : World) (hr0 : Kd.C k45 w A0 l0.length l0) (hc0 : l0.length ≤ c0) (h : member_Add.f l0 a1 = some (r1, r2)) :
    Calls Try.prog 11 #[.slice A0 l0.length c0, .string a1] w fun e w' => ∃ v0_ : Value, e = .returned (.tuple #[v0_, .int .i64 r2]) ∧ Kd.S k45 45 w' w.heap.size (fun _ => True) v0_ r1 ∧ Below w.heap.size w w' := by
  obtain ⟨ec, hE, h⟩ := Option.bind_eq_some_iff.mp h
  have HR0 := Aside0.mk hr0
  have HC0 := Aside0.mk hc0
  have HE := Aside0.mk hE
  have HB := Aside0.mk (below_alloc (Below.refl w.heap.size w) (.cells #[.string a1] 9 (0, 0)))
  have HK := Aside0.mk (blk_new w (.cells #[.string a1] 9 (0, 0)))
  have hn32 : l0.length ≤ 9223372036854775807 := hr0.2.1
  have HNM := Aside0.mk (words_Name_some a1)
  have hle32 : ec = 0 → l0.length ≤ 32 := by
    intro h0
    have h1 := Option.some.inj hE
    by_cases h2 : 32 < l0.length
    · rw [if_pos h2, h0] at h1
      exact absurd h1 (by decide)
    · omega
  clear hr0 hc0 hE
  by_cases he : ec = 0
  · have he1 : (ec != 0) = false := bne_eq_false_iff_eq.mpr he
    rw [if_pos he] at h
    replace hle32 := hle32 he
    clear he
    cases hnb : nameB a1 with
    | false =>
      rw [hnb] at HNM
      rw [if_neg (by rw [hnb]; decide)] at h
      simp only [Option.some.injEq, Prod.mk.injEq] at h
      obtain ⟨rfl, rfl⟩ := h
      clear hnb
      go_enter Try.func11, Try.ntmps11
      go_wp2_with (first | (go_at_call 8; refine (member_Check.calls A0 c0 l0 ec _ (Kd.C_below HR0.out HB.out) HC0.out HE.out).mono ?_; rintro _ w1 ⟨rfl, hb⟩; have HB2 := Aside0.mk (below_step HB.out hb); have HK2 := Aside0.mk (blk_below HK.out hb); clear HB HK hb; have HB := HB2; have HK := HK2; clear HB2 HK2; have hlt := blk_lt HK.out; have hbx : World.cell? _ ⟨w.heap.size, 0, none⟩ = some (.string a1) := (blk_cell HK.out 0).trans rfl) | (go_at_call 35; refine (words_Name.calls 20 a1 _ _ HNM.out).mono ?_; rintro _ w2 ⟨rfl, hb⟩; (clear hlt hbx); have HB2 := Aside0.mk (below_step HB.out hb.below); have HK2 := Aside0.mk (blk_below HK.out hb.below); clear HB HK hb; have HB := HB2; have HK := HK2; clear HB2 HK2; have hlt := blk_lt HK.out; have hbx : World.cell? _ ⟨w.heap.size, 0, none⟩ = some (.string a1) := (blk_cell HK.out 0).trans rfl))
      go_ret2
      exact ⟨_, rfl, Kd.S_nil _ _ _ _ _, HB.out⟩
    | true =>
      rw [hnb] at HNM
      rw [if_pos hnb] at h
      clear hnb
      have HAT : Aside0 (member_at.f l0 a1 = some (member_at.go a1 l0 0)) := ⟨rfl⟩
      generalize member_at.go a1 l0 0 = ia at h HAT
      by_cases hia : 0 ≤ ia
      · have hia1 : decide (0 ≤ ia) = true := decide_eq_true hia
        rw [if_pos hia] at h
        simp only [Option.some.injEq, Prod.mk.injEq] at h
        obtain ⟨rfl, rfl⟩ := h
        go_enter Try.func11, Try.ntmps11
        go_wp2_with (first | (go_at_call 8; refine (member_Check.calls A0 c0 l0 ec _ (Kd.C_below HR0.out HB.out) HC0.out HE.out).mono ?_; rintro _ w1 ⟨rfl, hb⟩; have HB2 := Aside0.mk (below_step HB.out hb); have HK2 := Aside0.mk (blk_below HK.out hb); clear HB HK hb; have HB := HB2; have HK := HK2; clear HB2 HK2; have hlt := blk_lt HK.out; have hbx : World.cell? _ ⟨w.heap.size, 0, none⟩ = some (.string a1) := (blk_cell HK.out 0).trans rfl) | (go_at_call 35; refine (words_Name.calls 20 a1 _ _ HNM.out).mono ?_; rintro _ w2 ⟨rfl, hb⟩; (clear hlt hbx); have HB2 := Aside0.mk (below_step HB.out hb.below); have HK2 := Aside0.mk (blk_below HK.out hb.below); clear HB HK hb; have HB := HB2; have HK := HK2; clear HB2 HK2; have hlt := blk_lt HK.out; have hbx : World.cell? _ ⟨w.heap.size, 0, none⟩ = some (.string a1) := (blk_cell HK.out 0).trans rfl) | (go_at_call 36; refine (member_at.calls A0 c0 l0 a1 ia _ (Kd.C_below HR0.out HB.out) HC0.out HAT.out).mono ?_; rintro _ w3 ⟨rfl, hb⟩; (clear hlt hbx); have HB2 := Aside0.mk (below_step HB.out hb); have HK2 := Aside0.mk (blk_below HK.out hb); clear HB HK hb; have HB := HB2; have HK := HK2; clear HB2 HK2; have hlt := blk_lt HK.out; have hbx : World.cell? _ ⟨w.heap.size, 0, none⟩ = some (.string a1) := (blk_cell HK.out 0).trans rfl))
        go_ret2
        exact ⟨_, rfl, Kd.S_nil _ _ _ _ _, HB.out⟩
      · have hia1 : decide (0 ≤ ia) = false := decide_eq_false hia
        rw [if_neg hia] at h
        by_cases h32 : l0.length = 32
        · have h321 : ((l0.length : Int) == 32) = true := beq_iff_eq.mpr (by omega)
          rw [if_pos h32] at h
          clear h32
          simp only [Option.some.injEq, Prod.mk.injEq] at h
          obtain ⟨rfl, rfl⟩ := h
          go_enter Try.func11, Try.ntmps11
          go_wp2_with (first | (go_at_call 8; refine (member_Check.calls A0 c0 l0 ec _ (Kd.C_below HR0.out HB.out) HC0.out HE.out).mono ?_; rintro _ w1 ⟨rfl, hb⟩; have HB2 := Aside0.mk (below_step HB.out hb); have HK2 := Aside0.mk (blk_below HK.out hb); clear HB HK hb; have HB := HB2; have HK := HK2; clear HB2 HK2; have hlt := blk_lt HK.out; have hbx : World.cell? _ ⟨w.heap.size, 0, none⟩ = some (.string a1) := (blk_cell HK.out 0).trans rfl) | (go_at_call 35; refine (words_Name.calls 20 a1 _ _ HNM.out).mono ?_; rintro _ w2 ⟨rfl, hb⟩; (clear hlt hbx); have HB2 := Aside0.mk (below_step HB.out hb.below); have HK2 := Aside0.mk (blk_below HK.out hb.below); clear HB HK hb; have HB := HB2; have HK := HK2; clear HB2 HK2; have hlt := blk_lt HK.out; have hbx : World.cell? _ ⟨w.heap.size, 0, none⟩ = some (.string a1) := (blk_cell HK.out 0).trans rfl) | (go_at_call 36; refine (member_at.calls A0 c0 l0 a1 ia _ (Kd.C_below HR0.out HB.out) HC0.out HAT.out).mono ?_; rintro _ w3 ⟨rfl, hb⟩; (clear hlt hbx); have HB2 := Aside0.mk (below_step HB.out hb); have HK2 := Aside0.mk (blk_below HK.out hb); clear HB HK hb; have HB := HB2; have HK := HK2; clear HB2 HK2; have hlt := blk_lt HK.out; have hbx : World.cell? _ ⟨w.heap.size, 0, none⟩ = some (.string a1) := (blk_cell HK.out 0).trans rfl))
          go_ret2
          exact ⟨_, rfl, Kd.S_nil _ _ _ _ _, HB.out⟩
        · have h321 : ((l0.length : Int) == 32) = false := beq_eq_false_iff_ne.mpr (by omega)
          rw [if_neg h32] at h
          clear h32
          obtain ⟨o, hO, h⟩ := Option.bind_eq_some_iff.mp h
          simp only [Option.some.injEq, Prod.mk.injEq] at h
          obtain ⟨rfl, rfl⟩ := h
          have HOW := Aside0.mk hO
          have hol : l0 = o ∧ l0.length * 48 ≤ 140737488355328 := by
            unfold member_own.f at hO
            split at hO
            · rename_i hq
              exact ⟨Option.some.inj hO, hq.1⟩
            · cases hO
          obtain ⟨rfl, hob⟩ := hol
          clear hO
          go_enter Try.func11, Try.ntmps11
          go_wp2_with (first | (go_at_call 8; refine (member_Check.calls A0 c0 l0 ec _ (Kd.C_below HR0.out HB.out) HC0.out HE.out).mono ?_; rintro _ w1 ⟨rfl, hb⟩; have HB2 := Aside0.mk (below_step HB.out hb); have HK2 := Aside0.mk (blk_below HK.out hb); clear HB HK hb; have HB := HB2; have HK := HK2; clear HB2 HK2; have hlt := blk_lt HK.out; have hbx : World.cell? _ ⟨w.heap.size, 0, none⟩ = some (.string a1) := (blk_cell HK.out 0).trans rfl) | (go_at_call 35; refine (words_Name.calls 20 a1 _ _ HNM.out).mono ?_; rintro _ w2 ⟨rfl, hb⟩; (clear hlt hbx); have HB2 := Aside0.mk (below_step HB.out hb.below); have HK2 := Aside0.mk (blk_below HK.out hb.below); clear HB HK hb; have HB := HB2; have HK := HK2; clear HB2 HK2; have hlt := blk_lt HK.out; have hbx : World.cell? _ ⟨w.heap.size, 0, none⟩ = some (.string a1) := (blk_cell HK.out 0).trans rfl) | (go_at_call 36; refine (member_at.calls A0 c0 l0 a1 ia _ (Kd.C_below HR0.out HB.out) HC0.out HAT.out).mono ?_; rintro _ w3 ⟨rfl, hb⟩; (clear hlt hbx); have HB2 := Aside0.mk (below_step HB.out hb); have HK2 := Aside0.mk (blk_below HK.out hb); clear HB HK hb; have HB := HB2; have HK := HK2; clear HB2 HK2; have hlt := blk_lt HK.out; have hbx : World.cell? _ ⟨w.heap.size, 0, none⟩ = some (.string a1) := (blk_cell HK.out 0).trans rfl))
          have hpl := placeOf_le (fun m : S45 => Op.bytesLess a1.toList m.f0.toList) l0
          generalize hkq : placeOf (idxOf (fun m : S45 => Op.bytesLess a1.toList m.f0.toList) l0 0) l0.length = kq at hpl
          have HKQ := Aside0.mk hkq
          have HOB := Aside0.mk (show (l0.length + 1) * 48 ≤ 140737488355328 by omega)
          clear hkq hob
          have eg : ∀ args w, (callFunc 39 args).run Try.prog w = .ok (.enter 39 args) w := enters_of Try.func39 (by kernel_rfl) rfl
          refine start_ (n := 8) (S := fun w' => w'.cell? ⟨w.heap.size, 0, none⟩ = some (.string a1)) (ds := [5]) #[false, false, false, false, false, false, false, false] (by kernel_rfl) rfl rfl (((blk_cell HK.out 0).trans rfl)) (fun hHeld => ?_)
          refine pure_ (i := 0) (N := some 24) (v := ?_) (a' := ?_) #[true, false, false, false, false, false, false, false] rfl rfl (by kernel_rfl) (fun _ _ _ h => h) (Or.inl ⟨by rfl, ?_⟩) ?_ ?_
          rotate_left
          · intro w'
            go_simp
            with_reducible rfl
          rotate_left
          · simp only [Act.put, List.setIfInBounds_toArray, List.set_cons_zero, List.set_cons_succ, i64_w, i32_w]
            rfl
          refine pure_ (i := 4) (N := some 28) (v := ?_) (a' := ?_) #[true, false, false, false, true, false, false, false] rfl rfl (by kernel_rfl) (fun _ _ _ h => h) (Or.inl ⟨by rfl, ?_⟩) ?_ ?_
          rotate_left
          · intro w'
            go_simp
            with_reducible rfl
          rotate_left
          · simp only [Act.put, List.setIfInBounds_toArray, List.set_cons_zero, List.set_cons_succ, i64_w, i32_w]
            rfl
          refine take_ (i := 2) (N := some 26) (v := ?_) (a' := ?_) #[true, false, true, false, true, false, false, false] rfl rfl (by kernel_rfl) (fun _ _ _ h => h) (Or.inl ⟨by rfl, ?_⟩) hHeld ?_ ?_
          rotate_left
          · intro w' s0
            go_simp
            with_reducible rfl
          rotate_left
          · simp only [Act.put, List.setIfInBounds_toArray, List.set_cons_zero, List.set_cons_succ, i64_w, i32_w]
            rfl
          refine pure_ (i := 3) (N := some 27) (v := ?_) (a' := ?_) #[true, false, true, true, true, false, false, false] rfl rfl (by kernel_rfl) (fun _ _ _ h => h) (Or.inl ⟨by rfl, ?_⟩) ?_ ?_
          rotate_left
          · intro w'
            go_simp
            with_reducible rfl
          rotate_left
          · simp only [Act.put, List.setIfInBounds_toArray, List.set_cons_zero, List.set_cons_succ, i64_w, i32_w]
            rfl
          refine one_ (i := 1) (N := some 25) #[true, true, true, true, true, false, false, false] rfl rfl (by kernel_rfl) (by decide) (fun K hK => ?_)
          refine goes_ Try.func38 (by kernel_rfl) rfl #[.slice A0 l0.length c0] (by rfl) rfl rfl (by simp only [List.map_toArray, List.map_cons, List.map_nil]; rfl) ?_
          with_reducible refine (member_own.calls A0 c0 l0 l0 _ (Kd.C_below HR0.out (below_drew HB.out)) HC0.out HOW.out).mono ?_
          rintro e w5 ⟨v1, rfl, hs, hb⟩
          refine ⟨_, rfl, ?_⟩
          have hb5 := hb.size
          have HBO := Aside0.mk (below_step (below_drew HB.out) hb)
          have HKO := Aside0.mk (blk_below (blk_drew HK.out) hb)
          obtain ⟨A1, c1, rfl⟩ := Kd.R_slice (Kd.S_R hs)
          have HC1 := Aside0.mk (Kd.R_reads' (Kd.S_R hs)).2.2
          obtain ⟨f1, _, inner, ho, hrep⟩ := hs
          rw [List.length_zipIdx] at ho
          have HO1 := Aside0.mk ho
          have HREP := Aside0.mk hrep
          have HONE := Aside0.mk (Kd.reps_one hrep (show 0 < (Kd.tag f1 k45).sz from (by decide : 0 < k45.sz)) (fun p c hp => (Kd.tag f1 k45).K_one ((Kd.tag f1 k45).K_of_M hp)))
          clear ho hrep hb
          refine hK.out _ _ (((blk_cell HKO.out 0).trans rfl)) (fun hHeld => ?_)
          clear hK K
          refine norm_ (a' := ?_) ?_ ?_
          rotate_left
          · show Act.put _ (some 25) _ = _
            simp only [Act.put, List.setIfInBounds_toArray, List.set_cons_zero, List.set_cons_succ, i64_w, i32_w]
            rfl
          refine last_ (i := 5) (N := some 29) #[true, true, true, true, true, true, false, false] rfl rfl (by kernel_rfl) (by decide) (fun K hK => ?_)
          refine goes_ Try.func37 (by kernel_rfl) rfl #[.slice A1 l0.length c1, .agg #[.string a1, .int .i64 1, .slice none 0 0], .func (.func 39) #[] #[.pointer (some ⟨w.heap.size, 0, none⟩)]] (by rfl) rfl rfl (by simp only [List.map_toArray, List.map_cons, List.map_nil]; rfl) ?_
          with_reducible refine (Into_api_Member.calls (fun m : S45 => Op.bytesLess a1.toList m.f0.toList) 39 _ eg A1 c1 l0 inner (.string a1) (.int .i64 1) (.slice none 0 0) _ _ kq (member_Add.pred a1 _ _ HKO.out) HC1.out HO1.out HONE.out (by intro u hu; simp only [List.mem_cons, List.not_mem_nil, or_false] at hu; rcases hu with rfl | rfl | rfl <;> simp [Value.oneCell']) (by rw [placeOf_int, HKQ.out]) HOB.out).mono ?_
          rintro e w6 ⟨v2, rfl, ho2, hb2⟩
          refine ⟨_, rfl, ?_⟩
          have HO2 := Aside0.mk ho2
          have HB2 := Aside0.mk hb2
          clear ho2 hb2
          refine hK.out _ _ ?_
          clear hK K
          refine norm_ (a' := ?_) ?_ ?_
          rotate_left
          · show Act.put _ (some 29) _ = _
            simp only [Act.put, List.setIfInBounds_toArray, List.set_cons_zero, List.set_cons_succ, i64_w, i32_w]
            rfl
          refine pure_ (i := 6) (N := some 4) (v := ?_) (a' := ?_) #[true, true, true, true, true, true, true, false] rfl rfl (by kernel_rfl) (fun _ _ _ h => h) (Or.inl ⟨by rfl, ?_⟩) ?_ ?_
          rotate_left
          · intro w'
            go_simp
            with_reducible rfl
          rotate_left
          · simp only [Act.put, List.setIfInBounds_toArray, List.set_cons_zero, List.set_cons_succ, i64_w, i32_w]
            rfl
          refine pure_ (i := 7) (N := some 5) (v := ?_) (a' := ?_) #[true, true, true, true, true, true, true, true] rfl rfl (by kernel_rfl) (fun _ _ _ h => h) (Or.inl ⟨by rfl, ?_⟩) ?_ ?_
          rotate_left
          · intro w'
            go_simp
            with_reducible rfl
          rotate_left
          · simp only [Act.put, List.setIfInBounds_toArray, List.set_cons_zero, List.set_cons_succ, i64_w, i32_w]
            rfl
          refine done_ (by kernel_rfl) ?_
          go_wp2
          go_ret2
          refine ⟨_, rfl, ?_, below_step HBO.out HB2.out⟩
          rw [HKQ.out]
          have hbase := HB.out.size
          refine Kd.S_lower (S_insert (x := ⟨a1, 1, []⟩) hpl HO1.out (fun j p hj => HREP.out.2 j (p, j) (Kd.zip_at hj)) ?_ HO2.out HB2.out ?_) ?_
          · exact k45_mkM _ _ _ _ (Kd.R_nil _ _ _ _ _)
          · exact hb5
          · exact hbase
  · have he1 : (ec != 0) = true := bne_iff_ne.mpr he
    clear hle32
    rw [if_neg he] at h
    simp only [Option.some.injEq, Prod.mk.injEq] at h
    obtain ⟨rfl, rfl⟩ := h
    clear he
    go_enter Try.func11, Try.ntmps11
    go_wp2_with (go_at_call 8; refine (member_Check.calls A0 c0 l0 ec _ (Kd.C_below HR0.out HB.out) HC0.out HE.out).mono ?_; rintro _ w1 ⟨rfl, hb⟩; have HB2 := Aside0.mk (below_step HB.out hb); have HK2 := Aside0.mk (blk_below HK.out hb); clear HB HK hb; have HB := HB2; have HK := HK2; clear HB2 HK2; have hlt := blk_lt HK.out; have hbx : World.cell? _ ⟨w.heap.size, 0, none⟩ = some (.string a1) := (blk_cell HK.out 0).trans rfl)
    go_ret2
    exact ⟨_, rfl, Kd.S_nil _ _ _ _ _, HB.out⟩

/-! ### member_Find: function 18 -/
def member_Find.f (l0 : List (S45)) (a1 : ByteArray) : Option (ByteArray × Int × (List (S53)) × Bool) := (member_at.f l0 a1).bind fun t105 => (if t105 < 0 then (some ((⟨#[]⟩ : ByteArray), 0, ([] : List (S53)), false)) else (if 0 ≤ t105 then (if t105 < (l0.length : Int) then ((api_Account.f ((rd_T45 l0 t105).f2)).bind fun t107 => (some ((rd_T45 l0 t105).f0, (rd_T45 l0 t105).f1, t107, true))) else (none)) else (none)))
set_option maxHeartbeats 8000000 in
set_option maxRecDepth 100000 in
theorem member_Find.calls (A0 : Option Addr) (c0 : Nat) (l0 : List (S45)) (a1 : ByteArray) (r1 : ByteArray) (r2 : Int) (r3 : List (S53)) (r4 : Bool) (w : World) (hr0 : Kd.C k45 w A0 l0.length l0) (hc0 : l0.length ≤ c0) (h : member_Find.f l0 a1 = some (r1, r2, r3, r4)) :
    Calls Try.prog 18 #[.slice A0 l0.length c0, .string a1] w fun e w' => ∃ v2_ : Value, e = .returned (.tuple #[.agg #[.string r1, .int .i64 r2, v2_], .bool r4]) ∧ Kd.R k53 53 w' w.heap.size (fun _ => True) v2_ r3 ∧ Below w.heap.size w w' := by
  have hu45 := Try.underlying45
  have HR0 := Aside0.mk hr0
  have HC0 := Aside0.mk hc0
  clear hr0 hc0
  have HB := Aside0.mk (Below.refl w.heap.size w)
  have H : ((member_at.f l0 a1).bind fun t105 => (if t105 < 0 then (some ((⟨#[]⟩ : ByteArray), 0, ([] : List (S53)), false)) else (if 0 ≤ t105 then (if t105 < (l0.length : Int) then ((api_Account.f ((rd_T45 l0 t105).f2)).bind fun t107 => (some ((rd_T45 l0 t105).f0, (rd_T45 l0 t105).f1, t107, true))) else (none)) else (none)))) = some (r1, r2, r3, r4) := h
  clear h
  replace H := Option.bind_eq_some_iff.mp H
  obtain ⟨t105, A30, H⟩ := H
  replace H : (if t105 < 0 then (some ((⟨#[]⟩ : ByteArray), 0, ([] : List (S53)), false)) else (if 0 ≤ t105 then (if t105 < (l0.length : Int) then ((api_Account.f ((rd_T45 l0 t105).f2)).bind fun t107 => (some ((rd_T45 l0 t105).f0, (rd_T45 l0 t105).f1, t107, true))) else (none)) else (none))) = some (r1, r2, r3, r4) := H
  have A3 := Aside0.mk A30
  clear A30
  by_cases c4 : t105 < 0
  · rw [if_pos c4] at H
    have c4b0 : decide (t105 < 0) = true := decide_eq_true c4
    clear c4
    simp only [Option.some.injEq, Prod.mk.injEq] at H
    obtain ⟨rfl, rfl, rfl, rfl⟩ := H
    go_enter Try.func18, Try.ntmps18
    go_wp2_with (first | ((with_reducible refine gate_dst (N := 4) rfl ?_); refine box_event ?hg (N := 4) ?hd (cs := #[.string (⟨#[]⟩ : ByteArray), .int .i64 0, .slice none 0 0]) (t := 45) ?hr ?_; (case hd => rfl); (case hg => rfl); (case hr => first | (go_simp; done) | (go_simp; rfl)); intro gb104 hg w5 hbox hb; have n0_ := Aside0.mk (below_step (by repeat (first | (with_reducible first | exact HB.out | apply below_alloc | apply pw_below_drewN | apply below_drew1) | exact HB.out)) hb); have n1_ := Aside0.mk (hbox); have n2_ := Aside0.mk ((by rw [hg]; exact (below_size (by repeat (first | (with_reducible first | exact HB.out | apply below_alloc | apply pw_below_drewN | apply below_drew1) | exact HB.out))) : w.heap.size ≤ gb104)); have n3_ := Aside0.mk ((by rw [hg]; exact (below_size (by repeat (first | (with_reducible first | exact HB.out | apply below_alloc | apply pw_below_drewN | apply below_drew1) | exact HB.out))) : w.heap.size ≤ gb104)); clear HB; have HB := n0_; have BK104 := n1_; have GW104 := n2_; have GE104 := n3_; clear n0_ n1_ n2_ n3_; clear hb hbox hg) | ((with_reducible refine gate_callee (f := 36) rfl ?_); refine goesL_ (some 9) rfl rfl Try.func36 (by kernel_rfl) rfl #[.slice A0 l0.length c0, .string a1] rfl (by (try simp only [List.map_toArray, List.map_cons, List.map_nil]); first | done | rfl | (simp only [List.length_drop, List.length_take]; rfl)) ?_; (with_reducible refine (member_at.calls _ _ l0 a1 t105 _ ?side1 ?side2 A3.out).mono ?_); (case side1 => repeat (first | exact (Kd.C_below HR0.out HB.out) | (with_reducible refine Kd.C_alloc ?_ _) | (with_reducible refine Kd.C_drewN ?_ _) | (with_reducible refine Kd.C_drew ?_))); (case side2 => exact HC0.out); rintro e w6 ⟨rfl, hb⟩; refine ⟨_, rfl, ?_⟩; have n0_ := Aside0.mk (blk_below (g := gb104) (o := .cells #[.string (⟨#[]⟩ : ByteArray), .int .i64 0, .slice none 0 0] 45 (0, 0)) (by (with_reducible repeat (first | refine blk_drewN ?_ _ | refine blk_drew ?_ | refine blk_alloc ?_ _)); exact BK104.out) hb); have n1_ := Aside0.mk (below_step (by repeat (first | (with_reducible first | exact HB.out | apply below_alloc | apply pw_below_drewN | apply below_drew1 | refine below_set ?_ GE104.out) | exact HB.out)) hb); clear BK104; clear HB; have BK104 := n0_; have HB := n1_; clear n0_ n1_; (try clear hb); (try clear hb2); (try clear hk); (try clear hi); have hcz7_0 : w6.cell? ⟨gb104, 0, none⟩ = some (.string (⟨#[]⟩ : ByteArray)) := (blk_cell BK104.out 0).trans rfl; have hcz7_1 : w6.cell? ⟨gb104, 1, none⟩ = some (.int .i64 0) := (blk_cell BK104.out 1).trans rfl; have hcz7_2 : w6.cell? ⟨gb104, 2, none⟩ = some (.slice none 0 0) := (blk_cell BK104.out 2).trans rfl; have hfz7_0 := blk_frozen BK104.out 0; have hfz7_1 := blk_frozen BK104.out 1; have hfz7_2 := blk_frozen BK104.out 2))
    refine bodyPost_ret (results_ct rfl _ _ gb104 45 #[.string (⟨#[]⟩ : ByteArray), .int .i64 0, .slice none 0 0] (0, 0) _ rfl (by (with_reducible repeat (first | refine blk_drewN ?_ _ | refine blk_drew ?_ | refine blk_alloc ?_ _)); refine blk_put (cs := #[.string (⟨#[]⟩ : ByteArray), .int .i64 0, .slice none 0 0]) ?_ 2 _ rfl; (with_reducible repeat (first | refine blk_drewN ?_ _ | refine blk_drew ?_ | refine blk_alloc ?_ _)); refine blk_put (cs := #[.string (⟨#[]⟩ : ByteArray), .int .i64 0, .slice none 0 0]) ?_ 1 _ rfl; (with_reducible repeat (first | refine blk_drewN ?_ _ | refine blk_drew ?_ | refine blk_alloc ?_ _)); refine blk_put (cs := #[.string (⟨#[]⟩ : ByteArray), .int .i64 0, .slice none 0 0]) ?_ 0 _ rfl; (with_reducible repeat (first | refine blk_drewN ?_ _ | refine blk_drew ?_ | refine blk_alloc ?_ _)); exact BK104.out) Try.underlying45 rfl (by kernel_rfl)) rfl ?_
    exact ⟨_, by first | rfl | (simp [errW_none, errW_some] <;> rfl) | (simp [*, errW_none, errW_some] <;> rfl), by first | exact Kd.R_nil _ _ _ _ _ | exact Kd.N_nil _ _ _ _ _ | exact Kd.V_nil _ _ _ _ _ | exact Kd.Q_nil _ _ _ _ _ | exact Kd.S_nil _ _ _ _ _, by repeat (first | (with_reducible first | exact HB.out | apply below_alloc | apply pw_below_drewN | apply below_drew1 | refine below_set ?_ GE104.out) | exact HB.out)⟩
  · rw [if_neg c4] at H
    have c4b0 : decide (t105 < 0) = false := decide_eq_false c4
    clear c4
    by_cases c8 : 0 ≤ t105
    · rw [if_pos c8] at H
      have c8b0 : decide (0 ≤ t105) = true := decide_eq_true c8
      clear c8
      by_cases c9 : t105 < (l0.length : Int)
      · rw [if_pos c9] at H
        have c9b0 : decide (t105 < (l0.length : Int)) = true := decide_eq_true c9
        clear c9
        replace H := Option.bind_eq_some_iff.mp H
        obtain ⟨t107, A100, H⟩ := H
        replace H : (some ((rd_T45 l0 t105).f0, (rd_T45 l0 t105).f1, t107, true)) = some (r1, r2, r3, r4) := H
        have A10 := Aside0.mk A100
        clear A100
        simp only [Option.some.injEq, Prod.mk.injEq] at H
        obtain ⟨rfl, rfl, rfl, rfl⟩ := H
        go_enter Try.func18, Try.ntmps18
        go_wp2_with (first | ((with_reducible refine gate_dst (N := 4) rfl ?_); refine box_event ?hg (N := 4) ?hd (cs := #[.string (⟨#[]⟩ : ByteArray), .int .i64 0, .slice none 0 0]) (t := 45) ?hr ?_; (case hd => rfl); (case hg => rfl); (case hr => first | (go_simp; done) | (go_simp; rfl)); intro gb104 hg w11 hbox hb; have n0_ := Aside0.mk (below_step (by repeat (first | (with_reducible first | exact HB.out | apply below_alloc | apply pw_below_drewN | apply below_drew1) | exact HB.out)) hb); have n1_ := Aside0.mk (hbox); have n2_ := Aside0.mk ((by rw [hg]; exact (below_size (by repeat (first | (with_reducible first | exact HB.out | apply below_alloc | apply pw_below_drewN | apply below_drew1) | exact HB.out))) : w.heap.size ≤ gb104)); have n3_ := Aside0.mk ((by rw [hg]; exact (below_size (by repeat (first | (with_reducible first | exact HB.out | apply below_alloc | apply pw_below_drewN | apply below_drew1) | exact HB.out))) : w.heap.size ≤ gb104)); clear HB; have HB := n0_; have BK104 := n1_; have GW104 := n2_; have GE104 := n3_; clear n0_ n1_ n2_ n3_; clear hb hbox hg) | ((with_reducible refine gate_callee (f := 36) rfl ?_); refine goesL_ (some 9) rfl rfl Try.func36 (by kernel_rfl) rfl #[.slice A0 l0.length c0, .string a1] rfl (by (try simp only [List.map_toArray, List.map_cons, List.map_nil]); first | done | rfl | (simp only [List.length_drop, List.length_take]; rfl)) ?_; (with_reducible refine (member_at.calls _ _ l0 a1 t105 _ ?side1 ?side2 A3.out).mono ?_); (case side1 => repeat (first | exact (Kd.C_below HR0.out HB.out) | (with_reducible refine Kd.C_alloc ?_ _) | (with_reducible refine Kd.C_drewN ?_ _) | (with_reducible refine Kd.C_drew ?_))); (case side2 => exact HC0.out); rintro e w12 ⟨rfl, hb⟩; refine ⟨_, rfl, ?_⟩; have n0_ := Aside0.mk (blk_below (g := gb104) (o := .cells #[.string (⟨#[]⟩ : ByteArray), .int .i64 0, .slice none 0 0] 45 (0, 0)) (by (with_reducible repeat (first | refine blk_drewN ?_ _ | refine blk_drew ?_ | refine blk_alloc ?_ _)); exact BK104.out) hb); have n1_ := Aside0.mk (below_step (by repeat (first | (with_reducible first | exact HB.out | apply below_alloc | apply pw_below_drewN | apply below_drew1 | refine below_set ?_ GE104.out) | exact HB.out)) hb); clear BK104; clear HB; have BK104 := n0_; have HB := n1_; clear n0_ n1_; (try clear hb); (try clear hb2); (try clear hk); (try clear hi); have p106 : 0 ≤ (t105 : Int) := of_decide_eq_true (by first | (with_reducible assumption) | assumption); have q106 : t105 < (l0.length : Int) := of_decide_eq_true (by first | (with_reducible assumption) | assumption); obtain ⟨ad106, A106_2, c106_2, e106, hx106_0, hx106_1, hx106_2, hl106_2, hi106_2⟩ := at_T45 HR0.out t105 p106 q106; cases e106; replace hx106_0 := (HB.out.cell (World.block_lt_of_cell? w _ hx106_0)).trans hx106_0; replace hx106_1 := (HB.out.cell (World.block_lt_of_cell? w _ hx106_1)).trans hx106_1; replace hx106_2 := (HB.out.cell (World.block_lt_of_cell? w _ hx106_2)).trans hx106_2; have HR106_2 := Aside0.mk hi106_2; have HC106_2 := Aside0.mk hl106_2; clear hi106_2 hl106_2; replace p106 := eq_true p106; replace q106 := eq_true q106; have hcz13_0 : w12.cell? ⟨gb104, 0, none⟩ = some (.string (⟨#[]⟩ : ByteArray)) := (blk_cell BK104.out 0).trans rfl; have hcz13_1 : w12.cell? ⟨gb104, 1, none⟩ = some (.int .i64 0) := (blk_cell BK104.out 1).trans rfl; have hcz13_2 : w12.cell? ⟨gb104, 2, none⟩ = some (.slice none 0 0) := (blk_cell BK104.out 2).trans rfl; have hfz13_0 := blk_frozen BK104.out 0; have hfz13_1 := blk_frozen BK104.out 1; have hfz13_2 := blk_frozen BK104.out 2) | ((with_reducible refine gate_callee (f := 45) rfl ?_); refine goesL_ (some 19) rfl rfl Try.func45 (by kernel_rfl) rfl #[.slice A106_2 ((rd_T45 l0 t105).f2).length c106_2] rfl (by (try simp only [List.map_toArray, List.map_cons, List.map_nil]); first | done | rfl | (simp only [List.length_drop, List.length_take]; rfl)) ?_; (with_reducible refine (api_Account.calls _ _ ((rd_T45 l0 t105).f2) t107 _ ?side1 ?side2 A10.out).mono ?_); (case side1 => exact Kd.C_below HR106_2.out (by repeat (first | (with_reducible first | exact HB.out | apply below_alloc | apply pw_below_drewN | apply below_drew1 | refine below_set ?_ GE104.out) | exact HB.out))); (case side2 => exact HC106_2.out); rintro e w14 ⟨v108, rfl, ho0, hb⟩; refine ⟨_, rfl, ?_⟩; have n0_ := Aside0.mk (Kd.R_lower ho0 (below_size (by repeat (first | (with_reducible first | exact HB.out | apply below_alloc | apply pw_below_drewN | apply below_drew1 | refine below_set ?_ GE104.out) | exact HB.out)))); have n1_ := Aside0.mk (blk_below (g := gb104) (o := .cells #[.string ((rd_T45 l0 t105).f0), .int .i64 ((rd_T45 l0 t105).f1), .slice A106_2 ((rd_T45 l0 t105).f2).length c106_2] 45 (0, 0)) (by (with_reducible repeat (first | refine blk_drewN ?_ _ | refine blk_drew ?_ | refine blk_alloc ?_ _)); refine blk_put (cs := #[.string ((rd_T45 l0 t105).f0), .int .i64 ((rd_T45 l0 t105).f1), .slice none 0 0]) ?_ 2 _ rfl; (with_reducible repeat (first | refine blk_drewN ?_ _ | refine blk_drew ?_ | refine blk_alloc ?_ _)); refine blk_put (cs := #[.string ((rd_T45 l0 t105).f0), .int .i64 0, .slice none 0 0]) ?_ 1 _ rfl; (with_reducible repeat (first | refine blk_drewN ?_ _ | refine blk_drew ?_ | refine blk_alloc ?_ _)); refine blk_put (cs := #[.string (⟨#[]⟩ : ByteArray), .int .i64 0, .slice none 0 0]) ?_ 0 _ rfl; (with_reducible repeat (first | refine blk_drewN ?_ _ | refine blk_drew ?_ | refine blk_alloc ?_ _)); exact BK104.out) hb); have n2_ := Aside0.mk (below_step (by repeat (first | (with_reducible first | exact HB.out | apply below_alloc | apply pw_below_drewN | apply below_drew1 | refine below_set ?_ GE104.out) | exact HB.out)) hb); clear BK104; clear HB; have HO109 := n0_; have BK104 := n1_; have HB := n2_; clear n0_ n1_ n2_; (try clear hb); (try clear hb2); (try clear hk); (try clear hi); (try clear ho0); obtain ⟨Ao15, co15, eo15⟩ := Kd.R_slice HO109.out; subst eo15; have hcz16_0 : w14.cell? ⟨gb104, 0, none⟩ = some (.string ((rd_T45 l0 t105).f0)) := (blk_cell BK104.out 0).trans rfl; have hcz16_1 : w14.cell? ⟨gb104, 1, none⟩ = some (.int .i64 ((rd_T45 l0 t105).f1)) := (blk_cell BK104.out 1).trans rfl; have hcz16_2 : w14.cell? ⟨gb104, 2, none⟩ = some (.slice A106_2 ((rd_T45 l0 t105).f2).length c106_2) := (blk_cell BK104.out 2).trans rfl; have hfz16_0 := blk_frozen BK104.out 0; have hfz16_1 := blk_frozen BK104.out 1; have hfz16_2 := blk_frozen BK104.out 2))
        refine bodyPost_ret (results_ct rfl _ _ gb104 45 #[.string ((rd_T45 l0 t105).f0), .int .i64 ((rd_T45 l0 t105).f1), .slice Ao15 t107.length co15] (0, 0) _ rfl (by (with_reducible repeat (first | refine blk_drewN ?_ _ | refine blk_drew ?_ | refine blk_alloc ?_ _)); refine blk_put (cs := #[.string ((rd_T45 l0 t105).f0), .int .i64 ((rd_T45 l0 t105).f1), .slice Ao15 t107.length co15]) ?_ 2 _ rfl; (with_reducible repeat (first | refine blk_drewN ?_ _ | refine blk_drew ?_ | refine blk_alloc ?_ _)); refine blk_put (cs := #[.string ((rd_T45 l0 t105).f0), .int .i64 ((rd_T45 l0 t105).f1), .slice Ao15 t107.length co15]) ?_ 1 _ rfl; (with_reducible repeat (first | refine blk_drewN ?_ _ | refine blk_drew ?_ | refine blk_alloc ?_ _)); refine blk_put (cs := #[.string ((rd_T45 l0 t105).f0), .int .i64 ((rd_T45 l0 t105).f1), .slice Ao15 t107.length co15]) ?_ 0 _ rfl; (with_reducible repeat (first | refine blk_drewN ?_ _ | refine blk_drew ?_ | refine blk_alloc ?_ _)); refine blk_put (cs := #[.string ((rd_T45 l0 t105).f0), .int .i64 ((rd_T45 l0 t105).f1), .slice A106_2 ((rd_T45 l0 t105).f2).length c106_2]) ?_ 2 _ rfl; (with_reducible repeat (first | refine blk_drewN ?_ _ | refine blk_drew ?_ | refine blk_alloc ?_ _)); exact BK104.out) Try.underlying45 rfl (by kernel_rfl)) rfl ?_
        exact ⟨_, by first | rfl | (simp [errW_none, errW_some] <;> rfl) | (simp [*, errW_none, errW_some] <;> rfl), by (with_reducible repeat (first | apply Kd.R_alloc | apply Kd.R_drewN | apply Kd.R_drew)); exact Kd.R_mono (Kd.R_far (p := ⟨gb104, 2, none⟩) (Kd.R_far (p := ⟨gb104, 1, none⟩) (Kd.R_far (p := ⟨gb104, 0, none⟩) (Kd.R_far (p := ⟨gb104, 2, none⟩) (Kd.R_types HO109.out BK104.out (by decide)) (fun _ hk => hk.2) (.slice Ao15 t107.length co15)) (fun _ hk => hk.2) (.string ((rd_T45 l0 t105).f0))) (fun _ hk => hk.2) (.int .i64 ((rd_T45 l0 t105).f1))) (fun _ hk => hk.2) (.slice Ao15 t107.length co15)) (fun _ hk => trivial), by repeat (first | (with_reducible first | exact HB.out | apply below_alloc | apply pw_below_drewN | apply below_drew1 | refine below_set ?_ GE104.out) | exact HB.out)⟩
      · rw [if_neg c9] at H
        exact absurd H (by simp)
    · rw [if_neg c8] at H
      exact absurd H (by simp)

end Go.Proofs.Ytipoicfglaanaaa.PMemberKeeps
