-- Written by a program of this session's (a turned copy of the kit's print, with functions proved by hand).
import Derived.Test.YtckjdncimibiaaaPFeeBehindx0
import Derived.Test.YtckjdncimibiaaaPFeeBehindx1
import Derived.Test.YtckjdncimibiaaaPFeeBehindx2
import Derived.Test.YtckjdncimibiaaaPFeeBehindx5
import Derived.Test.YtckjdncimibiaaaPFeeBehindx6
import Derived.Test.YtckjdncimibiaaaPFeeBehindx7
namespace Go.Proofs.Ytckjdncimibiaaa.PFeeBehind
open Go.RowKit Go.Proofs.YtckjdncimibiaaaW.PrintWords Go.Proofs.YtckjdncimibiaaaW.PrintLast Go.Proofs.YtckjdncimibiaaaW.PrintMore
attribute [local go_sem] max2_int min2_int max_two min_two max_three min_three max_four min_four Go.Proofs.YtckjdncimibiaaaHand.run_leq_str Go.Proofs.YtckjdncimibiaaaHand.run_gtr_str Go.Proofs.YtckjdncimibiaaaHand.run_geq_str   -- for this text's walks alone
set_option linter.unusedVariables false
set_option linter.unusedSimpArgs false

attribute [local go_sem high] eqA51 eqA64
/-! ### fee_Add: function 16 -/
def fee_Add.chk (k : Nat) : List S51 → Option Int
  | [] => some 0
  | c :: r => if c.f1 < 0 ∨ c.f1 > 1152921504606846976 then some 18 else (words_Name.f k c.f0).bind fun b => if b = true then fee_Add.chk k r else some 10
def fee_Add.zero : List S51 → List (ByteArray × Int) → Option (List (ByteArray × Int))
  | [], m => some m
  | c :: r, m => if c.f0.size ≤ 1000000 then fee_Add.zero r (had_put m c.f0 0) else none
def fee_Add.go (mm : List (ByteArray × Int)) (l0 : List S51) : List ByteArray → List S51 → Option (List S51)
  | [], t => some t
  | s :: r, t => if s.size ≤ 1000000 then (if t.length < 1000000 then fee_Add.go mm l0 r (t ++ [⟨s, wrap64 (fee_first.go s l0 + (Go.Proofs.YtckjdncimibiaaaHand.look strQ mm s).getD 0)⟩]) else none) else none
def fee_Add.f (k : Nat) (l0 : List S51) (l1 : List S61) : Option (List S51 × Int) :=
  (fee_long.f l1 l0).bind fun b => if b = true then some ([], 8) else ((fee_Add.chk k l0).bind fun e => if e = 0 then ((fee_had.go k l1 []).bind fun h => if h.2 = 0 then ((fee_Add.zero l0 h.1).bind fun m => if m.length ≤ 1000000 then (fee_Add.go m l0 (sortS (m.map (·.1))) []).bind fun t => some (t, 0) else none) else some ([], h.2)) else some ([], e))
theorem fee_Add.mono_chk (k : Nat) (l : List S51) : LeO (fee_Add.chk k l) (fee_Add.chk (k + 1) l) := by
  induction l with
  | nil => exact LeO.refl _
  | cons c r ih =>
    unfold fee_Add.chk
    exact LeO.ite (LeO.refl _) (LeO.bind (words_Name.mono _ _) (fun b => LeO.ite ih (LeO.refl _)))
theorem fee_Add.mono : ∀ a0 a1 k, LeO (fee_Add.f k a0 a1) (fee_Add.f (k + 1) a0 a1) := by
  intro a0 a1 k
  unfold fee_Add.f
  exact LeO.bind (LeO.refl _) (fun b => LeO.ite (LeO.refl _) (LeO.bind (fee_Add.mono_chk _ _) (fun e => LeO.ite (LeO.bind (fee_had.mono _ _ _) (fun h => LeO.refl _)) (LeO.refl _))))
set_option maxHeartbeats 3200000 in
set_option maxRecDepth 100000 in
theorem fee_Add.calls (k : Nat) (A0 : Option Addr) (c0 : Nat) (l0 : List (S51)) (A1 : Option Addr) (c1 : Nat) (l1 : List (S61)) (r1 : List S51) (r2 : Int) (w : World) (hr0 : Kd.C k51 w A0 l0.length l0) (hc0 : l0.length ≤ c0) (hr1 : Kd.C k61 w A1 l1.length l1) (hc1 : l1.length ≤ c1) (h : fee_Add.f k l0 l1 = some (r1, r2)) :
    Calls Try.prog 16 #[.slice A0 l0.length c0, .slice A1 l1.length c1] w fun e w' => ∃ v0_ : Value, e = .returned (.tuple #[v0_, .int .i64 r2]) ∧ Kd.R k51 51 w' w.heap.size (fun _ => True) v0_ r1 ∧ Below w.heap.size w w' := by
  obtain ⟨b, hL, hh⟩ := Option.bind_eq_some_iff.mp h
  have HR0 := Aside0.mk hr0
  have hl0 := hr0.2.1
  have HC0 := Aside0.mk hc0
  have HR1 := Aside0.mk hr1
  have HC1 := Aside0.mk hc1
  have HLG := Aside0.mk hL
  clear hr0 hc0 hr1 hc1 hL h
  cases b with
  | true =>
    rw [if_pos rfl] at hh
    have hh2 := Option.some.inj hh
    simp only [Prod.mk.injEq] at hh2
    obtain ⟨rfl, rfl⟩ := hh2
    clear hh
    go_enter Try.func16, Try.ntmps16
    go_wp2_with ((go_at_call 26; refine (fee_long.calls A1 c1 l1 A0 c0 l0 true _ HR1.out HC1.out HR0.out HC0.out HLG.out).mono ?_; rintro _ w1 ⟨rfl, hb⟩; have HB1 := Aside0.mk hb.below; clear hb))
    go_ret2
    exact ⟨_, rfl, Kd.R_nil _ _ _ _ _, HB1.out⟩
  | false =>
    rw [if_neg (by decide)] at hh
    obtain ⟨e1, hC, hh⟩ := Option.bind_eq_some_iff.mp hh
    have HCK := Aside0.mk hC
    have HH := Aside0.mk hh
    clear hC hh
    go_enter Try.func16, Try.ntmps16
    go_wp2_with ((go_at_call 26; refine (fee_long.calls A1 c1 l1 A0 c0 l0 false _ HR1.out HC1.out HR0.out HC0.out HLG.out).mono ?_; rintro _ w1 ⟨rfl, hb⟩; have HB1 := Aside0.mk hb.below; clear hb))
    go_loopg [20] l0.length (fun kq v20 w' => ∃ (x : Nat), v20 = .int .i64 (x : Int) ∧ kq + x = l0.length ∧ Aside0 (fee_Add.chk k (l0.drop x) = some e1) ∧ Aside0 (Below w.heap.size w w'))
    case atStart => exact ⟨0, rfl, by omega, HCK, HB1⟩
    case round =>
      clear HCK HB1 HLG
      obtain ⟨x, rfl, hx, HA, HB⟩ := hrel
      have hsz := HB.out.size
      by_cases hlt : x < l0.length
      · obtain ⟨ad, ead, h0, h1⟩ := at_T51 (Kd.C_below HR0.out HB.out) (x : Int) (by omega) (by omega)
        cases ead
        simp only [Int.toNat_natCast] at h0 h1
        have hdr : l0.drop x = rd_T51 l0 x :: l0.drop (x + 1) := by
          rw [List.drop_eq_getElem_cons hlt]
          simp [rd_T51, hlt]
        have hA := HA.out
        rw [hdr, fee_Add.chk] at hA
        clear hdr HA
        generalize hp : rd_T51 l0 x = p at *
        clear hp
        obtain ⟨s, q⟩ := p
        simp only at h0 h1 hA
        by_cases hq : q < 0 ∨ q > 1152921504606846976
        · rw [if_pos hq] at hA
          obtain rfl := Option.some.inj hA
          have hh := HH.out
          rw [if_neg (by decide)] at hh
          have hh2 := Option.some.inj hh
          simp only [Prod.mk.injEq] at hh2
          obtain ⟨rfl, rfl⟩ := hh2
          clear hh hA HH
          by_cases hq1 : q < 0
          · have hd1 : decide (q < 0) = true := decide_eq_true hq1
            clear hq hq1
            go_wp2
            go_ret2
            exact ⟨_, rfl, Kd.R_nil _ _ _ _ _, HB.out.alloc HB.out.size _⟩
          · have hd1 : decide (q < 0) = false := decide_eq_false hq1
            have hd2 : decide (1152921504606846976 < q) = true := decide_eq_true (by omega)
            clear hq hq1
            go_wp2
            go_ret2
            exact ⟨_, rfl, Kd.R_nil _ _ _ _ _, HB.out.alloc HB.out.size _⟩
        rw [if_neg hq] at hA
        have hd1 : decide (q < 0) = false := decide_eq_false (by omega)
        have hd2 : decide (1152921504606846976 < q) = false := decide_eq_false (by omega)
        clear hq
        obtain ⟨b1, hN1, hA⟩ := Option.bind_eq_some_iff.mp hA
        have HNM := Aside0.mk hN1
        clear hN1
        cases b1 with
        | false =>
          rw [if_neg (by decide)] at hA
          obtain rfl := Option.some.inj hA
          have hh := HH.out
          rw [if_neg (by decide)] at hh
          have hh2 := Option.some.inj hh
          simp only [Prod.mk.injEq] at hh2
          obtain ⟨rfl, rfl⟩ := hh2
          clear hh hA HH
          go_wp2_with ((go_at_call 35; refine (words_Name.calls k s false _ HNM.out).mono ?_; rintro _ w2 ⟨rfl, hb⟩; have HB2 := Aside0.mk (below_step (HB.out.alloc HB.out.size (.cells #[.string s, .int .i64 q] 51 (0, 0))) hb.below); clear hb))
          go_ret2
          exact ⟨_, rfl, Kd.R_nil _ _ _ _ _, HB2.out⟩
        | true =>
          rw [if_pos rfl] at hA
          have HA2 := Aside0.mk hA
          clear hA
          go_wp2_with ((go_at_call 35; refine (words_Name.calls k s true _ HNM.out).mono ?_; rintro _ w2 ⟨rfl, hb⟩; have HB2 := Aside0.mk (below_step (HB.out.alloc HB.out.size (.cells #[.string s, .int .i64 q] 51 (0, 0))) hb.below); clear hb))
          go_roundg (l0.length - (x + 1))
          case measure => omega
          case rel => exact ⟨x + 1, by go_num, by omega, HA2, HB2⟩
      · have hxe : x = l0.length := by omega
        have hA := HA.out
        rw [List.drop_eq_nil_of_le (by omega), fee_Add.chk] at hA
        obtain rfl := Option.some.inj hA
        have hd : decide ((x : Int) < (l0.length : Int)) = false := decide_eq_false (by omega)
        have hh := HH.out
        rw [if_pos rfl] at hh
        obtain ⟨⟨mm, em⟩, hHD, hh⟩ := Option.bind_eq_some_iff.mp hh
        simp only at hh
        have HHD := Aside0.mk hHD
        clear hHD hA HA hxe HH
        by_cases he : em = 0
        case neg =>
          rw [if_neg he] at hh
          have hh2 := Option.some.inj hh
          simp only [Prod.mk.injEq] at hh2
          obtain ⟨rfl, rfl⟩ := hh2
          have h0b : (em == 0) = false := beq_eq_false_iff_ne.mpr he
          have h1b : (em != 0) = true := bne_iff_ne.mpr he
          clear he hh
          go_wp2_with ((go_at_call 27; refine (fee_had.calls k A1 c1 l1 mm em _ (Kd.C_below HR1.out HB.out) HC1.out HHD.out).mono ?_; rintro _ w3 ⟨vm, rfl, hm, hb⟩; have HMP := Aside0.mk hm; have HB3 := Aside0.mk (below_step HB.out hb); clear hb hm))
          go_ret2
          exact ⟨_, rfl, Kd.R_nil _ _ _ _ _, HB3.out⟩
        subst he
        rw [if_pos rfl] at hh
        obtain ⟨m2, hZ, hh⟩ := Option.bind_eq_some_iff.mp hh
        by_cases hml : m2.length ≤ 1000000
        case neg => rw [if_neg hml] at hh; cases hh
        rw [if_pos hml] at hh
        obtain ⟨tf, hF, hh⟩ := Option.bind_eq_some_iff.mp hh
        have hh2 := Option.some.inj hh
        simp only [Prod.mk.injEq] at hh2
        obtain ⟨rfl, rfl⟩ := hh2
        have HZ := Aside0.mk hZ
        have HF := Aside0.mk hF
        have HML0 := Aside0.mk hml
        clear hh hZ hF hml
        go_wp2_with (go_at_call 27; refine (fee_had.calls k A1 c1 l1 mm 0 _ (Kd.C_below HR1.out HB.out) HC1.out HHD.out).mono ?_; rintro _ w3 ⟨vm, rfl, hm, hb⟩; have HMP := Aside0.mk hm; have HB3 := Aside0.mk (below_step HB.out hb); clear hb hm; obtain ⟨bm, em_, hmb0, hmb, hmk⟩ := HMP.out rfl; subst em_; have HMB := Aside0.mk hmb; have HMK := Aside0.mk hmk; have HM0 := Aside0.mk hmb0; clear hmb hmk hmb0)
        have HGE : Aside0 (∀ kk, some bm = some kk → w.heap.size ≤ kk) := ⟨fun kk e => by cases e; exact Nat.le_trans hsz HM0.out⟩
        clear hd HHD HMP HB
        go_loopg [47] l0.length (fun kq v47 w' => ∃ (x : Nat) (m : List (ByteArray × Int)), v47 = .int .i64 (x : Int) ∧ kq + x = l0.length ∧ Aside0 (fee_Add.zero (l0.drop x) m = some m2) ∧ Aside0 (w'.heap[bm]? = some (Go.Proofs.YtckjdncimibiaaaHand.objM Value.string (Value.int .i64) m)) ∧ Aside0 (Go.Proofs.YtckjdncimibiaaaHand.KeysOk Try.prog 9 Value.string m) ∧ Aside0 (Below w.heap.size w w'))
        case atStart => exact ⟨0, mm, rfl, by omega, HZ, HMB, HMK, HB3⟩
        case round =>
          clear HZ HMB HMK HB3
          obtain ⟨x, m, rfl, hx, HA, HM, HK, HB⟩ := hrel
          have hsz := HB.out.size
          have hltM := blk_lt HM.out
          by_cases hlt : x < l0.length
          · obtain ⟨ad, ead, h0, h1⟩ := at_T51 (Kd.C_below HR0.out HB.out) (x : Int) (by omega) (by omega)
            cases ead
            simp only [Int.toNat_natCast] at h0 h1
            have hdr : l0.drop x = rd_T51 l0 x :: l0.drop (x + 1) := by
              rw [List.drop_eq_getElem_cons hlt]
              simp [rd_T51, hlt]
            have hA := HA.out
            rw [hdr, fee_Add.zero] at hA
            clear hdr HA
            generalize hp : rd_T51 l0 x = p at *
            clear hp
            obtain ⟨s, q⟩ := p
            simp only at h0 h1 hA
            by_cases hk : s.size ≤ 1000000
            case neg => rw [if_neg hk] at hA; cases hA
            rw [if_pos hk] at hA
            have HA2 := Aside0.mk hA
            have HKEY := Aside0.mk (str_keyOf (s := s) hk)
            clear hA hk
            go_wp2_with (first | (at_lookup; refine Go.Proofs.YtckjdncimibiaaaHand.wpL_look _ rfl (.tmp 51) (.tmp 53) 77 false rfl bm (.string s) (.int .i64 ((Go.Proofs.YtckjdncimibiaaaHand.look strQ m s).getD 0)) rfl rfl (had_look (blk_alloc HM.out _) HK.out HKEY.out) ?_) | (at_mapUpdate; obtain ⟨w4, hrunU, hM4, hG4⟩ := had_upd (blk_alloc HM.out (.cells #[.string s, .int .i64 q] 51 (0, 0))) HK.out HKEY.out 0; refine Go.Proofs.YtckjdncimibiaaaHand.wpL_upd rfl (.tmp 51) (.tmp 53) (.tmp 55) 77 rfl bm (.string s) (.int .i64 (wrap64 ((Go.Proofs.YtckjdncimibiaaaHand.look strQ m s).getD 0 + 0))) rfl rfl (by rw [Int.add_zero]; rfl) hrunU ?_; have HM4 := Aside0.mk hM4; have HB4 := Aside0.mk (pw_below_grown (HB.out.alloc HB.out.size (.cells #[.string s, .int .i64 q] 51 (0, 0))) _ (HB.out.alloc HB.out.size (.cells #[.string s, .int .i64 q] 51 (0, 0))).size hG4 HGE.out); clear hrunU hM4 hG4))
            go_roundg (l0.length - (x + 1))
            case measure => omega
            case rel => exact ⟨x + 1, _, by go_num, by omega, HA2, HM4, ⟨had_ok HK.out HKEY.out 0⟩, HB4⟩
          · have hxe : x = l0.length := by omega
            have hA := HA.out
            rw [List.drop_eq_nil_of_le (by omega), fee_Add.zero] at hA
            obtain rfl := Option.some.inj hA
            have hd : decide ((x : Int) < (l0.length : Int)) = false := decide_eq_false (by omega)
            have HML : Aside0 (m.length ≤ 1000000) := HML0
            clear hA HA hxe
            go_wp2_with (first | (go_at_call 29; refine (Keys.calls (some bm) _).mono ?_; rintro _ w4 ⟨rfl, rfl⟩) | (go_at_call 28; refine (Sorted_keys.calls wr bm m HM.out HK.out HML.out).mono ?_; rintro _ w5 ⟨vn, rfl, ho, hb⟩; have HN5 := Aside0.mk ho; have HM5 := Aside0.mk (blk_below (blk_alloc HM.out _) hb); have HB5 := Aside0.mk (below_step (below_alloc HB.out (.cells #[.map (some bm)] 77 (0, 0))) hb); clear ho hb; obtain ⟨An, cn, en⟩ := Kd.R_slice HN5.out; subst en))
            have hszb := HB5.out.size
            have HSL := Aside0.mk (Kd.R_reads' HN5.out).2.2.2.1
            have hsl := HSL.out
            clear hd HM HB HML0 HML
            go_loopg [12, 61] (sortS (m.map (·.1))).length (fun kq v12 v61 w' => ∃ (y : Nat) (t : List S51), v61 = .int .i64 (y : Int) ∧ kq + y = (sortS (m.map (·.1))).length ∧ Aside0 (fee_Add.go m l0 ((sortS (m.map (·.1))).drop y) t = some tf) ∧ Aside0 (Kd.R k51 51 w' w5.heap.size (fun _ => True) v12 t) ∧ Aside0 (Below w5.heap.size w5 w'))
            case atStart => exact ⟨0, [], rfl, by omega, HF, ⟨Kd.R_nil _ _ _ _ _⟩, ⟨Below.refl _ _⟩⟩
            case round =>
              clear HF
              obtain ⟨y, t, rfl, hy, HS, HR, HBW⟩ := hrel
              have hszw := HBW.out.size
              by_cases hlt2 : y < (sortS (m.map (·.1))).length
              · have HNW := Aside0.mk (Kd.R_below HN5.out HBW.out)
                have HMW := Aside0.mk (blk_below HM5.out HBW.out)
                have HBT := Aside0.mk (below_step HB5.out HBW.out)
                obtain ⟨adn, eas, hs0⟩ := Kd.at_string (Kd.R_reads' HNW.out).2.2 (y : Int) (by omega) (by omega)
                cases eas
                simp only [Int.toNat_natCast] at hs0
                have hdr : (sortS (m.map (·.1))).drop y = rdOf ByteArray.empty (sortS (m.map (·.1))) y :: (sortS (m.map (·.1))).drop (y + 1) := by
                  rw [List.drop_eq_getElem_cons hlt2]
                  simp [rdOf, hlt2]
                have hs := HS.out
                rw [hdr, fee_Add.go] at hs
                clear hdr HS
                generalize hp : rdOf ByteArray.empty (sortS (m.map (·.1))) y = s at *
                clear hp
                by_cases hk : s.size ≤ 1000000
                case neg => rw [if_neg hk] at hs; cases hs
                rw [if_pos hk] at hs
                by_cases hln : t.length < 1000000
                case neg => rw [if_neg hln] at hs; cases hs
                rw [if_pos hln] at hs
                have HS2 := Aside0.mk hs
                have HL : Aside0 ((t.length + 1) * 24 ≤ 140737488355328) := ⟨by omega⟩
                have HKEY := Aside0.mk (str_keyOf (s := s) hk)
                clear hs hk hln
                go_wp2
                refine start_ (n := 13) (S := fun w' => (Instr.lookup 77 (.map (some bm)) (.string s) false).run Try.prog w' = .ok (.int .i64 ((Go.Proofs.YtckjdncimibiaaaHand.look strQ m s).getD 0)) w') (ds := []) #[false, false, false, false, false, false, false, false, false, false, false, false, false] (by kernel_rfl) rfl rfl ((had_look (blk_drew HMW.out) HK.out HKEY.out)) (fun hHeld => ?_)
                refine pure_ (i := 0) (N := some 65) (v := ?_) (a' := ?_) #[true, false, false, false, false, false, false, false, false, false, false, false, false] rfl rfl (by kernel_rfl) (fun _ _ _ h => h) (Or.inl ⟨by rfl, ?_⟩) ?_ ?_
                rotate_left
                · intro w'
                  go_simp
                  with_reducible rfl
                rotate_left
                · simp only [Act.put, List.setIfInBounds_toArray, List.set_cons_zero, List.set_cons_succ, i64_w, i32_w]
                  rfl
                refine pure_ (i := 1) (N := some 66) (v := ?_) (a' := ?_) #[true, true, false, false, false, false, false, false, false, false, false, false, false] rfl rfl (by kernel_rfl) (fun _ _ _ h => h) (Or.inl ⟨by rfl, ?_⟩) ?_ ?_
                rotate_left
                · intro w'
                  go_simp
                  with_reducible rfl
                rotate_left
                · simp only [Act.put, List.setIfInBounds_toArray, List.set_cons_zero, List.set_cons_succ, i64_w, i32_w]
                  rfl
                refine pure_ (i := 2) (N := some 67) (v := ?_) (a' := ?_) #[true, true, true, false, false, false, false, false, false, false, false, false, false] rfl rfl (by kernel_rfl) (fun _ _ _ h => h) (Or.inl ⟨by rfl, ?_⟩) ?_ ?_
                rotate_left
                · intro w'
                  go_simp
                  with_reducible rfl
                rotate_left
                · simp only [Act.put, List.setIfInBounds_toArray, List.set_cons_zero, List.set_cons_succ, i64_w, i32_w]
                  rfl
                refine pure_ (i := 3) (N := some 68) (v := ?_) (a' := ?_) #[true, true, true, true, false, false, false, false, false, false, false, false, false] rfl rfl (by kernel_rfl) (fun _ _ _ h => h) (Or.inl ⟨by rfl, ?_⟩) ?_ ?_
                rotate_left
                · intro w'
                  go_simp
                  with_reducible rfl
                rotate_left
                · simp only [Act.put, List.setIfInBounds_toArray, List.set_cons_zero, List.set_cons_succ, i64_w, i32_w]
                  rfl
                refine pure_ (i := 5) (N := some 70) (v := ?_) (a' := ?_) #[true, true, true, true, false, true, false, false, false, false, false, false, false] rfl rfl (by kernel_rfl) (fun _ _ _ h => h) (Or.inl ⟨by rfl, ?_⟩) ?_ ?_
                rotate_left
                · intro w'
                  go_simp
                  with_reducible rfl
                rotate_left
                · simp only [Act.put, List.setIfInBounds_toArray, List.set_cons_zero, List.set_cons_succ, i64_w, i32_w]
                  rfl
                refine pure_ (i := 6) (N := some 71) (v := ?_) (a' := ?_) #[true, true, true, true, false, true, true, false, false, false, false, false, false] rfl rfl (by kernel_rfl) (fun _ _ _ h => h) (Or.inl ⟨by rfl, ?_⟩) ?_ ?_
                rotate_left
                · intro w'
                  go_simp
                  with_reducible rfl
                rotate_left
                · simp only [Act.put, List.setIfInBounds_toArray, List.set_cons_zero, List.set_cons_succ, i64_w, i32_w]
                  rfl
                refine take_ (i := 7) (N := some 72) (v := ?_) (a' := ?_) #[true, true, true, true, false, true, true, true, false, false, false, false, false] rfl rfl (by kernel_rfl) (fun _ _ _ h => h) (Or.inl ⟨by rfl, ?_⟩) hHeld ?_ ?_
                rotate_left
                · intro w' s0
                  go_simp
                  with_reducible rfl
                rotate_left
                · simp only [Act.put, List.setIfInBounds_toArray, List.set_cons_zero, List.set_cons_succ, i64_w, i32_w]
                  rfl
                refine one_ (i := 4) (N := some 69) #[true, true, true, true, true, true, true, true, false, false, false, false, false] rfl rfl (by kernel_rfl) (by decide) (fun K hK => ?_)
                refine goes_ Try.func30 (by kernel_rfl) rfl #[.slice A0 l0.length c0, .string s] (by rfl) rfl rfl (by simp only [List.map_toArray, List.map_cons, List.map_nil]; rfl) ?_
                with_reducible refine (fee_first.calls A0 c0 l0 s (fee_first.go s l0) _ (Kd.C_drew (Kd.C_below HR0.out HBT.out)) HC0.out rfl).mono ?_
                rintro e w7 ⟨rfl, hb⟩
                refine ⟨_, rfl, ?_⟩
                have HB7 := Aside0.mk (below_step (below_drew HBT.out) hb)
                have HBW7 := Aside0.mk (below_step (below_drew HBW.out) hb)
                have HBR7 := Aside0.mk (below_step (below_drew (Below.refl wr.heap.size wr)) hb)
                have HM7 := Aside0.mk (blk_below (blk_drew HMW.out) hb)
                have HR7 := Aside0.mk (Kd.R_below HR.out HBR7.out)
                clear hb
                refine hK.out _ _ ((had_look HM7.out HK.out HKEY.out)) (fun hHeld => ?_)
                clear hK K
                refine norm_ (a' := ?_) ?_ ?_
                rotate_left
                · show Act.put _ (some 69) _ = _
                  simp only [Act.put, List.setIfInBounds_toArray, List.set_cons_zero, List.set_cons_succ, i64_w, i32_w]
                  rfl
                refine pure_ (i := 8) (N := some 73) (v := ?_) (a' := ?_) #[true, true, true, true, true, true, true, true, true, false, false, false, false] rfl rfl (by kernel_rfl) (fun _ _ _ h => h) (Or.inl ⟨by rfl, ?_⟩) ?_ ?_
                rotate_left
                · intro w'
                  go_simp
                  with_reducible rfl
                rotate_left
                · simp only [Act.put, List.setIfInBounds_toArray, List.set_cons_zero, List.set_cons_succ, i64_w, i32_w]
                  rfl
                refine pure_ (i := 9) (N := some 74) (v := ?_) (a' := ?_) #[true, true, true, true, true, true, true, true, true, true, false, false, false] rfl rfl (by kernel_rfl) (fun _ _ _ h => h) (Or.inl ⟨by rfl, ?_⟩) ?_ ?_
                rotate_left
                · intro w'
                  go_simp
                  with_reducible rfl
                rotate_left
                · simp only [Act.put, List.setIfInBounds_toArray, List.set_cons_zero, List.set_cons_succ, i64_w, i32_w]
                  rfl
                refine one_ (i := 10) (N := some 75) #[true, true, true, true, true, true, true, true, true, true, true, false, false] rfl rfl (by kernel_rfl) (by decide) (fun K hK => ?_)
                refine value_ (w1 := ?_) (v := ?_) (by rfl) rfl ?_ ?_
                rotate_left 2
                · go_simp
                  constructor
                  · rfl
                  · rfl
                refine hK.out _ _ ((had_look (blk_alloc HM7.out _) HK.out HKEY.out)) (fun hHeld => ?_)
                clear hK K
                refine norm_ (a' := ?_) ?_ ?_
                rotate_left
                · show Act.put _ (some 75) _ = _
                  simp only [Act.put, List.setIfInBounds_toArray, List.set_cons_zero, List.set_cons_succ, i64_w, i32_w]
                  rfl
                refine one_ (i := 11) (N := some 76) #[true, true, true, true, true, true, true, true, true, true, true, true, false] rfl rfl (by kernel_rfl) (by decide) (fun K hK => ?_)
                refine Kd.R_append_step k51 (w0 := w5) (W := w7) w5.heap.size (by rfl) (.tmp 65) (.tmp 75) 41 51 (.agg #[(.string ⟨#[]⟩), (.int .i64 0)]) 24 rfl Try.underlying41 info51 rfl (by decide) (by omega) u12 t ⟨s, (wrap64 (fee_first.go s l0 + (Go.Proofs.YtckjdncimibiaaaHand.look strQ m s).getD 0))⟩ [.string s, .int .i64 (wrap64 (fee_first.go s l0 + (Go.Proofs.YtckjdncimibiaaaHand.look strQ m s).getD 0))] (fun _ => True) (fun _ => False) rfl ?aX ?aP (fun _ hk => hk.elim) ?aF ?aO ?aB ?aS ?aL ?_
                (case aX => rfl)
                (case aP => exact k51_mkM _ _ _ ⟨s, (wrap64 (fee_first.go s l0 + (Go.Proofs.YtckjdncimibiaaaHand.look strQ m s).getD 0))⟩)
                (case aB => exact HBW7.out)
                (case aF => exact (fun _ _ => trivial))
                (case aO => exact HR7.out)
                (case aS => exact HBW7.out.size)
                (case aL => exact HL.out)
                intro v9 w9 ho hb hg hat
                have HR9 := Aside0.mk ho
                have HB9 := Aside0.mk hb
                have HM9 := Aside0.mk ((hg.block bm (blk_lt HM7.out) (Go.Proofs.YtckjdncimibiaaaHand.row_neM HR7.out HM7.out)).trans HM7.out)
                clear ho hb hg hat
                refine hK.out _ _ ((had_look HM9.out HK.out HKEY.out)) (fun hHeld => ?_)
                clear hK K
                refine norm_ (a' := ?_) ?_ ?_
                rotate_left
                · show Act.put _ (some 76) _ = _
                  simp only [Act.put, List.setIfInBounds_toArray, List.set_cons_zero, List.set_cons_succ, i64_w, i32_w]
                  rfl
                refine pure_ (i := 12) (N := some 12) (v := ?_) (a' := ?_) #[true, true, true, true, true, true, true, true, true, true, true, true, true] rfl rfl (by kernel_rfl) (fun _ _ _ h => h) (Or.inl ⟨by rfl, ?_⟩) ?_ ?_
                rotate_left
                · intro w'
                  go_simp
                  with_reducible rfl
                rotate_left
                · simp only [Act.put, List.setIfInBounds_toArray, List.set_cons_zero, List.set_cons_succ, i64_w, i32_w]
                  rfl
                refine done_ (by kernel_rfl) ?_
                go_wp2
                go_roundg ((sortS (m.map (·.1))).length - (y + 1))
                case measure => omega
                case rel => exact ⟨y + 1, _, by go_num, by omega, HS2, HR9, HB9⟩
              · have hye : y = (sortS (m.map (·.1))).length := by omega
                have hs := HS.out
                rw [List.drop_eq_nil_of_le (by omega), fee_Add.go] at hs
                obtain rfl := Option.some.inj hs
                have hd2_ : decide ((y : Int) < ((sortS (m.map (·.1))).length : Int)) = false := decide_eq_false (by omega)
                clear hs HS hye
                go_wp2
                go_ret2
                exact ⟨_, rfl, Kd.R_lower HR.out hszb, below_step HB5.out HBW.out⟩

/-! ### contangolaw38_goes: function 12 -/
def contangolaw38_goes.f (k : Nat)  : Option (Bool) := (some (([(⟨0, 10⟩ : S70), (⟨5, 7⟩ : S70)] : List (S70)) : List (S70))).bind fun y134 => ((some (([(⟨0, 0, 0, (⟨(⟨#[]⟩ : ByteArray), 0, 0, 0⟩ : S57), 7, 0, (⟨(⟨#[97]⟩ : ByteArray), (⟨#[]⟩ : ByteArray)⟩ : S59), (⟨(⟨#[98]⟩ : ByteArray), (⟨#[]⟩ : ByteArray)⟩ : S59)⟩ : S61)] : List (S61)) : List (S61))).bind fun y137 => ((some (([(⟨(⟨#[98]⟩ : ByteArray), 4⟩ : S51)] : List (S51)) : List (S51))).bind fun y140 => ((fee_Lots.f k 4 3 y134).bind fun bt143 => ((fee_Flows.f k y137 y140 y134 0).bind fun bt145 => ((fee_Add.f k y140 y137).bind fun bt149 => (if bt143.1 = 24 then (if bt143.2 = 0 then (if bt145.2 = 0 then (if (bt145.1.length : Int) = 2 then (if 0 < (bt145.1.length : Int) then (if (eqD64 ((rd_T64 bt145.1 0).f0) (⟨#[97]⟩ : ByteArray) ((rd_T64 bt145.1 0).f1) 0 ((rd_T64 bt145.1 0).f2) (-64) ((rd_T64 bt145.1 0).f3) 5) = true then (if 1 < (bt145.1.length : Int) then (if ((rd_T64 bt145.1 1).f2) = (-52) then (if bt149.2 = 0 then (if (bt149.1.length : Int) = 2 then (if 0 < (bt149.1.length : Int) then (if (eqD51 ((rd_T51 bt149.1 0).f0) (⟨#[97]⟩ : ByteArray) ((rd_T51 bt149.1 0).f1) 7) = true then (if 1 < (bt149.1.length : Int) then (some (((rd_T51 bt149.1 1).f1) == 11)) else (none)) else (some false)) else (none)) else (some false)) else (some false)) else (some false)) else (none)) else (some false)) else (none)) else (some false)) else (some false)) else (some false)) else (some false)))))))
theorem contangolaw38_goes.mono : ∀ k, LeO (contangolaw38_goes.f k ) (contangolaw38_goes.f (k + 1) ) := by
  intro  k
  unfold contangolaw38_goes.f
  repeat' first
      | (with_reducible exact fee_Add.mono _ _ _)
      | (with_reducible exact fee_Flows.mono _ _ _ _ _)
      | (with_reducible exact fee_Lots.mono _ _ _ _)
      | (with_reducible exact LeO.refl _)
      | (with_reducible exact LeO.none _)
      | (with_reducible refine LeO.ite ?_ ?_)
      | (with_reducible refine LeO.bind ?_ (fun _ => ?_))
      | exact fee_Add.mono _ _ _
      | exact fee_Flows.mono _ _ _ _ _
      | exact fee_Lots.mono _ _ _ _
      | exact LeO.none _
      | refine LeO.ite ?_ ?_
      | refine LeO.bind ?_ (fun _ => ?_)
theorem contangolaw38_goes.only (k : Nat) (r : Bool) (h : contangolaw38_goes.f k  = some r) : r = true := by
  exact Option.some.inj ((at_rounds (fun k => contangolaw38_goes.mono k) (Nat.le_max_left k 100) h).symm.trans (at_rounds (fun k => contangolaw38_goes.mono k) (Nat.le_max_right k 100) (by decide +kernel : contangolaw38_goes.f 100 = some true)))
set_option maxHeartbeats 8000000 in
set_option maxRecDepth 100000 in
theorem contangolaw38_goes.calls (k : Nat)  (r : Bool) (w : World) (h : contangolaw38_goes.f k  = some r) :
    Calls Try.prog 12 #[] w fun e w' => e = .returned (.bool r) ∧ Below w.heap.size w w' := by
  have hu70 := Try.underlying70
  have hu59 := Try.underlying59
  have hu61 := Try.underlying61
  have hu51 := Try.underlying51
  have hu64 := Try.underlying64
  have HB := Aside0.mk (Below.refl w.heap.size w)
  have HRT := Aside0.mk (contangolaw38_goes.only k r h)
  have H : ((some (([(⟨0, 10⟩ : S70), (⟨5, 7⟩ : S70)] : List (S70)) : List (S70))).bind fun y134 => ((some (([(⟨0, 0, 0, (⟨(⟨#[]⟩ : ByteArray), 0, 0, 0⟩ : S57), 7, 0, (⟨(⟨#[97]⟩ : ByteArray), (⟨#[]⟩ : ByteArray)⟩ : S59), (⟨(⟨#[98]⟩ : ByteArray), (⟨#[]⟩ : ByteArray)⟩ : S59)⟩ : S61)] : List (S61)) : List (S61))).bind fun y137 => ((some (([(⟨(⟨#[98]⟩ : ByteArray), 4⟩ : S51)] : List (S51)) : List (S51))).bind fun y140 => ((fee_Lots.f k 4 3 y134).bind fun bt143 => ((fee_Flows.f k y137 y140 y134 0).bind fun bt145 => ((fee_Add.f k y140 y137).bind fun bt149 => (if bt143.1 = 24 then (if bt143.2 = 0 then (if bt145.2 = 0 then (if (bt145.1.length : Int) = 2 then (if 0 < (bt145.1.length : Int) then (if (eqD64 ((rd_T64 bt145.1 0).f0) (⟨#[97]⟩ : ByteArray) ((rd_T64 bt145.1 0).f1) 0 ((rd_T64 bt145.1 0).f2) (-64) ((rd_T64 bt145.1 0).f3) 5) = true then (if 1 < (bt145.1.length : Int) then (if ((rd_T64 bt145.1 1).f2) = (-52) then (if bt149.2 = 0 then (if (bt149.1.length : Int) = 2 then (if 0 < (bt149.1.length : Int) then (if (eqD51 ((rd_T51 bt149.1 0).f0) (⟨#[97]⟩ : ByteArray) ((rd_T51 bt149.1 0).f1) 7) = true then (if 1 < (bt149.1.length : Int) then (some (((rd_T51 bt149.1 1).f1) == 11)) else (none)) else (some false)) else (none)) else (some false)) else (some false)) else (some false)) else (none)) else (some false)) else (none)) else (some false)) else (some false)) else (some false)) else (some false)))))))) = some r := h
  clear h
  obtain ⟨y134, hy134⟩ : ∃ y_ : List (S70), y_ = (([(⟨0, 10⟩ : S70), (⟨5, 7⟩ : S70)] : List (S70))) := ⟨_, rfl⟩
  replace H : ((some (([(⟨0, 0, 0, (⟨(⟨#[]⟩ : ByteArray), 0, 0, 0⟩ : S57), 7, 0, (⟨(⟨#[97]⟩ : ByteArray), (⟨#[]⟩ : ByteArray)⟩ : S59), (⟨(⟨#[98]⟩ : ByteArray), (⟨#[]⟩ : ByteArray)⟩ : S59)⟩ : S61)] : List (S61)) : List (S61))).bind fun y137 => ((some (([(⟨(⟨#[98]⟩ : ByteArray), 4⟩ : S51)] : List (S51)) : List (S51))).bind fun y140 => ((fee_Lots.f k 4 3 y134).bind fun bt143 => ((fee_Flows.f k y137 y140 y134 0).bind fun bt145 => ((fee_Add.f k y140 y137).bind fun bt149 => (if bt143.1 = 24 then (if bt143.2 = 0 then (if bt145.2 = 0 then (if (bt145.1.length : Int) = 2 then (if 0 < (bt145.1.length : Int) then (if (eqD64 ((rd_T64 bt145.1 0).f0) (⟨#[97]⟩ : ByteArray) ((rd_T64 bt145.1 0).f1) 0 ((rd_T64 bt145.1 0).f2) (-64) ((rd_T64 bt145.1 0).f3) 5) = true then (if 1 < (bt145.1.length : Int) then (if ((rd_T64 bt145.1 1).f2) = (-52) then (if bt149.2 = 0 then (if (bt149.1.length : Int) = 2 then (if 0 < (bt149.1.length : Int) then (if (eqD51 ((rd_T51 bt149.1 0).f0) (⟨#[97]⟩ : ByteArray) ((rd_T51 bt149.1 0).f1) 7) = true then (if 1 < (bt149.1.length : Int) then (some (((rd_T51 bt149.1 1).f1) == 11)) else (none)) else (some false)) else (none)) else (some false)) else (some false)) else (some false)) else (none)) else (some false)) else (none)) else (some false)) else (some false)) else (some false)) else (some false))))))) = some r := by first | (rw [hy134]; with_reducible exact H) | (have H2_ := (Option.bind_some _ _).symm.trans H; rw [hy134]; with_reducible exact H2_) | (have H2_ := (Option.bind_some _ _).symm.trans H; with_reducible exact H2_) | with_reducible exact H | (rw [hy134]; exact H) | exact H
  have Ny134 := Aside0.mk hy134
  clear hy134
  obtain ⟨y137, hy137⟩ : ∃ y_ : List (S61), y_ = (([(⟨0, 0, 0, (⟨(⟨#[]⟩ : ByteArray), 0, 0, 0⟩ : S57), 7, 0, (⟨(⟨#[97]⟩ : ByteArray), (⟨#[]⟩ : ByteArray)⟩ : S59), (⟨(⟨#[98]⟩ : ByteArray), (⟨#[]⟩ : ByteArray)⟩ : S59)⟩ : S61)] : List (S61))) := ⟨_, rfl⟩
  replace H : ((some (([(⟨(⟨#[98]⟩ : ByteArray), 4⟩ : S51)] : List (S51)) : List (S51))).bind fun y140 => ((fee_Lots.f k 4 3 y134).bind fun bt143 => ((fee_Flows.f k y137 y140 y134 0).bind fun bt145 => ((fee_Add.f k y140 y137).bind fun bt149 => (if bt143.1 = 24 then (if bt143.2 = 0 then (if bt145.2 = 0 then (if (bt145.1.length : Int) = 2 then (if 0 < (bt145.1.length : Int) then (if (eqD64 ((rd_T64 bt145.1 0).f0) (⟨#[97]⟩ : ByteArray) ((rd_T64 bt145.1 0).f1) 0 ((rd_T64 bt145.1 0).f2) (-64) ((rd_T64 bt145.1 0).f3) 5) = true then (if 1 < (bt145.1.length : Int) then (if ((rd_T64 bt145.1 1).f2) = (-52) then (if bt149.2 = 0 then (if (bt149.1.length : Int) = 2 then (if 0 < (bt149.1.length : Int) then (if (eqD51 ((rd_T51 bt149.1 0).f0) (⟨#[97]⟩ : ByteArray) ((rd_T51 bt149.1 0).f1) 7) = true then (if 1 < (bt149.1.length : Int) then (some (((rd_T51 bt149.1 1).f1) == 11)) else (none)) else (some false)) else (none)) else (some false)) else (some false)) else (some false)) else (none)) else (some false)) else (none)) else (some false)) else (some false)) else (some false)) else (some false)))))) = some r := by first | (rw [hy137]; with_reducible exact H) | (have H2_ := (Option.bind_some _ _).symm.trans H; rw [hy137]; with_reducible exact H2_) | (have H2_ := (Option.bind_some _ _).symm.trans H; with_reducible exact H2_) | with_reducible exact H | (rw [hy137]; exact H) | exact H
  have Ny137 := Aside0.mk hy137
  clear hy137
  obtain ⟨y140, hy140⟩ : ∃ y_ : List (S51), y_ = (([(⟨(⟨#[98]⟩ : ByteArray), 4⟩ : S51)] : List (S51))) := ⟨_, rfl⟩
  replace H : ((fee_Lots.f k 4 3 y134).bind fun bt143 => ((fee_Flows.f k y137 y140 y134 0).bind fun bt145 => ((fee_Add.f k y140 y137).bind fun bt149 => (if bt143.1 = 24 then (if bt143.2 = 0 then (if bt145.2 = 0 then (if (bt145.1.length : Int) = 2 then (if 0 < (bt145.1.length : Int) then (if (eqD64 ((rd_T64 bt145.1 0).f0) (⟨#[97]⟩ : ByteArray) ((rd_T64 bt145.1 0).f1) 0 ((rd_T64 bt145.1 0).f2) (-64) ((rd_T64 bt145.1 0).f3) 5) = true then (if 1 < (bt145.1.length : Int) then (if ((rd_T64 bt145.1 1).f2) = (-52) then (if bt149.2 = 0 then (if (bt149.1.length : Int) = 2 then (if 0 < (bt149.1.length : Int) then (if (eqD51 ((rd_T51 bt149.1 0).f0) (⟨#[97]⟩ : ByteArray) ((rd_T51 bt149.1 0).f1) 7) = true then (if 1 < (bt149.1.length : Int) then (some (((rd_T51 bt149.1 1).f1) == 11)) else (none)) else (some false)) else (none)) else (some false)) else (some false)) else (some false)) else (none)) else (some false)) else (none)) else (some false)) else (some false)) else (some false)) else (some false))))) = some r := by first | (rw [hy140]; with_reducible exact H) | (have H2_ := (Option.bind_some _ _).symm.trans H; rw [hy140]; with_reducible exact H2_) | (have H2_ := (Option.bind_some _ _).symm.trans H; with_reducible exact H2_) | with_reducible exact H | (rw [hy140]; exact H) | exact H
  have Ny140 := Aside0.mk hy140
  clear hy140
  replace H := Option.bind_eq_some_iff.mp H
  obtain ⟨⟨t143, t144⟩, A10, H⟩ := H
  replace H : ((fee_Flows.f k y137 y140 y134 0).bind fun bt145 => ((fee_Add.f k y140 y137).bind fun bt149 => (if t143 = 24 then (if t144 = 0 then (if bt145.2 = 0 then (if (bt145.1.length : Int) = 2 then (if 0 < (bt145.1.length : Int) then (if (eqD64 ((rd_T64 bt145.1 0).f0) (⟨#[97]⟩ : ByteArray) ((rd_T64 bt145.1 0).f1) 0 ((rd_T64 bt145.1 0).f2) (-64) ((rd_T64 bt145.1 0).f3) 5) = true then (if 1 < (bt145.1.length : Int) then (if ((rd_T64 bt145.1 1).f2) = (-52) then (if bt149.2 = 0 then (if (bt149.1.length : Int) = 2 then (if 0 < (bt149.1.length : Int) then (if (eqD51 ((rd_T51 bt149.1 0).f0) (⟨#[97]⟩ : ByteArray) ((rd_T51 bt149.1 0).f1) 7) = true then (if 1 < (bt149.1.length : Int) then (some (((rd_T51 bt149.1 1).f1) == 11)) else (none)) else (some false)) else (none)) else (some false)) else (some false)) else (some false)) else (none)) else (some false)) else (none)) else (some false)) else (some false)) else (some false)) else (some false)))) = some r := H
  have A1 := Aside0.mk A10
  clear A10
  replace H := Option.bind_eq_some_iff.mp H
  obtain ⟨⟨t145, t146⟩, A20, H⟩ := H
  replace H : ((fee_Add.f k y140 y137).bind fun bt149 => (if t143 = 24 then (if t144 = 0 then (if t146 = 0 then (if (t145.length : Int) = 2 then (if 0 < (t145.length : Int) then (if (eqD64 ((rd_T64 t145 0).f0) (⟨#[97]⟩ : ByteArray) ((rd_T64 t145 0).f1) 0 ((rd_T64 t145 0).f2) (-64) ((rd_T64 t145 0).f3) 5) = true then (if 1 < (t145.length : Int) then (if ((rd_T64 t145 1).f2) = (-52) then (if bt149.2 = 0 then (if (bt149.1.length : Int) = 2 then (if 0 < (bt149.1.length : Int) then (if (eqD51 ((rd_T51 bt149.1 0).f0) (⟨#[97]⟩ : ByteArray) ((rd_T51 bt149.1 0).f1) 7) = true then (if 1 < (bt149.1.length : Int) then (some (((rd_T51 bt149.1 1).f1) == 11)) else (none)) else (some false)) else (none)) else (some false)) else (some false)) else (some false)) else (none)) else (some false)) else (none)) else (some false)) else (some false)) else (some false)) else (some false))) = some r := H
  have A2 := Aside0.mk A20
  clear A20
  replace H := Option.bind_eq_some_iff.mp H
  obtain ⟨⟨t149, t150⟩, A30, H⟩ := H
  replace H : (if t143 = 24 then (if t144 = 0 then (if t146 = 0 then (if (t145.length : Int) = 2 then (if 0 < (t145.length : Int) then (if (eqD64 ((rd_T64 t145 0).f0) (⟨#[97]⟩ : ByteArray) ((rd_T64 t145 0).f1) 0 ((rd_T64 t145 0).f2) (-64) ((rd_T64 t145 0).f3) 5) = true then (if 1 < (t145.length : Int) then (if ((rd_T64 t145 1).f2) = (-52) then (if t150 = 0 then (if (t149.length : Int) = 2 then (if 0 < (t149.length : Int) then (if (eqD51 ((rd_T51 t149 0).f0) (⟨#[97]⟩ : ByteArray) ((rd_T51 t149 0).f1) 7) = true then (if 1 < (t149.length : Int) then (some (((rd_T51 t149 1).f1) == 11)) else (none)) else (some false)) else (none)) else (some false)) else (some false)) else (some false)) else (none)) else (some false)) else (none)) else (some false)) else (some false)) else (some false)) else (some false)) = some r := H
  have A3 := Aside0.mk A30
  clear A30
  by_cases c4 : t143 = 24
  · rw [if_pos c4] at H
    have c4b0 : (t143 == 24) = true := beq_iff_eq.mpr c4
    have c4b1 : (t143 != 24) = false := bne_eq_false_iff_eq.mpr c4
    clear c4
    by_cases c5 : t144 = 0
    · rw [if_pos c5] at H
      have c5b0 : (t144 == 0) = true := beq_iff_eq.mpr c5
      have c5b1 : (t144 != 0) = false := bne_eq_false_iff_eq.mpr c5
      clear c5
      by_cases c6 : t146 = 0
      · rw [if_pos c6] at H
        have c6b0 : (t146 == 0) = true := beq_iff_eq.mpr c6
        have c6b1 : (t146 != 0) = false := bne_eq_false_iff_eq.mpr c6
        clear c6
        by_cases c7 : (t145.length : Int) = 2
        · rw [if_pos c7] at H
          have c7b0 : ((t145.length : Int) == 2) = true := beq_iff_eq.mpr c7
          have c7b1 : ((t145.length : Int) != 2) = false := bne_eq_false_iff_eq.mpr c7
          clear c7
          by_cases c8 : 0 < (t145.length : Int)
          · rw [if_pos c8] at H
            have c8b0 : decide (0 < (t145.length : Int)) = true := decide_eq_true c8
            have c8b1 : decide (0 < t145.length) = true := decide_eq_true (by omega)
            clear c8
            by_cases c9 : (eqD64 ((rd_T64 t145 0).f0) (⟨#[97]⟩ : ByteArray) ((rd_T64 t145 0).f1) 0 ((rd_T64 t145 0).f2) (-64) ((rd_T64 t145 0).f3) 5) = true
            · rw [if_pos c9] at H
              have c9b0 : (eqD64 ((rd_T64 t145 0).f0) (⟨#[97]⟩ : ByteArray) ((rd_T64 t145 0).f1) 0 ((rd_T64 t145 0).f2) (-64) ((rd_T64 t145 0).f3) 5) = true := c9
              clear c9
              by_cases c10 : 1 < (t145.length : Int)
              · rw [if_pos c10] at H
                have c10b0 : decide (1 < (t145.length : Int)) = true := decide_eq_true c10
                have c10b1 : decide (1 < t145.length) = true := decide_eq_true (by omega)
                clear c10
                by_cases c11 : ((rd_T64 t145 1).f2) = (-52)
                · rw [if_pos c11] at H
                  have c11b0 : (((rd_T64 t145 1).f2) == (-52)) = true := beq_iff_eq.mpr c11
                  have c11b1 : (((rd_T64 t145 1).f2) != (-52)) = false := bne_eq_false_iff_eq.mpr c11
                  clear c11
                  by_cases c12 : t150 = 0
                  · rw [if_pos c12] at H
                    have c12b0 : (t150 == 0) = true := beq_iff_eq.mpr c12
                    have c12b1 : (t150 != 0) = false := bne_eq_false_iff_eq.mpr c12
                    clear c12
                    by_cases c13 : (t149.length : Int) = 2
                    · rw [if_pos c13] at H
                      have c13b0 : ((t149.length : Int) == 2) = true := beq_iff_eq.mpr c13
                      have c13b1 : ((t149.length : Int) != 2) = false := bne_eq_false_iff_eq.mpr c13
                      clear c13
                      by_cases c14 : 0 < (t149.length : Int)
                      · rw [if_pos c14] at H
                        have c14b0 : decide (0 < (t149.length : Int)) = true := decide_eq_true c14
                        have c14b1 : decide (0 < t149.length) = true := decide_eq_true (by omega)
                        clear c14
                        by_cases c15 : (eqD51 ((rd_T51 t149 0).f0) (⟨#[97]⟩ : ByteArray) ((rd_T51 t149 0).f1) 7) = true
                        · rw [if_pos c15] at H
                          have c15b0 : (eqD51 ((rd_T51 t149 0).f0) (⟨#[97]⟩ : ByteArray) ((rd_T51 t149 0).f1) 7) = true := c15
                          clear c15
                          by_cases c16 : 1 < (t149.length : Int)
                          · rw [if_pos c16] at H
                            have c16b0 : decide (1 < (t149.length : Int)) = true := decide_eq_true c16
                            have c16b1 : decide (1 < t149.length) = true := decide_eq_true (by omega)
                            clear c16
                            obtain rfl := Option.some.inj H
                            go_enter Try.func12, Try.ntmps12
                            go_wp2_with (first | ((with_reducible refine gate_dst (N := 12) rfl ?_); (try (refine gate_guard (by rfl) ?_; dsimp only)); refine Kd.R_lit k70 _ 70 ?hg (N := 12) ?hd (xs := ([(⟨0, 10⟩ : S70), (⟨5, 7⟩ : S70)] : List (S70))) (inner := [.int .i64 0, .int .i64 10, .int .i64 5, .int .i64 7]) (ok := fun _ => True) (okp := fun _ => True) ?hr ?hp (fun _ hk => hk) trivial (Below.refl _ _) (Nat.le_refl _) (by simp) ?_; (case hd => rfl); (case hg => rfl); (case hr => first | (go_simp; done) | (go_simp; rfl)); (case hp => exact (Reps.c2 (show Kd.M k70 _ _ _ (⟨0, 10⟩ : S70) [.int .i64 0, .int .i64 10] from (k70_mkM _ _ _ (⟨0, 10⟩ : S70) )) (Reps.c2 (show Kd.M k70 _ _ _ (⟨5, 7⟩ : S70) [.int .i64 5, .int .i64 7] from (k70_mkM _ _ _ (⟨5, 7⟩ : S70) )) (Reps.none _ _)))); intro v135 w17 ho18 hb hg_ hnew_; clear hg_ hnew_; (first | rw [← Ny134.out] at ho18 | (simp only [Int.reduceToNat] at ho18; rw [← Ny134.out] at ho18)); have n0_ := Aside0.mk (Kd.R_lower ho18 (below_size (by repeat (first | (with_reducible first | exact HB.out | apply below_alloc | apply pw_below_drewN | apply below_drew1) | exact HB.out)))); have n1_ := Aside0.mk (below_step (by repeat (first | (with_reducible first | exact HB.out | apply below_alloc | apply pw_below_drewN | apply below_drew1) | exact HB.out)) hb); clear HB; have HO136 := n0_; have HB := n1_; clear n0_ n1_; clear hb ho18) | ((with_reducible refine gate_dst (N := 16) rfl ?_); (try (refine gate_guard (by rfl) ?_; dsimp only)); refine Kd.R_lit k61 _ 61 ?hg (N := 16) ?hd (xs := ([(⟨0, 0, 0, (⟨(⟨#[]⟩ : ByteArray), 0, 0, 0⟩ : S57), 7, 0, (⟨(⟨#[97]⟩ : ByteArray), (⟨#[]⟩ : ByteArray)⟩ : S59), (⟨(⟨#[98]⟩ : ByteArray), (⟨#[]⟩ : ByteArray)⟩ : S59)⟩ : S61)] : List (S61))) (inner := [.int .i64 0, .int .i64 0, .int .i64 0, .string (⟨#[]⟩ : ByteArray), .int .i64 0, .int .i64 0, .int .i64 0, .int .i64 7, .int .i64 0, .string (⟨#[97]⟩ : ByteArray), .string (⟨#[]⟩ : ByteArray), .string (⟨#[98]⟩ : ByteArray), .string (⟨#[]⟩ : ByteArray)]) (ok := fun _ => True) (okp := fun _ => True) ?hr ?hp (fun _ hk => hk) trivial (Below.refl _ _) (Nat.le_refl _) (by simp) ?_; (case hd => rfl); (case hg => rfl); (case hr => first | (go_simp; done) | (go_simp; rfl)); (case hp => exact (Reps.front (show Kd.M k61 _ _ _ (⟨0, 0, 0, (⟨(⟨#[]⟩ : ByteArray), 0, 0, 0⟩ : S57), 7, 0, (⟨(⟨#[97]⟩ : ByteArray), (⟨#[]⟩ : ByteArray)⟩ : S59), (⟨(⟨#[98]⟩ : ByteArray), (⟨#[]⟩ : ByteArray)⟩ : S59)⟩ : S61) [.int .i64 0, .int .i64 0, .int .i64 0, .string (⟨#[]⟩ : ByteArray), .int .i64 0, .int .i64 0, .int .i64 0, .int .i64 7, .int .i64 0, .string (⟨#[97]⟩ : ByteArray), .string (⟨#[]⟩ : ByteArray), .string (⟨#[98]⟩ : ByteArray), .string (⟨#[]⟩ : ByteArray)] from (k61_mkM _ _ _ (⟨0, 0, 0, (⟨(⟨#[]⟩ : ByteArray), 0, 0, 0⟩ : S57), 7, 0, (⟨(⟨#[97]⟩ : ByteArray), (⟨#[]⟩ : ByteArray)⟩ : S59), (⟨(⟨#[98]⟩ : ByteArray), (⟨#[]⟩ : ByteArray)⟩ : S59)⟩ : S61) )) rfl (Reps.none _ _) rfl)); intro v138 w19 ho20 hb hg_ hnew_; clear hg_ hnew_; (first | rw [← Ny137.out] at ho20 | (simp only [Int.reduceToNat] at ho20; rw [← Ny137.out] at ho20)); have n0_ := Aside0.mk (Kd.R_below (by (with_reducible repeat (first | apply Kd.R_alloc | apply Kd.R_drewN | apply Kd.R_drew)); exact HO136.out) hb); have n1_ := Aside0.mk (Kd.R_lower ho20 (below_size (by repeat (first | (with_reducible first | exact HB.out | apply below_alloc | apply pw_below_drewN | apply below_drew1) | exact HB.out)))); have n2_ := Aside0.mk (below_step (by repeat (first | (with_reducible first | exact HB.out | apply below_alloc | apply pw_below_drewN | apply below_drew1) | exact HB.out)) hb); clear HO136; clear HB; have HO136 := n0_; have HO139 := n1_; have HB := n2_; clear n0_ n1_ n2_; clear hb ho20) | ((with_reducible refine gate_dst (N := 18) rfl ?_); (try (refine gate_guard (by rfl) ?_; dsimp only)); refine Kd.R_lit k51 _ 51 ?hg (N := 18) ?hd (xs := ([(⟨(⟨#[98]⟩ : ByteArray), 4⟩ : S51)] : List (S51))) (inner := [.string (⟨#[98]⟩ : ByteArray), .int .i64 4]) (ok := fun _ => True) (okp := fun _ => True) ?hr ?hp (fun _ hk => hk) trivial (Below.refl _ _) (Nat.le_refl _) (by simp) ?_; (case hd => rfl); (case hg => rfl); (case hr => first | (go_simp; done) | (go_simp; rfl)); (case hp => exact (Reps.c2 (show Kd.M k51 _ _ _ (⟨(⟨#[98]⟩ : ByteArray), 4⟩ : S51) [.string (⟨#[98]⟩ : ByteArray), .int .i64 4] from (k51_mkM _ _ _ (⟨(⟨#[98]⟩ : ByteArray), 4⟩ : S51) )) (Reps.none _ _))); intro v141 w21 ho22 hb hg_ hnew_; clear hg_ hnew_; (first | rw [← Ny140.out] at ho22 | (simp only [Int.reduceToNat] at ho22; rw [← Ny140.out] at ho22)); have n0_ := Aside0.mk (Kd.R_below (by (with_reducible repeat (first | apply Kd.R_alloc | apply Kd.R_drewN | apply Kd.R_drew)); exact HO136.out) hb); have n1_ := Aside0.mk (Kd.R_below (by (with_reducible repeat (first | apply Kd.R_alloc | apply Kd.R_drewN | apply Kd.R_drew)); exact HO139.out) hb); have n2_ := Aside0.mk (Kd.R_lower ho22 (below_size (by repeat (first | (with_reducible first | exact HB.out | apply below_alloc | apply pw_below_drewN | apply below_drew1) | exact HB.out)))); have n3_ := Aside0.mk (below_step (by repeat (first | (with_reducible first | exact HB.out | apply below_alloc | apply pw_below_drewN | apply below_drew1) | exact HB.out)) hb); clear HO136; clear HO139; clear HB; have HO136 := n0_; have HO139 := n1_; have HO142 := n2_; have HB := n3_; clear n0_ n1_ n2_ n3_; clear hb ho22; obtain ⟨Ao23, co23, eo23⟩ := Kd.R_slice HO136.out; subst eo23) | ((with_reducible refine gate_callee (f := 7) rfl ?_); refine goesL_ (some 21) rfl rfl Try.func7 (by kernel_rfl) rfl #[.int .i64 4, .int .i64 3, .slice Ao23 y134.length co23] rfl (by (try simp only [List.map_toArray, List.map_cons, List.map_nil]); first | done | rfl | (simp only [List.length_drop, List.length_take]; rfl)) ?_; (with_reducible refine (fee_Lots.calls k 4 3 _ _ y134 t143 t144 _ ?side1 ?side2 A1.out).mono ?_); (case side1 => repeat (first | exact (Kd.R_reads' HO136.out).2.2 | (with_reducible refine Kd.C_alloc ?_ _) | (with_reducible refine Kd.C_drewN ?_ _) | (with_reducible refine Kd.C_drew ?_))); (case side2 => exact (Kd.R_reads' HO136.out).2.1); rintro e w24 ⟨rfl, hb⟩; refine ⟨_, rfl, ?_⟩; have n0_ := Aside0.mk (Kd.R_below (by (with_reducible repeat (first | apply Kd.R_alloc | apply Kd.R_drewN | apply Kd.R_drew)); exact HO136.out) hb); have n1_ := Aside0.mk (Kd.R_below (by (with_reducible repeat (first | apply Kd.R_alloc | apply Kd.R_drewN | apply Kd.R_drew)); exact HO139.out) hb); have n2_ := Aside0.mk (Kd.R_below (by (with_reducible repeat (first | apply Kd.R_alloc | apply Kd.R_drewN | apply Kd.R_drew)); exact HO142.out) hb); have n3_ := Aside0.mk (below_step (by repeat (first | (with_reducible first | exact HB.out | apply below_alloc | apply pw_below_drewN | apply below_drew1) | exact HB.out)) hb); clear HO136; clear HO139; clear HO142; clear HB; have HO136 := n0_; have HO139 := n1_; have HO142 := n2_; have HB := n3_; clear n0_ n1_ n2_ n3_; (try clear hb); (try clear hb2); (try clear hk); (try clear hi); obtain ⟨Ao25, co25, eo25⟩ := Kd.R_slice HO139.out; subst eo25; obtain ⟨Ao26, co26, eo26⟩ := Kd.R_slice HO142.out; subst eo26) | ((with_reducible refine gate_callee (f := 13) rfl ?_); refine goesL_ (some 28) rfl rfl Try.func13 (by kernel_rfl) rfl #[.slice Ao25 y137.length co25, .slice Ao26 y140.length co26, .slice Ao23 y134.length co23, .int .i64 0] rfl (by (try simp only [List.map_toArray, List.map_cons, List.map_nil]); first | done | rfl | (simp only [List.length_drop, List.length_take]; rfl)) ?_; (with_reducible refine (fee_Flows.calls k _ _ y137 _ _ y140 _ _ y134 0 t145 t146 _ ?side1 ?side2 ?side3 ?side4 ?side5 ?side6 A2.out).mono ?_); (case side1 => repeat (first | exact (Kd.R_reads' HO139.out).2.2 | (with_reducible refine Kd.C_alloc ?_ _) | (with_reducible refine Kd.C_drewN ?_ _) | (with_reducible refine Kd.C_drew ?_))); (case side2 => exact (Kd.R_reads' HO139.out).2.1); (case side3 => repeat (first | exact (Kd.R_reads' HO142.out).2.2 | (with_reducible refine Kd.C_alloc ?_ _) | (with_reducible refine Kd.C_drewN ?_ _) | (with_reducible refine Kd.C_drew ?_))); (case side4 => exact (Kd.R_reads' HO142.out).2.1); (case side5 => repeat (first | exact (Kd.R_reads' HO136.out).2.2 | (with_reducible refine Kd.C_alloc ?_ _) | (with_reducible refine Kd.C_drewN ?_ _) | (with_reducible refine Kd.C_drew ?_))); (case side6 => exact (Kd.R_reads' HO136.out).2.1); rintro e w27 ⟨v147, rfl, ho0, hb⟩; refine ⟨_, rfl, ?_⟩; have n0_ := Aside0.mk (Kd.R_below (by (with_reducible repeat (first | apply Kd.R_alloc | apply Kd.R_drewN | apply Kd.R_drew)); exact HO136.out) hb); have n1_ := Aside0.mk (Kd.R_below (by (with_reducible repeat (first | apply Kd.R_alloc | apply Kd.R_drewN | apply Kd.R_drew)); exact HO139.out) hb); have n2_ := Aside0.mk (Kd.R_below (by (with_reducible repeat (first | apply Kd.R_alloc | apply Kd.R_drewN | apply Kd.R_drew)); exact HO142.out) hb); have n3_ := Aside0.mk (Kd.R_lower ho0 (below_size (by repeat (first | (with_reducible first | exact HB.out | apply below_alloc | apply pw_below_drewN | apply below_drew1) | exact HB.out)))); have n4_ := Aside0.mk (below_step (by repeat (first | (with_reducible first | exact HB.out | apply below_alloc | apply pw_below_drewN | apply below_drew1) | exact HB.out)) hb); clear HO136; clear HO139; clear HO142; clear HB; have HO136 := n0_; have HO139 := n1_; have HO142 := n2_; have HO148 := n3_; have HB := n4_; clear n0_ n1_ n2_ n3_ n4_; (try clear hb); (try clear hb2); (try clear hk); (try clear hi); (try clear ho0)) | ((with_reducible refine gate_callee (f := 16) rfl ?_); refine goesL_ (some 34) rfl rfl Try.func16 (by kernel_rfl) rfl #[.slice Ao26 y140.length co26, .slice Ao25 y137.length co25] rfl (by (try simp only [List.map_toArray, List.map_cons, List.map_nil]); first | done | rfl | (simp only [List.length_drop, List.length_take]; rfl)) ?_; (with_reducible refine (fee_Add.calls k _ _ y140 _ _ y137 t149 t150 _ ?side1 ?side2 ?side3 ?side4 A3.out).mono ?_); (case side1 => repeat (first | exact (Kd.R_reads' HO142.out).2.2 | (with_reducible refine Kd.C_alloc ?_ _) | (with_reducible refine Kd.C_drewN ?_ _) | (with_reducible refine Kd.C_drew ?_))); (case side2 => exact (Kd.R_reads' HO142.out).2.1); (case side3 => repeat (first | exact (Kd.R_reads' HO139.out).2.2 | (with_reducible refine Kd.C_alloc ?_ _) | (with_reducible refine Kd.C_drewN ?_ _) | (with_reducible refine Kd.C_drew ?_))); (case side4 => exact (Kd.R_reads' HO139.out).2.1); rintro e w28 ⟨v151, rfl, ho0, hb⟩; refine ⟨_, rfl, ?_⟩; have n0_ := Aside0.mk (Kd.R_below (by (with_reducible repeat (first | apply Kd.R_alloc | apply Kd.R_drewN | apply Kd.R_drew)); exact HO136.out) hb); have n1_ := Aside0.mk (Kd.R_below (by (with_reducible repeat (first | apply Kd.R_alloc | apply Kd.R_drewN | apply Kd.R_drew)); exact HO139.out) hb); have n2_ := Aside0.mk (Kd.R_elder' (by (with_reducible repeat (first | apply Kd.R_alloc | apply Kd.R_drewN | apply Kd.R_drew)); exact HO142.out) (Kd.R_base ho0) hb); have n3_ := Aside0.mk (Kd.R_below (by (with_reducible repeat (first | apply Kd.R_alloc | apply Kd.R_drewN | apply Kd.R_drew)); exact HO148.out) hb); have n4_ := Aside0.mk (Kd.R_lower (Kd.R_new' ho0 (Kd.R_lt (by (with_reducible repeat (first | apply Kd.R_alloc | apply Kd.R_drewN | apply Kd.R_drew)); exact HO142.out))) (below_size (by repeat (first | (with_reducible first | exact HB.out | apply below_alloc | apply pw_below_drewN | apply below_drew1) | exact HB.out)))); have n5_ := Aside0.mk (below_step (by repeat (first | (with_reducible first | exact HB.out | apply below_alloc | apply pw_below_drewN | apply below_drew1) | exact HB.out)) hb); clear HO136; clear HO139; clear HO142; clear HO148; clear HB; have HO136 := n0_; have HO139 := n1_; have HO142 := n2_; have HO148 := n3_; have HO152 := n4_; have HB := n5_; clear n0_ n1_ n2_ n3_ n4_ n5_; (try clear hb); (try clear hb2); (try clear hk); (try clear hi); (try clear ho0); obtain ⟨Ao29, co29, eo29⟩ := Kd.R_slice HO148.out; subst eo29; have p153 : 0 ≤ (0 : Int) := (by omega); have q153 : 0 < (t145.length : Int) := of_decide_eq_true (by first | (with_reducible assumption) | assumption); obtain ⟨ad153, e153, hx153_0, hx153_1, hx153_2, hx153_3⟩ := at_T64 (Kd.R_reads' HO148.out).2.2 0 p153 q153; cases e153; have qi153 : (0 < t145.length) = True := eq_true (by omega); (try rw [show ((0 : Int)).toNat = 0 from rfl] at hx153_0); (try rw [show 0 * 4 = 0 from rfl] at hx153_0); (try rw [Addr.add_zero'] at hx153_0); (try rw [show ((0 : Int)).toNat = 0 from rfl] at hx153_1); (try rw [show 0 * 4 = 0 from rfl] at hx153_1); (try rw [Addr.add_zero'] at hx153_1); (try rw [show ((0 : Int)).toNat = 0 from rfl] at hx153_2); (try rw [show 0 * 4 = 0 from rfl] at hx153_2); (try rw [Addr.add_zero'] at hx153_2); (try rw [show ((0 : Int)).toNat = 0 from rfl] at hx153_3); (try rw [show 0 * 4 = 0 from rfl] at hx153_3); (try rw [Addr.add_zero'] at hx153_3); replace p153 := eq_true p153; replace q153 := eq_true q153; have p154 : 0 ≤ (1 : Int) := (by omega); have q154 : 1 < (t145.length : Int) := of_decide_eq_true (by first | (with_reducible assumption) | assumption); obtain ⟨ad154, e154, hx154_0, hx154_1, hx154_2, hx154_3⟩ := at_T64 (Kd.R_reads' HO148.out).2.2 1 p154 q154; obtain rfl : ad153 = ad154 := (by injection e154); (try simp only [show (1 : Int).toNat = 1 from rfl, Nat.reduceMul, Nat.reduceEqDiff, Go.Addr.add, ↓reduceIte] at hx154_0); (try simp only [show (1 : Int).toNat = 1 from rfl, Nat.reduceMul, Nat.reduceEqDiff, Go.Addr.add, ↓reduceIte] at hx154_1); (try simp only [show (1 : Int).toNat = 1 from rfl, Nat.reduceMul, Nat.reduceEqDiff, Go.Addr.add, ↓reduceIte] at hx154_2); (try simp only [show (1 : Int).toNat = 1 from rfl, Nat.reduceMul, Nat.reduceEqDiff, Go.Addr.add, ↓reduceIte] at hx154_3); have qi154 : (1 < t145.length) = True := eq_true (by omega); (try rw [show ((1 : Int)).toNat = 1 from rfl] at hx154_0); (try rw [show 1 * 4 = 4 from rfl] at hx154_0); (try rw [show ((1 : Int)).toNat = 1 from rfl] at hx154_1); (try rw [show 1 * 4 = 4 from rfl] at hx154_1); (try rw [show ((1 : Int)).toNat = 1 from rfl] at hx154_2); (try rw [show 1 * 4 = 4 from rfl] at hx154_2); (try rw [show ((1 : Int)).toNat = 1 from rfl] at hx154_3); (try rw [show 1 * 4 = 4 from rfl] at hx154_3); replace p154 := eq_true p154; replace q154 := eq_true q154; obtain ⟨Ao30, co30, eo30⟩ := Kd.R_slice HO152.out; subst eo30; have p155 : 0 ≤ (0 : Int) := (by omega); have q155 : 0 < (t149.length : Int) := of_decide_eq_true (by first | (with_reducible assumption) | assumption); obtain ⟨ad155, e155, hx155_0, hx155_1⟩ := at_T51 (Kd.R_reads' HO152.out).2.2 0 p155 q155; cases e155; have qi155 : (0 < t149.length) = True := eq_true (by omega); (try rw [show ((0 : Int)).toNat = 0 from rfl] at hx155_0); (try rw [show 0 * 2 = 0 from rfl] at hx155_0); (try rw [Addr.add_zero'] at hx155_0); (try rw [show ((0 : Int)).toNat = 0 from rfl] at hx155_1); (try rw [show 0 * 2 = 0 from rfl] at hx155_1); (try rw [Addr.add_zero'] at hx155_1); replace p155 := eq_true p155; replace q155 := eq_true q155; have p156 : 0 ≤ (1 : Int) := (by omega); have q156 : 1 < (t149.length : Int) := of_decide_eq_true (by first | (with_reducible assumption) | assumption); obtain ⟨ad156, e156, hx156_0, hx156_1⟩ := at_T51 (Kd.R_reads' HO152.out).2.2 1 p156 q156; obtain rfl : ad155 = ad156 := (by injection e156); (try simp only [show (1 : Int).toNat = 1 from rfl, Nat.reduceMul, Nat.reduceEqDiff, Go.Addr.add, ↓reduceIte] at hx156_0); (try simp only [show (1 : Int).toNat = 1 from rfl, Nat.reduceMul, Nat.reduceEqDiff, Go.Addr.add, ↓reduceIte] at hx156_1); have qi156 : (1 < t149.length) = True := eq_true (by omega); (try rw [show ((1 : Int)).toNat = 1 from rfl] at hx156_0); (try rw [show 1 * 2 = 2 from rfl] at hx156_0); (try rw [show ((1 : Int)).toNat = 1 from rfl] at hx156_1); (try rw [show 1 * 2 = 2 from rfl] at hx156_1); replace p156 := eq_true p156; replace q156 := eq_true q156))
                            go_ret
                            exact ⟨by first | rfl | (simp [errW_none, errW_some] <;> rfl) | (simp [*, errW_none, errW_some] <;> rfl), by repeat (first | (with_reducible first | exact HB.out | apply below_alloc | apply pw_below_drewN | apply below_drew1) | exact HB.out)⟩
                          · rw [if_neg c16] at H
                            exact absurd H (by simp)
                        · rw [if_neg c15] at H
                          exact absurd (H.trans (congrArg some HRT.out)) (by first | simp [] | (simp only []; (repeat' split) <;> simp))
                      · rw [if_neg c14] at H
                        exact absurd H (by simp)
                    · rw [if_neg c13] at H
                      exact absurd (H.trans (congrArg some HRT.out)) (by first | simp [] | (simp only []; (repeat' split) <;> simp))
                  · rw [if_neg c12] at H
                    exact absurd (H.trans (congrArg some HRT.out)) (by first | simp [] | (simp only []; (repeat' split) <;> simp))
                · rw [if_neg c11] at H
                  exact absurd (H.trans (congrArg some HRT.out)) (by first | simp [] | (simp only []; (repeat' split) <;> simp))
              · rw [if_neg c10] at H
                exact absurd H (by simp)
            · rw [if_neg c9] at H
              exact absurd (H.trans (congrArg some HRT.out)) (by first | simp [] | (simp only []; (repeat' split) <;> simp))
          · rw [if_neg c8] at H
            exact absurd H (by simp)
        · rw [if_neg c7] at H
          exact absurd (H.trans (congrArg some HRT.out)) (by first | simp [] | (simp only []; (repeat' split) <;> simp))
      · rw [if_neg c6] at H
        exact absurd (H.trans (congrArg some HRT.out)) (by first | simp [] | (simp only []; (repeat' split) <;> simp))
    · rw [if_neg c5] at H
      exact absurd (H.trans (congrArg some HRT.out)) (by first | simp [] | (simp only []; (repeat' split) <;> simp))
  · rw [if_neg c4] at H
    exact absurd (H.trans (congrArg some HRT.out)) (by first | simp [] | (simp only []; (repeat' split) <;> simp))

/-! ### contangolaw38_Counts: function 14 -/
def contangolaw38_Counts.l0 : Nat → List (S52) → List (S51) → Int → Option ((List (S51)))
  | 0, _, _, _ => none
  | k + 1, x0, x3, x4 => if x4 < (x0.length : Int) then (if 0 ≤ x4 then (if x3.length < 5864062014805 then (contangolaw38_Counts.l0 k x0 (x3 ++ [(⟨(rd_T52 x0 x4).f0, (rd_T52 x0 x4).f1⟩ : S51)]) (wrap64 (x4 + 1))) else (none)) else (none)) else (some x3)
def contangolaw38_Counts.f (k : Nat) (l0 : List (S52)) : Option ((List (S51))) := contangolaw38_Counts.l0 k l0 ([] : List (S51)) 0
theorem contangolaw38_Counts.mono_l : ∀ k, (∀ y0 y1 y2, LeO (contangolaw38_Counts.l0 k y0 y1 y2) (contangolaw38_Counts.l0 (k + 1) y0 y1 y2))
  | 0 => fun _ _ _ r h => by simp [contangolaw38_Counts.l0] at h
  | k + 1 => by
    have ih0 := contangolaw38_Counts.mono_l k
    · intro y0 y1 y2
      unfold contangolaw38_Counts.l0
      repeat' first
      | (with_reducible exact ih0 _ _ _)
      | (with_reducible exact LeO.refl _)
      | (with_reducible exact LeO.none _)
      | (with_reducible refine LeO.ite ?_ ?_)
      | (with_reducible refine LeO.bind ?_ (fun _ => ?_))
      | exact ih0 _ _ _
      | exact LeO.none _
      | refine LeO.ite ?_ ?_
      | refine LeO.bind ?_ (fun _ => ?_)
theorem contangolaw38_Counts.mono : ∀ a0 k, LeO (contangolaw38_Counts.f k a0) (contangolaw38_Counts.f (k + 1) a0) := by
  intro a0 k
  have ih0 := contangolaw38_Counts.mono_l k
  unfold contangolaw38_Counts.f
  repeat' first
      | (with_reducible exact ih0 _ _ _)
      | (with_reducible exact LeO.refl _)
      | (with_reducible exact LeO.none _)
      | (with_reducible refine LeO.ite ?_ ?_)
      | (with_reducible refine LeO.bind ?_ (fun _ => ?_))
      | exact ih0 _ _ _
      | exact LeO.none _
      | refine LeO.ite ?_ ?_
      | refine LeO.bind ?_ (fun _ => ?_)
def contangolaw38_Counts.T5 : Bool × List (List Nat × List Nat) := (true, [([], []), ([], []), ([], []), ([1, 2], [1, 2]), ([3], [3]), ([4], [4]), ([], []), ([], []), ([6, 7], [6, 7]), ([8], [8]), ([9], [9]), ([5, 10], [5, 10]), ([11], [11]), ([0, 12], [0, 12]), ([13, 13, 0, 1, 2, 3, 4, 5, 6, 7, 8, 9, 10, 11, 12, 13], [0, 13])])
def contangolaw38_Counts.B5 : List Nat := [0, 0, 0, 6, 14, 30, 0, 0, 192, 448, 960, 2046, 4094, 8191, 16383]
theorem contangolaw38_Counts.tab5 : rtab .any (opsOf Try.f14 5) = contangolaw38_Counts.T5 := by kernel_rfl
theorem contangolaw38_Counts.bits5 : waitsOk contangolaw38_Counts.T5.2 contangolaw38_Counts.B5 = true := by kernel_rfl
set_option maxHeartbeats 8000000 in
set_option maxRecDepth 100000 in
theorem contangolaw38_Counts.calls (k : Nat) (A0 : Option Addr) (c0 : Nat) (l0 : List (S52)) (r : List (S51)) (w : World) (hr0 : Kd.C k52 w A0 l0.length l0) (hc0 : l0.length ≤ c0) (h : contangolaw38_Counts.f k l0 = some r) :
    Calls Try.prog 14 #[.slice A0 l0.length c0] w fun e w' => ∃ v0_ : Value, e = .returned (v0_) ∧ Kd.R k51 51 w' w.heap.size (fun _ => True) v0_ r ∧ Below w.heap.size w w' := by
  have hu51 := Try.underlying51
  have HR0 := Aside0.mk hr0
  have HC0 := Aside0.mk hc0
  clear hr0 hc0
  have HB := Aside0.mk (Below.refl w.heap.size w)
  have H : (contangolaw38_Counts.l0 k l0 ([] : List (S51)) 0) = some r := h
  clear h
  have H' := Aside0.mk H
  clear H
  go_enter Try.func14, Try.ntmps14
  go_wp2
  go_loopg [3, 4] k (fun kq v3 v4 w' => ∃ (x3_1 : List (S51)) (x4_1 : Int), v4 = .int .i64 x4_1 ∧ Aside0 (contangolaw38_Counts.l0 kq l0 x3_1 x4_1 = some r) ∧ Aside0 (kq ≤ k) ∧ Aside0 (Kd.R k51 51 w' w.heap.size (fun _ => True) v3 x3_1) ∧ Aside0 (Below w.heap.size w w'))
  case atStart => exact ⟨(([] : List (S51))), (0), (by first | rfl | (simp; done) | (simp [*]; done)), H', ⟨Nat.le_refl _⟩, ⟨by first | exact Kd.R_nil _ _ _ _ _ | exact Kd.N_nil _ _ _ _ _ | exact Kd.V_nil _ _ _ _ _ | exact Kd.Q_nil _ _ _ _ _ | exact Kd.S_nil _ _ _ _ _⟩, ⟨by repeat (first | (with_reducible first | exact HB.out | apply below_alloc | apply pw_below_drewN | apply below_drew1) | exact HB.out)⟩⟩
  case round =>
    clear H'
    try clear c1
    obtain ⟨x3_1, x4_1, rfl, HA, HK1, HO_3, HB⟩ := hrel
    cases gk with
    | zero => exact absurd HA.out (by simp [contangolaw38_Counts.l0])
    | succ k1 =>
      have H := HA.out
      clear HA
      simp only [contangolaw38_Counts.l0] at H
      by_cases c2 : x4_1 < (l0.length : Int)
      · rw [if_pos c2] at H
        have c2b0 : decide (x4_1 < (l0.length : Int)) = true := decide_eq_true c2
        clear c2
        by_cases c3 : 0 ≤ x4_1
        · rw [if_pos c3] at H
          have c3b0 : decide (0 ≤ x4_1) = true := decide_eq_true c3
          clear c3
          by_cases c4 : x3_1.length < 5864062014805
          · rw [if_pos c4] at H
            have LMc4 := Aside0.mk c4
            clear c4
            obtain ⟨y159, hy159⟩ : ∃ y_ : List (S51), y_ = (x3_1 ++ [(⟨(rd_T52 l0 x4_1).f0, (rd_T52 l0 x4_1).f1⟩ : S51)]) := ⟨_, rfl⟩
            replace H : (contangolaw38_Counts.l0 k1 l0 y159 (wrap64 (x4_1 + 1))) = some r := by first | (rw [hy159]; with_reducible exact H) | (have H2_ := (Option.bind_some _ _).symm.trans H; rw [hy159]; with_reducible exact H2_) | (have H2_ := (Option.bind_some _ _).symm.trans H; with_reducible exact H2_) | with_reducible exact H | (rw [hy159]; exact H) | exact H
            have Ny159 := Aside0.mk hy159
            clear hy159
            have H' := Aside0.mk H
            clear H
            try go_wp2
            have n0_ := Aside0.mk (Kd.R_drew HO_3.out)
            have n1_ := Aside0.mk (below_drew1 HB.out)
            clear HO_3
            clear HB
            have HO_3 := n0_
            have HB := n1_
            clear n0_ n1_
            have p157 : 0 ≤ (x4_1 : Int) := of_decide_eq_true (by first | (with_reducible assumption) | assumption)
            have q157 : x4_1 < (l0.length : Int) := of_decide_eq_true (by first | (with_reducible assumption) | assumption)
            obtain ⟨ad157, e157, hx157_0, hx157_1⟩ := at_T52 HR0.out x4_1 p157 q157
            have hw157_1 := hx157_1
            have hw157_0 := hx157_0
            cases e157
            replace hx157_0 := (HB.out.cell (World.block_lt_of_cell? w _ hx157_0)).trans hx157_0
            replace hx157_1 := (HB.out.cell (World.block_lt_of_cell? w _ hx157_1)).trans hx157_1
            replace p157 := eq_true p157
            replace q157 := eq_true q157
            have p158 : 0 ≤ (x4_1 : Int) := of_decide_eq_true (by first | (with_reducible assumption) | assumption)
            have q158 : x4_1 < (l0.length : Int) := of_decide_eq_true (by first | (with_reducible assumption) | assumption)
            obtain ⟨ad158, e158, hx158_0, hx158_1⟩ := at_T52 HR0.out x4_1 p158 q158
            have hw158_1 := hx158_1
            have hw158_0 := hx158_0
            obtain rfl : ad157 = ad158 := (by injection e158)
            replace hx158_0 := (HB.out.cell (World.block_lt_of_cell? w _ hx158_0)).trans hx158_0
            replace hx158_1 := (HB.out.cell (World.block_lt_of_cell? w _ hx158_1)).trans hx158_1
            replace p158 := eq_true p158
            replace q158 := eq_true q158
            refine start_ (n := 15) (S := fun w' => w'.cell? (ad157.add ((x4_1).toNat * 2)) = some (.string ((rd_T52 l0 x4_1).f0)) ∧ w'.cell? ⟨(ad157.add ((x4_1).toNat * 2)).block, (ad157.add ((x4_1).toNat * 2)).off + 1, none⟩ = some (.int .i64 ((rd_T52 l0 x4_1).f1)) ∧ w'.cell? (ad157.add ((x4_1).toNat * 2)) = some (.string ((rd_T52 l0 x4_1).f0)) ∧ w'.cell? ⟨(ad157.add ((x4_1).toNat * 2)).block, (ad157.add ((x4_1).toNat * 2)).off + 1, none⟩ = some (.int .i64 ((rd_T52 l0 x4_1).f1))) (ds := []) #[false, false, false, false, false, false, false, false, false, false, false, false, false, false, false] (by kernel_rfl) rfl rfl ⟨((HB.out.cell (World.block_lt_of_cell? w _ hw157_0)).trans hw157_0), ((HB.out.cell (World.block_lt_of_cell? w _ hw157_1)).trans hw157_1), ((HB.out.cell (World.block_lt_of_cell? w _ hw158_0)).trans hw158_0), ((HB.out.cell (World.block_lt_of_cell? w _ hw158_1)).trans hw158_1)⟩ (fun hHeld => ?_); refine with_tabW contangolaw38_Counts.tab5 contangolaw38_Counts.bits5 (fun HT_ HW_ => ?_)
            generalize wr.drew = w5 at HO_3 HB hx157_0 hx157_1 hx158_0 hx158_1 hHeld ⊢
            refine pure_ (i := 0) (N := some 11) (v := ?_) (a' := ?_) #[true, false, false, false, false, false, false, false, false, false, false, false, false, false, false] rfl rfl (any_of HT_.out (by kernel_rfl)) (fun _ _ _ h => h) (Or.inl ⟨by rfl, ?_⟩) ?_ ?_
            rotate_left
            · intro w'
              go_simp
              with_reducible rfl
            rotate_left
            · simp only [Act.put, List.setIfInBounds_toArray, List.set_cons_zero, List.set_cons_succ, i64_w, i32_w]
              rfl
            refine pure_ (i := 1) (N := some 12) (v := ?_) (a' := ?_) #[true, true, false, false, false, false, false, false, false, false, false, false, false, false, false] rfl rfl (any_of HT_.out (by kernel_rfl)) (fun _ _ _ h => h) (Or.inl ⟨by rfl, ?_⟩) ?_ ?_
            rotate_left
            · intro w'
              go_simp
              with_reducible rfl
            rotate_left
            · simp only [Act.put, List.setIfInBounds_toArray, List.set_cons_zero, List.set_cons_succ, i64_w, i32_w]
              rfl
            refine pure_ (i := 2) (N := some 13) (v := ?_) (a' := ?_) #[true, true, true, false, false, false, false, false, false, false, false, false, false, false, false] rfl rfl (any_of HT_.out (by kernel_rfl)) (fun _ _ _ h => h) (Or.inl ⟨by rfl, ?_⟩) ?_ ?_
            rotate_left
            · intro w'
              go_simp
              with_reducible rfl
            rotate_left
            · simp only [Act.put, List.setIfInBounds_toArray, List.set_cons_zero, List.set_cons_succ, i64_w, i32_w]
              rfl
            refine pure_ (i := 3) (N := some 14) (v := ?_) (a' := ?_) #[true, true, true, true, false, false, false, false, false, false, false, false, false, false, false] rfl rfl (any_of HT_.out (by kernel_rfl)) (fun _ _ _ h => h) (Or.inl ⟨by rfl, ?_⟩) ?_ ?_
            rotate_left
            · intro w'
              go_simp
              with_reducible rfl
            rotate_left
            · simp only [Act.put, List.setIfInBounds_toArray, List.set_cons_zero, List.set_cons_succ, i64_w, i32_w]
              rfl
            refine pure_ (i := 4) (N := some 15) (v := ?_) (a' := ?_) #[true, true, true, true, true, false, false, false, false, false, false, false, false, false, false] rfl rfl (any_of HT_.out (by kernel_rfl)) (fun _ _ _ h => h) (Or.inl ⟨by rfl, ?_⟩) ?_ ?_
            rotate_left
            · intro w'
              go_simp
              with_reducible rfl
            rotate_left
            · simp only [Act.put, List.setIfInBounds_toArray, List.set_cons_zero, List.set_cons_succ, i64_w, i32_w]
              rfl
            refine pure_ (i := 6) (N := some 17) (v := ?_) (a' := ?_) #[true, true, true, true, true, false, true, false, false, false, false, false, false, false, false] rfl rfl (any_of HT_.out (by kernel_rfl)) (fun _ _ _ h => h) (Or.inl ⟨by rfl, ?_⟩) ?_ ?_
            rotate_left
            · intro w'
              go_simp
              with_reducible rfl
            rotate_left
            · simp only [Act.put, List.setIfInBounds_toArray, List.set_cons_zero, List.set_cons_succ, i64_w, i32_w]
              rfl
            refine pure_ (i := 7) (N := some 18) (v := ?_) (a' := ?_) #[true, true, true, true, true, false, true, true, false, false, false, false, false, false, false] rfl rfl (any_of HT_.out (by kernel_rfl)) (fun _ _ _ h => h) (Or.inl ⟨by rfl, ?_⟩) ?_ ?_
            rotate_left
            · intro w'
              go_simp
              with_reducible rfl
            rotate_left
            · simp only [Act.put, List.setIfInBounds_toArray, List.set_cons_zero, List.set_cons_succ, i64_w, i32_w]
              rfl
            refine pure_ (i := 8) (N := some 19) (v := ?_) (a' := ?_) #[true, true, true, true, true, false, true, true, true, false, false, false, false, false, false] rfl rfl (any_of HT_.out (by kernel_rfl)) (fun _ _ _ h => h) (Or.inl ⟨by rfl, ?_⟩) ?_ ?_
            rotate_left
            · intro w'
              go_simp
              with_reducible rfl
            rotate_left
            · simp only [Act.put, List.setIfInBounds_toArray, List.set_cons_zero, List.set_cons_succ, i64_w, i32_w]
              rfl
            refine pure_ (i := 9) (N := some 20) (v := ?_) (a' := ?_) #[true, true, true, true, true, false, true, true, true, true, false, false, false, false, false] rfl rfl (any_of HT_.out (by kernel_rfl)) (fun _ _ _ h => h) (Or.inl ⟨by rfl, ?_⟩) ?_ ?_
            rotate_left
            · intro w'
              go_simp
              with_reducible rfl
            rotate_left
            · simp only [Act.put, List.setIfInBounds_toArray, List.set_cons_zero, List.set_cons_succ, i64_w, i32_w]
              rfl
            refine take_ (i := 5) (N := some 16) (v := ?_) (a' := ?_) #[true, true, true, true, true, true, true, true, true, true, false, false, false, false, false] rfl rfl (take_ofW HT_.out HW_.out (by kernel_rfl)) (fun _ _ _ h => h) (Or.inl ⟨by rfl, ?_⟩) hHeld ?_ ?_
            rotate_left
            · rintro w' ⟨s0, s1, s2, s3⟩
              go_simp
              with_reducible rfl
            rotate_left
            · simp only [Act.put, List.setIfInBounds_toArray, List.set_cons_zero, List.set_cons_succ, i64_w, i32_w]
              rfl
            refine take_ (i := 10) (N := some 21) (v := ?_) (a' := ?_) #[true, true, true, true, true, true, true, true, true, true, true, false, false, false, false] rfl rfl (take_ofW HT_.out HW_.out (by kernel_rfl)) (fun _ _ _ h => h) (Or.inl ⟨by rfl, ?_⟩) hHeld ?_ ?_
            rotate_left
            · rintro w' ⟨s0, s1, s2, s3⟩
              go_simp
              with_reducible rfl
            rotate_left
            · simp only [Act.put, List.setIfInBounds_toArray, List.set_cons_zero, List.set_cons_succ, i64_w, i32_w]
              rfl
            refine pure_ (i := 11) (N := some 22) (v := ?_) (a' := ?_) #[true, true, true, true, true, true, true, true, true, true, true, true, false, false, false] rfl rfl (any_of HT_.out (by kernel_rfl)) (fun _ _ _ h => h) (Or.inl ⟨by rfl, ?_⟩) ?_ ?_
            rotate_left
            · intro w'
              go_simp
              with_reducible rfl
            rotate_left
            · simp only [Act.put, List.setIfInBounds_toArray, List.set_cons_zero, List.set_cons_succ, i64_w, i32_w]
              rfl
            refine one_ (i := 12) (N := some 23) #[true, true, true, true, true, true, true, true, true, true, true, true, true, false, false] rfl rfl (one_of HT_.out (by kernel_rfl)) (by decide) (fun K hK => ?_)
            refine value_ (w1 := ?_) (v := ?_) (by rfl) rfl ?_ ?_
            rotate_left 2
            · go_simp
              constructor
              · rfl
              · rfl
            refine hK.out _ _ ⟨(World.cell?_alloc_lt _ _ _ (World.block_lt_of_cell? _ _ (((HB.out.cell (World.block_lt_of_cell? w _ hw157_0)).trans hw157_0)))).trans (((HB.out.cell (World.block_lt_of_cell? w _ hw157_0)).trans hw157_0)), (World.cell?_alloc_lt _ _ _ (World.block_lt_of_cell? _ _ (((HB.out.cell (World.block_lt_of_cell? w _ hw157_1)).trans hw157_1)))).trans (((HB.out.cell (World.block_lt_of_cell? w _ hw157_1)).trans hw157_1)), (World.cell?_alloc_lt _ _ _ (World.block_lt_of_cell? _ _ (((HB.out.cell (World.block_lt_of_cell? w _ hw158_0)).trans hw158_0)))).trans (((HB.out.cell (World.block_lt_of_cell? w _ hw158_0)).trans hw158_0)), (World.cell?_alloc_lt _ _ _ (World.block_lt_of_cell? _ _ (((HB.out.cell (World.block_lt_of_cell? w _ hw158_1)).trans hw158_1)))).trans (((HB.out.cell (World.block_lt_of_cell? w _ hw158_1)).trans hw158_1))⟩ (fun hHeld => ?_)
            clear hK K
            refine norm_ (a' := ?_) ?_ ?_
            rotate_left
            · show Act.put _ (some 23) _ = _
              simp only [Act.put, List.setIfInBounds_toArray, List.set_cons_zero, List.set_cons_succ, i64_w, i32_w]
              rfl
            refine one_ (i := 13) (N := some 24) #[true, true, true, true, true, true, true, true, true, true, true, true, true, true, false] rfl rfl (one_of HT_.out (by kernel_rfl)) (by decide) (fun K hK => ?_)
            refine Kd.R_append_step k51 (w0 := w) w.heap.size (by rfl) (.tmp 11) (.tmp 23) 41 51 (.agg #[(.string ⟨#[]⟩), (.int .i64 0)]) 24 rfl Try.underlying41 info51 rfl (by decide) (by omega) u3 x3_1 (⟨(rd_T52 l0 x4_1).f0, (rd_T52 l0 x4_1).f1⟩ : S51) [.string ((rd_T52 l0 x4_1).f0), .int .i64 ((rd_T52 l0 x4_1).f1)] (fun _ => True) (fun _ => False) rfl rfl ?aP (fun _ hk => hk.elim) ?aF ?aO ?aB ?aS ?aL ?_
            (case aP => exact k51_mkM _ _ _ (⟨(rd_T52 l0 x4_1).f0, (rd_T52 l0 x4_1).f1⟩ : S51))
            (case aB => exact (by repeat (first | (with_reducible first | exact HB.out | apply below_alloc | apply pw_below_drewN | apply below_drew1) | exact HB.out)))
            (case aF => exact (fun _ _ => trivial))
            (case aO => exact (by (with_reducible repeat (first | apply Kd.R_alloc | apply Kd.R_drewN | apply Kd.R_drew)); exact HO_3.out))
            (case aS => exact (below_size (by repeat (first | (with_reducible first | exact HB.out | apply below_alloc | apply pw_below_drewN | apply below_drew1) | exact HB.out))))
            (case aL => have := LMc4.out; omega)
            intro v160 w6 ho hb hg hat
            rw [← Ny159.out] at ho
            have n0_ := Aside0.mk (hb)
            have n1_ := Aside0.mk (ho)
            clear HB
            clear HO_3
            have HB := n0_
            have HO161 := n1_
            clear n0_ n1_
            clear ho hb hg hat
            refine hK.out _ _ ⟨((HB.out.cell (World.block_lt_of_cell? w _ hw157_0)).trans hw157_0), ((HB.out.cell (World.block_lt_of_cell? w _ hw157_1)).trans hw157_1), ((HB.out.cell (World.block_lt_of_cell? w _ hw158_0)).trans hw158_0), ((HB.out.cell (World.block_lt_of_cell? w _ hw158_1)).trans hw158_1)⟩ (fun hHeld => ?_)
            clear hK K
            refine norm_ (a' := ?_) ?_ ?_
            rotate_left
            · show Act.put _ (some 24) _ = _
              simp only [Act.put, List.setIfInBounds_toArray, List.set_cons_zero, List.set_cons_succ, i64_w, i32_w]
              rfl
            refine pure_ (i := 14) (N := some 3) (v := ?_) (a' := ?_) #[true, true, true, true, true, true, true, true, true, true, true, true, true, true, true] rfl rfl (any_of HT_.out (by kernel_rfl)) (fun _ _ _ h => h) (Or.inl ⟨by rfl, ?_⟩) ?_ ?_
            rotate_left
            · intro w'
              go_simp
              with_reducible rfl
            rotate_left
            · simp only [Act.put, List.setIfInBounds_toArray, List.set_cons_zero, List.set_cons_succ, i64_w, i32_w]
              rfl
            refine done_ (done_of HT_.out (by kernel_rfl)) ?_
            try go_wp2
            go_roundg k1
            case measure => have := HK1.out; omega
            case rel => exact ⟨(y159), (wrap64 (x4_1 + 1)), (by first | rfl | (simp; done) | (simp [*]; done)), H', ⟨by have := HK1.out; omega⟩, ⟨by (with_reducible repeat (first | apply Kd.R_alloc | apply Kd.R_drewN | apply Kd.R_drew)); exact HO161.out⟩, ⟨by repeat (first | (with_reducible first | exact HB.out | apply below_alloc | apply pw_below_drewN | apply below_drew1) | exact HB.out)⟩⟩
          · rw [if_neg c4] at H
            exact absurd H (by simp)
        · rw [if_neg c3] at H
          exact absurd H (by simp)
      · rw [if_neg c2] at H
        have c2b0 : decide (x4_1 < (l0.length : Int)) = false := decide_eq_false c2
        clear c2
        obtain rfl := Option.some.inj H
        go_wp2
        go_ret
        exact ⟨_, by first | rfl | (simp [errW_none, errW_some] <;> rfl) | (simp [*, errW_none, errW_some] <;> rfl), by (with_reducible repeat (first | apply Kd.R_alloc | apply Kd.R_drewN | apply Kd.R_drew)); exact HO_3.out, by repeat (first | (with_reducible first | exact HB.out | apply below_alloc | apply pw_below_drewN | apply below_drew1) | exact HB.out)⟩

end Go.Proofs.Ytckjdncimibiaaa.PFeeBehind
