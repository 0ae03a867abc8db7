-- Written by a program of this session's (a turned copy of the kit's print, with functions proved by hand).
import Derived.Test.YtckjdncimibiaaaPFeeRisesx0
import Derived.Test.YtckjdncimibiaaaPFeeRisesx1
import Derived.Test.YtckjdncimibiaaaPFeeRisesx2
import Derived.Test.YtckjdncimibiaaaPFeeRisesx5
import Derived.Test.YtckjdncimibiaaaPFeeRisesx6
import Derived.Test.YtckjdncimibiaaaPFeeRisesx7
namespace Go.Proofs.Ytckjdncimibiaaa.PFeeRises
open Go.RowKit Go.Proofs.YtckjdncimibiaaaW.PrintWords Go.Proofs.YtckjdncimibiaaaW.PrintLast Go.Proofs.YtckjdncimibiaaaW.PrintMore
attribute [local go_sem] max2_int min2_int max_two min_two max_three min_three max_four min_four Go.Proofs.YtckjdncimibiaaaHand.run_leq_str Go.Proofs.YtckjdncimibiaaaHand.run_gtr_str Go.Proofs.YtckjdncimibiaaaHand.run_geq_str   -- for this text's walks alone
set_option linter.unusedVariables false
set_option linter.unusedSimpArgs false

attribute [local go_sem high] eqA51 eqA64
/-! ### fee_Add: function 16 -/
def fee_Add.chk (k : Nat) : List S51 → Option Int
  | [] => some 0
  | c :: r => if c.f1 < 0 ∨ c.f1 > 1152921504606846976 then some 18 else (words_Name.f k c.f0).bind fun b => if b = true then fee_Add.chk k r else some 10
def fee_Add.zero : List S51 → List (ByteArray × Int) → Option (List (ByteArray × Int))
  | [], m => some m
  | c :: r, m => if c.f0.size ≤ 1000000 then fee_Add.zero r (had_put m c.f0 0) else none
def fee_Add.go (mm : List (ByteArray × Int)) (l0 : List S51) : List ByteArray → List S51 → Option (List S51)
  | [], t => some t
  | s :: r, t => if s.size ≤ 1000000 then (if t.length < 1000000 then fee_Add.go mm l0 r (t ++ [⟨s, wrap64 (fee_first.go s l0 + (Go.Proofs.YtckjdncimibiaaaHand.look strQ mm s).getD 0)⟩]) else none) else none
def fee_Add.f (k : Nat) (l0 : List S51) (l1 : List S61) : Option (List S51 × Int) :=
  (fee_long.f l1 l0).bind fun b => if b = true then some ([], 8) else ((fee_Add.chk k l0).bind fun e => if e = 0 then ((fee_had.go k l1 []).bind fun h => if h.2 = 0 then ((fee_Add.zero l0 h.1).bind fun m => if m.length ≤ 1000000 then (fee_Add.go m l0 (sortS (m.map (·.1))) []).bind fun t => some (t, 0) else none) else some ([], h.2)) else some ([], e))
theorem fee_Add.mono_chk (k : Nat) (l : List S51) : LeO (fee_Add.chk k l) (fee_Add.chk (k + 1) l) := by
  induction l with
  | nil => exact LeO.refl _
  | cons c r ih =>
    unfold fee_Add.chk
    exact LeO.ite (LeO.refl _) (LeO.bind (words_Name.mono _ _) (fun b => LeO.ite ih (LeO.refl _)))
theorem fee_Add.mono : ∀ a0 a1 k, LeO (fee_Add.f k a0 a1) (fee_Add.f (k + 1) a0 a1) := by
  intro a0 a1 k
  unfold fee_Add.f
  exact LeO.bind (LeO.refl _) (fun b => LeO.ite (LeO.refl _) (LeO.bind (fee_Add.mono_chk _ _) (fun e => LeO.ite (LeO.bind (fee_had.mono _ _ _) (fun h => LeO.refl _)) (LeO.refl _))))
set_option maxHeartbeats 3200000 in
set_option maxRecDepth 100000 in
theorem fee_Add.calls (k : Nat) (A0 : Option Addr) (c0 : Nat) (l0 : List (S51)) (A1 : Option Addr) (c1 : Nat) (l1 : List (S61)) (r1 : List S51) (r2 : Int) (w : World) (hr0 : Kd.C k51 w A0 l0.length l0) (hc0 : l0.length ≤ c0) (hr1 : Kd.C k61 w A1 l1.length l1) (hc1 : l1.length ≤ c1) (h : fee_Add.f k l0 l1 = some (r1, r2)) :
    Calls Try.prog 16 #[.slice A0 l0.length c0, .slice A1 l1.length c1] w fun e w' => ∃ v0_ : Value, e = .returned (.tuple #[v0_, .int .i64 r2]) ∧ Kd.R k51 51 w' w.heap.size (fun _ => True) v0_ r1 ∧ Below w.heap.size w w' := by
  obtain ⟨b, hL, hh⟩ := Option.bind_eq_some_iff.mp h
  have HR0 := Aside0.mk hr0
  have hl0 := hr0.2.1
  have HC0 := Aside0.mk hc0
  have HR1 := Aside0.mk hr1
  have HC1 := Aside0.mk hc1
  have HLG := Aside0.mk hL
  clear hr0 hc0 hr1 hc1 hL h
  cases b with
  | true =>
    rw [if_pos rfl] at hh
    have hh2 := Option.some.inj hh
    simp only [Prod.mk.injEq] at hh2
    obtain ⟨rfl, rfl⟩ := hh2
    clear hh
    go_enter Try.func16, Try.ntmps16
    go_wp2_with ((go_at_call 26; refine (fee_long.calls A1 c1 l1 A0 c0 l0 true _ HR1.out HC1.out HR0.out HC0.out HLG.out).mono ?_; rintro _ w1 ⟨rfl, hb⟩; have HB1 := Aside0.mk hb.below; clear hb))
    go_ret2
    exact ⟨_, rfl, Kd.R_nil _ _ _ _ _, HB1.out⟩
  | false =>
    rw [if_neg (by decide)] at hh
    obtain ⟨e1, hC, hh⟩ := Option.bind_eq_some_iff.mp hh
    have HCK := Aside0.mk hC
    have HH := Aside0.mk hh
    clear hC hh
    go_enter Try.func16, Try.ntmps16
    go_wp2_with ((go_at_call 26; refine (fee_long.calls A1 c1 l1 A0 c0 l0 false _ HR1.out HC1.out HR0.out HC0.out HLG.out).mono ?_; rintro _ w1 ⟨rfl, hb⟩; have HB1 := Aside0.mk hb.below; clear hb))
    go_loopg [20] l0.length (fun kq v20 w' => ∃ (x : Nat), v20 = .int .i64 (x : Int) ∧ kq + x = l0.length ∧ Aside0 (fee_Add.chk k (l0.drop x) = some e1) ∧ Aside0 (Below w.heap.size w w'))
    case atStart => exact ⟨0, rfl, by omega, HCK, HB1⟩
    case round =>
      clear HCK HB1 HLG
      obtain ⟨x, rfl, hx, HA, HB⟩ := hrel
      have hsz := HB.out.size
      by_cases hlt : x < l0.length
      · obtain ⟨ad, ead, h0, h1⟩ := at_T51 (Kd.C_below HR0.out HB.out) (x : Int) (by omega) (by omega)
        cases ead
        simp only [Int.toNat_natCast] at h0 h1
        have hdr : l0.drop x = rd_T51 l0 x :: l0.drop (x + 1) := by
          rw [List.drop_eq_getElem_cons hlt]
          simp [rd_T51, hlt]
        have hA := HA.out
        rw [hdr, fee_Add.chk] at hA
        clear hdr HA
        generalize hp : rd_T51 l0 x = p at *
        clear hp
        obtain ⟨s, q⟩ := p
        simp only at h0 h1 hA
        by_cases hq : q < 0 ∨ q > 1152921504606846976
        · rw [if_pos hq] at hA
          obtain rfl := Option.some.inj hA
          have hh := HH.out
          rw [if_neg (by decide)] at hh
          have hh2 := Option.some.inj hh
          simp only [Prod.mk.injEq] at hh2
          obtain ⟨rfl, rfl⟩ := hh2
          clear hh hA HH
          by_cases hq1 : q < 0
          · have hd1 : decide (q < 0) = true := decide_eq_true hq1
            clear hq hq1
            go_wp2
            go_ret2
            exact ⟨_, rfl, Kd.R_nil _ _ _ _ _, HB.out.alloc HB.out.size _⟩
          · have hd1 : decide (q < 0) = false := decide_eq_false hq1
            have hd2 : decide (1152921504606846976 < q) = true := decide_eq_true (by omega)
            clear hq hq1
            go_wp2
            go_ret2
            exact ⟨_, rfl, Kd.R_nil _ _ _ _ _, HB.out.alloc HB.out.size _⟩
        rw [if_neg hq] at hA
        have hd1 : decide (q < 0) = false := decide_eq_false (by omega)
        have hd2 : decide (1152921504606846976 < q) = false := decide_eq_false (by omega)
        clear hq
        obtain ⟨b1, hN1, hA⟩ := Option.bind_eq_some_iff.mp hA
        have HNM := Aside0.mk hN1
        clear hN1
        cases b1 with
        | false =>
          rw [if_neg (by decide)] at hA
          obtain rfl := Option.some.inj hA
          have hh := HH.out
          rw [if_neg (by decide)] at hh
          have hh2 := Option.some.inj hh
          simp only [Prod.mk.injEq] at hh2
          obtain ⟨rfl, rfl⟩ := hh2
          clear hh hA HH
          go_wp2_with ((go_at_call 35; refine (words_Name.calls k s false _ HNM.out).mono ?_; rintro _ w2 ⟨rfl, hb⟩; have HB2 := Aside0.mk (below_step (HB.out.alloc HB.out.size (.cells #[.string s, .int .i64 q] 51 (0, 0))) hb.below); clear hb))
          go_ret2
          exact ⟨_, rfl, Kd.R_nil _ _ _ _ _, HB2.out⟩
        | true =>
          rw [if_pos rfl] at hA
          have HA2 := Aside0.mk hA
          clear hA
          go_wp2_with ((go_at_call 35; refine (words_Name.calls k s true _ HNM.out).mono ?_; rintro _ w2 ⟨rfl, hb⟩; have HB2 := Aside0.mk (below_step (HB.out.alloc HB.out.size (.cells #[.string s, .int .i64 q] 51 (0, 0))) hb.below); clear hb))
          go_roundg (l0.length - (x + 1))
          case measure => omega
          case rel => exact ⟨x + 1, by go_num, by omega, HA2, HB2⟩
      · have hxe : x = l0.length := by omega
        have hA := HA.out
        rw [List.drop_eq_nil_of_le (by omega), fee_Add.chk] at hA
        obtain rfl := Option.some.inj hA
        have hd : decide ((x : Int) < (l0.length : Int)) = false := decide_eq_false (by omega)
        have hh := HH.out
        rw [if_pos rfl] at hh
        obtain ⟨⟨mm, em⟩, hHD, hh⟩ := Option.bind_eq_some_iff.mp hh
        simp only at hh
        have HHD := Aside0.mk hHD
        clear hHD hA HA hxe HH
        by_cases he : em = 0
        case neg =>
          rw [if_neg he] at hh
          have hh2 := Option.some.inj hh
          simp only [Prod.mk.injEq] at hh2
          obtain ⟨rfl, rfl⟩ := hh2
          have h0b : (em == 0) = false := beq_eq_false_iff_ne.mpr he
          have h1b : (em != 0) = true := bne_iff_ne.mpr he
          clear he hh
          go_wp2_with ((go_at_call 27; refine (fee_had.calls k A1 c1 l1 mm em _ (Kd.C_below HR1.out HB.out) HC1.out HHD.out).mono ?_; rintro _ w3 ⟨vm, rfl, hm, hb⟩; have HMP := Aside0.mk hm; have HB3 := Aside0.mk (below_step HB.out hb); clear hb hm))
          go_ret2
          exact ⟨_, rfl, Kd.R_nil _ _ _ _ _, HB3.out⟩
        subst he
        rw [if_pos rfl] at hh
        obtain ⟨m2, hZ, hh⟩ := Option.bind_eq_some_iff.mp hh
        by_cases hml : m2.length ≤ 1000000
        case neg => rw [if_neg hml] at hh; cases hh
        rw [if_pos hml] at hh
        obtain ⟨tf, hF, hh⟩ := Option.bind_eq_some_iff.mp hh
        have hh2 := Option.some.inj hh
        simp only [Prod.mk.injEq] at hh2
        obtain ⟨rfl, rfl⟩ := hh2
        have HZ := Aside0.mk hZ
        have HF := Aside0.mk hF
        have HML0 := Aside0.mk hml
        clear hh hZ hF hml
        go_wp2_with (go_at_call 27; refine (fee_had.calls k A1 c1 l1 mm 0 _ (Kd.C_below HR1.out HB.out) HC1.out HHD.out).mono ?_; rintro _ w3 ⟨vm, rfl, hm, hb⟩; have HMP := Aside0.mk hm; have HB3 := Aside0.mk (below_step HB.out hb); clear hb hm; obtain ⟨bm, em_, hmb0, hmb, hmk⟩ := HMP.out rfl; subst em_; have HMB := Aside0.mk hmb; have HMK := Aside0.mk hmk; have HM0 := Aside0.mk hmb0; clear hmb hmk hmb0)
        have HGE : Aside0 (∀ kk, some bm = some kk → w.heap.size ≤ kk) := ⟨fun kk e => by cases e; exact Nat.le_trans hsz HM0.out⟩
        clear hd HHD HMP HB
        go_loopg [47] l0.length (fun kq v47 w' => ∃ (x : Nat) (m : List (ByteArray × Int)), v47 = .int .i64 (x : Int) ∧ kq + x = l0.length ∧ Aside0 (fee_Add.zero (l0.drop x) m = some m2) ∧ Aside0 (w'.heap[bm]? = some (Go.Proofs.YtckjdncimibiaaaHand.objM Value.string (Value.int .i64) m)) ∧ Aside0 (Go.Proofs.YtckjdncimibiaaaHand.KeysOk Try.prog 9 Value.string m) ∧ Aside0 (Below w.heap.size w w'))
        case atStart => exact ⟨0, mm, rfl, by omega, HZ, HMB, HMK, HB3⟩
        case round =>
          clear HZ HMB HMK HB3
          obtain ⟨x, m, rfl, hx, HA, HM, HK, HB⟩ := hrel
          have hsz := HB.out.size
          have hltM := blk_lt HM.out
          by_cases hlt : x < l0.length
          · obtain ⟨ad, ead, h0, h1⟩ := at_T51 (Kd.C_below HR0.out HB.out) (x : Int) (by omega) (by omega)
            cases ead
            simp only [Int.toNat_natCast] at h0 h1
            have hdr : l0.drop x = rd_T51 l0 x :: l0.drop (x + 1) := by
              rw [List.drop_eq_getElem_cons hlt]
              simp [rd_T51, hlt]
            have hA := HA.out
            rw [hdr, fee_Add.zero] at hA
            clear hdr HA
            generalize hp : rd_T51 l0 x = p at *
            clear hp
            obtain ⟨s, q⟩ := p
            simp only at h0 h1 hA
            by_cases hk : s.size ≤ 1000000
            case neg => rw [if_neg hk] at hA; cases hA
            rw [if_pos hk] at hA
            have HA2 := Aside0.mk hA
            have HKEY := Aside0.mk (str_keyOf (s := s) hk)
            clear hA hk
            go_wp2_with (first | (at_lookup; refine Go.Proofs.YtckjdncimibiaaaHand.wpL_look _ rfl (.tmp 51) (.tmp 53) 77 false rfl bm (.string s) (.int .i64 ((Go.Proofs.YtckjdncimibiaaaHand.look strQ m s).getD 0)) rfl rfl (had_look (blk_alloc HM.out _) HK.out HKEY.out) ?_) | (at_mapUpdate; obtain ⟨w4, hrunU, hM4, hG4⟩ := had_upd (blk_alloc HM.out (.cells #[.string s, .int .i64 q] 51 (0, 0))) HK.out HKEY.out 0; refine Go.Proofs.YtckjdncimibiaaaHand.wpL_upd rfl (.tmp 51) (.tmp 53) (.tmp 55) 77 rfl bm (.string s) (.int .i64 (wrap64 ((Go.Proofs.YtckjdncimibiaaaHand.look strQ m s).getD 0 + 0))) rfl rfl (by rw [Int.add_zero]; rfl) hrunU ?_; have HM4 := Aside0.mk hM4; have HB4 := Aside0.mk (pw_below_grown (HB.out.alloc HB.out.size (.cells #[.string s, .int .i64 q] 51 (0, 0))) _ (HB.out.alloc HB.out.size (.cells #[.string s, .int .i64 q] 51 (0, 0))).size hG4 HGE.out); clear hrunU hM4 hG4))
            go_roundg (l0.length - (x + 1))
            case measure => omega
            case rel => exact ⟨x + 1, _, by go_num, by omega, HA2, HM4, ⟨had_ok HK.out HKEY.out 0⟩, HB4⟩
          · have hxe : x = l0.length := by omega
            have hA := HA.out
            rw [List.drop_eq_nil_of_le (by omega), fee_Add.zero] at hA
            obtain rfl := Option.some.inj hA
            have hd : decide ((x : Int) < (l0.length : Int)) = false := decide_eq_false (by omega)
            have HML : Aside0 (m.length ≤ 1000000) := HML0
            clear hA HA hxe
            go_wp2_with (first | (go_at_call 29; refine (Keys.calls (some bm) _).mono ?_; rintro _ w4 ⟨rfl, rfl⟩) | (go_at_call 28; refine (Sorted_keys.calls wr bm m HM.out HK.out HML.out).mono ?_; rintro _ w5 ⟨vn, rfl, ho, hb⟩; have HN5 := Aside0.mk ho; have HM5 := Aside0.mk (blk_below (blk_alloc HM.out _) hb); have HB5 := Aside0.mk (below_step (below_alloc HB.out (.cells #[.map (some bm)] 77 (0, 0))) hb); clear ho hb; obtain ⟨An, cn, en⟩ := Kd.R_slice HN5.out; subst en))
            have hszb := HB5.out.size
            have HSL := Aside0.mk (Kd.R_reads' HN5.out).2.2.2.1
            have hsl := HSL.out
            clear hd HM HB HML0 HML
            go_loopg [12, 61] (sortS (m.map (·.1))).length (fun kq v12 v61 w' => ∃ (y : Nat) (t : List S51), v61 = .int .i64 (y : Int) ∧ kq + y = (sortS (m.map (·.1))).length ∧ Aside0 (fee_Add.go m l0 ((sortS (m.map (·.1))).drop y) t = some tf) ∧ Aside0 (Kd.R k51 51 w' w5.heap.size (fun _ => True) v12 t) ∧ Aside0 (Below w5.heap.size w5 w'))
            case atStart => exact ⟨0, [], rfl, by omega, HF, ⟨Kd.R_nil _ _ _ _ _⟩, ⟨Below.refl _ _⟩⟩
            case round =>
              clear HF
              obtain ⟨y, t, rfl, hy, HS, HR, HBW⟩ := hrel
              have hszw := HBW.out.size
              by_cases hlt2 : y < (sortS (m.map (·.1))).length
              · have HNW := Aside0.mk (Kd.R_below HN5.out HBW.out)
                have HMW := Aside0.mk (blk_below HM5.out HBW.out)
                have HBT := Aside0.mk (below_step HB5.out HBW.out)
                obtain ⟨adn, eas, hs0⟩ := Kd.at_string (Kd.R_reads' HNW.out).2.2 (y : Int) (by omega) (by omega)
                cases eas
                simp only [Int.toNat_natCast] at hs0
                have hdr : (sortS (m.map (·.1))).drop y = rdOf ByteArray.empty (sortS (m.map (·.1))) y :: (sortS (m.map (·.1))).drop (y + 1) := by
                  rw [List.drop_eq_getElem_cons hlt2]
                  simp [rdOf, hlt2]
                have hs := HS.out
                rw [hdr, fee_Add.go] at hs
                clear hdr HS
                generalize hp : rdOf ByteArray.empty (sortS (m.map (·.1))) y = s at *
                clear hp
                by_cases hk : s.size ≤ 1000000
                case neg => rw [if_neg hk] at hs; cases hs
                rw [if_pos hk] at hs
                by_cases hln : t.length < 1000000
                case neg => rw [if_neg hln] at hs; cases hs
                rw [if_pos hln] at hs
                have HS2 := Aside0.mk hs
                have HL : Aside0 ((t.length + 1) * 24 ≤ 140737488355328) := ⟨by omega⟩
                have HKEY := Aside0.mk (str_keyOf (s := s) hk)
                clear hs hk hln
                go_wp2
                refine start_ (n := 13) (S := fun w' => (Instr.lookup 77 (.map (some bm)) (.string s) false).run Try.prog w' = .ok (.int .i64 ((Go.Proofs.YtckjdncimibiaaaHand.look strQ m s).getD 0)) w') (ds := []) #[false, false, false, false, false, false, false, false, false, false, false, false, false] (by kernel_rfl) rfl rfl ((had_look (blk_drew HMW.out) HK.out HKEY.out)) (fun hHeld => ?_)
                refine pure_ (i := 0) (N := some 65) (v := ?_) (a' := ?_) #[true, false, false, false, false, false, false, false, false, false, false, false, false] rfl rfl (by kernel_rfl) (fun _ _ _ h => h) (Or.inl ⟨by rfl, ?_⟩) ?_ ?_
                rotate_left
                · intro w'
                  go_simp
                  with_reducible rfl
                rotate_left
                · simp only [Act.put, List.setIfInBounds_toArray, List.set_cons_zero, List.set_cons_succ, i64_w, i32_w]
                  rfl
                refine pure_ (i := 1) (N := some 66) (v := ?_) (a' := ?_) #[true, true, false, false, false, false, false, false, false, false, false, false, false] rfl rfl (by kernel_rfl) (fun _ _ _ h => h) (Or.inl ⟨by rfl, ?_⟩) ?_ ?_
                rotate_left
                · intro w'
                  go_simp
                  with_reducible rfl
                rotate_left
                · simp only [Act.put, List.setIfInBounds_toArray, List.set_cons_zero, List.set_cons_succ, i64_w, i32_w]
                  rfl
                refine pure_ (i := 2) (N := some 67) (v := ?_) (a' := ?_) #[true, true, true, false, false, false, false, false, false, false, false, false, false] rfl rfl (by kernel_rfl) (fun _ _ _ h => h) (Or.inl ⟨by rfl, ?_⟩) ?_ ?_
                rotate_left
                · intro w'
                  go_simp
                  with_reducible rfl
                rotate_left
                · simp only [Act.put, List.setIfInBounds_toArray, List.set_cons_zero, List.set_cons_succ, i64_w, i32_w]
                  rfl
                refine pure_ (i := 3) (N := some 68) (v := ?_) (a' := ?_) #[true, true, true, true, false, false, false, false, false, false, false, false, false] rfl rfl (by kernel_rfl) (fun _ _ _ h => h) (Or.inl ⟨by rfl, ?_⟩) ?_ ?_
                rotate_left
                · intro w'
                  go_simp
                  with_reducible rfl
                rotate_left
                · simp only [Act.put, List.setIfInBounds_toArray, List.set_cons_zero, List.set_cons_succ, i64_w, i32_w]
                  rfl
                refine pure_ (i := 5) (N := some 70) (v := ?_) (a' := ?_) #[true, true, true, true, false, true, false, false, false, false, false, false, false] rfl rfl (by kernel_rfl) (fun _ _ _ h => h) (Or.inl ⟨by rfl, ?_⟩) ?_ ?_
                rotate_left
                · intro w'
                  go_simp
                  with_reducible rfl
                rotate_left
                · simp only [Act.put, List.setIfInBounds_toArray, List.set_cons_zero, List.set_cons_succ, i64_w, i32_w]
                  rfl
                refine pure_ (i := 6) (N := some 71) (v := ?_) (a' := ?_) #[true, true, true, true, false, true, true, false, false, false, false, false, false] rfl rfl (by kernel_rfl) (fun _ _ _ h => h) (Or.inl ⟨by rfl, ?_⟩) ?_ ?_
                rotate_left
                · intro w'
                  go_simp
                  with_reducible rfl
                rotate_left
                · simp only [Act.put, List.setIfInBounds_toArray, List.set_cons_zero, List.set_cons_succ, i64_w, i32_w]
                  rfl
                refine take_ (i := 7) (N := some 72) (v := ?_) (a' := ?_) #[true, true, true, true, false, true, true, true, false, false, false, false, false] rfl rfl (by kernel_rfl) (fun _ _ _ h => h) (Or.inl ⟨by rfl, ?_⟩) hHeld ?_ ?_
                rotate_left
                · intro w' s0
                  go_simp
                  with_reducible rfl
                rotate_left
                · simp only [Act.put, List.setIfInBounds_toArray, List.set_cons_zero, List.set_cons_succ, i64_w, i32_w]
                  rfl
                refine one_ (i := 4) (N := some 69) #[true, true, true, true, true, true, true, true, false, false, false, false, false] rfl rfl (by kernel_rfl) (by decide) (fun K hK => ?_)
                refine goes_ Try.func30 (by kernel_rfl) rfl #[.slice A0 l0.length c0, .string s] (by rfl) rfl rfl (by simp only [List.map_toArray, List.map_cons, List.map_nil]; rfl) ?_
                with_reducible refine (fee_first.calls A0 c0 l0 s (fee_first.go s l0) _ (Kd.C_drew (Kd.C_below HR0.out HBT.out)) HC0.out rfl).mono ?_
                rintro e w7 ⟨rfl, hb⟩
                refine ⟨_, rfl, ?_⟩
                have HB7 := Aside0.mk (below_step (below_drew HBT.out) hb)
                have HBW7 := Aside0.mk (below_step (below_drew HBW.out) hb)
                have HBR7 := Aside0.mk (below_step (below_drew (Below.refl wr.heap.size wr)) hb)
                have HM7 := Aside0.mk (blk_below (blk_drew HMW.out) hb)
                have HR7 := Aside0.mk (Kd.R_below HR.out HBR7.out)
                clear hb
                refine hK.out _ _ ((had_look HM7.out HK.out HKEY.out)) (fun hHeld => ?_)
                clear hK K
                refine norm_ (a' := ?_) ?_ ?_
                rotate_left
                · show Act.put _ (some 69) _ = _
                  simp only [Act.put, List.setIfInBounds_toArray, List.set_cons_zero, List.set_cons_succ, i64_w, i32_w]
                  rfl
                refine pure_ (i := 8) (N := some 73) (v := ?_) (a' := ?_) #[true, true, true, true, true, true, true, true, true, false, false, false, false] rfl rfl (by kernel_rfl) (fun _ _ _ h => h) (Or.inl ⟨by rfl, ?_⟩) ?_ ?_
                rotate_left
                · intro w'
                  go_simp
                  with_reducible rfl
                rotate_left
                · simp only [Act.put, List.setIfInBounds_toArray, List.set_cons_zero, List.set_cons_succ, i64_w, i32_w]
                  rfl
                refine pure_ (i := 9) (N := some 74) (v := ?_) (a' := ?_) #[true, true, true, true, true, true, true, true, true, true, false, false, false] rfl rfl (by kernel_rfl) (fun _ _ _ h => h) (Or.inl ⟨by rfl, ?_⟩) ?_ ?_
                rotate_left
                · intro w'
                  go_simp
                  with_reducible rfl
                rotate_left
                · simp only [Act.put, List.setIfInBounds_toArray, List.set_cons_zero, List.set_cons_succ, i64_w, i32_w]
                  rfl
                refine one_ (i := 10) (N := some 75) #[true, true, true, true, true, true, true, true, true, true, true, false, false] rfl rfl (by kernel_rfl) (by decide) (fun K hK => ?_)
                refine value_ (w1 := ?_) (v := ?_) (by rfl) rfl ?_ ?_
                rotate_left 2
                · go_simp
                  constructor
                  · rfl
                  · rfl
                refine hK.out _ _ ((had_look (blk_alloc HM7.out _) HK.out HKEY.out)) (fun hHeld => ?_)
                clear hK K
                refine norm_ (a' := ?_) ?_ ?_
                rotate_left
                · show Act.put _ (some 75) _ = _
                  simp only [Act.put, List.setIfInBounds_toArray, List.set_cons_zero, List.set_cons_succ, i64_w, i32_w]
                  rfl
                refine one_ (i := 11) (N := some 76) #[true, true, true, true, true, true, true, true, true, true, true, true, false] rfl rfl (by kernel_rfl) (by decide) (fun K hK => ?_)
                refine Kd.R_append_step k51 (w0 := w5) (W := w7) w5.heap.size (by rfl) (.tmp 65) (.tmp 75) 41 51 (.agg #[(.string ⟨#[]⟩), (.int .i64 0)]) 24 rfl Try.underlying41 info51 rfl (by decide) (by omega) u12 t ⟨s, (wrap64 (fee_first.go s l0 + (Go.Proofs.YtckjdncimibiaaaHand.look strQ m s).getD 0))⟩ [.string s, .int .i64 (wrap64 (fee_first.go s l0 + (Go.Proofs.YtckjdncimibiaaaHand.look strQ m s).getD 0))] (fun _ => True) (fun _ => False) rfl ?aX ?aP (fun _ hk => hk.elim) ?aF ?aO ?aB ?aS ?aL ?_
                (case aX => rfl)
                (case aP => exact k51_mkM _ _ _ ⟨s, (wrap64 (fee_first.go s l0 + (Go.Proofs.YtckjdncimibiaaaHand.look strQ m s).getD 0))⟩)
                (case aB => exact HBW7.out)
                (case aF => exact (fun _ _ => trivial))
                (case aO => exact HR7.out)
                (case aS => exact HBW7.out.size)
                (case aL => exact HL.out)
                intro v9 w9 ho hb hg hat
                have HR9 := Aside0.mk ho
                have HB9 := Aside0.mk hb
                have HM9 := Aside0.mk ((hg.block bm (blk_lt HM7.out) (Go.Proofs.YtckjdncimibiaaaHand.row_neM HR7.out HM7.out)).trans HM7.out)
                clear ho hb hg hat
                refine hK.out _ _ ((had_look HM9.out HK.out HKEY.out)) (fun hHeld => ?_)
                clear hK K
                refine norm_ (a' := ?_) ?_ ?_
                rotate_left
                · show Act.put _ (some 76) _ = _
                  simp only [Act.put, List.setIfInBounds_toArray, List.set_cons_zero, List.set_cons_succ, i64_w, i32_w]
                  rfl
                refine pure_ (i := 12) (N := some 12) (v := ?_) (a' := ?_) #[true, true, true, true, true, true, true, true, true, true, true, true, true] rfl rfl (by kernel_rfl) (fun _ _ _ h => h) (Or.inl ⟨by rfl, ?_⟩) ?_ ?_
                rotate_left
                · intro w'
                  go_simp
                  with_reducible rfl
                rotate_left
                · simp only [Act.put, List.setIfInBounds_toArray, List.set_cons_zero, List.set_cons_succ, i64_w, i32_w]
                  rfl
                refine done_ (by kernel_rfl) ?_
                go_wp2
                go_roundg ((sortS (m.map (·.1))).length - (y + 1))
                case measure => omega
                case rel => exact ⟨y + 1, _, by go_num, by omega, HS2, HR9, HB9⟩
              · have hye : y = (sortS (m.map (·.1))).length := by omega
                have hs := HS.out
                rw [List.drop_eq_nil_of_le (by omega), fee_Add.go] at hs
                obtain rfl := Option.some.inj hs
                have hd2_ : decide ((y : Int) < ((sortS (m.map (·.1))).length : Int)) = false := decide_eq_false (by omega)
                clear hs HS hye
                go_wp2
                go_ret2
                exact ⟨_, rfl, Kd.R_lower HR.out hszb, below_step HB5.out HBW.out⟩

/-! ### contangolaw38_goes: function 12 -/
def contangolaw38_goes.f (k : Nat)  : Option (Bool) := (some (([(⟨0, 10⟩ : S70), (⟨5, 7⟩ : S70)] : List (S70)) : List (S70))).bind fun y134 => ((some (([(⟨0, 0, 0, (⟨(⟨#[]⟩ : ByteArray), 0, 0, 0⟩ : S57), 7, 0, (⟨(⟨#[97]⟩ : ByteArray), (⟨#[]⟩ : ByteArray)⟩ : S59), (⟨(⟨#[98]⟩ : ByteArray), (⟨#[]⟩ : ByteArray)⟩ : S59)⟩ : S61)] : List (S61)) : List (S61))).bind fun y137 => ((some (([(⟨(⟨#[98]⟩ : ByteArray), 4⟩ : S51)] : List (S51)) : List (S51))).bind fun y140 => ((fee_Lots.f k 4 3 y134).bind fun bt143 => ((fee_Flows.f k y137 y140 y134 0).bind fun bt145 => ((fee_Add.f k y140 y137).bind fun bt149 => (if bt143.1 = 24 then (if bt143.2 = 0 then (if bt145.2 = 0 then (if (bt145.1.length : Int) = 2 then (if 0 < (bt145.1.length : Int) then (if (eqD64 ((rd_T64 bt145.1 0).f0) (⟨#[97]⟩ : ByteArray) ((rd_T64 bt145.1 0).f1) 0 ((rd_T64 bt145.1 0).f2) (-64) ((rd_T64 bt145.1 0).f3) 5) = true then (if 1 < (bt145.1.length : Int) then (if ((rd_T64 bt145.1 1).f2) = (-52) then (if bt149.2 = 0 then (if (bt149.1.length : Int) = 2 then (if 0 < (bt149.1.length : Int) then (if (eqD51 ((rd_T51 bt149.1 0).f0) (⟨#[97]⟩ : ByteArray) ((rd_T51 bt149.1 0).f1) 7) = true then (if 1 < (bt149.1.length : Int) then (some (((rd_T51 bt149.1 1).f1) == 11)) else (none)) else (some false)) else (none)) else (some false)) else (some false)) else (some false)) else (none)) else (some false)) else (none)) else (some false)) else (some false)) else (some false)) else (some false)))))))
theorem contangolaw38_goes.mono : ∀ k, LeO (contangolaw38_goes.f k ) (contangolaw38_goes.f (k + 1) ) := by
  intro  k
  unfold contangolaw38_goes.f
  repeat' first
      | (with_reducible exact fee_Add.mono _ _ _)
      | (with_reducible exact fee_Flows.mono _ _ _ _ _)
      | (with_reducible exact fee_Lots.mono _ _ _ _)
      | (with_reducible exact LeO.refl _)
      | (with_reducible exact LeO.none _)
      | (with_reducible refine LeO.ite ?_ ?_)
      | (with_reducible refine LeO.bind ?_ (fun _ => ?_))
      | exact fee_Add.mono _ _ _
      | exact fee_Flows.mono _ _ _ _ _
      | exact fee_Lots.mono _ _ _ _
      | exact LeO.none _
      | refine LeO.ite ?_ ?_
      | refine LeO.bind ?_ (fun _ => ?_)
theorem contangolaw38_goes.only (k : Nat) (r : Bool) (h : contangolaw38_goes.f k  = some r) : r = true := by
  exact Option.some.inj ((at_rounds (fun k => contangolaw38_goes.mono k) (Nat.le_max_left k 100) h).symm.trans (at_rounds (fun k => contangolaw38_goes.mono k) (Nat.le_max_right k 100) (by decide +kernel : contangolaw38_goes.f 100 = some true)))
set_option maxHeartbeats 8000000 in
set_option maxRecDepth 100000 in
theorem contangolaw38_goes.calls (k : Nat)  (r : Bool) (w : World) (h : contangolaw38_goes.f k  = some r) :
    Calls Try.prog 12 #[] w fun e w' => e = .returned (.bool r) ∧ Below w.heap.size w w' := by
  have hu70 := Try.underlying70
  have hu59 := Try.underlying59
  have hu61 := Try.underlying61
  have hu51 := Try.underlying51
  have hu64 := Try.underlying64
  have HB := Aside0.mk (Below.refl w.heap.size w)
  have HRT := Aside0.mk (contangolaw38_goes.only k r h)
  have H : ((some (([(⟨0, 10⟩ : S70), (⟨5, 7⟩ : S70)] : List (S70)) : List (S70))).bind fun y134 => ((some (([(⟨0, 0, 0, (⟨(⟨#[]⟩ : ByteArray), 0, 0, 0⟩ : S57), 7, 0, (⟨(⟨#[97]⟩ : ByteArray), (⟨#[]⟩ : ByteArray)⟩ : S59), (⟨(⟨#[98]⟩ : ByteArray), (⟨#[]⟩ : ByteArray)⟩ : S59)⟩ : S61)] : List (S61)) : List (S61))).bind fun y137 => ((some (([(⟨(⟨#[98]⟩ : ByteArray), 4⟩ : S51)] : List (S51)) : List (S51))).bind fun y140 => ((fee_Lots.f k 4 3 y134).bind fun bt143 => ((fee_Flows.f k y137 y140 y134 0).bind fun bt145 => ((fee_Add.f k y140 y137).bind fun bt149 => (if bt143.1 = 24 then (if bt143.2 = 0 then (if bt145.2 = 0 then (if (bt145.1.length : Int) = 2 then (if 0 < (bt145.1.length : Int) then (if (eqD64 ((rd_T64 bt145.1 0).f0) (⟨#[97]⟩ : ByteArray) ((rd_T64 bt145.1 0).f1) 0 ((rd_T64 bt145.1 0).f2) (-64) ((rd_T64 bt145.1 0).f3) 5) = true then (if 1 < (bt145.1.length : Int) then (if ((rd_T64 bt145.1 1).f2) = (-52) then (if bt149.2 = 0 then (if (bt149.1.length : Int) = 2 then (if 0 < (bt149.1.length : Int) then (if (eqD51 ((rd_T51 bt149.1 0).f0) (⟨#[97]⟩ : ByteArray) ((rd_T51 bt149.1 0).f1) 7) = true then (if 1 < (bt149.1.length : Int) then (some (((rd_T51 bt149.1 1).f1) == 11)) else (none)) else (some false)) else (none)) else (some false)) else (some false)) else (some false)) else (none)) else (some false)) else (none)) else (some false)) else (some false)) else (some false)) else (some false)))))))) = some r := h
  clear h
  obtain ⟨y134, hy134⟩ : ∃ y_ : List (S70), y_ = (([(⟨0, 10⟩ : S70), (⟨5, 7⟩ : S70)] : List (S70))) := ⟨_, rfl⟩
  replace H : ((some (([(⟨0, 0, 0, (⟨(⟨#[]⟩ : ByteArray), 0, 0, 0⟩ : S57), 7, 0, (⟨(⟨#[97]⟩ : ByteArray), (⟨#[]⟩ : ByteArray)⟩ : S59), (⟨(⟨#[98]⟩ : ByteArray), (⟨#[]⟩ : ByteArray)⟩ : S59)⟩ : S61)] : List (S61)) : List (S61))).bind fun y137 => ((some (([(⟨(⟨#[98]⟩ : ByteArray), 4⟩ : S51)] : List (S51)) : List (S51))).bind fun y140 => ((fee_Lots.f k 4 3 y134).bind fun bt143 => ((fee_Flows.f k y137 y140 y134 0).bind fun bt145 => ((fee_Add.f k y140 y137).bind fun bt149 => (if bt143.1 = 24 then (if bt143.2 = 0 then (if bt145.2 = 0 then (if (bt145.1.length : Int) = 2 then (if 0 < (bt145.1.length : Int) then (if (eqD64 ((rd_T64 bt145.1 0).f0) (⟨#[97]⟩ : ByteArray) ((rd_T64 bt145.1 0).f1) 0 ((rd_T64 bt145.1 0).f2) (-64) ((rd_T64 bt145.1 0).f3) 5) = true then (if 1 < (bt145.1.length : Int) then (if ((rd_T64 bt145.1 1).f2) = (-52) then (if bt149.2 = 0 then (if (bt149.1.length : Int) = 2 then (if 0 < (bt149.1.length : Int) then (if (eqD51 ((rd_T51 bt149.1 0).f0) (⟨#[97]⟩ : ByteArray) ((rd_T51 bt149.1 0).f1) 7) = true then (if 1 < (bt149.1.length : Int) then (some (((rd_T51 bt149.1 1).f1) == 11)) else (none)) else (some false)) else (none)) else (some false)) else (some false)) else (some false)) else (none)) else (some false)) else (none)) else (some false)) else (some false)) else (some false)) else (some false))))))) = some r := by first | (rw [hy134]; with_reducible exact H) | (have H2_ := (Option.bind_some _ _).symm.trans H; rw [hy134]; with_reducible exact H2_) | (have H2_ := (Option.bind_some _ _).symm.trans H; with_reducible exact H2_) | with_reducible exact H | (rw [hy134]; exact H) | exact H
  have Ny134 := Aside0.mk hy134
  clear hy134
  obtain ⟨y137, hy137⟩ : ∃ y_ : List (S61), y_ = (([(⟨0, 0, 0, (⟨(⟨#[]⟩ : ByteArray), 0, 0, 0⟩ : S57), 7, 0, (⟨(⟨#[97]⟩ : ByteArray), (⟨#[]⟩ : ByteArray)⟩ : S59), (⟨(⟨#[98]⟩ : ByteArray), (⟨#[]⟩ : ByteArray)⟩ : S59)⟩ : S61)] : List (S61))) := ⟨_, rfl⟩
  replace H : ((some (([(⟨(⟨#[98]⟩ : ByteArray), 4⟩ : S51)] : List (S51)) : List (S51))).bind fun y140 => ((fee_Lots.f k 4 3 y134).bind fun bt143 => ((fee_Flows.f k y137 y140 y134 0).bind fun bt145 => ((fee_Add.f k y140 y137).bind fun bt149 => (if bt143.1 = 24 then (if bt143.2 = 0 then (if bt145.2 = 0 then (if (bt145.1.length : Int) = 2 then (if 0 < (bt145.1.length : Int) then (if (eqD64 ((rd_T64 bt145.1 0).f0) (⟨#[97]⟩ : ByteArray) ((rd_T64 bt145.1 0).f1) 0 ((rd_T64 bt145.1 0).f2) (-64) ((rd_T64 bt145.1 0).f3) 5) = true then (if 1 < (bt145.1.length : Int) then (if ((rd_T64 bt145.1 1).f2) = (-52) then (if bt149.2 = 0 then (if (bt149.1.length : Int) = 2 then (if 0 < (bt149.1.length : Int) then (if (eqD51 ((rd_T51 bt149.1 0).f0) (⟨#[97]⟩ : ByteArray) ((rd_T51 bt149.1 0).f1) 7) = true then (if 1 < (bt149.1.length : Int) then (some (((rd_T51 bt149.1 1).f1) == 11)) else (none)) else (some false)) else (none)) else (some false)) else (some false)) else (some false)) else (none)) else (some false)) else (none)) else (some false)) else (some false)) else (some false)) else (some false)))))) = some r := by first | (rw [hy137]; with_reducible exact H) | (have H2_ := (Option.bind_some _ _).symm.trans H; rw [hy137]; with_reducible exact H2_) | (have H2_ := (Option.bind_some _ _).symm.trans H; with_reducible exact H2_) | with_reducible exact H | (rw [hy137]; exact H) | exact H
  have Ny137 := Aside0.mk hy137
  clear hy137
  obtain ⟨y140, hy140⟩ : ∃ y_ : List (S51), y_ = (([(⟨(⟨#[98]⟩ : ByteArray), 4⟩ : S51)] : List (S51))) := ⟨_, rfl⟩
  replace H : ((fee_Lots.f k 4 3 y134).bind fun bt143 => ((fee_Flows.f k y137 y140 y134 0).bind fun bt145 => ((fee_Add.f k y140 y137).bind fun bt149 => (if bt143.1 = 24 then (if bt143.2 = 0 then (if bt145.2 = 0 then (if (bt145.1.length : Int) = 2 then (if 0 < (bt145.1.length : Int) then (if (eqD64 ((rd_T64 bt145.1 0).f0) (⟨#[97]⟩ : ByteArray) ((rd_T64 bt145.1 0).f1) 0 ((rd_T64 bt145.1 0).f2) (-64) ((rd_T64 bt145.1 0).f3) 5) = true then (if 1 < (bt145.1.length : Int) then (if ((rd_T64 bt145.1 1).f2) = (-52) then (if bt149.2 = 0 then (if (bt149.1.length : Int) = 2 then (if 0 < (bt149.1.length : Int) then (if (eqD51 ((rd_T51 bt149.1 0).f0) (⟨#[97]⟩ : ByteArray) ((rd_T51 bt149.1 0).f1) 7) = true then (if 1 < (bt149.1.length : Int) then (some (((rd_T51 bt149.1 1).f1) == 11)) else (none)) else (some false)) else (none)) else (some false)) else (some false)) else (some false)) else (none)) else (some false)) else (none)) else (some false)) else (some false)) else (some false)) else (some false))))) = some r := by first | (rw [hy140]; with_reducible exact H) | (have H2_ := (Option.bind_some _ _).symm.trans H; rw [hy140]; with_reducible exact H2_) | (have H2_ := (Option.bind_some _ _).symm.trans H; with_reducible exact H2_) | with_reducible exact H | (rw [hy140]; exact H) | exact H
  have Ny140 := Aside0.mk hy140
  clear hy140
  replace H := Option.bind_eq_some_iff.mp H
  obtain ⟨⟨t143, t144⟩, A10, H⟩ := H
  replace H : ((fee_Flows.f k y137 y140 y134 0).bind fun bt145 => ((fee_Add.f k y140 y137).bind fun bt149 => (if t143 = 24 then (if t144 = 0 then (if bt145.2 = 0 then (if (bt145.1.length : Int) = 2 then (if 0 < (bt145.1.length : Int) then (if (eqD64 ((rd_T64 bt145.1 0).f0) (⟨#[97]⟩ : ByteArray) ((rd_T64 bt145.1 0).f1) 0 ((rd_T64 bt145.1 0).f2) (-64) ((rd_T64 bt145.1 0).f3) 5) = true then (if 1 < (bt145.1.length : Int) then (if ((rd_T64 bt145.1 1).f2) = (-52) then (if bt149.2 = 0 then (if (bt149.1.length : Int) = 2 then (if 0 < (bt149.1.length : Int) then (if (eqD51 ((rd_T51 bt149.1 0).f0) (⟨#[97]⟩ : ByteArray) ((rd_T51 bt149.1 0).f1) 7) = true then (if 1 < (bt149.1.length : Int) then (some (((rd_T51 bt149.1 1).f1) == 11)) else (none)) else (some false)) else (none)) else (some false)) else (some false)) else (some false)) else (none)) else (some false)) else (none)) else (some false)) else (some false)) else (some false)) else (some false)))) = some r := H
  have A1 := Aside0.mk A10
  clear A10
  replace H := Option.bind_eq_some_iff.mp H
  obtain ⟨⟨t145, t146⟩, A20, H⟩ := H
  replace H : ((fee_Add.f k y140 y137).bind fun bt149 => (if t143 = 24 then (if t144 = 0 then (if t146 = 0 then (if (t145.length : Int) = 2 then (if 0 < (t145.length : Int) then (if (eqD64 ((rd_T64 t145 0).f0) (⟨#[97]⟩ : ByteArray) ((rd_T64 t145 0).f1) 0 ((rd_T64 t145 0).f2) (-64) ((rd_T64 t145 0).f3) 5) = true then (if 1 < (t145.length : Int) then (if ((rd_T64 t145 1).f2) = (-52) then (if bt149.2 = 0 then (if (bt149.1.length : Int) = 2 then (if 0 < (bt149.1.length : Int) then (if (eqD51 ((rd_T51 bt149.1 0).f0) (⟨#[97]⟩ : ByteArray) ((rd_T51 bt149.1 0).f1) 7) = true then (if 1 < (bt149.1.length : Int) then (some (((rd_T51 bt149.1 1).f1) == 11)) else (none)) else (some false)) else (none)) else (some false)) else (some false)) else (some false)) else (none)) else (some false)) else (none)) else (some false)) else (some false)) else (some false)) else (some false))) = some r := H
  have A2 := Aside0.mk A20
  clear A20
  replace H := Option.bind_eq_some_iff.mp H
  obtain ⟨⟨t149, t150⟩, A30, H⟩ := H
  replace H : (if t143 = 24 then (if t144 = 0 then (if t146 = 0 then (if (t145.length : Int) = 2 then (if 0 < (t145.length : Int) then (if (eqD64 ((rd_T64 t145 0).f0) (⟨#[97]⟩ : ByteArray) ((rd_T64 t145 0).f1) 0 ((rd_T64 t145 0).f2) (-64) ((rd_T64 t145 0).f3) 5) = true then (if 1 < (t145.length : Int) then (if ((rd_T64 t145 1).f2) = (-52) then (if t150 = 0 then (if (t149.length : Int) = 2 then (if 0 < (t149.length : Int) then (if (eqD51 ((rd_T51 t149 0).f0) (⟨#[97]⟩ : ByteArray) ((rd_T51 t149 0).f1) 7) = true then (if 1 < (t149.length : Int) then (some (((rd_T51 t149 1).f1) == 11)) else (none)) else (some false)) else (none)) else (some false)) else (some false)) else (some false)) else (none)) else (some false)) else (none)) else (some false)) else (some false)) else (some false)) else (some false)) = some r := H
  have A3 := Aside0.mk A30
  clear A30
  by_cases c4 : t143 = 24
  · rw [if_pos c4] at H
    have c4b0 : (t143 == 24) = true := beq_iff_eq.mpr c4
    have c4b1 : (t143 != 24) = false := bne_eq_false_iff_eq.mpr c4
    clear c4
    by_cases c5 : t144 = 0
    · rw [if_pos c5] at H
      have c5b0 : (t144 == 0) = true := beq_iff_eq.mpr c5
      have c5b1 : (t144 != 0) = false := bne_eq_false_iff_eq.mpr c5
      clear c5
      by_cases c6 : t146 = 0
      · rw [if_pos c6] at H
        have c6b0 : (t146 == 0) = true := beq_iff_eq.mpr c6
        have c6b1 : (t146 != 0) = false := bne_eq_false_iff_eq.mpr c6
        clear c6
        by_cases c7 : (t145.length : Int) = 2
        · rw [if_pos c7] at H
          have c7b0 : ((t145.length : Int) == 2) = true := beq_iff_eq.mpr c7
          have c7b1 : ((t145.length : Int) != 2) = false := bne_eq_false_iff_eq.mpr c7
          clear c7
          by_cases c8 : 0 < (t145.length : Int)
          · rw [if_pos c8] at H
            have c8b0 : decide (0 < (t145.length : Int)) = true := decide_eq_true c8
            have c8b1 : decide (0 < t145.length) = true := decide_eq_true (by omega)
            clear c8
            by_cases c9 : (eqD64 ((rd_T64 t145 0).f0) (⟨#[97]⟩ : ByteArray) ((rd_T64 t145 0).f1) 0 ((rd_T64 t145 0).f2) (-64) ((rd_T64 t145 0).f3) 5) = true
            · rw [if_pos c9] at H
              have c9b0 : (eqD64 ((rd_T64 t145 0).f0) (⟨#[97]⟩ : ByteArray) ((rd_T64 t145 0).f1) 0 ((rd_T64 t145 0).f2) (-64) ((rd_T64 t145 0).f3) 5) = true := c9
              clear c9
              by_cases c10 : 1 < (t145.length : Int)
              · rw [if_pos c10] at H
                have c10b0 : decide (1 < (t145.length : Int)) = true := decide_eq_true c10
                have c10b1 : decide (1 < t145.length) = true := decide_eq_true (by omega)
                clear c10
                by_cases c11 : ((rd_T64 t145 1).f2) = (-52)
                · rw [if_pos c11] at H
                  have c11b0 : (((rd_T64 t145 1).f2) == (-52)) = true := beq_iff_eq.mpr c11
                  have c11b1 : (((rd_T64 t145 1).f2) != (-52)) = false := bne_eq_false_iff_eq.mpr c11
                  clear c11
                  by_cases c12 : t150 = 0
                  · rw [if_pos c12] at H
                    have c12b0 : (t150 == 0) = true := beq_iff_eq.mpr c12
                    have c12b1 : (t150 != 0) = false := bne_eq_false_iff_eq.mpr c12
                    clear c12
                    by_cases c13 : (t149.length : Int) = 2
                    · rw [if_pos c13] at H
                      have c13b0 : ((t149.length : Int) == 2) = true := beq_iff_eq.mpr c13
                      have c13b1 : ((t149.length : Int) != 2) = false := bne_eq_false_iff_eq.mpr c13
                      clear c13
                      by_cases c14 : 0 < (t149.length : Int)
                      · rw [if_pos c14] at H
                        have c14b0 : decide (0 < (t149.length : Int)) = true := decide_eq_true c14
                        have c14b1 : decide (0 < t149.length) = true := decide_eq_true (by omega)
                        clear c14
                        by_cases c15 : (eqD51 ((rd_T51 t149 0).f0) (⟨#[97]⟩ : ByteArray) ((rd_T51 t149 0).f1) 7) = true
                        · rw [if_pos c15] at H
                          have c15b0 : (eqD51 ((rd_T51 t149 0).f0) (⟨#[97]⟩ : ByteArray) ((rd_T51 t149 0).f1) 7) = true := c15
                          clear c15
                          by_cases c16 : 1 < (t149.length : Int)
                          · rw [if_pos c16] at H
                            have c16b0 : decide (1 < (t149.length : Int)) = true := decide_eq_true c16
                            have c16b1 : decide (1 < t149.length) = true := decide_eq_true (by omega)
                            clear c16
                            obtain rfl := Option.some.inj H
                            go_enter Try.func12, Try.ntmps12
                            go_wp2_with (first | ((with_reducible refine gate_dst (N := 12) rfl ?_); (try (refine gate_guard (by rfl) ?_; dsimp only)); refine Kd.R_lit k70 _ 70 ?hg (N := 12) ?hd (xs := ([(⟨0, 10⟩ : S70), (⟨5, 7⟩ : S70)] : List (S70))) (inner := [.int .i64 0, .int .i64 10, .int .i64 5, .int .i64 7]) (ok := fun _ => True) (okp := fun _ => True) ?hr ?hp (fun _ hk => hk) trivial (Below.refl _ _) (Nat.le_refl _) (by simp) ?_; (case hd => rfl); (case hg => rfl); (case hr => first | (go_simp; done) | (go_simp; rfl)); (case hp => exact (Reps.c2 (show Kd.M k70 _ _ _ (⟨0, 10⟩ : S70) [.int .i64 0, .int .i64 10] from (k70_mkM _ _ _ (⟨0, 10⟩ : S70) )) (Reps.c2 (show Kd.M k70 _ _ _ (⟨5, 7⟩ : S70) [.int .i64 5, .int .i64 7] from (k70_mkM _ _ _ (⟨5, 7⟩ : S70) )) (Reps.none _ _)))); intro v135 w17 ho18 hb hg_ hnew_; clear hg_ hnew_; (first | rw [← Ny134.out] at ho18 | (simp only [Int.reduceToNat] at ho18; rw [← Ny134.out] at ho18)); have n0_ := Aside0.mk (Kd.R_lower ho18 (below_size (by repeat (first | (with_reducible first | exact HB.out | apply below_alloc | apply pw_below_drewN | apply below_drew1) | exact HB.out)))); have n1_ := Aside0.mk (below_step (by repeat (first | (with_reducible first | exact HB.out | apply below_alloc | apply pw_below_drewN | apply below_drew1) | exact HB.out)) hb); clear HB; have HO136 := n0_; have HB := n1_; clear n0_ n1_; clear hb ho18) | ((with_reducible refine gate_dst (N := 16) rfl ?_); (try (refine gate_guard (by rfl) ?_; dsimp only)); refine Kd.R_lit k61 _ 61 ?hg (N := 16) ?hd (xs := ([(⟨0, 0, 0, (⟨(⟨#[]⟩ : ByteArray), 0, 0, 0⟩ : S57), 7, 0, (⟨(⟨#[97]⟩ : ByteArray), (⟨#[]⟩ : ByteArray)⟩ : S59), (⟨(⟨#[98]⟩ : ByteArray), (⟨#[]⟩ : ByteArray)⟩ : S59)⟩ : S61)] : List (S61))) (inner := [.int .i64 0, .int .i64 0, .int .i64 0, .string (⟨#[]⟩ : ByteArray), .int .i64 0, .int .i64 0, .int .i64 0, .int .i64 7, .int .i64 0, .string (⟨#[97]⟩ : ByteArray), .string (⟨#[]⟩ : ByteArray), .string (⟨#[98]⟩ : ByteArray), .string (⟨#[]⟩ : ByteArray)]) (ok := fun _ => True) (okp := fun _ => True) ?hr ?hp (fun _ hk => hk) trivial (Below.refl _ _) (Nat.le_refl _) (by simp) ?_; (case hd => rfl); (case hg => rfl); (case hr => first | (go_simp; done) | (go_simp; rfl)); (case hp => exact (Reps.front (show Kd.M k61 _ _ _ (⟨0, 0, 0, (⟨(⟨#[]⟩ : ByteArray), 0, 0, 0⟩ : S57), 7, 0, (⟨(⟨#[97]⟩ : ByteArray), (⟨#[]⟩ : ByteArray)⟩ : S59), (⟨(⟨#[98]⟩ : ByteArray), (⟨#[]⟩ : ByteArray)⟩ : S59)⟩ : S61) [.int .i64 0, .int .i64 0, .int .i64 0, .string (⟨#[]⟩ : ByteArray), .int .i64 0, .int .i64 0, .int .i64 0, .int .i64 7, .int .i64 0, .string (⟨#[97]⟩ : ByteArray), .string (⟨#[]⟩ : ByteArray), .string (⟨#[98]⟩ : ByteArray), .string (⟨#[]⟩ : ByteArray)] from (k61_mkM _ _ _ (⟨0, 0, 0, (⟨(⟨#[]⟩ : ByteArray), 0, 0, 0⟩ : S57), 7, 0, (⟨(⟨#[97]⟩ : ByteArray), (⟨#[]⟩ : ByteArray)⟩ : S59), (⟨(⟨#[98]⟩ : ByteArray), (⟨#[]⟩ : ByteArray)⟩ : S59)⟩ : S61) )) rfl (Reps.none _ _) rfl)); intro v138 w19 ho20 hb hg_ hnew_; clear hg_ hnew_; (first | rw [← Ny137.out] at ho20 | (simp only [Int.reduceToNat] at ho20; rw [← Ny137.out] at ho20)); have n0_ := Aside0.mk (Kd.R_below (by (with_reducible repeat (first | apply Kd.R_alloc | apply Kd.R_drewN | apply Kd.R_drew)); exact HO136.out) hb); have n1_ := Aside0.mk (Kd.R_lower ho20 (below_size (by repeat (first | (with_reducible first | exact HB.out | apply below_alloc | apply pw_below_drewN | apply below_drew1) | exact HB.out)))); have n2_ := Aside0.mk (below_step (by repeat (first | (with_reducible first | exact HB.out | apply below_alloc | apply pw_below_drewN | apply below_drew1) | exact HB.out)) hb); clear HO136; clear HB; have HO136 := n0_; have HO139 := n1_; have HB := n2_; clear n0_ n1_ n2_; clear hb ho20) | ((with_reducible refine gate_dst (N := 18) rfl ?_); (try (refine gate_guard (by rfl) ?_; dsimp only)); refine Kd.R_lit k51 _ 51 ?hg (N := 18) ?hd (xs := ([(⟨(⟨#[98]⟩ : ByteArray), 4⟩ : S51)] : List (S51))) (inner := [.string (⟨#[98]⟩ : ByteArray), .int .i64 4]) (ok := fun _ => True) (okp := fun _ => True) ?hr ?hp (fun _ hk => hk) trivial (Below.refl _ _) (Nat.le_refl _) (by simp) ?_; (case hd => rfl); (case hg => rfl); (case hr => first | (go_simp; done) | (go_simp; rfl)); (case hp => exact (Reps.c2 (show Kd.M k51 _ _ _ (⟨(⟨#[98]⟩ : ByteArray), 4⟩ : S51) [.string (⟨#[98]⟩ : ByteArray), .int .i64 4] from (k51_mkM _ _ _ (⟨(⟨#[98]⟩ : ByteArray), 4⟩ : S51) )) (Reps.none _ _))); intro v141 w21 ho22 hb hg_ hnew_; clear hg_ hnew_; (first | rw [← Ny140.out] at ho22 | (simp only [Int.reduceToNat] at ho22; rw [← Ny140.out] at ho22)); have n0_ := Aside0.mk (Kd.R_below (by (with_reducible repeat (first | apply Kd.R_alloc | apply Kd.R_drewN | apply Kd.R_drew)); exact HO136.out) hb); have n1_ := Aside0.mk (Kd.R_below (by (with_reducible repeat (first | apply Kd.R_alloc | apply Kd.R_drewN | apply Kd.R_drew)); exact HO139.out) hb); have n2_ := Aside0.mk (Kd.R_lower ho22 (below_size (by repeat (first | (with_reducible first | exact HB.out | apply below_alloc | apply pw_below_drewN | apply below_drew1) | exact HB.out)))); have n3_ := Aside0.mk (below_step (by repeat (first | (with_reducible first | exact HB.out | apply below_alloc | apply pw_below_drewN | apply below_drew1) | exact HB.out)) hb); clear HO136; clear HO139; clear HB; have HO136 := n0_; have HO139 := n1_; have HO142 := n2_; have HB := n3_; clear n0_ n1_ n2_ n3_; clear hb ho22; obtain ⟨Ao23, co23, eo23⟩ := Kd.R_slice HO136.out; subst eo23) | ((with_reducible refine gate_callee (f := 7) rfl ?_); refine goesL_ (some 21) rfl rfl Try.func7 (by kernel_rfl) rfl #[.int .i64 4, .int .i64 3, .slice Ao23 y134.length co23] rfl (by (try simp only [List.map_toArray, List.map_cons, List.map_nil]); first | done | rfl | (simp only [List.length_drop, List.length_take]; rfl)) ?_; (with_reducible refine (fee_Lots.calls k 4 3 _ _ y134 t143 t144 _ ?side1 ?side2 A1.out).mono ?_); (case side1 => repeat (first | exact (Kd.R_reads' HO136.out).2.2 | (with_reducible refine Kd.C_alloc ?_ _) | (with_reducible refine Kd.C_drewN ?_ _) | (with_reducible refine Kd.C_drew ?_))); (case side2 => exact (Kd.R_reads' HO136.out).2.1); rintro e w24 ⟨rfl, hb⟩; refine ⟨_, rfl, ?_⟩; have n0_ := Aside0.mk (Kd.R_below (by (with_reducible repeat (first | apply Kd.R_alloc | apply Kd.R_drewN | apply Kd.R_drew)); exact HO136.out) hb); have n1_ := Aside0.mk (Kd.R_below (by (with_reducible repeat (first | apply Kd.R_alloc | apply Kd.R_drewN | apply Kd.R_drew)); exact HO139.out) hb); have n2_ := Aside0.mk (Kd.R_below (by (with_reducible repeat (first | apply Kd.R_alloc | apply Kd.R_drewN | apply Kd.R_drew)); exact HO142.out) hb); have n3_ := Aside0.mk (below_step (by repeat (first | (with_reducible first | exact HB.out | apply below_alloc | apply pw_below_drewN | apply below_drew1) | exact HB.out)) hb); clear HO136; clear HO139; clear HO142; clear HB; have HO136 := n0_; have HO139 := n1_; have HO142 := n2_; have HB := n3_; clear n0_ n1_ n2_ n3_; (try clear hb); (try clear hb2); (try clear hk); (try clear hi); obtain ⟨Ao25, co25, eo25⟩ := Kd.R_slice HO139.out; subst eo25; obtain ⟨Ao26, co26, eo26⟩ := Kd.R_slice HO142.out; subst eo26) | ((with_reducible refine gate_callee (f := 13) rfl ?_); refine goesL_ (some 28) rfl rfl Try.func13 (by kernel_rfl) rfl #[.slice Ao25 y137.length co25, .slice Ao26 y140.length co26, .slice Ao23 y134.length co23, .int .i64 0] rfl (by (try simp only [List.map_toArray, List.map_cons, List.map_nil]); first | done | rfl | (simp only [List.length_drop, List.length_take]; rfl)) ?_; (with_reducible refine (fee_Flows.calls k _ _ y137 _ _ y140 _ _ y134 0 t145 t146 _ ?side1 ?side2 ?side3 ?side4 ?side5 ?side6 A2.out).mono ?_); (case side1 => repeat (first | exact (Kd.R_reads' HO139.out).2.2 | (with_reducible refine Kd.C_alloc ?_ _) | (with_reducible refine Kd.C_drewN ?_ _) | (with_reducible refine Kd.C_drew ?_))); (case side2 => exact (Kd.R_reads' HO139.out).2.1); (case side3 => repeat (first | exact (Kd.R_reads' HO142.out).2.2 | (with_reducible refine Kd.C_alloc ?_ _) | (with_reducible refine Kd.C_drewN ?_ _) | (with_reducible refine Kd.C_drew ?_))); (case side4 => exact (Kd.R_reads' HO142.out).2.1); (case side5 => repeat (first | exact (Kd.R_reads' HO136.out).2.2 | (with_reducible refine Kd.C_alloc ?_ _) | (with_reducible refine Kd.C_drewN ?_ _) | (with_reducible refine Kd.C_drew ?_))); (case side6 => exact (Kd.R_reads' HO136.out).2.1); rintro e w27 ⟨v147, rfl, ho0, hb⟩; refine ⟨_, rfl, ?_⟩; have n0_ := Aside0.mk (Kd.R_below (by (with_reducible repeat (first | apply Kd.R_alloc | apply Kd.R_drewN | apply Kd.R_drew)); exact HO136.out) hb); have n1_ := Aside0.mk (Kd.R_below (by (with_reducible repeat (first | apply Kd.R_alloc | apply Kd.R_drewN | apply Kd.R_drew)); exact HO139.out) hb); have n2_ := Aside0.mk (Kd.R_below (by (with_reducible repeat (first | apply Kd.R_alloc | apply Kd.R_drewN | apply Kd.R_drew)); exact HO142.out) hb); have n3_ := Aside0.mk (Kd.R_lower ho0 (below_size (by repeat (first | (with_reducible first | exact HB.out | apply below_alloc | apply pw_below_drewN | apply below_drew1) | exact HB.out)))); have n4_ := Aside0.mk (below_step (by repeat (first | (with_reducible first | exact HB.out | apply below_alloc | apply pw_below_drewN | apply below_drew1) | exact HB.out)) hb); clear HO136; clear HO139; clear HO142; clear HB; have HO136 := n0_; have HO139 := n1_; have HO142 := n2_; have HO148 := n3_; have HB := n4_; clear n0_ n1_ n2_ n3_ n4_; (try clear hb); (try clear hb2); (try clear hk); (try clear hi); (try clear ho0)) | ((with_reducible refine gate_callee (f := 16) rfl ?_); refine goesL_ (some 34) rfl rfl Try.func16 (by kernel_rfl) rfl #[.slice Ao26 y140.length co26, .slice Ao25 y137.length co25] rfl (by (try simp only [List.map_toArray, List.map_cons, List.map_nil]); first | done | rfl | (simp only [List.length_drop, List.length_take]; rfl)) ?_; (with_reducible refine (fee_Add.calls k _ _ y140 _ _ y137 t149 t150 _ ?side1 ?side2 ?side3 ?side4 A3.out).mono ?_); (case side1 => repeat (first | exact (Kd.R_reads' HO142.out).2.2 | (with_reducible refine Kd.C_alloc ?_ _) | (with_reducible refine Kd.C_drewN ?_ _) | (with_reducible refine Kd.C_drew ?_))); (case side2 => exact (Kd.R_reads' HO142.out).2.1); (case side3 => repeat (first | exact (Kd.R_reads' HO139.out).2.2 | (with_reducible refine Kd.C_alloc ?_ _) | (with_reducible refine Kd.C_drewN ?_ _) | (with_reducible refine Kd.C_drew ?_))); (case side4 => exact (Kd.R_reads' HO139.out).2.1); rintro e w28 ⟨v151, rfl, ho0, hb⟩; refine ⟨_, rfl, ?_⟩; have n0_ := Aside0.mk (Kd.R_below (by (with_reducible repeat (first | apply Kd.R_alloc | apply Kd.R_drewN | apply Kd.R_drew)); exact HO136.out) hb); have n1_ := Aside0.mk (Kd.R_below (by (with_reducible repeat (first | apply Kd.R_alloc | apply Kd.R_drewN | apply Kd.R_drew)); exact HO139.out) hb); have n2_ := Aside0.mk (Kd.R_elder' (by (with_reducible repeat (first | apply Kd.R_alloc | apply Kd.R_drewN | apply Kd.R_drew)); exact HO142.out) (Kd.R_base ho0) hb); have n3_ := Aside0.mk (Kd.R_below (by (with_reducible repeat (first | apply Kd.R_alloc | apply Kd.R_drewN | apply Kd.R_drew)); exact HO148.out) hb); have n4_ := Aside0.mk (Kd.R_lower (Kd.R_new' ho0 (Kd.R_lt (by (with_reducible repeat (first | apply Kd.R_alloc | apply Kd.R_drewN | apply Kd.R_drew)); exact HO142.out))) (below_size (by repeat (first | (with_reducible first | exact HB.out | apply below_alloc | apply pw_below_drewN | apply below_drew1) | exact HB.out)))); have n5_ := Aside0.mk (below_step (by repeat (first | (with_reducible first | exact HB.out | apply below_alloc | apply pw_below_drewN | apply below_drew1) | exact HB.out)) hb); clear HO136; clear HO139; clear HO142; clear HO148; clear HB; have HO136 := n0_; have HO139 := n1_; have HO142 := n2_; have HO148 := n3_; have HO152 := n4_; have HB := n5_; clear n0_ n1_ n2_ n3_ n4_ n5_; (try clear hb); (try clear hb2); (try clear hk); (try clear hi); (try clear ho0); obtain ⟨Ao29, co29, eo29⟩ := Kd.R_slice HO148.out; subst eo29; have p153 : 0 ≤ (0 : Int) := (by omega); have q153 : 0 < (t145.length : Int) := of_decide_eq_true (by first | (with_reducible assumption) | assumption); obtain ⟨ad153, e153, hx153_0, hx153_1, hx153_2, hx153_3⟩ := at_T64 (Kd.R_reads' HO148.out).2.2 0 p153 q153; cases e153; have qi153 : (0 < t145.length) = True := eq_true (by omega); (try rw [show ((0 : Int)).toNat = 0 from rfl] at hx153_0); (try rw [show 0 * 4 = 0 from rfl] at hx153_0); (try rw [Addr.add_zero'] at hx153_0); (try rw [show ((0 : Int)).toNat = 0 from rfl] at hx153_1); (try rw [show 0 * 4 = 0 from rfl] at hx153_1); (try rw [Addr.add_zero'] at hx153_1); (try rw [show ((0 : Int)).toNat = 0 from rfl] at hx153_2); (try rw [show 0 * 4 = 0 from rfl] at hx153_2); (try rw [Addr.add_zero'] at hx153_2); (try rw [show ((0 : Int)).toNat = 0 from rfl] at hx153_3); (try rw [show 0 * 4 = 0 from rfl] at hx153_3); (try rw [Addr.add_zero'] at hx153_3); replace p153 := eq_true p153; replace q153 := eq_true q153; have p154 : 0 ≤ (1 : Int) := (by omega); have q154 : 1 < (t145.length : Int) := of_decide_eq_true (by first | (with_reducible assumption) | assumption); obtain ⟨ad154, e154, hx154_0, hx154_1, hx154_2, hx154_3⟩ := at_T64 (Kd.R_reads' HO148.out).2.2 1 p154 q154; obtain rfl : ad153 = ad154 := (by injection e154); (try simp only [show (1 : Int).toNat = 1 from rfl, Nat.reduceMul, Nat.reduceEqDiff, Go.Addr.add, ↓reduceIte] at hx154_0); (try simp only [show (1 : Int).toNat = 1 from rfl, Nat.reduceMul, Nat.reduceEqDiff, Go.Addr.add, ↓reduceIte] at hx154_1); (try simp only [show (1 : Int).toNat = 1 from rfl, Nat.reduceMul, Nat.reduceEqDiff, Go.Addr.add, ↓reduceIte] at hx154_2); (try simp only [show (1 : Int).toNat = 1 from rfl, Nat.reduceMul, Nat.reduceEqDiff, Go.Addr.add, ↓reduceIte] at hx154_3); have qi154 : (1 < t145.length) = True := eq_true (by omega); (try rw [show ((1 : Int)).toNat = 1 from rfl] at hx154_0); (try rw [show 1 * 4 = 4 from rfl] at hx154_0); (try rw [show ((1 : Int)).toNat = 1 from rfl] at hx154_1); (try rw [show 1 * 4 = 4 from rfl] at hx154_1); (try rw [show ((1 : Int)).toNat = 1 from rfl] at hx154_2); (try rw [show 1 * 4 = 4 from rfl] at hx154_2); (try rw [show ((1 : Int)).toNat = 1 from rfl] at hx154_3); (try rw [show 1 * 4 = 4 from rfl] at hx154_3); replace p154 := eq_true p154; replace q154 := eq_true q154; obtain ⟨Ao30, co30, eo30⟩ := Kd.R_slice HO152.out; subst eo30; have p155 : 0 ≤ (0 : Int) := (by omega); have q155 : 0 < (t149.length : Int) := of_decide_eq_true (by first | (with_reducible assumption) | assumption); obtain ⟨ad155, e155, hx155_0, hx155_1⟩ := at_T51 (Kd.R_reads' HO152.out).2.2 0 p155 q155; cases e155; have qi155 : (0 < t149.length) = True := eq_true (by omega); (try rw [show ((0 : Int)).toNat = 0 from rfl] at hx155_0); (try rw [show 0 * 2 = 0 from rfl] at hx155_0); (try rw [Addr.add_zero'] at hx155_0); (try rw [show ((0 : Int)).toNat = 0 from rfl] at hx155_1); (try rw [show 0 * 2 = 0 from rfl] at hx155_1); (try rw [Addr.add_zero'] at hx155_1); replace p155 := eq_true p155; replace q155 := eq_true q155; have p156 : 0 ≤ (1 : Int) := (by omega); have q156 : 1 < (t149.length : Int) := of_decide_eq_true (by first | (with_reducible assumption) | assumption); obtain ⟨ad156, e156, hx156_0, hx156_1⟩ := at_T51 (Kd.R_reads' HO152.out).2.2 1 p156 q156; obtain rfl : ad155 = ad156 := (by injection e156); (try simp only [show (1 : Int).toNat = 1 from rfl, Nat.reduceMul, Nat.reduceEqDiff, Go.Addr.add, ↓reduceIte] at hx156_0); (try simp only [show (1 : Int).toNat = 1 from rfl, Nat.reduceMul, Nat.reduceEqDiff, Go.Addr.add, ↓reduceIte] at hx156_1); have qi156 : (1 < t149.length) = True := eq_true (by omega); (try rw [show ((1 : Int)).toNat = 1 from rfl] at hx156_0); (try rw [show 1 * 2 = 2 from rfl] at hx156_0); (try rw [show ((1 : Int)).toNat = 1 from rfl] at hx156_1); (try rw [show 1 * 2 = 2 from rfl] at hx156_1); replace p156 := eq_true p156; replace q156 := eq_true q156))
                            go_ret
                            exact ⟨by first | rfl | (simp [errW_none, errW_some] <;> rfl) | (simp [*, errW_none, errW_some] <;> rfl), by repeat (first | (with_reducible first | exact HB.out | apply below_alloc | apply pw_below_drewN | apply below_drew1) | exact HB.out)⟩
                          · rw [if_neg c16] at H
                            exact absurd H (by simp)
                        · rw [if_neg c15] at H
                          exact absurd (H.trans (congrArg some HRT.out)) (by first | simp [] | (simp only []; (repeat' split) <;> simp))
                      · rw [if_neg c14] at H
                        exact absurd H (by simp)
                    · rw [if_neg c13] at H
                      exact absurd (H.trans (congrArg some HRT.out)) (by first | simp [] | (simp only []; (repeat' split) <;> simp))
                  · rw [if_neg c12] at H
                    exact absurd (H.trans (congrArg some HRT.out)) (by first | simp [] | (simp only []; (repeat' split) <;> simp))
                · rw [if_neg c11] at H
                  exact absurd (H.trans (congrArg some HRT.out)) (by first | simp [] | (simp only []; (repeat' split) <;> simp))
              · rw [if_neg c10] at H
                exact absurd H (by simp)
            · rw [if_neg c9] at H
              exact absurd (H.trans (congrArg some HRT.out)) (by first | simp [] | (simp only []; (repeat' split) <;> simp))
          · rw [if_neg c8] at H
            exact absurd H (by simp)
        · rw [if_neg c7] at H
          exact absurd (H.trans (congrArg some HRT.out)) (by first | simp [] | (simp only []; (repeat' split) <;> simp))
      · rw [if_neg c6] at H
        exact absurd (H.trans (congrArg some HRT.out)) (by first | simp [] | (simp only []; (repeat' split) <;> simp))
    · rw [if_neg c5] at H
      exact absurd (H.trans (congrArg some HRT.out)) (by first | simp [] | (simp only []; (repeat' split) <;> simp))
  · rw [if_neg c4] at H
    exact absurd (H.trans (congrArg some HRT.out)) (by first | simp [] | (simp only []; (repeat' split) <;> simp))

/-! ### contangolaw38_FeeRises: function 5 -/
structure S54 where
  f0 : Int
  f1 : Int
def k54 : Kd S54 := Kd.iso (Kd.pair (Kd.int .i64) (Kd.int .i64)) (fun x : S54 => (x.f0, x.f1))
theorem k54_open {w : World} {x : S54} {cs : List Value} (h : k54.K w x cs) : cs = [.int .i64 x.f0, .int .i64 x.f1] := by
  obtain ⟨_, _, rfl, rfl, rfl⟩ := h
  exact rfl
/-- What the law comes to. -/
def contangolaw38_FeeRises.f (k : Nat) (a0 : Int) (q0 : Int) (q1 : Int) (l2 : List S73) : Option Bool :=
  (contangolaw38_Bands.f k l2).bind fun o => (fee_Lots.f k a0 q0 o).bind fun x => (fee_Lots.f k (wrap64 (a0 + q0)) q1 o).bind fun y => (fee_Lots.f k a0 (wrap64 (q0 + q1)) o).bind fun z =>
    if x.2 = 0 ∧ y.2 = 0 ∧ z.2 = 0 then (fee_Lots.f k (wrap64 (a0 + q0)) q0 o).bind fun u => if wrap64 (x.1 + y.1) = z.1 ∧ (u.2 = 0 → u.1 ≤ x.1) then contangolaw38_goes.f k else some false
    else contangolaw38_goes.f k
set_option maxHeartbeats 3200000 in
set_option maxRecDepth 100000 in
theorem contangolaw38_FeeRises.calls (k : Nat) (a0 : Int) (q0 : Int) (q1 : Int) (A2 : Option Addr) (c2 : Nat) (l2 : List S73) (r : Bool) (hrt : r = true) (w : World) (hr2 : Kd.C k73 w A2 l2.length l2) (hc2 : l2.length ≤ c2) (h : contangolaw38_FeeRises.f k a0 q0 q1 l2 = some r) :
    Calls Try.prog 5 #[.int .i64 a0, .agg #[.int .i64 q0, .int .i64 q1], .slice A2 l2.length c2] w fun e w' => e = .returned (.bool r) ∧ Below w.heap.size w w' := by
  subst hrt
  have HR2 := Aside0.mk hr2
  have HC2 := Aside0.mk hc2
  clear hr2 hc2
  obtain ⟨o, h1, ha⟩ := Option.bind_eq_some_iff.mp h
  obtain ⟨⟨x1, x2⟩, h2, hb⟩ := Option.bind_eq_some_iff.mp ha
  obtain ⟨⟨y1, y2⟩, h3, hc⟩ := Option.bind_eq_some_iff.mp hb
  obtain ⟨⟨z1, z2⟩, h4, hd⟩ := Option.bind_eq_some_iff.mp hc
  clear h ha hb hc
  have H1 := Aside0.mk h1
  have H2 := Aside0.mk h2
  have H3 := Aside0.mk h3
  have H4 := Aside0.mk h4
  clear h1 h2 h3 h4
  by_cases cx : x2 = 0
  case neg =>
    rw [if_neg (fun e => cx e.1)] at hd
    have HG := Aside0.mk hd
    clear hd
    have x2b0 : (x2 == 0) = false := beq_eq_false_iff_ne.mpr cx
    have x2b1 : (x2 != 0) = true := bne_iff_ne.mpr cx
    clear cx
    go_enter Try.func5, Try.ntmps5
    go_wp2_with (first | (go_at_call 8; (with_reducible refine (contangolaw38_Bands.calls k _ _ l2 o _ ?side1 ?side2 H1.out).mono ?_); (case side1 => (repeat (first | (with_reducible exact HR2.out) | (with_reducible refine Kd.C_alloc ?_ _) | (with_reducible refine Kd.C_drewN ?_ _) | (with_reducible refine Kd.C_drew ?_) | exact HR2.out))); (case side2 => exact HC2.out); rintro _ w1 ⟨v0, rfl, ho, hb⟩; obtain ⟨Ao, co, rfl⟩ := Kd.R_slice ho; have RD := Kd.R_reads' ho; have RC1 := Aside0.mk RD.2.2; have RL := Aside0.mk RD.2.1; have b0 := blk_below (by (with_reducible repeat (first | refine blk_drewN ?_ _ | refine blk_drew ?_)); exact blk_new w _) hb; have p1_0 : w1.cell? ⟨w.heap.size, 0, none⟩ = some (.int .i64 q0) := (blk_cell b0 0).trans rfl; have p1_1 : w1.cell? ⟨w.heap.size, 1, none⟩ = some (.int .i64 q1) := (blk_cell b0 1).trans rfl; have B1 := Aside0.mk b0; have HB1 := Aside0.mk (below_step (by repeat (first | (with_reducible first | exact (Below.refl w.heap.size w) | apply below_alloc | apply pw_below_drewN | apply below_drew1) | exact (Below.refl w.heap.size w))) hb); have hlt1 := blk_lt b0; clear hb b0 RD ho) | (go_at_call 7; (with_reducible refine (fee_Lots.calls k a0 q0 _ _ o _ _ _ ?side1 ?side2 H2.out).mono ?_); (case side1 => (repeat (first | (with_reducible exact RC1.out) | (with_reducible refine Kd.C_alloc ?_ _) | (with_reducible refine Kd.C_drewN ?_ _) | (with_reducible refine Kd.C_drew ?_) | exact RC1.out))); (case side2 => exact RL.out); rintro _ w2 ⟨rfl, hb⟩; have b0 := blk_below (by (with_reducible repeat (first | refine blk_drewN ?_ _ | refine blk_drew ?_ | refine blk_alloc ?_ _)); exact B1.out) hb; have p2_0 : w2.cell? ⟨w.heap.size, 0, none⟩ = some (.int .i64 q0) := (blk_cell b0 0).trans rfl; have p2_1 : w2.cell? ⟨w.heap.size, 1, none⟩ = some (.int .i64 q1) := (blk_cell b0 1).trans rfl; have B2 := Aside0.mk b0; have RC2 := Aside0.mk (Kd.C_below (by repeat (first | (with_reducible exact RC1.out) | (with_reducible refine Kd.C_alloc ?_ _) | (with_reducible refine Kd.C_drewN ?_ _) | (with_reducible refine Kd.C_drew ?_) | exact RC1.out)) hb); have HB2 := Aside0.mk (below_step (by repeat (first | (with_reducible first | exact HB1.out | apply below_alloc | apply pw_below_drewN | apply below_drew1) | exact HB1.out)) hb); have hlt2 := blk_lt b0; clear hb b0) | (go_at_call 7; (with_reducible refine (fee_Lots.calls k (wrap64 (a0 + q0)) q1 _ _ o _ _ _ ?side1 ?side2 H3.out).mono ?_); (case side1 => (repeat (first | (with_reducible exact RC2.out) | (with_reducible refine Kd.C_alloc ?_ _) | (with_reducible refine Kd.C_drewN ?_ _) | (with_reducible refine Kd.C_drew ?_) | exact RC2.out))); (case side2 => exact RL.out); rintro _ w3 ⟨rfl, hb⟩; have b0 := blk_below (by (with_reducible repeat (first | refine blk_drewN ?_ _ | refine blk_drew ?_ | refine blk_alloc ?_ _)); exact B2.out) hb; have p3_0 : w3.cell? ⟨w.heap.size, 0, none⟩ = some (.int .i64 q0) := (blk_cell b0 0).trans rfl; have p3_1 : w3.cell? ⟨w.heap.size, 1, none⟩ = some (.int .i64 q1) := (blk_cell b0 1).trans rfl; have B3 := Aside0.mk b0; have RC3 := Aside0.mk (Kd.C_below (by repeat (first | (with_reducible exact RC2.out) | (with_reducible refine Kd.C_alloc ?_ _) | (with_reducible refine Kd.C_drewN ?_ _) | (with_reducible refine Kd.C_drew ?_) | exact RC2.out)) hb); have HB3 := Aside0.mk (below_step (by repeat (first | (with_reducible first | exact HB2.out | apply below_alloc | apply pw_below_drewN | apply below_drew1) | exact HB2.out)) hb); have hlt3 := blk_lt b0; clear hb b0) | (go_at_call 7; (with_reducible refine (fee_Lots.calls k a0 (wrap64 (q0 + q1)) _ _ o _ _ _ ?side1 ?side2 H4.out).mono ?_); (case side1 => (repeat (first | (with_reducible exact RC3.out) | (with_reducible refine Kd.C_alloc ?_ _) | (with_reducible refine Kd.C_drewN ?_ _) | (with_reducible refine Kd.C_drew ?_) | exact RC3.out))); (case side2 => exact RL.out); rintro _ w4 ⟨rfl, hb⟩; have b0 := blk_below (by (with_reducible repeat (first | refine blk_drewN ?_ _ | refine blk_drew ?_ | refine blk_alloc ?_ _)); exact B3.out) hb; have p4_0 : w4.cell? ⟨w.heap.size, 0, none⟩ = some (.int .i64 q0) := (blk_cell b0 0).trans rfl; have p4_1 : w4.cell? ⟨w.heap.size, 1, none⟩ = some (.int .i64 q1) := (blk_cell b0 1).trans rfl; have B4 := Aside0.mk b0; have RC4 := Aside0.mk (Kd.C_below (by repeat (first | (with_reducible exact RC3.out) | (with_reducible refine Kd.C_alloc ?_ _) | (with_reducible refine Kd.C_drewN ?_ _) | (with_reducible refine Kd.C_drew ?_) | exact RC3.out)) hb); have HB4 := Aside0.mk (below_step (by repeat (first | (with_reducible first | exact HB3.out | apply below_alloc | apply pw_below_drewN | apply below_drew1) | exact HB3.out)) hb); have hlt4 := blk_lt b0; clear hb b0) | (go_at_call 12; (with_reducible refine (contangolaw38_goes.calls k true _ HG.out).mono ?_); rintro _ w5 ⟨rfl, hb⟩; have HB5 := Aside0.mk (below_step (by repeat (first | (with_reducible first | exact HB4.out | apply below_alloc | apply pw_below_drewN | apply below_drew1) | exact HB4.out)) hb); clear hb))
    repeat (go_quiet (first | (go_at_call 12; (with_reducible refine (contangolaw38_goes.calls k true _ HG.out).mono ?_); rintro _ w5 ⟨rfl, hb⟩; have HB5 := Aside0.mk (below_step (by repeat (first | (with_reducible first | exact HB4.out | apply below_alloc | apply pw_below_drewN | apply below_drew1) | exact HB4.out)) hb); clear hb) | fail); try go_wp2)
    go_ret
    exact ⟨by first | rfl | (simp; done) | (simp [*]; done), HB5.out⟩
  subst cx
  by_cases cy : y2 = 0
  case neg =>
    rw [if_neg (fun e => cy e.2.1)] at hd
    have HG := Aside0.mk hd
    clear hd
    have y2b0 : (y2 == 0) = false := beq_eq_false_iff_ne.mpr cy
    have y2b1 : (y2 != 0) = true := bne_iff_ne.mpr cy
    clear cy
    go_enter Try.func5, Try.ntmps5
    go_wp2_with (first | (go_at_call 8; (with_reducible refine (contangolaw38_Bands.calls k _ _ l2 o _ ?side1 ?side2 H1.out).mono ?_); (case side1 => (repeat (first | (with_reducible exact HR2.out) | (with_reducible refine Kd.C_alloc ?_ _) | (with_reducible refine Kd.C_drewN ?_ _) | (with_reducible refine Kd.C_drew ?_) | exact HR2.out))); (case side2 => exact HC2.out); rintro _ w1 ⟨v0, rfl, ho, hb⟩; obtain ⟨Ao, co, rfl⟩ := Kd.R_slice ho; have RD := Kd.R_reads' ho; have RC1 := Aside0.mk RD.2.2; have RL := Aside0.mk RD.2.1; have b0 := blk_below (by (with_reducible repeat (first | refine blk_drewN ?_ _ | refine blk_drew ?_)); exact blk_new w _) hb; have p1_0 : w1.cell? ⟨w.heap.size, 0, none⟩ = some (.int .i64 q0) := (blk_cell b0 0).trans rfl; have p1_1 : w1.cell? ⟨w.heap.size, 1, none⟩ = some (.int .i64 q1) := (blk_cell b0 1).trans rfl; have B1 := Aside0.mk b0; have HB1 := Aside0.mk (below_step (by repeat (first | (with_reducible first | exact (Below.refl w.heap.size w) | apply below_alloc | apply pw_below_drewN | apply below_drew1) | exact (Below.refl w.heap.size w))) hb); have hlt1 := blk_lt b0; clear hb b0 RD ho) | (go_at_call 7; (with_reducible refine (fee_Lots.calls k a0 q0 _ _ o _ _ _ ?side1 ?side2 H2.out).mono ?_); (case side1 => (repeat (first | (with_reducible exact RC1.out) | (with_reducible refine Kd.C_alloc ?_ _) | (with_reducible refine Kd.C_drewN ?_ _) | (with_reducible refine Kd.C_drew ?_) | exact RC1.out))); (case side2 => exact RL.out); rintro _ w2 ⟨rfl, hb⟩; have b0 := blk_below (by (with_reducible repeat (first | refine blk_drewN ?_ _ | refine blk_drew ?_ | refine blk_alloc ?_ _)); exact B1.out) hb; have p2_0 : w2.cell? ⟨w.heap.size, 0, none⟩ = some (.int .i64 q0) := (blk_cell b0 0).trans rfl; have p2_1 : w2.cell? ⟨w.heap.size, 1, none⟩ = some (.int .i64 q1) := (blk_cell b0 1).trans rfl; have B2 := Aside0.mk b0; have RC2 := Aside0.mk (Kd.C_below (by repeat (first | (with_reducible exact RC1.out) | (with_reducible refine Kd.C_alloc ?_ _) | (with_reducible refine Kd.C_drewN ?_ _) | (with_reducible refine Kd.C_drew ?_) | exact RC1.out)) hb); have HB2 := Aside0.mk (below_step (by repeat (first | (with_reducible first | exact HB1.out | apply below_alloc | apply pw_below_drewN | apply below_drew1) | exact HB1.out)) hb); have hlt2 := blk_lt b0; clear hb b0) | (go_at_call 7; (with_reducible refine (fee_Lots.calls k (wrap64 (a0 + q0)) q1 _ _ o _ _ _ ?side1 ?side2 H3.out).mono ?_); (case side1 => (repeat (first | (with_reducible exact RC2.out) | (with_reducible refine Kd.C_alloc ?_ _) | (with_reducible refine Kd.C_drewN ?_ _) | (with_reducible refine Kd.C_drew ?_) | exact RC2.out))); (case side2 => exact RL.out); rintro _ w3 ⟨rfl, hb⟩; have b0 := blk_below (by (with_reducible repeat (first | refine blk_drewN ?_ _ | refine blk_drew ?_ | refine blk_alloc ?_ _)); exact B2.out) hb; have p3_0 : w3.cell? ⟨w.heap.size, 0, none⟩ = some (.int .i64 q0) := (blk_cell b0 0).trans rfl; have p3_1 : w3.cell? ⟨w.heap.size, 1, none⟩ = some (.int .i64 q1) := (blk_cell b0 1).trans rfl; have B3 := Aside0.mk b0; have RC3 := Aside0.mk (Kd.C_below (by repeat (first | (with_reducible exact RC2.out) | (with_reducible refine Kd.C_alloc ?_ _) | (with_reducible refine Kd.C_drewN ?_ _) | (with_reducible refine Kd.C_drew ?_) | exact RC2.out)) hb); have HB3 := Aside0.mk (below_step (by repeat (first | (with_reducible first | exact HB2.out | apply below_alloc | apply pw_below_drewN | apply below_drew1) | exact HB2.out)) hb); have hlt3 := blk_lt b0; clear hb b0) | (go_at_call 7; (with_reducible refine (fee_Lots.calls k a0 (wrap64 (q0 + q1)) _ _ o _ _ _ ?side1 ?side2 H4.out).mono ?_); (case side1 => (repeat (first | (with_reducible exact RC3.out) | (with_reducible refine Kd.C_alloc ?_ _) | (with_reducible refine Kd.C_drewN ?_ _) | (with_reducible refine Kd.C_drew ?_) | exact RC3.out))); (case side2 => exact RL.out); rintro _ w4 ⟨rfl, hb⟩; have b0 := blk_below (by (with_reducible repeat (first | refine blk_drewN ?_ _ | refine blk_drew ?_ | refine blk_alloc ?_ _)); exact B3.out) hb; have p4_0 : w4.cell? ⟨w.heap.size, 0, none⟩ = some (.int .i64 q0) := (blk_cell b0 0).trans rfl; have p4_1 : w4.cell? ⟨w.heap.size, 1, none⟩ = some (.int .i64 q1) := (blk_cell b0 1).trans rfl; have B4 := Aside0.mk b0; have RC4 := Aside0.mk (Kd.C_below (by repeat (first | (with_reducible exact RC3.out) | (with_reducible refine Kd.C_alloc ?_ _) | (with_reducible refine Kd.C_drewN ?_ _) | (with_reducible refine Kd.C_drew ?_) | exact RC3.out)) hb); have HB4 := Aside0.mk (below_step (by repeat (first | (with_reducible first | exact HB3.out | apply below_alloc | apply pw_below_drewN | apply below_drew1) | exact HB3.out)) hb); have hlt4 := blk_lt b0; clear hb b0) | (go_at_call 12; (with_reducible refine (contangolaw38_goes.calls k true _ HG.out).mono ?_); rintro _ w5 ⟨rfl, hb⟩; have HB5 := Aside0.mk (below_step (by repeat (first | (with_reducible first | exact HB4.out | apply below_alloc | apply pw_below_drewN | apply below_drew1) | exact HB4.out)) hb); clear hb))
    repeat (go_quiet (first | (go_at_call 12; (with_reducible refine (contangolaw38_goes.calls k true _ HG.out).mono ?_); rintro _ w5 ⟨rfl, hb⟩; have HB5 := Aside0.mk (below_step (by repeat (first | (with_reducible first | exact HB4.out | apply below_alloc | apply pw_below_drewN | apply below_drew1) | exact HB4.out)) hb); clear hb) | fail); try go_wp2)
    go_ret
    exact ⟨by first | rfl | (simp; done) | (simp [*]; done), HB5.out⟩
  subst cy
  by_cases cz : z2 = 0
  case neg =>
    rw [if_neg (fun e => cz e.2.2)] at hd
    have HG := Aside0.mk hd
    clear hd
    have z2b0 : (z2 == 0) = false := beq_eq_false_iff_ne.mpr cz
    have z2b1 : (z2 != 0) = true := bne_iff_ne.mpr cz
    clear cz
    go_enter Try.func5, Try.ntmps5
    go_wp2_with (first | (go_at_call 8; (with_reducible refine (contangolaw38_Bands.calls k _ _ l2 o _ ?side1 ?side2 H1.out).mono ?_); (case side1 => (repeat (first | (with_reducible exact HR2.out) | (with_reducible refine Kd.C_alloc ?_ _) | (with_reducible refine Kd.C_drewN ?_ _) | (with_reducible refine Kd.C_drew ?_) | exact HR2.out))); (case side2 => exact HC2.out); rintro _ w1 ⟨v0, rfl, ho, hb⟩; obtain ⟨Ao, co, rfl⟩ := Kd.R_slice ho; have RD := Kd.R_reads' ho; have RC1 := Aside0.mk RD.2.2; have RL := Aside0.mk RD.2.1; have b0 := blk_below (by (with_reducible repeat (first | refine blk_drewN ?_ _ | refine blk_drew ?_)); exact blk_new w _) hb; have p1_0 : w1.cell? ⟨w.heap.size, 0, none⟩ = some (.int .i64 q0) := (blk_cell b0 0).trans rfl; have p1_1 : w1.cell? ⟨w.heap.size, 1, none⟩ = some (.int .i64 q1) := (blk_cell b0 1).trans rfl; have B1 := Aside0.mk b0; have HB1 := Aside0.mk (below_step (by repeat (first | (with_reducible first | exact (Below.refl w.heap.size w) | apply below_alloc | apply pw_below_drewN | apply below_drew1) | exact (Below.refl w.heap.size w))) hb); have hlt1 := blk_lt b0; clear hb b0 RD ho) | (go_at_call 7; (with_reducible refine (fee_Lots.calls k a0 q0 _ _ o _ _ _ ?side1 ?side2 H2.out).mono ?_); (case side1 => (repeat (first | (with_reducible exact RC1.out) | (with_reducible refine Kd.C_alloc ?_ _) | (with_reducible refine Kd.C_drewN ?_ _) | (with_reducible refine Kd.C_drew ?_) | exact RC1.out))); (case side2 => exact RL.out); rintro _ w2 ⟨rfl, hb⟩; have b0 := blk_below (by (with_reducible repeat (first | refine blk_drewN ?_ _ | refine blk_drew ?_ | refine blk_alloc ?_ _)); exact B1.out) hb; have p2_0 : w2.cell? ⟨w.heap.size, 0, none⟩ = some (.int .i64 q0) := (blk_cell b0 0).trans rfl; have p2_1 : w2.cell? ⟨w.heap.size, 1, none⟩ = some (.int .i64 q1) := (blk_cell b0 1).trans rfl; have B2 := Aside0.mk b0; have RC2 := Aside0.mk (Kd.C_below (by repeat (first | (with_reducible exact RC1.out) | (with_reducible refine Kd.C_alloc ?_ _) | (with_reducible refine Kd.C_drewN ?_ _) | (with_reducible refine Kd.C_drew ?_) | exact RC1.out)) hb); have HB2 := Aside0.mk (below_step (by repeat (first | (with_reducible first | exact HB1.out | apply below_alloc | apply pw_below_drewN | apply below_drew1) | exact HB1.out)) hb); have hlt2 := blk_lt b0; clear hb b0) | (go_at_call 7; (with_reducible refine (fee_Lots.calls k (wrap64 (a0 + q0)) q1 _ _ o _ _ _ ?side1 ?side2 H3.out).mono ?_); (case side1 => (repeat (first | (with_reducible exact RC2.out) | (with_reducible refine Kd.C_alloc ?_ _) | (with_reducible refine Kd.C_drewN ?_ _) | (with_reducible refine Kd.C_drew ?_) | exact RC2.out))); (case side2 => exact RL.out); rintro _ w3 ⟨rfl, hb⟩; have b0 := blk_below (by (with_reducible repeat (first | refine blk_drewN ?_ _ | refine blk_drew ?_ | refine blk_alloc ?_ _)); exact B2.out) hb; have p3_0 : w3.cell? ⟨w.heap.size, 0, none⟩ = some (.int .i64 q0) := (blk_cell b0 0).trans rfl; have p3_1 : w3.cell? ⟨w.heap.size, 1, none⟩ = some (.int .i64 q1) := (blk_cell b0 1).trans rfl; have B3 := Aside0.mk b0; have RC3 := Aside0.mk (Kd.C_below (by repeat (first | (with_reducible exact RC2.out) | (with_reducible refine Kd.C_alloc ?_ _) | (with_reducible refine Kd.C_drewN ?_ _) | (with_reducible refine Kd.C_drew ?_) | exact RC2.out)) hb); have HB3 := Aside0.mk (below_step (by repeat (first | (with_reducible first | exact HB2.out | apply below_alloc | apply pw_below_drewN | apply below_drew1) | exact HB2.out)) hb); have hlt3 := blk_lt b0; clear hb b0) | (go_at_call 7; (with_reducible refine (fee_Lots.calls k a0 (wrap64 (q0 + q1)) _ _ o _ _ _ ?side1 ?side2 H4.out).mono ?_); (case side1 => (repeat (first | (with_reducible exact RC3.out) | (with_reducible refine Kd.C_alloc ?_ _) | (with_reducible refine Kd.C_drewN ?_ _) | (with_reducible refine Kd.C_drew ?_) | exact RC3.out))); (case side2 => exact RL.out); rintro _ w4 ⟨rfl, hb⟩; have b0 := blk_below (by (with_reducible repeat (first | refine blk_drewN ?_ _ | refine blk_drew ?_ | refine blk_alloc ?_ _)); exact B3.out) hb; have p4_0 : w4.cell? ⟨w.heap.size, 0, none⟩ = some (.int .i64 q0) := (blk_cell b0 0).trans rfl; have p4_1 : w4.cell? ⟨w.heap.size, 1, none⟩ = some (.int .i64 q1) := (blk_cell b0 1).trans rfl; have B4 := Aside0.mk b0; have RC4 := Aside0.mk (Kd.C_below (by repeat (first | (with_reducible exact RC3.out) | (with_reducible refine Kd.C_alloc ?_ _) | (with_reducible refine Kd.C_drewN ?_ _) | (with_reducible refine Kd.C_drew ?_) | exact RC3.out)) hb); have HB4 := Aside0.mk (below_step (by repeat (first | (with_reducible first | exact HB3.out | apply below_alloc | apply pw_below_drewN | apply below_drew1) | exact HB3.out)) hb); have hlt4 := blk_lt b0; clear hb b0) | (go_at_call 12; (with_reducible refine (contangolaw38_goes.calls k true _ HG.out).mono ?_); rintro _ w5 ⟨rfl, hb⟩; have HB5 := Aside0.mk (below_step (by repeat (first | (with_reducible first | exact HB4.out | apply below_alloc | apply pw_below_drewN | apply below_drew1) | exact HB4.out)) hb); clear hb))
    repeat (go_quiet (first | (go_at_call 12; (with_reducible refine (contangolaw38_goes.calls k true _ HG.out).mono ?_); rintro _ w5 ⟨rfl, hb⟩; have HB5 := Aside0.mk (below_step (by repeat (first | (with_reducible first | exact HB4.out | apply below_alloc | apply pw_below_drewN | apply below_drew1) | exact HB4.out)) hb); clear hb) | fail); try go_wp2)
    go_ret
    exact ⟨by first | rfl | (simp; done) | (simp [*]; done), HB5.out⟩
  subst cz
  rw [if_pos ⟨rfl, rfl, rfl⟩] at hd
  obtain ⟨⟨u1, u2⟩, h5, he⟩ := Option.bind_eq_some_iff.mp hd
  have H5 := Aside0.mk h5
  clear hd h5
  by_cases cw : wrap64 (x1 + y1) = z1 ∧ (u2 = 0 → u1 ≤ x1)
  case neg => rw [if_neg cw] at he; cases he
  rw [if_pos cw] at he
  have HG := Aside0.mk he
  clear he
  obtain ⟨rfl, cl⟩ := cw
  by_cases cu : u2 = 0
  case neg =>
    have u2b0 : (u2 == 0) = false := beq_eq_false_iff_ne.mpr cu
    have u2b1 : (u2 != 0) = true := bne_iff_ne.mpr cu
    clear cu cl
    go_enter Try.func5, Try.ntmps5
    go_wp2_with (first | (go_at_call 8; (with_reducible refine (contangolaw38_Bands.calls k _ _ l2 o _ ?side1 ?side2 H1.out).mono ?_); (case side1 => (repeat (first | (with_reducible exact HR2.out) | (with_reducible refine Kd.C_alloc ?_ _) | (with_reducible refine Kd.C_drewN ?_ _) | (with_reducible refine Kd.C_drew ?_) | exact HR2.out))); (case side2 => exact HC2.out); rintro _ w1 ⟨v0, rfl, ho, hb⟩; obtain ⟨Ao, co, rfl⟩ := Kd.R_slice ho; have RD := Kd.R_reads' ho; have RC1 := Aside0.mk RD.2.2; have RL := Aside0.mk RD.2.1; have b0 := blk_below (by (with_reducible repeat (first | refine blk_drewN ?_ _ | refine blk_drew ?_)); exact blk_new w _) hb; have p1_0 : w1.cell? ⟨w.heap.size, 0, none⟩ = some (.int .i64 q0) := (blk_cell b0 0).trans rfl; have p1_1 : w1.cell? ⟨w.heap.size, 1, none⟩ = some (.int .i64 q1) := (blk_cell b0 1).trans rfl; have B1 := Aside0.mk b0; have HB1 := Aside0.mk (below_step (by repeat (first | (with_reducible first | exact (Below.refl w.heap.size w) | apply below_alloc | apply pw_below_drewN | apply below_drew1) | exact (Below.refl w.heap.size w))) hb); have hlt1 := blk_lt b0; clear hb b0 RD ho) | (go_at_call 7; (with_reducible refine (fee_Lots.calls k a0 q0 _ _ o _ _ _ ?side1 ?side2 H2.out).mono ?_); (case side1 => (repeat (first | (with_reducible exact RC1.out) | (with_reducible refine Kd.C_alloc ?_ _) | (with_reducible refine Kd.C_drewN ?_ _) | (with_reducible refine Kd.C_drew ?_) | exact RC1.out))); (case side2 => exact RL.out); rintro _ w2 ⟨rfl, hb⟩; have b0 := blk_below (by (with_reducible repeat (first | refine blk_drewN ?_ _ | refine blk_drew ?_ | refine blk_alloc ?_ _)); exact B1.out) hb; have p2_0 : w2.cell? ⟨w.heap.size, 0, none⟩ = some (.int .i64 q0) := (blk_cell b0 0).trans rfl; have p2_1 : w2.cell? ⟨w.heap.size, 1, none⟩ = some (.int .i64 q1) := (blk_cell b0 1).trans rfl; have B2 := Aside0.mk b0; have RC2 := Aside0.mk (Kd.C_below (by repeat (first | (with_reducible exact RC1.out) | (with_reducible refine Kd.C_alloc ?_ _) | (with_reducible refine Kd.C_drewN ?_ _) | (with_reducible refine Kd.C_drew ?_) | exact RC1.out)) hb); have HB2 := Aside0.mk (below_step (by repeat (first | (with_reducible first | exact HB1.out | apply below_alloc | apply pw_below_drewN | apply below_drew1) | exact HB1.out)) hb); have hlt2 := blk_lt b0; clear hb b0) | (go_at_call 7; (with_reducible refine (fee_Lots.calls k (wrap64 (a0 + q0)) q1 _ _ o _ _ _ ?side1 ?side2 H3.out).mono ?_); (case side1 => (repeat (first | (with_reducible exact RC2.out) | (with_reducible refine Kd.C_alloc ?_ _) | (with_reducible refine Kd.C_drewN ?_ _) | (with_reducible refine Kd.C_drew ?_) | exact RC2.out))); (case side2 => exact RL.out); rintro _ w3 ⟨rfl, hb⟩; have b0 := blk_below (by (with_reducible repeat (first | refine blk_drewN ?_ _ | refine blk_drew ?_ | refine blk_alloc ?_ _)); exact B2.out) hb; have p3_0 : w3.cell? ⟨w.heap.size, 0, none⟩ = some (.int .i64 q0) := (blk_cell b0 0).trans rfl; have p3_1 : w3.cell? ⟨w.heap.size, 1, none⟩ = some (.int .i64 q1) := (blk_cell b0 1).trans rfl; have B3 := Aside0.mk b0; have RC3 := Aside0.mk (Kd.C_below (by repeat (first | (with_reducible exact RC2.out) | (with_reducible refine Kd.C_alloc ?_ _) | (with_reducible refine Kd.C_drewN ?_ _) | (with_reducible refine Kd.C_drew ?_) | exact RC2.out)) hb); have HB3 := Aside0.mk (below_step (by repeat (first | (with_reducible first | exact HB2.out | apply below_alloc | apply pw_below_drewN | apply below_drew1) | exact HB2.out)) hb); have hlt3 := blk_lt b0; clear hb b0) | (go_at_call 7; (with_reducible refine (fee_Lots.calls k a0 (wrap64 (q0 + q1)) _ _ o _ _ _ ?side1 ?side2 H4.out).mono ?_); (case side1 => (repeat (first | (with_reducible exact RC3.out) | (with_reducible refine Kd.C_alloc ?_ _) | (with_reducible refine Kd.C_drewN ?_ _) | (with_reducible refine Kd.C_drew ?_) | exact RC3.out))); (case side2 => exact RL.out); rintro _ w4 ⟨rfl, hb⟩; have b0 := blk_below (by (with_reducible repeat (first | refine blk_drewN ?_ _ | refine blk_drew ?_ | refine blk_alloc ?_ _)); exact B3.out) hb; have p4_0 : w4.cell? ⟨w.heap.size, 0, none⟩ = some (.int .i64 q0) := (blk_cell b0 0).trans rfl; have p4_1 : w4.cell? ⟨w.heap.size, 1, none⟩ = some (.int .i64 q1) := (blk_cell b0 1).trans rfl; have B4 := Aside0.mk b0; have RC4 := Aside0.mk (Kd.C_below (by repeat (first | (with_reducible exact RC3.out) | (with_reducible refine Kd.C_alloc ?_ _) | (with_reducible refine Kd.C_drewN ?_ _) | (with_reducible refine Kd.C_drew ?_) | exact RC3.out)) hb); have HB4 := Aside0.mk (below_step (by repeat (first | (with_reducible first | exact HB3.out | apply below_alloc | apply pw_below_drewN | apply below_drew1) | exact HB3.out)) hb); have hlt4 := blk_lt b0; clear hb b0) | (go_at_call 7; (with_reducible refine (fee_Lots.calls k (wrap64 (a0 + q0)) q0 _ _ o _ _ _ ?side1 ?side2 H5.out).mono ?_); (case side1 => (repeat (first | (with_reducible exact RC4.out) | (with_reducible refine Kd.C_alloc ?_ _) | (with_reducible refine Kd.C_drewN ?_ _) | (with_reducible refine Kd.C_drew ?_) | exact RC4.out))); (case side2 => exact RL.out); rintro _ w5 ⟨rfl, hb⟩; have b0 := blk_below (by (with_reducible repeat (first | refine blk_drewN ?_ _ | refine blk_drew ?_ | refine blk_alloc ?_ _)); exact B4.out) hb; have p5_0 : w5.cell? ⟨w.heap.size, 0, none⟩ = some (.int .i64 q0) := (blk_cell b0 0).trans rfl; have p5_1 : w5.cell? ⟨w.heap.size, 1, none⟩ = some (.int .i64 q1) := (blk_cell b0 1).trans rfl; have B5 := Aside0.mk b0; have RC5 := Aside0.mk (Kd.C_below (by repeat (first | (with_reducible exact RC4.out) | (with_reducible refine Kd.C_alloc ?_ _) | (with_reducible refine Kd.C_drewN ?_ _) | (with_reducible refine Kd.C_drew ?_) | exact RC4.out)) hb); have HB5 := Aside0.mk (below_step (by repeat (first | (with_reducible first | exact HB4.out | apply below_alloc | apply pw_below_drewN | apply below_drew1) | exact HB4.out)) hb); have hlt5 := blk_lt b0; clear hb b0) | (go_at_call 12; (with_reducible refine (contangolaw38_goes.calls k true _ HG.out).mono ?_); rintro _ w6 ⟨rfl, hb⟩; have HB6 := Aside0.mk (below_step (by repeat (first | (with_reducible first | exact HB5.out | apply below_alloc | apply pw_below_drewN | apply below_drew1) | exact HB5.out)) hb); clear hb))
    repeat (go_quiet (first | (go_at_call 12; (with_reducible refine (contangolaw38_goes.calls k true _ HG.out).mono ?_); rintro _ w6 ⟨rfl, hb⟩; have HB6 := Aside0.mk (below_step (by repeat (first | (with_reducible first | exact HB5.out | apply below_alloc | apply pw_below_drewN | apply below_drew1) | exact HB5.out)) hb); clear hb) | fail); try go_wp2)
    go_ret
    exact ⟨by first | rfl | (simp; done) | (simp [*]; done), HB6.out⟩
  subst cu
  have cl1 : decide (u1 ≤ x1) = true := decide_eq_true (cl rfl)
  clear cl
  go_enter Try.func5, Try.ntmps5
  go_wp2_with (first | (go_at_call 8; (with_reducible refine (contangolaw38_Bands.calls k _ _ l2 o _ ?side1 ?side2 H1.out).mono ?_); (case side1 => (repeat (first | (with_reducible exact HR2.out) | (with_reducible refine Kd.C_alloc ?_ _) | (with_reducible refine Kd.C_drewN ?_ _) | (with_reducible refine Kd.C_drew ?_) | exact HR2.out))); (case side2 => exact HC2.out); rintro _ w1 ⟨v0, rfl, ho, hb⟩; obtain ⟨Ao, co, rfl⟩ := Kd.R_slice ho; have RD := Kd.R_reads' ho; have RC1 := Aside0.mk RD.2.2; have RL := Aside0.mk RD.2.1; have b0 := blk_below (by (with_reducible repeat (first | refine blk_drewN ?_ _ | refine blk_drew ?_)); exact blk_new w _) hb; have p1_0 : w1.cell? ⟨w.heap.size, 0, none⟩ = some (.int .i64 q0) := (blk_cell b0 0).trans rfl; have p1_1 : w1.cell? ⟨w.heap.size, 1, none⟩ = some (.int .i64 q1) := (blk_cell b0 1).trans rfl; have B1 := Aside0.mk b0; have HB1 := Aside0.mk (below_step (by repeat (first | (with_reducible first | exact (Below.refl w.heap.size w) | apply below_alloc | apply pw_below_drewN | apply below_drew1) | exact (Below.refl w.heap.size w))) hb); have hlt1 := blk_lt b0; clear hb b0 RD ho) | (go_at_call 7; (with_reducible refine (fee_Lots.calls k a0 q0 _ _ o _ _ _ ?side1 ?side2 H2.out).mono ?_); (case side1 => (repeat (first | (with_reducible exact RC1.out) | (with_reducible refine Kd.C_alloc ?_ _) | (with_reducible refine Kd.C_drewN ?_ _) | (with_reducible refine Kd.C_drew ?_) | exact RC1.out))); (case side2 => exact RL.out); rintro _ w2 ⟨rfl, hb⟩; have b0 := blk_below (by (with_reducible repeat (first | refine blk_drewN ?_ _ | refine blk_drew ?_ | refine blk_alloc ?_ _)); exact B1.out) hb; have p2_0 : w2.cell? ⟨w.heap.size, 0, none⟩ = some (.int .i64 q0) := (blk_cell b0 0).trans rfl; have p2_1 : w2.cell? ⟨w.heap.size, 1, none⟩ = some (.int .i64 q1) := (blk_cell b0 1).trans rfl; have B2 := Aside0.mk b0; have RC2 := Aside0.mk (Kd.C_below (by repeat (first | (with_reducible exact RC1.out) | (with_reducible refine Kd.C_alloc ?_ _) | (with_reducible refine Kd.C_drewN ?_ _) | (with_reducible refine Kd.C_drew ?_) | exact RC1.out)) hb); have HB2 := Aside0.mk (below_step (by repeat (first | (with_reducible first | exact HB1.out | apply below_alloc | apply pw_below_drewN | apply below_drew1) | exact HB1.out)) hb); have hlt2 := blk_lt b0; clear hb b0) | (go_at_call 7; (with_reducible refine (fee_Lots.calls k (wrap64 (a0 + q0)) q1 _ _ o _ _ _ ?side1 ?side2 H3.out).mono ?_); (case side1 => (repeat (first | (with_reducible exact RC2.out) | (with_reducible refine Kd.C_alloc ?_ _) | (with_reducible refine Kd.C_drewN ?_ _) | (with_reducible refine Kd.C_drew ?_) | exact RC2.out))); (case side2 => exact RL.out); rintro _ w3 ⟨rfl, hb⟩; have b0 := blk_below (by (with_reducible repeat (first | refine blk_drewN ?_ _ | refine blk_drew ?_ | refine blk_alloc ?_ _)); exact B2.out) hb; have p3_0 : w3.cell? ⟨w.heap.size, 0, none⟩ = some (.int .i64 q0) := (blk_cell b0 0).trans rfl; have p3_1 : w3.cell? ⟨w.heap.size, 1, none⟩ = some (.int .i64 q1) := (blk_cell b0 1).trans rfl; have B3 := Aside0.mk b0; have RC3 := Aside0.mk (Kd.C_below (by repeat (first | (with_reducible exact RC2.out) | (with_reducible refine Kd.C_alloc ?_ _) | (with_reducible refine Kd.C_drewN ?_ _) | (with_reducible refine Kd.C_drew ?_) | exact RC2.out)) hb); have HB3 := Aside0.mk (below_step (by repeat (first | (with_reducible first | exact HB2.out | apply below_alloc | apply pw_below_drewN | apply below_drew1) | exact HB2.out)) hb); have hlt3 := blk_lt b0; clear hb b0) | (go_at_call 7; (with_reducible refine (fee_Lots.calls k a0 (wrap64 (q0 + q1)) _ _ o _ _ _ ?side1 ?side2 H4.out).mono ?_); (case side1 => (repeat (first | (with_reducible exact RC3.out) | (with_reducible refine Kd.C_alloc ?_ _) | (with_reducible refine Kd.C_drewN ?_ _) | (with_reducible refine Kd.C_drew ?_) | exact RC3.out))); (case side2 => exact RL.out); rintro _ w4 ⟨rfl, hb⟩; have b0 := blk_below (by (with_reducible repeat (first | refine blk_drewN ?_ _ | refine blk_drew ?_ | refine blk_alloc ?_ _)); exact B3.out) hb; have p4_0 : w4.cell? ⟨w.heap.size, 0, none⟩ = some (.int .i64 q0) := (blk_cell b0 0).trans rfl; have p4_1 : w4.cell? ⟨w.heap.size, 1, none⟩ = some (.int .i64 q1) := (blk_cell b0 1).trans rfl; have B4 := Aside0.mk b0; have RC4 := Aside0.mk (Kd.C_below (by repeat (first | (with_reducible exact RC3.out) | (with_reducible refine Kd.C_alloc ?_ _) | (with_reducible refine Kd.C_drewN ?_ _) | (with_reducible refine Kd.C_drew ?_) | exact RC3.out)) hb); have HB4 := Aside0.mk (below_step (by repeat (first | (with_reducible first | exact HB3.out | apply below_alloc | apply pw_below_drewN | apply below_drew1) | exact HB3.out)) hb); have hlt4 := blk_lt b0; clear hb b0) | (go_at_call 7; (with_reducible refine (fee_Lots.calls k (wrap64 (a0 + q0)) q0 _ _ o _ _ _ ?side1 ?side2 H5.out).mono ?_); (case side1 => (repeat (first | (with_reducible exact RC4.out) | (with_reducible refine Kd.C_alloc ?_ _) | (with_reducible refine Kd.C_drewN ?_ _) | (with_reducible refine Kd.C_drew ?_) | exact RC4.out))); (case side2 => exact RL.out); rintro _ w5 ⟨rfl, hb⟩; have b0 := blk_below (by (with_reducible repeat (first | refine blk_drewN ?_ _ | refine blk_drew ?_ | refine blk_alloc ?_ _)); exact B4.out) hb; have p5_0 : w5.cell? ⟨w.heap.size, 0, none⟩ = some (.int .i64 q0) := (blk_cell b0 0).trans rfl; have p5_1 : w5.cell? ⟨w.heap.size, 1, none⟩ = some (.int .i64 q1) := (blk_cell b0 1).trans rfl; have B5 := Aside0.mk b0; have RC5 := Aside0.mk (Kd.C_below (by repeat (first | (with_reducible exact RC4.out) | (with_reducible refine Kd.C_alloc ?_ _) | (with_reducible refine Kd.C_drewN ?_ _) | (with_reducible refine Kd.C_drew ?_) | exact RC4.out)) hb); have HB5 := Aside0.mk (below_step (by repeat (first | (with_reducible first | exact HB4.out | apply below_alloc | apply pw_below_drewN | apply below_drew1) | exact HB4.out)) hb); have hlt5 := blk_lt b0; clear hb b0) | (go_at_call 12; (with_reducible refine (contangolaw38_goes.calls k true _ HG.out).mono ?_); rintro _ w6 ⟨rfl, hb⟩; have HB6 := Aside0.mk (below_step (by repeat (first | (with_reducible first | exact HB5.out | apply below_alloc | apply pw_below_drewN | apply below_drew1) | exact HB5.out)) hb); clear hb))
  repeat (go_quiet (first | (go_at_call 12; (with_reducible refine (contangolaw38_goes.calls k true _ HG.out).mono ?_); rintro _ w6 ⟨rfl, hb⟩; have HB6 := Aside0.mk (below_step (by repeat (first | (with_reducible first | exact HB5.out | apply below_alloc | apply pw_below_drewN | apply below_drew1) | exact HB5.out)) hb); clear hb) | fail); try go_wp2)
  go_ret
  exact ⟨by first | rfl | (simp; done) | (simp [*]; done), HB6.out⟩

end Go.Proofs.Ytckjdncimibiaaa.PFeeRises
