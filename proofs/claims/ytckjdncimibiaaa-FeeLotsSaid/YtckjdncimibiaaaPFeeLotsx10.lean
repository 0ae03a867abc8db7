-- Written by a program of this session's (a turned copy of the kit's print, with functions proved by hand).
import Derived.Test.YtckjdncimibiaaaPFeeLotsx0
import Derived.Test.YtckjdncimibiaaaPFeeLotsx1
import Derived.Test.YtckjdncimibiaaaPFeeLotsx2
import Derived.Test.YtckjdncimibiaaaPFeeLotsx4
import Derived.Test.YtckjdncimibiaaaPFeeLotsx5
import Derived.Test.YtckjdncimibiaaaPFeeLotsx6
import Derived.Test.YtckjdncimibiaaaPFeeLotsx7
import Derived.Test.YtckjdncimibiaaaPFeeLotsx8
import Derived.Test.YtckjdncimibiaaaPFeeLotsx9
namespace Go.Proofs.Ytckjdncimibiaaa.PFeeLots
open Go.RowKit Go.Proofs.YtckjdncimibiaaaW.PrintWords Go.Proofs.YtckjdncimibiaaaW.PrintLast Go.Proofs.YtckjdncimibiaaaW.PrintMore
attribute [local go_sem] max2_int min2_int max_two min_two max_three min_three max_four min_four Go.Proofs.YtckjdncimibiaaaHand.run_leq_str Go.Proofs.YtckjdncimibiaaaHand.run_gtr_str Go.Proofs.YtckjdncimibiaaaHand.run_geq_str   -- for this text's walks alone
set_option linter.unusedVariables false
set_option linter.unusedSimpArgs false

attribute [local go_sem high] eqA51 eqA64
/-! ### fee_Add: function 16 -/
def fee_Add.chk (k : Nat) : List S51 → Option Int
  | [] => some 0
  | c :: r => if c.f1 < 0 ∨ c.f1 > 1152921504606846976 then some 18 else (words_Name.f k c.f0).bind fun b => if b = true then fee_Add.chk k r else some 10
def fee_Add.zero : List S51 → List (ByteArray × Int) → Option (List (ByteArray × Int))
  | [], m => some m
  | c :: r, m => if c.f0.size ≤ 1000000 then fee_Add.zero r (had_put m c.f0 0) else none
def fee_Add.go (mm : List (ByteArray × Int)) (l0 : List S51) : List ByteArray → List S51 → Option (List S51)
  | [], t => some t
  | s :: r, t => if s.size ≤ 1000000 then (if t.length < 1000000 then fee_Add.go mm l0 r (t ++ [⟨s, wrap64 (fee_first.go s l0 + (Go.Proofs.YtckjdncimibiaaaHand.look strQ mm s).getD 0)⟩]) else none) else none
def fee_Add.f (k : Nat) (l0 : List S51) (l1 : List S61) : Option (List S51 × Int) :=
  (fee_long.f l1 l0).bind fun b => if b = true then some ([], 8) else ((fee_Add.chk k l0).bind fun e => if e = 0 then ((fee_had.go k l1 []).bind fun h => if h.2 = 0 then ((fee_Add.zero l0 h.1).bind fun m => if m.length ≤ 1000000 then (fee_Add.go m l0 (sortS (m.map (·.1))) []).bind fun t => some (t, 0) else none) else some ([], h.2)) else some ([], e))
theorem fee_Add.mono_chk (k : Nat) (l : List S51) : LeO (fee_Add.chk k l) (fee_Add.chk (k + 1) l) := by
  induction l with
  | nil => exact LeO.refl _
  | cons c r ih =>
    unfold fee_Add.chk
    exact LeO.ite (LeO.refl _) (LeO.bind (words_Name.mono _ _) (fun b => LeO.ite ih (LeO.refl _)))
theorem fee_Add.mono : ∀ a0 a1 k, LeO (fee_Add.f k a0 a1) (fee_Add.f (k + 1) a0 a1) := by
  intro a0 a1 k
  unfold fee_Add.f
  exact LeO.bind (LeO.refl _) (fun b => LeO.ite (LeO.refl _) (LeO.bind (fee_Add.mono_chk _ _) (fun e => LeO.ite (LeO.bind (fee_had.mono _ _ _) (fun h => LeO.refl _)) (LeO.refl _))))
set_option maxHeartbeats 3200000 in
set_option maxRecDepth 100000 in
theorem fee_Add.calls (k : Nat) (A0 : Option Addr) (c0 : Nat) (l0 : List (S51)) (A1 : Option Addr) (c1 : Nat) (l1 : List (S61)) (r1 : List S51) (r2 : Int) (w : World) (hr0 : Kd.C k51 w A0 l0.length l0) (hc0 : l0.length ≤ c0) (hr1 : Kd.C k61 w A1 l1.length l1) (hc1 : l1.length ≤ c1) (h : fee_Add.f k l0 l1 = some (r1, r2)) :
    Calls Try.prog 16 #[.slice A0 l0.length c0, .slice A1 l1.length c1] w fun e w' => ∃ v0_ : Value, e = .returned (.tuple #[v0_, .int .i64 r2]) ∧ Kd.R k51 51 w' w.heap.size (fun _ => True) v0_ r1 ∧ Below w.heap.size w w' := by
  obtain ⟨b, hL, hh⟩ := Option.bind_eq_some_iff.mp h
  have HR0 := Aside0.mk hr0
  have hl0 := hr0.2.1
  have HC0 := Aside0.mk hc0
  have HR1 := Aside0.mk hr1
  have HC1 := Aside0.mk hc1
  have HLG := Aside0.mk hL
  clear hr0 hc0 hr1 hc1 hL h
  cases b with
  | true =>
    rw [if_pos rfl] at hh
    have hh2 := Option.some.inj hh
    simp only [Prod.mk.injEq] at hh2
    obtain ⟨rfl, rfl⟩ := hh2
    clear hh
    go_enter Try.func16, Try.ntmps16
    go_wp2_with ((go_at_call 26; refine (fee_long.calls A1 c1 l1 A0 c0 l0 true _ HR1.out HC1.out HR0.out HC0.out HLG.out).mono ?_; rintro _ w1 ⟨rfl, hb⟩; have HB1 := Aside0.mk hb.below; clear hb))
    go_ret2
    exact ⟨_, rfl, Kd.R_nil _ _ _ _ _, HB1.out⟩
  | false =>
    rw [if_neg (by decide)] at hh
    obtain ⟨e1, hC, hh⟩ := Option.bind_eq_some_iff.mp hh
    have HCK := Aside0.mk hC
    have HH := Aside0.mk hh
    clear hC hh
    go_enter Try.func16, Try.ntmps16
    go_wp2_with ((go_at_call 26; refine (fee_long.calls A1 c1 l1 A0 c0 l0 false _ HR1.out HC1.out HR0.out HC0.out HLG.out).mono ?_; rintro _ w1 ⟨rfl, hb⟩; have HB1 := Aside0.mk hb.below; clear hb))
    go_loopg [20] l0.length (fun kq v20 w' => ∃ (x : Nat), v20 = .int .i64 (x : Int) ∧ kq + x = l0.length ∧ Aside0 (fee_Add.chk k (l0.drop x) = some e1) ∧ Aside0 (Below w.heap.size w w'))
    case atStart => exact ⟨0, rfl, by omega, HCK, HB1⟩
    case round =>
      clear HCK HB1 HLG
      obtain ⟨x, rfl, hx, HA, HB⟩ := hrel
      have hsz := HB.out.size
      by_cases hlt : x < l0.length
      · obtain ⟨ad, ead, h0, h1⟩ := at_T51 (Kd.C_below HR0.out HB.out) (x : Int) (by omega) (by omega)
        cases ead
        simp only [Int.toNat_natCast] at h0 h1
        have hdr : l0.drop x = rd_T51 l0 x :: l0.drop (x + 1) := by
          rw [List.drop_eq_getElem_cons hlt]
          simp [rd_T51, hlt]
        have hA := HA.out
        rw [hdr, fee_Add.chk] at hA
        clear hdr HA
        generalize hp : rd_T51 l0 x = p at *
        clear hp
        obtain ⟨s, q⟩ := p
        simp only at h0 h1 hA
        by_cases hq : q < 0 ∨ q > 1152921504606846976
        · rw [if_pos hq] at hA
          obtain rfl := Option.some.inj hA
          have hh := HH.out
          rw [if_neg (by decide)] at hh
          have hh2 := Option.some.inj hh
          simp only [Prod.mk.injEq] at hh2
          obtain ⟨rfl, rfl⟩ := hh2
          clear hh hA HH
          by_cases hq1 : q < 0
          · have hd1 : decide (q < 0) = true := decide_eq_true hq1
            clear hq hq1
            go_wp2
            go_ret2
            exact ⟨_, rfl, Kd.R_nil _ _ _ _ _, HB.out.alloc HB.out.size _⟩
          · have hd1 : decide (q < 0) = false := decide_eq_false hq1
            have hd2 : decide (1152921504606846976 < q) = true := decide_eq_true (by omega)
            clear hq hq1
            go_wp2
            go_ret2
            exact ⟨_, rfl, Kd.R_nil _ _ _ _ _, HB.out.alloc HB.out.size _⟩
        rw [if_neg hq] at hA
        have hd1 : decide (q < 0) = false := decide_eq_false (by omega)
        have hd2 : decide (1152921504606846976 < q) = false := decide_eq_false (by omega)
        clear hq
        obtain ⟨b1, hN1, hA⟩ := Option.bind_eq_some_iff.mp hA
        have HNM := Aside0.mk hN1
        clear hN1
        cases b1 with
        | false =>
          rw [if_neg (by decide)] at hA
          obtain rfl := Option.some.inj hA
          have hh := HH.out
          rw [if_neg (by decide)] at hh
          have hh2 := Option.some.inj hh
          simp only [Prod.mk.injEq] at hh2
          obtain ⟨rfl, rfl⟩ := hh2
          clear hh hA HH
          go_wp2_with ((go_at_call 35; refine (words_Name.calls k s false _ HNM.out).mono ?_; rintro _ w2 ⟨rfl, hb⟩; have HB2 := Aside0.mk (below_step (HB.out.alloc HB.out.size (.cells #[.string s, .int .i64 q] 51 (0, 0))) hb.below); clear hb))
          go_ret2
          exact ⟨_, rfl, Kd.R_nil _ _ _ _ _, HB2.out⟩
        | true =>
          rw [if_pos rfl] at hA
          have HA2 := Aside0.mk hA
          clear hA
          go_wp2_with ((go_at_call 35; refine (words_Name.calls k s true _ HNM.out).mono ?_; rintro _ w2 ⟨rfl, hb⟩; have HB2 := Aside0.mk (below_step (HB.out.alloc HB.out.size (.cells #[.string s, .int .i64 q] 51 (0, 0))) hb.below); clear hb))
          go_roundg (l0.length - (x + 1))
          case measure => omega
          case rel => exact ⟨x + 1, by go_num, by omega, HA2, HB2⟩
      · have hxe : x = l0.length := by omega
        have hA := HA.out
        rw [List.drop_eq_nil_of_le (by omega), fee_Add.chk] at hA
        obtain rfl := Option.some.inj hA
        have hd : decide ((x : Int) < (l0.length : Int)) = false := decide_eq_false (by omega)
        have hh := HH.out
        rw [if_pos rfl] at hh
        obtain ⟨⟨mm, em⟩, hHD, hh⟩ := Option.bind_eq_some_iff.mp hh
        simp only at hh
        have HHD := Aside0.mk hHD
        clear hHD hA HA hxe HH
        by_cases he : em = 0
        case neg =>
          rw [if_neg he] at hh
          have hh2 := Option.some.inj hh
          simp only [Prod.mk.injEq] at hh2
          obtain ⟨rfl, rfl⟩ := hh2
          have h0b : (em == 0) = false := beq_eq_false_iff_ne.mpr he
          have h1b : (em != 0) = true := bne_iff_ne.mpr he
          clear he hh
          go_wp2_with ((go_at_call 27; refine (fee_had.calls k A1 c1 l1 mm em _ (Kd.C_below HR1.out HB.out) HC1.out HHD.out).mono ?_; rintro _ w3 ⟨vm, rfl, hm, hb⟩; have HMP := Aside0.mk hm; have HB3 := Aside0.mk (below_step HB.out hb); clear hb hm))
          go_ret2
          exact ⟨_, rfl, Kd.R_nil _ _ _ _ _, HB3.out⟩
        subst he
        rw [if_pos rfl] at hh
        obtain ⟨m2, hZ, hh⟩ := Option.bind_eq_some_iff.mp hh
        by_cases hml : m2.length ≤ 1000000
        case neg => rw [if_neg hml] at hh; cases hh
        rw [if_pos hml] at hh
        obtain ⟨tf, hF, hh⟩ := Option.bind_eq_some_iff.mp hh
        have hh2 := Option.some.inj hh
        simp only [Prod.mk.injEq] at hh2
        obtain ⟨rfl, rfl⟩ := hh2
        have HZ := Aside0.mk hZ
        have HF := Aside0.mk hF
        have HML0 := Aside0.mk hml
        clear hh hZ hF hml
        go_wp2_with (go_at_call 27; refine (fee_had.calls k A1 c1 l1 mm 0 _ (Kd.C_below HR1.out HB.out) HC1.out HHD.out).mono ?_; rintro _ w3 ⟨vm, rfl, hm, hb⟩; have HMP := Aside0.mk hm; have HB3 := Aside0.mk (below_step HB.out hb); clear hb hm; obtain ⟨bm, em_, hmb0, hmb, hmk⟩ := HMP.out rfl; subst em_; have HMB := Aside0.mk hmb; have HMK := Aside0.mk hmk; have HM0 := Aside0.mk hmb0; clear hmb hmk hmb0)
        have HGE : Aside0 (∀ kk, some bm = some kk → w.heap.size ≤ kk) := ⟨fun kk e => by cases e; exact Nat.le_trans hsz HM0.out⟩
        clear hd HHD HMP HB
        go_loopg [47] l0.length (fun kq v47 w' => ∃ (x : Nat) (m : List (ByteArray × Int)), v47 = .int .i64 (x : Int) ∧ kq + x = l0.length ∧ Aside0 (fee_Add.zero (l0.drop x) m = some m2) ∧ Aside0 (w'.heap[bm]? = some (Go.Proofs.YtckjdncimibiaaaHand.objM Value.string (Value.int .i64) m)) ∧ Aside0 (Go.Proofs.YtckjdncimibiaaaHand.KeysOk Try.prog 9 Value.string m) ∧ Aside0 (Below w.heap.size w w'))
        case atStart => exact ⟨0, mm, rfl, by omega, HZ, HMB, HMK, HB3⟩
        case round =>
          clear HZ HMB HMK HB3
          obtain ⟨x, m, rfl, hx, HA, HM, HK, HB⟩ := hrel
          have hsz := HB.out.size
          have hltM := blk_lt HM.out
          by_cases hlt : x < l0.length
          · obtain ⟨ad, ead, h0, h1⟩ := at_T51 (Kd.C_below HR0.out HB.out) (x : Int) (by omega) (by omega)
            cases ead
            simp only [Int.toNat_natCast] at h0 h1
            have hdr : l0.drop x = rd_T51 l0 x :: l0.drop (x + 1) := by
              rw [List.drop_eq_getElem_cons hlt]
              simp [rd_T51, hlt]
            have hA := HA.out
            rw [hdr, fee_Add.zero] at hA
            clear hdr HA
            generalize hp : rd_T51 l0 x = p at *
            clear hp
            obtain ⟨s, q⟩ := p
            simp only at h0 h1 hA
            by_cases hk : s.size ≤ 1000000
            case neg => rw [if_neg hk] at hA; cases hA
            rw [if_pos hk] at hA
            have HA2 := Aside0.mk hA
            have HKEY := Aside0.mk (str_keyOf (s := s) hk)
            clear hA hk
            go_wp2_with (first | (at_lookup; refine Go.Proofs.YtckjdncimibiaaaHand.wpL_look _ rfl (.tmp 51) (.tmp 53) 77 false rfl bm (.string s) (.int .i64 ((Go.Proofs.YtckjdncimibiaaaHand.look strQ m s).getD 0)) rfl rfl (had_look (blk_alloc HM.out _) HK.out HKEY.out) ?_) | (at_mapUpdate; obtain ⟨w4, hrunU, hM4, hG4⟩ := had_upd (blk_alloc HM.out (.cells #[.string s, .int .i64 q] 51 (0, 0))) HK.out HKEY.out 0; refine Go.Proofs.YtckjdncimibiaaaHand.wpL_upd rfl (.tmp 51) (.tmp 53) (.tmp 55) 77 rfl bm (.string s) (.int .i64 (wrap64 ((Go.Proofs.YtckjdncimibiaaaHand.look strQ m s).getD 0 + 0))) rfl rfl (by rw [Int.add_zero]; rfl) hrunU ?_; have HM4 := Aside0.mk hM4; have HB4 := Aside0.mk (pw_below_grown (HB.out.alloc HB.out.size (.cells #[.string s, .int .i64 q] 51 (0, 0))) _ (HB.out.alloc HB.out.size (.cells #[.string s, .int .i64 q] 51 (0, 0))).size hG4 HGE.out); clear hrunU hM4 hG4))
            go_roundg (l0.length - (x + 1))
            case measure => omega
            case rel => exact ⟨x + 1, _, by go_num, by omega, HA2, HM4, ⟨had_ok HK.out HKEY.out 0⟩, HB4⟩
          · have hxe : x = l0.length := by omega
            have hA := HA.out
            rw [List.drop_eq_nil_of_le (by omega), fee_Add.zero] at hA
            obtain rfl := Option.some.inj hA
            have hd : decide ((x : Int) < (l0.length : Int)) = false := decide_eq_false (by omega)
            have HML : Aside0 (m.length ≤ 1000000) := HML0
            clear hA HA hxe
            go_wp2_with (first | (go_at_call 29; refine (Keys.calls (some bm) _).mono ?_; rintro _ w4 ⟨rfl, rfl⟩) | (go_at_call 28; refine (Sorted_keys.calls wr bm m HM.out HK.out HML.out).mono ?_; rintro _ w5 ⟨vn, rfl, ho, hb⟩; have HN5 := Aside0.mk ho; have HM5 := Aside0.mk (blk_below (blk_alloc HM.out _) hb); have HB5 := Aside0.mk (below_step (below_alloc HB.out (.cells #[.map (some bm)] 77 (0, 0))) hb); clear ho hb; obtain ⟨An, cn, en⟩ := Kd.R_slice HN5.out; subst en))
            have hszb := HB5.out.size
            have HSL := Aside0.mk (Kd.R_reads' HN5.out).2.2.2.1
            have hsl := HSL.out
            clear hd HM HB HML0 HML
            go_loopg [12, 61] (sortS (m.map (·.1))).length (fun kq v12 v61 w' => ∃ (y : Nat) (t : List S51), v61 = .int .i64 (y : Int) ∧ kq + y = (sortS (m.map (·.1))).length ∧ Aside0 (fee_Add.go m l0 ((sortS (m.map (·.1))).drop y) t = some tf) ∧ Aside0 (Kd.R k51 51 w' w5.heap.size (fun _ => True) v12 t) ∧ Aside0 (Below w5.heap.size w5 w'))
            case atStart => exact ⟨0, [], rfl, by omega, HF, ⟨Kd.R_nil _ _ _ _ _⟩, ⟨Below.refl _ _⟩⟩
            case round =>
              clear HF
              obtain ⟨y, t, rfl, hy, HS, HR, HBW⟩ := hrel
              have hszw := HBW.out.size
              by_cases hlt2 : y < (sortS (m.map (·.1))).length
              · have HNW := Aside0.mk (Kd.R_below HN5.out HBW.out)
                have HMW := Aside0.mk (blk_below HM5.out HBW.out)
                have HBT := Aside0.mk (below_step HB5.out HBW.out)
                obtain ⟨adn, eas, hs0⟩ := Kd.at_string (Kd.R_reads' HNW.out).2.2 (y : Int) (by omega) (by omega)
                cases eas
                simp only [Int.toNat_natCast] at hs0
                have hdr : (sortS (m.map (·.1))).drop y = rdOf ByteArray.empty (sortS (m.map (·.1))) y :: (sortS (m.map (·.1))).drop (y + 1) := by
                  rw [List.drop_eq_getElem_cons hlt2]
                  simp [rdOf, hlt2]
                have hs := HS.out
                rw [hdr, fee_Add.go] at hs
                clear hdr HS
                generalize hp : rdOf ByteArray.empty (sortS (m.map (·.1))) y = s at *
                clear hp
                by_cases hk : s.size ≤ 1000000
                case neg => rw [if_neg hk] at hs; cases hs
                rw [if_pos hk] at hs
                by_cases hln : t.length < 1000000
                case neg => rw [if_neg hln] at hs; cases hs
                rw [if_pos hln] at hs
                have HS2 := Aside0.mk hs
                have HL : Aside0 ((t.length + 1) * 24 ≤ 140737488355328) := ⟨by omega⟩
                have HKEY := Aside0.mk (str_keyOf (s := s) hk)
                clear hs hk hln
                go_wp2
                refine start_ (n := 13) (S := fun w' => (Instr.lookup 77 (.map (some bm)) (.string s) false).run Try.prog w' = .ok (.int .i64 ((Go.Proofs.YtckjdncimibiaaaHand.look strQ m s).getD 0)) w') (ds := []) #[false, false, false, false, false, false, false, false, false, false, false, false, false] (by kernel_rfl) rfl rfl ((had_look (blk_drew HMW.out) HK.out HKEY.out)) (fun hHeld => ?_)
                refine pure_ (i := 0) (N := some 65) (v := ?_) (a' := ?_) #[true, false, false, false, false, false, false, false, false, false, false, false, false] rfl rfl (by kernel_rfl) (fun _ _ _ h => h) (Or.inl ⟨by rfl, ?_⟩) ?_ ?_
                rotate_left
                · intro w'
                  go_simp
                  with_reducible rfl
                rotate_left
                · simp only [Act.put, List.setIfInBounds_toArray, List.set_cons_zero, List.set_cons_succ, i64_w, i32_w]
                  rfl
                refine pure_ (i := 1) (N := some 66) (v := ?_) (a' := ?_) #[true, true, false, false, false, false, false, false, false, false, false, false, false] rfl rfl (by kernel_rfl) (fun _ _ _ h => h) (Or.inl ⟨by rfl, ?_⟩) ?_ ?_
                rotate_left
                · intro w'
                  go_simp
                  with_reducible rfl
                rotate_left
                · simp only [Act.put, List.setIfInBounds_toArray, List.set_cons_zero, List.set_cons_succ, i64_w, i32_w]
                  rfl
                refine pure_ (i := 2) (N := some 67) (v := ?_) (a' := ?_) #[true, true, true, false, false, false, false, false, false, false, false, false, false] rfl rfl (by kernel_rfl) (fun _ _ _ h => h) (Or.inl ⟨by rfl, ?_⟩) ?_ ?_
                rotate_left
                · intro w'
                  go_simp
                  with_reducible rfl
                rotate_left
                · simp only [Act.put, List.setIfInBounds_toArray, List.set_cons_zero, List.set_cons_succ, i64_w, i32_w]
                  rfl
                refine pure_ (i := 3) (N := some 68) (v := ?_) (a' := ?_) #[true, true, true, true, false, false, false, false, false, false, false, false, false] rfl rfl (by kernel_rfl) (fun _ _ _ h => h) (Or.inl ⟨by rfl, ?_⟩) ?_ ?_
                rotate_left
                · intro w'
                  go_simp
                  with_reducible rfl
                rotate_left
                · simp only [Act.put, List.setIfInBounds_toArray, List.set_cons_zero, List.set_cons_succ, i64_w, i32_w]
                  rfl
                refine pure_ (i := 5) (N := some 70) (v := ?_) (a' := ?_) #[true, true, true, true, false, true, false, false, false, false, false, false, false] rfl rfl (by kernel_rfl) (fun _ _ _ h => h) (Or.inl ⟨by rfl, ?_⟩) ?_ ?_
                rotate_left
                · intro w'
                  go_simp
                  with_reducible rfl
                rotate_left
                · simp only [Act.put, List.setIfInBounds_toArray, List.set_cons_zero, List.set_cons_succ, i64_w, i32_w]
                  rfl
                refine pure_ (i := 6) (N := some 71) (v := ?_) (a' := ?_) #[true, true, true, true, false, true, true, false, false, false, false, false, false] rfl rfl (by kernel_rfl) (fun _ _ _ h => h) (Or.inl ⟨by rfl, ?_⟩) ?_ ?_
                rotate_left
                · intro w'
                  go_simp
                  with_reducible rfl
                rotate_left
                · simp only [Act.put, List.setIfInBounds_toArray, List.set_cons_zero, List.set_cons_succ, i64_w, i32_w]
                  rfl
                refine take_ (i := 7) (N := some 72) (v := ?_) (a' := ?_) #[true, true, true, true, false, true, true, true, false, false, false, false, false] rfl rfl (by kernel_rfl) (fun _ _ _ h => h) (Or.inl ⟨by rfl, ?_⟩) hHeld ?_ ?_
                rotate_left
                · intro w' s0
                  go_simp
                  with_reducible rfl
                rotate_left
                · simp only [Act.put, List.setIfInBounds_toArray, List.set_cons_zero, List.set_cons_succ, i64_w, i32_w]
                  rfl
                refine one_ (i := 4) (N := some 69) #[true, true, true, true, true, true, true, true, false, false, false, false, false] rfl rfl (by kernel_rfl) (by decide) (fun K hK => ?_)
                refine goes_ Try.func30 (by kernel_rfl) rfl #[.slice A0 l0.length c0, .string s] (by rfl) rfl rfl (by simp only [List.map_toArray, List.map_cons, List.map_nil]; rfl) ?_
                with_reducible refine (fee_first.calls A0 c0 l0 s (fee_first.go s l0) _ (Kd.C_drew (Kd.C_below HR0.out HBT.out)) HC0.out rfl).mono ?_
                rintro e w7 ⟨rfl, hb⟩
                refine ⟨_, rfl, ?_⟩
                have HB7 := Aside0.mk (below_step (below_drew HBT.out) hb)
                have HBW7 := Aside0.mk (below_step (below_drew HBW.out) hb)
                have HBR7 := Aside0.mk (below_step (below_drew (Below.refl wr.heap.size wr)) hb)
                have HM7 := Aside0.mk (blk_below (blk_drew HMW.out) hb)
                have HR7 := Aside0.mk (Kd.R_below HR.out HBR7.out)
                clear hb
                refine hK.out _ _ ((had_look HM7.out HK.out HKEY.out)) (fun hHeld => ?_)
                clear hK K
                refine norm_ (a' := ?_) ?_ ?_
                rotate_left
                · show Act.put _ (some 69) _ = _
                  simp only [Act.put, List.setIfInBounds_toArray, List.set_cons_zero, List.set_cons_succ, i64_w, i32_w]
                  rfl
                refine pure_ (i := 8) (N := some 73) (v := ?_) (a' := ?_) #[true, true, true, true, true, true, true, true, true, false, false, false, false] rfl rfl (by kernel_rfl) (fun _ _ _ h => h) (Or.inl ⟨by rfl, ?_⟩) ?_ ?_
                rotate_left
                · intro w'
                  go_simp
                  with_reducible rfl
                rotate_left
                · simp only [Act.put, List.setIfInBounds_toArray, List.set_cons_zero, List.set_cons_succ, i64_w, i32_w]
                  rfl
                refine pure_ (i := 9) (N := some 74) (v := ?_) (a' := ?_) #[true, true, true, true, true, true, true, true, true, true, false, false, false] rfl rfl (by kernel_rfl) (fun _ _ _ h => h) (Or.inl ⟨by rfl, ?_⟩) ?_ ?_
                rotate_left
                · intro w'
                  go_simp
                  with_reducible rfl
                rotate_left
                · simp only [Act.put, List.setIfInBounds_toArray, List.set_cons_zero, List.set_cons_succ, i64_w, i32_w]
                  rfl
                refine one_ (i := 10) (N := some 75) #[true, true, true, true, true, true, true, true, true, true, true, false, false] rfl rfl (by kernel_rfl) (by decide) (fun K hK => ?_)
                refine value_ (w1 := ?_) (v := ?_) (by rfl) rfl ?_ ?_
                rotate_left 2
                · go_simp
                  constructor
                  · rfl
                  · rfl
                refine hK.out _ _ ((had_look (blk_alloc HM7.out _) HK.out HKEY.out)) (fun hHeld => ?_)
                clear hK K
                refine norm_ (a' := ?_) ?_ ?_
                rotate_left
                · show Act.put _ (some 75) _ = _
                  simp only [Act.put, List.setIfInBounds_toArray, List.set_cons_zero, List.set_cons_succ, i64_w, i32_w]
                  rfl
                refine one_ (i := 11) (N := some 76) #[true, true, true, true, true, true, true, true, true, true, true, true, false] rfl rfl (by kernel_rfl) (by decide) (fun K hK => ?_)
                refine Kd.R_append_step k51 (w0 := w5) (W := w7) w5.heap.size (by rfl) (.tmp 65) (.tmp 75) 41 51 (.agg #[(.string ⟨#[]⟩), (.int .i64 0)]) 24 rfl Try.underlying41 info51 rfl (by decide) (by omega) u12 t ⟨s, (wrap64 (fee_first.go s l0 + (Go.Proofs.YtckjdncimibiaaaHand.look strQ m s).getD 0))⟩ [.string s, .int .i64 (wrap64 (fee_first.go s l0 + (Go.Proofs.YtckjdncimibiaaaHand.look strQ m s).getD 0))] (fun _ => True) (fun _ => False) rfl ?aX ?aP (fun _ hk => hk.elim) ?aF ?aO ?aB ?aS ?aL ?_
                (case aX => rfl)
                (case aP => exact k51_mkM _ _ _ ⟨s, (wrap64 (fee_first.go s l0 + (Go.Proofs.YtckjdncimibiaaaHand.look strQ m s).getD 0))⟩)
                (case aB => exact HBW7.out)
                (case aF => exact (fun _ _ => trivial))
                (case aO => exact HR7.out)
                (case aS => exact HBW7.out.size)
                (case aL => exact HL.out)
                intro v9 w9 ho hb hg hat
                have HR9 := Aside0.mk ho
                have HB9 := Aside0.mk hb
                have HM9 := Aside0.mk ((hg.block bm (blk_lt HM7.out) (Go.Proofs.YtckjdncimibiaaaHand.row_neM HR7.out HM7.out)).trans HM7.out)
                clear ho hb hg hat
                refine hK.out _ _ ((had_look HM9.out HK.out HKEY.out)) (fun hHeld => ?_)
                clear hK K
                refine norm_ (a' := ?_) ?_ ?_
                rotate_left
                · show Act.put _ (some 76) _ = _
                  simp only [Act.put, List.setIfInBounds_toArray, List.set_cons_zero, List.set_cons_succ, i64_w, i32_w]
                  rfl
                refine pure_ (i := 12) (N := some 12) (v := ?_) (a' := ?_) #[true, true, true, true, true, true, true, true, true, true, true, true, true] rfl rfl (by kernel_rfl) (fun _ _ _ h => h) (Or.inl ⟨by rfl, ?_⟩) ?_ ?_
                rotate_left
                · intro w'
                  go_simp
                  with_reducible rfl
                rotate_left
                · simp only [Act.put, List.setIfInBounds_toArray, List.set_cons_zero, List.set_cons_succ, i64_w, i32_w]
                  rfl
                refine done_ (by kernel_rfl) ?_
                go_wp2
                go_roundg ((sortS (m.map (·.1))).length - (y + 1))
                case measure => omega
                case rel => exact ⟨y + 1, _, by go_num, by omega, HS2, HR9, HB9⟩
              · have hye : y = (sortS (m.map (·.1))).length := by omega
                have hs := HS.out
                rw [List.drop_eq_nil_of_le (by omega), fee_Add.go] at hs
                obtain rfl := Option.some.inj hs
                have hd2_ : decide ((y : Int) < ((sortS (m.map (·.1))).length : Int)) = false := decide_eq_false (by omega)
                clear hs HS hye
                go_wp2
                go_ret2
                exact ⟨_, rfl, Kd.R_lower HR.out hszb, below_step HB5.out HBW.out⟩

/-! ### contangolaw38_goes: function 12 -/
def contangolaw38_goes.f (k : Nat)  : Option (Bool) := (some (([(⟨0, 10⟩ : S70), (⟨5, 7⟩ : S70)] : List (S70)) : List (S70))).bind fun y162 => ((some (([(⟨0, 0, 0, (⟨(⟨#[]⟩ : ByteArray), 0, 0, 0⟩ : S57), 7, 0, (⟨(⟨#[97]⟩ : ByteArray), (⟨#[]⟩ : ByteArray)⟩ : S59), (⟨(⟨#[98]⟩ : ByteArray), (⟨#[]⟩ : ByteArray)⟩ : S59)⟩ : S61)] : List (S61)) : List (S61))).bind fun y165 => ((some (([(⟨(⟨#[98]⟩ : ByteArray), 4⟩ : S51)] : List (S51)) : List (S51))).bind fun y168 => ((fee_Lots.f k 4 3 y162).bind fun bt171 => ((fee_Flows.f k y165 y168 y162 0).bind fun bt173 => ((fee_Add.f k y168 y165).bind fun bt177 => (if bt171.1 = 24 then (if bt171.2 = 0 then (if bt173.2 = 0 then (if (bt173.1.length : Int) = 2 then (if 0 < (bt173.1.length : Int) then (if (eqD64 ((rd_T64 bt173.1 0).f0) (⟨#[97]⟩ : ByteArray) ((rd_T64 bt173.1 0).f1) 0 ((rd_T64 bt173.1 0).f2) (-64) ((rd_T64 bt173.1 0).f3) 5) = true then (if 1 < (bt173.1.length : Int) then (if ((rd_T64 bt173.1 1).f2) = (-52) then (if bt177.2 = 0 then (if (bt177.1.length : Int) = 2 then (if 0 < (bt177.1.length : Int) then (if (eqD51 ((rd_T51 bt177.1 0).f0) (⟨#[97]⟩ : ByteArray) ((rd_T51 bt177.1 0).f1) 7) = true then (if 1 < (bt177.1.length : Int) then (some (((rd_T51 bt177.1 1).f1) == 11)) else (none)) else (some false)) else (none)) else (some false)) else (some false)) else (some false)) else (none)) else (some false)) else (none)) else (some false)) else (some false)) else (some false)) else (some false)))))))
theorem contangolaw38_goes.mono : ∀ k, LeO (contangolaw38_goes.f k ) (contangolaw38_goes.f (k + 1) ) := by
  intro  k
  unfold contangolaw38_goes.f
  repeat' first
      | (with_reducible exact fee_Add.mono _ _ _)
      | (with_reducible exact fee_Flows.mono _ _ _ _ _)
      | (with_reducible exact fee_Lots.mono _ _ _ _)
      | (with_reducible exact LeO.refl _)
      | (with_reducible exact LeO.none _)
      | (with_reducible refine LeO.ite ?_ ?_)
      | (with_reducible refine LeO.bind ?_ (fun _ => ?_))
      | exact fee_Add.mono _ _ _
      | exact fee_Flows.mono _ _ _ _ _
      | exact fee_Lots.mono _ _ _ _
      | exact LeO.none _
      | refine LeO.ite ?_ ?_
      | refine LeO.bind ?_ (fun _ => ?_)
theorem contangolaw38_goes.only (k : Nat) (r : Bool) (h : contangolaw38_goes.f k  = some r) : r = true := by
  exact Option.some.inj ((at_rounds (fun k => contangolaw38_goes.mono k) (Nat.le_max_left k 100) h).symm.trans (at_rounds (fun k => contangolaw38_goes.mono k) (Nat.le_max_right k 100) (by decide +kernel : contangolaw38_goes.f 100 = some true)))
set_option maxHeartbeats 8000000 in
set_option maxRecDepth 100000 in
theorem contangolaw38_goes.calls (k : Nat)  (r : Bool) (w : World) (h : contangolaw38_goes.f k  = some r) :
    Calls Try.prog 12 #[] w fun e w' => e = .returned (.bool r) ∧ Below w.heap.size w w' := by
  have hu70 := Try.underlying70
  have hu59 := Try.underlying59
  have hu61 := Try.underlying61
  have hu51 := Try.underlying51
  have hu64 := Try.underlying64
  have HB := Aside0.mk (Below.refl w.heap.size w)
  have HRT := Aside0.mk (contangolaw38_goes.only k r h)
  have H : ((some (([(⟨0, 10⟩ : S70), (⟨5, 7⟩ : S70)] : List (S70)) : List (S70))).bind fun y162 => ((some (([(⟨0, 0, 0, (⟨(⟨#[]⟩ : ByteArray), 0, 0, 0⟩ : S57), 7, 0, (⟨(⟨#[97]⟩ : ByteArray), (⟨#[]⟩ : ByteArray)⟩ : S59), (⟨(⟨#[98]⟩ : ByteArray), (⟨#[]⟩ : ByteArray)⟩ : S59)⟩ : S61)] : List (S61)) : List (S61))).bind fun y165 => ((some (([(⟨(⟨#[98]⟩ : ByteArray), 4⟩ : S51)] : List (S51)) : List (S51))).bind fun y168 => ((fee_Lots.f k 4 3 y162).bind fun bt171 => ((fee_Flows.f k y165 y168 y162 0).bind fun bt173 => ((fee_Add.f k y168 y165).bind fun bt177 => (if bt171.1 = 24 then (if bt171.2 = 0 then (if bt173.2 = 0 then (if (bt173.1.length : Int) = 2 then (if 0 < (bt173.1.length : Int) then (if (eqD64 ((rd_T64 bt173.1 0).f0) (⟨#[97]⟩ : ByteArray) ((rd_T64 bt173.1 0).f1) 0 ((rd_T64 bt173.1 0).f2) (-64) ((rd_T64 bt173.1 0).f3) 5) = true then (if 1 < (bt173.1.length : Int) then (if ((rd_T64 bt173.1 1).f2) = (-52) then (if bt177.2 = 0 then (if (bt177.1.length : Int) = 2 then (if 0 < (bt177.1.length : Int) then (if (eqD51 ((rd_T51 bt177.1 0).f0) (⟨#[97]⟩ : ByteArray) ((rd_T51 bt177.1 0).f1) 7) = true then (if 1 < (bt177.1.length : Int) then (some (((rd_T51 bt177.1 1).f1) == 11)) else (none)) else (some false)) else (none)) else (some false)) else (some false)) else (some false)) else (none)) else (some false)) else (none)) else (some false)) else (some false)) else (some false)) else (some false)))))))) = some r := h
  clear h
  obtain ⟨y162, hy162⟩ : ∃ y_ : List (S70), y_ = (([(⟨0, 10⟩ : S70), (⟨5, 7⟩ : S70)] : List (S70))) := ⟨_, rfl⟩
  replace H : ((some (([(⟨0, 0, 0, (⟨(⟨#[]⟩ : ByteArray), 0, 0, 0⟩ : S57), 7, 0, (⟨(⟨#[97]⟩ : ByteArray), (⟨#[]⟩ : ByteArray)⟩ : S59), (⟨(⟨#[98]⟩ : ByteArray), (⟨#[]⟩ : ByteArray)⟩ : S59)⟩ : S61)] : List (S61)) : List (S61))).bind fun y165 => ((some (([(⟨(⟨#[98]⟩ : ByteArray), 4⟩ : S51)] : List (S51)) : List (S51))).bind fun y168 => ((fee_Lots.f k 4 3 y162).bind fun bt171 => ((fee_Flows.f k y165 y168 y162 0).bind fun bt173 => ((fee_Add.f k y168 y165).bind fun bt177 => (if bt171.1 = 24 then (if bt171.2 = 0 then (if bt173.2 = 0 then (if (bt173.1.length : Int) = 2 then (if 0 < (bt173.1.length : Int) then (if (eqD64 ((rd_T64 bt173.1 0).f0) (⟨#[97]⟩ : ByteArray) ((rd_T64 bt173.1 0).f1) 0 ((rd_T64 bt173.1 0).f2) (-64) ((rd_T64 bt173.1 0).f3) 5) = true then (if 1 < (bt173.1.length : Int) then (if ((rd_T64 bt173.1 1).f2) = (-52) then (if bt177.2 = 0 then (if (bt177.1.length : Int) = 2 then (if 0 < (bt177.1.length : Int) then (if (eqD51 ((rd_T51 bt177.1 0).f0) (⟨#[97]⟩ : ByteArray) ((rd_T51 bt177.1 0).f1) 7) = true then (if 1 < (bt177.1.length : Int) then (some (((rd_T51 bt177.1 1).f1) == 11)) else (none)) else (some false)) else (none)) else (some false)) else (some false)) else (some false)) else (none)) else (some false)) else (none)) else (some false)) else (some false)) else (some false)) else (some false))))))) = some r := by first | (rw [hy162]; with_reducible exact H) | (have H2_ := (Option.bind_some _ _).symm.trans H; rw [hy162]; with_reducible exact H2_) | (have H2_ := (Option.bind_some _ _).symm.trans H; with_reducible exact H2_) | with_reducible exact H | (rw [hy162]; exact H) | exact H
  have Ny162 := Aside0.mk hy162
  clear hy162
  obtain ⟨y165, hy165⟩ : ∃ y_ : List (S61), y_ = (([(⟨0, 0, 0, (⟨(⟨#[]⟩ : ByteArray), 0, 0, 0⟩ : S57), 7, 0, (⟨(⟨#[97]⟩ : ByteArray), (⟨#[]⟩ : ByteArray)⟩ : S59), (⟨(⟨#[98]⟩ : ByteArray), (⟨#[]⟩ : ByteArray)⟩ : S59)⟩ : S61)] : List (S61))) := ⟨_, rfl⟩
  replace H : ((some (([(⟨(⟨#[98]⟩ : ByteArray), 4⟩ : S51)] : List (S51)) : List (S51))).bind fun y168 => ((fee_Lots.f k 4 3 y162).bind fun bt171 => ((fee_Flows.f k y165 y168 y162 0).bind fun bt173 => ((fee_Add.f k y168 y165).bind fun bt177 => (if bt171.1 = 24 then (if bt171.2 = 0 then (if bt173.2 = 0 then (if (bt173.1.length : Int) = 2 then (if 0 < (bt173.1.length : Int) then (if (eqD64 ((rd_T64 bt173.1 0).f0) (⟨#[97]⟩ : ByteArray) ((rd_T64 bt173.1 0).f1) 0 ((rd_T64 bt173.1 0).f2) (-64) ((rd_T64 bt173.1 0).f3) 5) = true then (if 1 < (bt173.1.length : Int) then (if ((rd_T64 bt173.1 1).f2) = (-52) then (if bt177.2 = 0 then (if (bt177.1.length : Int) = 2 then (if 0 < (bt177.1.length : Int) then (if (eqD51 ((rd_T51 bt177.1 0).f0) (⟨#[97]⟩ : ByteArray) ((rd_T51 bt177.1 0).f1) 7) = true then (if 1 < (bt177.1.length : Int) then (some (((rd_T51 bt177.1 1).f1) == 11)) else (none)) else (some false)) else (none)) else (some false)) else (some false)) else (some false)) else (none)) else (some false)) else (none)) else (some false)) else (some false)) else (some false)) else (some false)))))) = some r := by first | (rw [hy165]; with_reducible exact H) | (have H2_ := (Option.bind_some _ _).symm.trans H; rw [hy165]; with_reducible exact H2_) | (have H2_ := (Option.bind_some _ _).symm.trans H; with_reducible exact H2_) | with_reducible exact H | (rw [hy165]; exact H) | exact H
  have Ny165 := Aside0.mk hy165
  clear hy165
  obtain ⟨y168, hy168⟩ : ∃ y_ : List (S51), y_ = (([(⟨(⟨#[98]⟩ : ByteArray), 4⟩ : S51)] : List (S51))) := ⟨_, rfl⟩
  replace H : ((fee_Lots.f k 4 3 y162).bind fun bt171 => ((fee_Flows.f k y165 y168 y162 0).bind fun bt173 => ((fee_Add.f k y168 y165).bind fun bt177 => (if bt171.1 = 24 then (if bt171.2 = 0 then (if bt173.2 = 0 then (if (bt173.1.length : Int) = 2 then (if 0 < (bt173.1.length : Int) then (if (eqD64 ((rd_T64 bt173.1 0).f0) (⟨#[97]⟩ : ByteArray) ((rd_T64 bt173.1 0).f1) 0 ((rd_T64 bt173.1 0).f2) (-64) ((rd_T64 bt173.1 0).f3) 5) = true then (if 1 < (bt173.1.length : Int) then (if ((rd_T64 bt173.1 1).f2) = (-52) then (if bt177.2 = 0 then (if (bt177.1.length : Int) = 2 then (if 0 < (bt177.1.length : Int) then (if (eqD51 ((rd_T51 bt177.1 0).f0) (⟨#[97]⟩ : ByteArray) ((rd_T51 bt177.1 0).f1) 7) = true then (if 1 < (bt177.1.length : Int) then (some (((rd_T51 bt177.1 1).f1) == 11)) else (none)) else (some false)) else (none)) else (some false)) else (some false)) else (some false)) else (none)) else (some false)) else (none)) else (some false)) else (some false)) else (some false)) else (some false))))) = some r := by first | (rw [hy168]; with_reducible exact H) | (have H2_ := (Option.bind_some _ _).symm.trans H; rw [hy168]; with_reducible exact H2_) | (have H2_ := (Option.bind_some _ _).symm.trans H; with_reducible exact H2_) | with_reducible exact H | (rw [hy168]; exact H) | exact H
  have Ny168 := Aside0.mk hy168
  clear hy168
  replace H := Option.bind_eq_some_iff.mp H
  obtain ⟨⟨t171, t172⟩, A10, H⟩ := H
  replace H : ((fee_Flows.f k y165 y168 y162 0).bind fun bt173 => ((fee_Add.f k y168 y165).bind fun bt177 => (if t171 = 24 then (if t172 = 0 then (if bt173.2 = 0 then (if (bt173.1.length : Int) = 2 then (if 0 < (bt173.1.length : Int) then (if (eqD64 ((rd_T64 bt173.1 0).f0) (⟨#[97]⟩ : ByteArray) ((rd_T64 bt173.1 0).f1) 0 ((rd_T64 bt173.1 0).f2) (-64) ((rd_T64 bt173.1 0).f3) 5) = true then (if 1 < (bt173.1.length : Int) then (if ((rd_T64 bt173.1 1).f2) = (-52) then (if bt177.2 = 0 then (if (bt177.1.length : Int) = 2 then (if 0 < (bt177.1.length : Int) then (if (eqD51 ((rd_T51 bt177.1 0).f0) (⟨#[97]⟩ : ByteArray) ((rd_T51 bt177.1 0).f1) 7) = true then (if 1 < (bt177.1.length : Int) then (some (((rd_T51 bt177.1 1).f1) == 11)) else (none)) else (some false)) else (none)) else (some false)) else (some false)) else (some false)) else (none)) else (some false)) else (none)) else (some false)) else (some false)) else (some false)) else (some false)))) = some r := H
  have A1 := Aside0.mk A10
  clear A10
  replace H := Option.bind_eq_some_iff.mp H
  obtain ⟨⟨t173, t174⟩, A20, H⟩ := H
  replace H : ((fee_Add.f k y168 y165).bind fun bt177 => (if t171 = 24 then (if t172 = 0 then (if t174 = 0 then (if (t173.length : Int) = 2 then (if 0 < (t173.length : Int) then (if (eqD64 ((rd_T64 t173 0).f0) (⟨#[97]⟩ : ByteArray) ((rd_T64 t173 0).f1) 0 ((rd_T64 t173 0).f2) (-64) ((rd_T64 t173 0).f3) 5) = true then (if 1 < (t173.length : Int) then (if ((rd_T64 t173 1).f2) = (-52) then (if bt177.2 = 0 then (if (bt177.1.length : Int) = 2 then (if 0 < (bt177.1.length : Int) then (if (eqD51 ((rd_T51 bt177.1 0).f0) (⟨#[97]⟩ : ByteArray) ((rd_T51 bt177.1 0).f1) 7) = true then (if 1 < (bt177.1.length : Int) then (some (((rd_T51 bt177.1 1).f1) == 11)) else (none)) else (some false)) else (none)) else (some false)) else (some false)) else (some false)) else (none)) else (some false)) else (none)) else (some false)) else (some false)) else (some false)) else (some false))) = some r := H
  have A2 := Aside0.mk A20
  clear A20
  replace H := Option.bind_eq_some_iff.mp H
  obtain ⟨⟨t177, t178⟩, A30, H⟩ := H
  replace H : (if t171 = 24 then (if t172 = 0 then (if t174 = 0 then (if (t173.length : Int) = 2 then (if 0 < (t173.length : Int) then (if (eqD64 ((rd_T64 t173 0).f0) (⟨#[97]⟩ : ByteArray) ((rd_T64 t173 0).f1) 0 ((rd_T64 t173 0).f2) (-64) ((rd_T64 t173 0).f3) 5) = true then (if 1 < (t173.length : Int) then (if ((rd_T64 t173 1).f2) = (-52) then (if t178 = 0 then (if (t177.length : Int) = 2 then (if 0 < (t177.length : Int) then (if (eqD51 ((rd_T51 t177 0).f0) (⟨#[97]⟩ : ByteArray) ((rd_T51 t177 0).f1) 7) = true then (if 1 < (t177.length : Int) then (some (((rd_T51 t177 1).f1) == 11)) else (none)) else (some false)) else (none)) else (some false)) else (some false)) else (some false)) else (none)) else (some false)) else (none)) else (some false)) else (some false)) else (some false)) else (some false)) = some r := H
  have A3 := Aside0.mk A30
  clear A30
  by_cases c4 : t171 = 24
  · rw [if_pos c4] at H
    have c4b0 : (t171 == 24) = true := beq_iff_eq.mpr c4
    have c4b1 : (t171 != 24) = false := bne_eq_false_iff_eq.mpr c4
    clear c4
    by_cases c5 : t172 = 0
    · rw [if_pos c5] at H
      have c5b0 : (t172 == 0) = true := beq_iff_eq.mpr c5
      have c5b1 : (t172 != 0) = false := bne_eq_false_iff_eq.mpr c5
      clear c5
      by_cases c6 : t174 = 0
      · rw [if_pos c6] at H
        have c6b0 : (t174 == 0) = true := beq_iff_eq.mpr c6
        have c6b1 : (t174 != 0) = false := bne_eq_false_iff_eq.mpr c6
        clear c6
        by_cases c7 : (t173.length : Int) = 2
        · rw [if_pos c7] at H
          have c7b0 : ((t173.length : Int) == 2) = true := beq_iff_eq.mpr c7
          have c7b1 : ((t173.length : Int) != 2) = false := bne_eq_false_iff_eq.mpr c7
          clear c7
          by_cases c8 : 0 < (t173.length : Int)
          · rw [if_pos c8] at H
            have c8b0 : decide (0 < (t173.length : Int)) = true := decide_eq_true c8
            have c8b1 : decide (0 < t173.length) = true := decide_eq_true (by omega)
            clear c8
            by_cases c9 : (eqD64 ((rd_T64 t173 0).f0) (⟨#[97]⟩ : ByteArray) ((rd_T64 t173 0).f1) 0 ((rd_T64 t173 0).f2) (-64) ((rd_T64 t173 0).f3) 5) = true
            · rw [if_pos c9] at H
              have c9b0 : (eqD64 ((rd_T64 t173 0).f0) (⟨#[97]⟩ : ByteArray) ((rd_T64 t173 0).f1) 0 ((rd_T64 t173 0).f2) (-64) ((rd_T64 t173 0).f3) 5) = true := c9
              clear c9
              by_cases c10 : 1 < (t173.length : Int)
              · rw [if_pos c10] at H
                have c10b0 : decide (1 < (t173.length : Int)) = true := decide_eq_true c10
                have c10b1 : decide (1 < t173.length) = true := decide_eq_true (by omega)
                clear c10
                by_cases c11 : ((rd_T64 t173 1).f2) = (-52)
                · rw [if_pos c11] at H
                  have c11b0 : (((rd_T64 t173 1).f2) == (-52)) = true := beq_iff_eq.mpr c11
                  have c11b1 : (((rd_T64 t173 1).f2) != (-52)) = false := bne_eq_false_iff_eq.mpr c11
                  clear c11
                  by_cases c12 : t178 = 0
                  · rw [if_pos c12] at H
                    have c12b0 : (t178 == 0) = true := beq_iff_eq.mpr c12
                    have c12b1 : (t178 != 0) = false := bne_eq_false_iff_eq.mpr c12
                    clear c12
                    by_cases c13 : (t177.length : Int) = 2
                    · rw [if_pos c13] at H
                      have c13b0 : ((t177.length : Int) == 2) = true := beq_iff_eq.mpr c13
                      have c13b1 : ((t177.length : Int) != 2) = false := bne_eq_false_iff_eq.mpr c13
                      clear c13
                      by_cases c14 : 0 < (t177.length : Int)
                      · rw [if_pos c14] at H
                        have c14b0 : decide (0 < (t177.length : Int)) = true := decide_eq_true c14
                        have c14b1 : decide (0 < t177.length) = true := decide_eq_true (by omega)
                        clear c14
                        by_cases c15 : (eqD51 ((rd_T51 t177 0).f0) (⟨#[97]⟩ : ByteArray) ((rd_T51 t177 0).f1) 7) = true
                        · rw [if_pos c15] at H
                          have c15b0 : (eqD51 ((rd_T51 t177 0).f0) (⟨#[97]⟩ : ByteArray) ((rd_T51 t177 0).f1) 7) = true := c15
                          clear c15
                          by_cases c16 : 1 < (t177.length : Int)
                          · rw [if_pos c16] at H
                            have c16b0 : decide (1 < (t177.length : Int)) = true := decide_eq_true c16
                            have c16b1 : decide (1 < t177.length) = true := decide_eq_true (by omega)
                            clear c16
                            obtain rfl := Option.some.inj H
                            go_enter Try.func12, Try.ntmps12
                            go_wp2_with (first | ((with_reducible refine gate_dst (N := 12) rfl ?_); (try (refine gate_guard (by rfl) ?_; dsimp only)); refine Kd.R_lit k70 _ 70 ?hg (N := 12) ?hd (xs := ([(⟨0, 10⟩ : S70), (⟨5, 7⟩ : S70)] : List (S70))) (inner := [.int .i64 0, .int .i64 10, .int .i64 5, .int .i64 7]) (ok := fun _ => True) (okp := fun _ => True) ?hr ?hp (fun _ hk => hk) trivial (Below.refl _ _) (Nat.le_refl _) (by simp) ?_; (case hd => rfl); (case hg => rfl); (case hr => first | (go_simp; done) | (go_simp; rfl)); (case hp => exact (Reps.c2 (show Kd.M k70 _ _ _ (⟨0, 10⟩ : S70) [.int .i64 0, .int .i64 10] from (k70_mkM _ _ _ (⟨0, 10⟩ : S70) )) (Reps.c2 (show Kd.M k70 _ _ _ (⟨5, 7⟩ : S70) [.int .i64 5, .int .i64 7] from (k70_mkM _ _ _ (⟨5, 7⟩ : S70) )) (Reps.none _ _)))); intro v163 w17 ho18 hb hg_ hnew_; clear hg_ hnew_; (first | rw [← Ny162.out] at ho18 | (simp only [Int.reduceToNat] at ho18; rw [← Ny162.out] at ho18)); have n0_ := Aside0.mk (Kd.R_lower ho18 (below_size (by repeat (first | (with_reducible first | exact HB.out | apply below_alloc | apply pw_below_drewN | apply below_drew1) | exact HB.out)))); have n1_ := Aside0.mk (below_step (by repeat (first | (with_reducible first | exact HB.out | apply below_alloc | apply pw_below_drewN | apply below_drew1) | exact HB.out)) hb); clear HB; have HO164 := n0_; have HB := n1_; clear n0_ n1_; clear hb ho18) | ((with_reducible refine gate_dst (N := 16) rfl ?_); (try (refine gate_guard (by rfl) ?_; dsimp only)); refine Kd.R_lit k61 _ 61 ?hg (N := 16) ?hd (xs := ([(⟨0, 0, 0, (⟨(⟨#[]⟩ : ByteArray), 0, 0, 0⟩ : S57), 7, 0, (⟨(⟨#[97]⟩ : ByteArray), (⟨#[]⟩ : ByteArray)⟩ : S59), (⟨(⟨#[98]⟩ : ByteArray), (⟨#[]⟩ : ByteArray)⟩ : S59)⟩ : S61)] : List (S61))) (inner := [.int .i64 0, .int .i64 0, .int .i64 0, .string (⟨#[]⟩ : ByteArray), .int .i64 0, .int .i64 0, .int .i64 0, .int .i64 7, .int .i64 0, .string (⟨#[97]⟩ : ByteArray), .string (⟨#[]⟩ : ByteArray), .string (⟨#[98]⟩ : ByteArray), .string (⟨#[]⟩ : ByteArray)]) (ok := fun _ => True) (okp := fun _ => True) ?hr ?hp (fun _ hk => hk) trivial (Below.refl _ _) (Nat.le_refl _) (by simp) ?_; (case hd => rfl); (case hg => rfl); (case hr => first | (go_simp; done) | (go_simp; rfl)); (case hp => exact (Reps.front (show Kd.M k61 _ _ _ (⟨0, 0, 0, (⟨(⟨#[]⟩ : ByteArray), 0, 0, 0⟩ : S57), 7, 0, (⟨(⟨#[97]⟩ : ByteArray), (⟨#[]⟩ : ByteArray)⟩ : S59), (⟨(⟨#[98]⟩ : ByteArray), (⟨#[]⟩ : ByteArray)⟩ : S59)⟩ : S61) [.int .i64 0, .int .i64 0, .int .i64 0, .string (⟨#[]⟩ : ByteArray), .int .i64 0, .int .i64 0, .int .i64 0, .int .i64 7, .int .i64 0, .string (⟨#[97]⟩ : ByteArray), .string (⟨#[]⟩ : ByteArray), .string (⟨#[98]⟩ : ByteArray), .string (⟨#[]⟩ : ByteArray)] from (k61_mkM _ _ _ (⟨0, 0, 0, (⟨(⟨#[]⟩ : ByteArray), 0, 0, 0⟩ : S57), 7, 0, (⟨(⟨#[97]⟩ : ByteArray), (⟨#[]⟩ : ByteArray)⟩ : S59), (⟨(⟨#[98]⟩ : ByteArray), (⟨#[]⟩ : ByteArray)⟩ : S59)⟩ : S61) )) rfl (Reps.none _ _) rfl)); intro v166 w19 ho20 hb hg_ hnew_; clear hg_ hnew_; (first | rw [← Ny165.out] at ho20 | (simp only [Int.reduceToNat] at ho20; rw [← Ny165.out] at ho20)); have n0_ := Aside0.mk (Kd.R_below (by (with_reducible repeat (first | apply Kd.R_alloc | apply Kd.R_drewN | apply Kd.R_drew)); exact HO164.out) hb); have n1_ := Aside0.mk (Kd.R_lower ho20 (below_size (by repeat (first | (with_reducible first | exact HB.out | apply below_alloc | apply pw_below_drewN | apply below_drew1) | exact HB.out)))); have n2_ := Aside0.mk (below_step (by repeat (first | (with_reducible first | exact HB.out | apply below_alloc | apply pw_below_drewN | apply below_drew1) | exact HB.out)) hb); clear HO164; clear HB; have HO164 := n0_; have HO167 := n1_; have HB := n2_; clear n0_ n1_ n2_; clear hb ho20) | ((with_reducible refine gate_dst (N := 18) rfl ?_); (try (refine gate_guard (by rfl) ?_; dsimp only)); refine Kd.R_lit k51 _ 51 ?hg (N := 18) ?hd (xs := ([(⟨(⟨#[98]⟩ : ByteArray), 4⟩ : S51)] : List (S51))) (inner := [.string (⟨#[98]⟩ : ByteArray), .int .i64 4]) (ok := fun _ => True) (okp := fun _ => True) ?hr ?hp (fun _ hk => hk) trivial (Below.refl _ _) (Nat.le_refl _) (by simp) ?_; (case hd => rfl); (case hg => rfl); (case hr => first | (go_simp; done) | (go_simp; rfl)); (case hp => exact (Reps.c2 (show Kd.M k51 _ _ _ (⟨(⟨#[98]⟩ : ByteArray), 4⟩ : S51) [.string (⟨#[98]⟩ : ByteArray), .int .i64 4] from (k51_mkM _ _ _ (⟨(⟨#[98]⟩ : ByteArray), 4⟩ : S51) )) (Reps.none _ _))); intro v169 w21 ho22 hb hg_ hnew_; clear hg_ hnew_; (first | rw [← Ny168.out] at ho22 | (simp only [Int.reduceToNat] at ho22; rw [← Ny168.out] at ho22)); have n0_ := Aside0.mk (Kd.R_below (by (with_reducible repeat (first | apply Kd.R_alloc | apply Kd.R_drewN | apply Kd.R_drew)); exact HO164.out) hb); have n1_ := Aside0.mk (Kd.R_below (by (with_reducible repeat (first | apply Kd.R_alloc | apply Kd.R_drewN | apply Kd.R_drew)); exact HO167.out) hb); have n2_ := Aside0.mk (Kd.R_lower ho22 (below_size (by repeat (first | (with_reducible first | exact HB.out | apply below_alloc | apply pw_below_drewN | apply below_drew1) | exact HB.out)))); have n3_ := Aside0.mk (below_step (by repeat (first | (with_reducible first | exact HB.out | apply below_alloc | apply pw_below_drewN | apply below_drew1) | exact HB.out)) hb); clear HO164; clear HO167; clear HB; have HO164 := n0_; have HO167 := n1_; have HO170 := n2_; have HB := n3_; clear n0_ n1_ n2_ n3_; clear hb ho22; obtain ⟨Ao23, co23, eo23⟩ := Kd.R_slice HO164.out; subst eo23) | ((with_reducible refine gate_callee (f := 7) rfl ?_); refine goesL_ (some 21) rfl rfl Try.func7 (by kernel_rfl) rfl #[.int .i64 4, .int .i64 3, .slice Ao23 y162.length co23] rfl (by (try simp only [List.map_toArray, List.map_cons, List.map_nil]); first | done | rfl | (simp only [List.length_drop, List.length_take]; rfl)) ?_; (with_reducible refine (fee_Lots.calls k 4 3 _ _ y162 t171 t172 _ ?side1 ?side2 A1.out).mono ?_); (case side1 => repeat (first | exact (Kd.R_reads' HO164.out).2.2 | (with_reducible refine Kd.C_alloc ?_ _) | (with_reducible refine Kd.C_drewN ?_ _) | (with_reducible refine Kd.C_drew ?_))); (case side2 => exact (Kd.R_reads' HO164.out).2.1); rintro e w24 ⟨rfl, hb⟩; refine ⟨_, rfl, ?_⟩; have n0_ := Aside0.mk (Kd.R_below (by (with_reducible repeat (first | apply Kd.R_alloc | apply Kd.R_drewN | apply Kd.R_drew)); exact HO164.out) hb); have n1_ := Aside0.mk (Kd.R_below (by (with_reducible repeat (first | apply Kd.R_alloc | apply Kd.R_drewN | apply Kd.R_drew)); exact HO167.out) hb); have n2_ := Aside0.mk (Kd.R_below (by (with_reducible repeat (first | apply Kd.R_alloc | apply Kd.R_drewN | apply Kd.R_drew)); exact HO170.out) hb); have n3_ := Aside0.mk (below_step (by repeat (first | (with_reducible first | exact HB.out | apply below_alloc | apply pw_below_drewN | apply below_drew1) | exact HB.out)) hb); clear HO164; clear HO167; clear HO170; clear HB; have HO164 := n0_; have HO167 := n1_; have HO170 := n2_; have HB := n3_; clear n0_ n1_ n2_ n3_; (try clear hb); (try clear hb2); (try clear hk); (try clear hi); obtain ⟨Ao25, co25, eo25⟩ := Kd.R_slice HO167.out; subst eo25; obtain ⟨Ao26, co26, eo26⟩ := Kd.R_slice HO170.out; subst eo26) | ((with_reducible refine gate_callee (f := 13) rfl ?_); refine goesL_ (some 28) rfl rfl Try.func13 (by kernel_rfl) rfl #[.slice Ao25 y165.length co25, .slice Ao26 y168.length co26, .slice Ao23 y162.length co23, .int .i64 0] rfl (by (try simp only [List.map_toArray, List.map_cons, List.map_nil]); first | done | rfl | (simp only [List.length_drop, List.length_take]; rfl)) ?_; (with_reducible refine (fee_Flows.calls k _ _ y165 _ _ y168 _ _ y162 0 t173 t174 _ ?side1 ?side2 ?side3 ?side4 ?side5 ?side6 A2.out).mono ?_); (case side1 => repeat (first | exact (Kd.R_reads' HO167.out).2.2 | (with_reducible refine Kd.C_alloc ?_ _) | (with_reducible refine Kd.C_drewN ?_ _) | (with_reducible refine Kd.C_drew ?_))); (case side2 => exact (Kd.R_reads' HO167.out).2.1); (case side3 => repeat (first | exact (Kd.R_reads' HO170.out).2.2 | (with_reducible refine Kd.C_alloc ?_ _) | (with_reducible refine Kd.C_drewN ?_ _) | (with_reducible refine Kd.C_drew ?_))); (case side4 => exact (Kd.R_reads' HO170.out).2.1); (case side5 => repeat (first | exact (Kd.R_reads' HO164.out).2.2 | (with_reducible refine Kd.C_alloc ?_ _) | (with_reducible refine Kd.C_drewN ?_ _) | (with_reducible refine Kd.C_drew ?_))); (case side6 => exact (Kd.R_reads' HO164.out).2.1); rintro e w27 ⟨v175, rfl, ho0, hb⟩; refine ⟨_, rfl, ?_⟩; have n0_ := Aside0.mk (Kd.R_below (by (with_reducible repeat (first | apply Kd.R_alloc | apply Kd.R_drewN | apply Kd.R_drew)); exact HO164.out) hb); have n1_ := Aside0.mk (Kd.R_below (by (with_reducible repeat (first | apply Kd.R_alloc | apply Kd.R_drewN | apply Kd.R_drew)); exact HO167.out) hb); have n2_ := Aside0.mk (Kd.R_below (by (with_reducible repeat (first | apply Kd.R_alloc | apply Kd.R_drewN | apply Kd.R_drew)); exact HO170.out) hb); have n3_ := Aside0.mk (Kd.R_lower ho0 (below_size (by repeat (first | (with_reducible first | exact HB.out | apply below_alloc | apply pw_below_drewN | apply below_drew1) | exact HB.out)))); have n4_ := Aside0.mk (below_step (by repeat (first | (with_reducible first | exact HB.out | apply below_alloc | apply pw_below_drewN | apply below_drew1) | exact HB.out)) hb); clear HO164; clear HO167; clear HO170; clear HB; have HO164 := n0_; have HO167 := n1_; have HO170 := n2_; have HO176 := n3_; have HB := n4_; clear n0_ n1_ n2_ n3_ n4_; (try clear hb); (try clear hb2); (try clear hk); (try clear hi); (try clear ho0)) | ((with_reducible refine gate_callee (f := 16) rfl ?_); refine goesL_ (some 34) rfl rfl Try.func16 (by kernel_rfl) rfl #[.slice Ao26 y168.length co26, .slice Ao25 y165.length co25] rfl (by (try simp only [List.map_toArray, List.map_cons, List.map_nil]); first | done | rfl | (simp only [List.length_drop, List.length_take]; rfl)) ?_; (with_reducible refine (fee_Add.calls k _ _ y168 _ _ y165 t177 t178 _ ?side1 ?side2 ?side3 ?side4 A3.out).mono ?_); (case side1 => repeat (first | exact (Kd.R_reads' HO170.out).2.2 | (with_reducible refine Kd.C_alloc ?_ _) | (with_reducible refine Kd.C_drewN ?_ _) | (with_reducible refine Kd.C_drew ?_))); (case side2 => exact (Kd.R_reads' HO170.out).2.1); (case side3 => repeat (first | exact (Kd.R_reads' HO167.out).2.2 | (with_reducible refine Kd.C_alloc ?_ _) | (with_reducible refine Kd.C_drewN ?_ _) | (with_reducible refine Kd.C_drew ?_))); (case side4 => exact (Kd.R_reads' HO167.out).2.1); rintro e w28 ⟨v179, rfl, ho0, hb⟩; refine ⟨_, rfl, ?_⟩; have n0_ := Aside0.mk (Kd.R_below (by (with_reducible repeat (first | apply Kd.R_alloc | apply Kd.R_drewN | apply Kd.R_drew)); exact HO164.out) hb); have n1_ := Aside0.mk (Kd.R_below (by (with_reducible repeat (first | apply Kd.R_alloc | apply Kd.R_drewN | apply Kd.R_drew)); exact HO167.out) hb); have n2_ := Aside0.mk (Kd.R_elder' (by (with_reducible repeat (first | apply Kd.R_alloc | apply Kd.R_drewN | apply Kd.R_drew)); exact HO170.out) (Kd.R_base ho0) hb); have n3_ := Aside0.mk (Kd.R_below (by (with_reducible repeat (first | apply Kd.R_alloc | apply Kd.R_drewN | apply Kd.R_drew)); exact HO176.out) hb); have n4_ := Aside0.mk (Kd.R_lower (Kd.R_new' ho0 (Kd.R_lt (by (with_reducible repeat (first | apply Kd.R_alloc | apply Kd.R_drewN | apply Kd.R_drew)); exact HO170.out))) (below_size (by repeat (first | (with_reducible first | exact HB.out | apply below_alloc | apply pw_below_drewN | apply below_drew1) | exact HB.out)))); have n5_ := Aside0.mk (below_step (by repeat (first | (with_reducible first | exact HB.out | apply below_alloc | apply pw_below_drewN | apply below_drew1) | exact HB.out)) hb); clear HO164; clear HO167; clear HO170; clear HO176; clear HB; have HO164 := n0_; have HO167 := n1_; have HO170 := n2_; have HO176 := n3_; have HO180 := n4_; have HB := n5_; clear n0_ n1_ n2_ n3_ n4_ n5_; (try clear hb); (try clear hb2); (try clear hk); (try clear hi); (try clear ho0); obtain ⟨Ao29, co29, eo29⟩ := Kd.R_slice HO176.out; subst eo29; have p181 : 0 ≤ (0 : Int) := (by omega); have q181 : 0 < (t173.length : Int) := of_decide_eq_true (by first | (with_reducible assumption) | assumption); obtain ⟨ad181, e181, hx181_0, hx181_1, hx181_2, hx181_3⟩ := at_T64 (Kd.R_reads' HO176.out).2.2 0 p181 q181; cases e181; have qi181 : (0 < t173.length) = True := eq_true (by omega); (try rw [show ((0 : Int)).toNat = 0 from rfl] at hx181_0); (try rw [show 0 * 4 = 0 from rfl] at hx181_0); (try rw [Addr.add_zero'] at hx181_0); (try rw [show ((0 : Int)).toNat = 0 from rfl] at hx181_1); (try rw [show 0 * 4 = 0 from rfl] at hx181_1); (try rw [Addr.add_zero'] at hx181_1); (try rw [show ((0 : Int)).toNat = 0 from rfl] at hx181_2); (try rw [show 0 * 4 = 0 from rfl] at hx181_2); (try rw [Addr.add_zero'] at hx181_2); (try rw [show ((0 : Int)).toNat = 0 from rfl] at hx181_3); (try rw [show 0 * 4 = 0 from rfl] at hx181_3); (try rw [Addr.add_zero'] at hx181_3); replace p181 := eq_true p181; replace q181 := eq_true q181; have p182 : 0 ≤ (1 : Int) := (by omega); have q182 : 1 < (t173.length : Int) := of_decide_eq_true (by first | (with_reducible assumption) | assumption); obtain ⟨ad182, e182, hx182_0, hx182_1, hx182_2, hx182_3⟩ := at_T64 (Kd.R_reads' HO176.out).2.2 1 p182 q182; obtain rfl : ad181 = ad182 := (by injection e182); (try simp only [show (1 : Int).toNat = 1 from rfl, Nat.reduceMul, Nat.reduceEqDiff, Go.Addr.add, ↓reduceIte] at hx182_0); (try simp only [show (1 : Int).toNat = 1 from rfl, Nat.reduceMul, Nat.reduceEqDiff, Go.Addr.add, ↓reduceIte] at hx182_1); (try simp only [show (1 : Int).toNat = 1 from rfl, Nat.reduceMul, Nat.reduceEqDiff, Go.Addr.add, ↓reduceIte] at hx182_2); (try simp only [show (1 : Int).toNat = 1 from rfl, Nat.reduceMul, Nat.reduceEqDiff, Go.Addr.add, ↓reduceIte] at hx182_3); have qi182 : (1 < t173.length) = True := eq_true (by omega); (try rw [show ((1 : Int)).toNat = 1 from rfl] at hx182_0); (try rw [show 1 * 4 = 4 from rfl] at hx182_0); (try rw [show ((1 : Int)).toNat = 1 from rfl] at hx182_1); (try rw [show 1 * 4 = 4 from rfl] at hx182_1); (try rw [show ((1 : Int)).toNat = 1 from rfl] at hx182_2); (try rw [show 1 * 4 = 4 from rfl] at hx182_2); (try rw [show ((1 : Int)).toNat = 1 from rfl] at hx182_3); (try rw [show 1 * 4 = 4 from rfl] at hx182_3); replace p182 := eq_true p182; replace q182 := eq_true q182; obtain ⟨Ao30, co30, eo30⟩ := Kd.R_slice HO180.out; subst eo30; have p183 : 0 ≤ (0 : Int) := (by omega); have q183 : 0 < (t177.length : Int) := of_decide_eq_true (by first | (with_reducible assumption) | assumption); obtain ⟨ad183, e183, hx183_0, hx183_1⟩ := at_T51 (Kd.R_reads' HO180.out).2.2 0 p183 q183; cases e183; have qi183 : (0 < t177.length) = True := eq_true (by omega); (try rw [show ((0 : Int)).toNat = 0 from rfl] at hx183_0); (try rw [show 0 * 2 = 0 from rfl] at hx183_0); (try rw [Addr.add_zero'] at hx183_0); (try rw [show ((0 : Int)).toNat = 0 from rfl] at hx183_1); (try rw [show 0 * 2 = 0 from rfl] at hx183_1); (try rw [Addr.add_zero'] at hx183_1); replace p183 := eq_true p183; replace q183 := eq_true q183; have p184 : 0 ≤ (1 : Int) := (by omega); have q184 : 1 < (t177.length : Int) := of_decide_eq_true (by first | (with_reducible assumption) | assumption); obtain ⟨ad184, e184, hx184_0, hx184_1⟩ := at_T51 (Kd.R_reads' HO180.out).2.2 1 p184 q184; obtain rfl : ad183 = ad184 := (by injection e184); (try simp only [show (1 : Int).toNat = 1 from rfl, Nat.reduceMul, Nat.reduceEqDiff, Go.Addr.add, ↓reduceIte] at hx184_0); (try simp only [show (1 : Int).toNat = 1 from rfl, Nat.reduceMul, Nat.reduceEqDiff, Go.Addr.add, ↓reduceIte] at hx184_1); have qi184 : (1 < t177.length) = True := eq_true (by omega); (try rw [show ((1 : Int)).toNat = 1 from rfl] at hx184_0); (try rw [show 1 * 2 = 2 from rfl] at hx184_0); (try rw [show ((1 : Int)).toNat = 1 from rfl] at hx184_1); (try rw [show 1 * 2 = 2 from rfl] at hx184_1); replace p184 := eq_true p184; replace q184 := eq_true q184))
                            go_ret
                            exact ⟨by first | rfl | (simp [errW_none, errW_some] <;> rfl) | (simp [*, errW_none, errW_some] <;> rfl), by repeat (first | (with_reducible first | exact HB.out | apply below_alloc | apply pw_below_drewN | apply below_drew1) | exact HB.out)⟩
                          · rw [if_neg c16] at H
                            exact absurd H (by simp)
                        · rw [if_neg c15] at H
                          exact absurd (H.trans (congrArg some HRT.out)) (by first | simp [] | (simp only []; (repeat' split) <;> simp))
                      · rw [if_neg c14] at H
                        exact absurd H (by simp)
                    · rw [if_neg c13] at H
                      exact absurd (H.trans (congrArg some HRT.out)) (by first | simp [] | (simp only []; (repeat' split) <;> simp))
                  · rw [if_neg c12] at H
                    exact absurd (H.trans (congrArg some HRT.out)) (by first | simp [] | (simp only []; (repeat' split) <;> simp))
                · rw [if_neg c11] at H
                  exact absurd (H.trans (congrArg some HRT.out)) (by first | simp [] | (simp only []; (repeat' split) <;> simp))
              · rw [if_neg c10] at H
                exact absurd H (by simp)
            · rw [if_neg c9] at H
              exact absurd (H.trans (congrArg some HRT.out)) (by first | simp [] | (simp only []; (repeat' split) <;> simp))
          · rw [if_neg c8] at H
            exact absurd H (by simp)
        · rw [if_neg c7] at H
          exact absurd (H.trans (congrArg some HRT.out)) (by first | simp [] | (simp only []; (repeat' split) <;> simp))
      · rw [if_neg c6] at H
        exact absurd (H.trans (congrArg some HRT.out)) (by first | simp [] | (simp only []; (repeat' split) <;> simp))
    · rw [if_neg c5] at H
      exact absurd (H.trans (congrArg some HRT.out)) (by first | simp [] | (simp only []; (repeat' split) <;> simp))
  · rw [if_neg c4] at H
    exact absurd (H.trans (congrArg some HRT.out)) (by first | simp [] | (simp only []; (repeat' split) <;> simp))

/-! ### contangolaw38_FeeLots: function 3 -/
def contangolaw38_FeeLots.f (k : Nat) (a0 : Int) (a1 : Int) (l2 : List (S73)) : Option (Bool) := (contangolaw38_Bands.f k l2).bind fun t185 => ((fee_Lots.f k a0 a1 t185).bind fun bt188 => ((contangoref38_Lots.f k a0 a1 l2).bind fun bt190 => ((contangolaw38_Bands.f k l2).bind fun t192 => ((fee_Check.f k t192).bind fun t195 => ((contangoref38_Check.f k l2).bind fun t196 => (if t195 = t196 then (if bt188.1 = bt190.1 then (if bt188.2 = bt190.2 then ((contangolaw38_goes.f k).bind fun t197 => (some t197)) else (some false)) else (some false)) else (some false)))))))
theorem contangolaw38_FeeLots.mono : ∀ a0 a1 a2 k, LeO (contangolaw38_FeeLots.f k a0 a1 a2) (contangolaw38_FeeLots.f (k + 1) a0 a1 a2) := by
  intro a0 a1 a2 k
  unfold contangolaw38_FeeLots.f
  repeat' first
      | (with_reducible exact contangolaw38_Bands.mono _ _)
      | (with_reducible exact contangolaw38_goes.mono _)
      | (with_reducible exact contangoref38_Check.mono _ _)
      | (with_reducible exact contangoref38_Lots.mono _ _ _ _)
      | (with_reducible exact fee_Check.mono _ _)
      | (with_reducible exact fee_Lots.mono _ _ _ _)
      | (with_reducible exact LeO.refl _)
      | (with_reducible exact LeO.none _)
      | (with_reducible refine LeO.ite ?_ ?_)
      | (with_reducible refine LeO.bind ?_ (fun _ => ?_))
      | exact contangolaw38_Bands.mono _ _
      | exact contangolaw38_goes.mono _
      | exact contangoref38_Check.mono _ _
      | exact contangoref38_Lots.mono _ _ _ _
      | exact fee_Check.mono _ _
      | exact fee_Lots.mono _ _ _ _
      | exact LeO.none _
      | refine LeO.ite ?_ ?_
      | refine LeO.bind ?_ (fun _ => ?_)
set_option maxHeartbeats 8000000 in
set_option maxRecDepth 100000 in
theorem contangolaw38_FeeLots.calls (k : Nat) (a0 : Int) (a1 : Int) (A2 : Option Addr) (c2 : Nat) (l2 : List (S73)) (r : Bool) (hrt : r = true) (w : World) (hr2 : Kd.C k73 w A2 l2.length l2) (hc2 : l2.length ≤ c2) (h : contangolaw38_FeeLots.f k a0 a1 l2 = some r) :
    Calls Try.prog 3 #[.int .i64 a0, .int .i64 a1, .slice A2 l2.length c2] w fun e w' => e = .returned (.bool r) ∧ Below w.heap.size w w' := by
  have HR2 := Aside0.mk hr2
  have HC2 := Aside0.mk hc2
  clear hr2 hc2
  have HB := Aside0.mk (Below.refl w.heap.size w)
  have HRT := Aside0.mk hrt
  clear hrt
  have H : ((contangolaw38_Bands.f k l2).bind fun t185 => ((fee_Lots.f k a0 a1 t185).bind fun bt188 => ((contangoref38_Lots.f k a0 a1 l2).bind fun bt190 => ((contangolaw38_Bands.f k l2).bind fun t192 => ((fee_Check.f k t192).bind fun t195 => ((contangoref38_Check.f k l2).bind fun t196 => (if t195 = t196 then (if bt188.1 = bt190.1 then (if bt188.2 = bt190.2 then ((contangolaw38_goes.f k).bind fun t197 => (some t197)) else (some false)) else (some false)) else (some false)))))))) = some r := h
  clear h
  replace H := Option.bind_eq_some_iff.mp H
  obtain ⟨t185, A40, H⟩ := H
  replace H : ((fee_Lots.f k a0 a1 t185).bind fun bt188 => ((contangoref38_Lots.f k a0 a1 l2).bind fun bt190 => ((contangolaw38_Bands.f k l2).bind fun t192 => ((fee_Check.f k t192).bind fun t195 => ((contangoref38_Check.f k l2).bind fun t196 => (if t195 = t196 then (if bt188.1 = bt190.1 then (if bt188.2 = bt190.2 then ((contangolaw38_goes.f k).bind fun t197 => (some t197)) else (some false)) else (some false)) else (some false))))))) = some r := H
  have A4 := Aside0.mk A40
  clear A40
  replace H := Option.bind_eq_some_iff.mp H
  obtain ⟨⟨t188, t189⟩, A50, H⟩ := H
  replace H : ((contangoref38_Lots.f k a0 a1 l2).bind fun bt190 => ((contangolaw38_Bands.f k l2).bind fun t192 => ((fee_Check.f k t192).bind fun t195 => ((contangoref38_Check.f k l2).bind fun t196 => (if t195 = t196 then (if t188 = bt190.1 then (if t189 = bt190.2 then ((contangolaw38_goes.f k).bind fun t197 => (some t197)) else (some false)) else (some false)) else (some false)))))) = some r := H
  have A5 := Aside0.mk A50
  clear A50
  replace H := Option.bind_eq_some_iff.mp H
  obtain ⟨⟨t190, t191⟩, A60, H⟩ := H
  replace H : ((contangolaw38_Bands.f k l2).bind fun t192 => ((fee_Check.f k t192).bind fun t195 => ((contangoref38_Check.f k l2).bind fun t196 => (if t195 = t196 then (if t188 = t190 then (if t189 = t191 then ((contangolaw38_goes.f k).bind fun t197 => (some t197)) else (some false)) else (some false)) else (some false))))) = some r := H
  have A6 := Aside0.mk A60
  clear A60
  replace H := Option.bind_eq_some_iff.mp H
  obtain ⟨t192, A70, H⟩ := H
  replace H : ((fee_Check.f k t192).bind fun t195 => ((contangoref38_Check.f k l2).bind fun t196 => (if t195 = t196 then (if t188 = t190 then (if t189 = t191 then ((contangolaw38_goes.f k).bind fun t197 => (some t197)) else (some false)) else (some false)) else (some false)))) = some r := H
  have A7 := Aside0.mk A70
  clear A70
  replace H := Option.bind_eq_some_iff.mp H
  obtain ⟨t195, A80, H⟩ := H
  replace H : ((contangoref38_Check.f k l2).bind fun t196 => (if t195 = t196 then (if t188 = t190 then (if t189 = t191 then ((contangolaw38_goes.f k).bind fun t197 => (some t197)) else (some false)) else (some false)) else (some false))) = some r := H
  have A8 := Aside0.mk A80
  clear A80
  replace H := Option.bind_eq_some_iff.mp H
  obtain ⟨t196, A90, H⟩ := H
  replace H : (if t195 = t196 then (if t188 = t190 then (if t189 = t191 then ((contangolaw38_goes.f k).bind fun t197 => (some t197)) else (some false)) else (some false)) else (some false)) = some r := H
  have A9 := Aside0.mk A90
  clear A90
  by_cases c10 : t195 = t196
  · rw [if_pos c10] at H
    have c10b0 : (t195 == t196) = true := beq_iff_eq.mpr c10
    have c10b1 : (t195 != t196) = false := bne_eq_false_iff_eq.mpr c10
    clear c10
    by_cases c11 : t188 = t190
    · rw [if_pos c11] at H
      have c11b0 : (t188 == t190) = true := beq_iff_eq.mpr c11
      have c11b1 : (t188 != t190) = false := bne_eq_false_iff_eq.mpr c11
      clear c11
      by_cases c12 : t189 = t191
      · rw [if_pos c12] at H
        have c12b0 : (t189 == t191) = true := beq_iff_eq.mpr c12
        have c12b1 : (t189 != t191) = false := bne_eq_false_iff_eq.mpr c12
        clear c12
        replace H := Option.bind_eq_some_iff.mp H
        obtain ⟨t197, A130, H⟩ := H
        replace H : (some t197) = some r := H
        have A13 := Aside0.mk A130
        clear A130
        obtain rfl := Option.some.inj H
        go_enter Try.func3, Try.ntmps3
        go_wp2_with (first | ((with_reducible refine gate_callee (f := 8) rfl ?_); refine goesL_ (some 15) rfl rfl Try.func8 (by kernel_rfl) rfl #[.slice A2 l2.length c2] rfl (by (try simp only [List.map_toArray, List.map_cons, List.map_nil]); first | done | rfl | (simp only [List.length_drop, List.length_take]; rfl)) ?_; (with_reducible refine (contangolaw38_Bands.calls k _ _ l2 t185 _ ?side1 ?side2 A4.out).mono ?_); (case side1 => repeat (first | exact HR2.out | (with_reducible refine Kd.C_alloc ?_ _) | (with_reducible refine Kd.C_drewN ?_ _) | (with_reducible refine Kd.C_drew ?_))); (case side2 => exact HC2.out); rintro e w14 ⟨v186, rfl, ho0, hb⟩; refine ⟨_, rfl, ?_⟩; have n0_ := Aside0.mk (Kd.R_lower ho0 (below_size (by repeat (first | (with_reducible first | exact HB.out | apply below_alloc | apply pw_below_drewN | apply below_drew1) | exact HB.out)))); have n1_ := Aside0.mk (below_step (by repeat (first | (with_reducible first | exact HB.out | apply below_alloc | apply pw_below_drewN | apply below_drew1) | exact HB.out)) hb); clear HB; have HO187 := n0_; have HB := n1_; clear n0_ n1_; (try clear hb); (try clear hb2); (try clear hk); (try clear hi); (try clear ho0); obtain ⟨Ao15, co15, eo15⟩ := Kd.R_slice HO187.out; subst eo15) | ((with_reducible refine gate_callee (f := 7) rfl ?_); refine goesL_ (some 16) rfl rfl Try.func7 (by kernel_rfl) rfl #[.int .i64 a0, .int .i64 a1, .slice Ao15 t185.length co15] rfl (by (try simp only [List.map_toArray, List.map_cons, List.map_nil]); first | done | rfl | (simp only [List.length_drop, List.length_take]; rfl)) ?_; (with_reducible refine (fee_Lots.calls k a0 a1 _ _ t185 t188 t189 _ ?side1 ?side2 A5.out).mono ?_); (case side1 => repeat (first | exact (Kd.R_reads' HO187.out).2.2 | (with_reducible refine Kd.C_alloc ?_ _) | (with_reducible refine Kd.C_drewN ?_ _) | (with_reducible refine Kd.C_drew ?_))); (case side2 => exact (Kd.R_reads' HO187.out).2.1); rintro e w16 ⟨rfl, hb⟩; refine ⟨_, rfl, ?_⟩; have n0_ := Aside0.mk (Kd.R_below (by (with_reducible repeat (first | apply Kd.R_alloc | apply Kd.R_drewN | apply Kd.R_drew)); exact HO187.out) hb); have n1_ := Aside0.mk (below_step (by repeat (first | (with_reducible first | exact HB.out | apply below_alloc | apply pw_below_drewN | apply below_drew1) | exact HB.out)) hb); clear HO187; clear HB; have HO187 := n0_; have HB := n1_; clear n0_ n1_; (try clear hb); (try clear hb2); (try clear hk); (try clear hi)) | ((with_reducible refine gate_callee (f := 9) rfl ?_); refine goesL_ (some 23) rfl rfl Try.func9 (by kernel_rfl) rfl #[.int .i64 a0, .int .i64 a1, .slice A2 l2.length c2] rfl (by (try simp only [List.map_toArray, List.map_cons, List.map_nil]); first | done | rfl | (simp only [List.length_drop, List.length_take]; rfl)) ?_; (with_reducible refine (contangoref38_Lots.calls k a0 a1 _ _ l2 t190 t191 _ ?side1 ?side2 A6.out).mono ?_); (case side1 => repeat (first | exact (Kd.C_below HR2.out HB.out) | (with_reducible refine Kd.C_alloc ?_ _) | (with_reducible refine Kd.C_drewN ?_ _) | (with_reducible refine Kd.C_drew ?_))); (case side2 => exact HC2.out); rintro e w17 ⟨rfl, hb⟩; refine ⟨_, rfl, ?_⟩; have n0_ := Aside0.mk (Kd.R_below (by (with_reducible repeat (first | apply Kd.R_alloc | apply Kd.R_drewN | apply Kd.R_drew)); exact HO187.out) hb); have n1_ := Aside0.mk (below_step (by repeat (first | (with_reducible first | exact HB.out | apply below_alloc | apply pw_below_drewN | apply below_drew1) | exact HB.out)) hb); clear HO187; clear HB; have HO187 := n0_; have HB := n1_; clear n0_ n1_; (try clear hb); (try clear hb2); (try clear hk); (try clear hi)) | ((with_reducible refine gate_callee (f := 8) rfl ?_); refine goesL_ (some 27) rfl rfl Try.func8 (by kernel_rfl) rfl #[.slice A2 l2.length c2] rfl (by (try simp only [List.map_toArray, List.map_cons, List.map_nil]); first | done | rfl | (simp only [List.length_drop, List.length_take]; rfl)) ?_; (with_reducible refine (contangolaw38_Bands.calls k _ _ l2 t192 _ ?side1 ?side2 A7.out).mono ?_); (case side1 => repeat (first | exact (Kd.C_below HR2.out HB.out) | (with_reducible refine Kd.C_alloc ?_ _) | (with_reducible refine Kd.C_drewN ?_ _) | (with_reducible refine Kd.C_drew ?_))); (case side2 => exact HC2.out); rintro e w18 ⟨v193, rfl, ho0, hb⟩; refine ⟨_, rfl, ?_⟩; have n0_ := Aside0.mk (Kd.R_elder' (by (with_reducible repeat (first | apply Kd.R_alloc | apply Kd.R_drewN | apply Kd.R_drew)); exact HO187.out) (Kd.R_base ho0) hb); have n1_ := Aside0.mk (Kd.R_lower (Kd.R_new' ho0 (Kd.R_lt (by (with_reducible repeat (first | apply Kd.R_alloc | apply Kd.R_drewN | apply Kd.R_drew)); exact HO187.out))) (below_size (by repeat (first | (with_reducible first | exact HB.out | apply below_alloc | apply pw_below_drewN | apply below_drew1) | exact HB.out)))); have n2_ := Aside0.mk (below_step (by repeat (first | (with_reducible first | exact HB.out | apply below_alloc | apply pw_below_drewN | apply below_drew1) | exact HB.out)) hb); clear HO187; clear HB; have HO187 := n0_; have HO194 := n1_; have HB := n2_; clear n0_ n1_ n2_; (try clear hb); (try clear hb2); (try clear hk); (try clear hi); (try clear ho0); obtain ⟨Ao19, co19, eo19⟩ := Kd.R_slice HO194.out; subst eo19) | ((with_reducible refine gate_callee (f := 10) rfl ?_); refine goesL_ (some 28) rfl rfl Try.func10 (by kernel_rfl) rfl #[.slice Ao19 t192.length co19] rfl (by (try simp only [List.map_toArray, List.map_cons, List.map_nil]); first | done | rfl | (simp only [List.length_drop, List.length_take]; rfl)) ?_; (with_reducible refine (fee_Check.calls k _ _ t192 t195 _ ?side1 ?side2 A8.out).mono ?_); (case side1 => repeat (first | exact (Kd.R_reads' HO194.out).2.2 | (with_reducible refine Kd.C_alloc ?_ _) | (with_reducible refine Kd.C_drewN ?_ _) | (with_reducible refine Kd.C_drew ?_))); (case side2 => exact (Kd.R_reads' HO194.out).2.1); rintro e w20 ⟨rfl, hb⟩; refine ⟨_, rfl, ?_⟩; have n0_ := Aside0.mk (Kd.R_below (by (with_reducible repeat (first | apply Kd.R_alloc | apply Kd.R_drewN | apply Kd.R_drew)); exact HO187.out) hb); have n1_ := Aside0.mk (Kd.R_below (by (with_reducible repeat (first | apply Kd.R_alloc | apply Kd.R_drewN | apply Kd.R_drew)); exact HO194.out) hb); have n2_ := Aside0.mk (below_step (by repeat (first | (with_reducible first | exact HB.out | apply below_alloc | apply pw_below_drewN | apply below_drew1) | exact HB.out)) hb); clear HO187; clear HO194; clear HB; have HO187 := n0_; have HO194 := n1_; have HB := n2_; clear n0_ n1_ n2_; (try clear hb); (try clear hb2); (try clear hk); (try clear hi)) | ((with_reducible refine gate_callee (f := 11) rfl ?_); refine goesL_ (some 30) rfl rfl Try.func11 (by kernel_rfl) rfl #[.slice A2 l2.length c2] rfl (by (try simp only [List.map_toArray, List.map_cons, List.map_nil]); first | done | rfl | (simp only [List.length_drop, List.length_take]; rfl)) ?_; (with_reducible refine (contangoref38_Check.calls k _ _ l2 t196 _ ?side1 ?side2 A9.out).mono ?_); (case side1 => repeat (first | exact (Kd.C_below HR2.out HB.out) | (with_reducible refine Kd.C_alloc ?_ _) | (with_reducible refine Kd.C_drewN ?_ _) | (with_reducible refine Kd.C_drew ?_))); (case side2 => exact HC2.out); rintro e w' ⟨rfl, ⟨nd, rfl⟩⟩; refine ⟨_, rfl, ?_⟩) | (go_at_call 12; (with_reducible refine (contangolaw38_goes.calls k  t197 _ A13.out).mono ?_); rintro e w21 ⟨rfl, hb⟩; have n0_ := Aside0.mk (Kd.R_below (by (with_reducible repeat (first | apply Kd.R_alloc | apply Kd.R_drewN | apply Kd.R_drew)); exact HO187.out) hb); have n1_ := Aside0.mk (Kd.R_below (by (with_reducible repeat (first | apply Kd.R_alloc | apply Kd.R_drewN | apply Kd.R_drew)); exact HO194.out) hb); have n2_ := Aside0.mk (below_step (by repeat (first | (with_reducible first | exact HB.out | apply below_alloc | apply pw_below_drewN | apply below_drew1) | exact HB.out)) hb); clear HO187; clear HO194; clear HB; have HO187 := n0_; have HO194 := n1_; have HB := n2_; clear n0_ n1_ n2_; (try clear hb); (try clear hb2); (try clear hk); (try clear hi)))
        go_ret
        exact ⟨by first | rfl | (simp [errW_none, errW_some] <;> rfl) | (simp [*, errW_none, errW_some] <;> rfl), by repeat (first | (with_reducible first | exact HB.out | apply below_alloc | apply pw_below_drewN | apply below_drew1) | exact HB.out)⟩
      · rw [if_neg c12] at H
        exact absurd (H.trans (congrArg some HRT.out)) (by first | simp [] | (simp only []; (repeat' split) <;> simp))
    · rw [if_neg c11] at H
      exact absurd (H.trans (congrArg some HRT.out)) (by first | simp [] | (simp only []; (repeat' split) <;> simp))
  · rw [if_neg c10] at H
    exact absurd (H.trans (congrArg some HRT.out)) (by first | simp [] | (simp only []; (repeat' split) <;> simp))

end Go.Proofs.Ytckjdncimibiaaa.PFeeLots
