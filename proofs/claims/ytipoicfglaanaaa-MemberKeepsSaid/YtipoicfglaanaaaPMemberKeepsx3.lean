-- Written by a program of this session's (a turned copy of the kit's print, with functions proved by hand).
import Derived.Test.YtipoicfglaanaaaPMemberKeepsx0
import Derived.Test.YtipoicfglaanaaaPMemberKeepsx2
namespace Go.Proofs.Ytipoicfglaanaaa.PMemberKeeps
open Go.RowKit Go.Proofs.YtipoicfglaanaaaW.PrintWords Go.Proofs.YtipoicfglaanaaaW.PrintLast Go.Proofs.YtipoicfglaanaaaW.PrintMore
attribute [local go_sem] max2_int min2_int max_two min_two max_three min_three max_four min_four Go.Proofs.YtipoicfglaanaaaHand.run_leq_str Go.Proofs.YtipoicfglaanaaaHand.run_gtr_str Go.Proofs.YtipoicfglaanaaaHand.run_geq_str   -- for this text's walks alone
set_option linter.unusedVariables false
set_option linter.unusedSimpArgs false

/-! ### member_own: function 38 -/
theorem seg_set_ne {α : Type} {xs : List α} {i j m sz : Nat} {u : α} (hm : m < sz) (hne : j ≠ i) : ((xs.set (i * sz + m) u).drop (j * sz)).take sz = (xs.drop (j * sz)).take sz := by
  apply List.ext_getElem?
  intro q
  rw [List.getElem?_take, List.getElem?_take, List.getElem?_drop, List.getElem?_drop]
  by_cases hq : q < sz
  · rw [if_pos hq, if_pos hq, List.getElem?_set]
    have : ¬ i * sz + m = j * sz + q := by
      rcases Nat.lt_or_gt_of_ne hne with h | h
      · have := Nat.mul_le_mul_right sz (show j + 1 ≤ i from h)
        rw [Nat.succ_mul] at this
        omega
      · have := Nat.mul_le_mul_right sz (show i + 1 ≤ j from h)
        rw [Nat.succ_mul] at this
        omega
    rw [if_neg this]
  · rw [if_neg hq, if_neg hq]
theorem seg_set_eq {α : Type} {xs : List α} {i m sz : Nat} {u : α} (hm : m < sz) : ((xs.set (i * sz + m) u).drop (i * sz)).take sz = ((xs.drop (i * sz)).take sz).set m u := by
  apply List.ext_getElem?
  intro q
  rw [List.getElem?_take, List.getElem?_drop, List.getElem?_set, List.getElem?_set, List.getElem?_take, List.getElem?_drop]
  by_cases hq : q < sz
  · rw [if_pos hq, if_pos hq]
    by_cases he : m = q
    · subst he
      simp only [if_pos, List.length_take, List.length_drop]
      by_cases hl : i * sz + m < xs.length
      · rw [if_pos hl, if_pos (by omega)]
      · rw [if_neg hl, if_neg (by omega)]
    · rw [if_neg (by omega), if_neg he]
  · rw [if_neg hq, if_neg hq, if_neg (by omega)]

/-- A kind whose elements are read in one world, that stays. -/
def kFix {α : Type} (w0 : World) (d : Kd α) : Kd α where
  sz := d.sz
  E := []
  K := fun _ x cs => d.K w0 x cs
  M := fun _ _ _ x cs => d.K w0 x cs
  K_len := d.K_len
  K_one := d.K_one
  K_below := fun _ h => h
  K_of_M := fun h => h
  M_mono := fun _ h => h
  M_bound := fun h => h
  M_move := fun _ h => h
  M_lower := fun _ h => h

set_option maxHeartbeats 800000 in
set_option maxRecDepth 100000 in
theorem CloneFix_api_Member.calls (A0 : Option Addr) (c0 : Nat) (l0 : List (S45)) (w : World) (hr0 : Kd.C k45 w A0 l0.length l0) (hc0 : l0.length ≤ c0) (h : l0.length * 48 ≤ 140737488355328) :
    Calls Try.prog 53 #[.slice A0 l0.length c0] w fun e w' => ∃ v0_ : Value, e = .returned (v0_) ∧ Kd.R (kFix w k45) 45 w' w.heap.size (fun _ => True) v0_ l0 ∧ Below w.heap.size w w' := by
  have HR0 := Aside0.mk hr0
  have HC0 := Aside0.mk hc0
  have HB := Aside0.mk (Below.refl w.heap.size w)
  cases A0 with
  | none =>
    have hl : l0.length = 0 := by
      rcases Nat.eq_zero_or_pos l0.length with h0 | h0
      · exact h0
      · obtain ⟨ad, h, _⟩ := hr0.2.2 h0
        cases h
    obtain rfl : l0 = [] := List.eq_nil_of_length_eq_zero hl
    clear hr0 hc0 h hl
    have hnil := fun (W : World) (a : Option Addr) (n c : Nat) => Lib.run_eql_slice_nil W 22 45 a n c 0 0 Try.underlying22
    go_enter Try.func53, Try.ntmps53
    go_wp2
    go_ret
    exact ⟨_, rfl, Kd.R_nil _ _ _ _ _, HB.out⟩
  | some ad =>
    clear hr0 hc0
    have hnil := fun (W : World) (a : Option Addr) (n c : Nat) => Lib.run_eql_slice_nil W 22 45 a n c 0 0 Try.underlying22
    go_enter Try.func53, Try.ntmps53
    go_wp2_with ((with_reducible refine gate_builtin (b := .append) (xs := #[.tmp 5, .tmp 6]) rfl ?_); at_builtin; refine Kd.R_append_rows (kFix w k45) (Rr := k45.K w) (w0 := w) w.heap.size rfl (.tmp 5) (.tmp 6) 22 45 (.agg #[(.string ⟨#[]⟩), (.int .i64 0), (.slice none 0 0)]) 48 rfl Try.underlying22 info45 rfl (show 0 < k45.sz by decide) (by decide) _ [] l0 (some ad) l0.length c0 (fun _ => True) (fun _ => False) rfl rfl ?c1 ?c2 ?c3 (fun _ h => h.elim) (fun _ _ => trivial) ?c6 ?c7 ?c8 ?c9)
    case c1 => exact ⟨fun _ _ => trivial, [], World.ownsRow_lit (base := w.heap.size) (e := 45) (size := k45.sz) w #[] 0 (Nat.le_refl _) (by decide) (by simp), Reps.none _ _⟩
    case c2 => exact ReadsRow.imp_ HR0.out (below_alloc (Below.refl _ _) _) (fun _ _ h => h)
    case c3 => exact fun _ _ h => h
    case c6 => exact below_alloc (Below.refl _ _) _
    case c7 => simp
    case c8 => simpa using h
    case c9 =>
      intro v1 w1 hr hb _ _
      have HR := Aside0.mk hr
      have HB1 := Aside0.mk hb
      clear hr hb
      go_wp2
      go_ret
      exact ⟨_, rfl, HR.out, HB1.out⟩

def member_own.f (l0 : List S45) : Option (List S45) :=
  if l0.length * 48 ≤ 140737488355328 ∧ (l0.all fun x => decide (x.f2.length * 24 ≤ 140737488355328)) = true then some l0 else none
def OwnMid (w0 w : World) (v : Value) (l0 : List S45) (i : Nat) : Prop :=
  ∃ (f : Nat → Nat) (inner : List Value), w.ownsRow w0.heap.size 45 3 v l0.length inner ∧ ∀ j p, l0[j]? = some p →
    (j < i → k45.M w w0.heap.size (fun k => (True ∧ some k ≠ v.ownBlock) ∧ f k = j) p ((inner.drop (j * 3)).take 3)) ∧ (i ≤ j → k45.K w0 p ((inner.drop (j * 3)).take 3))
theorem OwnMid.start {w w1 : World} {v : Value} {l0 : List S45} (hr : Kd.R (kFix w k45) 45 w1 w.heap.size (fun _ => True) v l0) : OwnMid w w1 v l0 0 := by
  obtain ⟨_, inner, ho, hrep⟩ := hr
  exact ⟨fun _ => 0, inner, ho, fun j p hj => ⟨fun h => absurd h (Nat.not_lt_zero _), fun _ => hrep.2 j p hj⟩⟩
theorem OwnMid.done {w0 w : World} {v : Value} {l0 : List S45} (h : OwnMid w0 w v l0 l0.length) : Kd.S k45 45 w w0.heap.size (fun _ => True) v l0 := by
  obtain ⟨f, inner, ho, hrep⟩ := h
  refine ⟨f, fun _ _ => trivial, inner, by rw [List.length_zipIdx]; exact ho, by rw [List.length_zipIdx]; exact ho.1, fun j p hj => ?_⟩
  rw [List.getElem?_zipIdx] at hj
  obtain ⟨q, hq, rfl⟩ := Option.map_eq_some_iff.1 hj
  have := (hrep j q hq).1 (List.getElem?_eq_some_iff.1 hq).1
  simp only [Nat.zero_add]
  exact this
/-- The next element: its cells, and the row behind the store of its own accounts. -/
theorem OwnMid.next {w0 w : World} {g cv : Nat} {l0 : List S45} {i : Nat} (hi : i < l0.length) (h : OwnMid w0 w (.slice (some ⟨g, 0, none⟩) l0.length cv) l0 i) (hw : Below w0.heap.size w0 w) :
    ∃ A2 c2, w.cell? ⟨g, i * 3 + 2, none⟩ = some (.slice A2 (rd_T45 l0 i).f2.length c2) ∧ w.frozen? ⟨g, i * 3 + 2, none⟩ = false ∧ (rd_T45 l0 i).f2.length ≤ c2 ∧ Kd.C k53 w A2 (rd_T45 l0 i).f2.length (rd_T45 l0 i).f2 ∧
      ∀ w1 v2, Below w.heap.size w w1 → Kd.R k53 53 w1 w.heap.size (fun _ => True) v2 (rd_T45 l0 i).f2 → OwnMid w0 (w1.setCell ⟨g, i * 3 + 2, none⟩ v2) (.slice (some ⟨g, 0, none⟩) l0.length cv) l0 (i + 1) := by
  obtain ⟨f, inner, ho, hrep⟩ := h
  have hp : l0[i]? = some (rd_T45 l0 i) := by
    rw [List.getElem?_eq_getElem hi]
    simp [rd_T45, List.getD_eq_getElem?_getD, List.getElem?_eq_getElem hi]
  have hK := (hrep i _ hp).2 (Nat.le_refl _)
  obtain ⟨A2, c2, hcs, hl2, hC⟩ := k45_open hK
  have hget : inner[i * 3 + 2]? = some (.slice A2 (rd_T45 l0 i).f2.length c2) := by
    have := congrArg (fun l => l[2]?) hcs
    simpa [List.getElem?_take, List.getElem?_drop] using this
  have hcell := ho.cells (g := g) rfl (i * 3 + 2) _ hget
  rw [add_plain] at hcell
  have hgl := own_lt ho g (by simp [Value.ownBlock])
  refine ⟨A2, c2, hcell, ?_, hl2, Kd.C_below hC hw, fun w1 v2 hb hr => ?_⟩
  · obtain ⟨cells, hc⟩ := own_typed ho g (by simp [Value.ownBlock])
    exact blk_frozen hc _
  · have ho1 := pw_own_below ho hb
    obtain ⟨hs1, hs2⟩ := ho1.stored (i * 3 + 2) v2
    refine ⟨fun k => if w.heap.size ≤ k then i else f k, _, hs1, fun j p hj => ?_⟩
    by_cases hji : j = i
    · subst hji
      obtain rfl : rd_T45 l0 j = p := by rw [hp] at hj; exact Option.some.inj hj
      refine ⟨fun _ => ?_, fun h => absurd h (by omega)⟩
      rw [seg_set_eq (by omega), hcs]
      refine k45_mkM _ _ _ _ ?_
      refine Kd.R_mono (Kd.R_grown (Kd.R_lower (Kd.R_bound hr) hw.size) hs2 ?_) ?_
      · intro k hk he
        have := hk.2.1
        injection he with he
        omega
      · intro k hk
        have := hk.2.1
        refine ⟨⟨trivial, fun he => ?_⟩, by simp only; rw [if_pos this]⟩
        simp only [Value.ownBlock, Option.map_some, Option.some.injEq] at he
        omega
    · rw [seg_set_ne (by omega) hji]
      refine ⟨fun h => ?_, fun h => (hrep j p hj).2 (by omega)⟩
      refine Kd.M_grown (Kd.M_below (k45.M_mono (fun k hk => ?_) (k45.M_bound ((hrep j p hj).1 (by omega)))) hb) hs2 (fun k hk => by have := hk.1.2; simpa [Value.ownBlock] using this)
      exact ⟨hk.1.1, by simp only; rw [if_neg (by omega)]; exact hk.1.2⟩
set_option maxHeartbeats 800000 in
set_option maxRecDepth 100000 in
theorem member_own.calls (A0 : Option Addr) (c0 : Nat) (l0 : List (S45)) (r : List (S45)) (w : World) (hr0 : Kd.C k45 w A0 l0.length l0) (hc0 : l0.length ≤ c0) (h : member_own.f l0 = some r) :
    Calls Try.prog 38 #[.slice A0 l0.length c0] w fun e w' => ∃ v0_ : Value, e = .returned (v0_) ∧ Kd.S k45 45 w' w.heap.size (fun _ => True) v0_ r ∧ Below w.heap.size w w' := by
  unfold member_own.f at h
  split at h
  case isFalse => cases h
  rename_i hb
  obtain ⟨hb1, hb2⟩ := hb
  obtain rfl := Option.some.inj h
  clear h
  have HB1 := Aside0.mk hb1
  have HB2 := Aside0.mk hb2
  have HR0 := Aside0.mk hr0
  have HL := hr0.2.1
  have HC0 := Aside0.mk hc0
  clear hr0 hc0 hb1 hb2
  go_enter Try.func38, Try.ntmps38
  go_wp2_with (go_at_call 53; refine (CloneFix_api_Member.calls A0 c0 l0 _ HR0.out HC0.out HB1.out).mono ?_; rintro e w1 ⟨v1, rfl, hr, hb⟩; have HM : Aside0 (OwnMid w w1 v1 l0 0) := ⟨OwnMid.start hr⟩; obtain ⟨Av, cv, rfl⟩ := Kd.R_slice hr; have HB := Aside0.mk hb; clear hr hb)
  go_loopg [4, 9] l0.length (fun kq _ v9 w' => ∃ (x : Nat), v9 = .int .i64 x ∧ kq + x = l0.length ∧ Aside0 (OwnMid w w' (.slice Av l0.length cv) l0 x) ∧ Aside0 (Below w.heap.size w w'))
  case atStart => exact ⟨0, rfl, by omega, HM, HB⟩
  case round =>
    obtain ⟨x, rfl, hx, HM, HB⟩ := hrel
    by_cases hlt : x < l0.length
    · obtain ⟨g, hg⟩ : ∃ g, Av = some ⟨g, 0, none⟩ := by
        obtain ⟨_, inner, ho, _⟩ := HM.out
        obtain ⟨g, cap, e, _⟩ := ho.form (by omega)
        injection e with e _ _
        exact ⟨g, e⟩
      subst hg
      obtain ⟨A2, c2, hc, hf, hl2, hC, hn⟩ := OwnMid.next hlt HM.out HB.out
      have HC2 := Aside0.mk hC
      have HN := Aside0.mk hn
      have hgl : w.heap.size ≤ g := by
        obtain ⟨_, inner, ho, _⟩ := HM.out
        exact own_base ho g (by simp [Value.ownBlock])
      have HCL : Aside0 (api_Account.f (rd_T45 l0 x).f2 = some (rd_T45 l0 x).f2) := ⟨by
        unfold api_Account.f
        rw [if_pos]
        have := List.all_eq_true.mp HB2.out (rd_T45 l0 x) (by
          simp only [rd_T45, List.getD_eq_getElem?_getD, Int.toNat_natCast, List.getElem?_eq_getElem hlt, Option.getD_some]
          exact List.getElem_mem hlt)
        exact of_decide_eq_true this⟩
      clear hC hn HM
      go_wp2_with (go_at_call 45; refine (api_Account.calls A2 c2 _ _ _ HC2.out hl2 HCL.out).mono ?_; rintro e w2 ⟨v2, rfl, hr, hb⟩; have HMN := Aside0.mk (HN.out w2 v2 hb hr); have hc3 := pw_cell_below hb hc; have hf3 := (hb.frozen (p := ⟨g, x * 3 + 2, none⟩) (World.block_lt_of_cell? _ _ hc)).trans hf; obtain ⟨A3, c3, rfl⟩ := Kd.R_slice hr; have HB3 := Aside0.mk (below_step HB.out hb); clear hb hr)
      go_roundg (l0.length - (x + 1))
      case measure => omega
      case rel => exact ⟨x + 1, by go_num, by omega, HMN, ⟨below_set HB3.out hgl⟩⟩
    · have hxe : x = l0.length := by omega
      have HM2 := Aside0.mk (OwnMid.done (hxe ▸ HM.out))
      have hd : decide ((x : Int) < (l0.length : Int)) = false := by simp; omega
      clear hxe HM
      go_wp2
      go_ret
      exact ⟨_, rfl, HM2.out, HB.out⟩

end Go.Proofs.Ytipoicfglaanaaa.PMemberKeeps
