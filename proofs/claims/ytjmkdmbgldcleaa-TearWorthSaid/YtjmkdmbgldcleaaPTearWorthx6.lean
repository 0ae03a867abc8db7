import Derived.Test.YtjmkdmbgldcleaaPTearWorthx0
import Derived.Test.YtjmkdmbgldcleaaPTearWorthx4
import Derived.Test.YtjmkdmbgldcleaaPTearWorthx5
namespace Go.Proofs.Ytjmkdmbgldcleaa.PTearWorth
open Go.RowKit Go.Proofs.YtjmkdmbgldcleaaW.PrintWords Go.Proofs.YtjmkdmbgldcleaaW.PrintLast Go.Proofs.YtjmkdmbgldcleaaW.PrintMore
attribute [local go_sem] max2_int min2_int max_two min_two max_three min_three max_four min_four Go.Proofs.YtjmkdmbgldcleaaHand.run_leq_str Go.Proofs.YtjmkdmbgldcleaaHand.run_gtr_str Go.Proofs.YtjmkdmbgldcleaaHand.run_geq_str   -- for this text's walks alone
set_option linter.unusedVariables false
set_option linter.unusedSimpArgs false

/-! ### tear_Parts: function 10 -/
-- AUX
def tear_check.pos (k : Nat) : List S58 → Option Int
  | [] => some 0
  | h :: r => (position_Check.f k h.f1).bind fun e => if e = 0 then tear_check.pos k r else some e
/-- What is amiss with holdings, and with the lengths of lists beside them. -/
def tear_check.f (k : Nat) (l : List S58) (bs : List Int) : Option Int :=
  if (bs.any (fun n => decide (1024 < n)) = true ∨ 1024 < l.length) then some 8 else tear_check.pos k l
theorem tear_check.mono_pos (k : Nat) (l : List S58) : LeO (tear_check.pos k l) (tear_check.pos (k + 1) l) := by
  induction l with
  | nil => exact LeO.refl _
  | cons h r ih =>
    unfold tear_check.pos
    exact LeO.bind (position_Check.mono _ _) (fun e => LeO.ite ih (LeO.refl _))
theorem tear_check.mono (l : List S58) (bs : List Int) (k : Nat) : LeO (tear_check.f k l bs) (tear_check.f (k + 1) l bs) := by
  unfold tear_check.f
  exact LeO.ite (LeO.refl _) (tear_check.mono_pos _ _)
set_option maxHeartbeats 3200000 in
set_option maxRecDepth 100000 in
theorem tear_check.calls (k : Nat) (A0 : Option Addr) (c0 : Nat) (l0 : List S58) (r : Int) (w : World) (hr0 : Kd.C k58 w A0 l0.length l0) (hc0 : l0.length ≤ c0) (h : tear_check.f k l0 [] = some r) :
    Calls Try.prog 24 #[.slice A0 l0.length c0, .slice none 0 0] w fun e w' => e = .returned (.int .i64 r) ∧ Below w.heap.size w w' := by
  have HR0 := Aside0.mk hr0
  have HH := Aside0.mk h
  have hl0 := hr0.2.1
  clear hr0 hc0 h
  go_enter Try.func24, Try.ntmps24
  go_wp2
  go_loopg [16] 1 (fun kq v16 w' => ∃ x : Nat, v16 = .int .i64 (x : Int) ∧ kq + x = 1 ∧ (x = 1 → l0.length ≤ 1024) ∧ Aside0 (w'.cell? ⟨w.heap.size + 1, 0, none⟩ = some (.int .i64 (l0.length : Int))) ∧ Aside0 (Below w.heap.size w w'))
  case atStart => exact ⟨0, rfl, rfl, fun h => absurd h (by decide), ⟨by simp [Array.getElem?_append]⟩, ⟨below_drew (below_alloc (below_alloc (Below.refl _ _) _) _)⟩⟩
  case round =>
    obtain ⟨x, rfl, hx, hle, HC, HB⟩ := hrel
    have hc := HC.out
    have H := HH.out
    unfold tear_check.f at H
    have hx2 : x = 0 ∨ x = 1 := by omega
    rcases hx2 with rfl | rfl
    · by_cases hg : 1024 < l0.length
      · rw [if_pos (.inr hg)] at H
        obtain rfl := Option.some.inj H
        have c1 : decide ((1024 : Int) < (l0.length : Int)) = true := decide_eq_true (by omega)
        clear hx hle H HH
        go_wp2
        go_ret
        exact ⟨rfl, HB.out⟩
      · have c1 : decide ((1024 : Int) < (l0.length : Int)) = false := decide_eq_false (by omega)
        go_wp2
        go_roundg 0
        case measure => omega
        case rel => exact ⟨1, by go_num, by omega, fun _ => by omega, HC, HB⟩
    · have hlen := hle rfl
      rw [if_neg (by simp; omega)] at H
      have HP := Aside0.mk H
      clear hx hle H HH hc HC
      go_wp2
      go_loopg [25] l0.length (fun kq v25 w' => ∃ x : Nat, v25 = .int .i64 (x : Int) ∧ kq + x = l0.length ∧ Aside0 (tear_check.pos k (l0.drop x) = some r) ∧ Aside0 (Below w.heap.size w w'))
      case atStart => exact ⟨0, rfl, by omega, HP, HB⟩
      case round =>
        clear HP HB
        obtain ⟨x, rfl, hx, HA, HB⟩ := hrel
        by_cases hlt : x < l0.length
        · obtain ⟨ad, A2, c2, ead, h0, h1, h2, h3, h4⟩ := at_T58 (Kd.C_below HR0.out HB.out) (x : Int) (by omega) (by omega)
          cases ead
          simp only [Int.toNat_natCast] at h0 h1 h2
          have hdr : l0.drop x = rd_T58 l0 x :: l0.drop (x + 1) := by
            rw [List.drop_eq_getElem_cons hlt]
            simp [rd_T58, hlt]
          have hA := HA.out
          rw [hdr, tear_check.pos] at hA
          clear hdr HA
          generalize hq : rd_T58 l0 x = q at *
          clear hq
          obtain ⟨⟨q0, q1⟩, q2⟩ := q
          simp only at h0 h1 h2 h3 h4 hA
          have H3 := Aside0.mk h3
          have H4 := Aside0.mk h4
          obtain ⟨e, hE, hA⟩ := Option.bind_eq_some_iff.mp hA
          have HE := Aside0.mk hE
          clear h3 h4 hE
          by_cases he : e = 0
          case neg =>
            rw [if_neg he] at hA
            obtain rfl := Option.some.inj hA
            have h0b : (e == 0) = false := beq_eq_false_iff_ne.mpr he
            have h1b : (e != 0) = true := bne_iff_ne.mpr he
            clear he hA
            go_wp2_with (go_at_call 43; refine (position_Check.calls k A2 c2 q2 e _ (Kd.C_alloc H4.out _) H3.out HE.out).mono ?_; rintro _ w5 ⟨rfl, hb⟩; have HB5 := Aside0.mk (below_step (below_alloc HB.out (.cells #[.string q0, .string q1, .slice A2 q2.length c2] 58 (0, 0))) hb); clear hb)
            go_ret
            exact ⟨rfl, HB5.out⟩
          subst he
          rw [if_pos rfl] at hA
          have HA2 := Aside0.mk hA
          clear hA
          go_wp2_with (go_at_call 43; refine (position_Check.calls k A2 c2 q2 0 _ (Kd.C_alloc H4.out _) H3.out HE.out).mono ?_; rintro _ w5 ⟨rfl, hb⟩; have HB5 := Aside0.mk (below_step (below_alloc HB.out (.cells #[.string q0, .string q1, .slice A2 q2.length c2] 58 (0, 0))) hb); clear hb)
          go_roundg (l0.length - (x + 1))
          case measure => omega
          case rel => exact ⟨x + 1, by go_num, by omega, HA2, HB5⟩
        · have hxe : x = l0.length := by omega
          have hA := HA.out
          rw [List.drop_eq_nil_of_le (by omega), tear_check.pos] at hA
          obtain rfl := Option.some.inj hA
          subst hxe
          clear hA HA
          go_wp2
          go_ret
          exact ⟨rfl, HB.out⟩
set_option maxHeartbeats 3200000 in
set_option maxRecDepth 100000 in
theorem tear_check.calls1 (k : Nat) (A0 : Option Addr) (c0 : Nat) (l0 : List S58) (r : Int) (w : World) (hr0 : Kd.C k58 w A0 l0.length l0) (hc0 : l0.length ≤ c0) (n : Int) (g : Nat) (hg : w.heap[g]? = some (.cells #[.int .i64 n] 3 (0, 0))) (h : tear_check.f k l0 [n] = some r) :
    Calls Try.prog 24 #[.slice A0 l0.length c0, .slice (some ⟨g, 0, none⟩) 1 1] w fun e w' => e = .returned (.int .i64 r) ∧ Below w.heap.size w w' := by
  have HR0 := Aside0.mk hr0
  have HH := Aside0.mk h
  have hl0 := hr0.2.1
  clear hr0 hc0 h
  go_enter Try.func24, Try.ntmps24
  have hcg : w.cell? ⟨g, 0, none⟩ = some (.int .i64 n) := (blk_cell hg 0).trans rfl
  have hfg := blk_frozen hg 0
  have hlg := blk_lt hg
  clear hg
  go_wp2
  go_loopg [16] 2 (fun kq v16 w' => ∃ x : Nat, v16 = .int .i64 (x : Int) ∧ kq + x = 2 ∧ (1 ≤ x → n ≤ 1024) ∧ (x = 2 → l0.length ≤ 1024) ∧ Aside0 (w'.cell? ⟨w.heap.size + 1, 0, none⟩ = some (.int .i64 n)) ∧ Aside0 (w'.cell? ⟨w.heap.size + 1, 1, none⟩ = some (.int .i64 (l0.length : Int))) ∧ Aside0 (Below w.heap.size w w'))
  case atStart => exact ⟨0, rfl, rfl, fun h => absurd h (by decide), fun h => absurd h (by decide), ⟨by simp [Array.getElem?_append]⟩, ⟨by simp [Array.getElem?_append]⟩, ⟨below_drew (below_alloc (below_alloc (Below.refl _ _) _) _)⟩⟩
  case round =>
    clear hcg hfg hlg
    obtain ⟨x, rfl, hx, hle1, hle, HC, HC1, HB⟩ := hrel
    have hc := HC.out
    have hc1 := HC1.out
    have H := HH.out
    unfold tear_check.f at H
    have hx2 : x = 0 ∨ x = 1 ∨ x = 2 := by omega
    rcases hx2 with rfl | rfl | rfl
    · by_cases hg : 1024 < n
      · rw [if_pos (.inl (by simp; exact hg))] at H
        obtain rfl := Option.some.inj H
        have c1 : decide ((1024 : Int) < n) = true := decide_eq_true (by omega)
        clear hx hle hle1 H HH
        go_wp2
        go_ret
        exact ⟨rfl, HB.out⟩
      · have c1 : decide ((1024 : Int) < n) = false := decide_eq_false (by omega)
        go_wp2
        go_roundg 1
        case measure => omega
        case rel => exact ⟨1, by go_num, by omega, fun _ => by omega, fun h => absurd h (by decide), HC, HC1, HB⟩
    · by_cases hg : 1024 < l0.length
      · rw [if_pos (.inr hg)] at H
        obtain rfl := Option.some.inj H
        have c1 : decide ((1024 : Int) < (l0.length : Int)) = true := decide_eq_true (by omega)
        clear hx hle hle1 H HH
        go_wp2
        go_ret
        exact ⟨rfl, HB.out⟩
      · have c1 : decide ((1024 : Int) < (l0.length : Int)) = false := decide_eq_false (by omega)
        go_wp2
        go_roundg 0
        case measure => omega
        case rel => exact ⟨2, by go_num, by omega, fun _ => hle1 (by decide), fun _ => by omega, HC, HC1, HB⟩
    · have hlen := hle rfl
      have hnn := hle1 (by omega)
      rw [if_neg (by simp; omega)] at H
      have HP := Aside0.mk H
      clear hx hle hle1 H HH hc hc1 HC HC1
      go_wp2
      go_loopg [25] l0.length (fun kq v25 w' => ∃ x : Nat, v25 = .int .i64 (x : Int) ∧ kq + x = l0.length ∧ Aside0 (tear_check.pos k (l0.drop x) = some r) ∧ Aside0 (Below w.heap.size w w'))
      case atStart => exact ⟨0, rfl, by omega, HP, HB⟩
      case round =>
        clear HP HB
        obtain ⟨x, rfl, hx, HA, HB⟩ := hrel
        by_cases hlt : x < l0.length
        · obtain ⟨ad, A2, c2, ead, h0, h1, h2, h3, h4⟩ := at_T58 (Kd.C_below HR0.out HB.out) (x : Int) (by omega) (by omega)
          cases ead
          simp only [Int.toNat_natCast] at h0 h1 h2
          have hdr : l0.drop x = rd_T58 l0 x :: l0.drop (x + 1) := by
            rw [List.drop_eq_getElem_cons hlt]
            simp [rd_T58, hlt]
          have hA := HA.out
          rw [hdr, tear_check.pos] at hA
          clear hdr HA
          generalize hq : rd_T58 l0 x = q at *
          clear hq
          obtain ⟨⟨q0, q1⟩, q2⟩ := q
          simp only at h0 h1 h2 h3 h4 hA
          have H3 := Aside0.mk h3
          have H4 := Aside0.mk h4
          obtain ⟨e, hE, hA⟩ := Option.bind_eq_some_iff.mp hA
          have HE := Aside0.mk hE
          clear h3 h4 hE
          by_cases he : e = 0
          case neg =>
            rw [if_neg he] at hA
            obtain rfl := Option.some.inj hA
            have h0b : (e == 0) = false := beq_eq_false_iff_ne.mpr he
            have h1b : (e != 0) = true := bne_iff_ne.mpr he
            clear he hA
            go_wp2_with (go_at_call 43; refine (position_Check.calls k A2 c2 q2 e _ (Kd.C_alloc H4.out _) H3.out HE.out).mono ?_; rintro _ w5 ⟨rfl, hb⟩; have HB5 := Aside0.mk (below_step (below_alloc HB.out (.cells #[.string q0, .string q1, .slice A2 q2.length c2] 58 (0, 0))) hb); clear hb)
            go_ret
            exact ⟨rfl, HB5.out⟩
          subst he
          rw [if_pos rfl] at hA
          have HA2 := Aside0.mk hA
          clear hA
          go_wp2_with (go_at_call 43; refine (position_Check.calls k A2 c2 q2 0 _ (Kd.C_alloc H4.out _) H3.out HE.out).mono ?_; rintro _ w5 ⟨rfl, hb⟩; have HB5 := Aside0.mk (below_step (below_alloc HB.out (.cells #[.string q0, .string q1, .slice A2 q2.length c2] 58 (0, 0))) hb); clear hb)
          go_roundg (l0.length - (x + 1))
          case measure => omega
          case rel => exact ⟨x + 1, by go_num, by omega, HA2, HB5⟩
        · have hxe : x = l0.length := by omega
          have hA := HA.out
          rw [List.drop_eq_nil_of_le (by omega), tear_check.pos] at hA
          obtain rfl := Option.some.inj hA
          subst hxe
          clear hA HA
          go_wp2
          go_ret
          exact ⟨rfl, HB.out⟩

/-- How many lots of a side each has. -/
def tear_Parts.has (s0 : ByteArray) (s1 s2 s3 : Int) (long : Bool) : List S58 → Option (List Int)
  | [] => some []
  | h :: r => (position_Find.f h.f1 s0 s1 s2 s3).bind fun x => (tear_Parts.has s0 s1 s2 s3 long r).bind fun t => some ((if long = true then x.2.2.2.2.1 else x.2.2.2.2.2) :: t)
def tear_Parts.tell : List S58 → List Int → List S62 → Option (List S62)
  | _, [], t => some t
  | [], k :: r, t => if k > 0 then none else tear_Parts.tell [] r t
  | h :: l, k :: r, t => if k > 0 then (if t.length < 1000000 then tear_Parts.tell l r (t ++ [⟨h.f0, k⟩]) else none) else tear_Parts.tell l r t
def tear_Parts.sum (l : List Int) (a : Int) : Int := l.foldl (fun a x => wrap64 (a + x)) a
def tear_Parts.f (k : Nat) (l0 : List S58) (s0 : ByteArray) (s1 s2 s3 : Int) (long : Bool) (n : Int) : Option (List S62 × Int) :=
  (tear_check.f k l0 []).bind fun e => if e = 0 then (if n < 0 ∨ n > 1048576 then some ([], 18) else ((tear_Parts.has s0 s1 s2 s3 long l0).bind fun hs => if tear_Parts.sum hs 0 < n then some ([], 30) else (if n = 0 then some ([], 0) else ((share_Split.f k n hs).bind fun x => if x.2 = 0 then ((tear_Parts.tell l0 x.1 []).bind fun t => some (t, 0)) else some ([], x.2))))) else some ([], e)
theorem tear_Parts.mono : ∀ a0 a1 a2 a3 a4 a5 a6 k, LeO (tear_Parts.f k a0 a1 a2 a3 a4 a5 a6) (tear_Parts.f (k + 1) a0 a1 a2 a3 a4 a5 a6) := by
  intro a0 a1 a2 a3 a4 a5 a6 k
  unfold tear_Parts.f
  exact LeO.bind (tear_check.mono _ _ _) (fun e => LeO.ite (LeO.ite (LeO.refl _) (LeO.bind (LeO.refl _) (fun hs => LeO.ite (LeO.refl _) (LeO.ite (LeO.refl _) (LeO.bind (share_Split.mono _ _ _) (fun x => LeO.refl _)))))) (LeO.refl _))
theorem tear_side.t (b : Nat) (w : World) : Calls Try.prog 26 #[.pointer (some ⟨b, 0, none⟩), .bool true] w fun e w' => e = .returned (.pointer (some ⟨b, 4, none⟩)) ∧ w' = w := by
  go_enter Try.func26, Try.ntmps26
  go_wp2
  go_ret
  exact ⟨rfl, rfl⟩
theorem tear_side.f (b : Nat) (w : World) : Calls Try.prog 26 #[.pointer (some ⟨b, 0, none⟩), .bool false] w fun e w' => e = .returned (.pointer (some ⟨b, 5, none⟩)) ∧ w' = w := by
  go_enter Try.func26, Try.ntmps26
  go_wp2
  go_ret
  exact ⟨rfl, rfl⟩
theorem tear_row (hs : List Int) (n x : Nat) (hn : hs.length = n) (hx : x < n) (v : Int) (hv : v = hs[x]'(by omega)) : (hs.take x ++ List.replicate (n - x) 0).set x v = hs.take (x + 1) ++ List.replicate (n - (x + 1)) 0 := by
  have hl : (hs.take x).length = x := by rw [List.length_take]; omega
  rw [List.set_append_right _ _ (by omega), hl, Nat.sub_self, show n - x = (n - (x + 1)) + 1 by omega, List.replicate_succ, List.set_cons_zero, List.take_succ_eq_append_getElem (by omega), List.append_assoc, hv]
  rfl
theorem tear_Parts.sum_step (hs : List Int) (x : Nat) (hx : x < hs.length) : tear_Parts.sum (hs.take (x + 1)) 0 = wrap64 (tear_Parts.sum (hs.take x) 0 + hs[x]) := by
  rw [List.take_succ_eq_append_getElem hx, tear_Parts.sum, List.foldl_append]
  rfl
theorem tear_check.len {k : Nat} {l : List S58} (h : tear_check.f k l [] = some 0) : l.length ≤ 1024 := by
  unfold tear_check.f at h
  by_cases c : ((([] : List Int).any (fun n => decide (1024 < n))) = true ∨ 1024 < l.length)
  · rw [if_pos c] at h; cases h
  · have : ¬ 1024 < l.length := fun e => c (.inr e)
    omega
theorem tear_Parts.has_len (s0 : ByteArray) (s1 s2 s3 : Int) (long : Bool) (l : List S58) : ∀ hs, tear_Parts.has s0 s1 s2 s3 long l = some hs → hs.length = l.length := by
  induction l with
  | nil => intro hs h; rw [tear_Parts.has] at h; cases Option.some.inj h; rfl
  | cons x r ih =>
    intro hs h
    rw [tear_Parts.has] at h
    obtain ⟨a, _, h⟩ := Option.bind_eq_some_iff.mp h
    obtain ⟨b, hb, h⟩ := Option.bind_eq_some_iff.mp h
    cases Option.some.inj h
    rw [List.length_cons, List.length_cons, ih b hb]
theorem tear_Parts.has_drop (s0 : ByteArray) (s1 s2 s3 : Int) (long : Bool) (x : Nat) : ∀ (l : List S58) (hs : List Int), tear_Parts.has s0 s1 s2 s3 long l = some hs → tear_Parts.has s0 s1 s2 s3 long (l.drop x) = some (hs.drop x) := by
  induction x with
  | zero => intro l hs h; exact h
  | succ x ih =>
    intro l hs h
    cases l with
    | nil => rw [tear_Parts.has] at h; cases Option.some.inj h; rfl
    | cons y r =>
      rw [tear_Parts.has] at h
      obtain ⟨a, _, h⟩ := Option.bind_eq_some_iff.mp h
      obtain ⟨b, hb, h⟩ := Option.bind_eq_some_iff.mp h
      cases Option.some.inj h
      exact ih r b hb
set_option maxHeartbeats 3200000 in
set_option maxRecDepth 100000 in
theorem tear_Parts.calls (k : Nat) (A0 : Option Addr) (c0 : Nat) (l0 : List (S58)) (s0 : ByteArray) (s1 s2 s3 : Int) (long : Bool) (n : Int) (r1 : List S62) (r2 : Int) (w : World) (hr0 : Kd.C k58 w A0 l0.length l0) (hc0 : l0.length ≤ c0) (h : tear_Parts.f k l0 s0 s1 s2 s3 long n = some (r1, r2)) :
    Calls Try.prog 10 #[.slice A0 l0.length c0, .agg #[.string s0, .int .i64 s1, .int .i64 s2, .int .i64 s3], .bool long, .int .i64 n] w fun e w' => ∃ v0_ : Value, e = .returned (.tuple #[v0_, .int .i64 r2]) ∧ Kd.R k62 62 w' w.heap.size (fun _ => True) v0_ r1 ∧ Below w.heap.size w w' := by
  have HR0 := Aside0.mk hr0
  have HC0 := Aside0.mk hc0
  have hl0 := hr0.2.1
  clear hr0 hc0
  unfold tear_Parts.f at h
  obtain ⟨e, hE, h⟩ := Option.bind_eq_some_iff.mp h
  have HE := Aside0.mk hE
  by_cases he : e = 0
  case neg =>
    rw [if_neg he] at h
    have h2 := Option.some.inj h
    simp only [Prod.mk.injEq] at h2
    obtain ⟨rfl, rfl⟩ := h2
    have h0b : (e == 0) = false := beq_eq_false_iff_ne.mpr he
    have h1b : (e != 0) = true := bne_iff_ne.mpr he
    clear he h hE
    go_enter Try.func10, Try.ntmps10
    go_wp2_with (go_at_call 24; refine (tear_check.calls k A0 c0 l0 e _ (Kd.C_alloc HR0.out _) HC0.out HE.out).mono ?_; rintro _ w2 ⟨rfl, hb⟩; have HB2 := Aside0.mk (below_step (below_alloc (Below.refl _ w) (.cells #[.string s0, .int .i64 s1, .int .i64 s2, .int .i64 s3] 24 (0, 0))) hb); clear hb)
    go_ret2
    exact ⟨_, rfl, Kd.R_nil _ _ _ _ _, HB2.out⟩
  subst he
  rw [if_pos rfl] at h
  have hlen := tear_check.len hE
  clear hE
  by_cases hn : n < 0 ∨ n > 1048576
  · rw [if_pos hn] at h
    have h2 := Option.some.inj h
    simp only [Prod.mk.injEq] at h2
    obtain ⟨rfl, rfl⟩ := h2
    clear h
    by_cases hn0 : n < 0
    · have d0 : decide (n < 0) = true := decide_eq_true hn0
      clear hn hn0
      go_enter Try.func10, Try.ntmps10
      go_wp2_with (go_at_call 24; refine (tear_check.calls k A0 c0 l0 0 _ (Kd.C_alloc HR0.out _) HC0.out HE.out).mono ?_; rintro _ w2 ⟨rfl, hb⟩; have HB2 := Aside0.mk (below_step (below_alloc (Below.refl _ w) (.cells #[.string s0, .int .i64 s1, .int .i64 s2, .int .i64 s3] 24 (0, 0))) hb); clear hb)
      go_ret2
      exact ⟨_, rfl, Kd.R_nil _ _ _ _ _, HB2.out⟩
    · have d0 : decide (n < 0) = false := decide_eq_false hn0
      have d1 : decide (1048576 < n) = true := decide_eq_true (by omega)
      clear hn hn0
      go_enter Try.func10, Try.ntmps10
      go_wp2_with (go_at_call 24; refine (tear_check.calls k A0 c0 l0 0 _ (Kd.C_alloc HR0.out _) HC0.out HE.out).mono ?_; rintro _ w2 ⟨rfl, hb⟩; have HB2 := Aside0.mk (below_step (below_alloc (Below.refl _ w) (.cells #[.string s0, .int .i64 s1, .int .i64 s2, .int .i64 s3] 24 (0, 0))) hb); clear hb)
      go_ret2
      exact ⟨_, rfl, Kd.R_nil _ _ _ _ _, HB2.out⟩
  rw [if_neg hn] at h
  obtain ⟨hs, hHS, h⟩ := Option.bind_eq_some_iff.mp h
  have hsl := tear_Parts.has_len _ _ _ _ _ _ _ hHS
  have HHS := Aside0.mk hHS
  have HSL := Aside0.mk hsl
  have HH := Aside0.mk h
  have HLEN := Aside0.mk hlen
  have d0 : decide (n < 0) = false := decide_eq_false (by omega)
  have d1 : decide (1048576 < n) = false := decide_eq_false (by omega)
  clear hHS h hn
  go_enter Try.func10, Try.ntmps10
  go_wp2_with (first | (go_at_call 24; refine (tear_check.calls k A0 c0 l0 0 _ (Kd.C_alloc HR0.out _) HC0.out HE.out).mono ?_; rintro _ w2 ⟨rfl, hb⟩; have HB2 := Aside0.mk (below_step (below_alloc (Below.refl _ w) (.cells #[.string s0, .int .i64 s1, .int .i64 s2, .int .i64 s3] 24 (0, 0))) hb); have BS2 := Aside0.mk (blk_below (blk_new w (.cells #[.string s0, .int .i64 s1, .int .i64 s2, .int .i64 s3] 24 (0, 0))) hb); clear hb) | ((with_reducible refine gate_dst (N := 31) rfl ?_); refine Kd.R_make (Kd.int .i64) (w0 := w) w.heap.size 3 rfl (N := 31) rfl 67 _ _ rfl (l0.length : Int) rfl rfl Try.underlying67 (.int .i64 0) 8 info3 rfl (by decide) (by omega) 0 (okp := fun _ => False) (ok := fun k_ => w2.heap.size ≤ k_) rfl (fun _ hk => hk.elim) (Nat.le_refl _) (by omega) (by omega) HB2.out HB2.out.size ?_; intro v31 w3 hR hb hg hnew; have HR := Aside0.mk hR; have HB3 := Aside0.mk hb; have BS3 := Aside0.mk (blk_grown BS2.out hg (by simp)); clear hR hb hg hnew))
  have hlt2 := blk_lt BS2.out
  go_loopg [11, 34] l0.length (fun kq v11 v34 w' => ∃ x : Nat, v34 = .int .i64 (x : Int) ∧ v11 = .int .i64 (tear_Parts.sum (hs.take x) 0) ∧ kq + x = l0.length ∧ Aside0 (Kd.R (Kd.int .i64) 3 w' w.heap.size (fun k_ => w2.heap.size ≤ k_) v31 (hs.take x ++ List.replicate (l0.length - x) 0)) ∧ Aside0 (w'.heap[w.heap.size]? = some (.cells #[.string s0, .int .i64 s1, .int .i64 s2, .int .i64 s3] 24 (0, 0))) ∧ Aside0 (Below w.heap.size w w'))
  case atStart => exact ⟨0, rfl, rfl, by omega, ⟨by simpa using HR.out⟩, BS3, HB3⟩
  case round =>
    clear HR HB3 BS3
    obtain ⟨x, rfl, rfl, hx, HRW, BS, HB⟩ := hrel
    have hsz := HB.out.size
    by_cases hlt : x < l0.length
    · obtain ⟨ad, A2, c2, ead, h0, h1, h2, h3, h4⟩ := at_T58 (Kd.C_below HR0.out HB.out) (x : Int) (by omega) (by omega)
      cases ead
      simp only [Int.toNat_natCast] at h0 h1 h2
      have hH := tear_Parts.has_drop s0 s1 s2 s3 long x l0 hs HHS.out
      have hdr : l0.drop x = rd_T58 l0 x :: l0.drop (x + 1) := by
        rw [List.drop_eq_getElem_cons hlt]
        simp [rd_T58, hlt]
      rw [hdr, tear_Parts.has] at hH
      clear hdr
      generalize hq : rd_T58 l0 x = q at *
      clear hq
      obtain ⟨⟨q0, q1⟩, q2⟩ := q
      simp only at h0 h1 h2 h3 h4 hH
      have H3 := Aside0.mk h3
      have H4 := Aside0.mk h4
      obtain ⟨⟨f0, f1, f2, f3, f4, f5⟩, hF, hH⟩ := Option.bind_eq_some_iff.mp hH
      obtain ⟨tl, htl, hH⟩ := Option.bind_eq_some_iff.mp hH
      have hd := Option.some.inj hH
      have hxh : x < hs.length := by have := HSL.out; omega
      rw [List.drop_eq_getElem_cons hxh] at hd
      injection hd with hv hd2
      have HF := Aside0.mk hF
      clear h3 h4 hF htl hH hd2
      have hsl := HSL.out
      obtain ⟨g, cg, eg, hgb, hgl, _⟩ := Kd.R_form HRW.out (by simp; omega)
      have hg2 : w2.heap.size ≤ g := by have h9 := HRW.out.1 g (by rw [eg]; rfl); exact h9
      have eg2 : v31 = .slice (some ⟨g, 0, none⟩) l0.length cg := by
        rw [eg]
        congr 1
        simp
        omega
      clear eg
      subst eg2
      have b0 : wr.cell? ⟨w.heap.size, 0, none⟩ = some (.string s0) := (blk_cell BS.out 0).trans rfl
      have b1 : wr.cell? ⟨w.heap.size, 1, none⟩ = some (.int .i64 s1) := (blk_cell BS.out 1).trans rfl
      have b2 : wr.cell? ⟨w.heap.size, 2, none⟩ = some (.int .i64 s2) := (blk_cell BS.out 2).trans rfl
      have b3 : wr.cell? ⟨w.heap.size, 3, none⟩ = some (.int .i64 s3) := (blk_cell BS.out 3).trans rfl
      have hltB := blk_lt BS.out
      have hd1 : decide ((x : Int) < (l0.length : Int)) = true := decide_eq_true (by omega)
      cases long
      case false =>
          have hv2 : f5 = hs[x]'(by omega) := by simpa using hv
          clear hv
          go_wp2_with (first | (go_at_call 25; refine (position_Find.calls A2 c2 q2 s0 s1 s2 s3 f0 f1 f2 f3 f4 f5 _ (Kd.C_alloc H4.out _) H3.out HF.out).mono ?_; rintro _ w5 ⟨rfl, hb⟩; have HRW6 := Aside0.mk (Kd.R_below (Kd.R_alloc HRW.out (.cells #[.string q0, .string q1, .slice A2 q2.length c2] 58 (0, 0))) hb); have BS6 := Aside0.mk (blk_below (blk_alloc BS.out (.cells #[.string q0, .string q1, .slice A2 q2.length c2] 58 (0, 0))) hb); have HB6 := Aside0.mk (below_step (below_alloc HB.out (.cells #[.string q0, .string q1, .slice A2 q2.length c2] 58 (0, 0))) hb); obtain ⟨hcl, hfz⟩ := Kd.R_celln (0 : Int) (Kd.R_below (Kd.R_alloc HRW.out (.cells #[.string q0, .string q1, .slice A2 q2.length c2] 58 (0, 0))) hb) (x : Int) (by omega) (by simp; omega); have hltg := Kd.R_lt (Kd.R_below (Kd.R_alloc HRW.out (.cells #[.string q0, .string q1, .slice A2 q2.length c2] 58 (0, 0))) hb) g rfl; simp only [Int.toNat_natCast] at hcl hfz; clear hb) | (go_at_call 26; refine (tear_side.f _ _).mono ?_; rintro _ _ ⟨rfl, rfl⟩))
          go_roundg (l0.length - (x + 1))
          case measure => omega
          case rel => exact ⟨x + 1, by go_num, by rw [tear_Parts.sum_step hs x (by omega), ← hv2], by omega, ⟨by have h9 := (Kd.R_putg HRW6.out (x : Int) (hs[x]'(by omega))).1; simp only [Int.toNat_natCast] at h9; rw [tear_row hs l0.length x (by omega) hlt _ rfl] at h9; exact Kd.R_alloc h9 _⟩, ⟨blk_alloc (blk_far BS6.out (p := ⟨g, x, none⟩) (by show w.heap.size ≠ g; omega) _) _⟩, ⟨below_alloc (below_set HB6.out hgb) _⟩⟩
      case true =>
          have hv2 : f4 = hs[x]'(by omega) := by simpa using hv
          clear hv
          go_wp2_with (first | (go_at_call 25; refine (position_Find.calls A2 c2 q2 s0 s1 s2 s3 f0 f1 f2 f3 f4 f5 _ (Kd.C_alloc H4.out _) H3.out HF.out).mono ?_; rintro _ w5 ⟨rfl, hb⟩; have HRW6 := Aside0.mk (Kd.R_below (Kd.R_alloc HRW.out (.cells #[.string q0, .string q1, .slice A2 q2.length c2] 58 (0, 0))) hb); have BS6 := Aside0.mk (blk_below (blk_alloc BS.out (.cells #[.string q0, .string q1, .slice A2 q2.length c2] 58 (0, 0))) hb); have HB6 := Aside0.mk (below_step (below_alloc HB.out (.cells #[.string q0, .string q1, .slice A2 q2.length c2] 58 (0, 0))) hb); obtain ⟨hcl, hfz⟩ := Kd.R_celln (0 : Int) (Kd.R_below (Kd.R_alloc HRW.out (.cells #[.string q0, .string q1, .slice A2 q2.length c2] 58 (0, 0))) hb) (x : Int) (by omega) (by simp; omega); have hltg := Kd.R_lt (Kd.R_below (Kd.R_alloc HRW.out (.cells #[.string q0, .string q1, .slice A2 q2.length c2] 58 (0, 0))) hb) g rfl; simp only [Int.toNat_natCast] at hcl hfz; clear hb) | (go_at_call 26; refine (tear_side.t _ _).mono ?_; rintro _ _ ⟨rfl, rfl⟩))
          go_roundg (l0.length - (x + 1))
          case measure => omega
          case rel => exact ⟨x + 1, by go_num, by rw [tear_Parts.sum_step hs x (by omega), ← hv2], by omega, ⟨by have h9 := (Kd.R_putg HRW6.out (x : Int) (hs[x]'(by omega))).1; simp only [Int.toNat_natCast] at h9; rw [tear_row hs l0.length x (by omega) hlt _ rfl] at h9; exact Kd.R_alloc h9 _⟩, ⟨blk_alloc (blk_far BS6.out (p := ⟨g, x, none⟩) (by show w.heap.size ≠ g; omega) _) _⟩, ⟨below_alloc (below_set HB6.out hgb) _⟩⟩
    · have hxe : x = l0.length := by omega
      have hsl := HSL.out
      have ht : hs.take x = hs := List.take_of_length_le (by omega)
      rw [ht]
      have hR := HRW.out
      rw [ht, hxe, Nat.sub_self, List.replicate_zero, List.append_nil] at hR
      obtain ⟨A31, c31, e31⟩ := Kd.R_slice hR
      subst e31
      have HR := Aside0.mk hR
      have hd1 : decide ((x : Int) < (l0.length : Int)) = false := decide_eq_false (by omega)
      have H := HH.out
      clear hR ht HRW hsl hlt hlt2
      by_cases c1 : tear_Parts.sum hs 0 < n
      · rw [if_pos c1] at H
        have h2 := Option.some.inj H
        simp only [Prod.mk.injEq] at h2
        obtain ⟨rfl, rfl⟩ := h2
        have d2 : decide (tear_Parts.sum hs 0 < n) = true := decide_eq_true c1
        clear c1 H
        go_wp2
        go_ret2
        exact ⟨_, rfl, Kd.R_nil _ _ _ _ _, HB.out⟩
      rw [if_neg c1] at H
      have d2 : decide (tear_Parts.sum hs 0 < n) = false := decide_eq_false c1
      by_cases c2 : n = 0
      · rw [if_pos c2] at H
        have h2 := Option.some.inj H
        simp only [Prod.mk.injEq] at h2
        obtain ⟨rfl, rfl⟩ := h2
        have d3 : (n == 0) = true := beq_iff_eq.mpr c2
        have d4 : decide (n = 0) = true := decide_eq_true c2
        clear c1 c2 H
        go_wp2
        go_ret2
        exact ⟨_, rfl, Kd.R_nil _ _ _ _ _, HB.out⟩
      rw [if_neg c2] at H
      have d3 : (n == 0) = false := beq_eq_false_iff_ne.mpr c2
      have d4 : decide (n = 0) = false := decide_eq_false c2
      obtain ⟨⟨pr, e⟩, hSP, H⟩ := Option.bind_eq_some_iff.mp H
      have HSP := Aside0.mk hSP
      simp only at H
      clear c1 c2 hSP
      have HCA : Aside0 (Calls Try.prog 27 #[.int .i64 n, .slice A31 l0.length c31] wr fun e' w' => ∃ v0_ : Value, e' = .returned (.tuple #[v0_, .int .i64 e]) ∧ Kd.R (Kd.int .i64) 3 w' wr.heap.size (fun _ => True) v0_ pr ∧ Below wr.heap.size wr w') := ⟨by have h9 := share_Split.calls k n A31 c31 hs pr e wr (Kd.R_reads' HR.out).2.2 (Kd.R_reads' HR.out).2.1 HSP.out; rw [HSL.out] at h9; exact h9⟩
      clear HSP HSL HR
      by_cases he : e = 0
      case neg =>
        rw [if_neg he] at H
        have h2 := Option.some.inj H
        simp only [Prod.mk.injEq] at h2
        obtain ⟨rfl, rfl⟩ := h2
        have h0b : (e == 0) = false := beq_eq_false_iff_ne.mpr he
        have h1b : (e != 0) = true := bne_iff_ne.mpr he
        clear he H
        go_wp2_with (go_at_call 27; refine HCA.out.mono ?_; rintro _ w6 ⟨v6, rfl, hR6, hb⟩; have HB6 := Aside0.mk (below_step HB.out hb); clear hb hR6)
        go_ret2
        exact ⟨_, rfl, Kd.R_nil _ _ _ _ _, HB6.out⟩
      subst he
      rw [if_pos rfl] at H
      obtain ⟨tt, hT, H⟩ := Option.bind_eq_some_iff.mp H
      have h2 := Option.some.inj H
      simp only [Prod.mk.injEq] at h2
      obtain ⟨rfl, rfl⟩ := h2
      have HT := Aside0.mk hT
      clear H hT
      go_wp2_with (go_at_call 27; refine HCA.out.mono ?_; rintro _ w6 ⟨v6, rfl, hR6, hb⟩; have HB6 := Aside0.mk (below_step HB.out hb); obtain ⟨A6, c6, e6⟩ := Kd.R_slice hR6; subst e6; have HP6 := Aside0.mk (Kd.R_lower hR6 HB.out.size); clear hb hR6)
      go_loopg [8, 75] pr.length (fun kq v8 v75 w' => ∃ (x : Nat) (t : List S62), v75 = .int .i64 (x : Int) ∧ kq + x = pr.length ∧ Aside0 (tear_Parts.tell (l0.drop x) (pr.drop x) t = some tt) ∧ Aside0 (Kd.R k62 62 w' w.heap.size (fun _ => True) v8 t) ∧ Aside0 (Kd.R (Kd.int .i64) 3 w' w.heap.size (fun _ => True) (.slice A6 pr.length c6) pr) ∧ Aside0 (Below w.heap.size w w'))
      case atStart => exact ⟨0, [], rfl, by omega, HT, ⟨Kd.R_nil _ _ _ _ _⟩, HP6, HB6⟩
      case round =>
        clear HT HP6 HB6
        obtain ⟨x, t, rfl, hx, HA, HT, HP, HB⟩ := hrel
        have hsz := HB.out.size
        have hpl := ((Kd.R_reads' HP.out).2.2).2.1
        by_cases hlt : x < pr.length
        · obtain ⟨ea, ead, g0⟩ := Kd.at_int (Kd.R_reads' HP.out).2.2 (x : Int) (by omega) (by omega)
          cases ead
          simp only [Int.toNat_natCast] at g0
          have hA := HA.out
          rw [List.drop_eq_getElem_cons hlt, show pr[x] = rd pr x by simp [rd, hlt]] at hA
          clear HA
          generalize hq : rd pr x = q at *
          clear hq
          have hd1 : decide ((x : Int) < (pr.length : Int)) = true := decide_eq_true (by omega)
          by_cases hq0 : q > 0
          · have hd2 : decide (0 < q) = true := decide_eq_true (by omega)
            by_cases hl : x < l0.length
            · obtain ⟨ad, A2, c2, ead, h0, h1, h2, h3, h4⟩ := at_T58 (Kd.C_below HR0.out HB.out) (x : Int) (by omega) (by omega)
              cases ead
              simp only [Int.toNat_natCast] at h0 h1 h2
              have hdr : l0.drop x = rd_T58 l0 x :: l0.drop (x + 1) := by
                rw [List.drop_eq_getElem_cons hl]
                simp [rd_T58, hl]
              rw [hdr, tear_Parts.tell, if_pos hq0] at hA
              clear hdr h2 h3 h4
              generalize hqq : rd_T58 l0 x = qq at *
              clear hqq
              obtain ⟨⟨q0, q1⟩, q2⟩ := qq
              simp only at h0 h1 hA
              by_cases hln : t.length < 1000000
              case neg => rw [if_neg hln] at hA; cases hA
              rw [if_pos hln] at hA
              have HA2 := Aside0.mk hA
              have HLN : Aside0 ((t.length + 1) * 40 ≤ 140737488355328) := ⟨by omega⟩
              have hd3 : decide ((x : Int) < (l0.length : Int)) = true := decide_eq_true (by omega)
              clear hA hln hq0
              go_wp2_with ((with_reducible refine gate_builtin (b := .append) (xs := #[.tmp 82, .tmp 90]) rfl ?_); at_builtin; refine Kd.R_append k62 (w0 := w) w.heap.size rfl (.tmp 82) (.tmp 90) 29 62 (.agg #[(.string ⟨#[]⟩), (.string ⟨#[]⟩), (.int .i64 0)]) 40 rfl Try.underlying29 info62 rfl (by decide) (by decide) u8 t ⟨⟨q0, q1⟩, q⟩ [.string q0, .string q1, .int .i64 q] (fun _ => True) (fun _ => False) rfl ?aX ?aP (fun _ hk => hk.elim) (fun _ _ => trivial) ?aO ?aB ?aS ?aL ?_; (case aX => rfl); (case aP => exact k62_mkM _ _ _ ⟨⟨q0, q1⟩, q⟩); (case aO => exact HT.out); (case aB => exact HB.out); (case aS => exact HB.out.size); (case aL => exact HLN.out); intro v9 w9 ho hb9 hg9 _; have HR9 := Aside0.mk ho; have HB9 := Aside0.mk hb9; have HP9 := Aside0.mk (Kd.R_over' HP.out (Kd.R_typed HT.out) (by decide) hg9); clear ho hb9 hg9)
              go_roundg (pr.length - (x + 1))
              case measure => omega
              case rel => exact ⟨x + 1, t ++ [⟨⟨q0, q1⟩, q⟩], by go_num, by omega, HA2, HR9, HP9, HB9⟩
            · exfalso
              rw [List.drop_eq_nil_of_le (by omega), tear_Parts.tell, if_pos hq0] at hA
              cases hA
          · have hd2 : decide (0 < q) = false := decide_eq_false (by omega)
            have hA2 : tear_Parts.tell (l0.drop (x + 1)) (pr.drop (x + 1)) t = some tt := by
              by_cases hl : x < l0.length
              · rw [List.drop_eq_getElem_cons hl, tear_Parts.tell, if_neg hq0] at hA
                exact hA
              · rw [List.drop_eq_nil_of_le (by omega), tear_Parts.tell, if_neg hq0] at hA
                rw [List.drop_eq_nil_of_le (by omega)]
                exact hA
            have HA2 := Aside0.mk hA2
            clear hA hA2 hq0
            go_wp2
            go_roundg (pr.length - (x + 1))
            case measure => omega
            case rel => exact ⟨x + 1, t, by go_num, by omega, HA2, HT, HP, HB⟩
        · have hxe : x = pr.length := by omega
          have hA := HA.out
          rw [show pr.drop x = [] from List.drop_eq_nil_of_le (by omega)] at hA
          have ht : t = tt := by
            cases hd : l0.drop x with
            | nil => rw [hd, tear_Parts.tell] at hA; exact Option.some.inj hA
            | cons a b => rw [hd, tear_Parts.tell] at hA; exact Option.some.inj hA
          subst ht
          have hd1 : decide ((x : Int) < (pr.length : Int)) = false := decide_eq_false (by omega)
          clear hA HA
          go_wp2
          go_ret2
          exact ⟨_, rfl, HT.out, HB.out⟩

/-! ### api_Position: function 31 -/
-- NEEDS
/-- A clone holds what was cloned. -/
def api_Position.f (l0 : List S52) : Option (List S52) := if l0.length * 56 ≤ 140737488355328 then some l0 else none
set_option maxHeartbeats 800000 in
set_option maxRecDepth 100000 in
theorem api_Position.calls (A0 : Option Addr) (c0 : Nat) (l0 : List (S52)) (r : List (S52)) (w : World) (hr0 : Kd.C k52 w A0 l0.length l0) (hc0 : l0.length ≤ c0) (h : api_Position.f l0 = some r) :
    Calls Try.prog 31 #[.slice A0 l0.length c0] w fun e w' => ∃ v0_ : Value, e = .returned (v0_) ∧ Kd.R k52 52 w' w.heap.size (fun _ => True) v0_ r ∧ Below w.heap.size w w' := by
  unfold api_Position.f at h
  split at h
  case isFalse => cases h
  rename_i h'
  obtain rfl := Option.some.inj h
  clear h
  have h := h'
  clear h'
  have HR0 := Aside0.mk hr0
  have HC0 := Aside0.mk hc0
  have HB := Aside0.mk (Below.refl w.heap.size w)
  cases A0 with
  | none =>
    have hl : l0.length = 0 := by
      rcases Nat.eq_zero_or_pos l0.length with h0 | h0
      · exact h0
      · obtain ⟨ad, h, _⟩ := hr0.2.2 h0
        cases h
    obtain rfl : l0 = [] := List.eq_nil_of_length_eq_zero hl
    clear hr0 hc0 h hl
    have hnil := fun (W : World) (a : Option Addr) (n c : Nat) => Lib.run_eql_slice_nil W 56 52 a n c 0 0 Try.underlying56
    go_enter Try.func31, Try.ntmps31
    go_wp2
    go_ret
    exact ⟨_, rfl, Kd.R_nil _ _ _ _ _, HB.out⟩
  | some ad =>
    clear hr0 hc0
    have hnil := fun (W : World) (a : Option Addr) (n c : Nat) => Lib.run_eql_slice_nil W 56 52 a n c 0 0 Try.underlying56
    go_enter Try.func31, Try.ntmps31
    go_wp2_with ((with_reducible refine gate_builtin (b := .append) (xs := #[.tmp 5, .tmp 6]) rfl ?_); at_builtin; refine Kd.R_append_rows k52 (Rr := k52.K w) (w0 := w) w.heap.size rfl (.tmp 5) (.tmp 6) 56 52 (.agg #[(.string ⟨#[]⟩), (.int .i64 0), (.int .i64 0), (.int .i64 0), (.int .i64 0), (.int .i64 0)]) 56 rfl Try.underlying56 info52 rfl (by decide) (by decide) _ [] l0 (some ad) l0.length c0 (fun _ => True) (fun _ => False) rfl rfl ?c1 ?c2 ?c3 (fun _ h => h.elim) (fun _ _ => trivial) ?c6 ?c7 ?c8 ?c9)
    case c1 => exact ⟨fun _ _ => trivial, [], World.ownsRow_lit (base := w.heap.size) (e := 52) (size := k52.sz) w #[] 0 (Nat.le_refl _) (by decide) (by simp), Reps.none _ _⟩
    case c2 => exact ReadsRow.imp_ HR0.out (below_alloc (Below.refl _ _) _) (fun _ _ h => h)
    case c3 => intro x cs h; rw [k52_open h]; exact k52_mkM _ _ _ _
    case c6 => exact below_alloc (Below.refl _ _) _
    case c7 => simp
    case c8 => simpa using h
    case c9 =>
      intro v1 w1 hr hb _ _
      have HR := Aside0.mk hr
      have HB1 := Aside0.mk hb
      clear hr hb
      go_wp2
      go_ret
      exact ⟨_, rfl, HR.out, HB1.out⟩

end Go.Proofs.Ytjmkdmbgldcleaa.PTearWorth
