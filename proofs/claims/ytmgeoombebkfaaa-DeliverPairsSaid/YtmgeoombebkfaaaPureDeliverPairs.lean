/- Who delivers to whom is what the document says: the law, as a statement over numbers and lists. -/
import Derived.Test.YtmgeoombebkfaaaArgDeliverPairs
namespace Go.Proofs.Ytmgeoombebkfaaa.Pure
set_option linter.unusedSimpArgs false
set_option linter.unusedVariables false
open Go.RowKit Go.Proofs.Ytmgeoombebkfaaa.PDeliverPairs Go.Proofs.Ytmgeoombebkfaaa.Opens Go.Proofs.YtmgeoombebkfaaaW.PrintWords Go.Proofs.YtmgeoombebkfaaaW.PrintLast
/-- Comes to r, at all large numbers of rounds. -/
def Ev {α : Type} (g : Nat → Option α) (r : α) : Prop := ∃ K, ∀ k, K ≤ k → g k = some r
theorem Ev.shift {α : Type} {g : Nat → Option α} {r : α} (h : Ev (fun k => g (k + 1)) r) : Ev g r := by
  obtain ⟨K, h⟩ := h
  refine ⟨K + 1, fun k hk => ?_⟩
  obtain ⟨m, rfl⟩ : ∃ m, k = m + 1 := ⟨k - 1, by omega⟩
  exact h m (by omega)
theorem Ev.val {α : Type} (r : α) : Ev (fun _ => some r) r := ⟨0, fun _ _ => rfl⟩
theorem Ev.bind {α β : Type} {g : Nat → Option α} {f : Nat → α → Option β} {x : α} {r : β} (h : Ev g x) (h' : Ev (fun k => f k x) r) : Ev (fun k => (g k).bind (f k)) r := by
  obtain ⟨K, h⟩ := h
  obtain ⟨K', h'⟩ := h'
  exact ⟨max K K', fun k hk => by show (g k).bind (f k) = some r; rw [h k (by omega)]; exact h' k (by omega)⟩
theorem Ev.get {α : Type} {g : Nat → Option α} {r : α} (h : Ev g r) : ∃ k, g k = some r := by
  obtain ⟨K, h⟩ := h
  exact ⟨K, h K (Nat.le_refl _)⟩
theorem Ev.of {α : Type} {g : Nat → Option α} {r : α} {k0 : Nat} (h : g k0 = some r) (hm : ∀ k, LeO (g k) (g (k + 1))) : Ev g r := ⟨k0, fun _ hk => at_rounds hm hk h⟩
theorem Ev.pos {α : Type} {c : Prop} [Decidable c] {a b : Nat → Option α} {r : α} (hc : c) (h : Ev a r) : Ev (fun k => if c then a k else b k) r := by
  obtain ⟨K, h⟩ := h
  exact ⟨K, fun k hk => by show (if c then a k else b k) = some r; rw [if_pos hc]; exact h k hk⟩
theorem Ev.neg {α : Type} {c : Prop} [Decidable c] {a b : Nat → Option α} {r : α} (hc : ¬ c) (h : Ev b r) : Ev (fun k => if c then a k else b k) r := by
  obtain ⟨K, h⟩ := h
  exact ⟨K, fun k hk => by show (if c then a k else b k) = some r; rw [if_neg hc]; exact h k hk⟩
/-- Both ways, each where it is taken. -/
theorem Ev.ite {α : Type} {c : Prop} [Decidable c] {a b : Nat → Option α} {r : α} (h : c → Ev a r) (h' : ¬ c → Ev b r) : Ev (fun k => if c then a k else b k) r := by
  by_cases hc : c
  · exact Ev.pos hc (h hc)
  · exact Ev.neg hc (h' hc)
theorem wrap_small {n : Int} (h0 : -9223372036854775808 ≤ n) (h1 : n ≤ 9223372036854775807) : wrap64 n = n := by unfold wrap64; omega
/-- Both ways, each with its own end. -/
theorem Ev.both {α : Type} {c : Prop} [Decidable c] {a b : Nat → Option α} {r s : α} (h : c → Ev a r) (h' : ¬ c → Ev b s) : Ev (fun k => if c then a k else b k) (if c then r else s) := by
  by_cases hc : c
  · rw [if_pos hc]; exact Ev.pos hc (h hc)
  · rw [if_neg hc]; exact Ev.neg hc (h' hc)
theorem Ev.valOf {α : Type} {r s : α} (h : s = r) : Ev (fun _ => some r) s := by subst h; exact Ev.val _
/-- The first fault of a list, each element looked at beside the one ahead of it. -/
def scan {α : Type} (f : Option α → α → Int) : Option α → List α → Int
  | _, [] => 0
  | q, p :: r => if f q p = 0 then scan f (some p) r else f q p
/-- The element ahead of a place. -/
def prevAt {α : Type} (l : List α) (i : Nat) : Option α := if i = 0 then none else l[i - 1]?
theorem prevAt_succ {α : Type} (l : List α) (i : Nat) (h : i < l.length) : prevAt l (i + 1) = some l[i] := by
  simp [prevAt, h]
theorem prevAt_pos {α : Type} (l : List α) (i : Nat) (h0 : 0 < i) (h : i - 1 < l.length) : prevAt l i = some l[i - 1] := by
  rw [prevAt, if_neg (by omega), List.getElem?_eq_getElem h]
theorem scan_cons {α : Type} (f : Option α → α → Int) (q : Option α) (p : α) (r : List α) : scan f q (p :: r) = if f q p = 0 then scan f (some p) r else f q p := rfl
/-- All lots of a side. -/
def qs (l : List S60) : Int := (l.map (·.f1)).sum
/-- Lots of both sides against one another. -/
def PP : List S60 → List S60 → List S56
  | x :: X, y :: Y =>
    if x.f1 < y.f1 then ⟨y.f0, x.f0, x.f1⟩ :: PP X (⟨y.f0, y.f1 - x.f1⟩ :: Y)
    else if y.f1 < x.f1 then ⟨y.f0, x.f0, y.f1⟩ :: PP (⟨x.f0, x.f1 - y.f1⟩ :: X) Y
    else ⟨y.f0, x.f0, y.f1⟩ :: PP X Y
  | [], _ => []
  | _ :: _, [] => []
termination_by X Y => X.length + Y.length
theorem PP_nil (Y : List S60) : PP [] Y = [] := by rw [PP]
theorem PP_nil2 (X : List S60) : PP X [] = [] := by cases X <;> rw [PP]
theorem PP_lt {x y : S60} (h : x.f1 < y.f1) (X Y : List S60) : PP (x :: X) (y :: Y) = ⟨y.f0, x.f0, x.f1⟩ :: PP X (⟨y.f0, y.f1 - x.f1⟩ :: Y) := by rw [PP, if_pos h]
theorem PP_gt {x y : S60} (h : y.f1 < x.f1) (X Y : List S60) : PP (x :: X) (y :: Y) = ⟨y.f0, x.f0, y.f1⟩ :: PP (⟨x.f0, x.f1 - y.f1⟩ :: X) Y := by rw [PP, if_neg (by omega), if_pos h]
theorem PP_eq {x y : S60} (h : x.f1 = y.f1) (X Y : List S60) : PP (x :: X) (y :: Y) = ⟨y.f0, x.f0, y.f1⟩ :: PP X Y := by rw [PP, if_neg (by omega), if_neg (by omega)]
theorem qs_cons (x : S60) (l : List S60) : qs (x :: l) = x.f1 + qs l := by simp [qs]
theorem qs_nil : qs [] = 0 := rfl
/-- Each has lots, and not too many. -/
def Lots (l : List S60) : Prop := ∀ x ∈ l, 0 < x.f1 ∧ x.f1 ≤ 1048576
theorem Lots.tl {x : S60} {l : List S60} (h : Lots (x :: l)) : Lots l := fun y hy => h y (List.mem_cons_of_mem _ hy)
theorem Lots.hd {x : S60} {l : List S60} (h : Lots (x :: l)) : 0 < x.f1 ∧ x.f1 ≤ 1048576 := h x List.mem_cons_self
theorem Lots.mk {x : S60} {l : List S60} (h : Lots l) (hx : 0 < x.f1 ∧ x.f1 ≤ 1048576) : Lots (x :: l) := fun y hy => by
  rcases List.mem_cons.mp hy with e | e
  · rw [e]; exact hx
  · exact h y e
theorem Lots.nn {l : List S60} (h : Lots l) : 0 ≤ qs l := by
  induction l with
  | nil => rw [qs_nil]; omega
  | cons x l ih =>
    rw [qs_cons]
    have := h.hd
    have := ih h.tl
    omega
theorem Lots.nz {x : S60} {l : List S60} (h : Lots (x :: l)) : 0 < qs (x :: l) := by
  rw [qs_cons]
  have := h.hd
  have := h.tl.nn
  omega
theorem Lots.of_drop {l : List S60} (h : Lots l) (i : Nat) : Lots (l.drop i) := fun x hx => h x (List.mem_of_mem_drop hx)
theorem PP_len (n : Nat) : ∀ X Y : List S60, X.length + Y.length ≤ n → (PP X Y).length ≤ n := by
  induction n with
  | zero =>
    intro X Y h
    rw [List.length_eq_zero_iff.mp (by omega : X.length = 0), PP_nil]
    exact Nat.le_refl _
  | succ n ih =>
    intro X Y h
    cases X with
    | nil => rw [PP_nil]; exact Nat.zero_le _
    | cons x X =>
      cases Y with
      | nil => rw [PP_nil2]; exact Nat.zero_le _
      | cons y Y =>
        rw [List.length_cons, List.length_cons] at h
        by_cases h1 : x.f1 < y.f1
        · rw [PP_lt h1, List.length_cons]
          exact Nat.succ_le_succ (ih _ _ (by rw [List.length_cons]; omega))
        · by_cases h2 : y.f1 < x.f1
          · rw [PP_gt h2, List.length_cons]
            exact Nat.succ_le_succ (ih _ _ (by rw [List.length_cons]; omega))
          · rw [PP_eq (by omega), List.length_cons]
            exact Nat.succ_le_succ (ih _ _ (by omega))
/-- What is left of one side. -/
def rem52 (L : List S60) (n : Nat) (room : Int) : List S60 := if room = 0 then L.drop n else ⟨(rd_T60 L ((n - 1 : Nat) : Int)).f0, room⟩ :: L.drop n
theorem rd_pt (l : List S60) (i : Nat) (h : i < l.length) : rd_T60 l (i : Int) = l[i] := by simp [rd_T60, h]
theorem pin_ev (L : List S60) (hL : Lots L) (a : S54) (m : Nat) : ∀ (left : Int) (n : Nat) (room : Int), 0 < left → left ≤ 1048576 → 0 ≤ room → room ≤ 1048576 → n ≤ L.length → (0 < room → 1 ≤ n) → left ≤ qs (rem52 L n room) → (rem52 L n room).length < m →
    ∃ z n' room', Ev (fun k => pairs_in L a k left n room) (z, n', room') ∧ 0 ≤ room' ∧ room' ≤ 1048576 ∧ n' ≤ L.length ∧ (0 < room' → 1 ≤ n') ∧ qs (rem52 L n' room') = qs (rem52 L n room) - left ∧ ∀ Y, PP (rem52 L n room) (⟨a, left⟩ :: Y) = z ++ PP (rem52 L n' room') Y := by
  induction m with
  | zero => intro left n room _ _ _ _ _ _ _ h; exact absurd h (Nat.not_lt_zero _)
  | succ m ih =>
    have key : ∀ (left : Int) (n : Nat) (room : Int), 0 < left → left ≤ 1048576 → 0 < room → room ≤ 1048576 → n ≤ L.length → 1 ≤ n → left ≤ qs (rem52 L n room) → (rem52 L n room).length < m + 1 →
        ∃ z n' room', Ev (fun k => (pairs_in L a k (wrap64 (left - (if room < left then room else left))) n (wrap64 (room - (if room < left then room else left)))).bind fun z => some ((⟨a, (rd_T60 L ((n - 1 : Nat) : Int)).f0, (if room < left then room else left)⟩ : S56) :: z.1, z.2)) (z, n', room') ∧ 0 ≤ room' ∧ room' ≤ 1048576 ∧ n' ≤ L.length ∧ (0 < room' → 1 ≤ n') ∧ qs (rem52 L n' room') = qs (rem52 L n room) - left ∧ ∀ Y, PP (rem52 L n room) (⟨a, left⟩ :: Y) = z ++ PP (rem52 L n' room') Y := by
      intro left n room h1 h2 h3 h4 h5 h6 h7 h8
      have e0 : rem52 L n room = ⟨(rd_T60 L ((n - 1 : Nat) : Int)).f0, room⟩ :: L.drop n := if_neg (by omega)
      rw [e0] at h7 h8 ⊢
      rw [qs_cons] at h7 ⊢
      simp only at h7 ⊢
      by_cases c1 : room < left
      · rw [if_pos c1, show wrap64 (left - room) = left - room by unfold wrap64; omega, show wrap64 (room - room) = 0 by unfold wrap64; omega]
        have e1 : rem52 L n 0 = L.drop n := if_pos rfl
        obtain ⟨z, n', room', k1, k2, k3, k4, k5, k6, k7⟩ := ih (left - room) n 0 (by omega) (by omega) (by omega) (by omega) h5 (by omega) (by rw [e1]; omega) (by rw [e1]; rw [List.length_cons] at h8; omega)
        refine ⟨_ :: z, n', room', Ev.bind k1 (Ev.val _), k2, k3, k4, k5, by rw [k6, e1]; omega, fun Y => ?_⟩
        rw [PP_lt c1, List.cons_append, ← k7 Y, e1]
      · rw [if_neg c1, show wrap64 (left - left) = 0 by unfold wrap64; omega, show wrap64 (room - left) = room - left by unfold wrap64; omega]
        have hz : Ev (fun k => pairs_in L a k 0 n (room - left)) ([], n, room - left) := by
          refine Ev.shift ?_
          simp only [pairs_in]
          exact Ev.neg (by omega) (Ev.val _)
        refine ⟨[_], n, room - left, Ev.bind hz (Ev.val _), by omega, by omega, h5, fun _ => h6, ?_, fun Y => ?_⟩
        · by_cases c2 : room = left
          · rw [show rem52 L n (room - left) = L.drop n from if_pos (by omega)]; omega
          · rw [show rem52 L n (room - left) = ⟨(rd_T60 L ((n - 1 : Nat) : Int)).f0, room - left⟩ :: L.drop n from if_neg (by omega), qs_cons]
            show room - left + _ = _
            omega
        · by_cases c2 : room = left
          · rw [show rem52 L n (room - left) = L.drop n from if_pos (by omega), PP_eq c2]; rfl
          · rw [show rem52 L n (room - left) = ⟨(rd_T60 L ((n - 1 : Nat) : Int)).f0, room - left⟩ :: L.drop n from if_neg (by omega), PP_gt (by show left < room; omega)]; rfl
    intro left n room h1 h2 h3 h4 h5 h6 h7 h8
    by_cases c0 : room = 0
    · subst c0
      have e1 : rem52 L n 0 = L.drop n := if_pos rfl
      rw [e1] at h7 h8 ⊢
      have hlt : n < L.length := by
        rcases Nat.lt_or_ge n L.length with c | c
        · exact c
        · rw [List.drop_eq_nil_of_le c, qs_nil] at h7; omega
      have hd := hL.of_drop n
      rw [List.drop_eq_getElem_cons hlt] at h7 h8 hd ⊢
      have hq := hd.hd
      have e2 : rem52 L (n + 1) L[n].f1 = L[n] :: L.drop (n + 1) := by
        rw [rem52, if_neg (by omega), Nat.add_sub_cancel, rd_pt L n hlt]
      obtain ⟨z, n', room', k1, k2⟩ := key left (n + 1) L[n].f1 h1 h2 hq.1 hq.2 (by omega) (by omega) (by rw [e2]; exact h7) (by rw [e2]; exact h8)
      rw [e2] at k2
      refine ⟨z, n', room', ?_, k2⟩
      refine Ev.shift ?_
      simp only [pairs_in]
      refine Ev.pos h1 ?_
      simp only [if_pos hlt, ↓reduceIte, rd_pt L n hlt, Option.bind_some]
      exact Ev.pos (Nat.succ_pos n) k1
    · obtain ⟨z, n', room', k1, k2⟩ := key left n room h1 h2 (by omega) h4 h5 (h6 (by omega)) h7 h8
      refine ⟨z, n', room', ?_, k2⟩
      refine Ev.shift ?_
      simp only [pairs_in]
      refine Ev.pos h1 ?_
      simp only [if_neg c0, Option.bind_some]
      exact Ev.pos (by have := h6 (by omega); omega) k1
theorem pgo_ev (L : List S60) (hL : Lots L) (l : List S60) (hl : Lots l) : ∀ (n : Nat) (room : Int), 0 ≤ room → room ≤ 1048576 → n ≤ L.length → (0 < room → 1 ≤ n) → qs (rem52 L n room) = qs l →
    Ev (fun k => pairs_go k L l n room) (PP (rem52 L n room) l) := by
  induction l with
  | nil =>
    intro n room _ _ _ _ _
    rw [PP_nil2]
    simp only [pairs_go]
    exact Ev.val _
  | cons s r ih =>
    intro n room h1 h2 h3 h4 h5
    have hs := hl.hd
    have hn := hl.tl.nn
    rw [qs_cons] at h5
    obtain ⟨z, n', room', k1, k2, k3, k4, k5, k6, k7⟩ := pin_ev L hL s.f0 _ s.f1 n room hs.1 hs.2 h1 h2 h3 h4 (by omega) (Nat.lt_succ_self _)
    rw [k7 r]
    simp only [pairs_go]
    exact Ev.bind k1 (Ev.bind (ih hl.tl n' room' k2 k3 k4 k5 (by omega)) (Ev.val _))
/-- May these lots be? -/
def ltB (l : List S60) : Bool := l.all (fun x => decide (1 ≤ x.f1 ∧ x.f1 ≤ 1048576))
theorem ltB_iff (l : List S60) : ltB l = true ↔ Lots l := by
  unfold ltB Lots
  rw [List.all_eq_true]
  constructor
  · intro h x hx
    have := of_decide_eq_true (h x hx)
    omega
  · intro h x hx
    have := h x hx
    exact decide_eq_true (by omega)
theorem ltB_cons (x : S60) (l : List S60) : ltB (x :: l) = (decide (1 ≤ x.f1 ∧ x.f1 ≤ 1048576) && ltB l) := rfl
theorem lots_le {l : List S60} (h : Lots l) : qs l ≤ 1048576 * (l.length : Int) := by
  induction l with
  | nil => rw [qs_nil]; simp
  | cons x l ih =>
    rw [qs_cons, List.length_cons]
    have := h.hd
    have := ih h.tl
    omega
theorem lots52L (l : List S60) (hl : l.length ≤ 1024) (n : Nat) : ∀ (i : Nat) (a : Int), l.length - i = n → i ≤ l.length → 0 ≤ a → a ≤ 1048576 * (i : Int) →
    Ev (fun k => deliver_lots.l0 k a l (l.length : Int) (i : Int)) (if ltB (l.drop i) = true then (a + qs (l.drop i), 0) else (0, 18)) := by
  induction n with
  | zero =>
    intro i a hi hle h0 h1
    refine Ev.shift ?_
    simp only [deliver_lots.l0]
    rw [List.drop_eq_nil_of_le (by omega), qs_nil, Int.add_zero]
    exact Ev.neg (by omega) (Ev.val _)
  | succ n ih =>
    intro i a hi hle h0 h1
    have hlt : i < l.length := by omega
    have hw : wrap64 ((i : Int) + 1) = ((i + 1 : Nat) : Int) := by unfold wrap64; omega
    refine Ev.shift ?_
    simp only [deliver_lots.l0, rd_pt l i hlt, hw]
    rw [List.drop_eq_getElem_cons hlt, ltB_cons, qs_cons]
    refine Ev.pos (by omega) (Ev.pos (by omega) (Ev.pos (by omega) ?_))
    by_cases c1 : l[i].f1 < 1
    · rw [decide_eq_false (by omega), Bool.false_and, if_neg (by decide)]
      exact Ev.pos c1 (Ev.val _)
    · by_cases c2 : l[i].f1 > 1048576
      · rw [decide_eq_false (by omega), Bool.false_and, if_neg (by decide)]
        exact Ev.neg c1 (Ev.pos c2 (Ev.val _))
      · rw [decide_eq_true (by omega), Bool.true_and, wrap_small (by omega) (by omega)]
        have := ih (i + 1) (a + l[i].f1) (by omega) (by omega) (by omega) (by omega)
        rw [Int.add_assoc] at this
        exact Ev.neg c1 (Ev.neg c2 this)
theorem lots52_ev (l : List S60) (hl : l.length ≤ 1024) : Ev (fun k => deliver_lots.f k l) (if ltB l = true then (qs l, 0) else (0, 18)) := by
  have := lots52L l hl l.length 0 0 (by omega) (by omega) (by omega) (by omega)
  rw [List.drop_zero, Int.zero_add] at this
  exact this
/-- Pairs, or why there are none. -/
def prV (L R : List S60) : List S56 × Int :=
  if L.length > 1024 ∨ R.length > 1024 then ([], 8) else if ltB L = true ∧ ltB R = true then (if qs L = qs R then (PP L R, 0) else ([], 31)) else ([], 18)
theorem prs_ev (L R : List S60) : Ev (fun k => deliver_Pairs.f k L R) (prV L R) := by
  unfold prV
  simp only [deliver_Pairs.f]
  by_cases c0 : L.length > 1024 ∨ R.length > 1024
  · rw [if_pos c0]
    exact Ev.pos c0 (Ev.val _)
  · rw [if_neg c0]
    refine Ev.neg c0 ?_
    have hL := lots52_ev L (by omega)
    have hR := lots52_ev R (by omega)
    by_cases c1 : ltB L = true
    · rw [if_pos c1] at hL
      refine Ev.bind hL (Ev.pos rfl ?_)
      by_cases c2 : ltB R = true
      · rw [if_pos c2] at hR
        rw [if_pos ⟨c1, c2⟩]
        refine Ev.bind hR (Ev.pos rfl ?_)
        by_cases c3 : qs L = qs R
        · rw [if_pos c3]
          refine Ev.pos c3 ?_
          have h := pgo_ev L ((ltB_iff L).mp c1) R ((ltB_iff R).mp c2) 0 0 (by omega) (by omega) (by omega) (by omega) (by rw [rem52, if_pos rfl, List.drop_zero]; exact c3)
          rw [rem52, if_pos rfl, List.drop_zero] at h
          have hlen := PP_len (L.length + R.length) L R (by omega)
          exact Ev.bind h (Ev.pos (by omega) (Ev.val _))
        · rw [if_neg c3]
          exact Ev.neg c3 (Ev.val _)
      · rw [if_neg c2] at hR
        rw [if_neg (fun h => c2 h.2)]
        exact Ev.bind hR (Ev.neg (by decide) (Ev.val _))
    · rw [if_neg c1] at hL
      rw [if_neg (fun h => c1 h.1)]
      exact Ev.bind hL (Ev.neg (by decide) (Ev.val _))
theorem wsc (i : Nat) (h : i < 1000000) : wrap64 ((i : Int) + 1) = ((i + 1 : Nat) : Int) := by unfold wrap64; omega
/-- A pair of the program as one of the document. -/
def bk (x : S56) : S80 := ⟨x.f0, x.f1, x.f2⟩
theorem lots52rL (l : List S60) (hl : l.length ≤ 1024) (n : Nat) : ∀ (i : Nat) (a : Int), l.length - i = n → i ≤ l.length → 0 ≤ a → a ≤ 1048576 * (i : Int) →
    Ev (fun k => contangoref52_lots.l0 k l a (i : Int)) (if ltB (l.drop i) = true then a + qs (l.drop i) else -1) := by
  induction n with
  | zero =>
    intro i a hi hle h0 h1
    refine Ev.shift ?_
    simp only [contangoref52_lots.l0]
    rw [List.drop_eq_nil_of_le (by omega), qs_nil, Int.add_zero]
    exact Ev.neg (by omega) (Ev.val _)
  | succ n ih =>
    intro i a hi hle h0 h1
    have hlt : i < l.length := by omega
    have hw : wrap64 ((i : Int) + 1) = ((i + 1 : Nat) : Int) := by unfold wrap64; omega
    refine Ev.shift ?_
    simp only [contangoref52_lots.l0, rd_pt l i hlt, hw]
    rw [List.drop_eq_getElem_cons hlt, ltB_cons, qs_cons]
    refine Ev.pos (by omega) (Ev.pos (by omega) ?_)
    by_cases c1 : l[i].f1 < 1
    · rw [decide_eq_false (by omega), Bool.false_and, if_neg (by decide)]
      exact Ev.pos c1 (Ev.val _)
    · by_cases c2 : l[i].f1 > 1048576
      · rw [decide_eq_false (by omega), Bool.false_and, if_neg (by decide)]
        exact Ev.neg c1 (Ev.pos c2 (Ev.val _))
      · rw [decide_eq_true (by omega), Bool.true_and, wrap_small (by omega) (by omega)]
        have := ih (i + 1) (a + l[i].f1) (by omega) (by omega) (by omega) (by omega)
        rw [Int.add_assoc] at this
        exact Ev.neg c1 (Ev.neg c2 this)
theorem lots52r_ev (l : List S60) (hl : l.length ≤ 1024) : Ev (fun k => contangoref52_lots.f k l) (if ltB l = true then qs l else -1) := by
  have := lots52rL l hl l.length 0 0 (by omega) (by omega) (by omega) (by omega)
  rw [List.drop_zero, Int.zero_add] at this
  exact this
/-- What is left of a side when the first one has done some. -/
def cut52 (l : List S60) (t : Int) : List S60 := match l with | [] => [] | x :: r => ⟨x.f0, x.f1 - t⟩ :: r
theorem cut52_zero (l : List S60) : cut52 l 0 = l := by
  cases l with
  | nil => rfl
  | cons x r => rw [cut52, Int.sub_zero]
theorem prs52rL (L R : List S60) (hL : Lots L) (hR : Lots R) (bL : L.length ≤ 1024) (bR : R.length ≤ 1024) (n : Nat) : ∀ (i j : Nat) (te fr : Int) (out : List S80), (L.length - i) + (R.length - j) = n → i ≤ L.length → j ≤ R.length → 0 ≤ te → 0 ≤ fr → te ≤ 1048576 → fr ≤ 1048576 → (∀ h : i < L.length, te < L[i].f1) → (∀ h : j < R.length, fr < R[j].f1) → out.length + n ≤ 4096 →
    Ev (fun k => contangoref52_Pairs.l0 k L R out (i : Int) (j : Int) te fr) (out ++ (PP (cut52 (L.drop i) te) (cut52 (R.drop j) fr)).map bk, 0) := by
  induction n using Nat.strongRecOn with
  | _ n ih =>
    intro i j te fr out hn hi hj t0 f0 t1 f1 ht hf ho
    refine Ev.shift ?_
    simp only [contangoref52_Pairs.l0]
    by_cases c1 : i < L.length
    · refine Ev.pos (by omega) ?_
      by_cases c2 : j < R.length
      · rw [decide_eq_true (by omega)]
        refine Ev.shift ?_
        simp only [contangoref52_Pairs.j3, rd_pt L i c1, rd_pt R j c2]
        have a1 := hL L[i] (List.getElem_mem c1)
        have a2 := hR R[j] (List.getElem_mem c2)
        have a3 := ht c1
        have a4 := hf c2
        have nL : ∀ h : i + 1 < L.length, 0 < L[i + 1].f1 := fun h => (hL _ (List.getElem_mem h)).1
        have nR : ∀ h : j + 1 < R.length, 0 < R[j + 1].f1 := fun h => (hR _ (List.getElem_mem h)).1
        rw [List.drop_eq_getElem_cons c1, List.drop_eq_getElem_cons c2, cut52, cut52, wsc i (by omega), wsc j (by omega)]
        clear ht hf
        obtain ⟨x, hx⟩ : ∃ x, x = L[i] := ⟨_, rfl⟩
        obtain ⟨y, hy⟩ : ∃ y, y = R[j] := ⟨_, rfl⟩
        rw [← hx] at a1 a3
        rw [← hy] at a2 a4
        rw [← hx, ← hy]
        refine Ev.pos trivial (Ev.pos (by omega) (Ev.pos (by omega) (Ev.pos (by omega) (Ev.pos (by omega) (Ev.pos (by omega) ?_)))))
        simp only [Option.bind_some]
        rw [wrap_small (n := x.f1 - te) (by omega) (by omega), wrap_small (n := y.f1 - fr) (by omega) (by omega)]
        by_cases d1 : x.f1 - te < y.f1 - fr
        · rw [show mn (x.f1 - te) (y.f1 - fr) = x.f1 - te from if_neg (by omega), wrap_small (n := te + (x.f1 - te)) (by omega) (by omega), wrap_small (n := fr + (x.f1 - te)) (by omega) (by omega)]
          refine Ev.pos (by omega) (Ev.neg (by omega) ?_)
          have := ih (n - 1) (by omega) (i + 1) j 0 (fr + (x.f1 - te)) (out ++ [⟨y.f0, x.f0, x.f1 - te⟩]) (by omega) (by omega) (by omega) (by omega) (by omega) (by omega) (by omega) nL (fun _ => by rw [← hy]; omega) (by rw [List.length_append, List.length_singleton]; omega)
          rw [cut52_zero, List.drop_eq_getElem_cons c2, cut52, ← hy, show y.f1 - (fr + (x.f1 - te)) = y.f1 - fr - (x.f1 - te) by omega, List.append_assoc] at this
          rw [PP_lt (by exact d1), List.map_cons]
          exact this
        · by_cases d2 : y.f1 - fr < x.f1 - te
          · rw [show mn (x.f1 - te) (y.f1 - fr) = y.f1 - fr from if_pos d2, wrap_small (n := te + (y.f1 - fr)) (by omega) (by omega), wrap_small (n := fr + (y.f1 - fr)) (by omega) (by omega)]
            refine Ev.neg (by omega) (Ev.pos (by omega) ?_)
            have := ih (n - 1) (by omega) i (j + 1) (te + (y.f1 - fr)) 0 (out ++ [⟨y.f0, x.f0, y.f1 - fr⟩]) (by omega) (by omega) (by omega) (by omega) (by omega) (by omega) (by omega) (fun _ => by rw [← hx]; omega) nR (by rw [List.length_append, List.length_singleton]; omega)
            rw [cut52_zero, List.drop_eq_getElem_cons c1, cut52, ← hx, show x.f1 - (te + (y.f1 - fr)) = x.f1 - te - (y.f1 - fr) by omega, List.append_assoc] at this
            rw [PP_gt (by exact d2), List.map_cons]
            exact this
          · rw [show mn (x.f1 - te) (y.f1 - fr) = x.f1 - te from if_neg d2, wrap_small (n := te + (x.f1 - te)) (by omega) (by omega), wrap_small (n := fr + (x.f1 - te)) (by omega) (by omega)]
            refine Ev.pos (by omega) (Ev.pos (by omega) ?_)
            have := ih (n - 2) (by omega) (i + 1) (j + 1) 0 0 (out ++ [⟨y.f0, x.f0, x.f1 - te⟩]) (by omega) (by omega) (by omega) (by omega) (by omega) (by omega) (by omega) nL nR (by rw [List.length_append, List.length_singleton]; omega)
            rw [cut52_zero, cut52_zero, List.append_assoc] at this
            rw [PP_eq (by show x.f1 - te = y.f1 - fr; omega), List.map_cons, show y.f1 - fr = x.f1 - te by omega]
            exact this
      · rw [decide_eq_false (by omega)]
        refine Ev.shift ?_
        simp only [contangoref52_Pairs.j3]
        rw [show R.drop j = [] from List.drop_eq_nil_of_le (by omega), show cut52 [] fr = [] from rfl, PP_nil2, List.map_nil, List.append_nil]
        exact Ev.neg (by decide) (Ev.val _)
    · refine Ev.neg (by omega) ?_
      refine Ev.shift ?_
      simp only [contangoref52_Pairs.j3]
      rw [show L.drop i = [] from List.drop_eq_nil_of_le (by omega), show cut52 [] te = [] from rfl, PP_nil, List.map_nil, List.append_nil]
      exact Ev.neg (by decide) (Ev.val _)
theorem prsr_ev (L R : List S60) : Ev (fun k => contangoref52_Pairs.f k L R) ((prV L R).1.map bk, (prV L R).2) := by
  unfold prV
  have j0 : ∀ b : Bool, b = decide (L.length > 1024 ∨ R.length > 1024) → Ev (fun k => contangoref52_Pairs.j0 k L R b) ((if L.length > 1024 ∨ R.length > 1024 then ([], 8) else if ltB L = true ∧ ltB R = true then (if qs L = qs R then (PP L R, 0) else ([], 31)) else ([], 18) : List S56 × Int).1.map bk, (if L.length > 1024 ∨ R.length > 1024 then ([], 8) else if ltB L = true ∧ ltB R = true then (if qs L = qs R then (PP L R, 0) else ([], 31)) else ([], 18) : List S56 × Int).2) := by
    intro b hb
    refine Ev.shift ?_
    simp only [contangoref52_Pairs.j0]
    by_cases c0 : L.length > 1024 ∨ R.length > 1024
    · rw [if_pos c0]
      exact Ev.pos (by rw [hb]; exact decide_eq_true c0) (Ev.val _)
    · rw [if_neg c0]
      refine Ev.neg (by rw [hb, decide_eq_false c0]; decide) ?_
      have hL := lots52r_ev L (by omega)
      have hR := lots52r_ev R (by omega)
      refine Ev.bind hL (Ev.bind hR ?_)
      have j1 : ∀ b : Bool, b = (!(ltB L && ltB R)) → Ev (fun k => contangoref52_Pairs.j1 k L R (if ltB L = true then qs L else -1) (if ltB R = true then qs R else -1) b) ((if ltB L = true ∧ ltB R = true then (if qs L = qs R then (PP L R, 0) else ([], 31)) else ([], 18) : List S56 × Int).1.map bk, (if ltB L = true ∧ ltB R = true then (if qs L = qs R then (PP L R, 0) else ([], 31)) else ([], 18) : List S56 × Int).2) := by
        intro b hb
        refine Ev.shift ?_
        simp only [contangoref52_Pairs.j1]
        by_cases c1 : ltB L = true ∧ ltB R = true
        · rw [if_pos c1, if_pos c1.1, if_pos c1.2]
          refine Ev.neg (by rw [hb, c1.1, c1.2]; decide) ?_
          by_cases c3 : qs L = qs R
          · rw [if_pos c3]
            refine Ev.pos c3 ?_
            have lL := (ltB_iff L).mp c1.1
            have lR := (ltB_iff R).mp c1.2
            have := prs52rL L R lL lR (by omega) (by omega) _ 0 0 0 0 [] rfl (by omega) (by omega) (by omega) (by omega) (by omega) (by omega) (fun h => (lL _ (List.getElem_mem h)).1) (fun h => (lR _ (List.getElem_mem h)).1) (by rw [List.length_nil]; omega)
            rw [cut52_zero, cut52_zero, List.drop_zero, List.drop_zero, List.nil_append] at this
            exact this
          · rw [if_neg c3]
            exact Ev.neg c3 (Ev.val _)
        · rw [if_neg c1]
          exact Ev.pos (by rw [hb]; revert c1; cases ltB L <;> cases ltB R <;> decide) (Ev.val _)
      by_cases c1 : ltB L = true
      · have := ((ltB_iff L).mp c1).nn
        rw [if_pos c1]
        refine Ev.neg (by omega) ?_
        have h1 := j1 (decide ((if ltB R = true then qs R else -1) < 0)) (by
          by_cases c2 : ltB R = true
          · have := ((ltB_iff R).mp c2).nn
            rw [if_pos c2, decide_eq_false (by omega), c1, c2]; rfl
          · rw [if_neg c2, decide_eq_true (by omega), Bool.eq_false_iff.mpr c2, Bool.and_false]; rfl)
        rw [if_pos c1] at h1
        exact h1
      · rw [if_neg c1]
        refine Ev.pos (by omega) ?_
        have h1 := j1 true (by rw [Bool.eq_false_iff.mpr c1, Bool.false_and]; rfl)
        rw [if_neg c1] at h1
        exact h1
  simp only [contangoref52_Pairs.f]
  by_cases c0 : (L.length : Int) > 1024
  · exact Ev.pos c0 (j0 true (decide_eq_true (.inl (by omega))).symm)
  · refine Ev.neg c0 (j0 _ ?_)
    exact decide_eq_decide.mpr ⟨fun h => .inr (by omega), fun h => by omega⟩
theorem rd_pp (l : List S56) (i : Nat) (h : i < l.length) : rd_T56 l (i : Int) = l[i] := by simp [rd_T56, h]
theorem rd_pr (l : List S80) (i : Nat) (h : i < l.length) : rd_T80 l (i : Int) = l[i] := by simp [rd_T80, h]
theorem back52L (l : List S56) (hl : l.length ≤ 100000) (n : Nat) : ∀ (i : Nat) (t : List S80), l.length - i = n → i ≤ l.length → t.length = i →
    Ev (fun k => contangolaw52_back.l0 k l t (l.length : Int) (i : Int)) (t ++ (l.drop i).map bk) := by
  induction n with
  | zero =>
    intro i t hi hle ht
    refine Ev.shift ?_
    simp only [contangolaw52_back.l0]
    rw [show l.drop i = [] from List.drop_eq_nil_of_le (by omega), List.map_nil, List.append_nil]
    exact Ev.neg (by omega) (Ev.val _)
  | succ n ih =>
    intro i t hi hle ht
    have hlt : i < l.length := by omega
    refine Ev.shift ?_
    simp only [contangolaw52_back.l0, rd_pp l i hlt, wsc i (by omega)]
    rw [List.drop_eq_getElem_cons hlt, List.map_cons]
    refine Ev.pos (by omega) (Ev.pos (by omega) (Ev.pos (by omega) (Ev.pos (by omega) ?_)))
    have := ih (i + 1) (t ++ [bk l[i]]) (by omega) (by omega) (by simp [ht])
    rw [List.append_assoc] at this
    exact this
theorem back52_ev (l : List S56) (hl : l.length ≤ 100000) : Ev (fun k => contangolaw52_back.f k l) (l.map bk) := by
  have := back52L l hl l.length 0 [] (by omega) (by omega) rfl
  rw [List.drop_zero, List.nil_append] at this
  exact this
theorem same52L (l : List S80) (hl : l.length ≤ 100000) (n : Nat) : ∀ i : Nat, l.length - i = n → i ≤ l.length → Ev (fun k => contangoref52_Same.l0 k l l (i : Int)) true := by
  induction n with
  | zero =>
    intro i hi hle
    refine Ev.shift ?_
    simp only [contangoref52_Same.l0]
    exact Ev.neg (by omega) (Ev.val _)
  | succ n ih =>
    intro i hi hle
    refine Ev.shift ?_
    simp only [contangoref52_Same.l0, wsc i (by omega)]
    exact Ev.pos (by omega) (Ev.pos (by omega) (Ev.pos (by omega) (Ev.pos (by simp [eqD80]) (ih (i + 1) (by omega) (by omega)))))
theorem same52_ev (l : List S80) (hl : l.length ≤ 100000) : Ev (fun k => contangoref52_Same.f k l l) true := by
  simp only [contangoref52_Same.f]
  exact Ev.pos trivial (same52L l hl l.length 0 (by omega) (by omega))
theorem parts52L (l : List S60) (hl : l.length ≤ 100000) (n : Nat) : ∀ i : Nat, l.length - i = n → i ≤ l.length → Ev (fun k => contangoref52_Parts.l0 k l l (i : Int)) true := by
  induction n with
  | zero =>
    intro i hi hle
    refine Ev.shift ?_
    simp only [contangoref52_Parts.l0]
    exact Ev.neg (by omega) (Ev.val _)
  | succ n ih =>
    intro i hi hle
    refine Ev.shift ?_
    simp only [contangoref52_Parts.l0, wsc i (by omega)]
    exact Ev.pos (by omega) (Ev.pos (by omega) (Ev.pos (by omega) (Ev.pos (by simp [eqD60]) (ih (i + 1) (by omega) (by omega)))))
theorem parts52_ev (l : List S60) (hl : l.length ≤ 100000) : Ev (fun k => contangoref52_Parts.f k l l) true := by
  simp only [contangoref52_Parts.f]
  exact Ev.pos trivial (parts52L l hl l.length 0 (by omega) (by omega))
theorem prV_len (L R : List S60) : (prV L R).1.length ≤ 2048 := by
  unfold prV
  by_cases c0 : L.length > 1024 ∨ R.length > 1024
  · rw [if_pos c0]; simp
  · rw [if_neg c0]
    have := PP_len (L.length + R.length) L R (by omega)
    split
    · split
      · show (PP L R).length ≤ 2048; omega
      · simp
    · simp
theorem goes_true : contangolaw52_goes.f 200 = some true := by decide +kernel
theorem goes_ev : Ev (fun k => contangolaw52_goes.f k) true := Ev.of goes_true (fun k => contangolaw52_goes.mono k)
theorem DeliverPairs : contangolaw52_DeliverPairs.Said := by
  intro L R _ _ _ _
  refine Ev.get ?_
  have j0 : ∀ b : Bool, (b = false → L.length ≤ 1100 ∧ R.length ≤ 1100) → Ev (fun k => contangolaw52_DeliverPairs.j0 k L R b) true := by
    intro b hb
    refine Ev.shift ?_
    simp only [contangolaw52_DeliverPairs.j0, Option.bind_some, List.nil_append]
    by_cases c0 : b = true
    · exact Ev.pos c0 (Ev.bind goes_ev (Ev.val _))
    · obtain ⟨h1, h2⟩ := hb (Bool.eq_false_iff.mpr c0)
      refine Ev.neg c0 (Ev.pos (by rw [List.length_nil]; omega) (Ev.pos (by rw [List.length_nil]; omega) ?_))
      have hn := prV_len L R
      refine Ev.bind (prs_ev L R) (Ev.bind (prsr_ev L R) (Ev.bind (back52_ev _ (by omega)) (Ev.bind (same52_ev _ (by rw [List.length_map]; omega)) ?_)))
      exact Ev.pos rfl (Ev.pos rfl (Ev.bind (parts52_ev L (by omega)) (Ev.pos rfl (Ev.bind (parts52_ev R (by omega)) (Ev.pos rfl (Ev.bind goes_ev (Ev.val _)))))))
  simp only [contangolaw52_DeliverPairs.f]
  by_cases c0 : (L.length : Int) > 1100
  · exact Ev.pos c0 (j0 true (fun h => by cases h))
  · refine Ev.neg c0 (j0 _ (fun h => ?_))
    have := of_decide_eq_false h
    omega
end Go.Proofs.Ytmgeoombebkfaaa.Pure
