/- What a reading of an argument as data tells of memory, kind by kind: the model's value, that its numbers fit, that it is no bulkier than the data. -/
import Derived.Test.YtipoicfglaanaaaRows
import Derived.Test.YtipoicfglaanaaaWMore
import Derived.Deep.Slices
import Derived.DataReads
import Derived.ChangeArms
namespace Go.Proofs.Ytipoicfglaanaaa.Opens
open Go.RowKit Go.Proofs.YtipoicfglaanaaaW.PrintWords

theorem mapM_some {α β : Type} (f : α → Option β) : ∀ (l : List α) (ys : List β), l.mapM f = some ys → ys.length = l.length ∧ ∀ i (h : i < l.length), ∃ y, ys[i]? = some y ∧ f l[i] = some y := by
  intro l
  induction l with
  | nil =>
    intro ys h
    simp at h
    subst h
    exact ⟨rfl, fun i h => absurd h (Nat.not_lt_zero _)⟩
  | cons x xs ih =>
    intro ys h
    rw [List.mapM_cons] at h
    cases hx : f x with
    | none => rw [hx] at h; simp at h
    | some y =>
      rw [hx] at h
      cases hr : xs.mapM f with
      | none => rw [hr] at h; simp at h
      | some zs =>
        rw [hr] at h
        simp at h
        subst h
        obtain ⟨h1, h2⟩ := ih zs hr
        refine ⟨by simp [h1], fun i hi => ?_⟩
        cases i with
        | zero => exact ⟨y, rfl, hx⟩
        | succ i => simpa using h2 i (by simpa using hi)

/-- Whatever is read as data of type t is the cells of a value of this kind; its numbers fit; its bulk. -/
def Opens (P : Program) (t : TypeId) {α : Type} (d : Kd α) (ok : α → Prop) (sz : α → Prop) (m : α → Nat) : Prop :=
  ∀ (H : Type) (enc : TypeId × Value → H) (w : World) (base : Nat) (spare : Nat → Bool) (held : Bool) (fuel : Nat) (cs : List Value) (x : DataW H) (ps : List MemPlace),
    DataW.trod enc P w base spare held fuel t cs = some (x, ps) → ∃ a, d.K w a cs ∧ ok a ∧ m a ≤ Rows.uptoBulk x ∧ ((∀ n ∈ x.weights P t, n ≤ reachBytes) → sz a)

variable {P : Program}
theorem opens_int {t : TypeId} {k : IntKind} (ht : P.underlying t = some (.int k)) : Opens P t (Kd.int k) (fun n => (Lit.int k n).wf = true) (fun _ => True) (fun _ => 1) := by
  intro H enc w base spare held fuel cs x ps h
  obtain ⟨n, rfl, hx, hw⟩ := DataW.trod_int ht h
  injection hx with hx _
  subst hx
  exact ⟨n, rfl, hw, by simp [Rows.uptoBulk], fun _ => trivial⟩
theorem opens_bool {t : TypeId} (ht : P.underlying t = some .bool) : Opens P t Kd.bool (fun _ => True) (fun _ => True) (fun _ => 1) := by
  intro H enc w base spare held fuel cs x ps h
  obtain ⟨b, rfl, hx⟩ := DataW.trod_bool ht h
  injection hx with hx _
  subst hx
  exact ⟨b, rfl, trivial, by simp [Rows.uptoBulk], fun _ => trivial⟩
theorem opens_string {t : TypeId} (ht : P.underlying t = some .string) : Opens P t Kd.string (fun s => s.size ≤ 9223372036854775807) (fun s => s.size ≤ 140737488351232) (fun s => s.size + 1) := by
  intro H enc w base spare held fuel cs x ps h
  obtain ⟨s, rfl, hx, hs⟩ := DataW.trod_string ht h
  injection hx with hx _
  subst hx
  refine ⟨s, rfl, by simpa [maxLen] using hs, ?_, fun h => ?_⟩
  · simp only [Rows.uptoBulk]
    rw [Array.length_toList]
    exact Nat.le_refl _
  · have := h s.data.toList.length (by simp [DataW.weights])
    rw [Array.length_toList] at this
    exact this
/-- The bulk of a list. -/
def bulkOf {α : Type} (m : α → Nat) : List α → Nat
  | [] => 1
  | x :: r => m x + bulkOf m r
theorem bulkOf_pos {α : Type} (m : α → Nat) (l : List α) : 1 ≤ bulkOf m l := by
  induction l with
  | nil => exact Nat.le_refl _
  | cons x r ih => simp only [bulkOf]; omega
theorem bulkOf_mem {α : Type} (m : α → Nat) (l : List α) (x : α) (h : x ∈ l) : m x + 1 ≤ bulkOf m l := by
  induction l with
  | nil => cases h
  | cons y r ih =>
    simp only [bulkOf]
    rcases List.mem_cons.mp h with rfl | h
    · have := bulkOf_pos m r; omega
    · have := ih h; omega
theorem bulkOf_length {α : Type} (m : α → Nat) (hm : ∀ x, 1 ≤ m x) (l : List α) : l.length + 1 ≤ bulkOf m l := by
  induction l with
  | nil => exact Nat.le_refl _
  | cons y r ih => simp only [bulkOf, List.length_cons]; have := hm y; omega
theorem bulkAll_of {α : Type} {H : Type} (m : α → Nat) : ∀ (l : List α) (ds : List (DataW H)), l.length = ds.length → (∀ i (hi : i < l.length) d, ds[i]? = some d → m l[i] ≤ Rows.uptoBulk d) → bulkOf m l ≤ Rows.uptoBulkAll ds + 1 := by
  intro l
  induction l with
  | nil => intro ds _ _; simp [bulkOf]
  | cons x r ih =>
    intro ds hl h
    cases ds with
    | nil => simp at hl
    | cons d ds =>
      have h0 := h 0 (by simp) d rfl
      have h1 := ih ds (by simpa using hl) (fun i hi e he => h (i + 1) (by simpa using hi) e (by simpa using he))
      simp only [bulkOf, Rows.uptoBulkAll]
      simp only [List.getElem_cons_zero] at h0
      omega
theorem add_add_ (a : Addr) (x y : Nat) : (a.add x).add y = a.add (x + y) := by
  unfold Addr.add
  by_cases h1 : x = 0 <;> by_cases h2 : y = 0 <;> simp [h1, h2, Nat.add_assoc]
theorem weightsAll_mem {H : Type} {e : TypeId} {d : DataW H} : ∀ {ds : List (DataW H)}, d ∈ ds → ∀ n ∈ d.weights P e, n ∈ DataW.weightsAll P e ds
  | x :: r, h, n, hn => by
    simp only [DataW.weightsAll, List.mem_append]
    rcases List.mem_cons.mp h with rfl | h
    · exact Or.inl hn
    · exact Or.inr (weightsAll_mem h n hn)
theorem opens_slice {t e : TypeId} {α : Type} {d : Kd α} {ok sz : α → Prop} {m : α → Nat} {b : Nat} (ht : P.underlying t = some (.slice e)) (hsz : P.cellsOf e = d.sz) (hby : P.bytesOf e = b) (hd : Opens P e d ok sz m) :
    Opens P t (Kd.slice e d) (fun l => l.length ≤ 9223372036854775807 ∧ ∀ x ∈ l, ok x) (fun l => l.length * b ≤ 140737488351232 ∧ ∀ x ∈ l, sz x) (bulkOf m) := by
  intro H enc w base spare held fuel cs x ps h
  rcases Go.Deep.open_slice ht h with ⟨rfl, hx⟩ | ⟨a, len, cap, mm, n, D, Pl, rfl, hb, hl, hm, hmm, hx, hel⟩
  · injection hx with hx _
    subst hx
    exact ⟨[], ⟨none, 0, rfl, Nat.le_refl _, Kd.C_nil d w⟩, ⟨by simp, fun x h => by cases h⟩, by simp [bulkOf, Rows.uptoBulk], fun _ => ⟨by simp, fun x h => by cases h⟩⟩
  · injection hx with hx _
    subst hx
    have hlm : len ≤ mm := by subst hmm; split <;> omega
    have each : ∀ i : Nat, ∃ v : Option (α × List Value), i < len → ∃ a0 c0, v = some (a0, c0) ∧ w.cells? base (a.add (i * P.cellsOf e)) (P.cellsOf e) = some c0 ∧ d.K w a0 c0 ∧ ok a0 ∧ m a0 ≤ Rows.uptoBulk (D i) ∧ ((∀ n ∈ (D i).weights P e, n ≤ reachBytes) → sz a0) := by
      intro i
      by_cases hi : i < len
      · obtain ⟨c0, hc, htr⟩ := hel i (by omega)
        obtain ⟨a0, hK, ho, hb0, hz0⟩ := hd H enc w base spare held n c0 _ _ htr
        exact ⟨some (a0, c0), fun _ => ⟨a0, c0, rfl, hc, hK, ho, hb0, hz0⟩⟩
      · exact ⟨none, fun h => absurd h hi⟩
    obtain ⟨F, hF⟩ := Classical.axiomOfChoice each
    by_cases h0 : len = 0
    · subst h0
      refine ⟨[], ⟨some a, cap, rfl, Nat.zero_le _, ⟨rfl, by simp, fun h => absurd h (Nat.lt_irrefl 0)⟩⟩, ⟨by simp, fun x h => by cases h⟩, ?_, fun _ => ⟨by simp, fun x h => by cases h⟩⟩
      simp [bulkOf, Rows.uptoBulk]
    · obtain ⟨z, _, _⟩ := hF 0 (by omega)
      let G : Nat → α := fun i => match F i with | some (a0, _) => a0 | none => z
      have hG : ∀ i, i < len → ∃ c0, w.cells? base (a.add (i * P.cellsOf e)) (P.cellsOf e) = some c0 ∧ d.K w (G i) c0 ∧ ok (G i) ∧ m (G i) ≤ Rows.uptoBulk (D i) ∧ ((∀ n ∈ (D i).weights P e, n ≤ reachBytes) → sz (G i)) := by
        intro i hi
        obtain ⟨a0, c0, hv, hc, hK, ho, hb0, hz0⟩ := hF i hi
        have hg : G i = a0 := by simp only [G, hv]
        exact ⟨c0, hc, by rw [hg]; exact hK, by rw [hg]; exact ho, by rw [hg]; exact hb0, by rw [hg]; exact hz0⟩
      have hlen : ((List.range len).map G).length = len := by simp
      simp only [maxLen] at hm
      refine ⟨(List.range len).map G, ⟨some a, cap, by rw [hlen], by rw [hlen]; exact hl, ⟨rfl, by rw [hlen]; omega, fun _ => ⟨a, rfl, fun j p hj => ?_⟩⟩⟩, ⟨by rw [hlen]; omega, fun x hx => ?_⟩, ?_, fun hws => ⟨?_, fun x hx => ?_⟩⟩
      · have hjl : j < len := by
          have := (List.getElem?_eq_some_iff.1 hj).1
          simpa using this
        have hp : G j = p := by simpa [hjl] using hj
        obtain ⟨c0, hc, hK, _, _, _⟩ := hG j hjl
        obtain ⟨h1, h2⟩ := World.cells?_some hc
        refine ⟨c0, d.K_len hK, hp ▸ hK, fun i u hu => ?_⟩
        have hi : i < P.cellsOf e := by
          have := (List.getElem?_eq_some_iff.1 hu).1
          omega
        have := h2.2 i hi
        rw [add_add_, hsz, hu] at this
        exact this
      · obtain ⟨i, hi, rfl⟩ := List.mem_map.mp hx
        obtain ⟨_, _, _, ho, _, _⟩ := hG i (List.mem_range.mp hi)
        exact ho
      · have := bulkAll_of m ((List.range len).map G) ((List.range len).map D) (by simp) (fun i hi dd hdd => by
          have hil : i < len := by simpa using hi
          obtain ⟨_, _, _, _, hb0, _⟩ := hG i hil
          have : D i = dd := by simpa [hil] using hdd
          subst this
          simpa using hb0)
        simp only [Rows.uptoBulk]
        omega
      · have := hws _ (by simp only [DataW.weights, ht]; exact List.mem_cons_self)
        rw [hlen, ← hby]
        simp only [List.length_map, List.length_range, reachBytes] at this
        exact Nat.le_trans (Nat.mul_le_mul_right _ (Nat.le_add_right _ _)) this
      · obtain ⟨i, hi, rfl⟩ := List.mem_map.mp hx
        obtain ⟨_, _, _, _, _, hz0⟩ := hG i (List.mem_range.mp hi)
        refine hz0 fun n hn => hws n ?_
        simp only [DataW.weights, ht]
        exact List.mem_cons_of_mem _ (List.mem_append.mpr (Or.inl (weightsAll_mem (List.mem_map.mpr ⟨i, hi, rfl⟩) n hn)))
/-- The same for a struct's fields, from a place on. -/
def OpensF (P : Program) (fs : List Field) (o : Nat) {α : Type} (d : Kd α) (ok : α → Prop) (sz : α → Prop) (m : α → Nat) : Prop :=
  ∀ (H : Type) (enc : TypeId × Value → H) (w : World) (base : Nat) (spare : Nat → Bool) (held : Bool) (fuel : Nat) (cs : List Value) (xs : List (DataW H × List MemPlace)),
    xs.length = fs.length → (∀ (i : Nat) (f : Field), fs[i]? = some f → DataW.trod enc P w base spare held fuel f.type ((cs.drop f.offset).take (P.cellsOf f.type)) = xs[i]?) → ∃ a, d.K w a ((cs.drop o).take d.sz) ∧ ok a ∧ m a ≤ Rows.uptoBulkAll (xs.map (·.1)) ∧ ((∀ n ∈ DataW.weightsEach P (fs.map (·.type)) (xs.map (·.1)), n ≤ reachBytes) → sz a)
theorem opensF_one {f : Field} {o : Nat} {α : Type} {d : Kd α} {ok sz : α → Prop} {m : α → Nat} (ho : f.offset = o) (hs : P.cellsOf f.type = d.sz) (hd : Opens P f.type d ok sz m) : OpensF P [f] o d ok sz m := by
  intro H enc w base spare held fuel cs xs hl h
  obtain ⟨y, rfl⟩ : ∃ y, xs = [y] := by
    match xs, hl with
    | [z], _ => exact ⟨z, rfl⟩
  obtain ⟨a, hK, ho', hb, hz⟩ := hd H enc w base spare held fuel _ y.1 y.2 (h 0 f rfl)
  refine ⟨a, by rw [← ho, ← hs]; exact hK, ho', ?_, fun hw => hz fun n hn => hw n ?_⟩
  · simp only [List.map_cons, List.map_nil, Rows.uptoBulkAll]
    omega
  · simp only [List.map_cons, List.map_nil, DataW.weightsEach, List.append_nil]
    exact hn
theorem opensF_cons {f : Field} {fs : List Field} {o : Nat} {α β : Type} {d : Kd α} {d' : Kd β} {ok sz : α → Prop} {ok' sz' : β → Prop} {m : α → Nat} {m' : β → Nat} (ho : f.offset = o) (hs : P.cellsOf f.type = d.sz) (hd : Opens P f.type d ok sz m)
    (hr : OpensF P fs (o + d.sz) d' ok' sz' m') : OpensF P (f :: fs) o (Kd.pair d d') (fun x => ok x.1 ∧ ok' x.2) (fun x => sz x.1 ∧ sz' x.2) (fun x => m x.1 + m' x.2) := by
  intro H enc w base spare held fuel cs xs hl h
  obtain ⟨y, ys, rfl⟩ : ∃ y ys, xs = y :: ys := by
    match xs, hl with
    | z :: zs, _ => exact ⟨z, zs, rfl⟩
  obtain ⟨a, hK, ha, hb, hz⟩ := hd H enc w base spare held fuel _ y.1 y.2 (h 0 f rfl)
  obtain ⟨b, hK', hb', hc, hz'⟩ := hr H enc w base spare held fuel cs ys (by simpa using hl) (fun i g hg => h (i + 1) g (by simpa using hg))
  refine ⟨(a, b), ⟨_, _, ?_, by rw [ho, hs] at hK; exact hK, hK'⟩, ⟨ha, hb'⟩, ?_, fun hw => ?_⟩
  · show (cs.drop o).take (d.sz + d'.sz) = _
    rw [List.take_add, List.drop_drop]
  · simp only [List.map_cons, Rows.uptoBulkAll]
    omega
  · simp only [List.map_cons, DataW.weightsEach, List.mem_append] at hw
    exact ⟨hz fun n hn => hw n (Or.inl hn), hz' fun n hn => hw n (Or.inr hn)⟩
theorem opens_struct {t : TypeId} {fs : Array Field} {α β : Type} {d : Kd α} {ok sz : α → Prop} {m : α → Nat} (g : β → α) (gi : α → β) (hg : ∀ a, g (gi a) = a) (ht : P.underlying t = some (.struct fs)) (hc : P.cellsOf t = d.sz) (hd : OpensF P fs.toList 0 d ok sz m) :
    Opens P t (Kd.iso d g) (fun x => ok (g x)) (fun x => sz (g x)) (fun x => m (g x) + 1) := by
  intro H enc w base spare held fuel cs x ps h
  obtain ⟨xs, n, _, he, hl, hlen, hi⟩ := DataW.trod_struct ht h
  injection he with he _
  subst he
  obtain ⟨a, hK, ho, hb, hz⟩ := hd H enc w base spare held n cs xs (by simpa using hlen) (fun i f hf => hi i f (by simpa using hf))
  refine ⟨gi a, ?_, by show ok (g (gi a)); rw [hg]; exact ho, ?_, fun hw => ?_⟩
  · show d.K w (g (gi a)) cs
    rw [hg]
    rw [List.drop_zero, List.take_of_length_le (by omega)] at hK
    exact hK
  · show m (g (gi a)) + 1 ≤ _
    rw [hg]
    simp only [Rows.uptoBulk]
    omega
  · show sz (g (gi a))
    rw [hg]
    simp only [DataW.weights, ht] at hw
    exact hz hw
end Go.Proofs.Ytipoicfglaanaaa.Opens
