import Derived.Test.YtjmkdmbgldcleaaPTearWorthx0
import Derived.Test.YtjmkdmbgldcleaaPTearWorthx1
import Derived.Test.YtjmkdmbgldcleaaPTearWorthx3
import Derived.Test.YtjmkdmbgldcleaaPTearWorthx4
import Derived.Test.YtjmkdmbgldcleaaPTearWorthx6
namespace Go.Proofs.Ytjmkdmbgldcleaa.PTearWorth
open Go.RowKit Go.Proofs.YtjmkdmbgldcleaaW.PrintWords Go.Proofs.YtjmkdmbgldcleaaW.PrintLast Go.Proofs.YtjmkdmbgldcleaaW.PrintMore
attribute [local go_sem] max2_int min2_int max_two min_two max_three min_three max_four min_four Go.Proofs.YtjmkdmbgldcleaaHand.run_leq_str Go.Proofs.YtjmkdmbgldcleaaHand.run_gtr_str Go.Proofs.YtjmkdmbgldcleaaHand.run_geq_str   -- for this text's walks alone
set_option linter.unusedVariables false
set_option linter.unusedSimpArgs false

attribute [local go_sem high] eqA24 eqA55
/-! ### tear_Apply: function 13 -/
/-- An account as a map's key. -/
def accK (a : S55) : Value := .agg #[.string a.f0, .string a.f1]
def accQ (x y : S55) : Bool := x.f0.toList == y.f0.toList && x.f1.toList == y.f1.toList
theorem bytes_inj {a b : ByteArray} (h : a.toList = b.toList) : a = b := by
  rw [ByteArray.toList_eq, ByteArray.toList_eq] at h
  exact ByteArray.ext (Array.ext' h)
theorem accQ_iff (x y : S55) : accQ x y = true ↔ accK x = accK y := by
  simp only [accQ, accK, Bool.and_eq_true, beq_iff_eq]
  constructor
  · rintro ⟨h1, h2⟩
    rw [bytes_inj h1, bytes_inj h2]
  · intro h
    simp only [Value.agg.injEq, Array.mk.injEq, List.cons.injEq, Value.string.injEq] at h
    exact ⟨by rw [h.1], by rw [h.2.1]⟩
theorem acc_laid : laidOutB Try.prog = true := by kernel_rfl
theorem acc_keyed : Go.Maps.Keyed Try.prog 55 := Go.Maps.Keyed.of_law (deep_law_gate acc_laid (by decide +kernel) (by decide +kernel) (by kernel_rfl) (by rw [Try.underlying55]))
theorem acc_types : ∃ m, Try.prog.types.size + 1 = m + 2 := by
  have : 0 < Try.prog.types.size := by decide +kernel
  exact ⟨Try.prog.types.size - 1, by omega⟩
theorem acc_keyOf {x : S55} (ha : x.f0.size ≤ 9223372036854775807) (hb : x.f1.size ≤ 9223372036854775807) : ∃ l, keyOf Try.prog 55 (accK x) = some l := by
  refine ⟨.string (keyBytes [.string x.f0.data.toList, .string x.f1.data.toList]), ?_⟩
  have ha' : x.f0.size ≤ maxLen := ha
  have hb' : x.f1.size ≤ maxLen := hb
  have hkt : Try.prog.keyType 55 = true := by kernel_rfl
  have hc : Try.prog.cellsOf 55 = 2 := by kernel_rfl
  have hc9 : Try.prog.cellsOf 9 = 1 := by kernel_rfl
  unfold keyOf accK
  simp only [Try.underlying55]
  rw [if_pos (by simp [hkt, Value.formed, Try.underlying55, hc])]
  obtain ⟨m, hm⟩ := acc_types
  rw [hm]
  unfold Program.keyLits
  simp only [Try.underlying55, Value.cells]
  rw [if_pos (by simp [hc])]
  simp [Program.keyLits, hc9, Try.underlying9, ha', hb', List.mapM_cons]
def accOk (x : S55) : Bool := decide (x.f0.size ≤ 9223372036854775807) && decide (x.f1.size ≤ 9223372036854775807)
theorem acc_keyOf' {x : S55} (h : accOk x = true) : ∃ l, keyOf Try.prog 55 (accK x) = some l := by
  simp only [accOk, Bool.and_eq_true, decide_eq_true_eq] at h
  exact acc_keyOf h.1 h.2

/-- slices.IndexFunc at api.Holding. -/
theorem IndexFunc_api_Holding.calls (p : S58 → Bool) (g : Nat) (lb : Array Value) (eg : ∀ args w, (callFunc g args).run Try.prog w = .ok (.enter g args) w) (A0 : Option Addr) (c0 : Nat) (l0 : List (S58)) (w : World) (hp : PredK Try.prog k58 g lb p w) (hr0 : Kd.C k58 w A0 l0.length l0) :
    Calls Try.prog 32 #[.slice A0 l0.length c0, .func (.func g) #[] lb] w fun e w' => e = .returned (.int .i64 (idxOf p l0 0)) ∧ Below w.heap.size w w' := by
  have HR0 := Aside0.mk hr0
  have HL := hr0.2.1
  have HP := Aside0.mk hp
  clear hr0 hp
  go_enter Try.func32, Try.ntmps32
  go_wp2
  go_loopg [5, 8] l0.length (fun kq _ v8 w' => ∃ (x8 : Nat), v8 = .int .i64 x8 ∧ kq + x8 = l0.length ∧ Aside0 (idxOf p (l0.drop x8) x8 = idxOf p l0 0) ∧ Aside0 (Below w.heap.size w w'))
  case atStart => exact ⟨0, rfl, by omega, ⟨rfl⟩, ⟨Below.refl _ _⟩⟩
  case round =>
    obtain ⟨x8, rfl, hx, HA, HB⟩ := hrel
    have hsz := HB.out.size
    by_cases hlt : x8 < l0.length
    · obtain ⟨ad, cs, e, hlen, hK, hcell⟩ := Kd.C_get (Kd.C_below HR0.out HB.out) z58 x8 (by omega) (by omega)
      cases e
      have hcall := HP.out wr _ _ HB.out hK
      simp only [Int.toNat_natCast] at hcell hK hcall
      have hg := idxOf_drop p l0 z58 x8 hlt
      have HA2 := Aside0.mk (HA.out ▸ hg).symm
      clear hg HA
      simp only [show k58.sz = 3 from rfl] at hcell
      clear hlen
      obtain ⟨A_, c_, rfl, hl_, hg_⟩ := k58_open hK
      have h0 := hcell 0 _ rfl
      have h1 := hcell 1 _ rfl; rw [add_field _ _ 1 (by omega)] at h1
      have h2 := hcell 2 _ rfl; rw [add_field _ _ 2 (by omega)] at h2
      clear hcell hK hl_ hg_
      simp only [Nat.add_zero] at h0
      generalize hy : l0.getD x8 z58 = y at *
      clear hy
      by_cases hq : p y = true
      · have HA3 := Aside0.mk (by have := HA2.out; rwa [if_pos hq] at this)
        rw [hq] at hcall
        clear hq HA2
        go_wp2_with ((with_reducible refine hcall.mono ?_); rintro e w' ⟨rfl, hb'⟩)
        go_ret
        have := HA3.out
        exact ⟨congrArg (fun z => Ending.returned (.int .i64 z)) this, below_step HB.out hb'⟩
      · have hq2 : p y = false := by simpa using hq
        have HA3 := Aside0.mk (by have := HA2.out; rwa [if_neg hq] at this)
        rw [hq2] at hcall
        clear hq hq2 HA2
        go_wp2_with ((with_reducible refine hcall.mono ?_); rintro e w' ⟨rfl, hb'⟩)
        go_roundg (l0.length - (x8 + 1))
        case measure => omega
        case rel => exact ⟨x8 + 1, by go_num, by omega, HA3, ⟨below_step HB.out hb'⟩⟩
    · have hxe : x8 = l0.length := by omega
      have HA3 := Aside0.mk (by have := HA.out; rwa [List.drop_eq_nil_of_le (by omega)] at this)
      clear HA
      have hd : decide ((x8 : Int) < (l0.length : Int)) = false := by simp; omega
      clear hxe
      go_wp2
      go_ret
      have := HA3.out
      simp only [idxOf] at this
      exact ⟨congrArg (fun z => Ending.returned (.int .i64 z)) this, HB.out⟩

theorem seg_set_ne {α : Type} {xs : List α} {i j m sz : Nat} {u : α} (hm : m < sz) (hne : j ≠ i) : ((xs.set (i * sz + m) u).drop (j * sz)).take sz = (xs.drop (j * sz)).take sz := by
  apply List.ext_getElem?
  intro q
  rw [List.getElem?_take, List.getElem?_take, List.getElem?_drop, List.getElem?_drop]
  by_cases hq : q < sz
  · rw [if_pos hq, if_pos hq, List.getElem?_set]
    have : ¬ i * sz + m = j * sz + q := by
      rcases Nat.lt_or_gt_of_ne hne with h | h
      · have := Nat.mul_le_mul_right sz (show j + 1 ≤ i from h)
        rw [Nat.succ_mul] at this
        omega
      · have := Nat.mul_le_mul_right sz (show i + 1 ≤ j from h)
        rw [Nat.succ_mul] at this
        omega
    rw [if_neg this]
  · rw [if_neg hq, if_neg hq]
theorem seg_set_eq {α : Type} {xs : List α} {i m sz : Nat} {u : α} (hm : m < sz) : ((xs.set (i * sz + m) u).drop (i * sz)).take sz = ((xs.drop (i * sz)).take sz).set m u := by
  apply List.ext_getElem?
  intro q
  rw [List.getElem?_take, List.getElem?_drop, List.getElem?_set, List.getElem?_set, List.getElem?_take, List.getElem?_drop]
  by_cases hq : q < sz
  · rw [if_pos hq, if_pos hq]
    by_cases he : m = q
    · subst he
      simp only [if_pos, List.length_take, List.length_drop]
      by_cases hl : i * sz + m < xs.length
      · rw [if_pos hl, if_pos (by omega)]
      · rw [if_neg hl, if_neg (by omega)]
    · rw [if_neg (by omega), if_neg he]
  · rw [if_neg hq, if_neg hq, if_neg (by omega)]

/-- A kind whose elements are read in one world, that stays. -/
def kFix {α : Type} (w0 : World) (d : Kd α) : Kd α where
  sz := d.sz
  E := []
  K := fun _ x cs => d.K w0 x cs
  M := fun _ _ _ x cs => d.K w0 x cs
  K_len := d.K_len
  K_one := d.K_one
  K_below := fun _ h => h
  K_of_M := fun h => h
  M_mono := fun _ h => h
  M_bound := fun h => h
  M_move := fun _ h => h
  M_lower := fun _ h => h

theorem run_copy_k {P : Program} (w : World) (dT sT ty elem : TypeId) (k g dLen dCap : Nat) (a : Addr) (sLen sCap : Nat) (cur : Array Value) (t : TypeId) (cs : List Value)
    (hu : P.underlying dT = some (.slice elem)) (hs : (P.info? elem).map (·.size) = some k)
    (hg : w.heap[g]? = some (.cells cur t (0, 0))) (hn : cs.length = k * Nat.min sLen dLen)
    (hsrc : ∀ j v, cs[j]? = some v → w.cell? (a.add j) = some v) (hfit : cs.length ≤ cur.size) (h1 : ∀ v ∈ cs, v.oneCell' = true) :
    (Builtin.copy_ #[dT, sT] ty #[.slice (some ⟨g, 0, none⟩) dLen dCap, .slice (some a) sLen sCap]).run P w =
      .ok (goInt (Nat.min sLen dLen : Nat)) (w.setRow g (cs ++ cur.toList.drop cs.length).toArray) := by
  have hl := run_loadCells_list (P := P) w a cs hsrc
  have hst := run_storeCells_at P g 0 t cs 0 cur w hg (by simpa using hfit) h1
  cases hq : P.info? elem with
  | none => simp [hq] at hs
  | some i =>
    have hi : i.size = k := by simpa [hq] using hs
    have hn2 : Nat.min sLen dLen * k = cs.length := by rw [hn, Nat.mul_comm]
    simp [Builtin.copy_, run_underlying hu, Builtin.lenOf, Builtin.firstCells, sizeOf, typeInfo, hq, hi, hn2, hl, hst]
/-- A row of holdings of one's own, of which the first ones' positions are one's own, too; the others' are as they lay at the entry (w0). -/
def Mx (w0 w : World) (base g cv : Nat) (l : List S58) (x : Nat) : Prop :=
  ∃ (f : Nat → Nat) (inner : List Value), w.ownsRow base 58 3 (.slice (some ⟨g, 0, none⟩) l.length cv) l.length inner ∧
    ∀ j p, l[j]? = some p → if j < x then k58.M w base (fun b => (True ∧ some b ≠ (Value.slice (some ⟨g, 0, none⟩) l.length cv).ownBlock) ∧ f b = j) p ((inner.drop (j * 3)).take 3) else k58.K w0 p ((inner.drop (j * 3)).take 3)
theorem Mx.below {w0 w w1 : World} {base g cv : Nat} {l : List S58} {x : Nat} (h : Mx w0 w base g cv l x) (hb : Below w.heap.size w w1) : Mx w0 w1 base g cv l x := by
  obtain ⟨f, inner, ho, hr⟩ := h
  refine ⟨f, inner, pw_own_below ho hb, fun j p hj => ?_⟩
  have := hr j p hj
  by_cases c : j < x
  · rw [if_pos c] at this ⊢; exact Kd.M_below this hb
  · rw [if_neg c] at this ⊢; exact this
theorem Mx.whole {w0 w : World} {base g cv : Nat} {l : List S58} (h : Mx w0 w base g cv l l.length) : Kd.S k58 58 w base (fun _ => True) (.slice (some ⟨g, 0, none⟩) l.length cv) l := by
  obtain ⟨f, inner, ho, hr⟩ := h
  refine ⟨f, fun _ _ => trivial, inner, by rw [List.length_zipIdx]; exact ho, by rw [List.length_zipIdx]; exact ho.1, fun j p hj => ?_⟩
  rw [List.getElem?_zipIdx] at hj
  obtain ⟨q, hq, rfl⟩ := Option.map_eq_some_iff.1 hj
  have hlt : j < l.length := by
    rcases Nat.lt_or_ge j l.length with c | c
    · exact c
    · rw [List.getElem?_eq_none c] at hq; cases hq
  have := hr j q hq
  rw [if_pos hlt] at this
  simp only [Nat.zero_add]
  exact this
/-- The next one's positions, as they lay at the entry. -/
theorem Mx.at_ {w0 w : World} {base g cv : Nat} {l : List S58} {x : Nat} (h : Mx w0 w base g cv l x) (hx : x < l.length) (hb : Below w0.heap.size w0 w) :
    ∃ A2 c2, w.cell? ⟨g, x * 3 + 2, none⟩ = some (.slice A2 (rd_T58 l x).f1.length c2) ∧ w.frozen? ⟨g, x * 3 + 2, none⟩ = false ∧ (rd_T58 l x).f1.length ≤ c2 ∧ Kd.C k52 w A2 (rd_T58 l x).f1.length (rd_T58 l x).f1 := by
  obtain ⟨f, inner, ho, hr⟩ := h
  have hp : l[x]? = some (rd_T58 l x) := by
    rw [List.getElem?_eq_getElem hx]
    simp [rd_T58, List.getD_eq_getElem?_getD, List.getElem?_eq_getElem hx]
  have h1 := hr x _ hp
  rw [if_neg (by omega)] at h1
  obtain ⟨A2, c2, hcs, hle, hC⟩ := k58_open h1
  have hget : inner[x * 3 + 2]? = some (.slice A2 (rd_T58 l x).f1.length c2) := by
    have := congrArg (fun l => l[2]?) hcs
    simpa [List.getElem?_take, List.getElem?_drop] using this
  have hcell := ho.cells (g := g) rfl (x * 3 + 2) _ hget
  rw [add_plain] at hcell
  obtain ⟨cells, hc⟩ := own_typed ho g (by simp [Value.ownBlock])
  exact ⟨A2, c2, hcell, blk_frozen hc _, hle, Kd.C_below hC hb⟩
theorem Mx.put {w0 w w1 : World} {base g cv : Nat} {l : List S58} {x : Nat} {v3 : Value} (h : Mx w0 w base g cv l x) (hx : x < l.length)
    (hb : Below w.heap.size w w1) (h3 : Kd.R k52 52 w1 w.heap.size (fun _ => True) v3 (rd_T58 l x).f1) (hbase : base ≤ w.heap.size) :
    Mx w0 (w1.setCell ⟨g, x * 3 + 2, none⟩ v3) base g cv l (x + 1) ∧ base ≤ g := by
  obtain ⟨f, inner, ho, hr⟩ := h
  have hp : l[x]? = some (rd_T58 l x) := by
    rw [List.getElem?_eq_getElem hx]
    simp [rd_T58, List.getD_eq_getElem?_getD, List.getElem?_eq_getElem hx]
  have h1 := hr x _ hp
  rw [if_neg (by omega)] at h1
  obtain ⟨A2, c2, hcs, _, _⟩ := k58_open h1
  have hgl := own_lt ho g (by simp [Value.ownBlock])
  have ho1 := pw_own_below ho hb
  obtain ⟨hs1, hs2⟩ := ho1.stored (x * 3 + 2) v3
  have hbg : base ≤ g := own_base ho g (by simp [Value.ownBlock])
  refine ⟨⟨fun b => if w.heap.size ≤ b then x else f b, _, hs1, fun j p hj => ?_⟩, hbg⟩
  by_cases hji : j = x
  · subst hji
    rw [if_pos (by omega)]
    rw [hp] at hj
    obtain rfl := Option.some.inj hj
    rw [seg_set_eq (by omega), hcs]
    refine k58_mkM _ _ _ _ ?_
    refine Kd.R_mono (Kd.R_grown (Kd.R_lower (Kd.R_bound h3) hbase) hs2 ?_) ?_
    · intro k hk he
      have := hk.2.1
      injection he with he
      omega
    · intro k hk
      have := hk.2.1
      refine ⟨⟨trivial, fun he => ?_⟩, if_pos this⟩
      simp only [Value.ownBlock, Option.map_some, Option.some.injEq] at he
      omega
  · have h2 := hr j p hj
    rw [seg_set_ne (by omega) hji]
    by_cases c : j < x
    · rw [if_pos c] at h2
      rw [if_pos (by omega)]
      refine Kd.M_grown (Kd.M_below (k58.M_mono (fun k hk => ?_) (k58.M_bound h2)) hb) hs2 (fun k hk => by have := hk.1.2; simpa [Value.ownBlock] using this)
      exact ⟨hk.1.1, (if_neg (by omega)).trans hk.1.2⟩
    · rw [if_neg c] at h2
      rw [if_neg (by omega)]
      exact h2
/-- words kept: skip_ value_ goes_ goesV_ two_ three_ S_types R_types R_val R_tight S_get R_getA S_take H_elder' H_more H_mono H_widen S_apart' S_over' S_nil S_R S_mono S_bound S_move S_lower S_step S_below S_alloc S_drew S_drewN S_grown S_far S_keep S_ne S_away S_form S_slice S_reads S_own S_elderB S_newB S_lend S_borrow S_elem S_seg H_back H_step H_grown H_other H_below H_alloc H_drew H_far H_raw H_seg H_store S_delete S_delete_step R_delete R_delete_step R_delete_run R_seg R_store R_elem R_reads R_reads' R_form R_typed R_ne R_lt R_base R_bound R_move R_step R_grown R_below R_alloc R_keep R_away R_put R_set R_slice R_take R_own M_below M_grown M_mono M_bound M_move KeepBut pw_below_grown pw_below_drewN below_step below_alloc below_drew blk_below blk_alloc blk_grown blk_new blk_put blk_frozen blk_lt R_store_step H_store_step S_drewN reps_take R_drew -/
theorem setRow_grown (w : World) (g : Nat) (cs : Array Value) : w.grownBy (w.setRow g cs) (some g) := by
  refine ⟨rfl, rfl, rfl, ?_, fun i hi hne => ?_⟩
  · simp [World.setRow]
  · have hgi : g ≠ i := fun e => hne (by rw [e])
    simp [World.setRow, Array.getElem?_modify, hgi]
/-- The cells of a row that is read, one behind the other. -/
theorem cells_of {w : World} {A : Option Addr} {l : List S58} (h : Kd.C k58 w A l.length l) (hl : 0 < l.length) :
    ∃ (ad : Addr) (cs : List Value), A = some ad ∧ cs.length = l.length * 3 ∧ (∀ i u, cs[i]? = some u → w.cell? (ad.add i) = some u) ∧ (∀ u ∈ cs, u.oneCell' = true) ∧ ∀ j p, l[j]? = some p → k58.K w p ((cs.drop (j * 3)).take 3) := by
  obtain ⟨ad, hA, hc⟩ := h.2.2 hl
  have hcell : ∀ j p, l[j]? = some p → ∃ c : List Value, c.length = 3 ∧ k58.K w p c ∧ ∀ i u, c[i]? = some u → w.cell? (ad.add (j * 3 + i)) = some u := hc
  have hget : ∀ j m, j < l.length → m < 3 → ∃ (c : List Value) (p : S58), l[j]? = some p ∧ c.length = 3 ∧ k58.K w p c ∧ ∃ u, c[m]? = some u ∧ w.cell? (ad.add (j * 3 + m)) = some u := fun j m hj hm => by
    obtain ⟨c, h1, h2, h3⟩ := hcell j l[j] (List.getElem?_eq_getElem hj)
    have hm2 : m < c.length := by omega
    exact ⟨c, l[j], List.getElem?_eq_getElem hj, h1, h2, c[m], List.getElem?_eq_getElem hm2, h3 m _ (List.getElem?_eq_getElem hm2)⟩
  refine ⟨ad, (List.range (l.length * 3)).map (fun i => (w.cell? (ad.add i)).getD undef), hA, by simp, fun i u hu => ?_, fun u hu => ?_, fun j p hj => ?_⟩
  · rw [List.getElem?_map] at hu
    obtain ⟨i', hi', rfl⟩ := Option.map_eq_some_iff.mp hu
    obtain ⟨hlt, he⟩ := List.getElem?_eq_some_iff.mp hi'
    simp only [List.length_range] at hlt
    simp only [List.getElem_range] at he
    subst he
    obtain ⟨_, _, _, _, _, u, _, hw⟩ := hget (i / 3) (i % 3) (by omega) (by omega)
    rw [show i / 3 * 3 + i % 3 = i by omega] at hw
    rw [hw]
    rfl
  · obtain ⟨i, hi, rfl⟩ := List.mem_map.mp hu
    have hlt := List.mem_range.mp hi
    obtain ⟨c, p, _, _, hK, u, hcu, hw⟩ := hget (i / 3) (i % 3) (by omega) (by omega)
    rw [show i / 3 * 3 + i % 3 = i by omega] at hw
    rw [hw]
    exact k58.K_one hK u (List.mem_of_getElem? hcu)
  · have hjl : j < l.length := by
      rcases Nat.lt_or_ge j l.length with c | c
      · exact c
      · rw [List.getElem?_eq_none c] at hj; cases hj
    obtain ⟨c, h1, h2, h3⟩ := hcell j p hj
    have e : (((List.range (l.length * 3)).map (fun i => (w.cell? (ad.add i)).getD undef)).drop (j * 3)).take 3 = c := by
      apply List.ext_getElem?
      intro m
      rw [List.getElem?_take, List.getElem?_drop, List.getElem?_map]
      by_cases hm : m < 3
      · have hm2 : m < c.length := by omega
        rw [if_pos hm, List.getElem?_range (by omega), Option.map_some, h3 m _ (List.getElem?_eq_getElem hm2), List.getElem?_eq_getElem hm2]
        rfl
      · rw [if_neg hm, List.getElem?_eq_none (by omega)]
    rw [e]
    exact h2
theorem copy_mx {P : Program} {w0 W : World} {base g cv : Nat} {ok : Nat → Prop} {l : List S58} {rows : List (List Value)} {A : Option Addr} {c : Nat} (tt ty : TypeId)
    (hu : P.underlying tt = some (.slice 58)) (hs : (P.info? 58).map (·.size) = some 3)
    (HO : (Kd.raw 3).R 58 W base ok (.slice (some ⟨g, 0, none⟩) l.length cv) rows) (hrl : rows.length = l.length) (HR : Kd.C k58 w0 A l.length l) (hb : Below w0.heap.size w0 W) :
    ∃ w1, (Builtin.copy_ #[tt, tt] ty #[.slice (some ⟨g, 0, none⟩) l.length cv, .slice A l.length c]).run P W = .ok (goInt (l.length : Nat)) w1 ∧ Mx w0 w1 base g cv l 0 ∧ W.grownBy w1 (some g) ∧ base ≤ g := by
  obtain ⟨_, inner, ho, _⟩ := HO
  rw [hrl] at ho
  rcases ho.2 with ⟨hv, _⟩ | ⟨g', cap, cur, hv, hbg, hh, hnc, hcm, hcs, htake⟩
  · cases hv
  injection hv with ha _ hc
  injection ha with ha
  injection ha with ha _ _
  subst ha
  subst hc
  rcases Nat.eq_zero_or_pos l.length with h0 | hp
  · refine ⟨W, ?_, ⟨fun _ => 0, inner, ho, fun j p hj => ?_⟩, World.grownBy.refl W _, hbg⟩
    · cases hq : P.info? 58 with
      | none => simp [hq] at hs
      | some i => cases A <;> simp [Builtin.copy_, run_underlying hu, Builtin.lenOf, Builtin.firstCells, sizeOf, typeInfo, hq, h0, storeCells, loadCells, loadCellsFrom]
    · rw [List.length_eq_zero_iff.mp h0] at hj; cases hj
  · obtain ⟨ad, cs, rfl, hl3, hsrc, h1, hK⟩ := cells_of HR hp
    have hrun := run_copy_k (P := P) W tt tt ty 58 3 g l.length cv ad l.length c cur 58 cs hu hs hh (by have hmm : Nat.min l.length l.length = l.length := Nat.min_self _; rw [hmm, hl3]; omega) (fun j v hv => by
      have := hsrc j v hv
      exact (hb.cell (World.block_lt_of_cell? w0 _ this)).trans this) (by have hz3 : (Kd.raw 3).sz = 3 := rfl; rw [hz3] at hcs; omega) h1
    have hmm : Nat.min l.length l.length = l.length := Nat.min_self _
    rw [hmm] at hrun
    refine ⟨_, hrun, ⟨fun _ => 0, cs, ⟨hl3, .inr ⟨g, cv, _, rfl, hbg, setRow_heap W g cur _ _ _ hh, hnc, hcm, ?_, ?_⟩⟩, fun j p hj => ?_⟩, setRow_grown _ _ _, hbg⟩
    · have hz3 : (Kd.raw 3).sz = 3 := rfl
      rw [hz3] at hcs
      have hk3 : k58.sz = 3 := rfl
      simp only [List.size_toArray, List.length_append, List.length_drop, Array.length_toList, hk3]
      omega
    · rw [List.take_append_of_le_length (by omega), List.take_of_length_le (by omega)]
    · rw [if_neg (Nat.not_lt_zero _)]
      exact hK j p hj

theorem zeroCells_one (cs : Array Value) : (Builtin.zeroCells cs 1).toList = cs.toList := by
  simp [Builtin.zeroCells]
  apply List.ext_getElem
  · simp
  · intro i h1 h2
    simp at h1
    simp [Nat.mod_eq_of_lt h1, h1]
/-- The cells of the place behind a row's end are cleared. -/
theorem clear_own {α : Type} {P : Program} {W : World} {base g m cap : Nat} {ok : Nat → Prop} (d : Kd α) (e tt ty : TypeId) (ht : P.underlying tt = some (.slice e)) (z : Value) (hv : ∀ w, (zeroValue e).run P w = .ok z w) (hz : z.cells.size = d.sz) (hone : ∀ u ∈ z.cells.toList, u.oneCell' = true)
    {xs : List α} (HO : d.R e W base ok (.slice (some ⟨g, 0, none⟩) m cap) xs) (hm : m < cap) (c2 : Nat) :
    ∃ w1, (Builtin.clear_ #[tt] ty #[.slice (some ⟨g, m * d.sz, none⟩) 1 c2]).run P W = .ok (.tuple #[]) w1 ∧ d.R e w1 base ok (.slice (some ⟨g, 0, none⟩) m cap) xs ∧ W.grownBy w1 (some g) := by
  have hn := (Kd.R_reads' HO).1
  obtain ⟨hok, inner, hown, hr⟩ := HO
  rcases hown.2 with ⟨hv0, _⟩ | ⟨g', cap', cur, hv0, hb, hh, hnc, hcm, hcs, htake⟩
  · cases hv0
  injection hv0 with ha _ hc
  injection ha with ha
  injection ha with hg
  subst hg; subst hc
  have hfit : m * d.sz + 0 + z.cells.toList.length ≤ cur.size := by
    rw [hcs, Array.length_toList, hz, Nat.add_zero, ← Nat.succ_mul]
    exact Nat.mul_le_mul_right _ hm
  have hst := run_storeCells_at P g (m * d.sz) e z.cells.toList 0 cur W hh hfit hone
  refine ⟨W.setRow g (cur.toList.take (m * d.sz + 0) ++ z.cells.toList ++ cur.toList.drop (m * d.sz + 0 + z.cells.toList.length)).toArray, ?_, ⟨hok, inner, ⟨hown.1, .inr ⟨g, cap, _, by rw [hn], hb, setRow_heap W g cur _ _ _ hh, hnc, hcm, ?_, ?_⟩⟩, hr.1, fun j p hj => ?_⟩, setRow_grown _ _ _⟩
  · simp [Builtin.clear_, run_underlying ht, hv, zeroCells_one, hst]
  · simp only [List.size_toArray, List.length_append, List.length_take, List.length_drop, Array.length_toList, Nat.add_zero] at hfit ⊢
    omega
  · rw [← hn, Nat.add_zero, List.append_assoc, List.take_append_of_le_length (by rw [List.length_take, Array.length_toList]; omega), List.take_take, Nat.min_self]
    rw [← hn] at htake
    exact htake
  · exact d.M_mono (fun k hk => hk.1) (d.M_move (fun k hk => (setRow_grown W g _).block k hk.2.2.1 (fun he => hk.1.2 (by rw [he]; simp [Value.ownBlock]))) (d.M_bound (hr.2 j p hj)))
theorem delete_at (cap k g : Nat) : (if cap = k + 1 then some ⟨g, 0, none⟩ else some ⟨g, (k + 1) * 6, none⟩ : Option Addr) = if cap = k + 1 then some ⟨g, 0, none⟩ else (some (⟨g, 0, none⟩ : Addr)).map (·.add ((k + 1) * k52.sz)) := by
  split
  · rfl
  · rw [Option.map_some, add_at, Nat.zero_add]
    rfl
set_option maxHeartbeats 3200000 in
set_option maxRecDepth 100000 in
/-- slices.Delete of one element of an own row. -/
theorem Delete_api_Position.calls (g cap n k : Nat) (xs : List S52) (base : Nat) (ok : Nat → Prop) (w0 w : World) (HR : Kd.R k52 52 w base ok (.slice (some ⟨g, 0, none⟩) n cap) xs) (hk : k < n) (hbase : base ≤ w.heap.size) (HB : Below base w0 w) :
    Calls Try.prog 36 #[.slice (some ⟨g, 0, none⟩) n cap, .int .i64 (k : Int), .int .i64 ((k : Int) + 1)] w fun e w' => e = .returned (.slice (some ⟨g, 0, none⟩) (n - 1) cap) ∧ Kd.R k52 52 w' base ok (.slice (some ⟨g, 0, none⟩) (n - 1) cap) (xs.eraseIdx k) ∧ Below base w0 w' ∧ ∀ b, b < w.heap.size → b ≠ g → w'.heap[b]? = w.heap[b]? := by
  have hnc := (Kd.R_reads' HR).2.1
  have hn := (Kd.R_reads' HR).1
  subst hn
  have HR := Aside0.mk HR
  have HB := Aside0.mk HB
  have hkc : k ≤ cap := by omega
  have hj1 : 0 ≤ (k : Int) + 1 ∧ (k : Int) + 1 ≤ (xs.length : Int) := by omega
  have hcm : cap ≤ maxLen := by
    obtain ⟨_, inner, hown, _⟩ := HR.out
    rcases hown.2 with ⟨hv0, _⟩ | ⟨g', cap', cur, hv0, hb, hh, hnc, hcm, hcs, htake⟩
    · cases hv0
    · injection hv0 with _ _ hc
      omega
  have hM : maxLen = 9223372036854775807 := rfl
  rw [hM] at hcm
  have h1 : ((k : Int) == (k : Int) + 1) = false := beq_eq_false_iff_ne.mpr (by omega)
  go_enter Try.func36, Try.ntmps36
  go_wp2
  refine start_ (n := 8) (S := fun w' => True) (ds := []) (tf 0 8) (by kernel_rfl) rfl rfl trivial (fun hHeld => ?_)
  refine pure_ (i := 0) (N := some 20) (v := ?_) (a' := ?_) (tf 1 7) rfl rfl (by kernel_rfl) (fun _ _ _ h => h) (Or.inl ⟨by rfl, ?_⟩) ?_ ?_
  rotate_left
  · intro w'
    go_simp
    with_reducible rfl
  rotate_left
  · exact ap_
  refine pure_ (i := 1) (N := some 21) (v := ?_) (a' := ?_) (tf 2 6) rfl rfl (by kernel_rfl) (fun _ _ _ h => h) (Or.inl ⟨by rfl, ?_⟩) ?_ ?_
  rotate_left
  · intro w'
    go_simp
    with_reducible rfl
  rotate_left
  · exact ap_
  refine pure_ (i := 2) (N := some 22) (v := ?_) (a' := ?_) (tf 3 5) rfl rfl (by kernel_rfl) (fun _ _ _ h => h) (Or.inl ⟨by rfl, ?_⟩) ?_ ?_
  rotate_left
  · intro w'
    go_simp
    with_reducible rfl
  rotate_left
  · exact ap_
  refine pure_ (i := 3) (N := some 23) (v := ?_) (a' := ?_) (tf 4 4) rfl rfl (by kernel_rfl) (fun _ _ _ h => h) (Or.inl ⟨by rfl, ?_⟩) ?_ ?_
  rotate_left
  · intro w'
    go_simp
    with_reducible rfl
  rotate_left
  · exact ap_
  refine pure_ (i := 4) (N := some 24) (v := ?_) (a' := ?_) (tf 5 3) rfl rfl (by kernel_rfl) (fun _ _ _ h => h) (Or.inl ⟨by rfl, ?_⟩) ?_ ?_
  rotate_left
  · intro w'
    go_simp
    with_reducible rfl
  rotate_left
  · exact ap_
  refine pure_ (i := 5) (N := some 25) (v := ?_) (a' := ?_) (tf 6 2) rfl rfl (by kernel_rfl) (fun _ _ _ h => h) (Or.inl ⟨by rfl, ?_⟩) ?_ ?_
  rotate_left
  · intro w'
    go_simp
    with_reducible rfl
  rotate_left
  · exact ap_
  refine one_ (i := 6) (N := some 26) (tf 7 1) rfl rfl (by kernel_rfl) (by decide) (fun K hK => ?_)
  refine Kd.R_delete_step k52 (w0 := w0) (W := w.drew) base (by rfl) (.tmp 22) (.tmp 25) 56 52 rfl Try.underlying56 (by kernel_rfl) (g := g) (n := xs.length) (c := cap) (k := k) (m := xs.length - (k + 1)) (A := if cap = k + 1 then some ⟨g, 0, none⟩ else some ⟨g, (k + 1) * 6, none⟩) (c2 := cap - (k + 1)) (xs := xs) (ok := ok) rfl rfl ?hA rfl ?hO hk ?hB ?hS ?_
  (case hA => exact delete_at cap k g)
  (case hO => exact Kd.R_drew HR.out)
  (case hB => exact below_drew HB.out)
  (case hS => exact hbase)
  intro w1 hR1 hb1 hg1
  have HR1 := Aside0.mk hR1
  have HB1 := Aside0.mk hb1
  have HG1 := Aside0.mk hg1
  clear hR1 hb1 hg1
  refine hK.out _ _ trivial (fun hHeld => ?_)
  clear hK K
  refine norm_ (a' := ?_) ?_ ?_
  rotate_left
  · show Act.put _ (some 26) _ = _
    simp only [Act.put, List.setIfInBounds_toArray, List.set_cons_zero, List.set_cons_succ, i64_w, i32_w]
    rfl
  refine pure_ (i := 7) (N := some 0) (v := ?_) (a' := ?_) (tf 8 0) rfl rfl (by kernel_rfl) (fun _ _ _ h => h) (Or.inl ⟨by rfl, ?_⟩) ?_ ?_
  rotate_left
  · intro w'
    go_simp
    with_reducible rfl
  rotate_left
  · exact ap_
  refine done_ (by kernel_rfl) ?_
  have hd : xs.length - (xs.length - 1) = 1 := by omega
  obtain ⟨w2, hcl0, hR2, hg2⟩ := clear_own (P := Try.prog) k52 52 56 0 Try.underlying56 (.agg #[(.string ⟨#[]⟩), (.int .i64 0), (.int .i64 0), (.int .i64 0), (.int .i64 0), (.int .i64 0)]) (fun _ => by kernel_rfl) rfl (by simp [Value.cells, Value.oneCell']) HR1.out (show xs.length - 1 < cap by omega) (cap - (xs.length - 1))
  have hcl : (Builtin.clear_ #[56] 0 #[.slice (some ⟨g, (xs.length - 1) * 6, none⟩) (xs.length - (xs.length - 1)) (cap - (xs.length - 1))]).run Try.prog w1 = .ok (.tuple #[]) w2 := by
    rw [hd]
    exact hcl0
  have HR2 := Aside0.mk hR2
  have HG2 := Aside0.mk hg2
  have hbg := Kd.R_base HR.out g (by simp [Value.ownBlock])
  have hszd : w.drew.heap.size = w.heap.size := rfl
  clear hcl0 hR2 hg2 hd
  go_wp2
  all_goals
    go_ret
    refine ⟨by first | rfl | (have hck : cap = k + 1 := (by assumption); rw [hck]), by first | exact HR2.out | (have hck : cap = k + 1 := (by assumption); subst hck; exact HR2.out), HB1.out.grown HG2.out (Nat.le_trans hbase HG1.out.size) (fun b hb => by injection hb with hb; omega), fun b hb hne => ?_⟩
    rw [HG2.out.block b (Nat.lt_of_lt_of_le hb HG1.out.size) (fun e => hne (by injection e)), HG1.out.block b hb (fun e => hne (by injection e))]
    rfl

theorem tear_side.at_ (b o : Nat) (long : Bool) (w : World) : Calls Try.prog 26 #[.pointer (some ⟨b, o, none⟩), .bool long] w fun e w' => e = .returned (.pointer (some ⟨b, o + (if long = true then 4 else 5), none⟩)) ∧ w' = w := by
  cases long with
  | true =>
    go_enter Try.func26, Try.ntmps26
    go_wp2
    go_ret
    exact ⟨rfl, rfl⟩
  | false =>
    go_enter Try.func26, Try.ntmps26
    go_wp2
    go_ret
    exact ⟨rfl, rfl⟩
theorem tear_rd {l : List S58} (i : Nat) : rd_T58 l (i : Int) = l.getD i z58 := rfl
/-- A holding of an own row: its cells, its positions, the row without it. -/
theorem tear_open {W : World} {base g cv : Nat} {ok : Nat → Prop} {l : List S58} (h : Kd.S k58 58 W base ok (.slice (some ⟨g, 0, none⟩) l.length cv) l) {i : Nat} (hi : i < l.length) :
    ∃ (oki : Nat → Prop) (v2 : Value), W.cell? ⟨g, i * 3, none⟩ = some (.string (rd_T58 l i).f0.f0) ∧ W.cell? ⟨g, i * 3 + 1, none⟩ = some (.string (rd_T58 l i).f0.f1) ∧ W.cell? ⟨g, i * 3 + 2, none⟩ = some v2 ∧ W.frozen? ⟨g, i * 3 + 2, none⟩ = false ∧
      Kd.R k52 52 W base oki v2 (rd_T58 l i).f1 ∧ (∀ k, oki k → ok k ∧ k ≠ g) ∧
      Kd.H k58 58 W base ok (.slice (some ⟨g, 0, none⟩) l.length cv) l (i : Int) oki [.string (rd_T58 l i).f0.f0, .string (rd_T58 l i).f0.f1, v2] := by
  obtain ⟨oki, c, hcl, hM, hcell, hfr, hok, hH⟩ := Kd.S_elem h z58 (i : Int) (by omega) (by omega)
  obtain ⟨v2, rfl, hR⟩ := k58_openM hM
  have h0 := hcell 0 _ rfl
  have h1 := hcell 1 _ rfl
  have h2 := hcell 2 _ rfl
  have f2 := hfr 2
  exact ⟨oki, v2, h0, h1, h2, f2, hR, hok, hH⟩
/-- The lots of a position of an own row. -/
theorem tear_lots {W : World} {base g n c : Nat} {ok : Nat → Prop} {l : List S52} (h : Kd.R k52 52 W base ok (.slice (some ⟨g, 0, none⟩) n c) l) {j : Nat} (hj : j < l.length) :
    W.cell? ⟨g, j * 6 + 4, none⟩ = some (.int .i64 (rd_T52 l j).f1) ∧ W.cell? ⟨g, j * 6 + 5, none⟩ = some (.int .i64 (rd_T52 l j).f2) ∧ ∀ m, W.frozen? ⟨g, j * 6 + m, none⟩ = false := by
  have hn := (Kd.R_reads' h).1
  obtain ⟨c', hc1, hM, hcell, hfr⟩ := Kd.R_elem h z52 (j : Int) (by omega) (by omega)
  obtain rfl := k52_openM hM
  exact ⟨hcell 4 _ rfl, hcell 5 _ rfl, hfr⟩
theorem tear_put {W : World} {base g n c f : Nat} {ok : Nat → Prop} {l : List S52} {p : S52} (h : Kd.R k52 52 W base ok (.slice (some ⟨g, 0, none⟩) n c) l) {j : Nat} (hj : j < l.length) (long : Bool) (hf : f = if long = true then 4 else 5) (hp : rd_T52 l j = p) (v : Int) :
    Kd.R k52 52 (W.setCell ⟨g, j * 6 + f, none⟩ (.int .i64 v)) base ok (.slice (some ⟨g, 0, none⟩) n c) (l.set j (if long = true then ⟨p.f0, v, p.f2⟩ else ⟨p.f0, p.f1, v⟩)) ∧ W.grownBy (W.setCell ⟨g, j * 6 + f, none⟩ (.int .i64 v)) (some g) := by
  have hn := (Kd.R_reads' h).1
  obtain ⟨c', hc1, hM, hcell, hfr⟩ := Kd.R_elem h z52 (j : Int) (by omega) (by omega)
  obtain rfl := k52_openM hM
  subst hf hp
  cases long with
  | true => exact Kd.R_seg h (j : Int) (by omega) (by omega) (seg := [.int .i64 v]) (j := 4) (x' := ⟨(rd_T52 l j).f0, v, (rd_T52 l j).f2⟩) (okp := fun _ => False) hc1 hcell (show _ + 1 ≤ 6 by decide) (k52_mkM _ _ _ _) (fun _ hk => hk.elim)
  | false => exact Kd.R_seg h (j : Int) (by omega) (by omega) (seg := [.int .i64 v]) (j := 5) (x' := ⟨(rd_T52 l j).f0, (rd_T52 l j).f1, v⟩) (okp := fun _ => False) hc1 hcell (show _ + 1 ≤ 6 by decide) (k52_mkM _ _ _ _) (fun _ hk => hk.elim)
theorem tear_rdset (l : List S52) (j : Nat) (q : S52) (hj : j < l.length) : rd_T52 (l.set j q) (j : Int) = q := by
  show (l.set j q).getD j _ = q
  simp [List.getD_eq_getElem?_getD, hj]
/-- The holding back in its row. -/
theorem tear_restore {W : World} {base g cv i : Nat} {ok oki : Nat → Prop} {l : List S58} {a b : ByteArray} {v2 v3 : Value} {ps : List S52} (hH : Kd.H k58 58 W base ok (.slice (some ⟨g, 0, none⟩) l.length cv) l (i : Int) oki [.string a, .string b, v2]) (hi : i < l.length) (hok : ∀ k, oki k → k ≠ g)
    (hR : Kd.R k52 52 W base oki v3 ps) : Kd.S k58 58 (W.setCell ⟨g, i * 3 + 2, none⟩ v3) base ok (.slice (some ⟨g, 0, none⟩) l.length cv) (l.set i ⟨⟨a, b⟩, ps⟩) ∧ W.grownBy (W.setCell ⟨g, i * 3 + 2, none⟩ v3) (some g) := by
  obtain ⟨h2, h3⟩ := Kd.H_seg hH (by omega) (by omega) (seg := [v3]) (j := 2) (show 2 + 1 ≤ 3 by decide) (fun q hq => by
    obtain rfl := List.mem_singleton.1 hq
    obtain ⟨A, c, rfl⟩ := Kd.R_slice hR
    simp [Value.oneCell'])
  exact ⟨Kd.H_back h2 (k58_mkM _ _ _ ⟨⟨a, b⟩, ps⟩ (Kd.R_grown hR h3 (fun k hk he => hok k hk (by injection he)))) (fun _ hk => hk), h3⟩
theorem tear_back {W : World} {base g cv i : Nat} {ok oki : Nat → Prop} {l : List S58} {a b : ByteArray} {v2 : Value} {ps : List S52} (hH : Kd.H k58 58 W base ok (.slice (some ⟨g, 0, none⟩) l.length cv) l (i : Int) oki [.string a, .string b, v2])
    (hR : Kd.R k52 52 W base oki v2 ps) : Kd.S k58 58 W base ok (.slice (some ⟨g, 0, none⟩) l.length cv) (l.set i ⟨⟨a, b⟩, ps⟩) :=
  Kd.H_back hH (k58_mkM _ _ _ ⟨⟨a, b⟩, ps⟩ hR) (fun _ hk => hk)
theorem tear_form {α : Type} {d : Kd α} {e n : Nat} {W : World} {base : Nat} {ok : Nat → Prop} {v : Value} {xs : List α} {b : Nat} (h : d.R e W base ok v xs) (hb : v.ownBlock = some b) (hn : xs.length = n) : ∃ cv, v = .slice (some ⟨b, 0, none⟩) n cv := by
  obtain ⟨A, c, rfl⟩ := Kd.R_slice h
  cases A with
  | none => simp [Value.ownBlock] at hb
  | some a =>
    obtain ⟨g, rfl⟩ := Kd.R_head h
    simp only [Value.ownBlock, Option.some.injEq] at hb
    subst hb
    exact ⟨c, by rw [hn]⟩
theorem tear_reads {α : Type} {d : Kd α} {e n c : Nat} {W : World} {base : Nat} {ok : Nat → Prop} {A : Option Addr} {xs : List α} (h : Kd.S d e W base ok (.slice A n c) xs) : d.C W A xs.length xs := by
  obtain ⟨A', c', he, _, hC⟩ := Kd.S_reads h
  injection he with h1 _ _
  rw [h1]
  exact hC
theorem tear_side.of (b o f : Nat) (long : Bool) (hf : f = if long = true then 4 else 5) (w : World) : Calls Try.prog 26 #[.pointer (some ⟨b, o, none⟩), .bool long] w fun e w' => e = .returned (.pointer (some ⟨b, o + f, none⟩)) ∧ w' = w := by
  rw [hf]
  exact tear_side.at_ b o long w
theorem tear_lot {W : World} {base g c f : Nat} {ok : Nat → Prop} {l : List S52} {p : S52} {lot : Int} (h : Kd.R k52 52 W base ok (.slice (some ⟨g, 0, none⟩) l.length c) l) {j : Nat} (hj : j < l.length) (long : Bool) (hf : f = if long = true then 4 else 5) (hp : rd_T52 l j = p) (hlot : (if long = true then p.f1 else p.f2) = lot) :
    W.cell? ⟨g, j * 6 + f, none⟩ = some (.int .i64 lot) ∧ W.frozen? ⟨g, j * 6 + f, none⟩ = false := by
  obtain ⟨h4, h5, hz⟩ := tear_lots h hj
  subst hf hlot hp
  cases long with
  | true => exact ⟨h4, hz 4⟩
  | false => exact ⟨h5, hz 5⟩
theorem tear_delete (g cap n k : Nat) (xs : List S52) (base : Nat) (ok : Nat → Prop) (w : World) (e : Int) (he : e = (k : Int) + 1) (HR : Kd.R k52 52 w base ok (.slice (some ⟨g, 0, none⟩) n cap) xs) (hk : k < n) (hbase : base ≤ w.heap.size) :
    Calls Try.prog 36 #[.slice (some ⟨g, 0, none⟩) n cap, .int .i64 (k : Int), .int .i64 e] w fun r w' => r = .returned (.slice (some ⟨g, 0, none⟩) (n - 1) cap) ∧ Kd.R k52 52 w' base ok (.slice (some ⟨g, 0, none⟩) (n - 1) cap) (xs.eraseIdx k) ∧ w.grownBy w' (some g) := by
  subst he
  exact (Delete_api_Position.calls g cap n k xs base ok w w HR hk hbase (Below.refl _ _)).mono (fun r w' ⟨h1, h2, hb, hu⟩ => ⟨h1, h2, ⟨hb.os, hb.tape, hb.output, hb.size, fun i hi hne => hu i hi (fun e => hne (by rw [e]))⟩⟩)
theorem tear_erase (l : List S52) (m : Nat) (q : S52) : (l.set m q).eraseIdx m = l.eraseIdx m := by
  induction l generalizing m with
  | nil => rfl
  | cons x r ih =>
    cases m with
    | zero => rfl
    | succ m => simp only [List.set_cons_succ, List.eraseIdx_cons_succ, ih]

def tear_Apply.acc (a b : S55) : Bool := eqD55 a.f0 b.f0 a.f1 b.f1
def tear_Apply.left (long : Bool) (p : S52) (n : Int) : S52 := if long = true then ⟨p.f0, wrap64 (p.f1 - n), p.f2⟩ else ⟨p.f0, p.f1, wrap64 (p.f2 - n)⟩
theorem tear_Apply.left_eq (long : Bool) (p : S52) (n lot : Int) (h : (if long = true then p.f1 else p.f2) = lot) : tear_Apply.left long p n = if long = true then ⟨p.f0, wrap64 (lot - n), p.f2⟩ else ⟨p.f0, p.f1, wrap64 (lot - n)⟩ := by
  subst h
  cases long <;> rfl
/-- Part by part: the holdings that are left, and whose part was done. -/
def tear_Apply.go (s0 : ByteArray) (s1 s2 s3 : Int) (long : Bool) : List S62 → List S58 → List (S55 × Unit) → Option (List S58 × Int)
  | [], out, _ => some (out, 0)
  | x :: r, out, d =>
    if idxOf (fun h : S58 => tear_Apply.acc h.f0 x.f0) out 0 < 0 ∨ (Go.Proofs.YtjmkdmbgldcleaaHand.look accQ d x.f0).isSome = true then some ([], 21)
    else if x.f1 < 1 ∨ x.f1 > 1048576 then some ([], 18)
    else if idxOf (position_place.q s0 s1 s2 s3) (rd_T58 out (idxOf (fun h : S58 => tear_Apply.acc h.f0 x.f0) out 0)).f1 0 < 0 then some ([], 30)
    else
      let i := idxOf (fun h : S58 => tear_Apply.acc h.f0 x.f0) out 0
      let h := rd_T58 out i
      let j := idxOf (position_place.q s0 s1 s2 s3) h.f1 0
      let p := rd_T52 h.f1 j
      let q := tear_Apply.left long p x.f1
      if (if long = true then p.f1 else p.f2) < x.f1 then some ([], 30)
      else if 1000000 < h.f1.length then none
      else tear_Apply.go s0 s1 s2 s3 long r (out.set i.toNat ⟨h.f0, if q.f1 = 0 ∧ q.f2 = 0 then h.f1.eraseIdx j.toNat else h.f1.set j.toNat q⟩) (d ++ [(x.f0, ())])
def tear_Apply.f (k : Nat) (l0 : List S58) (s0 : ByteArray) (s1 s2 s3 : Int) (long : Bool) (l3 : List S62) : Option (List S58 × Int) :=
  (tear_check.f k l0 [(l3.length : Int)]).bind fun e => if e = 0 then (if (l3.all fun x => accOk x.f0) = true then (if (l0.all fun h => decide (h.f1.length * 56 ≤ 140737488355328)) = true then tear_Apply.go s0 s1 s2 s3 long l3 l0 [] else none) else none) else some ([], e)
theorem tear_Apply.mono : ∀ a0 a1 a2 a3 a4 a5 a6 k, LeO (tear_Apply.f k a0 a1 a2 a3 a4 a5 a6) (tear_Apply.f (k + 1) a0 a1 a2 a3 a4 a5 a6) := by
  intro a0 a1 a2 a3 a4 a5 a6 k
  unfold tear_Apply.f
  exact LeO.bind (tear_check.mono _ _ _) (fun e => LeO.refl _)
theorem tear_Apply.pred (a b : ByteArray) (q : Int) (w : World) (bx : Nat) (hb : w.heap[bx]? = some (.cells #[.string a, .string b, .int .i64 q] 62 (0, 0))) :
    PredK Try.prog k58 33 #[.pointer (some ⟨bx, 0, none⟩)] (fun h : S58 => tear_Apply.acc h.f0 ⟨a, b⟩) w := by
  intro W x cs hW hK
  obtain ⟨A2, c2, rfl, hl, hC⟩ := k58_open hK
  have hb' := blk_below hb hW
  have h0 : W.cell? ⟨bx, 0, none⟩ = some (.string a) := (blk_cell hb' 0).trans rfl
  have h1 : W.cell? ⟨bx, 1, none⟩ = some (.string b) := (blk_cell hb' 1).trans rfl
  have hlt := blk_lt hb'
  clear hb hb' hK hl hC
  go_enter Try.func33, Try.ntmps33
  go_wp2
  go_ret
  exact ⟨rfl, (Below.refl _ _).alloc (Nat.le_refl _) _⟩
/-- The predicate of the series, its box being kept. -/
theorem tear_Apply.pred2 (a1_0 : ByteArray) (a1_1 a1_2 a1_3 : Int) (w : World) (b : Nat) (hb : w.heap[b]? = some (.cells #[.string a1_0, .int .i64 a1_1, .int .i64 a1_2, .int .i64 a1_3] 24 (0, 0))) :
    PredK Try.prog k52 35 #[.pointer (some ⟨b, 0, none⟩)] (position_place.q a1_0 a1_1 a1_2 a1_3) w := by
  intro W x cs hW hK
  obtain rfl := k52_open hK
  have hb' := blk_below hb hW
  have h0 : W.cell? ⟨b, 0, none⟩ = some (.string a1_0) := (blk_cell hb' 0).trans rfl
  have h1 : W.cell? ⟨b, 1, none⟩ = some (.int .i64 a1_1) := (blk_cell hb' 1).trans rfl
  have h2 : W.cell? ⟨b, 2, none⟩ = some (.int .i64 a1_2) := (blk_cell hb' 2).trans rfl
  have h3 : W.cell? ⟨b, 3, none⟩ = some (.int .i64 a1_3) := (blk_cell hb' 3).trans rfl
  have hlt := blk_lt hb'
  clear hb hb' hK
  go_enter Try.func35, Try.ntmps35
  go_wp2
  go_ret
  exact ⟨rfl, (Below.refl _ _).alloc (Nat.le_refl _) _⟩
theorem tear_Apply.zero (w : World) : (zeroValue 81).run Try.prog w = .ok (.agg #[]) w := by kernel_rfl
theorem tear_Apply.look {w : World} {b : Nat} {m : List (S55 × Unit)} {a : S55} {kl : Lit} {q : Bool} (hb : w.heap[b]? = some (Go.Proofs.YtjmkdmbgldcleaaHand.objM accK (fun _ => .agg #[]) m)) (hk : Go.Proofs.YtjmkdmbgldcleaaHand.KeysOk Try.prog 55 accK m) (hkey : keyOf Try.prog 55 (accK a) = some kl) (h : (Go.Proofs.YtjmkdmbgldcleaaHand.look accQ m a).isSome = q) :
    (Instr.lookup 78 (.map (some b)) (accK a) true).run Try.prog w = .ok (.tuple #[.agg #[], .bool q]) w := by
  have hz := Go.Proofs.YtjmkdmbgldcleaaHand.run_look acc_keyed Try.underlying78 (tear_Apply.zero w) hb hk hkey (q := accQ) (fun p hp => accQ_iff _ _) true
  cases hl : Go.Proofs.YtjmkdmbgldcleaaHand.look accQ m a with
  | none => rw [hl] at hz h; subst h; exact hz
  | some v => rw [hl] at hz h; subst h; exact hz
set_option maxHeartbeats 3200000 in
set_option maxRecDepth 100000 in
theorem tear_Apply.calls (k : Nat) (A0 : Option Addr) (c0 : Nat) (l0 : List (S58)) (s0 : ByteArray) (s1 s2 s3 : Int) (long : Bool) (A3 : Option Addr) (c3 : Nat) (l3 : List (S62)) (r1 : List S58) (r2 : Int) (w : World) (hr0 : Kd.C k58 w A0 l0.length l0) (hc0 : l0.length ≤ c0) (hr3 : Kd.C k62 w A3 l3.length l3) (hc3 : l3.length ≤ c3) (h : tear_Apply.f k l0 s0 s1 s2 s3 long l3 = some (r1, r2)) :
    Calls Try.prog 13 #[.slice A0 l0.length c0, .agg #[.string s0, .int .i64 s1, .int .i64 s2, .int .i64 s3], .bool long, .slice A3 l3.length c3] w fun e w' => ∃ v0_ : Value, e = .returned (.tuple #[v0_, .int .i64 r2]) ∧ Kd.S k58 58 w' w.heap.size (fun _ => True) v0_ r1 ∧ Below w.heap.size w w' := by
  have HR0 := Aside0.mk hr0
  have HC0 := Aside0.mk hc0
  have HR3 := Aside0.mk hr3
  have hl0 := hr0.2.1
  have hl3 := hr3.2.1
  clear hr0 hc0 hr3 hc3
  unfold tear_Apply.f at h
  obtain ⟨e, hE, h⟩ := Option.bind_eq_some_iff.mp h
  have HE := Aside0.mk hE
  by_cases he : e = 0
  case neg =>
    rw [if_neg he] at h
    have h2 := Option.some.inj h
    simp only [Prod.mk.injEq] at h2
    obtain ⟨rfl, rfl⟩ := h2
    have h0b : (e == 0) = false := beq_eq_false_iff_ne.mpr he
    have h1b : (e != 0) = true := bne_iff_ne.mpr he
    clear he h hE
    go_enter Try.func13, Try.ntmps13
    go_wp2_with (go_at_call 24; refine (tear_check.calls1 k A0 c0 l0 e _ (Kd.C_alloc (Kd.C_alloc HR0.out _) _) HC0.out (l3.length : Int) (w.heap.size + 1) (by have h9 := blk_new (w.alloc (.cells #[.string s0, .int .i64 s1, .int .i64 s2, .int .i64 s3] 24 (0, 0))) (.cells #[.int .i64 (l3.length : Int)] 3 (0, 0)); simpa using h9) HE.out).mono ?_; rintro _ w2 ⟨rfl, hb⟩; have HB2 := Aside0.mk (below_step (below_alloc (below_alloc (Below.refl _ w) (.cells #[.string s0, .int .i64 s1, .int .i64 s2, .int .i64 s3] 24 (0, 0))) (.cells #[.int .i64 (l3.length : Int)] 3 (0, 0))) hb); clear hb)
    go_ret2
    exact ⟨_, rfl, Kd.S_nil _ _ _ _ _, HB2.out⟩
  subst he
  rw [if_pos rfl] at h
  have hlen : l0.length ≤ 1024 := by
    unfold tear_check.f at hE
    by_cases c : ((([(l3.length : Int)] : List Int).any (fun n => decide (1024 < n))) = true ∨ 1024 < l0.length)
    · rw [if_pos c] at hE; cases hE
    · have : ¬ 1024 < l0.length := fun e => c (.inr e)
      omega
  have HLEN := Aside0.mk hlen
  by_cases hs : (l3.all fun x => accOk x.f0) = true
  case neg => rw [if_neg hs] at h; cases h
  rw [if_pos hs] at h
  by_cases hf : (l0.all fun h => decide (h.f1.length * 56 ≤ 140737488355328)) = true
  case neg => rw [if_neg hf] at h; cases h
  rw [if_pos hf] at h
  have HS := Aside0.mk hs
  have HF := Aside0.mk hf
  have HH := Aside0.mk h
  have hmm := @run_makeMap Try.prog
  clear hE h hs hf
  go_enter Try.func13, Try.ntmps13
  go_wp2_with (first | (go_at_call 24; refine (tear_check.calls1 k A0 c0 l0 0 _ (Kd.C_alloc (Kd.C_alloc HR0.out _) _) HC0.out (l3.length : Int) (w.heap.size + 1) (by have h9 := blk_new (w.alloc (.cells #[.string s0, .int .i64 s1, .int .i64 s2, .int .i64 s3] 24 (0, 0))) (.cells #[.int .i64 (l3.length : Int)] 3 (0, 0)); simpa using h9) HE.out).mono ?_; rintro _ w2 ⟨rfl, hb⟩; have HB2 := Aside0.mk (below_step (below_alloc (below_alloc (Below.refl _ w) (.cells #[.string s0, .int .i64 s1, .int .i64 s2, .int .i64 s3] 24 (0, 0))) (.cells #[.int .i64 (l3.length : Int)] 3 (0, 0))) hb); have BS2 := Aside0.mk (blk_below (blk_alloc (blk_new w (.cells #[.string s0, .int .i64 s1, .int .i64 s2, .int .i64 s3] 24 (0, 0))) (.cells #[.int .i64 (l3.length : Int)] 3 (0, 0))) hb); clear hb) | ((with_reducible refine gate_dst (N := 29) rfl ?_); refine Kd.R_make (Kd.raw 3) (w0 := w) w.heap.size 58 rfl (N := 29) rfl 22 _ _ rfl (l0.length : Int) rfl rfl Try.underlying22 (.agg #[(.string ⟨#[]⟩), (.string ⟨#[]⟩), (.slice none 0 0)]) 56 info58 rfl (by decide) (by omega) [.string ⟨#[]⟩, .string ⟨#[]⟩, .slice none 0 0] (okp := fun _ => False) (ok := fun k_ => w2.heap.size ≤ k_) ?hz (fun _ hk => hk.elim) (Nat.le_refl _) (by omega) (by omega) HB2.out HB2.out.size ?_; (case hz => exact ⟨rfl, by simp [Value.cells, Value.oneCell']⟩); intro v29 w3 hR hb hg hnew; have HR := Aside0.mk hR; have HB3 := Aside0.mk hb; have BS3 := Aside0.mk (blk_grown BS2.out hg (by simp)); have HNEW := Aside0.mk hnew; have HB2S := Aside0.mk (blk_lt BS2.out); clear hR hb hg hnew; obtain ⟨g, hgv, hgl⟩ := HNEW.out; have hwg : w.heap.size < g := Nat.lt_of_lt_of_le HB2S.out hgl; have HWG := Aside0.mk hwg; obtain ⟨cv, rfl⟩ := tear_form HR.out hgv (show _ = l0.length by rw [List.length_replicate, Int.toNat_natCast]); obtain ⟨w4, hcp, hmx, hg4, _⟩ := copy_mx (w0 := w) (W := w3) (cv := cv) (l := l0) 22 3 Try.underlying22 (by kernel_rfl) HR.out (by rw [List.length_replicate, Int.toNat_natCast]) HR0.out (c := c0) HB3.out; have HMX := Aside0.mk hmx; have HB4 := Aside0.mk (pw_below_grown HB3.out _ HB3.out.size hg4 (fun k hk => by injection hk with hk; omega)); have BS4 := Aside0.mk (blk_grown BS3.out hg4 (by simp; omega)); clear hmx hg4 hgv hgl HR HNEW HB3 BS3 HB2S hwg))
  go_wp2
  go_loopg [35] l0.length (fun kq v35 w' => ∃ (x : Nat), v35 = .int .i64 x ∧ kq + x = l0.length ∧ Aside0 (Mx w w' w.heap.size g cv l0 x) ∧ Aside0 (w'.heap[w.heap.size]? = some (.cells #[.string s0, .int .i64 s1, .int .i64 s2, .int .i64 s3] 24 (0, 0))) ∧ Aside0 (Below w.heap.size w w'))
  case atStart => exact ⟨0, rfl, by omega, HMX, BS4, HB4⟩
  case round =>
    obtain ⟨x, rfl, hx, HM, HBS, HB⟩ := hrel
    by_cases hlt : x < l0.length
    · obtain ⟨A2, c2, h0, h1, h2, h3⟩ := HM.out.at_ hlt HB.out
      have hcf : api_Position.f (rd_T58 l0 x).f1 = some (rd_T58 l0 x).f1 := by
        unfold api_Position.f
        refine if_pos ?_
        have hm : rd_T58 l0 x ∈ l0 := by
          have : rd_T58 l0 x = l0[x] := by simp [rd_T58, hlt]
          rw [this]
          exact List.getElem_mem hlt
        exact of_decide_eq_true (List.all_eq_true.mp HF.out _ hm)
      have HCF := Aside0.mk hcf
      have H2 := Aside0.mk h2
      have H3 := Aside0.mk h3
      have hgl := World.block_lt_of_cell? _ _ h0
      have H0 := Aside0.mk h0
      have H1 := Aside0.mk h1
      have HGL := Aside0.mk hgl
      clear hcf h2 h3 h1 hgl
      go_wp2_with (go_at_call 31; refine (api_Position.calls A2 c2 _ _ _ H3.out H2.out HCF.out).mono ?_; rintro _ w5 ⟨v5, rfl, h5, hb5⟩; (clear h0); obtain ⟨A5, c5, rfl⟩ := Kd.R_slice h5; have H5 := Aside0.mk h5; have HB5 := Aside0.mk hb5; have h0 := pw_cell_below hb5 H0.out; have h1 := (hb5.frozen (p := ⟨g, x * 3 + 2, none⟩) HGL.out).trans H1.out; clear h5 hb5)
      go_roundg (l0.length - (x + 1))
      case measure => omega
      case rel =>
        obtain ⟨hm2, hbg⟩ := HM.out.put hlt HB5.out H5.out HB.out.size
        have hne := HWG.out
        refine ⟨x + 1, by go_num, by omega, ⟨hm2⟩, ⟨?_⟩, ⟨below_set (below_step HB.out HB5.out) hbg⟩⟩
        exact (Below.heap_setCell _ ⟨g, x * 3 + 2, none⟩ _ _ (by show w.heap.size ≠ g; omega)).trans (blk_below HBS.out HB5.out)
    · have hxe : x = l0.length := by omega
      subst hxe
      have HSO := Aside0.mk (Kd.S_types HM.out.whole HBS.out (by decide))
      clear HM
      go_wp2
      have HMAP := Aside0.mk (blk_new wr (.map #[] 0))
      have HGM := Aside0.mk HB.out.size
      have HSA := Aside0.mk (Kd.S_alloc (Kd.S_elderB HSO.out _ (Nat.le_refl wr.heap.size)) (.map #[] 0))
      clear HSO
      generalize wr.heap.size = gm at HMAP HSA HGM ⊢
      go_loopg [8, 9, 52] l3.length (fun kq v8 v9 v52 w' => ∃ (x : Nat) (out : List S58) (d : List (S55 × Unit)), v8 = .slice (some ⟨g, 0, none⟩) out.length cv ∧ v9 = .int .i64 0 ∧ v52 = .int .i64 x ∧ kq + x = l3.length ∧ Aside0 (tear_Apply.go s0 s1 s2 s3 long (l3.drop x) out d = some (r1, r2)) ∧ Aside0 (Kd.S k58 58 w' w.heap.size (fun k_ => (True ∧ k_ ≠ w.heap.size) ∧ k_ ≠ gm) (.slice (some ⟨g, 0, none⟩) out.length cv) out) ∧ Aside0 (Go.Proofs.YtjmkdmbgldcleaaHand.KeysOk Try.prog 55 accK d) ∧ Aside0 (w'.heap[gm]? = some (Go.Proofs.YtjmkdmbgldcleaaHand.objM accK (fun _ => .agg #[]) d)) ∧ Aside0 (w'.heap[w.heap.size]? = some (.cells #[.string s0, .int .i64 s1, .int .i64 s2, .int .i64 s3] 24 (0, 0))) ∧ Aside0 (Below w.heap.size w w'))
      case atStart => exact ⟨0, l0, [], rfl, rfl, rfl, by omega, HH, HSA, ⟨⟨fun p hp => (by cases hp), List.Pairwise.nil⟩⟩, HMAP, ⟨blk_alloc HBS.out _⟩, ⟨below_alloc HB.out _⟩⟩
      case round =>
        clear HSA HMAP HBS HB
        obtain ⟨x, out, d, rfl, rfl, rfl, hx, HA, HO, HK, HM, HBS, HB⟩ := hrel
        by_cases hlt : x < l3.length
        · obtain ⟨ad, ead, h0, h1, h2⟩ := at_T62 (Kd.C_below HR3.out HB.out) x (by omega) (by omega)
          cases ead
          simp only [Int.toNat_natCast] at h0 h1 h2
          have hpe : rd_T62 l3 x = l3[x] := by simp [rd_T62, hlt]
          have hok : accOk (rd_T62 l3 x).f0 = true := List.all_eq_true.mp HS.out _ (by rw [hpe]; exact List.getElem_mem hlt)
          obtain ⟨kl, hkl⟩ := acc_keyOf' hok
          have hA := HA.out
          rw [List.drop_eq_getElem_cons hlt, tear_Apply.go, ← hpe] at hA
          generalize rd_T62 l3 x = y at *
          obtain ⟨⟨p0, p1⟩, p2⟩ := y
          simp only at h0 h1 h2 hkl hA
          have HKL := Aside0.mk hkl
          have hsz := HB.out.size
          clear hpe hok hkl HA
          have eg1 : ∀ args w, (callFunc 33 args).run Try.prog w = .ok (.enter 33 args) w := enters_of Try.func33 (by kernel_rfl) rfl
          have hix := idxOf_lt (fun h : S58 => tear_Apply.acc h.f0 ⟨p0, p1⟩) out 0
          generalize hie : idxOf (fun h : S58 => tear_Apply.acc h.f0 ⟨p0, p1⟩) out 0 = i at hA hix
          have HIE := Aside0.mk hie
          clear hie
          generalize hlk : (Go.Proofs.YtjmkdmbgldcleaaHand.look accQ d ⟨p0, p1⟩).isSome = q at hA
          have HLK := Aside0.mk hlk
          clear hlk
          by_cases hi : i < 0
          · have g0 : decide (i < 0) = true := decide_eq_true hi
            rw [if_pos (Or.inl hi)] at hA
            simp only [Option.some.injEq, Prod.mk.injEq] at hA
            obtain ⟨rfl, rfl⟩ := hA
            clear hi hix
            go_wp2_with (first | (go_at_call 32; refine (IndexFunc_api_Holding.calls (fun h : S58 => tear_Apply.acc h.f0 ⟨p0, p1⟩) 33 _ eg1 (some ⟨g, 0, none⟩) cv out _ (tear_Apply.pred p0 p1 p2 _ _ (blk_new _ _)) (tear_reads (Kd.S_alloc HO.out _))).mono ?_; rintro _ w5 ⟨rfl, hb5⟩; rw [HIE.out]; have HO5 := Aside0.mk (Kd.S_below (Kd.S_alloc HO.out (.cells #[.string p0, .string p1, .int .i64 p2] 62 (0, 0))) hb5); have HM5 := Aside0.mk (blk_below (blk_alloc HM.out (.cells #[.string p0, .string p1, .int .i64 p2] 62 (0, 0))) hb5); have HBS5 := Aside0.mk (blk_below (blk_alloc HBS.out (.cells #[.string p0, .string p1, .int .i64 p2] 62 (0, 0))) hb5); have HB5 := Aside0.mk (below_step (below_alloc HB.out (.cells #[.string p0, .string p1, .int .i64 p2] 62 (0, 0))) hb5); have HX5 := Aside0.mk (blk_below (blk_new wr (.cells #[.string p0, .string p1, .int .i64 p2] 62 (0, 0))) hb5); have hx0 : World.cell? _ ⟨wr.heap.size, 0, none⟩ = some (.string p0) := (blk_cell HX5.out 0).trans rfl; have hx1 : World.cell? _ ⟨wr.heap.size, 1, none⟩ = some (.string p1) := (blk_cell HX5.out 1).trans rfl; have hx2 : World.cell? _ ⟨wr.heap.size, 2, none⟩ = some (.int .i64 p2) := (blk_cell HX5.out 2).trans rfl; clear hb5) | (at_lookup; refine Go.Proofs.YtjmkdmbgldcleaaHand.wpL_look _ rfl (.tmp 60) (.tmp 62) 78 true rfl gm (accK ⟨p0, p1⟩) _ rfl rfl (tear_Apply.look HM5.out HK.out HKL.out HLK.out) ?_; have hy0 : World.cell? (w5.alloc (.cells #[] 81 (0, 0))) ⟨wr.heap.size, 0, none⟩ = some (.string p0) := (blk_cell (blk_alloc HX5.out _) 0).trans rfl; have hy1 : World.cell? (w5.alloc (.cells #[] 81 (0, 0))) ⟨wr.heap.size, 1, none⟩ = some (.string p1) := (blk_cell (blk_alloc HX5.out _) 1).trans rfl; have hy2 : World.cell? (w5.alloc (.cells #[] 81 (0, 0))) ⟨wr.heap.size, 2, none⟩ = some (.int .i64 p2) := (blk_cell (blk_alloc HX5.out _) 2).trans rfl))
            go_ret2
            exact ⟨_, rfl, Kd.S_nil _ _ _ _ _, below_alloc HB5.out _⟩
          · have g0 : decide (i < 0) = false := decide_eq_false hi
            cases q with
            | true =>
              rw [if_pos (Or.inr rfl)] at hA
              simp only [Option.some.injEq, Prod.mk.injEq] at hA
              obtain ⟨rfl, rfl⟩ := hA
              clear hi hix
              go_wp2_with (first | (go_at_call 32; refine (IndexFunc_api_Holding.calls (fun h : S58 => tear_Apply.acc h.f0 ⟨p0, p1⟩) 33 _ eg1 (some ⟨g, 0, none⟩) cv out _ (tear_Apply.pred p0 p1 p2 _ _ (blk_new _ _)) (tear_reads (Kd.S_alloc HO.out _))).mono ?_; rintro _ w5 ⟨rfl, hb5⟩; rw [HIE.out]; have HO5 := Aside0.mk (Kd.S_below (Kd.S_alloc HO.out (.cells #[.string p0, .string p1, .int .i64 p2] 62 (0, 0))) hb5); have HM5 := Aside0.mk (blk_below (blk_alloc HM.out (.cells #[.string p0, .string p1, .int .i64 p2] 62 (0, 0))) hb5); have HBS5 := Aside0.mk (blk_below (blk_alloc HBS.out (.cells #[.string p0, .string p1, .int .i64 p2] 62 (0, 0))) hb5); have HB5 := Aside0.mk (below_step (below_alloc HB.out (.cells #[.string p0, .string p1, .int .i64 p2] 62 (0, 0))) hb5); have HX5 := Aside0.mk (blk_below (blk_new wr (.cells #[.string p0, .string p1, .int .i64 p2] 62 (0, 0))) hb5); have hx0 : World.cell? _ ⟨wr.heap.size, 0, none⟩ = some (.string p0) := (blk_cell HX5.out 0).trans rfl; have hx1 : World.cell? _ ⟨wr.heap.size, 1, none⟩ = some (.string p1) := (blk_cell HX5.out 1).trans rfl; have hx2 : World.cell? _ ⟨wr.heap.size, 2, none⟩ = some (.int .i64 p2) := (blk_cell HX5.out 2).trans rfl; clear hb5) | (at_lookup; refine Go.Proofs.YtjmkdmbgldcleaaHand.wpL_look _ rfl (.tmp 60) (.tmp 62) 78 true rfl gm (accK ⟨p0, p1⟩) _ rfl rfl (tear_Apply.look HM5.out HK.out HKL.out HLK.out) ?_; have hy0 : World.cell? (w5.alloc (.cells #[] 81 (0, 0))) ⟨wr.heap.size, 0, none⟩ = some (.string p0) := (blk_cell (blk_alloc HX5.out _) 0).trans rfl; have hy1 : World.cell? (w5.alloc (.cells #[] 81 (0, 0))) ⟨wr.heap.size, 1, none⟩ = some (.string p1) := (blk_cell (blk_alloc HX5.out _) 1).trans rfl; have hy2 : World.cell? (w5.alloc (.cells #[] 81 (0, 0))) ⟨wr.heap.size, 2, none⟩ = some (.int .i64 p2) := (blk_cell (blk_alloc HX5.out _) 2).trans rfl))
              go_ret2
              exact ⟨_, rfl, Kd.S_nil _ _ _ _ _, below_alloc HB5.out _⟩
            | false =>
              rw [if_neg (fun h => h.elim hi (fun h => by cases h))] at hA
              have hne : ∀ p ∈ d, accK p.1 ≠ accK ⟨p0, p1⟩ := fun p hp he => by
                have hln : Go.Proofs.YtjmkdmbgldcleaaHand.look accQ d ⟨p0, p1⟩ = none := Option.not_isSome_iff_eq_none.mp (by rw [HLK.out]; decide)
                have := Go.Proofs.YtjmkdmbgldcleaaHand.look_none hln p hp
                rw [(accQ_iff _ _).mpr he] at this
                cases this
              have HNE := Aside0.mk hne
              have hng : some w.heap.size ≠ some gm := fun e => by
                have h3 := HBS.out
                rw [show w.heap.size = gm by injection e, HM.out] at h3
                simp [Go.Proofs.YtjmkdmbgldcleaaHand.objM] at h3
              have hnx : some wr.heap.size ≠ some gm := fun e => by
                have := blk_lt HM.out
                injection e with e
                omega
              have HNG := Aside0.mk hng
              have HNX := Aside0.mk hnx
              clear hne hng hnx
              obtain ⟨n, rfl⟩ := Int.eq_ofNat_of_zero_le (by omega : 0 ≤ i)
              have hnl : n < out.length := by omega
              clear hi hix
              by_cases hq : p2 < 1 ∨ p2 > 1048576
              · rw [if_pos hq] at hA
                simp only [Option.some.injEq, Prod.mk.injEq] at hA
                obtain ⟨rfl, rfl⟩ := hA
                by_cases hq1 : p2 < 1
                · have g1 : decide (p2 < 1) = true := decide_eq_true hq1
                  clear hq hq1
                  go_wp2_with (first | (go_at_call 32; refine (IndexFunc_api_Holding.calls (fun h : S58 => tear_Apply.acc h.f0 ⟨p0, p1⟩) 33 _ eg1 (some ⟨g, 0, none⟩) cv out _ (tear_Apply.pred p0 p1 p2 _ _ (blk_new _ _)) (tear_reads (Kd.S_alloc HO.out _))).mono ?_; rintro _ w5 ⟨rfl, hb5⟩; rw [HIE.out]; have HO5 := Aside0.mk (Kd.S_below (Kd.S_alloc HO.out (.cells #[.string p0, .string p1, .int .i64 p2] 62 (0, 0))) hb5); have HM5 := Aside0.mk (blk_below (blk_alloc HM.out (.cells #[.string p0, .string p1, .int .i64 p2] 62 (0, 0))) hb5); have HBS5 := Aside0.mk (blk_below (blk_alloc HBS.out (.cells #[.string p0, .string p1, .int .i64 p2] 62 (0, 0))) hb5); have HB5 := Aside0.mk (below_step (below_alloc HB.out (.cells #[.string p0, .string p1, .int .i64 p2] 62 (0, 0))) hb5); have HX5 := Aside0.mk (blk_below (blk_new wr (.cells #[.string p0, .string p1, .int .i64 p2] 62 (0, 0))) hb5); have hx0 : World.cell? _ ⟨wr.heap.size, 0, none⟩ = some (.string p0) := (blk_cell HX5.out 0).trans rfl; have hx1 : World.cell? _ ⟨wr.heap.size, 1, none⟩ = some (.string p1) := (blk_cell HX5.out 1).trans rfl; have hx2 : World.cell? _ ⟨wr.heap.size, 2, none⟩ = some (.int .i64 p2) := (blk_cell HX5.out 2).trans rfl; clear hb5) | (at_lookup; refine Go.Proofs.YtjmkdmbgldcleaaHand.wpL_look _ rfl (.tmp 60) (.tmp 62) 78 true rfl gm (accK ⟨p0, p1⟩) _ rfl rfl (tear_Apply.look HM5.out HK.out HKL.out HLK.out) ?_; have hy0 : World.cell? (w5.alloc (.cells #[] 81 (0, 0))) ⟨wr.heap.size, 0, none⟩ = some (.string p0) := (blk_cell (blk_alloc HX5.out _) 0).trans rfl; have hy1 : World.cell? (w5.alloc (.cells #[] 81 (0, 0))) ⟨wr.heap.size, 1, none⟩ = some (.string p1) := (blk_cell (blk_alloc HX5.out _) 1).trans rfl; have hy2 : World.cell? (w5.alloc (.cells #[] 81 (0, 0))) ⟨wr.heap.size, 2, none⟩ = some (.int .i64 p2) := (blk_cell (blk_alloc HX5.out _) 2).trans rfl) | (at_mapUpdate; refine Go.Proofs.YtjmkdmbgldcleaaHand.wpL_put_new _ rfl (.tmp 71) (.tmp 73) (.tmp 74) 78 rfl acc_keyed Try.underlying78 (blk_alloc HM5.out _) HK.out HKL.out HNE.out () rfl rfl rfl ?_; intro w7 hm7 hg7; (clear hx0 hx1 hx2 hy0 hy1 hy2); have HM7 := Aside0.mk hm7; have HO7 := Aside0.mk (Kd.S_grown (Kd.S_alloc HO5.out _) hg7 (fun k_ hk_ he_ => hk_.2 (by injection he_))); have HBS7 := Aside0.mk (blk_grown (blk_alloc HBS5.out _) hg7 HNG.out); have HX7 := Aside0.mk (blk_grown (blk_alloc HX5.out _) hg7 HNX.out); have HB7 := Aside0.mk (pw_below_grown (below_alloc HB5.out _) _ (below_alloc HB5.out _).size hg7 (fun k_ hk_ => by injection hk_ with hk_; rw [← hk_]; exact HGM.out)); have hx0 : World.cell? _ ⟨wr.heap.size, 0, none⟩ = some (.string p0) := (blk_cell HX7.out 0).trans rfl; have hx1 : World.cell? _ ⟨wr.heap.size, 1, none⟩ = some (.string p1) := (blk_cell HX7.out 1).trans rfl; have hx2 : World.cell? _ ⟨wr.heap.size, 2, none⟩ = some (.int .i64 p2) := (blk_cell HX7.out 2).trans rfl; obtain ⟨oki, v2, hc0, hc1, hc2, hf2, hR2, hok2, hH2⟩ := tear_open HO7.out hnl; obtain ⟨A2, c2, rfl⟩ := Kd.R_slice hR2; have HOK := Aside0.mk hok2; have HR7 := Aside0.mk hR2; have HH7 := Aside0.mk hH2; have HC7 := Aside0.mk hc2; have HF7 := Aside0.mk hf2; clear hm7 hg7 hR2 hok2 hH2 hc0 hc1))
                  go_ret2
                  exact ⟨_, rfl, Kd.S_nil _ _ _ _ _, HB7.out⟩
                · have g1 : decide (p2 < 1) = false := decide_eq_false hq1
                  have g2 : decide (1048576 < p2) = true := decide_eq_true (by omega)
                  clear hq hq1
                  go_wp2_with (first | (go_at_call 32; refine (IndexFunc_api_Holding.calls (fun h : S58 => tear_Apply.acc h.f0 ⟨p0, p1⟩) 33 _ eg1 (some ⟨g, 0, none⟩) cv out _ (tear_Apply.pred p0 p1 p2 _ _ (blk_new _ _)) (tear_reads (Kd.S_alloc HO.out _))).mono ?_; rintro _ w5 ⟨rfl, hb5⟩; rw [HIE.out]; have HO5 := Aside0.mk (Kd.S_below (Kd.S_alloc HO.out (.cells #[.string p0, .string p1, .int .i64 p2] 62 (0, 0))) hb5); have HM5 := Aside0.mk (blk_below (blk_alloc HM.out (.cells #[.string p0, .string p1, .int .i64 p2] 62 (0, 0))) hb5); have HBS5 := Aside0.mk (blk_below (blk_alloc HBS.out (.cells #[.string p0, .string p1, .int .i64 p2] 62 (0, 0))) hb5); have HB5 := Aside0.mk (below_step (below_alloc HB.out (.cells #[.string p0, .string p1, .int .i64 p2] 62 (0, 0))) hb5); have HX5 := Aside0.mk (blk_below (blk_new wr (.cells #[.string p0, .string p1, .int .i64 p2] 62 (0, 0))) hb5); have hx0 : World.cell? _ ⟨wr.heap.size, 0, none⟩ = some (.string p0) := (blk_cell HX5.out 0).trans rfl; have hx1 : World.cell? _ ⟨wr.heap.size, 1, none⟩ = some (.string p1) := (blk_cell HX5.out 1).trans rfl; have hx2 : World.cell? _ ⟨wr.heap.size, 2, none⟩ = some (.int .i64 p2) := (blk_cell HX5.out 2).trans rfl; clear hb5) | (at_lookup; refine Go.Proofs.YtjmkdmbgldcleaaHand.wpL_look _ rfl (.tmp 60) (.tmp 62) 78 true rfl gm (accK ⟨p0, p1⟩) _ rfl rfl (tear_Apply.look HM5.out HK.out HKL.out HLK.out) ?_; have hy0 : World.cell? (w5.alloc (.cells #[] 81 (0, 0))) ⟨wr.heap.size, 0, none⟩ = some (.string p0) := (blk_cell (blk_alloc HX5.out _) 0).trans rfl; have hy1 : World.cell? (w5.alloc (.cells #[] 81 (0, 0))) ⟨wr.heap.size, 1, none⟩ = some (.string p1) := (blk_cell (blk_alloc HX5.out _) 1).trans rfl; have hy2 : World.cell? (w5.alloc (.cells #[] 81 (0, 0))) ⟨wr.heap.size, 2, none⟩ = some (.int .i64 p2) := (blk_cell (blk_alloc HX5.out _) 2).trans rfl) | (at_mapUpdate; refine Go.Proofs.YtjmkdmbgldcleaaHand.wpL_put_new _ rfl (.tmp 71) (.tmp 73) (.tmp 74) 78 rfl acc_keyed Try.underlying78 (blk_alloc HM5.out _) HK.out HKL.out HNE.out () rfl rfl rfl ?_; intro w7 hm7 hg7; (clear hx0 hx1 hx2 hy0 hy1 hy2); have HM7 := Aside0.mk hm7; have HO7 := Aside0.mk (Kd.S_grown (Kd.S_alloc HO5.out _) hg7 (fun k_ hk_ he_ => hk_.2 (by injection he_))); have HBS7 := Aside0.mk (blk_grown (blk_alloc HBS5.out _) hg7 HNG.out); have HX7 := Aside0.mk (blk_grown (blk_alloc HX5.out _) hg7 HNX.out); have HB7 := Aside0.mk (pw_below_grown (below_alloc HB5.out _) _ (below_alloc HB5.out _).size hg7 (fun k_ hk_ => by injection hk_ with hk_; rw [← hk_]; exact HGM.out)); have hx0 : World.cell? _ ⟨wr.heap.size, 0, none⟩ = some (.string p0) := (blk_cell HX7.out 0).trans rfl; have hx1 : World.cell? _ ⟨wr.heap.size, 1, none⟩ = some (.string p1) := (blk_cell HX7.out 1).trans rfl; have hx2 : World.cell? _ ⟨wr.heap.size, 2, none⟩ = some (.int .i64 p2) := (blk_cell HX7.out 2).trans rfl; obtain ⟨oki, v2, hc0, hc1, hc2, hf2, hR2, hok2, hH2⟩ := tear_open HO7.out hnl; obtain ⟨A2, c2, rfl⟩ := Kd.R_slice hR2; have HOK := Aside0.mk hok2; have HR7 := Aside0.mk hR2; have HH7 := Aside0.mk hH2; have HC7 := Aside0.mk hc2; have HF7 := Aside0.mk hf2; clear hm7 hg7 hR2 hok2 hH2 hc0 hc1))
                  go_ret2
                  exact ⟨_, rfl, Kd.S_nil _ _ _ _ _, HB7.out⟩
              · rw [if_neg hq] at hA
                have g1 : decide (p2 < 1) = false := decide_eq_false (by omega)
                have g2 : decide (1048576 < p2) = false := decide_eq_false (by omega)
                have HQ := Aside0.mk hq
                clear hq
                simp only [Int.toNat_natCast] at hA
                have eg2 : ∀ args w, (callFunc 35 args).run Try.prog w = .ok (.enter 35 args) w := enters_of Try.func35 (by kernel_rfl) rfl
                have hjx := idxOf_lt (position_place.q s0 s1 s2 s3) (rd_T58 out (n : Int)).f1 0
                generalize hje : idxOf (position_place.q s0 s1 s2 s3) (rd_T58 out (n : Int)).f1 0 = j at hA hjx
                have HJE := Aside0.mk hje
                clear hje
                by_cases hj : j < 0
                · rw [if_pos hj] at hA
                  simp only [Option.some.injEq, Prod.mk.injEq] at hA
                  obtain ⟨rfl, rfl⟩ := hA
                  have g3 : decide (j < 0) = true := decide_eq_true hj
                  clear hj hjx
                  go_wp2_with (first | (go_at_call 32; refine (IndexFunc_api_Holding.calls (fun h : S58 => tear_Apply.acc h.f0 ⟨p0, p1⟩) 33 _ eg1 (some ⟨g, 0, none⟩) cv out _ (tear_Apply.pred p0 p1 p2 _ _ (blk_new _ _)) (tear_reads (Kd.S_alloc HO.out _))).mono ?_; rintro _ w5 ⟨rfl, hb5⟩; rw [HIE.out]; have HO5 := Aside0.mk (Kd.S_below (Kd.S_alloc HO.out (.cells #[.string p0, .string p1, .int .i64 p2] 62 (0, 0))) hb5); have HM5 := Aside0.mk (blk_below (blk_alloc HM.out (.cells #[.string p0, .string p1, .int .i64 p2] 62 (0, 0))) hb5); have HBS5 := Aside0.mk (blk_below (blk_alloc HBS.out (.cells #[.string p0, .string p1, .int .i64 p2] 62 (0, 0))) hb5); have HB5 := Aside0.mk (below_step (below_alloc HB.out (.cells #[.string p0, .string p1, .int .i64 p2] 62 (0, 0))) hb5); have HX5 := Aside0.mk (blk_below (blk_new wr (.cells #[.string p0, .string p1, .int .i64 p2] 62 (0, 0))) hb5); have hx0 : World.cell? _ ⟨wr.heap.size, 0, none⟩ = some (.string p0) := (blk_cell HX5.out 0).trans rfl; have hx1 : World.cell? _ ⟨wr.heap.size, 1, none⟩ = some (.string p1) := (blk_cell HX5.out 1).trans rfl; have hx2 : World.cell? _ ⟨wr.heap.size, 2, none⟩ = some (.int .i64 p2) := (blk_cell HX5.out 2).trans rfl; clear hb5) | (at_lookup; refine Go.Proofs.YtjmkdmbgldcleaaHand.wpL_look _ rfl (.tmp 60) (.tmp 62) 78 true rfl gm (accK ⟨p0, p1⟩) _ rfl rfl (tear_Apply.look HM5.out HK.out HKL.out HLK.out) ?_; have hy0 : World.cell? (w5.alloc (.cells #[] 81 (0, 0))) ⟨wr.heap.size, 0, none⟩ = some (.string p0) := (blk_cell (blk_alloc HX5.out _) 0).trans rfl; have hy1 : World.cell? (w5.alloc (.cells #[] 81 (0, 0))) ⟨wr.heap.size, 1, none⟩ = some (.string p1) := (blk_cell (blk_alloc HX5.out _) 1).trans rfl; have hy2 : World.cell? (w5.alloc (.cells #[] 81 (0, 0))) ⟨wr.heap.size, 2, none⟩ = some (.int .i64 p2) := (blk_cell (blk_alloc HX5.out _) 2).trans rfl) | (at_mapUpdate; refine Go.Proofs.YtjmkdmbgldcleaaHand.wpL_put_new _ rfl (.tmp 71) (.tmp 73) (.tmp 74) 78 rfl acc_keyed Try.underlying78 (blk_alloc HM5.out _) HK.out HKL.out HNE.out () rfl rfl rfl ?_; intro w7 hm7 hg7; (clear hx0 hx1 hx2 hy0 hy1 hy2); have HM7 := Aside0.mk hm7; have HO7 := Aside0.mk (Kd.S_grown (Kd.S_alloc HO5.out _) hg7 (fun k_ hk_ he_ => hk_.2 (by injection he_))); have HBS7 := Aside0.mk (blk_grown (blk_alloc HBS5.out _) hg7 HNG.out); have HX7 := Aside0.mk (blk_grown (blk_alloc HX5.out _) hg7 HNX.out); have HB7 := Aside0.mk (pw_below_grown (below_alloc HB5.out _) _ (below_alloc HB5.out _).size hg7 (fun k_ hk_ => by injection hk_ with hk_; rw [← hk_]; exact HGM.out)); have hx0 : World.cell? _ ⟨wr.heap.size, 0, none⟩ = some (.string p0) := (blk_cell HX7.out 0).trans rfl; have hx1 : World.cell? _ ⟨wr.heap.size, 1, none⟩ = some (.string p1) := (blk_cell HX7.out 1).trans rfl; have hx2 : World.cell? _ ⟨wr.heap.size, 2, none⟩ = some (.int .i64 p2) := (blk_cell HX7.out 2).trans rfl; obtain ⟨oki, v2, hc0, hc1, hc2, hf2, hR2, hok2, hH2⟩ := tear_open HO7.out hnl; obtain ⟨A2, c2, rfl⟩ := Kd.R_slice hR2; have HOK := Aside0.mk hok2; have HR7 := Aside0.mk hR2; have HH7 := Aside0.mk hH2; have HC7 := Aside0.mk hc2; have HF7 := Aside0.mk hf2; clear hm7 hg7 hR2 hok2 hH2 hc0 hc1) | (go_at_call 34; refine (IndexFunc_api_Position.calls (position_place.q s0 s1 s2 s3) 35 _ eg2 A2 c2 _ _ (tear_Apply.pred2 s0 s1 s2 s3 _ _ HBS7.out) (Kd.R_reads' HR7.out).2.2).mono ?_; rintro _ w8 ⟨rfl, hb8⟩; rw [HJE.out]; (clear hx0 hx1 hx2 hc2 hf2); have HR8 := Aside0.mk (Kd.R_below HR7.out hb8); have HH8 := Aside0.mk (Kd.H_below HH7.out hb8); have HM8 := Aside0.mk (blk_below HM7.out hb8); have HBS8 := Aside0.mk (blk_below HBS7.out hb8); have HX8 := Aside0.mk (blk_below HX7.out hb8); have HB8 := Aside0.mk (below_step HB7.out hb8); have hx2 : World.cell? _ ⟨wr.heap.size, 2, none⟩ = some (.int .i64 p2) := (blk_cell HX8.out 2).trans rfl; have hc2 := pw_cell_below hb8 HC7.out; have hf2 := (hb8.frozen (p := ⟨g, n * 3 + 2, none⟩) (World.block_lt_of_cell? _ _ HC7.out)).trans HF7.out; have HC8 := Aside0.mk hc2; have HF8 := Aside0.mk hf2; clear hb8))
                  refine start_ (n := 18) (S := fun w' => True) (ds := []) (tf 0 18) (by kernel_rfl) rfl rfl trivial (fun hHeld => ?_)
                  refine pure_ (i := 0) (N := some 90) (v := ?_) (a' := ?_) (tf 1 17) rfl rfl (by kernel_rfl) (fun _ _ _ h => h) (Or.inl ⟨by rfl, ?_⟩) ?_ ?_
                  rotate_left
                  · intro w'
                    go_simp
                    with_reducible rfl
                  rotate_left
                  · exact ap_
                  refine pure_ (i := 1) (N := some 91) (v := ?_) (a' := ?_) (tf 2 16) rfl rfl (by kernel_rfl) (fun _ _ _ h => h) (Or.inl ⟨by rfl, ?_⟩) ?_ ?_
                  rotate_left
                  · intro w'
                    go_simp
                    with_reducible rfl
                  rotate_left
                  · exact ap_
                  refine pure_ (i := 2) (N := some 92) (v := ?_) (a' := ?_) (tf 3 15) rfl rfl (by kernel_rfl) (fun _ _ _ h => h) (Or.inl ⟨by rfl, ?_⟩) ?_ ?_
                  rotate_left
                  · intro w'
                    go_simp
                    with_reducible rfl
                  rotate_left
                  · exact ap_
                  refine pure_ (i := 3) (N := some 93) (v := undef) (a' := ?_) (tf 4 14) rfl rfl (by kernel_rfl) (fun _ _ _ h => h) (Or.inr ⟨by rfl, rfl⟩) ?_ ?_
                  rotate_left
                  · exact ap_
                  refine pure_ (i := 4) (N := some 94) (v := undef) (a' := ?_) (tf 5 13) rfl rfl (by kernel_rfl) (fun _ _ _ h => h) (Or.inr ⟨by rfl, rfl⟩) ?_ ?_
                  rotate_left
                  · exact ap_
                  refine pure_ (i := 5) (N := some 95) (v := undef) (a' := ?_) (tf 6 12) rfl rfl (by kernel_rfl) (fun _ _ _ h => h) (Or.inr ⟨by rfl, rfl⟩) ?_ ?_
                  rotate_left
                  · exact ap_
                  refine pure_ (i := 6) (N := some 96) (v := undef) (a' := ?_) (tf 7 11) rfl rfl (by kernel_rfl) (fun _ _ _ h => h) (Or.inr ⟨by rfl, rfl⟩) ?_ ?_
                  rotate_left
                  · exact ap_
                  refine pure_ (i := 7) (N := some 97) (v := undef) (a' := ?_) (tf 8 10) rfl rfl (by kernel_rfl) (fun _ _ _ h => h) (Or.inr ⟨by rfl, rfl⟩) ?_ ?_
                  rotate_left
                  · exact ap_
                  refine pure_ (i := 8) (N := some 98) (v := undef) (a' := ?_) (tf 9 9) rfl rfl (by kernel_rfl) (fun _ _ _ h => h) (Or.inr ⟨by rfl, rfl⟩) ?_ ?_
                  rotate_left
                  · exact ap_
                  refine pure_ (i := 9) (N := some 99) (v := undef) (a' := ?_) (tf 10 8) rfl rfl (by kernel_rfl) (fun _ _ _ h => h) (Or.inr ⟨by rfl, rfl⟩) ?_ ?_
                  rotate_left
                  · exact ap_
                  refine pure_ (i := 10) (N := some 100) (v := undef) (a' := ?_) (tf 11 7) rfl rfl (by kernel_rfl) (fun _ _ _ h => h) (Or.inr ⟨by rfl, rfl⟩) ?_ ?_
                  rotate_left
                  · exact ap_
                  refine pure_ (i := 11) (N := some 101) (v := undef) (a' := ?_) (tf 12 6) rfl rfl (by kernel_rfl) (fun _ _ _ h => h) (Or.inr ⟨by rfl, rfl⟩) ?_ ?_
                  rotate_left
                  · exact ap_
                  refine pure_ (i := 12) (N := some 102) (v := undef) (a' := ?_) (tf 13 5) rfl rfl (by kernel_rfl) (fun _ _ _ h => h) (Or.inr ⟨by rfl, rfl⟩) ?_ ?_
                  rotate_left
                  · exact ap_
                  refine pure_ (i := 13) (N := some 103) (v := undef) (a' := ?_) (tf 14 4) rfl rfl (by kernel_rfl) (fun _ _ _ h => h) (Or.inr ⟨by rfl, rfl⟩) ?_ ?_
                  rotate_left
                  · exact ap_
                  refine pure_ (i := 14) (N := some 104) (v := undef) (a' := ?_) (tf 15 3) rfl rfl (by kernel_rfl) (fun _ _ _ h => h) (Or.inr ⟨by rfl, rfl⟩) ?_ ?_
                  rotate_left
                  · exact ap_
                  refine pure_ (i := 15) (N := some 105) (v := undef) (a' := ?_) (tf 16 2) rfl rfl (by kernel_rfl) (fun _ _ _ h => h) (Or.inr ⟨by rfl, rfl⟩) ?_ ?_
                  rotate_left
                  · exact ap_
                  refine pure_ (i := 16) (N := some 106) (v := undef) (a' := ?_) (tf 17 1) rfl rfl (by kernel_rfl) (fun _ _ _ h => h) (Or.inr ⟨by rfl, rfl⟩) ?_ ?_
                  rotate_left
                  · exact ap_
                  refine pure_ (i := 17) (N := some 107) (v := ?_) (a' := ?_) (tf 18 0) rfl rfl (by kernel_rfl) (fun _ _ _ h => h) (Or.inl ⟨by rfl, ?_⟩) ?_ ?_
                  rotate_left
                  · intro w'
                    go_simp
                    with_reducible rfl
                  rotate_left
                  · exact ap_
                  refine done_ (by kernel_rfl) ?_
                  go_wp2
                  go_ret2
                  exact ⟨_, rfl, Kd.S_nil _ _ _ _ _, below_drew HB8.out⟩
                · rw [if_neg hj] at hA
                  have g3 : decide (j < 0) = false := decide_eq_false hj
                  obtain ⟨m, rfl⟩ := Int.eq_ofNat_of_zero_le (by omega : 0 ≤ j)
                  have hml : m < (rd_T58 out (n : Int)).f1.length := by omega
                  clear hj hjx
                  (try dsimp only at hA)
                  (try simp only [Int.toNat_natCast] at hA)
                  generalize hpe : rd_T52 (rd_T58 out (n : Int)).f1 (m : Int) = p at hA
                  have HPE := Aside0.mk hpe
                  clear hpe
                  generalize hlot : (if long = true then p.f1 else p.f2) = lot at hA
                  have HLOT := Aside0.mk hlot
                  clear hlot
                  obtain ⟨f, hf_⟩ : ∃ f, f = if long = true then 4 else 5 := ⟨_, rfl⟩
                  have HFO := Aside0.mk hf_
                  clear hf_
                  by_cases hs : lot < p2
                  · rw [if_pos hs] at hA
                    simp only [Option.some.injEq, Prod.mk.injEq] at hA
                    obtain ⟨rfl, rfl⟩ := hA
                    have g4 : decide (lot < p2) = true := decide_eq_true hs
                    clear hs
                    go_wp2_with (first | (go_at_call 32; refine (IndexFunc_api_Holding.calls (fun h : S58 => tear_Apply.acc h.f0 ⟨p0, p1⟩) 33 _ eg1 (some ⟨g, 0, none⟩) cv out _ (tear_Apply.pred p0 p1 p2 _ _ (blk_new _ _)) (tear_reads (Kd.S_alloc HO.out _))).mono ?_; rintro _ w5 ⟨rfl, hb5⟩; rw [HIE.out]; have HO5 := Aside0.mk (Kd.S_below (Kd.S_alloc HO.out (.cells #[.string p0, .string p1, .int .i64 p2] 62 (0, 0))) hb5); have HM5 := Aside0.mk (blk_below (blk_alloc HM.out (.cells #[.string p0, .string p1, .int .i64 p2] 62 (0, 0))) hb5); have HBS5 := Aside0.mk (blk_below (blk_alloc HBS.out (.cells #[.string p0, .string p1, .int .i64 p2] 62 (0, 0))) hb5); have HB5 := Aside0.mk (below_step (below_alloc HB.out (.cells #[.string p0, .string p1, .int .i64 p2] 62 (0, 0))) hb5); have HX5 := Aside0.mk (blk_below (blk_new wr (.cells #[.string p0, .string p1, .int .i64 p2] 62 (0, 0))) hb5); have hx0 : World.cell? _ ⟨wr.heap.size, 0, none⟩ = some (.string p0) := (blk_cell HX5.out 0).trans rfl; have hx1 : World.cell? _ ⟨wr.heap.size, 1, none⟩ = some (.string p1) := (blk_cell HX5.out 1).trans rfl; have hx2 : World.cell? _ ⟨wr.heap.size, 2, none⟩ = some (.int .i64 p2) := (blk_cell HX5.out 2).trans rfl; clear hb5) | (at_lookup; refine Go.Proofs.YtjmkdmbgldcleaaHand.wpL_look _ rfl (.tmp 60) (.tmp 62) 78 true rfl gm (accK ⟨p0, p1⟩) _ rfl rfl (tear_Apply.look HM5.out HK.out HKL.out HLK.out) ?_; have hy0 : World.cell? (w5.alloc (.cells #[] 81 (0, 0))) ⟨wr.heap.size, 0, none⟩ = some (.string p0) := (blk_cell (blk_alloc HX5.out _) 0).trans rfl; have hy1 : World.cell? (w5.alloc (.cells #[] 81 (0, 0))) ⟨wr.heap.size, 1, none⟩ = some (.string p1) := (blk_cell (blk_alloc HX5.out _) 1).trans rfl; have hy2 : World.cell? (w5.alloc (.cells #[] 81 (0, 0))) ⟨wr.heap.size, 2, none⟩ = some (.int .i64 p2) := (blk_cell (blk_alloc HX5.out _) 2).trans rfl) | (at_mapUpdate; refine Go.Proofs.YtjmkdmbgldcleaaHand.wpL_put_new _ rfl (.tmp 71) (.tmp 73) (.tmp 74) 78 rfl acc_keyed Try.underlying78 (blk_alloc HM5.out _) HK.out HKL.out HNE.out () rfl rfl rfl ?_; intro w7 hm7 hg7; (clear hx0 hx1 hx2 hy0 hy1 hy2); have HM7 := Aside0.mk hm7; have HO7 := Aside0.mk (Kd.S_grown (Kd.S_alloc HO5.out _) hg7 (fun k_ hk_ he_ => hk_.2 (by injection he_))); have HBS7 := Aside0.mk (blk_grown (blk_alloc HBS5.out _) hg7 HNG.out); have HX7 := Aside0.mk (blk_grown (blk_alloc HX5.out _) hg7 HNX.out); have HB7 := Aside0.mk (pw_below_grown (below_alloc HB5.out _) _ (below_alloc HB5.out _).size hg7 (fun k_ hk_ => by injection hk_ with hk_; rw [← hk_]; exact HGM.out)); have hx0 : World.cell? _ ⟨wr.heap.size, 0, none⟩ = some (.string p0) := (blk_cell HX7.out 0).trans rfl; have hx1 : World.cell? _ ⟨wr.heap.size, 1, none⟩ = some (.string p1) := (blk_cell HX7.out 1).trans rfl; have hx2 : World.cell? _ ⟨wr.heap.size, 2, none⟩ = some (.int .i64 p2) := (blk_cell HX7.out 2).trans rfl; obtain ⟨oki, v2, hc0, hc1, hc2, hf2, hR2, hok2, hH2⟩ := tear_open HO7.out hnl; obtain ⟨A2, c2, rfl⟩ := Kd.R_slice hR2; have HOK := Aside0.mk hok2; have HR7 := Aside0.mk hR2; have HH7 := Aside0.mk hH2; have HC7 := Aside0.mk hc2; have HF7 := Aside0.mk hf2; clear hm7 hg7 hR2 hok2 hH2 hc0 hc1) | (go_at_call 34; refine (IndexFunc_api_Position.calls (position_place.q s0 s1 s2 s3) 35 _ eg2 A2 c2 _ _ (tear_Apply.pred2 s0 s1 s2 s3 _ _ HBS7.out) (Kd.R_reads' HR7.out).2.2).mono ?_; rintro _ w8 ⟨rfl, hb8⟩; rw [HJE.out]; (clear hx0 hx1 hx2 hc2 hf2); have HR8 := Aside0.mk (Kd.R_below HR7.out hb8); have HH8 := Aside0.mk (Kd.H_below HH7.out hb8); have HM8 := Aside0.mk (blk_below HM7.out hb8); have HBS8 := Aside0.mk (blk_below HBS7.out hb8); have HX8 := Aside0.mk (blk_below HX7.out hb8); have HB8 := Aside0.mk (below_step HB7.out hb8); have hx2 : World.cell? _ ⟨wr.heap.size, 2, none⟩ = some (.int .i64 p2) := (blk_cell HX8.out 2).trans rfl; have hc2 := pw_cell_below hb8 HC7.out; have hf2 := (hb8.frozen (p := ⟨g, n * 3 + 2, none⟩) (World.block_lt_of_cell? _ _ HC7.out)).trans HF7.out; have HC8 := Aside0.mk hc2; have HF8 := Aside0.mk hf2; clear hb8))
                    obtain ⟨g2, _, he2, _⟩ := Kd.R_form HR8.out (by omega)
                    have hA2_ : A2 = some ⟨g2, 0, none⟩ := by injection he2
                    subst hA2_
                    clear he2
                    obtain ⟨hl8, hz8⟩ := tear_lot HR8.out hml long HFO.out HPE.out HLOT.out
                    refine start_ (n := 18) (S := fun w' => w'.cell? ⟨g, n * 3 + 2, none⟩ = some (.slice (some ⟨g2, 0, none⟩) (rd_T58 out (n : Int)).f1.length c2) ∧ w'.cell? ⟨g2, m * 6 + f, none⟩ = some (.int .i64 lot) ∧ w'.cell? ⟨wr.heap.size, 2, none⟩ = some (.int .i64 p2)) (ds := []) (tf 0 18) (by kernel_rfl) rfl rfl ⟨hc2, hl8, hx2⟩ (fun hHeld => ?_)
                    refine pure_ (i := 0) (N := some 90) (v := ?_) (a' := ?_) (tf 1 17) rfl rfl (by kernel_rfl) (fun _ _ _ h => h) (Or.inl ⟨by rfl, ?_⟩) ?_ ?_
                    rotate_left
                    · intro w'
                      go_simp
                      with_reducible rfl
                    rotate_left
                    · exact ap_
                    refine pure_ (i := 1) (N := some 91) (v := ?_) (a' := ?_) (tf 2 16) rfl rfl (by kernel_rfl) (fun _ _ _ h => h) (Or.inl ⟨by rfl, ?_⟩) ?_ ?_
                    rotate_left
                    · intro w'
                      go_simp
                      with_reducible rfl
                    rotate_left
                    · exact ap_
                    refine pure_ (i := 2) (N := some 92) (v := ?_) (a' := ?_) (tf 3 15) rfl rfl (by kernel_rfl) (fun _ _ _ h => h) (Or.inl ⟨by rfl, ?_⟩) ?_ ?_
                    rotate_left
                    · intro w'
                      go_simp
                      with_reducible rfl
                    rotate_left
                    · exact ap_
                    refine pure_ (i := 3) (N := some 93) (v := ?_) (a' := ?_) (tf 4 14) rfl rfl (by kernel_rfl) (fun _ _ _ h => h) (Or.inl ⟨by rfl, ?_⟩) ?_ ?_
                    rotate_left
                    · intro w'
                      go_simp
                      with_reducible rfl
                    rotate_left
                    · exact ap_
                    refine pure_ (i := 4) (N := some 94) (v := ?_) (a' := ?_) (tf 5 13) rfl rfl (by kernel_rfl) (fun _ _ _ h => h) (Or.inl ⟨by rfl, ?_⟩) ?_ ?_
                    rotate_left
                    · intro w'
                      go_simp
                      with_reducible rfl
                    rotate_left
                    · exact ap_
                    refine pure_ (i := 5) (N := some 95) (v := ?_) (a' := ?_) (tf 6 12) rfl rfl (by kernel_rfl) (fun _ _ _ h => h) (Or.inl ⟨by rfl, ?_⟩) ?_ ?_
                    rotate_left
                    · intro w'
                      go_simp
                      with_reducible rfl
                    rotate_left
                    · exact ap_
                    refine pure_ (i := 6) (N := some 96) (v := ?_) (a' := ?_) (tf 7 11) rfl rfl (by kernel_rfl) (fun _ _ _ h => h) (Or.inl ⟨by rfl, ?_⟩) ?_ ?_
                    rotate_left
                    · intro w'
                      go_simp
                      with_reducible rfl
                    rotate_left
                    · exact ap_
                    refine pure_ (i := 8) (N := some 98) (v := ?_) (a' := ?_) #[true, true, true, true, true, true, true, false, true, false, false, false, false, false, false, false, false, false] rfl rfl (by kernel_rfl) (fun _ _ _ h => h) (Or.inl ⟨by rfl, ?_⟩) ?_ ?_
                    rotate_left
                    · intro w'
                      go_simp
                      with_reducible rfl
                    rotate_left
                    · exact ap_
                    refine pure_ (i := 10) (N := some 100) (v := ?_) (a' := ?_) #[true, true, true, true, true, true, true, false, true, false, true, false, false, false, false, false, false, false] rfl rfl (by kernel_rfl) (fun _ _ _ h => h) (Or.inl ⟨by rfl, ?_⟩) ?_ ?_
                    rotate_left
                    · intro w'
                      go_simp
                      with_reducible rfl
                    rotate_left
                    · exact ap_
                    refine pure_ (i := 14) (N := some 104) (v := ?_) (a' := ?_) #[true, true, true, true, true, true, true, false, true, false, true, false, false, false, true, false, false, false] rfl rfl (by kernel_rfl) (fun _ _ _ h => h) (Or.inl ⟨by rfl, ?_⟩) ?_ ?_
                    rotate_left
                    · intro w'
                      go_simp
                      with_reducible rfl
                    rotate_left
                    · exact ap_
                    refine take_ (i := 7) (N := some 97) (v := ?_) (a' := ?_) #[true, true, true, true, true, true, true, true, true, false, true, false, false, false, true, false, false, false] rfl rfl (by kernel_rfl) (fun _ _ _ h => h) (Or.inl ⟨by rfl, ?_⟩) hHeld ?_ ?_
                    rotate_left
                    · rintro w' ⟨s0, s1, s2⟩
                      go_simp
                      with_reducible rfl
                    rotate_left
                    · exact ap_
                    refine pure_ (i := 9) (N := some 99) (v := ?_) (a' := ?_) #[true, true, true, true, true, true, true, true, true, true, true, false, false, false, true, false, false, false] rfl rfl (by kernel_rfl) (fun _ _ _ h => h) (Or.inl ⟨by rfl, ?_⟩) ?_ ?_
                    rotate_left
                    · intro w'
                      go_simp
                      with_reducible rfl
                    rotate_left
                    · exact ap_
                    refine take_ (i := 15) (N := some 105) (v := ?_) (a' := ?_) #[true, true, true, true, true, true, true, true, true, true, true, false, false, false, true, true, false, false] rfl rfl (by kernel_rfl) (fun _ _ _ h => h) (Or.inl ⟨by rfl, ?_⟩) hHeld ?_ ?_
                    rotate_left
                    · rintro w' ⟨s0, s1, s2⟩
                      go_simp
                      with_reducible rfl
                    rotate_left
                    · exact ap_
                    refine one_ (i := 11) (N := some 101) #[true, true, true, true, true, true, true, true, true, true, true, true, false, false, true, true, false, false] rfl rfl (by kernel_rfl) (by decide) (fun K hK => ?_)
                    refine goes_ Try.func26 (by kernel_rfl) rfl #[.pointer (some ⟨g2, m * 6, none⟩), .bool long] (by rfl) rfl rfl (by simp only [List.map_toArray, List.map_cons, List.map_nil]; rfl) ?_
                    with_reducible refine (tear_side.of g2 (m * 6) f long HFO.out _).mono ?_
                    rintro e w9 ⟨rfl, rfl⟩
                    refine ⟨_, rfl, ?_⟩
                    refine hK.out _ _ ⟨hHeld.1, hHeld.2.1, hHeld.2.2⟩ (fun hHeld => ?_)
                    clear hK K
                    refine norm_ (a' := ?_) ?_ ?_
                    rotate_left
                    · show Act.put _ (some 101) _ = _
                      simp only [Act.put, List.setIfInBounds_toArray, List.set_cons_zero, List.set_cons_succ, i64_w, i32_w]
                      rfl
                    refine pure_ (i := 12) (N := some 102) (v := ?_) (a' := ?_) #[true, true, true, true, true, true, true, true, true, true, true, true, true, false, true, true, false, false] rfl rfl (by kernel_rfl) (fun _ _ _ h => h) (Or.inl ⟨by rfl, ?_⟩) ?_ ?_
                    rotate_left
                    · intro w'
                      go_simp
                      with_reducible rfl
                    rotate_left
                    · exact ap_
                    refine take_ (i := 13) (N := some 103) (v := ?_) (a' := ?_) (tf 16 2) rfl rfl (by kernel_rfl) (fun _ _ _ h => h) (Or.inl ⟨by rfl, ?_⟩) hHeld ?_ ?_
                    rotate_left
                    · rintro w' ⟨s0, s1, s2⟩
                      go_simp
                      with_reducible rfl
                    rotate_left
                    · exact ap_
                    refine pure_ (i := 16) (N := some 106) (v := ?_) (a' := ?_) (tf 17 1) rfl rfl (by kernel_rfl) (fun _ _ _ h => h) (Or.inl ⟨by rfl, ?_⟩) ?_ ?_
                    rotate_left
                    · intro w'
                      go_simp
                      with_reducible rfl
                    rotate_left
                    · exact ap_
                    refine pure_ (i := 17) (N := some 107) (v := ?_) (a' := ?_) (tf 18 0) rfl rfl (by kernel_rfl) (fun _ _ _ h => h) (Or.inl ⟨by rfl, ?_⟩) ?_ ?_
                    rotate_left
                    · intro w'
                      go_simp
                      with_reducible rfl
                    rotate_left
                    · exact ap_
                    refine done_ (by kernel_rfl) ?_
                    go_wp2
                    go_ret2
                    exact ⟨_, rfl, Kd.S_nil _ _ _ _ _, below_drew HB8.out⟩
                  · rw [if_neg hs] at hA
                    have g4 : decide (lot < p2) = false := decide_eq_false hs
                    clear hs
                    by_cases hbig : 1000000 < (rd_T58 out (n : Int)).f1.length
                    · rw [if_pos hbig] at hA; cases hA
                    rw [if_neg hbig] at hA
                    have HBIG := Aside0.mk hbig
                    clear hbig
                    go_wp2_with (first | (go_at_call 32; refine (IndexFunc_api_Holding.calls (fun h : S58 => tear_Apply.acc h.f0 ⟨p0, p1⟩) 33 _ eg1 (some ⟨g, 0, none⟩) cv out _ (tear_Apply.pred p0 p1 p2 _ _ (blk_new _ _)) (tear_reads (Kd.S_alloc HO.out _))).mono ?_; rintro _ w5 ⟨rfl, hb5⟩; rw [HIE.out]; have HO5 := Aside0.mk (Kd.S_below (Kd.S_alloc HO.out (.cells #[.string p0, .string p1, .int .i64 p2] 62 (0, 0))) hb5); have HM5 := Aside0.mk (blk_below (blk_alloc HM.out (.cells #[.string p0, .string p1, .int .i64 p2] 62 (0, 0))) hb5); have HBS5 := Aside0.mk (blk_below (blk_alloc HBS.out (.cells #[.string p0, .string p1, .int .i64 p2] 62 (0, 0))) hb5); have HB5 := Aside0.mk (below_step (below_alloc HB.out (.cells #[.string p0, .string p1, .int .i64 p2] 62 (0, 0))) hb5); have HX5 := Aside0.mk (blk_below (blk_new wr (.cells #[.string p0, .string p1, .int .i64 p2] 62 (0, 0))) hb5); have hx0 : World.cell? _ ⟨wr.heap.size, 0, none⟩ = some (.string p0) := (blk_cell HX5.out 0).trans rfl; have hx1 : World.cell? _ ⟨wr.heap.size, 1, none⟩ = some (.string p1) := (blk_cell HX5.out 1).trans rfl; have hx2 : World.cell? _ ⟨wr.heap.size, 2, none⟩ = some (.int .i64 p2) := (blk_cell HX5.out 2).trans rfl; clear hb5) | (at_lookup; refine Go.Proofs.YtjmkdmbgldcleaaHand.wpL_look _ rfl (.tmp 60) (.tmp 62) 78 true rfl gm (accK ⟨p0, p1⟩) _ rfl rfl (tear_Apply.look HM5.out HK.out HKL.out HLK.out) ?_; have hy0 : World.cell? (w5.alloc (.cells #[] 81 (0, 0))) ⟨wr.heap.size, 0, none⟩ = some (.string p0) := (blk_cell (blk_alloc HX5.out _) 0).trans rfl; have hy1 : World.cell? (w5.alloc (.cells #[] 81 (0, 0))) ⟨wr.heap.size, 1, none⟩ = some (.string p1) := (blk_cell (blk_alloc HX5.out _) 1).trans rfl; have hy2 : World.cell? (w5.alloc (.cells #[] 81 (0, 0))) ⟨wr.heap.size, 2, none⟩ = some (.int .i64 p2) := (blk_cell (blk_alloc HX5.out _) 2).trans rfl) | (at_mapUpdate; refine Go.Proofs.YtjmkdmbgldcleaaHand.wpL_put_new _ rfl (.tmp 71) (.tmp 73) (.tmp 74) 78 rfl acc_keyed Try.underlying78 (blk_alloc HM5.out _) HK.out HKL.out HNE.out () rfl rfl rfl ?_; intro w7 hm7 hg7; (clear hx0 hx1 hx2 hy0 hy1 hy2); have HM7 := Aside0.mk hm7; have HO7 := Aside0.mk (Kd.S_grown (Kd.S_alloc HO5.out _) hg7 (fun k_ hk_ he_ => hk_.2 (by injection he_))); have HBS7 := Aside0.mk (blk_grown (blk_alloc HBS5.out _) hg7 HNG.out); have HX7 := Aside0.mk (blk_grown (blk_alloc HX5.out _) hg7 HNX.out); have HB7 := Aside0.mk (pw_below_grown (below_alloc HB5.out _) _ (below_alloc HB5.out _).size hg7 (fun k_ hk_ => by injection hk_ with hk_; rw [← hk_]; exact HGM.out)); have hx0 : World.cell? _ ⟨wr.heap.size, 0, none⟩ = some (.string p0) := (blk_cell HX7.out 0).trans rfl; have hx1 : World.cell? _ ⟨wr.heap.size, 1, none⟩ = some (.string p1) := (blk_cell HX7.out 1).trans rfl; have hx2 : World.cell? _ ⟨wr.heap.size, 2, none⟩ = some (.int .i64 p2) := (blk_cell HX7.out 2).trans rfl; obtain ⟨oki, v2, hc0, hc1, hc2, hf2, hR2, hok2, hH2⟩ := tear_open HO7.out hnl; obtain ⟨A2, c2, rfl⟩ := Kd.R_slice hR2; have HOK := Aside0.mk hok2; have HR7 := Aside0.mk hR2; have HH7 := Aside0.mk hH2; have HC7 := Aside0.mk hc2; have HF7 := Aside0.mk hf2; clear hm7 hg7 hR2 hok2 hH2 hc0 hc1) | (go_at_call 34; refine (IndexFunc_api_Position.calls (position_place.q s0 s1 s2 s3) 35 _ eg2 A2 c2 _ _ (tear_Apply.pred2 s0 s1 s2 s3 _ _ HBS7.out) (Kd.R_reads' HR7.out).2.2).mono ?_; rintro _ w8 ⟨rfl, hb8⟩; rw [HJE.out]; (clear hx0 hx1 hx2 hc2 hf2); have HR8 := Aside0.mk (Kd.R_below HR7.out hb8); have HH8 := Aside0.mk (Kd.H_below HH7.out hb8); have HM8 := Aside0.mk (blk_below HM7.out hb8); have HBS8 := Aside0.mk (blk_below HBS7.out hb8); have HX8 := Aside0.mk (blk_below HX7.out hb8); have HB8 := Aside0.mk (below_step HB7.out hb8); have hx2 : World.cell? _ ⟨wr.heap.size, 2, none⟩ = some (.int .i64 p2) := (blk_cell HX8.out 2).trans rfl; have hc2 := pw_cell_below hb8 HC7.out; have hf2 := (hb8.frozen (p := ⟨g, n * 3 + 2, none⟩) (World.block_lt_of_cell? _ _ HC7.out)).trans HF7.out; have HC8 := Aside0.mk hc2; have HF8 := Aside0.mk hf2; clear hb8))
                    obtain ⟨g2, _, he2, _⟩ := Kd.R_form HR8.out (by omega)
                    have hA2_ : A2 = some ⟨g2, 0, none⟩ := by injection he2
                    subst hA2_
                    clear he2
                    obtain ⟨hl8, hz8⟩ := tear_lot HR8.out hml long HFO.out HPE.out HLOT.out
                    refine start_ (n := 18) (S := fun w' => w'.cell? ⟨g, n * 3 + 2, none⟩ = some (.slice (some ⟨g2, 0, none⟩) (rd_T58 out (n : Int)).f1.length c2) ∧ w'.cell? ⟨g2, m * 6 + f, none⟩ = some (.int .i64 lot) ∧ w'.cell? ⟨wr.heap.size, 2, none⟩ = some (.int .i64 p2)) (ds := []) (tf 0 18) (by kernel_rfl) rfl rfl ⟨hc2, hl8, hx2⟩ (fun hHeld => ?_)
                    refine pure_ (i := 0) (N := some 90) (v := ?_) (a' := ?_) (tf 1 17) rfl rfl (by kernel_rfl) (fun _ _ _ h => h) (Or.inl ⟨by rfl, ?_⟩) ?_ ?_
                    rotate_left
                    · intro w'
                      go_simp
                      with_reducible rfl
                    rotate_left
                    · exact ap_
                    refine pure_ (i := 1) (N := some 91) (v := ?_) (a' := ?_) (tf 2 16) rfl rfl (by kernel_rfl) (fun _ _ _ h => h) (Or.inl ⟨by rfl, ?_⟩) ?_ ?_
                    rotate_left
                    · intro w'
                      go_simp
                      with_reducible rfl
                    rotate_left
                    · exact ap_
                    refine pure_ (i := 2) (N := some 92) (v := ?_) (a' := ?_) (tf 3 15) rfl rfl (by kernel_rfl) (fun _ _ _ h => h) (Or.inl ⟨by rfl, ?_⟩) ?_ ?_
                    rotate_left
                    · intro w'
                      go_simp
                      with_reducible rfl
                    rotate_left
                    · exact ap_
                    refine pure_ (i := 3) (N := some 93) (v := ?_) (a' := ?_) (tf 4 14) rfl rfl (by kernel_rfl) (fun _ _ _ h => h) (Or.inl ⟨by rfl, ?_⟩) ?_ ?_
                    rotate_left
                    · intro w'
                      go_simp
                      with_reducible rfl
                    rotate_left
                    · exact ap_
                    refine pure_ (i := 4) (N := some 94) (v := ?_) (a' := ?_) (tf 5 13) rfl rfl (by kernel_rfl) (fun _ _ _ h => h) (Or.inl ⟨by rfl, ?_⟩) ?_ ?_
                    rotate_left
                    · intro w'
                      go_simp
                      with_reducible rfl
                    rotate_left
                    · exact ap_
                    refine pure_ (i := 5) (N := some 95) (v := ?_) (a' := ?_) (tf 6 12) rfl rfl (by kernel_rfl) (fun _ _ _ h => h) (Or.inl ⟨by rfl, ?_⟩) ?_ ?_
                    rotate_left
                    · intro w'
                      go_simp
                      with_reducible rfl
                    rotate_left
                    · exact ap_
                    refine pure_ (i := 6) (N := some 96) (v := ?_) (a' := ?_) (tf 7 11) rfl rfl (by kernel_rfl) (fun _ _ _ h => h) (Or.inl ⟨by rfl, ?_⟩) ?_ ?_
                    rotate_left
                    · intro w'
                      go_simp
                      with_reducible rfl
                    rotate_left
                    · exact ap_
                    refine pure_ (i := 8) (N := some 98) (v := ?_) (a' := ?_) #[true, true, true, true, true, true, true, false, true, false, false, false, false, false, false, false, false, false] rfl rfl (by kernel_rfl) (fun _ _ _ h => h) (Or.inl ⟨by rfl, ?_⟩) ?_ ?_
                    rotate_left
                    · intro w'
                      go_simp
                      with_reducible rfl
                    rotate_left
                    · exact ap_
                    refine pure_ (i := 10) (N := some 100) (v := ?_) (a' := ?_) #[true, true, true, true, true, true, true, false, true, false, true, false, false, false, false, false, false, false] rfl rfl (by kernel_rfl) (fun _ _ _ h => h) (Or.inl ⟨by rfl, ?_⟩) ?_ ?_
                    rotate_left
                    · intro w'
                      go_simp
                      with_reducible rfl
                    rotate_left
                    · exact ap_
                    refine pure_ (i := 14) (N := some 104) (v := ?_) (a' := ?_) #[true, true, true, true, true, true, true, false, true, false, true, false, false, false, true, false, false, false] rfl rfl (by kernel_rfl) (fun _ _ _ h => h) (Or.inl ⟨by rfl, ?_⟩) ?_ ?_
                    rotate_left
                    · intro w'
                      go_simp
                      with_reducible rfl
                    rotate_left
                    · exact ap_
                    refine take_ (i := 7) (N := some 97) (v := ?_) (a' := ?_) #[true, true, true, true, true, true, true, true, true, false, true, false, false, false, true, false, false, false] rfl rfl (by kernel_rfl) (fun _ _ _ h => h) (Or.inl ⟨by rfl, ?_⟩) hHeld ?_ ?_
                    rotate_left
                    · rintro w' ⟨s0, s1, s2⟩
                      go_simp
                      with_reducible rfl
                    rotate_left
                    · exact ap_
                    refine pure_ (i := 9) (N := some 99) (v := ?_) (a' := ?_) #[true, true, true, true, true, true, true, true, true, true, true, false, false, false, true, false, false, false] rfl rfl (by kernel_rfl) (fun _ _ _ h => h) (Or.inl ⟨by rfl, ?_⟩) ?_ ?_
                    rotate_left
                    · intro w'
                      go_simp
                      with_reducible rfl
                    rotate_left
                    · exact ap_
                    refine take_ (i := 15) (N := some 105) (v := ?_) (a' := ?_) #[true, true, true, true, true, true, true, true, true, true, true, false, false, false, true, true, false, false] rfl rfl (by kernel_rfl) (fun _ _ _ h => h) (Or.inl ⟨by rfl, ?_⟩) hHeld ?_ ?_
                    rotate_left
                    · rintro w' ⟨s0, s1, s2⟩
                      go_simp
                      with_reducible rfl
                    rotate_left
                    · exact ap_
                    refine one_ (i := 11) (N := some 101) #[true, true, true, true, true, true, true, true, true, true, true, true, false, false, true, true, false, false] rfl rfl (by kernel_rfl) (by decide) (fun K hK => ?_)
                    refine goes_ Try.func26 (by kernel_rfl) rfl #[.pointer (some ⟨g2, m * 6, none⟩), .bool long] (by rfl) rfl rfl (by simp only [List.map_toArray, List.map_cons, List.map_nil]; rfl) ?_
                    with_reducible refine (tear_side.of g2 (m * 6) f long HFO.out _).mono ?_
                    rintro e w9 ⟨rfl, rfl⟩
                    refine ⟨_, rfl, ?_⟩
                    refine hK.out _ _ ⟨hHeld.1, hHeld.2.1, hHeld.2.2⟩ (fun hHeld => ?_)
                    clear hK K
                    refine norm_ (a' := ?_) ?_ ?_
                    rotate_left
                    · show Act.put _ (some 101) _ = _
                      simp only [Act.put, List.setIfInBounds_toArray, List.set_cons_zero, List.set_cons_succ, i64_w, i32_w]
                      rfl
                    refine pure_ (i := 12) (N := some 102) (v := ?_) (a' := ?_) #[true, true, true, true, true, true, true, true, true, true, true, true, true, false, true, true, false, false] rfl rfl (by kernel_rfl) (fun _ _ _ h => h) (Or.inl ⟨by rfl, ?_⟩) ?_ ?_
                    rotate_left
                    · intro w'
                      go_simp
                      with_reducible rfl
                    rotate_left
                    · exact ap_
                    refine take_ (i := 13) (N := some 103) (v := ?_) (a' := ?_) (tf 16 2) rfl rfl (by kernel_rfl) (fun _ _ _ h => h) (Or.inl ⟨by rfl, ?_⟩) hHeld ?_ ?_
                    rotate_left
                    · rintro w' ⟨s0, s1, s2⟩
                      go_simp
                      with_reducible rfl
                    rotate_left
                    · exact ap_
                    refine pure_ (i := 16) (N := some 106) (v := ?_) (a' := ?_) (tf 17 1) rfl rfl (by kernel_rfl) (fun _ _ _ h => h) (Or.inl ⟨by rfl, ?_⟩) ?_ ?_
                    rotate_left
                    · intro w'
                      go_simp
                      with_reducible rfl
                    rotate_left
                    · exact ap_
                    refine pure_ (i := 17) (N := some 107) (v := ?_) (a' := ?_) (tf 18 0) rfl rfl (by kernel_rfl) (fun _ _ _ h => h) (Or.inl ⟨by rfl, ?_⟩) ?_ ?_
                    rotate_left
                    · intro w'
                      go_simp
                      with_reducible rfl
                    rotate_left
                    · exact ap_
                    refine done_ (by kernel_rfl) ?_
                    have hc2d : World.cell? w8.drew ⟨g, n * 3 + 2, none⟩ = some (.slice (some ⟨g2, 0, none⟩) (rd_T58 out (n : Int)).f1.length c2) := HC8.out
                    go_wp2
                    have hzd : World.frozen? w8.drew.drew ⟨g2, m * 6 + f, none⟩ = false := hz8
                    have hld : World.cell? w8.drew.drew ⟨g2, m * 6 + f, none⟩ = some (.int .i64 lot) := hl8
                    refine start_ (n := 10) (S := fun w' => w'.cell? ⟨g2, m * 6 + f, none⟩ = some (.int .i64 lot) ∧ w'.cell? ⟨wr.heap.size, 2, none⟩ = some (.int .i64 p2)) (ds := [9]) (tf 0 10) (by kernel_rfl) rfl rfl ⟨hl8, hx2⟩ (fun hHeld => ?_)
                    refine pure_ (i := 0) (N := some 115) (v := ?_) (a' := ?_) (tf 1 9) rfl rfl (by kernel_rfl) (fun _ _ _ h => h) (Or.inl ⟨by rfl, ?_⟩) ?_ ?_
                    rotate_left
                    · intro w'
                      go_simp
                      with_reducible rfl
                    rotate_left
                    · exact ap_
                    refine pure_ (i := 1) (N := some 116) (v := ?_) (a' := ?_) (tf 2 8) rfl rfl (by kernel_rfl) (fun _ _ _ h => h) (Or.inl ⟨by rfl, ?_⟩) ?_ ?_
                    rotate_left
                    · intro w'
                      go_simp
                      with_reducible rfl
                    rotate_left
                    · exact ap_
                    refine pure_ (i := 5) (N := some 120) (v := ?_) (a' := ?_) #[true, true, false, false, false, true, false, false, false, false] rfl rfl (by kernel_rfl) (fun _ _ _ h => h) (Or.inl ⟨by rfl, ?_⟩) ?_ ?_
                    rotate_left
                    · intro w'
                      go_simp
                      with_reducible rfl
                    rotate_left
                    · exact ap_
                    refine take_ (i := 6) (N := some 121) (v := ?_) (a' := ?_) #[true, true, false, false, false, true, true, false, false, false] rfl rfl (by kernel_rfl) (fun _ _ _ h => h) (Or.inl ⟨by rfl, ?_⟩) hHeld ?_ ?_
                    rotate_left
                    · rintro w' ⟨s0, s1⟩
                      go_simp
                      with_reducible rfl
                    rotate_left
                    · exact ap_
                    refine one_ (i := 2) (N := some 117) #[true, true, true, false, false, true, true, false, false, false] rfl rfl (by kernel_rfl) (by decide) (fun K hK => ?_)
                    refine goes_ Try.func26 (by kernel_rfl) rfl #[.pointer (some ⟨g2, m * 6, none⟩), .bool long] (by rfl) rfl rfl (by simp only [List.map_toArray, List.map_cons, List.map_nil]; rfl) ?_
                    with_reducible refine (tear_side.of g2 (m * 6) f long HFO.out _).mono ?_
                    rintro e w9 ⟨rfl, rfl⟩
                    refine ⟨_, rfl, ?_⟩
                    refine hK.out _ _ ⟨hHeld.1, hHeld.2⟩ (fun hHeld => ?_)
                    clear hK K
                    refine norm_ (a' := ?_) ?_ ?_
                    rotate_left
                    · show Act.put _ (some 117) _ = _
                      simp only [Act.put, List.setIfInBounds_toArray, List.set_cons_zero, List.set_cons_succ, i64_w, i32_w]
                      rfl
                    refine pure_ (i := 3) (N := some 118) (v := ?_) (a' := ?_) #[true, true, true, true, false, true, true, false, false, false] rfl rfl (by kernel_rfl) (fun _ _ _ h => h) (Or.inl ⟨by rfl, ?_⟩) ?_ ?_
                    rotate_left
                    · intro w'
                      go_simp
                      with_reducible rfl
                    rotate_left
                    · exact ap_
                    refine take_ (i := 4) (N := some 119) (v := ?_) (a' := ?_) (tf 7 3) rfl rfl (by kernel_rfl) (fun _ _ _ h => h) (Or.inl ⟨by rfl, ?_⟩) hHeld ?_ ?_
                    rotate_left
                    · rintro w' ⟨s0, s1⟩
                      go_simp
                      with_reducible rfl
                    rotate_left
                    · exact ap_
                    refine pure_ (i := 7) (N := some 122) (v := ?_) (a' := ?_) (tf 8 2) rfl rfl (by kernel_rfl) (fun _ _ _ h => h) (Or.inl ⟨by rfl, ?_⟩) ?_ ?_
                    rotate_left
                    · intro w'
                      go_simp
                      with_reducible rfl
                    rotate_left
                    · exact ap_
                    refine pure_ (i := 8) (N := some 123) (v := ?_) (a' := ?_) (tf 9 1) rfl rfl (by kernel_rfl) (fun _ _ _ h => h) (Or.inl ⟨by rfl, ?_⟩) ?_ ?_
                    rotate_left
                    · intro w'
                      go_simp
                      with_reducible rfl
                    rotate_left
                    · exact ap_
                    refine last_ (i := 9) (N := none) (tf 10 0) rfl rfl (by kernel_rfl) (by decide) (fun K hK => ?_)
                    refine skip_ (w1 := ?_) (by rfl) rfl ?_ ?_
                    rotate_left
                    · go_simp
                      rfl
                    refine hK.out _ _ ?_
                    clear hK K
                    refine done_ (by kernel_rfl) ?_
                    rw [tear_Apply.left_eq long p p2 lot HLOT.out] at hA
                    obtain ⟨hR9, hg9⟩ := tear_put HR8.out hml long HFO.out HPE.out (wrap64 (lot - p2))
                    have hk2 := HR8.out.1 g2 (by simp [Value.ownBlock])
                    obtain ⟨⟨⟨_, hn1⟩, hn2⟩, hn3⟩ := HOK.out g2 hk2
                    have hb2 := Kd.R_base HR8.out g2 (by simp [Value.ownBlock])
                    have HH10 := Aside0.mk (Kd.H_drew (Kd.H_drew (Kd.H_grown HH8.out hg9 (fun k_ hk_ => by injection hk_ with hk_; rw [← hk_]; exact hk2))))
                    have HM10 := Aside0.mk (blk_drew (blk_drew (blk_grown HM8.out hg9 (fun e_ => hn2 (by injection e_ with e_; exact e_.symm)))))
                    have HBS10 := Aside0.mk (blk_drew (blk_drew (blk_grown HBS8.out hg9 (fun e_ => hn1 (by injection e_ with e_; exact e_.symm)))))
                    have HB10 := Aside0.mk (below_drew (below_drew (pw_below_grown HB8.out _ HB8.out.size hg9 (fun k_ hk_ => by injection hk_ with hk_; rw [← hk_]; exact hb2))))
                    have HC10 : Aside0 (World.cell? (World.setCell w8 ⟨g2, m * 6 + f, none⟩ (.int .i64 (wrap64 (lot - p2)))).drew.drew ⟨g, n * 3 + 2, none⟩ = some (.slice (some ⟨g2, 0, none⟩) (rd_T58 out (n : Int)).f1.length c2)) := ⟨hg9.cell HC8.out (fun e_ => hn3 (by injection e_ with e_; exact e_.symm))⟩
                    have HF10 : Aside0 (World.frozen? (World.setCell w8 ⟨g2, m * 6 + f, none⟩ (.int .i64 (wrap64 (lot - p2)))).drew.drew ⟨g, n * 3 + 2, none⟩ = false) := ⟨((World.frozen?_of_block (a := ⟨g, n * 3 + 2, none⟩) (hg9.block g (World.block_lt_of_cell? _ _ HC8.out) (fun e_ => hn3 (by injection e_ with e_; exact e_.symm)))).trans HF8.out)⟩
                    have hR10 := Kd.R_drew (Kd.R_drew hR9)
                    generalize (if long = true then ⟨p.f0, wrap64 (lot - p2), p.f2⟩ else ⟨p.f0, p.f1, wrap64 (lot - p2)⟩ : S52) = q at hA hR10
                    have HR10 := Aside0.mk hR10
                    have HB2 := Aside0.mk hb2
                    have HN3 := Aside0.mk hn3
                    have HN2 := Aside0.mk hn2
                    have HN1 := Aside0.mk hn1
                    have HK2 := Aside0.mk hk2
                    have HOG := Aside0.mk (HO.out.choose_spec.1 g (by simp [Value.ownBlock]))
                    have hwr : wrap64 ((m : Int) + 1) = (m : Int) + 1 := by
                      have h9 := HBIG.out
                      clear hA
                      unfold wrap64
                      omega
                    have HWR := Aside0.mk hwr
                    have HOKI := Aside0.mk (fun k_ hk_ => (HOK.out k_ hk_).2)
                    clear hwr hR9 hR10 hg9 hc2 hf2 hx2 hl8 hz8 hc2d hzd hld hk2 hb2 hn1 hn2 hn3 HR8 HH8 HM8 HBS8 HX8 HB8 HC8 HF8 HOK
                    generalize (World.setCell w8 ⟨g2, m * 6 + f, none⟩ (.int .i64 (wrap64 (lot - p2)))).drew.drew = W at HR10 HH10 HM10 HBS10 HB10 HC10 HF10 ⊢
                    obtain ⟨hl4, hl5, _⟩ := tear_lots HR10.out (j := m) (by rw [List.length_set]; exact hml)
                    rw [tear_rdset _ _ _ hml] at hl4 hl5
                    have HA10 := Aside0.mk hA
                    have hml' : m < ((rd_T58 out (n : Int)).f1.set m q).length := by rw [List.length_set]; exact hml
                    have hq4 := HC10.out
                    clear hA
                    by_cases hz1 : q.f1 = 0
                    · by_cases hz2 : q.f2 = 0
                      · have j1 : (q.f1 == 0) = true := beq_iff_eq.mpr hz1
                        have j2 : (q.f2 == 0) = true := beq_iff_eq.mpr hz2
                        have HZ := Aside0.mk (And.intro hz1 hz2)
                        clear hz1 hz2
                        have hz4 := HF10.out
                        go_wp2_with (go_at_call 36; refine (tear_delete g2 c2 _ m _ _ _ _ _ HWR.out HR10.out hml HB10.out.size).mono ?_; rintro _ w11 ⟨rfl, hR11, hg11⟩; (clear hl4 hl5 hq4 hz4); have HR11 := Aside0.mk hR11; have HG11 := Aside0.mk hg11; have hq11 := hg11.cell HC10.out (fun e_ => HN3.out (by injection e_ with e_; exact e_.symm)); have hz11 := (World.frozen?_of_block (a := ⟨g, n * 3 + 2, none⟩) (hg11.block g (World.block_lt_of_cell? _ _ HC10.out) (fun e_ => HN3.out (by injection e_ with e_; exact e_.symm)))).trans HF10.out; clear hR11 hg11)
                        go_roundg (l3.length - (x + 1))
                        case measure => omega
                        case rel =>
                          obtain ⟨hS, hgS⟩ := tear_restore (Kd.H_grown HH10.out HG11.out (fun k_ hk_ => by injection hk_ with hk_; rw [← hk_]; exact HK2.out)) hnl HOKI.out HR11.out
                          refine ⟨x + 1, out.set n ⟨(rd_T58 out (n : Int)).f0, ((rd_T58 out (n : Int)).f1.set m q).eraseIdx m⟩, d ++ [(⟨p0, p1⟩, ())], by rw [List.length_set], rfl, by go_num, by omega, ⟨?_⟩, ⟨by rw [List.length_set]; exact hS⟩, ⟨Go.Proofs.YtjmkdmbgldcleaaHand.KeysOk.snoc HK.out HKL.out HNE.out ()⟩, ⟨blk_grown (blk_grown HM10.out HG11.out (fun e_ => HN2.out (by injection e_ with e_; exact e_.symm))) hgS (fun e_ => HOG.out.2 (by injection e_ with e_; exact e_.symm))⟩, ⟨blk_grown (blk_grown HBS10.out HG11.out (fun e_ => HN1.out (by injection e_ with e_; exact e_.symm))) hgS (fun e_ => HOG.out.1.2 (by injection e_ with e_; exact e_.symm))⟩, ⟨pw_below_grown (pw_below_grown HB10.out _ HB10.out.size HG11.out (fun k_ hk_ => by injection hk_ with hk_; rw [← hk_]; exact HB2.out)) _ (Nat.le_trans HB10.out.size HG11.out.size) hgS (fun k_ hk_ => by injection hk_ with hk_; rw [← hk_]; exact Nat.le_of_lt HWG.out)⟩⟩
                          have h9 := HA10.out
                          rw [if_pos HZ.out, ← tear_erase _ m q] at h9
                          exact h9
                      · have j1 : (q.f1 == 0) = true := beq_iff_eq.mpr hz1
                        have j2 : (q.f2 == 0) = false := beq_eq_false_iff_ne.mpr hz2
                        have HZ := Aside0.mk hz2
                        clear hz1 hz2
                        go_wp2
                        go_roundg (l3.length - (x + 1))
                        case measure => omega
                        case rel =>
                          have hS := tear_back HH10.out HR10.out
                          refine ⟨x + 1, out.set n ⟨(rd_T58 out (n : Int)).f0, (rd_T58 out (n : Int)).f1.set m q⟩, d ++ [(⟨p0, p1⟩, ())], by rw [List.length_set], rfl, by go_num, by omega, ⟨?_⟩, ⟨by rw [List.length_set]; exact hS⟩, ⟨Go.Proofs.YtjmkdmbgldcleaaHand.KeysOk.snoc HK.out HKL.out HNE.out ()⟩, ⟨HM10.out⟩, ⟨HBS10.out⟩, ⟨HB10.out⟩⟩
                          have h9 := HA10.out
                          rw [if_neg (fun h => HZ.out h.2)] at h9
                          exact h9
                    · have j1 : (q.f1 == 0) = false := beq_eq_false_iff_ne.mpr hz1
                      have HZ := Aside0.mk hz1
                      clear hz1
                      go_wp2
                      go_roundg (l3.length - (x + 1))
                      case measure => omega
                      case rel =>
                        have hS := tear_back HH10.out HR10.out
                        refine ⟨x + 1, out.set n ⟨(rd_T58 out (n : Int)).f0, (rd_T58 out (n : Int)).f1.set m q⟩, d ++ [(⟨p0, p1⟩, ())], by rw [List.length_set], rfl, by go_num, by omega, ⟨?_⟩, ⟨by rw [List.length_set]; exact hS⟩, ⟨Go.Proofs.YtjmkdmbgldcleaaHand.KeysOk.snoc HK.out HKL.out HNE.out ()⟩, ⟨HM10.out⟩, ⟨HBS10.out⟩, ⟨HB10.out⟩⟩
                        have h9 := HA10.out
                        rw [if_neg (fun h => HZ.out h.1)] at h9
                        exact h9
        · have hxe : x = l3.length := by omega
          have hA := HA.out
          rw [List.drop_eq_nil_of_le (by omega), tear_Apply.go] at hA
          simp only [Option.some.injEq, Prod.mk.injEq] at hA
          obtain ⟨rfl, rfl⟩ := hA
          subst hxe
          go_wp2
          go_ret2
          exact ⟨_, rfl, Kd.S_mono HO.out (fun _ _ => trivial), HB.out⟩

end Go.Proofs.Ytjmkdmbgldcleaa.PTearWorth
