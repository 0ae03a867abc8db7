import Derived.Test.YtoejllkjhaeeeaaPExpiryFlowsx0
import Derived.Test.YtoejllkjhaeeeaaPExpiryFlowsx8
import Derived.Test.YtoejllkjhaeeeaaPExpiryFlowsx11
namespace Go.Proofs.Ytoejllkjhaeeeaa.PExpiryFlows
open Go.RowKit Go.Proofs.YtoejllkjhaeeeaaW.PrintWords Go.Proofs.YtoejllkjhaeeeaaW.PrintLast Go.Proofs.YtoejllkjhaeeeaaW.PrintMore
attribute [local go_sem] max2_int min2_int max_two min_two max_three min_three max_four min_four Go.Proofs.YtoejllkjhaeeeaaHand.run_leq_str Go.Proofs.YtoejllkjhaeeeaaHand.run_gtr_str Go.Proofs.YtoejllkjhaeeeaaHand.run_geq_str   -- for this text's walks alone
set_option linter.unusedVariables false
set_option linter.unusedSimpArgs false

/-! ### expiry_Assign: function 11 -/
attribute [local go_sem] Oper.semAt_some
/-- A block of cells stays, where only blocks that are no cells turn. -/
theorem cells_own {β : Type} (B : Nat) (o : Obj) (ho : o.isCells = true) : Own (fun (_ : β) (W : World) => W.heap[B]? = some o) := by
  intro s X Y row hv hg hrow
  refine (hg.block B (blk_lt hv) (fun e' => ?_)).trans hv
  obtain ⟨o', ho', hc'⟩ := hrow B e'.symm
  rw [hv] at ho'; cases ho'; rw [ho] at hc'; cases hc'
/-- A box that holds a row of one's own speaks of cells alone. -/
theorem R_own {β α : Type} (d : Kd α) (e base B T : Nat) (f : β → List α) : Own (fun (s : β) (W : World) => ∃ v, Boxed W B T v ∧ d.R e W base (fun _ => True) v (f s)) := by
  rintro s X Y row ⟨v, hv, hr⟩ hg hrow
  have hne : ∀ (k : Nat) (o : Obj), X.heap[k]? = some o → o.isCells = true → some k ≠ row := fun k o ho hc e' => by
    obtain ⟨o', ho', hc'⟩ := hrow k e'.symm
    rw [ho] at ho'; cases ho'; rw [hc] at hc'; cases hc'
  refine ⟨v, hv.kept hg (hne B _ hv rfl), Kd.R_mono (Kd.R_move (Kd.R_bound hr) (fun k hk => ?_)) (fun _ _ => trivial)⟩
  obtain ⟨_, _, hlt, q, _, cells, hc⟩ := hk
  exact hg.block k hlt (hne k _ hc rfl)
theorem R_putObj {α : Type} {d : Kd α} {e base : Nat} {W : World} {v : Value} {xs : List α} {l : Nat} {o : Obj} (o' : Obj) (hr : d.R e W base (fun _ => True) v xs) (hl : W.heap[l]? = some o) (ho : o.isCells = false) : d.R e (W.putObj l o') base (fun _ => True) v xs := by
  refine Kd.R_mono (Kd.R_move (Kd.R_bound hr) (fun k hk => ?_)) (fun _ _ => trivial)
  obtain ⟨_, _, hlt, q, _, cells, hc⟩ := hk
  exact (grownBy_putObj' W l o').block k hlt (fun e' => by cases e'; rw [hl] at hc; cases hc; cases ho)
section
variable {F : Fence} {n : Nat} {P : Program} {ops : Array Oper} {rest : List Oper} {o : Oper} {a : Act} {Q : Exit → Act → World → Prop} {α : Type}
/-- append(v, x) in a round. -/
theorem wpListIn_R_append (d : Kd α) {W : World} (base : Nat) (hgd : o.guard = none) (s x : Operand) (t e : TypeId) (z : Value) (bytes : Nat)
    (ho : o.op = .call { callee := .builtin .append, args := #[s, x], argTypes := #[t, t] })
    (ht : P.underlying t = some (.slice e)) (hinfo : (P.info? e).map (fun i => (i.zero, i.size, i.bytes)) = some (some z, d.sz, bytes)) (hz : z.cells.size = d.sz) (hs0 : 0 < d.sz) (hb0 : 0 < bytes)
    (v : Value) (xs : List α) (p : α) (cs : List Value) (ok okp : Nat → Prop) (hs : a.eval s = v) (hx : a.eval x = .slice (some ⟨W.heap.size, 0, none⟩) 1 1) (hp : d.M W base okp p cs) (hokp : ∀ k, okp k → ok k ∧ some k ≠ v.ownBlock) (hfresh : ∀ k, W.heap.size ≤ k → ok k)
    (HO : d.R e W base ok v xs) (hbase : base ≤ W.heap.size) (hl : (xs.length + 1) * bytes ≤ 140737488355328)
    (h : ∀ v1 w1, d.R e w1 base ok v1 (xs ++ [p]) → W.grownBy w1 v.ownBlock → (v1.ownBlock = v.ownBlock ∨ ∃ b, v1.ownBlock = some b ∧ W.heap.size ≤ b) → wpListIn F n P ops Q rest (a.put o.dst v1) w1) :
    wpListIn F n P ops Q (o :: rest) a (W.alloc (.cells cs.toArray e)) := by
  obtain ⟨h0, inner, hown, hr⟩ := HO
  obtain ⟨i0, hi, hzz⟩ := Option.map_eq_some_iff.1 hinfo
  simp only [Prod.mk.injEq] at hzz
  obtain ⟨hz0, hz1, hz2⟩ := hzz
  have hlen : xs.length + 1 ≤ 140737488355328 := Nat.le_trans (Nat.le_mul_of_pos_right _ hb0) hl
  have hcl := d.K_len (d.K_of_M hp)
  refine wpListIn_plain hgd fun K hK' => ?_
  obtain ⟨v', w', hrun, r1, r2, _, hat⟩ := run_append_own_at (P := P) (W.alloc (.cells cs.toArray e)) base t o.type e i0 z d.sz bytes ht hi hz0 hz1 hz2 hz hs0 v xs.length inner (hown.alloc _) ⟨W.heap.size, 0, none⟩ 1 1 cs (by rw [hcl]; simp)
    (by simpa using World.news_of_block (cs := cs.toArray) (t := e) (fr := (0, 0)) (heap_alloc_new W (.cells cs.toArray e))) (d.K_one (d.K_of_M hp)) (by simp only [maxLen]; omega) hl (by simp; omega)
  unfold Oper.wpIn
  refine ⟨?_, ?_⟩
  · simp [Oper.about, ho, resolve, Target.leads, Sem.run_pure]
  · rw [Oper.semAt_plain F _ _ (by rw [ho]; intro c hc'; cases hc')]
    simp [execOp, ho, resolve, invoke, builtin, hs, hx, hrun, Result.andThen]
    have hg : W.grownBy w' v.ownBlock := World.grownBy.trans (World.grownBy_alloc W _ _) r2
    have hat' : v'.ownBlock = v.ownBlock ∨ ∃ b, v'.ownBlock = some b ∧ W.heap.size ≤ b := by
      rcases hat with hat | hat
      · exact .inl hat
      · exact .inr ⟨_, hat, by simp⟩
    exact hK' _ _ (h v' w' (Kd.R_appended h0 hr hp hokp hfresh r1 hg hat') hg hat')
end
section
variable {P : Program} {ops : Array Oper} {Q : Exit → Act → World → Prop}
/-- A call of a function value in a region that draws its order. -/
theorem goesV_ {oi : Oper} {N : Option Tmp} {a : Act} {w : World} {K : Act → World → Prop} {g : Nat} {lb : Array Value} {t : Operand} {bs : Array Operand} {ts : Array TypeId} (eg : ∀ args w, (callFunc g args).run P w = .ok (.enter g args) w) (args : Array Value)
    (hw : Region.wanted oi (yielded ops a.tmps) = true) (hN : oi.dst = N) (hop : oi.op = .call { callee := .value t, args := bs, argTypes := ts }) (hv : a.eval t = .func (.func g) #[] lb) (hargs : bs.map a.eval = args)
    (h : Calls P g (args ++ lb) w fun e w' => ∃ v, e = .returned v ∧ K (a.put N v) w') : if Region.wanted oi (yielded ops a.tmps) = true then Oper.wp P oi a w K Q else K (a.put N undef) w := by
  refine call_ g (args ++ lb) hw hN ?_ h
  unfold execOp
  simp [hop, resolve, Deferred.ofValue, invoke, hv, hargs, eg]
end

set_option maxRecDepth 100000 in
set_option maxHeartbeats 1000000 in
theorem AppendSeq_api_Part.calls (gf : Nat) (lb : Array Value) (eg : ∀ args w, (callFunc gf args).run Try.prog w = .ok (.enter gf args) w) (xs : List S49) (hxs : xs.length ≤ 1000000) (w : World)
    (hseq : SeqStopsK Fence.wide 4 Try.prog gf lb (fun x : S49 => #[.agg #[.string x.f0.f0, .string x.f0.f1, .int .i64 x.f1]]) (Below w.heap.size) (fun ys => ys = xs) (fun _ => True) xs.length w) :
    Calls Try.prog 62 #[.slice none 0 0, .func (.func gf) #[] lb] w fun e w' => ∃ v, e = .returned v ∧ Kd.R k49 49 w' w.heap.size (fun _ => True) v xs ∧ Below w.heap.size w w' := by
 refine (callsIn_wide (n := 5)).1 ?_
 refine callsIn_of_wp_marks Try.func62 rfl trivial ?_ rfl
 simp only [Try.ntmps62, List.size_toArray, List.length_cons, List.length_nil, Nat.reduceAdd, Nat.reduceSub, Array.replicate_succ, Array.replicate_zero, List.push_toArray, List.append_toArray, List.nil_append, List.cons_append]
 gi_wp2
 have bO := Boxed.new w 38 (.slice none 0 0)
 have hB0 : Below w.heap.size w (w.alloc (.cells #[.slice none 0 0] 38)) := (Below.refl _ w).alloc (Nat.le_refl _) _
 refine wpIn_rangeFunc_ownH rfl (by omega) (gf := gf) (lb := lb) rfl trivial eg hseq belowK_t (belowK_b (by simp)) hB0 (fun _ => rfl)
   (fun pre W => (∃ v, Boxed W w.heap.size 38 v ∧ Kd.R k49 49 W w.heap.size (fun _ => True) v pre) ∧ Below w.heap.size w W)
   (fun _ _ _ => False)
   (OwnFrom.and (Own.from (R_own k49 49 w.heap.size w.heap.size 38 (fun pre => pre)) _) (ownFrom_below (Nat.le_refl _) (by simp)))
   (fun _ _ _ _ _ hs _ _ => hs)
   ⟨⟨_, bO, Kd.R_nil _ _ _ _ _⟩, hB0⟩
   (fun x a' W => ∃ Bx, w.heap.size < Bx ∧ W.heap[Bx]? = some (.cells #[.string x.f0.f0, .string x.f0.f1, .int .i64 x.f1] 49 (0, 0)) ∧ a' = { tmps := #[.slice none 0 0, .func (.func gf) #[] lb, .pointer (some ⟨w.heap.size, 0, none⟩), undef, .slice none 0 0, .pointer (some ⟨Bx, 0, none⟩), .func (.func gf) #[] lb, .agg #[.string x.f0.f0, .string x.f0.f1, .int .i64 x.f1], undef, undef, undef, undef, undef], defers := [] })
   (fun x a' _ X Y row hs hg hr => by obtain ⟨Bx, h1, h2, h3⟩ := hs; exact ⟨Bx, h1, cells_own Bx _ rfl () X Y row h2 hg (fun r e => (hr r e).2), h3⟩)
   ?assign ?body ?done ?stop
 case assign =>
  rintro l pre x W K ⟨⟨v, bS, hR⟩, hB⟩ hK
  gi_wp2
  exact hK _ _ ((KeepsOthers.alloc _ _).from _) ((Below.refl _ W).alloc hB.size _) ⟨⟨v, bS.alloc _, Kd.R_alloc hR _⟩, hB.alloc hB.size _⟩ ⟨W.heap.size, bS.lt, blk_new _ _, rfl⟩
 case body =>
  rintro l pre x a' W hl _ ⟨⟨v, bS, hR⟩, hB⟩ ⟨Bx, hBx, bX, rfl⟩ hlt
  have HX := Aside0.mk hxs
  have HLN : Aside0 ((pre.length + 1) * 40 ≤ 140737488355328) := ⟨by omega⟩
  have HR := Aside0.mk hR
  have HB := Aside0.mk hB
  have BS := Aside0.mk bS
  have cS := bS.cell
  have fS := bS.frozen
  have hltS := bS.lt
  have hltX := blk_lt bX
  have hx0 : W.cell? ⟨Bx, 0, none⟩ = some (.string x.f0.f0) := (blk_cell bX 0).trans rfl
  have hx1 : W.cell? ⟨Bx, 1, none⟩ = some (.string x.f0.f1) := (blk_cell bX 1).trans rfl
  have hx2 : W.cell? ⟨Bx, 2, none⟩ = some (.int .i64 x.f1) := (blk_cell bX 2).trans rfl
  clear hR hB bS bX hxs hlt hseq
  gi_wp2_with (gi_at_builtin; refine wpListIn_R_append k49 w.heap.size rfl (.tmp 8) (.tmp 10) 38 49 (.agg #[(.string ⟨#[]⟩), (.string ⟨#[]⟩), (.int .i64 0)]) 40 rfl Try.underlying38 info49 rfl (by decide) (by decide) v pre x [.string x.f0.f0, .string x.f0.f1, .int .i64 x.f1] (fun _ => True) (fun _ => False) rfl ?aX ?aP (fun _ hk => hk.elim) (fun _ _ => trivial) HR.out HB.out.size HLN.out ?_; (case aX => rfl); (case aP => exact k49_mkM _ _ _ x); intro v1 w1 ho hg _; have bS1 := BS.out.kept hg (Kd.R_ne HR.out BS.out (by decide)); have BS1 := Aside0.mk bS1; have hk1 := KeepsOthers.of_grownBy hg (fun j o ej hj => by obtain ⟨cells, hc⟩ := Kd.R_typed HR.out j ej; rw [hj] at hc; cases hc; rfl); have HK1 := Aside0.mk hk1; have hb1 := (Below.refl w.heap.size W).grown hg HB.out.size (Kd.R_base HR.out); have HB1 := Aside0.mk hb1; obtain ⟨g1, c1, e1, _⟩ := Kd.R_form ho (by simp); rw [show (pre ++ [x]).length = pre.length + 1 by simp] at e1; subst e1; have HO := Aside0.mk ho; have cS1 := bS1.cell; have fS1 := bS1.frozen; have hltS1 := bS1.lt; clear bS1 hk1 hb1 ho hg)
  exact ⟨(HK1.out.trans (KeepsOthers.setCell _ _ _)).from _, HB1.out.setCell (p := ⟨w.heap.size, 0, none⟩) (Nat.le_refl _) _, ⟨_, BS1.out.set _, Kd.R_set HO.out BS1.out (by decide) 0 _⟩, (HB.out.trans HB1.out).setCell (p := ⟨w.heap.size, 0, none⟩) (Nat.le_refl _) _⟩
 case done =>
  rintro D ys W hD rfl ⟨⟨v, bS, hR⟩, hB⟩ hK
  have cS := bS.cell
  gi_wp2
  refine ⟨by simp, .inl ⟨_, _, rfl, run_takeDeferred hK, ?_⟩⟩
  exact ⟨_, results_tmp rfl _ _ _, v, rfl, R_putObj _ hR hK rfl, hB.trans (belowK_b (w := w) (Nat.le_refl _) W D _ _ (by simp at hD; omega) hK rfl rfl)⟩
 case stop =>
  rintro D c pre W _ _ h _
  exact h.elim
set_option maxHeartbeats 400000 in
theorem Collect_api_Part.calls (gf : Nat) (lb : Array Value) (eg : ∀ args w, (callFunc gf args).run Try.prog w = .ok (.enter gf args) w) (xs : List S49) (hxs : xs.length ≤ 1000000) (w : World)
    (hseq : SeqStopsK Fence.wide 4 Try.prog gf lb (fun x : S49 => #[.agg #[.string x.f0.f0, .string x.f0.f1, .int .i64 x.f1]]) (Below w.heap.size) (fun ys => ys = xs) (fun _ => True) xs.length w) :
    Calls Try.prog 36 #[.func (.func gf) #[] lb] w fun e w' => ∃ v, e = .returned v ∧ Kd.R k49 49 w' w.heap.size (fun _ => True) v xs ∧ Below w.heap.size w w' := by
 go_enter Try.func36, Try.ntmps36
 go_wp2_with (go_at_call 62; refine (AppendSeq_api_Part.calls gf lb eg xs hxs w hseq).mono ?_; rintro _ w1 ⟨v, rfl, hR, hb⟩; have HR := Aside0.mk hR; have HB := Aside0.mk hb; clear hR hb)
 go_ret
 exact ⟨v, rfl, HR.out, HB.out⟩

/-- Who has lots on a side. -/
def sides_go (p : Int → Int → Int) (s0 : ByteArray) (s1 s2 s3 : Int) : List S47 → Option (List S49)
  | [] => some []
  | h :: r => (position_Find.f h.f1 s0 s1 s2 s3).bind fun x => (sides_go p s0 s1 s2 s3 r).bind fun t => some (if 0 < p x.2.2.2.2.1 x.2.2.2.2.2 then ⟨h.f0, p x.2.2.2.2.1 x.2.2.2.2.2⟩ :: t else t)
theorem sides_length (p : Int → Int → Int) (s0 : ByteArray) (s1 s2 s3 : Int) (l : List S47) : ∀ xs, sides_go p s0 s1 s2 s3 l = some xs → xs.length ≤ l.length := by
  induction l with
  | nil => intro xs h; cases Option.some.inj h; exact Nat.le_refl _
  | cons a r ih =>
    intro xs h
    rw [sides_go] at h
    obtain ⟨x, _, h⟩ := Option.bind_eq_some_iff.mp h
    obtain ⟨t, ht, h⟩ := Option.bind_eq_some_iff.mp h
    have := ih t ht
    obtain rfl := Option.some.inj h
    split <;> simp <;> omega
/-- What is asked of a function that tells a side of a position. -/
abbrev SideFn (g : Nat) (p : Int → Int → Int) : Prop := ∀ (W : World) (x0 : ByteArray) (x1 x2 x3 x4 x5 : Int), Calls Try.prog g #[.agg #[.string x0, .int .i64 x1, .int .i64 x2, .int .i64 x3, .int .i64 x4, .int .i64 x5]] W fun e w' => e = .returned (.int .i64 (p x4 x5)) ∧ Below W.heap.size W w'
set_option maxHeartbeats 800000 in
theorem sides.calls (A0 : Option Addr) (c0 n0 : Nat) (s0 : ByteArray) (s1 s2 s3 : Int) (g : Nat) (w : World) :
    Calls Try.prog 37 #[.slice A0 n0 c0, .agg #[.string s0, .int .i64 s1, .int .i64 s2, .int .i64 s3], .func (.func g) #[] #[]] w fun e w' =>
      e = .returned (.func (.func 63) #[] #[.pointer (some ⟨w.heap.size, 0, none⟩), .pointer (some ⟨w.heap.size + 1 + 1, 0, none⟩), .pointer (some ⟨w.heap.size + 1, 0, none⟩)]) ∧
      w' = ((w.alloc (.cells #[.slice A0 n0 c0] 37)).alloc (.cells #[.string s0, .int .i64 s1, .int .i64 s2, .int .i64 s3] 25)).alloc (.cells #[.func (.func g) #[] #[]] 69) := by
 go_enter Try.func37, Try.ntmps37
 go_wp2
 go_ret
 exact ⟨rfl, rfl⟩
theorem below_grown {W W' : World} (h : Below W.heap.size W W') : W.grownBy W' none := ⟨h.os, h.tape, h.output, h.size, fun i hi _ => h.block i hi⟩
set_option maxHeartbeats 1600000 in
set_option maxRecDepth 100000 in
theorem sides_stops (g : Nat) (eg : ∀ args w, (callFunc g args).run Try.prog w = .ok (.enter g args) w) (p : Int → Int → Int) (hp : SideFn g p) (A0 : Option Addr) (c0 : Nat) (l0 : List S47) (s0 : ByteArray) (s1 s2 s3 : Int) (xs : List S49) (w : World) (bl bf bs : Nat)
    (hl : w.heap[bl]? = some (.cells #[.slice A0 l0.length c0] 37 (0, 0))) (hf : w.heap[bf]? = some (.cells #[.func (.func g) #[] #[]] 69 (0, 0))) (hs : w.heap[bs]? = some (.cells #[.string s0, .int .i64 s1, .int .i64 s2, .int .i64 s3] 25 (0, 0)))
    (hC : Kd.C k47 w A0 l0.length l0) (h : sides_go p s0 s1 s2 s3 l0 = some xs) (n : Nat) :
    SeqStopsK Fence.wide n Try.prog 63 #[.pointer (some ⟨bl, 0, none⟩), .pointer (some ⟨bf, 0, none⟩), .pointer (some ⟨bs, 0, none⟩)] (fun x : S49 => #[.agg #[.string x.f0.f0, .string x.f0.f1, .int .i64 x.f1]]) (Below w.heap.size) (fun ys => ys = xs) (fun _ => True) xs.length w := by
  intro l J Jx W hW hJ hJx hY h0
  refine callsIn_wide.2 ?_
  have HL := Aside0.mk (blk_below hl hW)
  have HF := Aside0.mk (blk_below hf hW)
  have HS := Aside0.mk (blk_below hs hW)
  have HR0 := Aside0.mk (Kd.C_below hC hW)
  have HLL := Aside0.mk hC.2.1
  have HLW := Aside0.mk hl
  have HFW := Aside0.mk hf
  have HSW := Aside0.mk hs
  have HCW := Aside0.mk hC
  have HW := Aside0.mk hW
  have HJ := Aside0.mk hJ
  have HJX := Aside0.mk hJx
  have HY := Aside0.mk hY
  have HJ0 := Aside0.mk h0
  have HG := Aside0.mk h
  have HP := Aside0.mk hp
  have hl1 := hC.2.1
  have hc0 : W.cell? ⟨bl, 0, none⟩ = some (.slice A0 l0.length c0) := (blk_cell HL.out 0).trans rfl
  clear hl hf hs hC hW hJ hJx hY h0 h hp
  go_enter Try.func63, Try.ntmps63
  go_wp2
  clear hc0
  go_loopg [10] l0.length (fun kq v10 w' => ∃ (x : Nat) (pre rest : List S49), v10 = .int .i64 (x : Int) ∧ kq + x = l0.length ∧ Aside0 (xs = pre ++ rest) ∧ Aside0 (sides_go p s0 s1 s2 s3 (l0.drop x) = some rest) ∧ Aside0 (J pre w') ∧ Aside0 (Below w.heap.size w w') ∧ Aside0 (W.heap.size ≤ w'.heap.size))
  case atStart => exact ⟨0, [], xs, rfl, by omega, ⟨rfl⟩, HG, HJ0, HW, ⟨Nat.le_refl _⟩⟩
  case round =>
    clear HJ0 HG HR0 HL HF HS
    obtain ⟨x, pre, rest, rfl, hx, HX, HA, HJS, HB, HSZ⟩ := hrel
    by_cases hlt : x < l0.length
    · obtain ⟨ad, A2, c2, ead, h0, h1, h2, h3, h4⟩ := at_T47 (Kd.C_below HCW.out HB.out) (x : Int) (by omega) (by omega)
      cases ead
      simp only [Int.toNat_natCast] at h0 h1 h2
      have hdr : l0.drop x = rd_T47 l0 x :: l0.drop (x + 1) := by
        rw [List.drop_eq_getElem_cons hlt]
        simp [rd_T47, hlt]
      have hA := HA.out
      rw [hdr, sides_go] at hA
      clear hdr HA
      generalize hq : rd_T47 l0 x = q at *
      clear hq
      obtain ⟨⟨q0, q1⟩, q2⟩ := q
      simp only at h0 h1 h2 h3 h4 hA
      have H3 := Aside0.mk h3
      have H4 := Aside0.mk h4
      obtain ⟨⟨f0, f1, f2, f3, f4, f5⟩, hF, hA⟩ := Option.bind_eq_some_iff.mp hA
      obtain ⟨t, hT, hA⟩ := Option.bind_eq_some_iff.mp hA
      have HFI := Aside0.mk hF
      have HT := Aside0.mk hT
      have HE := Aside0.mk (Option.some.inj hA)
      clear h3 h4 hF hT hA
      have BF := Aside0.mk (blk_alloc (blk_below HFW.out HB.out) (.cells #[.string q0, .string q1, .slice A2 q2.length c2] 47 (0, 0)))
      have BS := Aside0.mk (blk_alloc (blk_below HSW.out HB.out) (.cells #[.string q0, .string q1, .slice A2 q2.length c2] 47 (0, 0)))
      have BH := Aside0.mk (blk_new wr (.cells #[.string q0, .string q1, .slice A2 q2.length c2] 47 (0, 0)))
      have HB1 := Aside0.mk (below_alloc HB.out (.cells #[.string q0, .string q1, .slice A2 q2.length c2] 47 (0, 0)))
      go_wp2
      refine start_ (n := 7) (S := fun w' => w'.cell? ⟨bf, 0, none⟩ = some (.func (.func g) #[] #[]) ∧ w'.cell? ⟨wr.heap.size, 2, none⟩ = some (.slice A2 q2.length c2) ∧ w'.cell? ⟨bs, 0, none⟩ = some (.string s0) ∧ w'.cell? ⟨bs, 1, none⟩ = some (.int .i64 s1) ∧ w'.cell? ⟨bs, 2, none⟩ = some (.int .i64 s2) ∧ w'.cell? ⟨bs, 3, none⟩ = some (.int .i64 s3)) (ds := []) (tf 0 7) (by kernel_rfl) rfl rfl ⟨((blk_cell (blk_drew BF.out) 0).trans rfl), ((blk_cell (blk_drew BH.out) 2).trans rfl), ((blk_cell (blk_drew BS.out) 0).trans rfl), ((blk_cell (blk_drew BS.out) 1).trans rfl), ((blk_cell (blk_drew BS.out) 2).trans rfl), ((blk_cell (blk_drew BS.out) 3).trans rfl)⟩ (fun hHeld => ?_)
      refine pure_ (i := 1) (N := some 15) (v := ?_) (a' := ?_) #[false, true, false, false, false, false, false] rfl rfl (by kernel_rfl) (fun _ _ _ h => h) (Or.inl ⟨by rfl, ?_⟩) ?_ ?_
      rotate_left
      · intro w'
        go_simp
        with_reducible rfl
      rotate_left
      · exact ap_
      refine take_ (i := 0) (N := some 14) (v := ?_) (a' := ?_) (tf 2 5) rfl rfl (by kernel_rfl) (fun _ _ _ h => h) (Or.inl ⟨by rfl, ?_⟩) hHeld ?_ ?_
      rotate_left
      · rintro w' ⟨s0, s1, s2, s3, s4, s5⟩
        go_simp
        with_reducible rfl
      rotate_left
      · exact ap_
      refine take_ (i := 2) (N := some 16) (v := ?_) (a' := ?_) (tf 3 4) rfl rfl (by kernel_rfl) (fun _ _ _ h => h) (Or.inl ⟨by rfl, ?_⟩) hHeld ?_ ?_
      rotate_left
      · rintro w' ⟨s0, s1, s2, s3, s4, s5⟩
        go_simp
        with_reducible rfl
      rotate_left
      · exact ap_
      refine take_ (i := 3) (N := some 17) (v := ?_) (a' := ?_) (tf 4 3) rfl rfl (by kernel_rfl) (fun _ _ _ h => h) (Or.inl ⟨by rfl, ?_⟩) hHeld ?_ ?_
      rotate_left
      · rintro w' ⟨s0, s1, s2, s3, s4, s5⟩
        go_simp
        with_reducible rfl
      rotate_left
      · exact ap_
      refine one_ (i := 4) (N := some 18) (tf 5 2) rfl rfl (by kernel_rfl) (by decide) (fun K hK => ?_)
      refine goes_ Try.func46 (by kernel_rfl) rfl #[.slice A2 q2.length c2, .agg #[.string s0, .int .i64 s1, .int .i64 s2, .int .i64 s3]] (by rfl) rfl rfl (by simp only [List.map_toArray, List.map_cons, List.map_nil]; rfl) ?_
      with_reducible refine (position_Find.calls A2 c2 q2 s0 s1 s2 s3 f0 f1 f2 f3 f4 f5 _ (Kd.C_below H4.out (below_drew (below_alloc (Below.refl _ _) _))) H3.out HFI.out).mono ?_
      rintro _ w5 ⟨rfl, hb⟩
      refine ⟨_, rfl, ?_⟩
      have HBC5 := Aside0.mk hb
      have B5F := Aside0.mk (blk_below (blk_drew BF.out) hb)
      have B5H := Aside0.mk (blk_below (blk_drew BH.out) hb)
      have B5S := Aside0.mk (blk_below (blk_drew BS.out) hb)
      have HB5 := Aside0.mk (below_step (below_drew HB1.out) hb)
      clear hb
      refine hK.out _ _ ⟨((blk_cell B5F.out 0).trans rfl), ((blk_cell B5H.out 2).trans rfl), ((blk_cell B5S.out 0).trans rfl), ((blk_cell B5S.out 1).trans rfl), ((blk_cell B5S.out 2).trans rfl), ((blk_cell B5S.out 3).trans rfl)⟩ (fun hHeld => ?_)
      clear hK K
      refine norm_ (a' := ?_) ?_ ?_
      rotate_left
      · show Act.put _ (some 18) _ = _
        simp only [Act.put, List.setIfInBounds_toArray, List.set_cons_zero, List.set_cons_succ, i64_w, i32_w]
        rfl
      refine one_ (i := 5) (N := some 19) (tf 6 1) rfl rfl (by kernel_rfl) (by decide) (fun K hK => ?_)
      refine goesV_ eg #[.agg #[.string f0, .int .i64 f1, .int .i64 f2, .int .i64 f3, .int .i64 f4, .int .i64 f5]] (by rfl) rfl rfl (by rfl) (by simp only [List.map_toArray, List.map_cons, List.map_nil]; rfl) ?_
      refine (HP.out w5 f0 f1 f2 f3 f4 f5).mono ?_
      rintro _ w6 ⟨rfl, hb⟩
      refine ⟨_, rfl, ?_⟩
      have B6F := Aside0.mk (blk_below B5F.out hb)
      have B6H := Aside0.mk (blk_below B5H.out hb)
      have B6S := Aside0.mk (blk_below B5S.out hb)
      have HB6 := Aside0.mk (below_step HB5.out hb)
      have HBC6 := Aside0.mk (below_step HBC5.out hb)
      clear hb
      refine hK.out _ _ ⟨((blk_cell B6F.out 0).trans rfl), ((blk_cell B6H.out 2).trans rfl), ((blk_cell B6S.out 0).trans rfl), ((blk_cell B6S.out 1).trans rfl), ((blk_cell B6S.out 2).trans rfl), ((blk_cell B6S.out 3).trans rfl)⟩ (fun hHeld => ?_)
      clear hK K
      refine norm_ (a' := ?_) ?_ ?_
      rotate_left
      · show Act.put _ (some 19) _ = _
        simp only [Act.put, List.setIfInBounds_toArray, List.set_cons_zero, List.set_cons_succ, i64_w, i32_w]
        rfl
      refine pure_ (i := 6) (N := some 7) (v := ?_) (a' := ?_) (tf 7 0) rfl rfl (by kernel_rfl) (fun _ _ _ h => h) (Or.inl ⟨by rfl, ?_⟩) ?_ ?_
      rotate_left
      · intro w'
        go_simp
        with_reducible rfl
      rotate_left
      · exact ap_
      refine done_ (by kernel_rfl) ?_
      have hxx : xs = pre ++ rest := HX.out
      have HJ6 : Aside0 (J pre w6) := ⟨HJ.out _ _ _ none HJS.out (below_grown (below_step (below_drew (below_alloc (Below.refl _ wr) _)) HBC6.out)) (fun r e => by cases e)⟩
      have HSZ6 : Aside0 (W.heap.size ≤ w6.heap.size) := ⟨Nat.le_trans HSZ.out (Nat.le_trans (by simp) HBC6.out.size)⟩
      have e0 : w6.cell? ⟨wr.heap.size, 0, none⟩ = some (.string q0) := (blk_cell B6H.out 0).trans rfl
      have e1 : w6.cell? ⟨wr.heap.size, 1, none⟩ = some (.string q1) := (blk_cell B6H.out 1).trans rfl
      have hltH := blk_lt B6H.out
      have HXX := Aside0.mk hxx
      clear hxx h0 h1 h2
      by_cases hn : 0 < p f4 f5
      · have hd : decide (0 < p f4 f5) = true := decide_eq_true hn
        have hE := HE.out
        rw [if_pos hn] at hE
        have HX2 : Aside0 (xs = pre ++ (⟨⟨q0, q1⟩, p f4 f5⟩ :: t)) := ⟨by rw [HXX.out, ← hE]⟩
        clear hn hE
        obtain ⟨fn_, tmps_, assign_, body_, hy, hRR⟩ := HY.out pre ⟨⟨q0, q1⟩, p f4 f5⟩ w6 HJ6.out (by rw [HX2.out]; simp)
        dsimp only at hy
        go_upto_region 4 with (fail)
        refine (wpIn_wide (n := n)).1 ?_
        gi_wp2
        refine ⟨fun h => (by cases h), ?_⟩
        refine hRR.mono ?_
        rintro e W3 (⟨rfl, hJ3, hk3⟩ | ⟨rfl, hJx3⟩)
        · have HB3 : Aside0 (Below w.heap.size w W3) := ⟨HB6.out.trans hk3⟩
          have HJ3 := Aside0.mk hJ3
          have HSZ3 : Aside0 (W.heap.size ≤ W3.heap.size) := ⟨Nat.le_trans HSZ6.out hk3.size⟩
          clear hJ3 hk3 hRR hy
          gi_wp2
          go_wp2
          go_roundg (l0.length - (x + 1))
          case measure => omega
          case rel => exact ⟨x + 1, pre ++ [⟨⟨q0, q1⟩, p f4 f5⟩], t, by go_num, by omega, ⟨by rw [HX2.out]; simp⟩, HT, HJ3, HB3, HSZ3⟩
        · have HJX3 := Aside0.mk hJx3
          clear hJx3 hRR hy
          gi_wp2
          go_wp2
          refine bodyPost_ret (results_none rfl _ _ _) rfl ?_
          exact ⟨⟨_, rfl⟩, .inr ⟨_, trivial, HJX3.out⟩⟩
      · have hd : decide (0 < p f4 f5) = false := decide_eq_false hn
        have hE := HE.out
        rw [if_neg hn] at hE
        have HX2 : Aside0 (xs = pre ++ t) := ⟨by rw [HXX.out, ← hE]⟩
        clear hn hE
        go_wp2
        go_roundg (l0.length - (x + 1))
        case measure => omega
        case rel => exact ⟨x + 1, pre, t, by go_num, by omega, HX2, HT, HJ6, HB6, HSZ6⟩
    · have hA := HA.out
      rw [List.drop_eq_nil_of_le (by omega), sides_go] at hA
      obtain rfl := Option.some.inj hA
      have hd : decide ((x : Int) < (l0.length : Int)) = false := decide_eq_false (by omega)
      have HX2 : Aside0 (xs = pre) := ⟨by rw [HX.out]; simp⟩
      clear hA HA
      go_wp2
      go_end0
      exact ⟨⟨_, rfl⟩, .inl ⟨pre, HX2.out.symm, HJS.out⟩⟩

/-- How many lots are short. -/
def expiry_Assign.sum : List S49 → Int → Int
  | [], a => a
  | x :: r, a => expiry_Assign.sum r (wrap64 (a + x.f1))
/-- Who is assigned how many. -/
def expiry_Assign.out (ps : List Int) : List S49 → Nat → List S49 → Option (List S49)
  | [], _, t => some t
  | x :: r, i, t => if i < ps.length then expiry_Assign.out ps r (i + 1) (if 0 < rd ps i then t ++ [⟨x.f0, rd ps i⟩] else t) else none
def expiry_Assign.f (k : Nat) (l0 : List S47) (a1_0 : ByteArray) (a1_1 a1_2 a1_3 : Int) (a2 : Int) : Option (List S49 × Int) :=
  (expiry_check.f k l0).bind fun e => if e = 0 then ((expiry_lots.f a2).bind fun b => if b = true then (if l0.length ≤ 1000000 then ((sides_go (fun _ s => s) a1_0 a1_1 a1_2 a1_3 l0).bind fun t => if expiry_Assign.sum t 0 < a2 then some ([], 30) else if a2 = 0 then some ([], 0) else ((share_Split.f k a2 (t.map (·.f1))).bind fun y => if y.2 = 0 then ((expiry_Assign.out y.1 t 0 []).bind fun o => some (o, 0)) else some ([], y.2))) else none) else some ([], 18)) else some ([], e)
theorem expiry_Assign.mono : ∀ a0 a1 a2 a3 a4 a5 k, LeO (expiry_Assign.f k a0 a1 a2 a3 a4 a5) (expiry_Assign.f (k + 1) a0 a1 a2 a3 a4 a5) := by
  intro a0 a1 a2 a3 a4 a5 k
  unfold expiry_Assign.f
  exact LeO.bind (expiry_check.mono _ _) (fun e => LeO.ite (LeO.bind (LeO.refl _) (fun b => LeO.ite (LeO.ite (LeO.bind (LeO.refl _) (fun t => LeO.ite (LeO.refl _) (LeO.ite (LeO.refl _) (LeO.bind (share_Split.mono _ _ _) (fun y => LeO.refl _))))) (LeO.refl _)) (LeO.refl _))) (LeO.refl _))
theorem expiry_Assign.side : SideFn 38 (fun _ s => s) := by
  intro W x0 x1 x2 x3 x4 x5
  go_enter Try.func38, Try.ntmps38
  go_wp2
  go_ret
  exact ⟨rfl, (Below.refl _ _).alloc (Nat.le_refl _) _⟩
set_option maxHeartbeats 3200000 in
set_option maxRecDepth 100000 in
theorem expiry_Assign.calls (k : Nat) (A0 : Option Addr) (c0 : Nat) (l0 : List (S47)) (a1_0 : ByteArray) (a1_1 a1_2 a1_3 : Int) (a2 : Int) (r1 : List S49) (r2 : Int) (w : World) (hr0 : Kd.C k47 w A0 l0.length l0) (hc0 : l0.length ≤ c0) (h : expiry_Assign.f k l0 a1_0 a1_1 a1_2 a1_3 a2 = some (r1, r2)) :
    Calls Try.prog 11 #[.slice A0 l0.length c0, .agg #[.string a1_0, .int .i64 a1_1, .int .i64 a1_2, .int .i64 a1_3], .int .i64 a2] w fun e w' => ∃ v0_ : Value, e = .returned (.tuple #[v0_, .int .i64 r2]) ∧ Kd.R k49 49 w' w.heap.size (fun _ => True) v0_ r1 ∧ Below w.heap.size w w' := by
 have HR0 := Aside0.mk hr0
 have HC0 := Aside0.mk hc0
 obtain ⟨e, hE, h⟩ := Option.bind_eq_some_iff.mp h
 have HE := Aside0.mk hE
 clear hr0 hc0 hE
 by_cases he : e = 0
 case neg =>
  rw [if_neg he] at h
  have h2 := Option.some.inj h
  simp only [Prod.mk.injEq] at h2
  obtain ⟨rfl, rfl⟩ := h2
  have h0b : (e == 0) = false := beq_eq_false_iff_ne.mpr he
  have h1b : (e != 0) = true := bne_iff_ne.mpr he
  clear he h
  go_enter Try.func11, Try.ntmps11
  go_wp2_with (go_at_call 35; refine (expiry_check.calls k A0 c0 l0 e _ (Kd.C_alloc HR0.out _) HC0.out HE.out).mono ?_; rintro _ w1 ⟨rfl, hb⟩; have BS := Aside0.mk (blk_below (blk_new w (.cells #[.string a1_0, .int .i64 a1_1, .int .i64 a1_2, .int .i64 a1_3] 25 (0, 0))) hb); have HB := Aside0.mk (below_step (below_alloc (Below.refl _ w) (.cells #[.string a1_0, .int .i64 a1_1, .int .i64 a1_2, .int .i64 a1_3] 25 (0, 0))) hb); clear hb; have s0_ : w1.cell? ⟨w.heap.size, 0, none⟩ = some (.string a1_0) := (blk_cell BS.out 0).trans rfl; have s1_ : w1.cell? ⟨w.heap.size, 1, none⟩ = some (.int .i64 a1_1) := (blk_cell BS.out 1).trans rfl; have s2_ : w1.cell? ⟨w.heap.size, 2, none⟩ = some (.int .i64 a1_2) := (blk_cell BS.out 2).trans rfl; have s3_ : w1.cell? ⟨w.heap.size, 3, none⟩ = some (.int .i64 a1_3) := (blk_cell BS.out 3).trans rfl; have hltS := blk_lt BS.out)
  go_ret2
  exact ⟨_, rfl, Kd.R_nil _ _ _ _ _, HB.out⟩
 subst he
 rw [if_pos rfl] at h
 obtain ⟨b, hN, h⟩ := Option.bind_eq_some_iff.mp h
 have HN := Aside0.mk hN
 clear hN
 cases b with
 | false =>
  rw [if_neg (by decide)] at h
  have h2 := Option.some.inj h
  simp only [Prod.mk.injEq] at h2
  obtain ⟨rfl, rfl⟩ := h2
  clear h
  go_enter Try.func11, Try.ntmps11
  go_wp2_with (first | (go_at_call 35; refine (expiry_check.calls k A0 c0 l0 0 _ (Kd.C_alloc HR0.out _) HC0.out HE.out).mono ?_; rintro _ w1 ⟨rfl, hb⟩; have BS := Aside0.mk (blk_below (blk_new w (.cells #[.string a1_0, .int .i64 a1_1, .int .i64 a1_2, .int .i64 a1_3] 25 (0, 0))) hb); have HB := Aside0.mk (below_step (below_alloc (Below.refl _ w) (.cells #[.string a1_0, .int .i64 a1_1, .int .i64 a1_2, .int .i64 a1_3] 25 (0, 0))) hb); clear hb; have s0_ : w1.cell? ⟨w.heap.size, 0, none⟩ = some (.string a1_0) := (blk_cell BS.out 0).trans rfl; have s1_ : w1.cell? ⟨w.heap.size, 1, none⟩ = some (.int .i64 a1_1) := (blk_cell BS.out 1).trans rfl; have s2_ : w1.cell? ⟨w.heap.size, 2, none⟩ = some (.int .i64 a1_2) := (blk_cell BS.out 2).trans rfl; have s3_ : w1.cell? ⟨w.heap.size, 3, none⟩ = some (.int .i64 a1_3) := (blk_cell BS.out 3).trans rfl; have hltS := blk_lt BS.out) | (go_at_call 26; refine (expiry_lots.calls a2 false _ HN.out).mono ?_; rintro _ w2 ⟨rfl, hd⟩; have BS2 := Aside0.mk (blk_below BS.out hd.below); have HB2 := Aside0.mk (below_step HB.out hd.below); clear hd s0_ s1_ s2_ s3_ hltS; have s0_ : w2.cell? ⟨w.heap.size, 0, none⟩ = some (.string a1_0) := (blk_cell BS2.out 0).trans rfl; have s1_ : w2.cell? ⟨w.heap.size, 1, none⟩ = some (.int .i64 a1_1) := (blk_cell BS2.out 1).trans rfl; have s2_ : w2.cell? ⟨w.heap.size, 2, none⟩ = some (.int .i64 a1_2) := (blk_cell BS2.out 2).trans rfl; have s3_ : w2.cell? ⟨w.heap.size, 3, none⟩ = some (.int .i64 a1_3) := (blk_cell BS2.out 3).trans rfl; have hltS := blk_lt BS2.out))
  go_ret2
  exact ⟨_, rfl, Kd.R_nil _ _ _ _ _, HB2.out⟩
 | true =>
  rw [if_pos rfl] at h
  by_cases hln : l0.length ≤ 1000000
  case neg => rw [if_neg hln] at h; cases h
  rw [if_pos hln] at h
  obtain ⟨t, hT, h⟩ := Option.bind_eq_some_iff.mp h
  have HT := Aside0.mk hT
  have hlt := Nat.le_trans (sides_length _ _ _ _ _ _ _ hT) hln
  have HLN := Aside0.mk hlt
  have HH := Aside0.mk h
  clear h hT hln hlt
  go_enter Try.func11, Try.ntmps11
  go_wp2_with (first | (go_at_call 35; refine (expiry_check.calls k A0 c0 l0 0 _ (Kd.C_alloc HR0.out _) HC0.out HE.out).mono ?_; rintro _ w1 ⟨rfl, hb⟩; have BS := Aside0.mk (blk_below (blk_new w (.cells #[.string a1_0, .int .i64 a1_1, .int .i64 a1_2, .int .i64 a1_3] 25 (0, 0))) hb); have HB := Aside0.mk (below_step (below_alloc (Below.refl _ w) (.cells #[.string a1_0, .int .i64 a1_1, .int .i64 a1_2, .int .i64 a1_3] 25 (0, 0))) hb); clear hb; have s0_ : w1.cell? ⟨w.heap.size, 0, none⟩ = some (.string a1_0) := (blk_cell BS.out 0).trans rfl; have s1_ : w1.cell? ⟨w.heap.size, 1, none⟩ = some (.int .i64 a1_1) := (blk_cell BS.out 1).trans rfl; have s2_ : w1.cell? ⟨w.heap.size, 2, none⟩ = some (.int .i64 a1_2) := (blk_cell BS.out 2).trans rfl; have s3_ : w1.cell? ⟨w.heap.size, 3, none⟩ = some (.int .i64 a1_3) := (blk_cell BS.out 3).trans rfl; have hltS := blk_lt BS.out) | (go_at_call 26; refine (expiry_lots.calls a2 true _ HN.out).mono ?_; rintro _ w2 ⟨rfl, hd⟩; have BS2 := Aside0.mk (blk_below BS.out hd.below); have HB2 := Aside0.mk (below_step HB.out hd.below); clear hd s0_ s1_ s2_ s3_ hltS; have s0_ : w2.cell? ⟨w.heap.size, 0, none⟩ = some (.string a1_0) := (blk_cell BS2.out 0).trans rfl; have s1_ : w2.cell? ⟨w.heap.size, 1, none⟩ = some (.int .i64 a1_1) := (blk_cell BS2.out 1).trans rfl; have s2_ : w2.cell? ⟨w.heap.size, 2, none⟩ = some (.int .i64 a1_2) := (blk_cell BS2.out 2).trans rfl; have s3_ : w2.cell? ⟨w.heap.size, 3, none⟩ = some (.int .i64 a1_3) := (blk_cell BS2.out 3).trans rfl; have hltS := blk_lt BS2.out) | (go_at_call 37; refine (sides.calls A0 c0 l0.length a1_0 a1_1 a1_2 a1_3 38 _).mono ?_; rintro _ w3 ⟨rfl, rfl⟩; clear s0_ s1_ s2_ s3_ hltS) | (go_at_call 36; refine (Collect_api_Part.calls 63 _ (enters_of Try.func63 (by kernel_rfl) rfl) t HLN.out _ (sides_stops 38 (enters_of Try.func38 (by kernel_rfl) rfl) _ expiry_Assign.side A0 c0 l0 a1_0 a1_1 a1_2 a1_3 t _ _ _ _ (blk_alloc (blk_alloc (blk_new w2 _) _) _) (by have := blk_new ((w2.alloc (.cells #[.slice A0 l0.length c0] 37)).alloc (.cells #[.string a1_0, .int .i64 a1_1, .int .i64 a1_2, .int .i64 a1_3] 25)) (.cells #[.func (.func 38) #[] #[]] 69 (0, 0)); simpa using this) (by have := blk_alloc (blk_new (w2.alloc (.cells #[.slice A0 l0.length c0] 37)) (.cells #[.string a1_0, .int .i64 a1_1, .int .i64 a1_2, .int .i64 a1_3] 25 (0, 0))) (.cells #[.func (.func 38) #[] #[]] 69 (0, 0)); simpa using this) (Kd.C_alloc (Kd.C_alloc (Kd.C_alloc (Kd.C_below HR0.out HB2.out) _) _) _) HT.out 4)).mono ?_; rintro _ w4 ⟨v, rfl, hR, hb⟩; obtain ⟨AP, cP, eP⟩ := Kd.R_slice hR; subst eP; have HCP := Aside0.mk (Kd.R_reads' hR).2.2; have HCC := Aside0.mk (Kd.R_reads' hR).2.1; have HB4 := Aside0.mk (below_step (below_alloc (below_alloc (below_alloc HB2.out _) _) _) hb); clear hR hb))
  clear HB HB2 BS BS2
  have hlt : t.length ≤ 1000000 := HLN.out
  go_loopg [10, 11, 33] t.length (fun kq v10 v11 v33 w' => ∃ (x : Nat) (ws : List Int) (a : Int), v33 = .int .i64 (x : Int) ∧ v11 = .int .i64 a ∧ kq + x = t.length ∧ Aside0 (ws.length = x) ∧ Aside0 (ws ++ (t.drop x).map (·.f1) = t.map (·.f1)) ∧ Aside0 (expiry_Assign.sum (t.drop x) a = expiry_Assign.sum t 0) ∧ Aside0 (Kd.R (Kd.int .i64) 3 w' w4.heap.size (fun _ => True) v10 ws) ∧ Aside0 (Below w4.heap.size w4 w'))
  case atStart => exact ⟨0, [], 0, rfl, rfl, by omega, ⟨rfl⟩, ⟨rfl⟩, ⟨rfl⟩, ⟨Kd.R_nil _ _ _ _ _⟩, ⟨Below.refl _ _⟩⟩
  case round =>
   obtain ⟨x, ws, a, rfl, rfl, hx, HWL, HWE, HSU, HRW, HBW⟩ := hrel
   have hszw := HBW.out.size
   by_cases hlx : x < t.length
   · obtain ⟨ad, ead, h0, h1, h2⟩ := at_T49 (Kd.C_below HCP.out HBW.out) (x : Int) (by omega) (by omega)
     cases ead
     simp only [Int.toNat_natCast] at h0 h1 h2
     have hdr : t.drop x = rd_T49 t x :: t.drop (x + 1) := by
       rw [List.drop_eq_getElem_cons hlx]
       simp [rd_T49, hlx]
     have hwe := HWE.out
     have hsu := HSU.out
     rw [hdr, List.map_cons] at hwe
     rw [hdr, expiry_Assign.sum] at hsu
     clear hdr HWE HSU
     generalize hq : rd_T49 t x = q at *
     clear hq
     obtain ⟨⟨p0, p1⟩, p2⟩ := q
     simp only at h0 h1 h2 hwe hsu
     have HWE := Aside0.mk hwe
     have HSU := Aside0.mk hsu
     have HRX := Aside0.mk (Kd.R_alloc HRW.out (.cells #[.string p0, .string p1, .int .i64 p2] 49 (0, 0)))
     have HBX := Aside0.mk (HBW.out.alloc HBW.out.size (.cells #[.string p0, .string p1, .int .i64 p2] 49 (0, 0)))
     have HLW : Aside0 ((ws.length + 1) * 8 ≤ 140737488355328) := ⟨by have := HWL.out; omega⟩
     clear hwe hsu
     go_wp2_with ((with_reducible refine gate_builtin (b := .append) (xs := #[.tmp 37, .tmp 40]) rfl ?_); at_builtin; refine Kd.R_append (Kd.int .i64) (w0 := w4) w4.heap.size rfl (.tmp 37) (.tmp 40) 79 3 (.int .i64 0) 8 rfl Try.underlying79 info3 rfl (by decide) (by decide) u10 ws p2 [.int .i64 p2] (fun _ => True) (fun _ => False) rfl ?aX ?aP (fun _ hk => hk.elim) (fun _ _ => trivial) HRX.out HBX.out HBX.out.size ?aL ?_; (case aX => (simp only [World.size_alloc]; rfl)); (case aP => rfl); (case aL => exact HLW.out); intro v9 w9 ho hb9 hg9 _; have HR9 := Aside0.mk ho; have HB9 := Aside0.mk hb9; have BX9 := Aside0.mk (blk_grown (blk_new wr (.cells #[.string p0, .string p1, .int .i64 p2] 49 (0, 0))) hg9 (Kd.R_ne HRX.out (blk_new wr (.cells #[.string p0, .string p1, .int .i64 p2] 49 (0, 0))) (by decide))); clear ho hb9 hg9; have x2_ : w9.cell? ⟨wr.heap.size, 2, none⟩ = some (.int .i64 p2) := (blk_cell BX9.out 2).trans rfl; have hltX := blk_lt BX9.out)
     go_roundg (t.length - (x + 1))
     case measure => omega
     case rel => exact ⟨x + 1, ws ++ [p2], _, by go_num, rfl, by omega, ⟨by have := HWL.out; simp; omega⟩, ⟨by rw [← HWE.out]; simp⟩, HSU, HR9, HB9⟩
   have hxe : x = t.length := by omega
   have hwe := HWE.out
   have hsu := HSU.out
   rw [List.drop_eq_nil_of_le (by omega)] at hwe hsu
   simp only [List.map_nil, List.append_nil] at hwe
   rw [expiry_Assign.sum] at hsu
   have hd : decide ((x : Int) < (t.length : Int)) = false := decide_eq_false (by omega)
   have h := HH.out
   rw [← hsu, ← hwe] at h
   clear HWE HSU HH hwe hsu hxe
   by_cases ha : a < a2
   · rw [if_pos ha] at h
     have h2 := Option.some.inj h
     simp only [Prod.mk.injEq] at h2
     obtain ⟨rfl, rfl⟩ := h2
     have hd2 : decide (a < a2) = true := decide_eq_true ha
     clear ha h
     go_wp2
     go_ret2
     exact ⟨_, rfl, Kd.R_nil _ _ _ _ _, below_step HB4.out HBW.out⟩
   rw [if_neg ha] at h
   have hd2 : decide (a < a2) = false := decide_eq_false ha
   clear ha
   by_cases hz : a2 = 0
   · subst hz
     rw [if_pos rfl] at h
     have h2 := Option.some.inj h
     simp only [Prod.mk.injEq] at h2
     obtain ⟨rfl, rfl⟩ := h2
     clear h
     go_wp2
     go_ret2
     exact ⟨_, rfl, Kd.R_nil _ _ _ _ _, below_step HB4.out HBW.out⟩
   rw [if_neg hz] at h
   have hz0 : (a2 == 0) = false := beq_eq_false_iff_ne.mpr hz
   have hz1 : (a2 != 0) = true := bne_iff_ne.mpr hz
   clear hz
   obtain ⟨⟨ps, e2⟩, hSP, h⟩ := Option.bind_eq_some_iff.mp h
   have HSP := Aside0.mk hSP
   obtain ⟨AW, cW, eW⟩ := Kd.R_slice HRW.out
   subst eW
   have HCW := Aside0.mk (Kd.R_reads' HRW.out).2.2
   have HWC := Aside0.mk (Kd.R_reads' HRW.out).2.1
   clear hSP
   simp only at h
   by_cases he2 : e2 = 0
   case neg =>
    rw [if_neg he2] at h
    have h2 := Option.some.inj h
    simp only [Prod.mk.injEq] at h2
    obtain ⟨rfl, rfl⟩ := h2
    have h0b : (e2 == 0) = false := beq_eq_false_iff_ne.mpr he2
    have h1b : (e2 != 0) = true := bne_iff_ne.mpr he2
    clear he2 h
    go_wp2_with (go_at_call 39; refine (share_Split.calls k a2 AW cW ws ps e2 _ HCW.out HWC.out HSP.out).mono ?_; rintro _ w10 ⟨v10, rfl, hR, hb⟩; have HB10 := Aside0.mk (below_step HBW.out hb); clear hR hb)
    go_ret2
    exact ⟨_, rfl, Kd.R_nil _ _ _ _ _, below_step HB4.out HB10.out⟩
   subst he2
   rw [if_pos rfl] at h
   obtain ⟨oo, hO, h⟩ := Option.bind_eq_some_iff.mp h
   have h2 := Option.some.inj h
   simp only [Prod.mk.injEq] at h2
   obtain ⟨rfl, rfl⟩ := h2
   have HO := Aside0.mk hO
   clear hO h
   go_wp2_with (go_at_call 39; refine (share_Split.calls k a2 AW cW ws ps 0 _ HCW.out HWC.out HSP.out).mono ?_; rintro _ w10 ⟨v10, rfl, hR, hb⟩; have HB10 := Aside0.mk (below_step HBW.out hb); obtain ⟨AS, cS, eS⟩ := Kd.R_slice hR; subst eS; have HCS := Aside0.mk (Kd.R_reads' hR).2.2; clear hR hb)
   go_loopg [16, 63] t.length (fun kq v16 v63 w' => ∃ (y : Nat) (o : List S49), v63 = .int .i64 (y : Int) ∧ kq + y = t.length ∧ Aside0 (o.length ≤ y) ∧ Aside0 (expiry_Assign.out ps (t.drop y) y o = some oo) ∧ Aside0 (Kd.R k49 49 w' w10.heap.size (fun _ => True) v16 o) ∧ Aside0 (Below w10.heap.size w10 w'))
   case atStart => exact ⟨0, [], rfl, by omega, ⟨Nat.le_refl _⟩, HO, ⟨Kd.R_nil _ _ _ _ _⟩, ⟨Below.refl _ _⟩⟩
   case round =>
    clear HO
    obtain ⟨y, o, rfl, hy, HOL, HO, HRO, HBO⟩ := hrel
    have hszo := HBO.out.size
    by_cases hly : y < t.length
    rotate_left
    · have hye : y = t.length := by omega
      have hO := HO.out
      rw [List.drop_eq_nil_of_le (by omega), expiry_Assign.out] at hO
      obtain rfl := Option.some.inj hO
      have hd4 : decide ((y : Int) < (t.length : Int)) = false := decide_eq_false (by omega)
      clear HO hO hye
      go_wp2
      go_ret2
      exact ⟨_, rfl, Kd.R_lower HRO.out (Nat.le_trans HB4.out.size HB10.out.size), below_step HB4.out (below_step HB10.out HBO.out)⟩
    obtain ⟨ad, ead, h0, h1, h2⟩ := at_T49 (Kd.C_below (Kd.C_below HCP.out HB10.out) HBO.out) (y : Int) (by omega) (by omega)
    cases ead
    simp only [Int.toNat_natCast] at h0 h1 h2
    have hdr : t.drop y = rd_T49 t y :: t.drop (y + 1) := by
      rw [List.drop_eq_getElem_cons hly]
      simp [rd_T49, hly]
    have hO := HO.out
    rw [hdr, expiry_Assign.out] at hO
    clear hdr HO
    generalize hq : rd_T49 t y = q at *
    clear hq
    obtain ⟨⟨p0, p1⟩, p2⟩ := q
    simp only at h0 h1 h2 hO
    by_cases hps : y < ps.length
    case neg => rw [if_neg hps] at hO; cases hO
    rw [if_pos hps] at hO
    obtain ⟨as_, eas, g0⟩ := Kd.at_int (Kd.C_below HCS.out HBO.out) (y : Int) (by omega) (by omega)
    cases eas
    simp only [Int.toNat_natCast] at g0
    have hltg := World.block_lt_of_cell? _ _ g0
    have BXN := Aside0.mk (blk_new wr (.cells #[.string p0, .string p1, .int .i64 p2] 49 (0, 0)))
    have HRX := Aside0.mk (Kd.R_alloc HRO.out (.cells #[.string p0, .string p1, .int .i64 p2] 49 (0, 0)))
    have HBX := Aside0.mk (HBO.out.alloc HBO.out.size (.cells #[.string p0, .string p1, .int .i64 p2] 49 (0, 0)))
    have HLO : Aside0 ((o.length + 1) * 40 ≤ 140737488355328) := ⟨by have := HOL.out; omega⟩
    by_cases hp : 0 < rd ps y
    rotate_left
    · rw [if_neg hp] at hO
      have HO2 := Aside0.mk hO
      have hd3 : decide (0 < rd ps y) = false := decide_eq_false hp
      clear hO hp
      go_wp2
      go_roundg (t.length - (y + 1))
      case measure => omega
      case rel => exact ⟨y + 1, o, by go_num, by omega, ⟨by have := HOL.out; omega⟩, HO2, HRX, HBX⟩
    rw [if_pos hp] at hO
    have HO2 := Aside0.mk hO
    have hd3 : decide (0 < rd ps y) = true := decide_eq_true hp
    have HG0 := Aside0.mk g0
    have g1 : (wr.alloc (.cells #[.string p0, .string p1, .int .i64 p2] 49 (0, 0))).cell? (as_.add y) = some (.int .i64 (rd ps y)) := (World.cell?_alloc_lt _ _ _ (World.block_lt_of_cell? _ _ g0)).trans g0
    have HG1 := Aside0.mk g1
    clear hO hp g1
    go_wp2
    refine start_ (n := 11) (S := fun w' => w'.cell? ⟨wr.heap.size, 0, none⟩ = some (.string p0) ∧ w'.cell? ⟨wr.heap.size, 1, none⟩ = some (.string p1) ∧ w'.cell? (as_.add y) = some (.int .i64 (rd ps y))) (ds := [9]) (tf 0 11) (by kernel_rfl) rfl rfl ⟨((blk_cell (blk_drew BXN.out) 0).trans rfl), ((blk_cell (blk_drew BXN.out) 1).trans rfl), HG1.out⟩ (fun hHeld => ?_)
    refine pure_ (i := 0) (N := some 73) (v := ?_) (a' := ?_) (tf 1 10) rfl rfl (by kernel_rfl) (fun _ _ _ h => h) (Or.inl ⟨by rfl, ?_⟩) ?_ ?_
    rotate_left
    · intro w'
      go_simp
      with_reducible rfl
    rotate_left
    · exact ap_
    refine pure_ (i := 1) (N := some 74) (v := ?_) (a' := ?_) (tf 2 9) rfl rfl (by kernel_rfl) (fun _ _ _ h => h) (Or.inl ⟨by rfl, ?_⟩) ?_ ?_
    rotate_left
    · intro w'
      go_simp
      with_reducible rfl
    rotate_left
    · exact ap_
    refine pure_ (i := 3) (N := some 76) (v := ?_) (a' := ?_) #[true, true, false, true, false, false, false, false, false, false, false] rfl rfl (by kernel_rfl) (fun _ _ _ h => h) (Or.inl ⟨by rfl, ?_⟩) ?_ ?_
    rotate_left
    · intro w'
      go_simp
      with_reducible rfl
    rotate_left
    · exact ap_
    refine pure_ (i := 4) (N := some 77) (v := ?_) (a' := ?_) #[true, true, false, true, true, false, false, false, false, false, false] rfl rfl (by kernel_rfl) (fun _ _ _ h => h) (Or.inl ⟨by rfl, ?_⟩) ?_ ?_
    rotate_left
    · intro w'
      go_simp
      with_reducible rfl
    rotate_left
    · exact ap_
    refine pure_ (i := 5) (N := some 78) (v := ?_) (a' := ?_) #[true, true, false, true, true, true, false, false, false, false, false] rfl rfl (by kernel_rfl) (fun _ _ _ h => h) (Or.inl ⟨by rfl, ?_⟩) ?_ ?_
    rotate_left
    · intro w'
      go_simp
      with_reducible rfl
    rotate_left
    · exact ap_
    refine take_ (i := 2) (N := some 75) (v := ?_) (a' := ?_) (tf 6 5) rfl rfl (by kernel_rfl) (fun _ _ _ h => h) (Or.inl ⟨by rfl, ?_⟩) hHeld ?_ ?_
    rotate_left
    · rintro w' ⟨s0, s1, s2⟩
      go_simp
      with_reducible rfl
    rotate_left
    · exact ap_
    refine take_ (i := 6) (N := some 79) (v := ?_) (a' := ?_) (tf 7 4) rfl rfl (by kernel_rfl) (fun _ _ _ h => h) (Or.inl ⟨by rfl, ?_⟩) hHeld ?_ ?_
    rotate_left
    · rintro w' ⟨s0, s1, s2⟩
      go_simp
      with_reducible rfl
    rotate_left
    · exact ap_
    refine pure_ (i := 7) (N := some 80) (v := ?_) (a' := ?_) (tf 8 3) rfl rfl (by kernel_rfl) (fun _ _ _ h => h) (Or.inl ⟨by rfl, ?_⟩) ?_ ?_
    rotate_left
    · intro w'
      go_simp
      with_reducible rfl
    rotate_left
    · exact ap_
    refine one_ (i := 8) (N := some 81) (tf 9 2) rfl rfl (by kernel_rfl) (by decide) (fun K hK => ?_)
    refine value_ (w1 := ?_) (v := ?_) (by rfl) rfl ?_ ?_
    rotate_left 2
    · go_simp
      constructor
      · rfl
      · rfl
    refine hK.out _ _ ⟨((World.cell?_alloc_lt _ _ _ (World.block_lt_of_cell? _ _ hHeld.1)).trans hHeld.1), ((World.cell?_alloc_lt _ _ _ (World.block_lt_of_cell? _ _ hHeld.2.1)).trans hHeld.2.1), ((World.cell?_alloc_lt _ _ _ (World.block_lt_of_cell? _ _ hHeld.2.2)).trans hHeld.2.2)⟩ (fun hHeld => ?_)
    clear hK K
    refine norm_ (a' := ?_) ?_ ?_
    rotate_left
    · show Act.put _ (some 81) _ = _
      simp only [Act.put, List.setIfInBounds_toArray, List.set_cons_zero, List.set_cons_succ, i64_w, i32_w]
      rfl
    refine last_ (i := 9) (N := some 82) (tf 10 1) rfl rfl (by kernel_rfl) (by decide) (fun K hK => ?_)
    refine Kd.R_append_step k49 (w0 := w10) (W := (wr.alloc (.cells #[.string p0, .string p1, .int .i64 p2] 49 (0, 0))).drew) w10.heap.size (by rfl) (.tmp 73) (.tmp 81) 38 49 (.agg #[(.string ⟨#[]⟩), (.string ⟨#[]⟩), (.int .i64 0)]) 40 rfl Try.underlying38 info49 rfl (by decide) (by decide) u16 o ⟨⟨p0, p1⟩, rd ps y⟩ [.string p0, .string p1, .int .i64 (rd ps y)] (fun _ => True) (fun _ => False) rfl ?aX ?aP (fun _ hk => hk.elim) ?aF ?aO ?aB ?aS ?aL ?_
    (case aX => simp only [World.size_drew, World.size_alloc]; rfl)
    (case aP => exact k49_mkM _ _ _ ⟨⟨p0, p1⟩, rd ps y⟩)
    (case aB => exact below_drew HBX.out)
    (case aF => exact (fun _ _ => trivial))
    (case aO => exact Kd.R_drew HRX.out)
    (case aS => exact HBX.out.size)
    (case aL => exact HLO.out)
    intro v9 w9 ho hb hg hat
    have HR9 := Aside0.mk ho
    have HB9 := Aside0.mk hb
    clear ho hb hg hat
    refine hK.out _ _ ?_
    clear hK K
    refine norm_ (a' := ?_) ?_ ?_
    rotate_left
    · show Act.put _ (some 82) _ = _
      simp only [Act.put, List.setIfInBounds_toArray, List.set_cons_zero, List.set_cons_succ, i64_w, i32_w]
      rfl
    refine pure_ (i := 10) (N := some 16) (v := ?_) (a' := ?_) (tf 11 0) rfl rfl (by kernel_rfl) (fun _ _ _ h => h) (Or.inl ⟨by rfl, ?_⟩) ?_ ?_
    rotate_left
    · intro w'
      go_simp
      with_reducible rfl
    rotate_left
    · exact ap_
    refine done_ (by kernel_rfl) ?_
    go_wp2
    go_roundg (t.length - (y + 1))
    case measure => omega
    case rel => exact ⟨y + 1, _, by go_num, by omega, ⟨by have := HOL.out; simp; omega⟩, HO2, HR9, HB9⟩

/-! ### contangolaw51_oil: function 34 -/
def contangolaw51_oil.f  : Option (ByteArray × Int × Int × Int × Int × Int × Bool) := some ((⟨#[111, 105, 108]⟩ : ByteArray), 0, 100, 1, 0, 1000, false)
set_option maxHeartbeats 8000000 in
set_option maxRecDepth 100000 in
theorem contangolaw51_oil.calls  (r1 : ByteArray) (r2 : Int) (r3 : Int) (r4 : Int) (r5 : Int) (r6 : Int) (r7 : Bool) (w : World) (h : contangolaw51_oil.f  = some (r1, r2, r3, r4, r5, r6, r7)) :
    Calls Try.prog 34 #[] w fun e w' => e = .returned (.agg #[.string r1, .int .i64 r2, .int .i64 r3, .int .i64 r4, .int .i64 r5, .int .i64 r6, .bool r7]) ∧ Below w.heap.size w w' := by
 have hu23 := Try.underlying23
 have HB := Aside0.mk (Below.refl w.heap.size w)
 have H : (some ((⟨#[111, 105, 108]⟩ : ByteArray), 0, 100, 1, 0, 1000, false)) = some (r1, r2, r3, r4, r5, r6, r7) := h
 clear h
 simp only [Option.some.injEq, Prod.mk.injEq] at H
 obtain ⟨rfl, rfl, rfl, rfl, rfl, rfl, rfl⟩ := H
 go_enter Try.func34, Try.ntmps34
 go_wp2_with (first | ((with_reducible refine gate_dst (N := 0) rfl ?_); refine box_event ?hg (N := 0) ?hd (cs := #[.string (⟨#[]⟩ : ByteArray), .int .i64 0, .int .i64 0, .int .i64 0, .int .i64 0, .int .i64 0, .bool false]) (t := 23) ?hr ?_; (case hd => rfl); (case hg => rfl); (case hr => first | (go_simp; done) | (go_simp; rfl)); intro gb153 hg w1 hbox hb; have n0_ := Aside0.mk (below_step (bz0 HB.out) hb); have n1_ := Aside0.mk (hbox); have n2_ := Aside0.mk ((by rw [hg]; exact (below_size (bz0 HB.out)) : w.heap.size ≤ gb153)); have n3_ := Aside0.mk ((by rw [hg]; exact (below_size (bz0 HB.out)) : w.heap.size ≤ gb153)); clear HB; have HB := n0_; have BK153 := n1_; have GW153 := n2_; have GE153 := n3_; clear n0_ n1_ n2_ n3_; clear hb hbox hg; have hcz2_0 : w1.cell? ⟨gb153, 0, none⟩ = some (.string (⟨#[]⟩ : ByteArray)) := (blk_cell BK153.out 0).trans rfl; have hcz2_1 : w1.cell? ⟨gb153, 1, none⟩ = some (.int .i64 0) := (blk_cell BK153.out 1).trans rfl; have hcz2_2 : w1.cell? ⟨gb153, 2, none⟩ = some (.int .i64 0) := (blk_cell BK153.out 2).trans rfl; have hcz2_3 : w1.cell? ⟨gb153, 3, none⟩ = some (.int .i64 0) := (blk_cell BK153.out 3).trans rfl; have hcz2_4 : w1.cell? ⟨gb153, 4, none⟩ = some (.int .i64 0) := (blk_cell BK153.out 4).trans rfl; have hcz2_5 : w1.cell? ⟨gb153, 5, none⟩ = some (.int .i64 0) := (blk_cell BK153.out 5).trans rfl; have hcz2_6 : w1.cell? ⟨gb153, 6, none⟩ = some (.bool false) := (blk_cell BK153.out 6).trans rfl; have hfz2_0 := blk_frozen BK153.out 0; have hfz2_1 := blk_frozen BK153.out 1; have hfz2_2 := blk_frozen BK153.out 2; have hfz2_3 := blk_frozen BK153.out 3; have hfz2_4 := blk_frozen BK153.out 4; have hfz2_5 := blk_frozen BK153.out 5; have hfz2_6 := blk_frozen BK153.out 6))
 refine bodyPost_ret (results_cell_row rfl _ _ gb153 23 #[.string (⟨#[111, 105, 108]⟩ : ByteArray), .int .i64 0, .int .i64 100, .int .i64 1, .int .i64 0, .int .i64 1000, .bool false] (0, 0) _ rfl (by (with_reducible repeat (first | refine blk_drewN ?_ _ | refine blk_drew ?_ | refine blk_alloc ?_ _)); refine blk_put (cs := #[.string (⟨#[111, 105, 108]⟩ : ByteArray), .int .i64 0, .int .i64 100, .int .i64 1, .int .i64 0, .int .i64 1000, .bool false]) ?_ 6 _ rfl; (with_reducible repeat (first | refine blk_drewN ?_ _ | refine blk_drew ?_ | refine blk_alloc ?_ _)); refine blk_put (cs := #[.string (⟨#[111, 105, 108]⟩ : ByteArray), .int .i64 0, .int .i64 100, .int .i64 1, .int .i64 0, .int .i64 0, .bool false]) ?_ 5 _ rfl; (with_reducible repeat (first | refine blk_drewN ?_ _ | refine blk_drew ?_ | refine blk_alloc ?_ _)); refine blk_put (cs := #[.string (⟨#[111, 105, 108]⟩ : ByteArray), .int .i64 0, .int .i64 100, .int .i64 1, .int .i64 0, .int .i64 0, .bool false]) ?_ 4 _ rfl; (with_reducible repeat (first | refine blk_drewN ?_ _ | refine blk_drew ?_ | refine blk_alloc ?_ _)); refine blk_put (cs := #[.string (⟨#[111, 105, 108]⟩ : ByteArray), .int .i64 0, .int .i64 100, .int .i64 0, .int .i64 0, .int .i64 0, .bool false]) ?_ 3 _ rfl; (with_reducible repeat (first | refine blk_drewN ?_ _ | refine blk_drew ?_ | refine blk_alloc ?_ _)); refine blk_put (cs := #[.string (⟨#[111, 105, 108]⟩ : ByteArray), .int .i64 0, .int .i64 0, .int .i64 0, .int .i64 0, .int .i64 0, .bool false]) ?_ 2 _ rfl; (with_reducible repeat (first | refine blk_drewN ?_ _ | refine blk_drew ?_ | refine blk_alloc ?_ _)); refine blk_put (cs := #[.string (⟨#[111, 105, 108]⟩ : ByteArray), .int .i64 0, .int .i64 0, .int .i64 0, .int .i64 0, .int .i64 0, .bool false]) ?_ 1 _ rfl; (with_reducible repeat (first | refine blk_drewN ?_ _ | refine blk_drew ?_ | refine blk_alloc ?_ _)); refine blk_put (cs := #[.string (⟨#[]⟩ : ByteArray), .int .i64 0, .int .i64 0, .int .i64 0, .int .i64 0, .int .i64 0, .bool false]) ?_ 0 _ rfl; (with_reducible repeat (first | refine blk_drewN ?_ _ | refine blk_drew ?_ | refine blk_alloc ?_ _)); exact BK153.out) Try.underlying23 rfl (by kernel_rfl)) rfl ?_
 exact ⟨by first | rfl | (simp [errW_none, errW_some] <;> rfl) | (simp [*, errW_none, errW_some] <;> rfl), bz1 HB.out GE153.out⟩

end Go.Proofs.Ytoejllkjhaeeeaa.PExpiryFlows
