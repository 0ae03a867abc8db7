/-
  No cell of these rows narrows 'for every input' (looked for: loops, veiled, ifaces, maps, wideKeys, modest, calm, conditions, laid).
  DERIVED. THE GIVEN ROWS OF THIS SEAT. 4 by the template 'for every input the law returns true; each argument reads behind the call as it read before'; 0 by the template 'total and deterministic' (their statements: YtckjdncimibiaaaTotals.lean).
  GIVEN WITH THE SEED: the statements are not yours to turn. If you find one false, say at which input.
  Laid BY PROGRAM, IN A SANDBOX (cutbox-rows.mjs): the forced cells as the released guide's own fill.sh prints them over the translation 5d2da9d6ae030bbc… (all of the seat's roots in one cut). By AI agents, Wed Nov 11 2026. No macro, syntax, notation, axiom, sorry.
-/
import Derived.Test.YtckjdncimibiaaaChecked
import GoSem.Claim
import GoSem.ClaimJoined
import GoSem.ClaimMapViews
import Derived.JoinedTies
import Derived.KernelRfl
namespace Go.Proofs.Ytckjdncimibiaaa
/- THE CELL 'sum', in the pinned program and in every row, IS THE sha256 OF THE DUMP (.gsa) THAT YtckjdncimibiaaaProg.lean LOADS. Nothing in Lean hashes anything: it is a label: what it is worth is what the hold of that sum in a sandbox is worth. -/
noncomputable def Try.pinned : Pinned := { name := "ytckjdncimibiaaa", sum := "5d2da9d6ae030bbc94fe6e160f1aa78d988d121d76d4b15e8a0ef17bc8c99062", checked := Try.checked }
namespace Rows
def none {H : Type} : Left H := { results := [], args := [] }

/-- 'contangolaw38.FeeLots': WHATEVER THE INPUT: true; the input reads as it did. -/
def feeLotsSpec : ChangeSpec := { name := "feeLots", fn := fun _ => fun
  | [d1, d2, d3] => { results := [.lit (.bool true)], args := [d1, d2, d3] }
  | _ => none }
def feeLotsRow : OpenClaim := { program := "ytckjdncimibiaaa", sum := "5d2da9d6ae030bbc94fe6e160f1aa78d988d121d76d4b15e8a0ef17bc8c99062", func := "contango/contangolaw38.FeeLots", spec := "feeLots", unfollowed := true, recurses := true, apart := false }
def FeeLotsSaid : Prop := feeLotsRow.holds Try.pinned (OpenSpec.ofChange feeLotsSpec)

/-- ITS FALSE NEIGHBOUR: 'it returns false'. Refute it at one input. -/
def feeLotsWrong : ChangeSpec := { name := "feeLots", fn := fun _ => fun
  | [d1, d2, d3] => { results := [.lit (.bool false)], args := [d1, d2, d3] }
  | _ => none }
def FeeLotsWrongFalsely : Prop := feeLotsRow.holds Try.pinned (OpenSpec.ofChange feeLotsWrong)

/-- 'contangolaw38.FeeFlows': WHATEVER THE INPUT: true; the input reads as it did. -/
def feeFlowsSpec : ChangeSpec := { name := "feeFlows", fn := fun _ => fun
  | [d1, d2] => { results := [.lit (.bool true)], args := [d1, d2] }
  | _ => none }
def feeFlowsRow : OpenClaim := { program := "ytckjdncimibiaaa", sum := "5d2da9d6ae030bbc94fe6e160f1aa78d988d121d76d4b15e8a0ef17bc8c99062", func := "contango/contangolaw38.FeeFlows", spec := "feeFlows", unfollowed := true, recurses := true, apart := false }
def FeeFlowsSaid : Prop := feeFlowsRow.holds Try.pinned (OpenSpec.ofChange feeFlowsSpec)

/-- ITS FALSE NEIGHBOUR: 'it returns false'. Refute it at one input. -/
def feeFlowsWrong : ChangeSpec := { name := "feeFlows", fn := fun _ => fun
  | [d1, d2] => { results := [.lit (.bool false)], args := [d1, d2] }
  | _ => none }
def FeeFlowsWrongFalsely : Prop := feeFlowsRow.holds Try.pinned (OpenSpec.ofChange feeFlowsWrong)

/-- 'contangolaw38.FeeRises': WHATEVER THE INPUT: true; the input reads as it did. -/
def feeRisesSpec : ChangeSpec := { name := "feeRises", fn := fun _ => fun
  | [d1, d2, d3] => { results := [.lit (.bool true)], args := [d1, d2, d3] }
  | _ => none }
def feeRisesRow : OpenClaim := { program := "ytckjdncimibiaaa", sum := "5d2da9d6ae030bbc94fe6e160f1aa78d988d121d76d4b15e8a0ef17bc8c99062", func := "contango/contangolaw38.FeeRises", spec := "feeRises", unfollowed := true, recurses := true, apart := false }
def FeeRisesSaid : Prop := feeRisesRow.holds Try.pinned (OpenSpec.ofChange feeRisesSpec)

/-- ITS FALSE NEIGHBOUR: 'it returns false'. Refute it at one input. -/
def feeRisesWrong : ChangeSpec := { name := "feeRises", fn := fun _ => fun
  | [d1, d2, d3] => { results := [.lit (.bool false)], args := [d1, d2, d3] }
  | _ => none }
def FeeRisesWrongFalsely : Prop := feeRisesRow.holds Try.pinned (OpenSpec.ofChange feeRisesWrong)

/-- 'contangolaw38.FeeBehind': WHATEVER THE INPUT: true; the input reads as it did. -/
def feeBehindSpec : ChangeSpec := { name := "feeBehind", fn := fun _ => fun
  | [d1, d2, d3] => { results := [.lit (.bool true)], args := [d1, d2, d3] }
  | _ => none }
def feeBehindRow : OpenClaim := { program := "ytckjdncimibiaaa", sum := "5d2da9d6ae030bbc94fe6e160f1aa78d988d121d76d4b15e8a0ef17bc8c99062", func := "contango/contangolaw38.FeeBehind", spec := "feeBehind", unfollowed := true, recurses := true, apart := false }
def FeeBehindSaid : Prop := feeBehindRow.holds Try.pinned (OpenSpec.ofChange feeBehindSpec)

/-- ITS FALSE NEIGHBOUR: 'it returns false'. Refute it at one input. -/
def feeBehindWrong : ChangeSpec := { name := "feeBehind", fn := fun _ => fun
  | [d1, d2, d3] => { results := [.lit (.bool false)], args := [d1, d2, d3] }
  | _ => none }
def FeeBehindWrongFalsely : Prop := feeBehindRow.holds Try.pinned (OpenSpec.ofChange feeBehindWrong)

/- THE SECOND FORM. 'bulk': how many values and letters a reading holds, each counted each time it is reached (what is shared counts as often as it is met; a slice's spare places count too). A statement '..UptoSaid' is the law's where the arguments, and the package variables that the reading takes, are together of bulk at most 1048576: NARROWER than '..Said'. Prove '..Said' where nothing that the law and all that it calls make is longer than what came in: it says more and counts as full. Else prove '..UptoSaid'. A law counts once. -/
mutual
def uptoBulk {H : Type} : DataW H → Nat
  | .lit (.string bytes) => bytes.length + 1
  | .lit _ => 1
  | .nil => 1
  | .ptr d => uptoBulk d + 1
  | .slice elems spare => uptoBulkAll elems + uptoBulkAll spare + 1
  | .agg parts => uptoBulkAll parts + 1
  | .iface _ d => uptoBulk d + 1
  | .map entries => uptoBulkEntries entries + 1
  | .held _ => 1
def uptoBulkAll {H : Type} : List (DataW H) → Nat
  | [] => 0
  | d :: r => uptoBulk d + uptoBulkAll r
def uptoBulkEntries {H : Type} : List (Lit × DataW H) → Nat
  | [] => 0
  | x :: r => uptoBulkEntry x + uptoBulkEntries r
def uptoBulkEntry {H : Type} : Lit × DataW H → Nat
  | (.string bytes, d) => bytes.length + uptoBulk d + 1
  | (_, d) => uptoBulk d + 1
 end
def uptoSmall : (H : Type) → List (DataW H) → Bool := fun _ ds => decide (uptoBulkAll ds ≤ 1048576)
def OpenSpec.upto (s : _root_.Go.ChangeSpec) : _root_.Go.OpenSpec := { _root_.Go.OpenSpec.ofChange s with cond := some uptoSmall }

/-- 'contangolaw38.FeeLots', WHERE WHAT IT READS IS OF BULK AT MOST 1048576: true; the input reads as it did. -/
def feeLotsUptoRow : OpenClaim := { program := "ytckjdncimibiaaa", sum := "5d2da9d6ae030bbc94fe6e160f1aa78d988d121d76d4b15e8a0ef17bc8c99062", func := "contango/contangolaw38.FeeLots", spec := "feeLots", unfollowed := true, recurses := true, apart := false, narrowed := true }
def FeeLotsUptoSaid : Prop := feeLotsUptoRow.holds Try.pinned (OpenSpec.upto feeLotsSpec)

/-- 'contangolaw38.FeeFlows', WHERE WHAT IT READS IS OF BULK AT MOST 1048576: true; the input reads as it did. -/
def feeFlowsUptoRow : OpenClaim := { program := "ytckjdncimibiaaa", sum := "5d2da9d6ae030bbc94fe6e160f1aa78d988d121d76d4b15e8a0ef17bc8c99062", func := "contango/contangolaw38.FeeFlows", spec := "feeFlows", unfollowed := true, recurses := true, apart := false, narrowed := true }
def FeeFlowsUptoSaid : Prop := feeFlowsUptoRow.holds Try.pinned (OpenSpec.upto feeFlowsSpec)

/-- 'contangolaw38.FeeRises', WHERE WHAT IT READS IS OF BULK AT MOST 1048576: true; the input reads as it did. -/
def feeRisesUptoRow : OpenClaim := { program := "ytckjdncimibiaaa", sum := "5d2da9d6ae030bbc94fe6e160f1aa78d988d121d76d4b15e8a0ef17bc8c99062", func := "contango/contangolaw38.FeeRises", spec := "feeRises", unfollowed := true, recurses := true, apart := false, narrowed := true }
def FeeRisesUptoSaid : Prop := feeRisesUptoRow.holds Try.pinned (OpenSpec.upto feeRisesSpec)

/-- 'contangolaw38.FeeBehind', WHERE WHAT IT READS IS OF BULK AT MOST 1048576: true; the input reads as it did. -/
def feeBehindUptoRow : OpenClaim := { program := "ytckjdncimibiaaa", sum := "5d2da9d6ae030bbc94fe6e160f1aa78d988d121d76d4b15e8a0ef17bc8c99062", func := "contango/contangolaw38.FeeBehind", spec := "feeBehind", unfollowed := true, recurses := true, apart := false, narrowed := true }
def FeeBehindUptoSaid : Prop := feeBehindUptoRow.holds Try.pinned (OpenSpec.upto feeBehindSpec)

end Rows
end Go.Proofs.Ytckjdncimibiaaa
