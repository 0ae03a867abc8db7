/-
  No cell of these rows narrows 'for every input' (looked for: loops, veiled, ifaces, maps, wideKeys, modest, calm, conditions, laid).
  DERIVED. THE GIVEN ROWS OF THIS SEAT. 5 by the template 'for every input the law returns true; each argument reads behind the call as it read before'; 0 by the template 'total and deterministic' (their statements: YtmgeoombebkfaaaTotals.lean).
  GIVEN WITH THE SEED: the statements are not yours to turn. If you find one false, say at which input.
  Laid BY PROGRAM, IN A SANDBOX (cutbox-rows.mjs): the forced cells as the released guide's own fill.sh prints them over the translation 26fcc1b698df87b3… (all of the seat's roots in one cut). By AI agents, Wed Nov 11 2026. No macro, syntax, notation, axiom, sorry.
-/
import Derived.Test.YtmgeoombebkfaaaChecked
import GoSem.Claim
import GoSem.ClaimJoined
import GoSem.ClaimMapViews
import Derived.JoinedTies
import Derived.KernelRfl
namespace Go.Proofs.Ytmgeoombebkfaaa
/- THE CELL 'sum', in the pinned program and in every row, IS THE sha256 OF THE DUMP (.gsa) THAT YtmgeoombebkfaaaProg.lean LOADS. Nothing in Lean hashes anything: it is a label: what it is worth is what the hold of that sum in a sandbox is worth. -/
noncomputable def Try.pinned : Pinned := { name := "ytmgeoombebkfaaa", sum := "26fcc1b698df87b3788a21de2ea9b308fa44ae87762203341e6e8d2a9fff19af", checked := Try.checked }
namespace Rows
def none {H : Type} : Left H := { results := [], args := [] }

/-- 'contangolaw52.DeliverPairs': WHATEVER THE INPUT: true; the input reads as it did. -/
def deliverPairsSpec : ChangeSpec := { name := "deliverPairs", fn := fun _ => fun
  | [d1, d2] => { results := [.lit (.bool true)], args := [d1, d2] }
  | _ => none }
def deliverPairsRow : OpenClaim := { program := "ytmgeoombebkfaaa", sum := "26fcc1b698df87b3788a21de2ea9b308fa44ae87762203341e6e8d2a9fff19af", func := "contango/contangolaw52.DeliverPairs", spec := "deliverPairs", unfollowed := true, recurses := true, named := ["math/bits.divideError", "math/bits.overflowError"], apart := false }
def DeliverPairsSaid : Prop := deliverPairsRow.holds Try.pinned (OpenSpec.ofChange deliverPairsSpec)

/-- ITS FALSE NEIGHBOUR: 'it returns false'. Refute it at one input. -/
def deliverPairsWrong : ChangeSpec := { name := "deliverPairs", fn := fun _ => fun
  | [d1, d2] => { results := [.lit (.bool false)], args := [d1, d2] }
  | _ => none }
def DeliverPairsWrongFalsely : Prop := deliverPairsRow.holds Try.pinned (OpenSpec.ofChange deliverPairsWrong)

/-- 'contangolaw52.DeliverCosts': WHATEVER THE INPUT: true; the input reads as it did. -/
def deliverCostsSpec : ChangeSpec := { name := "deliverCosts", fn := fun _ => fun
  | [d1, d2] => { results := [.lit (.bool true)], args := [d1, d2] }
  | _ => none }
def deliverCostsRow : OpenClaim := { program := "ytmgeoombebkfaaa", sum := "26fcc1b698df87b3788a21de2ea9b308fa44ae87762203341e6e8d2a9fff19af", func := "contango/contangolaw52.DeliverCosts", spec := "deliverCosts", unfollowed := true, recurses := true, named := ["math/bits.divideError", "math/bits.overflowError"], apart := false }
def DeliverCostsSaid : Prop := deliverCostsRow.holds Try.pinned (OpenSpec.ofChange deliverCostsSpec)

/-- ITS FALSE NEIGHBOUR: 'it returns false'. Refute it at one input. -/
def deliverCostsWrong : ChangeSpec := { name := "deliverCosts", fn := fun _ => fun
  | [d1, d2] => { results := [.lit (.bool false)], args := [d1, d2] }
  | _ => none }
def DeliverCostsWrongFalsely : Prop := deliverCostsRow.holds Try.pinned (OpenSpec.ofChange deliverCostsWrong)

/-- 'contangolaw52.DeliverFlows': WHATEVER THE INPUT: true; the input reads as it did. -/
def deliverFlowsSpec : ChangeSpec := { name := "deliverFlows", fn := fun _ => fun
  | [d1, d2, d3] => { results := [.lit (.bool true)], args := [d1, d2, d3] }
  | _ => none }
def deliverFlowsRow : OpenClaim := { program := "ytmgeoombebkfaaa", sum := "26fcc1b698df87b3788a21de2ea9b308fa44ae87762203341e6e8d2a9fff19af", func := "contango/contangolaw52.DeliverFlows", spec := "deliverFlows", unfollowed := true, recurses := true, named := ["math/bits.divideError", "math/bits.overflowError"], apart := false }
def DeliverFlowsSaid : Prop := deliverFlowsRow.holds Try.pinned (OpenSpec.ofChange deliverFlowsSpec)

/-- ITS FALSE NEIGHBOUR: 'it returns false'. Refute it at one input. -/
def deliverFlowsWrong : ChangeSpec := { name := "deliverFlows", fn := fun _ => fun
  | [d1, d2, d3] => { results := [.lit (.bool false)], args := [d1, d2, d3] }
  | _ => none }
def DeliverFlowsWrongFalsely : Prop := deliverFlowsRow.holds Try.pinned (OpenSpec.ofChange deliverFlowsWrong)

/-- 'contangolaw52.DeliverAll': WHATEVER THE INPUT: true; the input reads as it did. -/
def deliverAllSpec : ChangeSpec := { name := "deliverAll", fn := fun _ => fun
  | [d1, d2, d3] => { results := [.lit (.bool true)], args := [d1, d2, d3] }
  | _ => none }
def deliverAllRow : OpenClaim := { program := "ytmgeoombebkfaaa", sum := "26fcc1b698df87b3788a21de2ea9b308fa44ae87762203341e6e8d2a9fff19af", func := "contango/contangolaw52.DeliverAll", spec := "deliverAll", unfollowed := true, recurses := true, named := ["math/bits.divideError", "math/bits.overflowError"], apart := false }
def DeliverAllSaid : Prop := deliverAllRow.holds Try.pinned (OpenSpec.ofChange deliverAllSpec)

/-- ITS FALSE NEIGHBOUR: 'it returns false'. Refute it at one input. -/
def deliverAllWrong : ChangeSpec := { name := "deliverAll", fn := fun _ => fun
  | [d1, d2, d3] => { results := [.lit (.bool false)], args := [d1, d2, d3] }
  | _ => none }
def DeliverAllWrongFalsely : Prop := deliverAllRow.holds Try.pinned (OpenSpec.ofChange deliverAllWrong)

/-- 'contangolaw52.DeliverSides': WHATEVER THE INPUT: true; the input reads as it did. -/
def deliverSidesSpec : ChangeSpec := { name := "deliverSides", fn := fun _ => fun
  | [d1, d2] => { results := [.lit (.bool true)], args := [d1, d2] }
  | _ => none }
def deliverSidesRow : OpenClaim := { program := "ytmgeoombebkfaaa", sum := "26fcc1b698df87b3788a21de2ea9b308fa44ae87762203341e6e8d2a9fff19af", func := "contango/contangolaw52.DeliverSides", spec := "deliverSides", unfollowed := true, recurses := true, named := ["math/bits.divideError", "math/bits.overflowError"], apart := false }
def DeliverSidesSaid : Prop := deliverSidesRow.holds Try.pinned (OpenSpec.ofChange deliverSidesSpec)

/-- ITS FALSE NEIGHBOUR: 'it returns false'. Refute it at one input. -/
def deliverSidesWrong : ChangeSpec := { name := "deliverSides", fn := fun _ => fun
  | [d1, d2] => { results := [.lit (.bool false)], args := [d1, d2] }
  | _ => none }
def DeliverSidesWrongFalsely : Prop := deliverSidesRow.holds Try.pinned (OpenSpec.ofChange deliverSidesWrong)

/- THE SECOND FORM. 'bulk': how many values and letters a reading holds, each counted each time it is reached (what is shared counts as often as it is met; a slice's spare places count too). A statement '..UptoSaid' is the law's where the arguments, and the package variables that the reading takes, are together of bulk at most 1048576: NARROWER than '..Said'. Prove '..Said' where nothing that the law and all that it calls make is longer than what came in: it says more and counts as full. Else prove '..UptoSaid'. A law counts once. -/
mutual
def uptoBulk {H : Type} : DataW H → Nat
  | .lit (.string bytes) => bytes.length + 1
  | .lit _ => 1
  | .nil => 1
  | .ptr d => uptoBulk d + 1
  | .slice elems spare => uptoBulkAll elems + uptoBulkAll spare + 1
  | .agg parts => uptoBulkAll parts + 1
  | .iface _ d => uptoBulk d + 1
  | .map entries => uptoBulkEntries entries + 1
  | .held _ => 1
def uptoBulkAll {H : Type} : List (DataW H) → Nat
  | [] => 0
  | d :: r => uptoBulk d + uptoBulkAll r
def uptoBulkEntries {H : Type} : List (Lit × DataW H) → Nat
  | [] => 0
  | x :: r => uptoBulkEntry x + uptoBulkEntries r
def uptoBulkEntry {H : Type} : Lit × DataW H → Nat
  | (.string bytes, d) => bytes.length + uptoBulk d + 1
  | (_, d) => uptoBulk d + 1
 end
def uptoSmall : (H : Type) → List (DataW H) → Bool := fun _ ds => decide (uptoBulkAll ds ≤ 1048576)
def OpenSpec.upto (s : _root_.Go.ChangeSpec) : _root_.Go.OpenSpec := { _root_.Go.OpenSpec.ofChange s with cond := some uptoSmall }

/-- 'contangolaw52.DeliverPairs', WHERE WHAT IT READS IS OF BULK AT MOST 1048576: true; the input reads as it did. -/
def deliverPairsUptoRow : OpenClaim := { program := "ytmgeoombebkfaaa", sum := "26fcc1b698df87b3788a21de2ea9b308fa44ae87762203341e6e8d2a9fff19af", func := "contango/contangolaw52.DeliverPairs", spec := "deliverPairs", unfollowed := true, recurses := true, named := ["math/bits.divideError", "math/bits.overflowError"], apart := false, narrowed := true }
def DeliverPairsUptoSaid : Prop := deliverPairsUptoRow.holds Try.pinned (OpenSpec.upto deliverPairsSpec)

/-- 'contangolaw52.DeliverCosts', WHERE WHAT IT READS IS OF BULK AT MOST 1048576: true; the input reads as it did. -/
def deliverCostsUptoRow : OpenClaim := { program := "ytmgeoombebkfaaa", sum := "26fcc1b698df87b3788a21de2ea9b308fa44ae87762203341e6e8d2a9fff19af", func := "contango/contangolaw52.DeliverCosts", spec := "deliverCosts", unfollowed := true, recurses := true, named := ["math/bits.divideError", "math/bits.overflowError"], apart := false, narrowed := true }
def DeliverCostsUptoSaid : Prop := deliverCostsUptoRow.holds Try.pinned (OpenSpec.upto deliverCostsSpec)

/-- 'contangolaw52.DeliverFlows', WHERE WHAT IT READS IS OF BULK AT MOST 1048576: true; the input reads as it did. -/
def deliverFlowsUptoRow : OpenClaim := { program := "ytmgeoombebkfaaa", sum := "26fcc1b698df87b3788a21de2ea9b308fa44ae87762203341e6e8d2a9fff19af", func := "contango/contangolaw52.DeliverFlows", spec := "deliverFlows", unfollowed := true, recurses := true, named := ["math/bits.divideError", "math/bits.overflowError"], apart := false, narrowed := true }
def DeliverFlowsUptoSaid : Prop := deliverFlowsUptoRow.holds Try.pinned (OpenSpec.upto deliverFlowsSpec)

/-- 'contangolaw52.DeliverAll', WHERE WHAT IT READS IS OF BULK AT MOST 1048576: true; the input reads as it did. -/
def deliverAllUptoRow : OpenClaim := { program := "ytmgeoombebkfaaa", sum := "26fcc1b698df87b3788a21de2ea9b308fa44ae87762203341e6e8d2a9fff19af", func := "contango/contangolaw52.DeliverAll", spec := "deliverAll", unfollowed := true, recurses := true, named := ["math/bits.divideError", "math/bits.overflowError"], apart := false, narrowed := true }
def DeliverAllUptoSaid : Prop := deliverAllUptoRow.holds Try.pinned (OpenSpec.upto deliverAllSpec)

/-- 'contangolaw52.DeliverSides', WHERE WHAT IT READS IS OF BULK AT MOST 1048576: true; the input reads as it did. -/
def deliverSidesUptoRow : OpenClaim := { program := "ytmgeoombebkfaaa", sum := "26fcc1b698df87b3788a21de2ea9b308fa44ae87762203341e6e8d2a9fff19af", func := "contango/contangolaw52.DeliverSides", spec := "deliverSides", unfollowed := true, recurses := true, named := ["math/bits.divideError", "math/bits.overflowError"], apart := false, narrowed := true }
def DeliverSidesUptoSaid : Prop := deliverSidesUptoRow.holds Try.pinned (OpenSpec.upto deliverSidesSpec)

end Rows
end Go.Proofs.Ytmgeoombebkfaaa
