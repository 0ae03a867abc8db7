/-
  No cell of these rows narrows 'for every input' (looked for: loops, veiled, ifaces, maps, wideKeys, modest, calm, conditions, laid).
  DERIVED. THE GIVEN ROWS OF THIS SEAT. 5 by the template 'for every input the law returns true; each argument reads behind the call as it read before'; 0 by the template 'total and deterministic' (their statements: YtaookghbppimnaaTotals.lean).
  GIVEN WITH THE SEED: the statements are not yours to turn. If you find one false, say at which input.
  Laid BY PROGRAM, IN A SANDBOX (cutbox-rows.mjs): the forced cells as the released guide's own fill.sh prints them over the translation fa6e2f4eba28a7e8… (all of the seat's roots in one cut). By AI agents, Wed Nov 11 2026. No macro, syntax, notation, axiom, sorry.
-/
import Derived.Test.YtaookghbppimnaaChecked
import GoSem.Claim
import GoSem.ClaimJoined
import GoSem.ClaimMapViews
import Derived.JoinedTies
import Derived.KernelRfl
namespace Go.Proofs.Ytaookghbppimnaa
/- THE CELL 'sum', in the pinned program and in every row, IS THE sha256 OF THE DUMP (.gsa) THAT YtaookghbppimnaaProg.lean LOADS. Nothing in Lean hashes anything: it is a label: what it is worth is what the hold of that sum in a sandbox is worth. -/
noncomputable def Try.pinned : Pinned := { name := "ytaookghbppimnaa", sum := "fa6e2f4eba28a7e8be51d86c9837546821a8f5aecd7d40fc8feb354965e3bf8b", checked := Try.checked }
namespace Rows
def none {H : Type} : Left H := { results := [], args := [] }

/-- 'contangolaw39.StressBares': WHATEVER THE INPUT: true; the input reads as it did. -/
def stressBaresSpec : ChangeSpec := { name := "stressBares", fn := fun _ => fun
  | [d1, d2] => { results := [.lit (.bool true)], args := [d1, d2] }
  | _ => none }
def stressBaresRow : OpenClaim := { program := "ytaookghbppimnaa", sum := "fa6e2f4eba28a7e8be51d86c9837546821a8f5aecd7d40fc8feb354965e3bf8b", func := "contango/contangolaw39.StressBares", spec := "stressBares", unfollowed := true, recurses := true, apart := false }
def StressBaresSaid : Prop := stressBaresRow.holds Try.pinned (OpenSpec.ofChange stressBaresSpec)

/-- ITS FALSE NEIGHBOUR: 'it returns false'. Refute it at one input. -/
def stressBaresWrong : ChangeSpec := { name := "stressBares", fn := fun _ => fun
  | [d1, d2] => { results := [.lit (.bool false)], args := [d1, d2] }
  | _ => none }
def StressBaresWrongFalsely : Prop := stressBaresRow.holds Try.pinned (OpenSpec.ofChange stressBaresWrong)

/-- 'contangolaw39.StressTwos': WHATEVER THE INPUT: true; the input reads as it did. -/
def stressTwosSpec : ChangeSpec := { name := "stressTwos", fn := fun _ => fun
  | [d1, d2] => { results := [.lit (.bool true)], args := [d1, d2] }
  | _ => none }
def stressTwosRow : OpenClaim := { program := "ytaookghbppimnaa", sum := "fa6e2f4eba28a7e8be51d86c9837546821a8f5aecd7d40fc8feb354965e3bf8b", func := "contango/contangolaw39.StressTwos", spec := "stressTwos", unfollowed := true, recurses := true, apart := false }
def StressTwosSaid : Prop := stressTwosRow.holds Try.pinned (OpenSpec.ofChange stressTwosSpec)

/-- ITS FALSE NEIGHBOUR: 'it returns false'. Refute it at one input. -/
def stressTwosWrong : ChangeSpec := { name := "stressTwos", fn := fun _ => fun
  | [d1, d2] => { results := [.lit (.bool false)], args := [d1, d2] }
  | _ => none }
def StressTwosWrongFalsely : Prop := stressTwosRow.holds Try.pinned (OpenSpec.ofChange stressTwosWrong)

/-- 'contangolaw39.StressMost': WHATEVER THE INPUT: true; the input reads as it did. -/
def stressMostSpec : ChangeSpec := { name := "stressMost", fn := fun _ => fun
  | [d] => { results := [.lit (.bool true)], args := [d] }
  | _ => none }
def stressMostRow : OpenClaim := { program := "ytaookghbppimnaa", sum := "fa6e2f4eba28a7e8be51d86c9837546821a8f5aecd7d40fc8feb354965e3bf8b", func := "contango/contangolaw39.StressMost", spec := "stressMost", unfollowed := true, recurses := true, apart := false }
def StressMostSaid : Prop := stressMostRow.holds Try.pinned (OpenSpec.ofChange stressMostSpec)

/-- ITS FALSE NEIGHBOUR: 'it returns false'. Refute it at one input. -/
def stressMostWrong : ChangeSpec := { name := "stressMost", fn := fun _ => fun
  | [d] => { results := [.lit (.bool false)], args := [d] }
  | _ => none }
def StressMostWrongFalsely : Prop := stressMostRow.holds Try.pinned (OpenSpec.ofChange stressMostWrong)

/-- 'contangolaw39.StressMargin': WHATEVER THE INPUT: true; the input reads as it did. -/
def stressMarginSpec : ChangeSpec := { name := "stressMargin", fn := fun _ => fun
  | [d1, d2, d3] => { results := [.lit (.bool true)], args := [d1, d2, d3] }
  | _ => none }
def stressMarginRow : OpenClaim := { program := "ytaookghbppimnaa", sum := "fa6e2f4eba28a7e8be51d86c9837546821a8f5aecd7d40fc8feb354965e3bf8b", func := "contango/contangolaw39.StressMargin", spec := "stressMargin", unfollowed := true, recurses := true, apart := false }
def StressMarginSaid : Prop := stressMarginRow.holds Try.pinned (OpenSpec.ofChange stressMarginSpec)

/-- ITS FALSE NEIGHBOUR: 'it returns false'. Refute it at one input. -/
def stressMarginWrong : ChangeSpec := { name := "stressMargin", fn := fun _ => fun
  | [d1, d2, d3] => { results := [.lit (.bool false)], args := [d1, d2, d3] }
  | _ => none }
def StressMarginWrongFalsely : Prop := stressMarginRow.holds Try.pinned (OpenSpec.ofChange stressMarginWrong)

/-- 'contangolaw39.StressTogether': WHATEVER THE INPUT: true; the input reads as it did. -/
def stressTogetherSpec : ChangeSpec := { name := "stressTogether", fn := fun _ => fun
  | [d1, d2] => { results := [.lit (.bool true)], args := [d1, d2] }
  | _ => none }
def stressTogetherRow : OpenClaim := { program := "ytaookghbppimnaa", sum := "fa6e2f4eba28a7e8be51d86c9837546821a8f5aecd7d40fc8feb354965e3bf8b", func := "contango/contangolaw39.StressTogether", spec := "stressTogether", unfollowed := true, recurses := true, apart := false }
def StressTogetherSaid : Prop := stressTogetherRow.holds Try.pinned (OpenSpec.ofChange stressTogetherSpec)

/-- ITS FALSE NEIGHBOUR: 'it returns false'. Refute it at one input. -/
def stressTogetherWrong : ChangeSpec := { name := "stressTogether", fn := fun _ => fun
  | [d1, d2] => { results := [.lit (.bool false)], args := [d1, d2] }
  | _ => none }
def StressTogetherWrongFalsely : Prop := stressTogetherRow.holds Try.pinned (OpenSpec.ofChange stressTogetherWrong)

/- THE SECOND FORM. 'bulk': how many values and letters a reading holds, each counted each time it is reached (what is shared counts as often as it is met; a slice's spare places count too). A statement '..UptoSaid' is the law's where the arguments, and the package variables that the reading takes, are together of bulk at most 1048576: NARROWER than '..Said'. Prove '..Said' where nothing that the law and all that it calls make is longer than what came in: it says more and counts as full. Else prove '..UptoSaid'. A law counts once. -/
mutual
def uptoBulk {H : Type} : DataW H → Nat
  | .lit (.string bytes) => bytes.length + 1
  | .lit _ => 1
  | .nil => 1
  | .ptr d => uptoBulk d + 1
  | .slice elems spare => uptoBulkAll elems + uptoBulkAll spare + 1
  | .agg parts => uptoBulkAll parts + 1
  | .iface _ d => uptoBulk d + 1
  | .map entries => uptoBulkEntries entries + 1
  | .held _ => 1
def uptoBulkAll {H : Type} : List (DataW H) → Nat
  | [] => 0
  | d :: r => uptoBulk d + uptoBulkAll r
def uptoBulkEntries {H : Type} : List (Lit × DataW H) → Nat
  | [] => 0
  | x :: r => uptoBulkEntry x + uptoBulkEntries r
def uptoBulkEntry {H : Type} : Lit × DataW H → Nat
  | (.string bytes, d) => bytes.length + uptoBulk d + 1
  | (_, d) => uptoBulk d + 1
 end
def uptoSmall : (H : Type) → List (DataW H) → Bool := fun _ ds => decide (uptoBulkAll ds ≤ 1048576)
def OpenSpec.upto (s : _root_.Go.ChangeSpec) : _root_.Go.OpenSpec := { _root_.Go.OpenSpec.ofChange s with cond := some uptoSmall }

/-- 'contangolaw39.StressBares', WHERE WHAT IT READS IS OF BULK AT MOST 1048576: true; the input reads as it did. -/
def stressBaresUptoRow : OpenClaim := { program := "ytaookghbppimnaa", sum := "fa6e2f4eba28a7e8be51d86c9837546821a8f5aecd7d40fc8feb354965e3bf8b", func := "contango/contangolaw39.StressBares", spec := "stressBares", unfollowed := true, recurses := true, apart := false, narrowed := true }
def StressBaresUptoSaid : Prop := stressBaresUptoRow.holds Try.pinned (OpenSpec.upto stressBaresSpec)

/-- 'contangolaw39.StressTwos', WHERE WHAT IT READS IS OF BULK AT MOST 1048576: true; the input reads as it did. -/
def stressTwosUptoRow : OpenClaim := { program := "ytaookghbppimnaa", sum := "fa6e2f4eba28a7e8be51d86c9837546821a8f5aecd7d40fc8feb354965e3bf8b", func := "contango/contangolaw39.StressTwos", spec := "stressTwos", unfollowed := true, recurses := true, apart := false, narrowed := true }
def StressTwosUptoSaid : Prop := stressTwosUptoRow.holds Try.pinned (OpenSpec.upto stressTwosSpec)

/-- 'contangolaw39.StressMost', WHERE WHAT IT READS IS OF BULK AT MOST 1048576: true; the input reads as it did. -/
def stressMostUptoRow : OpenClaim := { program := "ytaookghbppimnaa", sum := "fa6e2f4eba28a7e8be51d86c9837546821a8f5aecd7d40fc8feb354965e3bf8b", func := "contango/contangolaw39.StressMost", spec := "stressMost", unfollowed := true, recurses := true, apart := false, narrowed := true }
def StressMostUptoSaid : Prop := stressMostUptoRow.holds Try.pinned (OpenSpec.upto stressMostSpec)

/-- 'contangolaw39.StressMargin', WHERE WHAT IT READS IS OF BULK AT MOST 1048576: true; the input reads as it did. -/
def stressMarginUptoRow : OpenClaim := { program := "ytaookghbppimnaa", sum := "fa6e2f4eba28a7e8be51d86c9837546821a8f5aecd7d40fc8feb354965e3bf8b", func := "contango/contangolaw39.StressMargin", spec := "stressMargin", unfollowed := true, recurses := true, apart := false, narrowed := true }
def StressMarginUptoSaid : Prop := stressMarginUptoRow.holds Try.pinned (OpenSpec.upto stressMarginSpec)

/-- 'contangolaw39.StressTogether', WHERE WHAT IT READS IS OF BULK AT MOST 1048576: true; the input reads as it did. -/
def stressTogetherUptoRow : OpenClaim := { program := "ytaookghbppimnaa", sum := "fa6e2f4eba28a7e8be51d86c9837546821a8f5aecd7d40fc8feb354965e3bf8b", func := "contango/contangolaw39.StressTogether", spec := "stressTogether", unfollowed := true, recurses := true, apart := false, narrowed := true }
def StressTogetherUptoSaid : Prop := stressTogetherUptoRow.holds Try.pinned (OpenSpec.upto stressTogetherSpec)

end Rows
end Go.Proofs.Ytaookghbppimnaa
