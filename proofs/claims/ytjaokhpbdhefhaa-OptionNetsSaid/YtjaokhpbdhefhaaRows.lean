/-
  No cell of these rows narrows 'for every input' (looked for: loops, veiled, ifaces, maps, wideKeys, modest, calm, conditions, laid).
  DERIVED. THE GIVEN ROWS OF THIS SEAT. 5 by the template 'for every input the law returns true; each argument reads behind the call as it read before'; 0 by the template 'total and deterministic' (their statements: YtjaokhpbdhefhaaTotals.lean).
  GIVEN WITH THE SEED: the statements are not yours to turn. If you find one false, say at which input.
  Laid BY PROGRAM, IN A SANDBOX (cutbox-rows.mjs): the forced cells as the released guide's own fill.sh prints them over the translation 6c4707095baed903… (all of the seat's roots in one cut). By AI agents, Wed Nov 11 2026. No macro, syntax, notation, axiom, sorry.
-/
import Derived.Test.YtjaokhpbdhefhaaChecked
import GoSem.Claim
import GoSem.ClaimJoined
import GoSem.ClaimMapViews
import Derived.JoinedTies
import Derived.KernelRfl
namespace Go.Proofs.Ytjaokhpbdhefhaa
/- THE CELL 'sum', in the pinned program and in every row, IS THE sha256 OF THE DUMP (.gsa) THAT YtjaokhpbdhefhaaProg.lean LOADS. Nothing in Lean hashes anything: it is a label: what it is worth is what the hold of that sum in a sandbox is worth. -/
noncomputable def Try.pinned : Pinned := { name := "ytjaokhpbdhefhaa", sum := "6c4707095baed903fa18894805331359e3a5ac921154bd66a43a70ee80c102cb", checked := Try.checked }
namespace Rows
def none {H : Type} : Left H := { results := [], args := [] }

/-- 'contangolaw21.OptionWorths': WHATEVER THE INPUT: true; the input reads as it did. -/
def optionWorthsSpec : ChangeSpec := { name := "optionWorths", fn := fun _ => fun
  | [d1, d2] => { results := [.lit (.bool true)], args := [d1, d2] }
  | _ => none }
def optionWorthsRow : OpenClaim := { program := "ytjaokhpbdhefhaa", sum := "6c4707095baed903fa18894805331359e3a5ac921154bd66a43a70ee80c102cb", func := "contango/contangolaw21.OptionWorths", spec := "optionWorths", unfollowed := true, recurses := true, apart := false }
def OptionWorthsSaid : Prop := optionWorthsRow.holds Try.pinned (OpenSpec.ofChange optionWorthsSpec)

/-- ITS FALSE NEIGHBOUR: 'it returns false'. Refute it at one input. -/
def optionWorthsWrong : ChangeSpec := { name := "optionWorths", fn := fun _ => fun
  | [d1, d2] => { results := [.lit (.bool false)], args := [d1, d2] }
  | _ => none }
def OptionWorthsWrongFalsely : Prop := optionWorthsRow.holds Try.pinned (OpenSpec.ofChange optionWorthsWrong)

/-- 'contangolaw21.OptionPays': WHATEVER THE INPUT: true; the input reads as it did. -/
def optionPaysSpec : ChangeSpec := { name := "optionPays", fn := fun _ => fun
  | [d1, d2, d3] => { results := [.lit (.bool true)], args := [d1, d2, d3] }
  | _ => none }
def optionPaysRow : OpenClaim := { program := "ytjaokhpbdhefhaa", sum := "6c4707095baed903fa18894805331359e3a5ac921154bd66a43a70ee80c102cb", func := "contango/contangolaw21.OptionPays", spec := "optionPays", unfollowed := true, recurses := true, apart := false }
def OptionPaysSaid : Prop := optionPaysRow.holds Try.pinned (OpenSpec.ofChange optionPaysSpec)

/-- ITS FALSE NEIGHBOUR: 'it returns false'. Refute it at one input. -/
def optionPaysWrong : ChangeSpec := { name := "optionPays", fn := fun _ => fun
  | [d1, d2, d3] => { results := [.lit (.bool false)], args := [d1, d2, d3] }
  | _ => none }
def OptionPaysWrongFalsely : Prop := optionPaysRow.holds Try.pinned (OpenSpec.ofChange optionPaysWrong)

/-- 'contangolaw21.OptionNets': WHATEVER THE INPUT: true; the input reads as it did. -/
def optionNetsSpec : ChangeSpec := { name := "optionNets", fn := fun _ => fun
  | [d1, d2, d3] => { results := [.lit (.bool true)], args := [d1, d2, d3] }
  | _ => none }
def optionNetsRow : OpenClaim := { program := "ytjaokhpbdhefhaa", sum := "6c4707095baed903fa18894805331359e3a5ac921154bd66a43a70ee80c102cb", func := "contango/contangolaw21.OptionNets", spec := "optionNets", unfollowed := true, recurses := true, apart := false }
def OptionNetsSaid : Prop := optionNetsRow.holds Try.pinned (OpenSpec.ofChange optionNetsSpec)

/-- ITS FALSE NEIGHBOUR: 'it returns false'. Refute it at one input. -/
def optionNetsWrong : ChangeSpec := { name := "optionNets", fn := fun _ => fun
  | [d1, d2, d3] => { results := [.lit (.bool false)], args := [d1, d2, d3] }
  | _ => none }
def OptionNetsWrongFalsely : Prop := optionNetsRow.holds Try.pinned (OpenSpec.ofChange optionNetsWrong)

/-- 'contangolaw21.OptionTurned': WHATEVER THE INPUT: true; the input reads as it did. -/
def optionTurnedSpec : ChangeSpec := { name := "optionTurned", fn := fun _ => fun
  | [d1, d2, d3] => { results := [.lit (.bool true)], args := [d1, d2, d3] }
  | _ => none }
def optionTurnedRow : OpenClaim := { program := "ytjaokhpbdhefhaa", sum := "6c4707095baed903fa18894805331359e3a5ac921154bd66a43a70ee80c102cb", func := "contango/contangolaw21.OptionTurned", spec := "optionTurned", unfollowed := true, recurses := true, apart := false }
def OptionTurnedSaid : Prop := optionTurnedRow.holds Try.pinned (OpenSpec.ofChange optionTurnedSpec)

/-- ITS FALSE NEIGHBOUR: 'it returns false'. Refute it at one input. -/
def optionTurnedWrong : ChangeSpec := { name := "optionTurned", fn := fun _ => fun
  | [d1, d2, d3] => { results := [.lit (.bool false)], args := [d1, d2, d3] }
  | _ => none }
def OptionTurnedWrongFalsely : Prop := optionTurnedRow.holds Try.pinned (OpenSpec.ofChange optionTurnedWrong)

/-- 'contangolaw21.OptionParity': WHATEVER THE INPUT: true; the input reads as it did. -/
def optionParitySpec : ChangeSpec := { name := "optionParity", fn := fun _ => fun
  | [d1, d2] => { results := [.lit (.bool true)], args := [d1, d2] }
  | _ => none }
def optionParityRow : OpenClaim := { program := "ytjaokhpbdhefhaa", sum := "6c4707095baed903fa18894805331359e3a5ac921154bd66a43a70ee80c102cb", func := "contango/contangolaw21.OptionParity", spec := "optionParity", unfollowed := true, recurses := true, apart := false }
def OptionParitySaid : Prop := optionParityRow.holds Try.pinned (OpenSpec.ofChange optionParitySpec)

/-- ITS FALSE NEIGHBOUR: 'it returns false'. Refute it at one input. -/
def optionParityWrong : ChangeSpec := { name := "optionParity", fn := fun _ => fun
  | [d1, d2] => { results := [.lit (.bool false)], args := [d1, d2] }
  | _ => none }
def OptionParityWrongFalsely : Prop := optionParityRow.holds Try.pinned (OpenSpec.ofChange optionParityWrong)

/- THE SECOND FORM. 'bulk': how many values and letters a reading holds, each counted each time it is reached (what is shared counts as often as it is met; a slice's spare places count too). A statement '..UptoSaid' is the law's where the arguments, and the package variables that the reading takes, are together of bulk at most 1048576: NARROWER than '..Said'. Prove '..Said' where nothing that the law and all that it calls make is longer than what came in: it says more and counts as full. Else prove '..UptoSaid'. A law counts once. -/
mutual
def uptoBulk {H : Type} : DataW H → Nat
  | .lit (.string bytes) => bytes.length + 1
  | .lit _ => 1
  | .nil => 1
  | .ptr d => uptoBulk d + 1
  | .slice elems spare => uptoBulkAll elems + uptoBulkAll spare + 1
  | .agg parts => uptoBulkAll parts + 1
  | .iface _ d => uptoBulk d + 1
  | .map entries => uptoBulkEntries entries + 1
  | .held _ => 1
def uptoBulkAll {H : Type} : List (DataW H) → Nat
  | [] => 0
  | d :: r => uptoBulk d + uptoBulkAll r
def uptoBulkEntries {H : Type} : List (Lit × DataW H) → Nat
  | [] => 0
  | x :: r => uptoBulkEntry x + uptoBulkEntries r
def uptoBulkEntry {H : Type} : Lit × DataW H → Nat
  | (.string bytes, d) => bytes.length + uptoBulk d + 1
  | (_, d) => uptoBulk d + 1
 end
def uptoSmall : (H : Type) → List (DataW H) → Bool := fun _ ds => decide (uptoBulkAll ds ≤ 1048576)
def OpenSpec.upto (s : _root_.Go.ChangeSpec) : _root_.Go.OpenSpec := { _root_.Go.OpenSpec.ofChange s with cond := some uptoSmall }

/-- 'contangolaw21.OptionWorths', WHERE WHAT IT READS IS OF BULK AT MOST 1048576: true; the input reads as it did. -/
def optionWorthsUptoRow : OpenClaim := { program := "ytjaokhpbdhefhaa", sum := "6c4707095baed903fa18894805331359e3a5ac921154bd66a43a70ee80c102cb", func := "contango/contangolaw21.OptionWorths", spec := "optionWorths", unfollowed := true, recurses := true, apart := false, narrowed := true }
def OptionWorthsUptoSaid : Prop := optionWorthsUptoRow.holds Try.pinned (OpenSpec.upto optionWorthsSpec)

/-- 'contangolaw21.OptionPays', WHERE WHAT IT READS IS OF BULK AT MOST 1048576: true; the input reads as it did. -/
def optionPaysUptoRow : OpenClaim := { program := "ytjaokhpbdhefhaa", sum := "6c4707095baed903fa18894805331359e3a5ac921154bd66a43a70ee80c102cb", func := "contango/contangolaw21.OptionPays", spec := "optionPays", unfollowed := true, recurses := true, apart := false, narrowed := true }
def OptionPaysUptoSaid : Prop := optionPaysUptoRow.holds Try.pinned (OpenSpec.upto optionPaysSpec)

/-- 'contangolaw21.OptionNets', WHERE WHAT IT READS IS OF BULK AT MOST 1048576: true; the input reads as it did. -/
def optionNetsUptoRow : OpenClaim := { program := "ytjaokhpbdhefhaa", sum := "6c4707095baed903fa18894805331359e3a5ac921154bd66a43a70ee80c102cb", func := "contango/contangolaw21.OptionNets", spec := "optionNets", unfollowed := true, recurses := true, apart := false, narrowed := true }
def OptionNetsUptoSaid : Prop := optionNetsUptoRow.holds Try.pinned (OpenSpec.upto optionNetsSpec)

/-- 'contangolaw21.OptionTurned', WHERE WHAT IT READS IS OF BULK AT MOST 1048576: true; the input reads as it did. -/
def optionTurnedUptoRow : OpenClaim := { program := "ytjaokhpbdhefhaa", sum := "6c4707095baed903fa18894805331359e3a5ac921154bd66a43a70ee80c102cb", func := "contango/contangolaw21.OptionTurned", spec := "optionTurned", unfollowed := true, recurses := true, apart := false, narrowed := true }
def OptionTurnedUptoSaid : Prop := optionTurnedUptoRow.holds Try.pinned (OpenSpec.upto optionTurnedSpec)

/-- 'contangolaw21.OptionParity', WHERE WHAT IT READS IS OF BULK AT MOST 1048576: true; the input reads as it did. -/
def optionParityUptoRow : OpenClaim := { program := "ytjaokhpbdhefhaa", sum := "6c4707095baed903fa18894805331359e3a5ac921154bd66a43a70ee80c102cb", func := "contango/contangolaw21.OptionParity", spec := "optionParity", unfollowed := true, recurses := true, apart := false, narrowed := true }
def OptionParityUptoSaid : Prop := optionParityUptoRow.holds Try.pinned (OpenSpec.upto optionParitySpec)

end Rows
end Go.Proofs.Ytjaokhpbdhefhaa
