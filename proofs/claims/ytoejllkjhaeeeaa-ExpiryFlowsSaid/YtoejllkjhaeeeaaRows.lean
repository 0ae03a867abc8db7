/-
  No cell of these rows narrows 'for every input' (looked for: loops, veiled, ifaces, maps, wideKeys, modest, calm, conditions, laid).
  DERIVED. THE GIVEN ROWS OF THIS SEAT. 5 by the template 'for every input the law returns true; each argument reads behind the call as it read before'; 0 by the template 'total and deterministic' (their statements: YtoejllkjhaeeeaaTotals.lean).
  GIVEN WITH THE SEED: the statements are not yours to turn. If you find one false, say at which input.
  Laid BY PROGRAM, IN A SANDBOX (cutbox-rows.mjs): the forced cells as the released guide's own fill.sh prints them over the translation f32044cdbac816d9… (all of the seat's roots in one cut). By AI agents, Wed Nov 11 2026. No macro, syntax, notation, axiom, sorry.
-/
import Derived.Test.YtoejllkjhaeeeaaChecked
import GoSem.Claim
import GoSem.ClaimJoined
import GoSem.ClaimMapViews
import Derived.JoinedTies
import Derived.KernelRfl
namespace Go.Proofs.Ytoejllkjhaeeeaa
/- THE CELL 'sum', in the pinned program and in every row, IS THE sha256 OF THE DUMP (.gsa) THAT YtoejllkjhaeeeaaProg.lean LOADS. Nothing in Lean hashes anything: it is a label: what it is worth is what the hold of that sum in a sandbox is worth. -/
noncomputable def Try.pinned : Pinned := { name := "ytoejllkjhaeeeaa", sum := "f32044cdbac816d9381c8ad58ee3467d13251b43a4ed3778a7150ccccbe5780b", checked := Try.checked }
namespace Rows
def none {H : Type} : Left H := { results := [], args := [] }

/-- 'contangolaw51.ExpiryCash': WHATEVER THE INPUT: true; the input reads as it did. -/
def expiryCashSpec : ChangeSpec := { name := "expiryCash", fn := fun _ => fun
  | [d1, d2, d3] => { results := [.lit (.bool true)], args := [d1, d2, d3] }
  | _ => none }
def expiryCashRow : OpenClaim := { program := "ytoejllkjhaeeeaa", sum := "f32044cdbac816d9381c8ad58ee3467d13251b43a4ed3778a7150ccccbe5780b", func := "contango/contangolaw51.ExpiryCash", spec := "expiryCash", unfollowed := true, recurses := true, apart := false }
def ExpiryCashSaid : Prop := expiryCashRow.holds Try.pinned (OpenSpec.ofChange expiryCashSpec)

/-- ITS FALSE NEIGHBOUR: 'it returns false'. Refute it at one input. -/
def expiryCashWrong : ChangeSpec := { name := "expiryCash", fn := fun _ => fun
  | [d1, d2, d3] => { results := [.lit (.bool false)], args := [d1, d2, d3] }
  | _ => none }
def ExpiryCashWrongFalsely : Prop := expiryCashRow.holds Try.pinned (OpenSpec.ofChange expiryCashWrong)

/-- 'contangolaw51.ExpiryEven': WHATEVER THE INPUT: true; the input reads as it did. -/
def expiryEvenSpec : ChangeSpec := { name := "expiryEven", fn := fun _ => fun
  | [d1, d2] => { results := [.lit (.bool true)], args := [d1, d2] }
  | _ => none }
def expiryEvenRow : OpenClaim := { program := "ytoejllkjhaeeeaa", sum := "f32044cdbac816d9381c8ad58ee3467d13251b43a4ed3778a7150ccccbe5780b", func := "contango/contangolaw51.ExpiryEven", spec := "expiryEven", unfollowed := true, recurses := true, apart := false }
def ExpiryEvenSaid : Prop := expiryEvenRow.holds Try.pinned (OpenSpec.ofChange expiryEvenSpec)

/-- ITS FALSE NEIGHBOUR: 'it returns false'. Refute it at one input. -/
def expiryEvenWrong : ChangeSpec := { name := "expiryEven", fn := fun _ => fun
  | [d1, d2] => { results := [.lit (.bool false)], args := [d1, d2] }
  | _ => none }
def ExpiryEvenWrongFalsely : Prop := expiryEvenRow.holds Try.pinned (OpenSpec.ofChange expiryEvenWrong)

/-- 'contangolaw51.ExpiryParts': WHATEVER THE INPUT: true; the input reads as it did. -/
def expiryPartsSpec : ChangeSpec := { name := "expiryParts", fn := fun _ => fun
  | [d1, d2] => { results := [.lit (.bool true)], args := [d1, d2] }
  | _ => none }
def expiryPartsRow : OpenClaim := { program := "ytoejllkjhaeeeaa", sum := "f32044cdbac816d9381c8ad58ee3467d13251b43a4ed3778a7150ccccbe5780b", func := "contango/contangolaw51.ExpiryParts", spec := "expiryParts", unfollowed := true, recurses := true, apart := false }
def ExpiryPartsSaid : Prop := expiryPartsRow.holds Try.pinned (OpenSpec.ofChange expiryPartsSpec)

/-- ITS FALSE NEIGHBOUR: 'it returns false'. Refute it at one input. -/
def expiryPartsWrong : ChangeSpec := { name := "expiryParts", fn := fun _ => fun
  | [d1, d2] => { results := [.lit (.bool false)], args := [d1, d2] }
  | _ => none }
def ExpiryPartsWrongFalsely : Prop := expiryPartsRow.holds Try.pinned (OpenSpec.ofChange expiryPartsWrong)

/-- 'contangolaw51.ExpiryZero': WHATEVER THE INPUT: true; the input reads as it did. -/
def expiryZeroSpec : ChangeSpec := { name := "expiryZero", fn := fun _ => fun
  | [d1, d2, d3] => { results := [.lit (.bool true)], args := [d1, d2, d3] }
  | _ => none }
def expiryZeroRow : OpenClaim := { program := "ytoejllkjhaeeeaa", sum := "f32044cdbac816d9381c8ad58ee3467d13251b43a4ed3778a7150ccccbe5780b", func := "contango/contangolaw51.ExpiryZero", spec := "expiryZero", unfollowed := true, recurses := true, apart := false }
def ExpiryZeroSaid : Prop := expiryZeroRow.holds Try.pinned (OpenSpec.ofChange expiryZeroSpec)

/-- ITS FALSE NEIGHBOUR: 'it returns false'. Refute it at one input. -/
def expiryZeroWrong : ChangeSpec := { name := "expiryZero", fn := fun _ => fun
  | [d1, d2, d3] => { results := [.lit (.bool false)], args := [d1, d2, d3] }
  | _ => none }
def ExpiryZeroWrongFalsely : Prop := expiryZeroRow.holds Try.pinned (OpenSpec.ofChange expiryZeroWrong)

/-- 'contangolaw51.ExpiryFlows': WHATEVER THE INPUT: true; the input reads as it did. -/
def expiryFlowsSpec : ChangeSpec := { name := "expiryFlows", fn := fun _ => fun
  | [d1, d2, d3] => { results := [.lit (.bool true)], args := [d1, d2, d3] }
  | _ => none }
def expiryFlowsRow : OpenClaim := { program := "ytoejllkjhaeeeaa", sum := "f32044cdbac816d9381c8ad58ee3467d13251b43a4ed3778a7150ccccbe5780b", func := "contango/contangolaw51.ExpiryFlows", spec := "expiryFlows", unfollowed := true, recurses := true, apart := false }
def ExpiryFlowsSaid : Prop := expiryFlowsRow.holds Try.pinned (OpenSpec.ofChange expiryFlowsSpec)

/-- ITS FALSE NEIGHBOUR: 'it returns false'. Refute it at one input. -/
def expiryFlowsWrong : ChangeSpec := { name := "expiryFlows", fn := fun _ => fun
  | [d1, d2, d3] => { results := [.lit (.bool false)], args := [d1, d2, d3] }
  | _ => none }
def ExpiryFlowsWrongFalsely : Prop := expiryFlowsRow.holds Try.pinned (OpenSpec.ofChange expiryFlowsWrong)

/- THE SECOND FORM. 'bulk': how many values and letters a reading holds, each counted each time it is reached (what is shared counts as often as it is met; a slice's spare places count too). A statement '..UptoSaid' is the law's where the arguments, and the package variables that the reading takes, are together of bulk at most 1048576: NARROWER than '..Said'. Prove '..Said' where nothing that the law and all that it calls make is longer than what came in: it says more and counts as full. Else prove '..UptoSaid'. A law counts once. -/
mutual
def uptoBulk {H : Type} : DataW H → Nat
  | .lit (.string bytes) => bytes.length + 1
  | .lit _ => 1
  | .nil => 1
  | .ptr d => uptoBulk d + 1
  | .slice elems spare => uptoBulkAll elems + uptoBulkAll spare + 1
  | .agg parts => uptoBulkAll parts + 1
  | .iface _ d => uptoBulk d + 1
  | .map entries => uptoBulkEntries entries + 1
  | .held _ => 1
def uptoBulkAll {H : Type} : List (DataW H) → Nat
  | [] => 0
  | d :: r => uptoBulk d + uptoBulkAll r
def uptoBulkEntries {H : Type} : List (Lit × DataW H) → Nat
  | [] => 0
  | x :: r => uptoBulkEntry x + uptoBulkEntries r
def uptoBulkEntry {H : Type} : Lit × DataW H → Nat
  | (.string bytes, d) => bytes.length + uptoBulk d + 1
  | (_, d) => uptoBulk d + 1
 end
def uptoSmall : (H : Type) → List (DataW H) → Bool := fun _ ds => decide (uptoBulkAll ds ≤ 1048576)
def OpenSpec.upto (s : _root_.Go.ChangeSpec) : _root_.Go.OpenSpec := { _root_.Go.OpenSpec.ofChange s with cond := some uptoSmall }

/-- 'contangolaw51.ExpiryCash', WHERE WHAT IT READS IS OF BULK AT MOST 1048576: true; the input reads as it did. -/
def expiryCashUptoRow : OpenClaim := { program := "ytoejllkjhaeeeaa", sum := "f32044cdbac816d9381c8ad58ee3467d13251b43a4ed3778a7150ccccbe5780b", func := "contango/contangolaw51.ExpiryCash", spec := "expiryCash", unfollowed := true, recurses := true, apart := false, narrowed := true }
def ExpiryCashUptoSaid : Prop := expiryCashUptoRow.holds Try.pinned (OpenSpec.upto expiryCashSpec)

/-- 'contangolaw51.ExpiryEven', WHERE WHAT IT READS IS OF BULK AT MOST 1048576: true; the input reads as it did. -/
def expiryEvenUptoRow : OpenClaim := { program := "ytoejllkjhaeeeaa", sum := "f32044cdbac816d9381c8ad58ee3467d13251b43a4ed3778a7150ccccbe5780b", func := "contango/contangolaw51.ExpiryEven", spec := "expiryEven", unfollowed := true, recurses := true, apart := false, narrowed := true }
def ExpiryEvenUptoSaid : Prop := expiryEvenUptoRow.holds Try.pinned (OpenSpec.upto expiryEvenSpec)

/-- 'contangolaw51.ExpiryParts', WHERE WHAT IT READS IS OF BULK AT MOST 1048576: true; the input reads as it did. -/
def expiryPartsUptoRow : OpenClaim := { program := "ytoejllkjhaeeeaa", sum := "f32044cdbac816d9381c8ad58ee3467d13251b43a4ed3778a7150ccccbe5780b", func := "contango/contangolaw51.ExpiryParts", spec := "expiryParts", unfollowed := true, recurses := true, apart := false, narrowed := true }
def ExpiryPartsUptoSaid : Prop := expiryPartsUptoRow.holds Try.pinned (OpenSpec.upto expiryPartsSpec)

/-- 'contangolaw51.ExpiryZero', WHERE WHAT IT READS IS OF BULK AT MOST 1048576: true; the input reads as it did. -/
def expiryZeroUptoRow : OpenClaim := { program := "ytoejllkjhaeeeaa", sum := "f32044cdbac816d9381c8ad58ee3467d13251b43a4ed3778a7150ccccbe5780b", func := "contango/contangolaw51.ExpiryZero", spec := "expiryZero", unfollowed := true, recurses := true, apart := false, narrowed := true }
def ExpiryZeroUptoSaid : Prop := expiryZeroUptoRow.holds Try.pinned (OpenSpec.upto expiryZeroSpec)

/-- 'contangolaw51.ExpiryFlows', WHERE WHAT IT READS IS OF BULK AT MOST 1048576: true; the input reads as it did. -/
def expiryFlowsUptoRow : OpenClaim := { program := "ytoejllkjhaeeeaa", sum := "f32044cdbac816d9381c8ad58ee3467d13251b43a4ed3778a7150ccccbe5780b", func := "contango/contangolaw51.ExpiryFlows", spec := "expiryFlows", unfollowed := true, recurses := true, apart := false, narrowed := true }
def ExpiryFlowsUptoSaid : Prop := expiryFlowsUptoRow.holds Try.pinned (OpenSpec.upto expiryFlowsSpec)

end Rows
end Go.Proofs.Ytoejllkjhaeeeaa
