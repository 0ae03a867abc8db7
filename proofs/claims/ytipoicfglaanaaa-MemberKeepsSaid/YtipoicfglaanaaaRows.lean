/-
  No cell of these rows narrows 'for every input' (looked for: loops, veiled, ifaces, maps, wideKeys, modest, calm, conditions, laid).
  DERIVED. THE GIVEN ROWS OF THIS SEAT. 5 by the template 'for every input the law returns true; each argument reads behind the call as it read before'; 0 by the template 'total and deterministic' (their statements: YtipoicfglaanaaaTotals.lean).
  GIVEN WITH THE SEED: the statements are not yours to turn. If you find one false, say at which input.
  Laid BY PROGRAM, IN A SANDBOX (cutbox-rows.mjs): the forced cells as the released guide's own fill.sh prints them over the translation b4ba4310f8960603… (all of the seat's roots in one cut). By AI agents, Wed Nov 11 2026. No macro, syntax, notation, axiom, sorry.
-/
import Derived.Test.YtipoicfglaanaaaChecked
import GoSem.Claim
import GoSem.ClaimJoined
import GoSem.ClaimMapViews
import Derived.JoinedTies
import Derived.KernelRfl
namespace Go.Proofs.Ytipoicfglaanaaa
/- THE CELL 'sum', in the pinned program and in every row, IS THE sha256 OF THE DUMP (.gsa) THAT YtipoicfglaanaaaProg.lean LOADS. Nothing in Lean hashes anything: it is a label: what it is worth is what the hold of that sum in a sandbox is worth. -/
noncomputable def Try.pinned : Pinned := { name := "ytipoicfglaanaaa", sum := "b4ba4310f896060319fd3a46fe4ed5332d1129e7be7147cd7e85391c89da85ca", checked := Try.checked }
namespace Rows
def none {H : Type} : Left H := { results := [], args := [] }

/-- 'contangolaw11.MemberChecks': WHATEVER THE INPUT: true; the input reads as it did. -/
def memberChecksSpec : ChangeSpec := { name := "memberChecks", fn := fun _ => fun
  | [d] => { results := [.lit (.bool true)], args := [d] }
  | _ => none }
def memberChecksRow : OpenClaim := { program := "ytipoicfglaanaaa", sum := "b4ba4310f896060319fd3a46fe4ed5332d1129e7be7147cd7e85391c89da85ca", func := "contango/contangolaw11.MemberChecks", spec := "memberChecks", unfollowed := true, recurses := true, apart := false }
def MemberChecksSaid : Prop := memberChecksRow.holds Try.pinned (OpenSpec.ofChange memberChecksSpec)

/-- ITS FALSE NEIGHBOUR: 'it returns false'. Refute it at one input. -/
def memberChecksWrong : ChangeSpec := { name := "memberChecks", fn := fun _ => fun
  | [d] => { results := [.lit (.bool false)], args := [d] }
  | _ => none }
def MemberChecksWrongFalsely : Prop := memberChecksRow.holds Try.pinned (OpenSpec.ofChange memberChecksWrong)

/-- 'contangolaw11.MemberTurns': WHATEVER THE INPUT: true; the input reads as it did. -/
def memberTurnsSpec : ChangeSpec := { name := "memberTurns", fn := fun _ => fun
  | [d1, d2, d3] => { results := [.lit (.bool true)], args := [d1, d2, d3] }
  | _ => none }
def memberTurnsRow : OpenClaim := { program := "ytipoicfglaanaaa", sum := "b4ba4310f896060319fd3a46fe4ed5332d1129e7be7147cd7e85391c89da85ca", func := "contango/contangolaw11.MemberTurns", spec := "memberTurns", unfollowed := true, recurses := true, apart := false }
def MemberTurnsSaid : Prop := memberTurnsRow.holds Try.pinned (OpenSpec.ofChange memberTurnsSpec)

/-- ITS FALSE NEIGHBOUR: 'it returns false'. Refute it at one input. -/
def memberTurnsWrong : ChangeSpec := { name := "memberTurns", fn := fun _ => fun
  | [d1, d2, d3] => { results := [.lit (.bool false)], args := [d1, d2, d3] }
  | _ => none }
def MemberTurnsWrongFalsely : Prop := memberTurnsRow.holds Try.pinned (OpenSpec.ofChange memberTurnsWrong)

/-- 'contangolaw11.MemberKeeps': WHATEVER THE INPUT: true; the input reads as it did. -/
def memberKeepsSpec : ChangeSpec := { name := "memberKeeps", fn := fun _ => fun
  | [d] => { results := [.lit (.bool true)], args := [d] }
  | _ => none }
def memberKeepsRow : OpenClaim := { program := "ytipoicfglaanaaa", sum := "b4ba4310f896060319fd3a46fe4ed5332d1129e7be7147cd7e85391c89da85ca", func := "contango/contangolaw11.MemberKeeps", spec := "memberKeeps", unfollowed := true, recurses := true, apart := false }
def MemberKeepsSaid : Prop := memberKeepsRow.holds Try.pinned (OpenSpec.ofChange memberKeepsSpec)

/-- ITS FALSE NEIGHBOUR: 'it returns false'. Refute it at one input. -/
def memberKeepsWrong : ChangeSpec := { name := "memberKeeps", fn := fun _ => fun
  | [d] => { results := [.lit (.bool false)], args := [d] }
  | _ => none }
def MemberKeepsWrongFalsely : Prop := memberKeepsRow.holds Try.pinned (OpenSpec.ofChange memberKeepsWrong)

/-- 'contangolaw11.MemberMay': WHATEVER THE INPUT: true; the input reads as it did. -/
def memberMaySpec : ChangeSpec := { name := "memberMay", fn := fun _ => fun
  | [d1, d2] => { results := [.lit (.bool true)], args := [d1, d2] }
  | _ => none }
def memberMayRow : OpenClaim := { program := "ytipoicfglaanaaa", sum := "b4ba4310f896060319fd3a46fe4ed5332d1129e7be7147cd7e85391c89da85ca", func := "contango/contangolaw11.MemberMay", spec := "memberMay", unfollowed := true, recurses := true, apart := false }
def MemberMaySaid : Prop := memberMayRow.holds Try.pinned (OpenSpec.ofChange memberMaySpec)

/-- ITS FALSE NEIGHBOUR: 'it returns false'. Refute it at one input. -/
def memberMayWrong : ChangeSpec := { name := "memberMay", fn := fun _ => fun
  | [d1, d2] => { results := [.lit (.bool false)], args := [d1, d2] }
  | _ => none }
def MemberMayWrongFalsely : Prop := memberMayRow.holds Try.pinned (OpenSpec.ofChange memberMayWrong)

/-- 'contangolaw11.MemberFinds': WHATEVER THE INPUT: true; the input reads as it did. -/
def memberFindsSpec : ChangeSpec := { name := "memberFinds", fn := fun _ => fun
  | [d1, d2, d3] => { results := [.lit (.bool true)], args := [d1, d2, d3] }
  | _ => none }
def memberFindsRow : OpenClaim := { program := "ytipoicfglaanaaa", sum := "b4ba4310f896060319fd3a46fe4ed5332d1129e7be7147cd7e85391c89da85ca", func := "contango/contangolaw11.MemberFinds", spec := "memberFinds", unfollowed := true, recurses := true, apart := false }
def MemberFindsSaid : Prop := memberFindsRow.holds Try.pinned (OpenSpec.ofChange memberFindsSpec)

/-- ITS FALSE NEIGHBOUR: 'it returns false'. Refute it at one input. -/
def memberFindsWrong : ChangeSpec := { name := "memberFinds", fn := fun _ => fun
  | [d1, d2, d3] => { results := [.lit (.bool false)], args := [d1, d2, d3] }
  | _ => none }
def MemberFindsWrongFalsely : Prop := memberFindsRow.holds Try.pinned (OpenSpec.ofChange memberFindsWrong)

/- THE SECOND FORM. 'bulk': how many values and letters a reading holds, each counted each time it is reached (what is shared counts as often as it is met; a slice's spare places count too). A statement '..UptoSaid' is the law's where the arguments, and the package variables that the reading takes, are together of bulk at most 1048576: NARROWER than '..Said'. Prove '..Said' where nothing that the law and all that it calls make is longer than what came in: it says more and counts as full. Else prove '..UptoSaid'. A law counts once. -/
mutual
def uptoBulk {H : Type} : DataW H → Nat
  | .lit (.string bytes) => bytes.length + 1
  | .lit _ => 1
  | .nil => 1
  | .ptr d => uptoBulk d + 1
  | .slice elems spare => uptoBulkAll elems + uptoBulkAll spare + 1
  | .agg parts => uptoBulkAll parts + 1
  | .iface _ d => uptoBulk d + 1
  | .map entries => uptoBulkEntries entries + 1
  | .held _ => 1
def uptoBulkAll {H : Type} : List (DataW H) → Nat
  | [] => 0
  | d :: r => uptoBulk d + uptoBulkAll r
def uptoBulkEntries {H : Type} : List (Lit × DataW H) → Nat
  | [] => 0
  | x :: r => uptoBulkEntry x + uptoBulkEntries r
def uptoBulkEntry {H : Type} : Lit × DataW H → Nat
  | (.string bytes, d) => bytes.length + uptoBulk d + 1
  | (_, d) => uptoBulk d + 1
 end
def uptoSmall : (H : Type) → List (DataW H) → Bool := fun _ ds => decide (uptoBulkAll ds ≤ 1048576)
def OpenSpec.upto (s : _root_.Go.ChangeSpec) : _root_.Go.OpenSpec := { _root_.Go.OpenSpec.ofChange s with cond := some uptoSmall }

/-- 'contangolaw11.MemberChecks', WHERE WHAT IT READS IS OF BULK AT MOST 1048576: true; the input reads as it did. -/
def memberChecksUptoRow : OpenClaim := { program := "ytipoicfglaanaaa", sum := "b4ba4310f896060319fd3a46fe4ed5332d1129e7be7147cd7e85391c89da85ca", func := "contango/contangolaw11.MemberChecks", spec := "memberChecks", unfollowed := true, recurses := true, apart := false, narrowed := true }
def MemberChecksUptoSaid : Prop := memberChecksUptoRow.holds Try.pinned (OpenSpec.upto memberChecksSpec)

/-- 'contangolaw11.MemberTurns', WHERE WHAT IT READS IS OF BULK AT MOST 1048576: true; the input reads as it did. -/
def memberTurnsUptoRow : OpenClaim := { program := "ytipoicfglaanaaa", sum := "b4ba4310f896060319fd3a46fe4ed5332d1129e7be7147cd7e85391c89da85ca", func := "contango/contangolaw11.MemberTurns", spec := "memberTurns", unfollowed := true, recurses := true, apart := false, narrowed := true }
def MemberTurnsUptoSaid : Prop := memberTurnsUptoRow.holds Try.pinned (OpenSpec.upto memberTurnsSpec)

/-- 'contangolaw11.MemberKeeps', WHERE WHAT IT READS IS OF BULK AT MOST 1048576: true; the input reads as it did. -/
def memberKeepsUptoRow : OpenClaim := { program := "ytipoicfglaanaaa", sum := "b4ba4310f896060319fd3a46fe4ed5332d1129e7be7147cd7e85391c89da85ca", func := "contango/contangolaw11.MemberKeeps", spec := "memberKeeps", unfollowed := true, recurses := true, apart := false, narrowed := true }
def MemberKeepsUptoSaid : Prop := memberKeepsUptoRow.holds Try.pinned (OpenSpec.upto memberKeepsSpec)

/-- 'contangolaw11.MemberMay', WHERE WHAT IT READS IS OF BULK AT MOST 1048576: true; the input reads as it did. -/
def memberMayUptoRow : OpenClaim := { program := "ytipoicfglaanaaa", sum := "b4ba4310f896060319fd3a46fe4ed5332d1129e7be7147cd7e85391c89da85ca", func := "contango/contangolaw11.MemberMay", spec := "memberMay", unfollowed := true, recurses := true, apart := false, narrowed := true }
def MemberMayUptoSaid : Prop := memberMayUptoRow.holds Try.pinned (OpenSpec.upto memberMaySpec)

/-- 'contangolaw11.MemberFinds', WHERE WHAT IT READS IS OF BULK AT MOST 1048576: true; the input reads as it did. -/
def memberFindsUptoRow : OpenClaim := { program := "ytipoicfglaanaaa", sum := "b4ba4310f896060319fd3a46fe4ed5332d1129e7be7147cd7e85391c89da85ca", func := "contango/contangolaw11.MemberFinds", spec := "memberFinds", unfollowed := true, recurses := true, apart := false, narrowed := true }
def MemberFindsUptoSaid : Prop := memberFindsUptoRow.holds Try.pinned (OpenSpec.upto memberFindsSpec)

end Rows
end Go.Proofs.Ytipoicfglaanaaa
