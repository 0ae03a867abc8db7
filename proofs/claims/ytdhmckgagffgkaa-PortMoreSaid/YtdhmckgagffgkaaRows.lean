/-
  No cell of these rows narrows 'for every input' (looked for: loops, veiled, ifaces, maps, wideKeys, modest, calm, conditions, laid).
  DERIVED. THE GIVEN ROWS OF THIS SEAT. 4 by the template 'for every input the law returns true; each argument reads behind the call as it read before'; 0 by the template 'total and deterministic' (their statements: YtdhmckgagffgkaaTotals.lean).
  GIVEN WITH THE SEED: the statements are not yours to turn. If you find one false, say at which input.
  Laid BY PROGRAM, IN A SANDBOX (cutbox-rows.mjs): the forced cells as the released guide's own fill.sh prints them over the translation 9662f8cf3be9631d… (all of the seat's roots in one cut). By AI agents, Wed Nov 11 2026. No macro, syntax, notation, axiom, sorry.
-/
import Derived.Test.YtdhmckgagffgkaaChecked
import GoSem.Claim
import GoSem.ClaimJoined
import GoSem.ClaimMapViews
import Derived.JoinedTies
import Derived.KernelRfl
namespace Go.Proofs.Ytdhmckgagffgkaa
/- THE CELL 'sum', in the pinned program and in every row, IS THE sha256 OF THE DUMP (.gsa) THAT YtdhmckgagffgkaaProg.lean LOADS. Nothing in Lean hashes anything: it is a label: what it is worth is what the hold of that sum in a sandbox is worth. -/
noncomputable def Try.pinned : Pinned := { name := "ytdhmckgagffgkaa", sum := "9662f8cf3be9631d4611e5d57d28662faf1deafd36ac5d4b7454d017b0751091", checked := Try.checked }
namespace Rows
def none {H : Type} : Left H := { results := [], args := [] }

/-- 'contangolaw42.PortPlans': WHATEVER THE INPUT: true; the input reads as it did. -/
def portPlansSpec : ChangeSpec := { name := "portPlans", fn := fun _ => fun
  | [d1, d2, d3] => { results := [.lit (.bool true)], args := [d1, d2, d3] }
  | _ => none }
def portPlansRow : OpenClaim := { program := "ytdhmckgagffgkaa", sum := "9662f8cf3be9631d4611e5d57d28662faf1deafd36ac5d4b7454d017b0751091", func := "contango/contangolaw42.PortPlans", spec := "portPlans", unfollowed := true, recurses := true, plainKeys := false, apart := false }
def PortPlansSaid : Prop := portPlansRow.holds Try.pinned (OpenSpec.ofChange portPlansSpec)

/-- ITS FALSE NEIGHBOUR: 'it returns false'. Refute it at one input. -/
def portPlansWrong : ChangeSpec := { name := "portPlans", fn := fun _ => fun
  | [d1, d2, d3] => { results := [.lit (.bool false)], args := [d1, d2, d3] }
  | _ => none }
def PortPlansWrongFalsely : Prop := portPlansRow.holds Try.pinned (OpenSpec.ofChange portPlansWrong)

/-- 'contangolaw42.PortClients': WHATEVER THE INPUT: true; the input reads as it did. -/
def portClientsSpec : ChangeSpec := { name := "portClients", fn := fun _ => fun
  | [d1, d2] => { results := [.lit (.bool true)], args := [d1, d2] }
  | _ => none }
def portClientsRow : OpenClaim := { program := "ytdhmckgagffgkaa", sum := "9662f8cf3be9631d4611e5d57d28662faf1deafd36ac5d4b7454d017b0751091", func := "contango/contangolaw42.PortClients", spec := "portClients", unfollowed := true, recurses := true, plainKeys := false, apart := false }
def PortClientsSaid : Prop := portClientsRow.holds Try.pinned (OpenSpec.ofChange portClientsSpec)

/-- ITS FALSE NEIGHBOUR: 'it returns false'. Refute it at one input. -/
def portClientsWrong : ChangeSpec := { name := "portClients", fn := fun _ => fun
  | [d1, d2] => { results := [.lit (.bool false)], args := [d1, d2] }
  | _ => none }
def PortClientsWrongFalsely : Prop := portClientsRow.holds Try.pinned (OpenSpec.ofChange portClientsWrong)

/-- 'contangolaw42.PortOne': WHATEVER THE INPUT: true; the input reads as it did. -/
def portOneSpec : ChangeSpec := { name := "portOne", fn := fun _ => fun
  | [d1, d2, d3] => { results := [.lit (.bool true)], args := [d1, d2, d3] }
  | _ => none }
def portOneRow : OpenClaim := { program := "ytdhmckgagffgkaa", sum := "9662f8cf3be9631d4611e5d57d28662faf1deafd36ac5d4b7454d017b0751091", func := "contango/contangolaw42.PortOne", spec := "portOne", unfollowed := true, recurses := true, plainKeys := false, apart := false }
def PortOneSaid : Prop := portOneRow.holds Try.pinned (OpenSpec.ofChange portOneSpec)

/-- ITS FALSE NEIGHBOUR: 'it returns false'. Refute it at one input. -/
def portOneWrong : ChangeSpec := { name := "portOne", fn := fun _ => fun
  | [d1, d2, d3] => { results := [.lit (.bool false)], args := [d1, d2, d3] }
  | _ => none }
def PortOneWrongFalsely : Prop := portOneRow.holds Try.pinned (OpenSpec.ofChange portOneWrong)

/-- 'contangolaw42.PortMore': WHATEVER THE INPUT: true; the input reads as it did. -/
def portMoreSpec : ChangeSpec := { name := "portMore", fn := fun _ => fun
  | [d1, d2, d3, d4] => { results := [.lit (.bool true)], args := [d1, d2, d3, d4] }
  | _ => none }
def portMoreRow : OpenClaim := { program := "ytdhmckgagffgkaa", sum := "9662f8cf3be9631d4611e5d57d28662faf1deafd36ac5d4b7454d017b0751091", func := "contango/contangolaw42.PortMore", spec := "portMore", unfollowed := true, recurses := true, plainKeys := false, apart := false }
def PortMoreSaid : Prop := portMoreRow.holds Try.pinned (OpenSpec.ofChange portMoreSpec)

/-- ITS FALSE NEIGHBOUR: 'it returns false'. Refute it at one input. -/
def portMoreWrong : ChangeSpec := { name := "portMore", fn := fun _ => fun
  | [d1, d2, d3, d4] => { results := [.lit (.bool false)], args := [d1, d2, d3, d4] }
  | _ => none }
def PortMoreWrongFalsely : Prop := portMoreRow.holds Try.pinned (OpenSpec.ofChange portMoreWrong)

/- THE SECOND FORM. 'bulk': how many values and letters a reading holds, each counted each time it is reached (what is shared counts as often as it is met; a slice's spare places count too). A statement '..UptoSaid' is the law's where the arguments, and the package variables that the reading takes, are together of bulk at most 1048576: NARROWER than '..Said'. Prove '..Said' where nothing that the law and all that it calls make is longer than what came in: it says more and counts as full. Else prove '..UptoSaid'. A law counts once. -/
mutual
def uptoBulk {H : Type} : DataW H → Nat
  | .lit (.string bytes) => bytes.length + 1
  | .lit _ => 1
  | .nil => 1
  | .ptr d => uptoBulk d + 1
  | .slice elems spare => uptoBulkAll elems + uptoBulkAll spare + 1
  | .agg parts => uptoBulkAll parts + 1
  | .iface _ d => uptoBulk d + 1
  | .map entries => uptoBulkEntries entries + 1
  | .held _ => 1
def uptoBulkAll {H : Type} : List (DataW H) → Nat
  | [] => 0
  | d :: r => uptoBulk d + uptoBulkAll r
def uptoBulkEntries {H : Type} : List (Lit × DataW H) → Nat
  | [] => 0
  | x :: r => uptoBulkEntry x + uptoBulkEntries r
def uptoBulkEntry {H : Type} : Lit × DataW H → Nat
  | (.string bytes, d) => bytes.length + uptoBulk d + 1
  | (_, d) => uptoBulk d + 1
 end
def uptoSmall : (H : Type) → List (DataW H) → Bool := fun _ ds => decide (uptoBulkAll ds ≤ 1048576)
def OpenSpec.upto (s : _root_.Go.ChangeSpec) : _root_.Go.OpenSpec := { _root_.Go.OpenSpec.ofChange s with cond := some uptoSmall }

/-- 'contangolaw42.PortPlans', WHERE WHAT IT READS IS OF BULK AT MOST 1048576: true; the input reads as it did. -/
def portPlansUptoRow : OpenClaim := { program := "ytdhmckgagffgkaa", sum := "9662f8cf3be9631d4611e5d57d28662faf1deafd36ac5d4b7454d017b0751091", func := "contango/contangolaw42.PortPlans", spec := "portPlans", unfollowed := true, recurses := true, plainKeys := false, apart := false, narrowed := true }
def PortPlansUptoSaid : Prop := portPlansUptoRow.holds Try.pinned (OpenSpec.upto portPlansSpec)

/-- 'contangolaw42.PortClients', WHERE WHAT IT READS IS OF BULK AT MOST 1048576: true; the input reads as it did. -/
def portClientsUptoRow : OpenClaim := { program := "ytdhmckgagffgkaa", sum := "9662f8cf3be9631d4611e5d57d28662faf1deafd36ac5d4b7454d017b0751091", func := "contango/contangolaw42.PortClients", spec := "portClients", unfollowed := true, recurses := true, plainKeys := false, apart := false, narrowed := true }
def PortClientsUptoSaid : Prop := portClientsUptoRow.holds Try.pinned (OpenSpec.upto portClientsSpec)

/-- 'contangolaw42.PortOne', WHERE WHAT IT READS IS OF BULK AT MOST 1048576: true; the input reads as it did. -/
def portOneUptoRow : OpenClaim := { program := "ytdhmckgagffgkaa", sum := "9662f8cf3be9631d4611e5d57d28662faf1deafd36ac5d4b7454d017b0751091", func := "contango/contangolaw42.PortOne", spec := "portOne", unfollowed := true, recurses := true, plainKeys := false, apart := false, narrowed := true }
def PortOneUptoSaid : Prop := portOneUptoRow.holds Try.pinned (OpenSpec.upto portOneSpec)

/-- 'contangolaw42.PortMore', WHERE WHAT IT READS IS OF BULK AT MOST 1048576: true; the input reads as it did. -/
def portMoreUptoRow : OpenClaim := { program := "ytdhmckgagffgkaa", sum := "9662f8cf3be9631d4611e5d57d28662faf1deafd36ac5d4b7454d017b0751091", func := "contango/contangolaw42.PortMore", spec := "portMore", unfollowed := true, recurses := true, plainKeys := false, apart := false, narrowed := true }
def PortMoreUptoSaid : Prop := portMoreUptoRow.holds Try.pinned (OpenSpec.upto portMoreSpec)

end Rows
end Go.Proofs.Ytdhmckgagffgkaa
