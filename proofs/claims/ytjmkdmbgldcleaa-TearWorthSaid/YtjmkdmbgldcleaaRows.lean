/-
  No cell of these rows narrows 'for every input' (looked for: loops, veiled, ifaces, maps, wideKeys, modest, calm, conditions, laid).
  DERIVED. THE GIVEN ROWS OF THIS SEAT. 5 by the template 'for every input the law returns true; each argument reads behind the call as it read before'; 0 by the template 'total and deterministic' (their statements: YtjmkdmbgldcleaaTotals.lean).
  GIVEN WITH THE SEED: the statements are not yours to turn. If you find one false, say at which input.
  Laid BY PROGRAM, IN A SANDBOX (cutbox-rows.mjs): the forced cells as the released guide's own fill.sh prints them over the translation 5cd6c42389c0bc0f… (all of the seat's roots in one cut). By AI agents, Wed Nov 11 2026. No macro, syntax, notation, axiom, sorry.
-/
import Derived.Test.YtjmkdmbgldcleaaChecked
import GoSem.Claim
import GoSem.ClaimJoined
import GoSem.ClaimMapViews
import Derived.JoinedTies
import Derived.KernelRfl
namespace Go.Proofs.Ytjmkdmbgldcleaa
/- THE CELL 'sum', in the pinned program and in every row, IS THE sha256 OF THE DUMP (.gsa) THAT YtjmkdmbgldcleaaProg.lean LOADS. Nothing in Lean hashes anything: it is a label: what it is worth is what the hold of that sum in a sandbox is worth. -/
noncomputable def Try.pinned : Pinned := { name := "ytjmkdmbgldcleaa", sum := "5cd6c42389c0bc0f5e598a29d1892ca9a2384bd18ffa18987e669a8308e5662a", checked := Try.checked }
namespace Rows
def none {H : Type} : Left H := { results := [], args := [] }

/-- 'contangolaw50.TearParts': WHATEVER THE INPUT: true; the input reads as it did. -/
def tearPartsSpec : ChangeSpec := { name := "tearParts", fn := fun _ => fun
  | [d1, d2] => { results := [.lit (.bool true)], args := [d1, d2] }
  | _ => none }
def tearPartsRow : OpenClaim := { program := "ytjmkdmbgldcleaa", sum := "5cd6c42389c0bc0f5e598a29d1892ca9a2384bd18ffa18987e669a8308e5662a", func := "contango/contangolaw50.TearParts", spec := "tearParts", unfollowed := true, recurses := true, plainKeys := false, apart := false }
def TearPartsSaid : Prop := tearPartsRow.holds Try.pinned (OpenSpec.ofChange tearPartsSpec)

/-- ITS FALSE NEIGHBOUR: 'it returns false'. Refute it at one input. -/
def tearPartsWrong : ChangeSpec := { name := "tearParts", fn := fun _ => fun
  | [d1, d2] => { results := [.lit (.bool false)], args := [d1, d2] }
  | _ => none }
def TearPartsWrongFalsely : Prop := tearPartsRow.holds Try.pinned (OpenSpec.ofChange tearPartsWrong)

/-- 'contangolaw50.TearApplies': WHATEVER THE INPUT: true; the input reads as it did. -/
def tearAppliesSpec : ChangeSpec := { name := "tearApplies", fn := fun _ => fun
  | [d1, d2, d3] => { results := [.lit (.bool true)], args := [d1, d2, d3] }
  | _ => none }
def tearAppliesRow : OpenClaim := { program := "ytjmkdmbgldcleaa", sum := "5cd6c42389c0bc0f5e598a29d1892ca9a2384bd18ffa18987e669a8308e5662a", func := "contango/contangolaw50.TearApplies", spec := "tearApplies", unfollowed := true, recurses := true, plainKeys := false, apart := false }
def TearAppliesSaid : Prop := tearAppliesRow.holds Try.pinned (OpenSpec.ofChange tearAppliesSpec)

/-- ITS FALSE NEIGHBOUR: 'it returns false'. Refute it at one input. -/
def tearAppliesWrong : ChangeSpec := { name := "tearApplies", fn := fun _ => fun
  | [d1, d2, d3] => { results := [.lit (.bool false)], args := [d1, d2, d3] }
  | _ => none }
def TearAppliesWrongFalsely : Prop := tearAppliesRow.holds Try.pinned (OpenSpec.ofChange tearAppliesWrong)

/-- 'contangolaw50.TearWorth': WHATEVER THE INPUT: true; the input reads as it did. -/
def tearWorthSpec : ChangeSpec := { name := "tearWorth", fn := fun _ => fun
  | [d1, d2, d3] => { results := [.lit (.bool true)], args := [d1, d2, d3] }
  | _ => none }
def tearWorthRow : OpenClaim := { program := "ytjmkdmbgldcleaa", sum := "5cd6c42389c0bc0f5e598a29d1892ca9a2384bd18ffa18987e669a8308e5662a", func := "contango/contangolaw50.TearWorth", spec := "tearWorth", unfollowed := true, recurses := true, plainKeys := false, apart := false }
def TearWorthSaid : Prop := tearWorthRow.holds Try.pinned (OpenSpec.ofChange tearWorthSpec)

/-- ITS FALSE NEIGHBOUR: 'it returns false'. Refute it at one input. -/
def tearWorthWrong : ChangeSpec := { name := "tearWorth", fn := fun _ => fun
  | [d1, d2, d3] => { results := [.lit (.bool false)], args := [d1, d2, d3] }
  | _ => none }
def TearWorthWrongFalsely : Prop := tearWorthRow.holds Try.pinned (OpenSpec.ofChange tearWorthWrong)

/-- 'contangolaw50.TearKeeps': WHATEVER THE INPUT: true; the input reads as it did. -/
def tearKeepsSpec : ChangeSpec := { name := "tearKeeps", fn := fun _ => fun
  | [d1, d2] => { results := [.lit (.bool true)], args := [d1, d2] }
  | _ => none }
def tearKeepsRow : OpenClaim := { program := "ytjmkdmbgldcleaa", sum := "5cd6c42389c0bc0f5e598a29d1892ca9a2384bd18ffa18987e669a8308e5662a", func := "contango/contangolaw50.TearKeeps", spec := "tearKeeps", unfollowed := true, recurses := true, plainKeys := false, apart := false }
def TearKeepsSaid : Prop := tearKeepsRow.holds Try.pinned (OpenSpec.ofChange tearKeepsSpec)

/-- ITS FALSE NEIGHBOUR: 'it returns false'. Refute it at one input. -/
def tearKeepsWrong : ChangeSpec := { name := "tearKeeps", fn := fun _ => fun
  | [d1, d2] => { results := [.lit (.bool false)], args := [d1, d2] }
  | _ => none }
def TearKeepsWrongFalsely : Prop := tearKeepsRow.holds Try.pinned (OpenSpec.ofChange tearKeepsWrong)

/-- 'contangolaw50.TearEven': WHATEVER THE INPUT: true; the input reads as it did. -/
def tearEvenSpec : ChangeSpec := { name := "tearEven", fn := fun _ => fun
  | [d1, d2] => { results := [.lit (.bool true)], args := [d1, d2] }
  | _ => none }
def tearEvenRow : OpenClaim := { program := "ytjmkdmbgldcleaa", sum := "5cd6c42389c0bc0f5e598a29d1892ca9a2384bd18ffa18987e669a8308e5662a", func := "contango/contangolaw50.TearEven", spec := "tearEven", unfollowed := true, recurses := true, plainKeys := false, apart := false }
def TearEvenSaid : Prop := tearEvenRow.holds Try.pinned (OpenSpec.ofChange tearEvenSpec)

/-- ITS FALSE NEIGHBOUR: 'it returns false'. Refute it at one input. -/
def tearEvenWrong : ChangeSpec := { name := "tearEven", fn := fun _ => fun
  | [d1, d2] => { results := [.lit (.bool false)], args := [d1, d2] }
  | _ => none }
def TearEvenWrongFalsely : Prop := tearEvenRow.holds Try.pinned (OpenSpec.ofChange tearEvenWrong)

/- THE SECOND FORM. 'bulk': how many values and letters a reading holds, each counted each time it is reached (what is shared counts as often as it is met; a slice's spare places count too). A statement '..UptoSaid' is the law's where the arguments, and the package variables that the reading takes, are together of bulk at most 1048576: NARROWER than '..Said'. Prove '..Said' where nothing that the law and all that it calls make is longer than what came in: it says more and counts as full. Else prove '..UptoSaid'. A law counts once. -/
mutual
def uptoBulk {H : Type} : DataW H → Nat
  | .lit (.string bytes) => bytes.length + 1
  | .lit _ => 1
  | .nil => 1
  | .ptr d => uptoBulk d + 1
  | .slice elems spare => uptoBulkAll elems + uptoBulkAll spare + 1
  | .agg parts => uptoBulkAll parts + 1
  | .iface _ d => uptoBulk d + 1
  | .map entries => uptoBulkEntries entries + 1
  | .held _ => 1
def uptoBulkAll {H : Type} : List (DataW H) → Nat
  | [] => 0
  | d :: r => uptoBulk d + uptoBulkAll r
def uptoBulkEntries {H : Type} : List (Lit × DataW H) → Nat
  | [] => 0
  | x :: r => uptoBulkEntry x + uptoBulkEntries r
def uptoBulkEntry {H : Type} : Lit × DataW H → Nat
  | (.string bytes, d) => bytes.length + uptoBulk d + 1
  | (_, d) => uptoBulk d + 1
 end
def uptoSmall : (H : Type) → List (DataW H) → Bool := fun _ ds => decide (uptoBulkAll ds ≤ 1048576)
def OpenSpec.upto (s : _root_.Go.ChangeSpec) : _root_.Go.OpenSpec := { _root_.Go.OpenSpec.ofChange s with cond := some uptoSmall }

/-- 'contangolaw50.TearParts', WHERE WHAT IT READS IS OF BULK AT MOST 1048576: true; the input reads as it did. -/
def tearPartsUptoRow : OpenClaim := { program := "ytjmkdmbgldcleaa", sum := "5cd6c42389c0bc0f5e598a29d1892ca9a2384bd18ffa18987e669a8308e5662a", func := "contango/contangolaw50.TearParts", spec := "tearParts", unfollowed := true, recurses := true, plainKeys := false, apart := false, narrowed := true }
def TearPartsUptoSaid : Prop := tearPartsUptoRow.holds Try.pinned (OpenSpec.upto tearPartsSpec)

/-- 'contangolaw50.TearApplies', WHERE WHAT IT READS IS OF BULK AT MOST 1048576: true; the input reads as it did. -/
def tearAppliesUptoRow : OpenClaim := { program := "ytjmkdmbgldcleaa", sum := "5cd6c42389c0bc0f5e598a29d1892ca9a2384bd18ffa18987e669a8308e5662a", func := "contango/contangolaw50.TearApplies", spec := "tearApplies", unfollowed := true, recurses := true, plainKeys := false, apart := false, narrowed := true }
def TearAppliesUptoSaid : Prop := tearAppliesUptoRow.holds Try.pinned (OpenSpec.upto tearAppliesSpec)

/-- 'contangolaw50.TearWorth', WHERE WHAT IT READS IS OF BULK AT MOST 1048576: true; the input reads as it did. -/
def tearWorthUptoRow : OpenClaim := { program := "ytjmkdmbgldcleaa", sum := "5cd6c42389c0bc0f5e598a29d1892ca9a2384bd18ffa18987e669a8308e5662a", func := "contango/contangolaw50.TearWorth", spec := "tearWorth", unfollowed := true, recurses := true, plainKeys := false, apart := false, narrowed := true }
def TearWorthUptoSaid : Prop := tearWorthUptoRow.holds Try.pinned (OpenSpec.upto tearWorthSpec)

/-- 'contangolaw50.TearKeeps', WHERE WHAT IT READS IS OF BULK AT MOST 1048576: true; the input reads as it did. -/
def tearKeepsUptoRow : OpenClaim := { program := "ytjmkdmbgldcleaa", sum := "5cd6c42389c0bc0f5e598a29d1892ca9a2384bd18ffa18987e669a8308e5662a", func := "contango/contangolaw50.TearKeeps", spec := "tearKeeps", unfollowed := true, recurses := true, plainKeys := false, apart := false, narrowed := true }
def TearKeepsUptoSaid : Prop := tearKeepsUptoRow.holds Try.pinned (OpenSpec.upto tearKeepsSpec)

/-- 'contangolaw50.TearEven', WHERE WHAT IT READS IS OF BULK AT MOST 1048576: true; the input reads as it did. -/
def tearEvenUptoRow : OpenClaim := { program := "ytjmkdmbgldcleaa", sum := "5cd6c42389c0bc0f5e598a29d1892ca9a2384bd18ffa18987e669a8308e5662a", func := "contango/contangolaw50.TearEven", spec := "tearEven", unfollowed := true, recurses := true, plainKeys := false, apart := false, narrowed := true }
def TearEvenUptoSaid : Prop := tearEvenUptoRow.holds Try.pinned (OpenSpec.upto tearEvenSpec)

end Rows
end Go.Proofs.Ytjmkdmbgldcleaa
