/-
  No cell of these rows narrows 'for every input' (looked for: loops, veiled, ifaces, maps, wideKeys, modest, calm, conditions, laid).
  DERIVED. THE GIVEN ROWS OF THIS SEAT. 4 by the template 'for every input the law returns true; each argument reads behind the call as it read before'; 0 by the template 'total and deterministic' (their statements: YtgnlikamelfmjaaTotals.lean).
  GIVEN WITH THE SEED: the statements are not yours to turn. If you find one false, say at which input.
  Laid BY PROGRAM, IN A SANDBOX (cutbox-rows.mjs): the forced cells as the released guide's own fill.sh prints them over the translation 5d9680e82437a0af… (all of the seat's roots in one cut). By AI agents, Wed Nov 11 2026. No macro, syntax, notation, axiom, sorry.
-/
import Derived.Test.YtgnlikamelfmjaaChecked
import GoSem.Claim
import GoSem.ClaimJoined
import GoSem.ClaimMapViews
import Derived.JoinedTies
import Derived.KernelRfl
namespace Go.Proofs.Ytgnlikamelfmjaa
/- THE CELL 'sum', in the pinned program and in every row, IS THE sha256 OF THE DUMP (.gsa) THAT YtgnlikamelfmjaaProg.lean LOADS. Nothing in Lean hashes anything: it is a label: what it is worth is what the hold of that sum in a sandbox is worth. -/
noncomputable def Try.pinned : Pinned := { name := "ytgnlikamelfmjaa", sum := "5d9680e82437a0af025b6ca0e0ca73f51fc3745c4c7094201f82cd6ce0e0f8ae", checked := Try.checked }
namespace Rows
def none {H : Type} : Left H := { results := [], args := [] }

/-- 'laws.FnExactIsConnected': WHATEVER THE INPUT: true; the input reads as it did. -/
def fnExactIsConnectedSpec : ChangeSpec := { name := "fnExactIsConnected", fn := fun _ => fun
  | [d] => { results := [.lit (.bool true)], args := [d] }
  | _ => none }
def fnExactIsConnectedRow : OpenClaim := { program := "ytgnlikamelfmjaa", sum := "5d9680e82437a0af025b6ca0e0ca73f51fc3745c4c7094201f82cd6ce0e0f8ae", func := "loop.example/g01081/laws.FnExactIsConnected", spec := "fnExactIsConnected", unfollowed := true, recurses := true, plainKeys := false, apart := false }
def FnExactIsConnectedSaid : Prop := fnExactIsConnectedRow.holds Try.pinned (OpenSpec.ofChange fnExactIsConnectedSpec)

/-- ITS FALSE NEIGHBOUR: 'it returns false'. Refute it at one input. -/
def fnExactIsConnectedWrong : ChangeSpec := { name := "fnExactIsConnected", fn := fun _ => fun
  | [d] => { results := [.lit (.bool false)], args := [d] }
  | _ => none }
def FnExactIsConnectedWrongFalsely : Prop := fnExactIsConnectedRow.holds Try.pinned (OpenSpec.ofChange fnExactIsConnectedWrong)

/-- 'laws.FnExactTotalStrength': WHATEVER THE INPUT: true; the input reads as it did. -/
def fnExactTotalStrengthSpec : ChangeSpec := { name := "fnExactTotalStrength", fn := fun _ => fun
  | [d1, d2] => { results := [.lit (.bool true)], args := [d1, d2] }
  | _ => none }
def fnExactTotalStrengthRow : OpenClaim := { program := "ytgnlikamelfmjaa", sum := "5d9680e82437a0af025b6ca0e0ca73f51fc3745c4c7094201f82cd6ce0e0f8ae", func := "loop.example/g01081/laws.FnExactTotalStrength", spec := "fnExactTotalStrength", unfollowed := true, recurses := true, plainKeys := false, apart := false }
def FnExactTotalStrengthSaid : Prop := fnExactTotalStrengthRow.holds Try.pinned (OpenSpec.ofChange fnExactTotalStrengthSpec)

/-- ITS FALSE NEIGHBOUR: 'it returns false'. Refute it at one input. -/
def fnExactTotalStrengthWrong : ChangeSpec := { name := "fnExactTotalStrength", fn := fun _ => fun
  | [d1, d2] => { results := [.lit (.bool false)], args := [d1, d2] }
  | _ => none }
def FnExactTotalStrengthWrongFalsely : Prop := fnExactTotalStrengthRow.holds Try.pinned (OpenSpec.ofChange fnExactTotalStrengthWrong)

/-- 'laws.FnExactJoinAssemblies': WHATEVER THE INPUT: true; the input reads as it did. -/
def fnExactJoinAssembliesSpec : ChangeSpec := { name := "fnExactJoinAssemblies", fn := fun _ => fun
  | [d1, d2] => { results := [.lit (.bool true)], args := [d1, d2] }
  | _ => none }
def fnExactJoinAssembliesRow : OpenClaim := { program := "ytgnlikamelfmjaa", sum := "5d9680e82437a0af025b6ca0e0ca73f51fc3745c4c7094201f82cd6ce0e0f8ae", func := "loop.example/g01081/laws.FnExactJoinAssemblies", spec := "fnExactJoinAssemblies", unfollowed := true, recurses := true, plainKeys := false, apart := false }
def FnExactJoinAssembliesSaid : Prop := fnExactJoinAssembliesRow.holds Try.pinned (OpenSpec.ofChange fnExactJoinAssembliesSpec)

/-- ITS FALSE NEIGHBOUR: 'it returns false'. Refute it at one input. -/
def fnExactJoinAssembliesWrong : ChangeSpec := { name := "fnExactJoinAssemblies", fn := fun _ => fun
  | [d1, d2] => { results := [.lit (.bool false)], args := [d1, d2] }
  | _ => none }
def FnExactJoinAssembliesWrongFalsely : Prop := fnExactJoinAssembliesRow.holds Try.pinned (OpenSpec.ofChange fnExactJoinAssembliesWrong)

/-- 'laws.FnJoined': WHATEVER THE INPUT: true; the input reads as it did. -/
def fnJoinedSpec : ChangeSpec := { name := "fnJoined", fn := fun _ => fun
  | [d] => { results := [.lit (.bool true)], args := [d] }
  | _ => none }
def fnJoinedRow : OpenClaim := { program := "ytgnlikamelfmjaa", sum := "5d9680e82437a0af025b6ca0e0ca73f51fc3745c4c7094201f82cd6ce0e0f8ae", func := "loop.example/g01081/laws.FnJoined", spec := "fnJoined", unfollowed := true, recurses := true, plainKeys := false, apart := false }
def FnJoinedSaid : Prop := fnJoinedRow.holds Try.pinned (OpenSpec.ofChange fnJoinedSpec)

/-- ITS FALSE NEIGHBOUR: 'it returns false'. Refute it at one input. -/
def fnJoinedWrong : ChangeSpec := { name := "fnJoined", fn := fun _ => fun
  | [d] => { results := [.lit (.bool false)], args := [d] }
  | _ => none }
def FnJoinedWrongFalsely : Prop := fnJoinedRow.holds Try.pinned (OpenSpec.ofChange fnJoinedWrong)

/- THE SECOND FORM. 'bulk': how many values and letters a reading holds, each counted each time it is reached (what is shared counts as often as it is met; a slice's spare places count too). A statement '..UptoSaid' is the law's where the arguments, and the package variables that the reading takes, are together of bulk at most 1048576: NARROWER than '..Said'. Prove '..Said' where nothing that the law and all that it calls make is longer than what came in: it says more and counts as full. Else prove '..UptoSaid'. A law counts once. -/
mutual
def uptoBulk {H : Type} : DataW H → Nat
  | .lit (.string bytes) => bytes.length + 1
  | .lit _ => 1
  | .nil => 1
  | .ptr d => uptoBulk d + 1
  | .slice elems spare => uptoBulkAll elems + uptoBulkAll spare + 1
  | .agg parts => uptoBulkAll parts + 1
  | .iface _ d => uptoBulk d + 1
  | .map entries => uptoBulkEntries entries + 1
  | .held _ => 1
def uptoBulkAll {H : Type} : List (DataW H) → Nat
  | [] => 0
  | d :: r => uptoBulk d + uptoBulkAll r
def uptoBulkEntries {H : Type} : List (Lit × DataW H) → Nat
  | [] => 0
  | x :: r => uptoBulkEntry x + uptoBulkEntries r
def uptoBulkEntry {H : Type} : Lit × DataW H → Nat
  | (.string bytes, d) => bytes.length + uptoBulk d + 1
  | (_, d) => uptoBulk d + 1
 end
def uptoSmall : (H : Type) → List (DataW H) → Bool := fun _ ds => decide (uptoBulkAll ds ≤ 1048576)
def OpenSpec.upto (s : _root_.Go.ChangeSpec) : _root_.Go.OpenSpec := { _root_.Go.OpenSpec.ofChange s with cond := some uptoSmall }

/-- 'laws.FnExactIsConnected', WHERE WHAT IT READS IS OF BULK AT MOST 1048576: true; the input reads as it did. -/
def fnExactIsConnectedUptoRow : OpenClaim := { program := "ytgnlikamelfmjaa", sum := "5d9680e82437a0af025b6ca0e0ca73f51fc3745c4c7094201f82cd6ce0e0f8ae", func := "loop.example/g01081/laws.FnExactIsConnected", spec := "fnExactIsConnected", unfollowed := true, recurses := true, plainKeys := false, apart := false, narrowed := true }
def FnExactIsConnectedUptoSaid : Prop := fnExactIsConnectedUptoRow.holds Try.pinned (OpenSpec.upto fnExactIsConnectedSpec)

/-- 'laws.FnExactTotalStrength', WHERE WHAT IT READS IS OF BULK AT MOST 1048576: true; the input reads as it did. -/
def fnExactTotalStrengthUptoRow : OpenClaim := { program := "ytgnlikamelfmjaa", sum := "5d9680e82437a0af025b6ca0e0ca73f51fc3745c4c7094201f82cd6ce0e0f8ae", func := "loop.example/g01081/laws.FnExactTotalStrength", spec := "fnExactTotalStrength", unfollowed := true, recurses := true, plainKeys := false, apart := false, narrowed := true }
def FnExactTotalStrengthUptoSaid : Prop := fnExactTotalStrengthUptoRow.holds Try.pinned (OpenSpec.upto fnExactTotalStrengthSpec)

/-- 'laws.FnExactJoinAssemblies', WHERE WHAT IT READS IS OF BULK AT MOST 1048576: true; the input reads as it did. -/
def fnExactJoinAssembliesUptoRow : OpenClaim := { program := "ytgnlikamelfmjaa", sum := "5d9680e82437a0af025b6ca0e0ca73f51fc3745c4c7094201f82cd6ce0e0f8ae", func := "loop.example/g01081/laws.FnExactJoinAssemblies", spec := "fnExactJoinAssemblies", unfollowed := true, recurses := true, plainKeys := false, apart := false, narrowed := true }
def FnExactJoinAssembliesUptoSaid : Prop := fnExactJoinAssembliesUptoRow.holds Try.pinned (OpenSpec.upto fnExactJoinAssembliesSpec)

/-- 'laws.FnJoined', WHERE WHAT IT READS IS OF BULK AT MOST 1048576: true; the input reads as it did. -/
def fnJoinedUptoRow : OpenClaim := { program := "ytgnlikamelfmjaa", sum := "5d9680e82437a0af025b6ca0e0ca73f51fc3745c4c7094201f82cd6ce0e0f8ae", func := "loop.example/g01081/laws.FnJoined", spec := "fnJoined", unfollowed := true, recurses := true, plainKeys := false, apart := false, narrowed := true }
def FnJoinedUptoSaid : Prop := fnJoinedUptoRow.holds Try.pinned (OpenSpec.upto fnJoinedSpec)

end Rows
end Go.Proofs.Ytgnlikamelfmjaa
