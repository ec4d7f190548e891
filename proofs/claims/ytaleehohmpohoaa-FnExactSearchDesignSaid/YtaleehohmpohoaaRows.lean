/-
  No cell of these rows narrows 'for every input' (looked for: loops, veiled, ifaces, maps, wideKeys, modest, calm, conditions, laid).
  DERIVED. THE GIVEN ROWS OF THIS SEAT. 4 by the template 'for every input the law returns true; each argument reads behind the call as it read before'; 0 by the template 'total and deterministic' (their statements: YtaleehohmpohoaaTotals.lean).
  GIVEN WITH THE SEED: the statements are not yours to turn. If you find one false, say at which input.
  Laid BY PROGRAM, IN A SANDBOX (cutbox-rows.mjs): the forced cells as the released guide's own fill.sh prints them over the translation b2d95506d1c09f83… (all of the seat's roots in one cut). By AI agents, Wed Nov 11 2026. No macro, syntax, notation, axiom, sorry.
-/
import Derived.Test.YtaleehohmpohoaaChecked
import GoSem.Claim
import GoSem.ClaimJoined
import GoSem.ClaimMapViews
import Derived.JoinedTies
import Derived.KernelRfl
namespace Go.Proofs.Ytaleehohmpohoaa
/- THE CELL 'sum', in the pinned program and in every row, IS THE sha256 OF THE DUMP (.gsa) THAT YtaleehohmpohoaaProg.lean LOADS. Nothing in Lean hashes anything: it is a label: what it is worth is what the hold of that sum in a sandbox is worth. -/
noncomputable def Try.pinned : Pinned := { name := "ytaleehohmpohoaa", sum := "b2d95506d1c09f8386c5eeb403233d45a99110b561a84da3eb42b56d35f65f1a", checked := Try.checked }
namespace Rows
def none {H : Type} : Left H := { results := [], args := [] }

/-- 'laws.FnExactCanonicalDesign': WHATEVER THE INPUT: true; the input reads as it did. -/
def fnExactCanonicalDesignSpec : ChangeSpec := { name := "fnExactCanonicalDesign", fn := fun _ => fun
  | [d] => { results := [.lit (.bool true)], args := [d] }
  | _ => none }
def fnExactCanonicalDesignRow : OpenClaim := { program := "ytaleehohmpohoaa", sum := "b2d95506d1c09f8386c5eeb403233d45a99110b561a84da3eb42b56d35f65f1a", func := "loop.example/g01081/laws.FnExactCanonicalDesign", spec := "fnExactCanonicalDesign", unfollowed := true, recurses := true, plainKeys := false, apart := false }
def FnExactCanonicalDesignSaid : Prop := fnExactCanonicalDesignRow.holds Try.pinned (OpenSpec.ofChange fnExactCanonicalDesignSpec)

/-- ITS FALSE NEIGHBOUR: 'it returns false'. Refute it at one input. -/
def fnExactCanonicalDesignWrong : ChangeSpec := { name := "fnExactCanonicalDesign", fn := fun _ => fun
  | [d] => { results := [.lit (.bool false)], args := [d] }
  | _ => none }
def FnExactCanonicalDesignWrongFalsely : Prop := fnExactCanonicalDesignRow.holds Try.pinned (OpenSpec.ofChange fnExactCanonicalDesignWrong)

/-- 'laws.FnExactSearchDesign': WHATEVER THE INPUT: true; the input reads as it did. -/
def fnExactSearchDesignSpec : ChangeSpec := { name := "fnExactSearchDesign", fn := fun _ => fun
  | [d1, d2, d3] => { results := [.lit (.bool true)], args := [d1, d2, d3] }
  | _ => none }
def fnExactSearchDesignRow : OpenClaim := { program := "ytaleehohmpohoaa", sum := "b2d95506d1c09f8386c5eeb403233d45a99110b561a84da3eb42b56d35f65f1a", func := "loop.example/g01081/laws.FnExactSearchDesign", spec := "fnExactSearchDesign", unfollowed := true, recurses := true, plainKeys := false, apart := false }
def FnExactSearchDesignSaid : Prop := fnExactSearchDesignRow.holds Try.pinned (OpenSpec.ofChange fnExactSearchDesignSpec)

/-- ITS FALSE NEIGHBOUR: 'it returns false'. Refute it at one input. -/
def fnExactSearchDesignWrong : ChangeSpec := { name := "fnExactSearchDesign", fn := fun _ => fun
  | [d1, d2, d3] => { results := [.lit (.bool false)], args := [d1, d2, d3] }
  | _ => none }
def FnExactSearchDesignWrongFalsely : Prop := fnExactSearchDesignRow.holds Try.pinned (OpenSpec.ofChange fnExactSearchDesignWrong)

/-- 'laws.FnMerged': WHATEVER THE INPUT: true; the input reads as it did. -/
def fnMergedSpec : ChangeSpec := { name := "fnMerged", fn := fun _ => fun
  | [d] => { results := [.lit (.bool true)], args := [d] }
  | _ => none }
def fnMergedRow : OpenClaim := { program := "ytaleehohmpohoaa", sum := "b2d95506d1c09f8386c5eeb403233d45a99110b561a84da3eb42b56d35f65f1a", func := "loop.example/g01081/laws.FnMerged", spec := "fnMerged", inPlace := ["internal/abi.NoEscape", "internal/bytealg.MakeNoZero"], unfollowed := true, recurses := true, plainKeys := false, apart := false }
def FnMergedSaid : Prop := fnMergedRow.holds Try.pinned (OpenSpec.ofChange fnMergedSpec)

/-- ITS FALSE NEIGHBOUR: 'it returns false'. Refute it at one input. -/
def fnMergedWrong : ChangeSpec := { name := "fnMerged", fn := fun _ => fun
  | [d] => { results := [.lit (.bool false)], args := [d] }
  | _ => none }
def FnMergedWrongFalsely : Prop := fnMergedRow.holds Try.pinned (OpenSpec.ofChange fnMergedWrong)

/-- 'laws.FnCanonical': WHATEVER THE INPUT: true; the input reads as it did. -/
def fnCanonicalSpec : ChangeSpec := { name := "fnCanonical", fn := fun _ => fun
  | [d] => { results := [.lit (.bool true)], args := [d] }
  | _ => none }
def fnCanonicalRow : OpenClaim := { program := "ytaleehohmpohoaa", sum := "b2d95506d1c09f8386c5eeb403233d45a99110b561a84da3eb42b56d35f65f1a", func := "loop.example/g01081/laws.FnCanonical", spec := "fnCanonical", inPlace := ["internal/abi.NoEscape", "internal/bytealg.MakeNoZero"], unfollowed := true, recurses := true, plainKeys := false, apart := false }
def FnCanonicalSaid : Prop := fnCanonicalRow.holds Try.pinned (OpenSpec.ofChange fnCanonicalSpec)

/-- ITS FALSE NEIGHBOUR: 'it returns false'. Refute it at one input. -/
def fnCanonicalWrong : ChangeSpec := { name := "fnCanonical", fn := fun _ => fun
  | [d] => { results := [.lit (.bool false)], args := [d] }
  | _ => none }
def FnCanonicalWrongFalsely : Prop := fnCanonicalRow.holds Try.pinned (OpenSpec.ofChange fnCanonicalWrong)

/- THE SECOND FORM. 'bulk': how many values and letters a reading holds, each counted each time it is reached (what is shared counts as often as it is met; a slice's spare places count too). A statement '..UptoSaid' is the law's where the arguments, and the package variables that the reading takes, are together of bulk at most 1048576: NARROWER than '..Said'. Prove '..Said' where nothing that the law and all that it calls make is longer than what came in: it says more and counts as full. Else prove '..UptoSaid'. A law counts once. -/
mutual
def uptoBulk {H : Type} : DataW H → Nat
  | .lit (.string bytes) => bytes.length + 1
  | .lit _ => 1
  | .nil => 1
  | .ptr d => uptoBulk d + 1
  | .slice elems spare => uptoBulkAll elems + uptoBulkAll spare + 1
  | .agg parts => uptoBulkAll parts + 1
  | .iface _ d => uptoBulk d + 1
  | .map entries => uptoBulkEntries entries + 1
  | .held _ => 1
def uptoBulkAll {H : Type} : List (DataW H) → Nat
  | [] => 0
  | d :: r => uptoBulk d + uptoBulkAll r
def uptoBulkEntries {H : Type} : List (Lit × DataW H) → Nat
  | [] => 0
  | x :: r => uptoBulkEntry x + uptoBulkEntries r
def uptoBulkEntry {H : Type} : Lit × DataW H → Nat
  | (.string bytes, d) => bytes.length + uptoBulk d + 1
  | (_, d) => uptoBulk d + 1
 end
def uptoSmall : (H : Type) → List (DataW H) → Bool := fun _ ds => decide (uptoBulkAll ds ≤ 1048576)
def OpenSpec.upto (s : _root_.Go.ChangeSpec) : _root_.Go.OpenSpec := { _root_.Go.OpenSpec.ofChange s with cond := some uptoSmall }

/-- 'laws.FnExactCanonicalDesign', WHERE WHAT IT READS IS OF BULK AT MOST 1048576: true; the input reads as it did. -/
def fnExactCanonicalDesignUptoRow : OpenClaim := { program := "ytaleehohmpohoaa", sum := "b2d95506d1c09f8386c5eeb403233d45a99110b561a84da3eb42b56d35f65f1a", func := "loop.example/g01081/laws.FnExactCanonicalDesign", spec := "fnExactCanonicalDesign", unfollowed := true, recurses := true, plainKeys := false, apart := false, narrowed := true }
def FnExactCanonicalDesignUptoSaid : Prop := fnExactCanonicalDesignUptoRow.holds Try.pinned (OpenSpec.upto fnExactCanonicalDesignSpec)

/-- 'laws.FnExactSearchDesign', WHERE WHAT IT READS IS OF BULK AT MOST 1048576: true; the input reads as it did. -/
def fnExactSearchDesignUptoRow : OpenClaim := { program := "ytaleehohmpohoaa", sum := "b2d95506d1c09f8386c5eeb403233d45a99110b561a84da3eb42b56d35f65f1a", func := "loop.example/g01081/laws.FnExactSearchDesign", spec := "fnExactSearchDesign", unfollowed := true, recurses := true, plainKeys := false, apart := false, narrowed := true }
def FnExactSearchDesignUptoSaid : Prop := fnExactSearchDesignUptoRow.holds Try.pinned (OpenSpec.upto fnExactSearchDesignSpec)

/-- 'laws.FnMerged', WHERE WHAT IT READS IS OF BULK AT MOST 1048576: true; the input reads as it did. -/
def fnMergedUptoRow : OpenClaim := { program := "ytaleehohmpohoaa", sum := "b2d95506d1c09f8386c5eeb403233d45a99110b561a84da3eb42b56d35f65f1a", func := "loop.example/g01081/laws.FnMerged", spec := "fnMerged", inPlace := ["internal/abi.NoEscape", "internal/bytealg.MakeNoZero"], unfollowed := true, recurses := true, plainKeys := false, apart := false, narrowed := true }
def FnMergedUptoSaid : Prop := fnMergedUptoRow.holds Try.pinned (OpenSpec.upto fnMergedSpec)

/-- 'laws.FnCanonical', WHERE WHAT IT READS IS OF BULK AT MOST 1048576: true; the input reads as it did. -/
def fnCanonicalUptoRow : OpenClaim := { program := "ytaleehohmpohoaa", sum := "b2d95506d1c09f8386c5eeb403233d45a99110b561a84da3eb42b56d35f65f1a", func := "loop.example/g01081/laws.FnCanonical", spec := "fnCanonical", inPlace := ["internal/abi.NoEscape", "internal/bytealg.MakeNoZero"], unfollowed := true, recurses := true, plainKeys := false, apart := false, narrowed := true }
def FnCanonicalUptoSaid : Prop := fnCanonicalUptoRow.holds Try.pinned (OpenSpec.upto fnCanonicalSpec)

end Rows
end Go.Proofs.Ytaleehohmpohoaa
