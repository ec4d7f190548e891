/-
  No cell of these rows narrows 'for every input' (looked for: loops, veiled, ifaces, maps, wideKeys, modest, calm, conditions, laid).
  DERIVED. THE GIVEN ROWS OF THIS SEAT. 12 by the template 'for every input the law returns true; each argument reads behind the call as it read before'; 0 by the template 'total and deterministic' (their statements: YtlfgkhjibhfopaaTotals.lean).
  GIVEN WITH THE SEED: the statements are not yours to turn. If you find one false, say at which input.
  Laid BY PROGRAM, IN A SANDBOX (cutbox-rows.mjs): the forced cells as the released guide's own fill.sh prints them over the translation c773941bd71fca60… (all of the seat's roots in one cut). By AI agents, Wed Nov 11 2026. No macro, syntax, notation, axiom, sorry.
-/
import Derived.Test.YtlfgkhjibhfopaaChecked
import GoSem.Claim
import GoSem.ClaimJoined
import GoSem.ClaimMapViews
import Derived.JoinedTies
import Derived.KernelRfl
namespace Go.Proofs.Ytlfgkhjibhfopaa
/- THE CELL 'sum', in the pinned program and in every row, IS THE sha256 OF THE DUMP (.gsa) THAT YtlfgkhjibhfopaaProg.lean LOADS. Nothing in Lean hashes anything: it is a label: what it is worth is what the hold of that sum in a sandbox is worth. -/
noncomputable def Try.pinned : Pinned := { name := "ytlfgkhjibhfopaa", sum := "c773941bd71fca609add39d3381082594fd89d8436d287786e1d2401c4076066", checked := Try.checked }
namespace Rows
def none {H : Type} : Left H := { results := [], args := [] }

/-- 'laws.FnExactDominates': WHATEVER THE INPUT: true; the input reads as it did. -/
def fnExactDominatesSpec : ChangeSpec := { name := "fnExactDominates", fn := fun _ => fun
  | [d1, d2] => { results := [.lit (.bool true)], args := [d1, d2] }
  | _ => none }
def fnExactDominatesRow : OpenClaim := { program := "ytlfgkhjibhfopaa", sum := "c773941bd71fca609add39d3381082594fd89d8436d287786e1d2401c4076066", func := "loop.example/g01081/laws.FnExactDominates", spec := "fnExactDominates", apart := false }
def FnExactDominatesSaid : Prop := fnExactDominatesRow.holds Try.pinned (OpenSpec.ofChange fnExactDominatesSpec)

/-- ITS FALSE NEIGHBOUR: 'it returns false'. Refute it at one input. -/
def fnExactDominatesWrong : ChangeSpec := { name := "fnExactDominates", fn := fun _ => fun
  | [d1, d2] => { results := [.lit (.bool false)], args := [d1, d2] }
  | _ => none }
def FnExactDominatesWrongFalsely : Prop := fnExactDominatesRow.holds Try.pinned (OpenSpec.ofChange fnExactDominatesWrong)

/-- 'laws.FnExactChecksumOf': WHATEVER THE INPUT: true; the input reads as it did. -/
def fnExactChecksumOfSpec : ChangeSpec := { name := "fnExactChecksumOf", fn := fun _ => fun
  | [d] => { results := [.lit (.bool true)], args := [d] }
  | _ => none }
def fnExactChecksumOfRow : OpenClaim := { program := "ytlfgkhjibhfopaa", sum := "c773941bd71fca609add39d3381082594fd89d8436d287786e1d2401c4076066", func := "loop.example/g01081/laws.FnExactChecksumOf", spec := "fnExactChecksumOf", apart := false }
def FnExactChecksumOfSaid : Prop := fnExactChecksumOfRow.holds Try.pinned (OpenSpec.ofChange fnExactChecksumOfSpec)

/-- ITS FALSE NEIGHBOUR: 'it returns false'. Refute it at one input. -/
def fnExactChecksumOfWrong : ChangeSpec := { name := "fnExactChecksumOf", fn := fun _ => fun
  | [d] => { results := [.lit (.bool false)], args := [d] }
  | _ => none }
def FnExactChecksumOfWrongFalsely : Prop := fnExactChecksumOfRow.holds Try.pinned (OpenSpec.ofChange fnExactChecksumOfWrong)

/-- 'laws.FnExactDirBetween': WHATEVER THE INPUT: true; the input reads as it did. -/
def fnExactDirBetweenSpec : ChangeSpec := { name := "fnExactDirBetween", fn := fun _ => fun
  | [d1, d2] => { results := [.lit (.bool true)], args := [d1, d2] }
  | _ => none }
def fnExactDirBetweenRow : OpenClaim := { program := "ytlfgkhjibhfopaa", sum := "c773941bd71fca609add39d3381082594fd89d8436d287786e1d2401c4076066", func := "loop.example/g01081/laws.FnExactDirBetween", spec := "fnExactDirBetween", apart := false }
def FnExactDirBetweenSaid : Prop := fnExactDirBetweenRow.holds Try.pinned (OpenSpec.ofChange fnExactDirBetweenSpec)

/-- ITS FALSE NEIGHBOUR: 'it returns false'. Refute it at one input. -/
def fnExactDirBetweenWrong : ChangeSpec := { name := "fnExactDirBetween", fn := fun _ => fun
  | [d1, d2] => { results := [.lit (.bool false)], args := [d1, d2] }
  | _ => none }
def FnExactDirBetweenWrongFalsely : Prop := fnExactDirBetweenRow.holds Try.pinned (OpenSpec.ofChange fnExactDirBetweenWrong)

/-- 'laws.FnExactStepPoint': WHATEVER THE INPUT: true; the input reads as it did. -/
def fnExactStepPointSpec : ChangeSpec := { name := "fnExactStepPoint", fn := fun _ => fun
  | [d1, d2] => { results := [.lit (.bool true)], args := [d1, d2] }
  | _ => none }
def fnExactStepPointRow : OpenClaim := { program := "ytlfgkhjibhfopaa", sum := "c773941bd71fca609add39d3381082594fd89d8436d287786e1d2401c4076066", func := "loop.example/g01081/laws.FnExactStepPoint", spec := "fnExactStepPoint", apart := false }
def FnExactStepPointSaid : Prop := fnExactStepPointRow.holds Try.pinned (OpenSpec.ofChange fnExactStepPointSpec)

/-- ITS FALSE NEIGHBOUR: 'it returns false'. Refute it at one input. -/
def fnExactStepPointWrong : ChangeSpec := { name := "fnExactStepPoint", fn := fun _ => fun
  | [d1, d2] => { results := [.lit (.bool false)], args := [d1, d2] }
  | _ => none }
def FnExactStepPointWrongFalsely : Prop := fnExactStepPointRow.holds Try.pinned (OpenSpec.ofChange fnExactStepPointWrong)

/-- 'laws.FnExactNewStore': WHATEVER THE INPUT: true; the input reads as it did. -/
def fnExactNewStoreSpec : ChangeSpec := { name := "fnExactNewStore", fn := fun _ => fun
  | [] => { results := [.lit (.bool true)], args := [] }
  | _ => none }
def fnExactNewStoreRow : OpenClaim := { program := "ytlfgkhjibhfopaa", sum := "c773941bd71fca609add39d3381082594fd89d8436d287786e1d2401c4076066", func := "loop.example/g01081/laws.FnExactNewStore", spec := "fnExactNewStore", apart := false }
def FnExactNewStoreSaid : Prop := fnExactNewStoreRow.holds Try.pinned (OpenSpec.ofChange fnExactNewStoreSpec)

/-- ITS FALSE NEIGHBOUR: 'it returns false'. Refute it at one input. -/
def fnExactNewStoreWrong : ChangeSpec := { name := "fnExactNewStore", fn := fun _ => fun
  | [] => { results := [.lit (.bool false)], args := [] }
  | _ => none }
def FnExactNewStoreWrongFalsely : Prop := fnExactNewStoreRow.holds Try.pinned (OpenSpec.ofChange fnExactNewStoreWrong)

/-- 'laws.FnBest': WHATEVER THE INPUT: true; the input reads as it did. -/
def fnBestSpec : ChangeSpec := { name := "fnBest", fn := fun _ => fun
  | [d] => { results := [.lit (.bool true)], args := [d] }
  | _ => none }
def fnBestRow : OpenClaim := { program := "ytlfgkhjibhfopaa", sum := "c773941bd71fca609add39d3381082594fd89d8436d287786e1d2401c4076066", func := "loop.example/g01081/laws.FnBest", spec := "fnBest", unfollowed := true, recurses := true, apart := false }
def FnBestSaid : Prop := fnBestRow.holds Try.pinned (OpenSpec.ofChange fnBestSpec)

/-- ITS FALSE NEIGHBOUR: 'it returns false'. Refute it at one input. -/
def fnBestWrong : ChangeSpec := { name := "fnBest", fn := fun _ => fun
  | [d] => { results := [.lit (.bool false)], args := [d] }
  | _ => none }
def FnBestWrongFalsely : Prop := fnBestRow.holds Try.pinned (OpenSpec.ofChange fnBestWrong)

/-- 'laws.FnExactValidStore': WHATEVER THE INPUT: true; the input reads as it did. -/
def fnExactValidStoreSpec : ChangeSpec := { name := "fnExactValidStore", fn := fun _ => fun
  | [d] => { results := [.lit (.bool true)], args := [d] }
  | _ => none }
def fnExactValidStoreRow : OpenClaim := { program := "ytlfgkhjibhfopaa", sum := "c773941bd71fca609add39d3381082594fd89d8436d287786e1d2401c4076066", func := "loop.example/g01081/laws.FnExactValidStore", spec := "fnExactValidStore", unfollowed := true, recurses := true, apart := false }
def FnExactValidStoreSaid : Prop := fnExactValidStoreRow.holds Try.pinned (OpenSpec.ofChange fnExactValidStoreSpec)

/-- ITS FALSE NEIGHBOUR: 'it returns false'. Refute it at one input. -/
def fnExactValidStoreWrong : ChangeSpec := { name := "fnExactValidStore", fn := fun _ => fun
  | [d] => { results := [.lit (.bool false)], args := [d] }
  | _ => none }
def FnExactValidStoreWrongFalsely : Prop := fnExactValidStoreRow.holds Try.pinned (OpenSpec.ofChange fnExactValidStoreWrong)

/-- 'laws.FnExactSameStore': WHATEVER THE INPUT: true; the input reads as it did. -/
def fnExactSameStoreSpec : ChangeSpec := { name := "fnExactSameStore", fn := fun _ => fun
  | [d1, d2] => { results := [.lit (.bool true)], args := [d1, d2] }
  | _ => none }
def fnExactSameStoreRow : OpenClaim := { program := "ytlfgkhjibhfopaa", sum := "c773941bd71fca609add39d3381082594fd89d8436d287786e1d2401c4076066", func := "loop.example/g01081/laws.FnExactSameStore", spec := "fnExactSameStore", unfollowed := true, recurses := true, apart := false }
def FnExactSameStoreSaid : Prop := fnExactSameStoreRow.holds Try.pinned (OpenSpec.ofChange fnExactSameStoreSpec)

/-- ITS FALSE NEIGHBOUR: 'it returns false'. Refute it at one input. -/
def fnExactSameStoreWrong : ChangeSpec := { name := "fnExactSameStore", fn := fun _ => fun
  | [d1, d2] => { results := [.lit (.bool false)], args := [d1, d2] }
  | _ => none }
def FnExactSameStoreWrongFalsely : Prop := fnExactSameStoreRow.holds Try.pinned (OpenSpec.ofChange fnExactSameStoreWrong)

/-- 'laws.FnExactTransposePattern': WHATEVER THE INPUT: true; the input reads as it did. -/
def fnExactTransposePatternSpec : ChangeSpec := { name := "fnExactTransposePattern", fn := fun _ => fun
  | [d] => { results := [.lit (.bool true)], args := [d] }
  | _ => none }
def fnExactTransposePatternRow : OpenClaim := { program := "ytlfgkhjibhfopaa", sum := "c773941bd71fca609add39d3381082594fd89d8436d287786e1d2401c4076066", func := "loop.example/g01081/laws.FnExactTransposePattern", spec := "fnExactTransposePattern", unfollowed := true, recurses := true, apart := false }
def FnExactTransposePatternSaid : Prop := fnExactTransposePatternRow.holds Try.pinned (OpenSpec.ofChange fnExactTransposePatternSpec)

/-- ITS FALSE NEIGHBOUR: 'it returns false'. Refute it at one input. -/
def fnExactTransposePatternWrong : ChangeSpec := { name := "fnExactTransposePattern", fn := fun _ => fun
  | [d] => { results := [.lit (.bool false)], args := [d] }
  | _ => none }
def FnExactTransposePatternWrongFalsely : Prop := fnExactTransposePatternRow.holds Try.pinned (OpenSpec.ofChange fnExactTransposePatternWrong)

/-- 'laws.FnExactSameDesign': WHATEVER THE INPUT: true; the input reads as it did. -/
def fnExactSameDesignSpec : ChangeSpec := { name := "fnExactSameDesign", fn := fun _ => fun
  | [d1, d2] => { results := [.lit (.bool true)], args := [d1, d2] }
  | _ => none }
def fnExactSameDesignRow : OpenClaim := { program := "ytlfgkhjibhfopaa", sum := "c773941bd71fca609add39d3381082594fd89d8436d287786e1d2401c4076066", func := "loop.example/g01081/laws.FnExactSameDesign", spec := "fnExactSameDesign", apart := false }
def FnExactSameDesignSaid : Prop := fnExactSameDesignRow.holds Try.pinned (OpenSpec.ofChange fnExactSameDesignSpec)

/-- ITS FALSE NEIGHBOUR: 'it returns false'. Refute it at one input. -/
def fnExactSameDesignWrong : ChangeSpec := { name := "fnExactSameDesign", fn := fun _ => fun
  | [d1, d2] => { results := [.lit (.bool false)], args := [d1, d2] }
  | _ => none }
def FnExactSameDesignWrongFalsely : Prop := fnExactSameDesignRow.holds Try.pinned (OpenSpec.ofChange fnExactSameDesignWrong)

/-- 'laws.FnExactBestMeasures': WHATEVER THE INPUT: true; the input reads as it did. -/
def fnExactBestMeasuresSpec : ChangeSpec := { name := "fnExactBestMeasures", fn := fun _ => fun
  | [d] => { results := [.lit (.bool true)], args := [d] }
  | _ => none }
def fnExactBestMeasuresRow : OpenClaim := { program := "ytlfgkhjibhfopaa", sum := "c773941bd71fca609add39d3381082594fd89d8436d287786e1d2401c4076066", func := "loop.example/g01081/laws.FnExactBestMeasures", spec := "fnExactBestMeasures", unfollowed := true, recurses := true, apart := false }
def FnExactBestMeasuresSaid : Prop := fnExactBestMeasuresRow.holds Try.pinned (OpenSpec.ofChange fnExactBestMeasuresSpec)

/-- ITS FALSE NEIGHBOUR: 'it returns false'. Refute it at one input. -/
def fnExactBestMeasuresWrong : ChangeSpec := { name := "fnExactBestMeasures", fn := fun _ => fun
  | [d] => { results := [.lit (.bool false)], args := [d] }
  | _ => none }
def FnExactBestMeasuresWrongFalsely : Prop := fnExactBestMeasuresRow.holds Try.pinned (OpenSpec.ofChange fnExactBestMeasuresWrong)

/-- 'laws.FnExactSyncStore': WHATEVER THE INPUT: true; the input reads as it did. -/
def fnExactSyncStoreSpec : ChangeSpec := { name := "fnExactSyncStore", fn := fun _ => fun
  | [d] => { results := [.lit (.bool true)], args := [d] }
  | _ => none }
def fnExactSyncStoreRow : OpenClaim := { program := "ytlfgkhjibhfopaa", sum := "c773941bd71fca609add39d3381082594fd89d8436d287786e1d2401c4076066", func := "loop.example/g01081/laws.FnExactSyncStore", spec := "fnExactSyncStore", unfollowed := true, recurses := true, apart := false }
def FnExactSyncStoreSaid : Prop := fnExactSyncStoreRow.holds Try.pinned (OpenSpec.ofChange fnExactSyncStoreSpec)

/-- ITS FALSE NEIGHBOUR: 'it returns false'. Refute it at one input. -/
def fnExactSyncStoreWrong : ChangeSpec := { name := "fnExactSyncStore", fn := fun _ => fun
  | [d] => { results := [.lit (.bool false)], args := [d] }
  | _ => none }
def FnExactSyncStoreWrongFalsely : Prop := fnExactSyncStoreRow.holds Try.pinned (OpenSpec.ofChange fnExactSyncStoreWrong)

/- THE SECOND FORM. 'bulk': how many values and letters a reading holds, each counted each time it is reached (what is shared counts as often as it is met; a slice's spare places count too). A statement '..UptoSaid' is the law's where the arguments, and the package variables that the reading takes, are together of bulk at most 1048576: NARROWER than '..Said'. Prove '..Said' where nothing that the law and all that it calls make is longer than what came in: it says more and counts as full. Else prove '..UptoSaid'. A law counts once. -/
mutual
def uptoBulk {H : Type} : DataW H → Nat
  | .lit (.string bytes) => bytes.length + 1
  | .lit _ => 1
  | .nil => 1
  | .ptr d => uptoBulk d + 1
  | .slice elems spare => uptoBulkAll elems + uptoBulkAll spare + 1
  | .agg parts => uptoBulkAll parts + 1
  | .iface _ d => uptoBulk d + 1
  | .map entries => uptoBulkEntries entries + 1
  | .held _ => 1
def uptoBulkAll {H : Type} : List (DataW H) → Nat
  | [] => 0
  | d :: r => uptoBulk d + uptoBulkAll r
def uptoBulkEntries {H : Type} : List (Lit × DataW H) → Nat
  | [] => 0
  | x :: r => uptoBulkEntry x + uptoBulkEntries r
def uptoBulkEntry {H : Type} : Lit × DataW H → Nat
  | (.string bytes, d) => bytes.length + uptoBulk d + 1
  | (_, d) => uptoBulk d + 1
 end
def uptoSmall : (H : Type) → List (DataW H) → Bool := fun _ ds => decide (uptoBulkAll ds ≤ 1048576)
def OpenSpec.upto (s : _root_.Go.ChangeSpec) : _root_.Go.OpenSpec := { _root_.Go.OpenSpec.ofChange s with cond := some uptoSmall }

/-- 'laws.FnExactDominates', WHERE WHAT IT READS IS OF BULK AT MOST 1048576: true; the input reads as it did. -/
def fnExactDominatesUptoRow : OpenClaim := { program := "ytlfgkhjibhfopaa", sum := "c773941bd71fca609add39d3381082594fd89d8436d287786e1d2401c4076066", func := "loop.example/g01081/laws.FnExactDominates", spec := "fnExactDominates", apart := false, narrowed := true }
def FnExactDominatesUptoSaid : Prop := fnExactDominatesUptoRow.holds Try.pinned (OpenSpec.upto fnExactDominatesSpec)

/-- 'laws.FnExactChecksumOf', WHERE WHAT IT READS IS OF BULK AT MOST 1048576: true; the input reads as it did. -/
def fnExactChecksumOfUptoRow : OpenClaim := { program := "ytlfgkhjibhfopaa", sum := "c773941bd71fca609add39d3381082594fd89d8436d287786e1d2401c4076066", func := "loop.example/g01081/laws.FnExactChecksumOf", spec := "fnExactChecksumOf", apart := false, narrowed := true }
def FnExactChecksumOfUptoSaid : Prop := fnExactChecksumOfUptoRow.holds Try.pinned (OpenSpec.upto fnExactChecksumOfSpec)

/-- 'laws.FnExactDirBetween', WHERE WHAT IT READS IS OF BULK AT MOST 1048576: true; the input reads as it did. -/
def fnExactDirBetweenUptoRow : OpenClaim := { program := "ytlfgkhjibhfopaa", sum := "c773941bd71fca609add39d3381082594fd89d8436d287786e1d2401c4076066", func := "loop.example/g01081/laws.FnExactDirBetween", spec := "fnExactDirBetween", apart := false, narrowed := true }
def FnExactDirBetweenUptoSaid : Prop := fnExactDirBetweenUptoRow.holds Try.pinned (OpenSpec.upto fnExactDirBetweenSpec)

/-- 'laws.FnExactStepPoint', WHERE WHAT IT READS IS OF BULK AT MOST 1048576: true; the input reads as it did. -/
def fnExactStepPointUptoRow : OpenClaim := { program := "ytlfgkhjibhfopaa", sum := "c773941bd71fca609add39d3381082594fd89d8436d287786e1d2401c4076066", func := "loop.example/g01081/laws.FnExactStepPoint", spec := "fnExactStepPoint", apart := false, narrowed := true }
def FnExactStepPointUptoSaid : Prop := fnExactStepPointUptoRow.holds Try.pinned (OpenSpec.upto fnExactStepPointSpec)

/-- 'laws.FnExactNewStore', WHERE WHAT IT READS IS OF BULK AT MOST 1048576: true; the input reads as it did. -/
def fnExactNewStoreUptoRow : OpenClaim := { program := "ytlfgkhjibhfopaa", sum := "c773941bd71fca609add39d3381082594fd89d8436d287786e1d2401c4076066", func := "loop.example/g01081/laws.FnExactNewStore", spec := "fnExactNewStore", apart := false, narrowed := true }
def FnExactNewStoreUptoSaid : Prop := fnExactNewStoreUptoRow.holds Try.pinned (OpenSpec.upto fnExactNewStoreSpec)

/-- 'laws.FnBest', WHERE WHAT IT READS IS OF BULK AT MOST 1048576: true; the input reads as it did. -/
def fnBestUptoRow : OpenClaim := { program := "ytlfgkhjibhfopaa", sum := "c773941bd71fca609add39d3381082594fd89d8436d287786e1d2401c4076066", func := "loop.example/g01081/laws.FnBest", spec := "fnBest", unfollowed := true, recurses := true, apart := false, narrowed := true }
def FnBestUptoSaid : Prop := fnBestUptoRow.holds Try.pinned (OpenSpec.upto fnBestSpec)

/-- 'laws.FnExactValidStore', WHERE WHAT IT READS IS OF BULK AT MOST 1048576: true; the input reads as it did. -/
def fnExactValidStoreUptoRow : OpenClaim := { program := "ytlfgkhjibhfopaa", sum := "c773941bd71fca609add39d3381082594fd89d8436d287786e1d2401c4076066", func := "loop.example/g01081/laws.FnExactValidStore", spec := "fnExactValidStore", unfollowed := true, recurses := true, apart := false, narrowed := true }
def FnExactValidStoreUptoSaid : Prop := fnExactValidStoreUptoRow.holds Try.pinned (OpenSpec.upto fnExactValidStoreSpec)

/-- 'laws.FnExactSameStore', WHERE WHAT IT READS IS OF BULK AT MOST 1048576: true; the input reads as it did. -/
def fnExactSameStoreUptoRow : OpenClaim := { program := "ytlfgkhjibhfopaa", sum := "c773941bd71fca609add39d3381082594fd89d8436d287786e1d2401c4076066", func := "loop.example/g01081/laws.FnExactSameStore", spec := "fnExactSameStore", unfollowed := true, recurses := true, apart := false, narrowed := true }
def FnExactSameStoreUptoSaid : Prop := fnExactSameStoreUptoRow.holds Try.pinned (OpenSpec.upto fnExactSameStoreSpec)

/-- 'laws.FnExactTransposePattern', WHERE WHAT IT READS IS OF BULK AT MOST 1048576: true; the input reads as it did. -/
def fnExactTransposePatternUptoRow : OpenClaim := { program := "ytlfgkhjibhfopaa", sum := "c773941bd71fca609add39d3381082594fd89d8436d287786e1d2401c4076066", func := "loop.example/g01081/laws.FnExactTransposePattern", spec := "fnExactTransposePattern", unfollowed := true, recurses := true, apart := false, narrowed := true }
def FnExactTransposePatternUptoSaid : Prop := fnExactTransposePatternUptoRow.holds Try.pinned (OpenSpec.upto fnExactTransposePatternSpec)

/-- 'laws.FnExactSameDesign', WHERE WHAT IT READS IS OF BULK AT MOST 1048576: true; the input reads as it did. -/
def fnExactSameDesignUptoRow : OpenClaim := { program := "ytlfgkhjibhfopaa", sum := "c773941bd71fca609add39d3381082594fd89d8436d287786e1d2401c4076066", func := "loop.example/g01081/laws.FnExactSameDesign", spec := "fnExactSameDesign", apart := false, narrowed := true }
def FnExactSameDesignUptoSaid : Prop := fnExactSameDesignUptoRow.holds Try.pinned (OpenSpec.upto fnExactSameDesignSpec)

/-- 'laws.FnExactBestMeasures', WHERE WHAT IT READS IS OF BULK AT MOST 1048576: true; the input reads as it did. -/
def fnExactBestMeasuresUptoRow : OpenClaim := { program := "ytlfgkhjibhfopaa", sum := "c773941bd71fca609add39d3381082594fd89d8436d287786e1d2401c4076066", func := "loop.example/g01081/laws.FnExactBestMeasures", spec := "fnExactBestMeasures", unfollowed := true, recurses := true, apart := false, narrowed := true }
def FnExactBestMeasuresUptoSaid : Prop := fnExactBestMeasuresUptoRow.holds Try.pinned (OpenSpec.upto fnExactBestMeasuresSpec)

/-- 'laws.FnExactSyncStore', WHERE WHAT IT READS IS OF BULK AT MOST 1048576: true; the input reads as it did. -/
def fnExactSyncStoreUptoRow : OpenClaim := { program := "ytlfgkhjibhfopaa", sum := "c773941bd71fca609add39d3381082594fd89d8436d287786e1d2401c4076066", func := "loop.example/g01081/laws.FnExactSyncStore", spec := "fnExactSyncStore", unfollowed := true, recurses := true, apart := false, narrowed := true }
def FnExactSyncStoreUptoSaid : Prop := fnExactSyncStoreUptoRow.holds Try.pinned (OpenSpec.upto fnExactSyncStoreSpec)

end Rows
end Go.Proofs.Ytlfgkhjibhfopaa
