/-
  DERIVED. GIVEN WITH THE SEED: THE CARDS: each row of YtdlchnlpmofpmaaGreatDoorRows.lean that lists a variable, with what it lists TIED to the program's text (the seventh form; the later family's looks); each row that meets fmt, with fmt's text TOLD by the authors' own Lean function (tested against real Go, not proved from fmt's source: count such statements apart). THE CARD IS WHAT COUNTS. Prove the row's statement (the work); the ties are given (YtdlchnlpmofpmaaGreatDoorTie.lean); close each card by the builder's one call (the guide's Derived/Test/ToyasCard.lean, 'card_holds'). Laid BY PROGRAM, IN A SANDBOX (cutbox-door.mjs). By AI agents, Wed Nov 11 2026. No macro, syntax, notation, axiom, sorry.
-/
import Derived.Test.YtdlchnlpmofpmaaGreatDoorRows
import GoSem.ClaimSeven
namespace Go.Proofs.YtdlchnlpmofpmaaGreatDoor
namespace Rows

/-- THE TIED CARD OF 'laws.FnExactReadAssembly'. -/
def fnExactReadAssemblyCard : Claim7 := { stood := { row := fnExactReadAssemblyRow, standIns := [], harness := (true, "04c31df05d98b80d100f3ee0d768b604673bccf29238650f22f05eed11464eec"), looks := true }, kinds := [], alts := [], laidByText := true, laidKinds := [.data, .data, .data, .handle, .sentinel, .sentinel], laidTests := true, laidLooks := .later }
def FnExactReadAssemblyCardSaid : Prop := Claim7.holds Tryz.pinned (.plain (OpenSpec.ofChange fnExactReadAssemblySpec)) fnExactReadAssemblyCard

/-- THE SECOND FORM's CARD OF 'laws.FnExactReadAssembly'. -/
def fnExactReadAssemblyUptoCard : Claim7 := { stood := { row := fnExactReadAssemblyUptoRow, standIns := [], harness := (true, "04c31df05d98b80d100f3ee0d768b604673bccf29238650f22f05eed11464eec"), looks := true }, kinds := [], alts := [], laidByText := true, laidKinds := [.data, .data, .data, .handle, .sentinel, .sentinel], laidTests := true, laidLooks := .later }
def FnExactReadAssemblyUptoCardSaid : Prop := Claim7.holds Tryz.pinned (.plain (OpenSpec.upto fnExactReadAssemblySpec)) fnExactReadAssemblyUptoCard
end Rows
end Go.Proofs.YtdlchnlpmofpmaaGreatDoor
