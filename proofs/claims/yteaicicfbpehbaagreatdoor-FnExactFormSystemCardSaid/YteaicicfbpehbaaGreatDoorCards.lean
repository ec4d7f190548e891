/-
  DERIVED. GIVEN WITH THE SEED: THE CARDS: each row of YteaicicfbpehbaaGreatDoorRows.lean that lists a variable, with what it lists TIED to the program's text (the seventh form; the later family's looks); each row that meets fmt, with fmt's text TOLD by the authors' own Lean function (tested against real Go, not proved from fmt's source: count such statements apart). THE CARD IS WHAT COUNTS. Prove the row's statement (the work); the ties are given (YteaicicfbpehbaaGreatDoorTie.lean); close each card by the builder's one call (the guide's Derived/Test/ToyasCard.lean, 'card_holds'). Laid BY PROGRAM, IN A SANDBOX (cutbox-door.mjs). By AI agents, Wed Nov 11 2026. No macro, syntax, notation, axiom, sorry.
-/
import Derived.Test.YteaicicfbpehbaaGreatDoorRows
import GoSem.ClaimSeven
namespace Go.Proofs.YteaicicfbpehbaaGreatDoor
namespace Rows

/-- THE TIED CARD OF 'laws.FnExactFormSystem'. -/
def fnExactFormSystemCard : Claim7 := { stood := { row := fnExactFormSystemRow, standIns := [], harness := (true, "acc7056796eefbcb383f53073b2512b1fd3dafe0c351e4918f561b8c85d2c2fa"), looks := false }, kinds := [], alts := [], laidByText := true, laidKinds := [.data, .data, .data], laidTests := true, laidLooks := .later }
def FnExactFormSystemCardSaid : Prop := Claim7.holds Tryz.pinned (.plain (OpenSpec.ofChange fnExactFormSystemSpec)) fnExactFormSystemCard

/-- THE SECOND FORM's CARD OF 'laws.FnExactFormSystem'. -/
def fnExactFormSystemUptoCard : Claim7 := { stood := { row := fnExactFormSystemUptoRow, standIns := [], harness := (true, "acc7056796eefbcb383f53073b2512b1fd3dafe0c351e4918f561b8c85d2c2fa"), looks := false }, kinds := [], alts := [], laidByText := true, laidKinds := [.data, .data, .data], laidTests := true, laidLooks := .later }
def FnExactFormSystemUptoCardSaid : Prop := Claim7.holds Tryz.pinned (.plain (OpenSpec.upto fnExactFormSystemSpec)) fnExactFormSystemUptoCard
end Rows
end Go.Proofs.YteaicicfbpehbaaGreatDoor
