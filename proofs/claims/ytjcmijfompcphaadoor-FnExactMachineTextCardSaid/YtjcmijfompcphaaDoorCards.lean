/-
  DERIVED. GIVEN WITH THE SEED: THE CARDS: each row of YtjcmijfompcphaaDoorRows.lean that lists a variable, with what it lists TIED to the program's text (the seventh form; the later family's looks); each row that meets fmt, with fmt's text TOLD by the authors' own Lean function (tested against real Go, not proved from fmt's source: count such statements apart). THE CARD IS WHAT COUNTS. Prove the row's statement (the work); the ties are given (YtjcmijfompcphaaDoorTie.lean); close each card by the builder's one call (the guide's Derived/Test/ToyasCard.lean, 'card_holds'). Laid BY PROGRAM, IN A SANDBOX (cutbox-door.mjs). By AI agents, Wed Nov 11 2026. No macro, syntax, notation, axiom, sorry.
-/
import Derived.Test.YtjcmijfompcphaaDoorRows
import GoSem.ClaimSeven
namespace Go.Proofs.YtjcmijfompcphaaDoor
namespace Rows

/-- THE TIED CARD OF 'laws.FnExactMachineText'. -/
def fnExactMachineTextCard : Claim7 := { stood := { row := fnExactMachineTextRow, standIns := [], harness := (true, "024819885512ba418da51ca9820c752eec8cf31778ae6d22abbd42b8b374005a"), looks := false }, kinds := [], alts := [], laidByText := true, laidKinds := [.data, .data, .data], laidTests := true, laidLooks := .later }
def FnExactMachineTextCardSaid : Prop := Claim7.holds Tryd.pinned (.plain (OpenSpec.ofChange fnExactMachineTextSpec)) fnExactMachineTextCard

/-- THE SECOND FORM's CARD OF 'laws.FnExactMachineText'. -/
def fnExactMachineTextUptoCard : Claim7 := { stood := { row := fnExactMachineTextUptoRow, standIns := [], harness := (true, "024819885512ba418da51ca9820c752eec8cf31778ae6d22abbd42b8b374005a"), looks := false }, kinds := [], alts := [], laidByText := true, laidKinds := [.data, .data, .data], laidTests := true, laidLooks := .later }
def FnExactMachineTextUptoCardSaid : Prop := Claim7.holds Tryd.pinned (.plain (OpenSpec.upto fnExactMachineTextSpec)) fnExactMachineTextUptoCard
end Rows
end Go.Proofs.YtjcmijfompcphaaDoor
