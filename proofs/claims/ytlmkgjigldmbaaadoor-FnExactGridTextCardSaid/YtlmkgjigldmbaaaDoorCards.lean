/-
  DERIVED. GIVEN WITH THE SEED: THE CARDS: each row of YtlmkgjigldmbaaaDoorRows.lean that lists a variable, with what it lists TIED to the program's text (the seventh form; the later family's looks); each row that meets fmt, with fmt's text TOLD by the authors' own Lean function (tested against real Go, not proved from fmt's source: count such statements apart). THE CARD IS WHAT COUNTS. Prove the row's statement (the work); the ties are given (YtlmkgjigldmbaaaDoorTie.lean); close each card by the builder's one call (the guide's Derived/Test/ToyasCard.lean, 'card_holds'). Laid BY PROGRAM, IN A SANDBOX (cutbox-door.mjs). By AI agents, Wed Nov 11 2026. No macro, syntax, notation, axiom, sorry.
-/
import Derived.Test.YtlmkgjigldmbaaaDoorRows
import GoSem.ClaimSeven
namespace Go.Proofs.YtlmkgjigldmbaaaDoor
namespace Rows

/-- THE TIED CARD OF 'laws.FnExactProofText'. -/
def fnExactProofTextCard : Claim7 := { stood := { row := fnExactProofTextRow, standIns := [], harness := (true, "710847b2902a423a0cf23cc542035665425802944dc51fc9406eb3f55a1bb120"), looks := false }, kinds := [], alts := [], laidByText := true, laidKinds := [.data, .data, .data], laidTests := true, laidLooks := .later }
def FnExactProofTextCardSaid : Prop := Claim7.holds Tryd.pinned (.plain (OpenSpec.ofChange fnExactProofTextSpec)) fnExactProofTextCard

/-- THE TIED CARD OF 'laws.FnExactGridText'. -/
def fnExactGridTextCard : Claim7 := { stood := { row := fnExactGridTextRow, standIns := [], harness := (true, "710847b2902a423a0cf23cc542035665425802944dc51fc9406eb3f55a1bb120"), looks := false }, kinds := [], alts := [], laidByText := true, laidKinds := [.data, .data, .data], laidTests := true, laidLooks := .later }
def FnExactGridTextCardSaid : Prop := Claim7.holds Tryd.pinned (.plain (OpenSpec.ofChange fnExactGridTextSpec)) fnExactGridTextCard

/-- THE SECOND FORM's CARD OF 'laws.FnExactProofText'. -/
def fnExactProofTextUptoCard : Claim7 := { stood := { row := fnExactProofTextUptoRow, standIns := [], harness := (true, "710847b2902a423a0cf23cc542035665425802944dc51fc9406eb3f55a1bb120"), looks := false }, kinds := [], alts := [], laidByText := true, laidKinds := [.data, .data, .data], laidTests := true, laidLooks := .later }
def FnExactProofTextUptoCardSaid : Prop := Claim7.holds Tryd.pinned (.plain (OpenSpec.upto fnExactProofTextSpec)) fnExactProofTextUptoCard

/-- THE SECOND FORM's CARD OF 'laws.FnExactGridText'. -/
def fnExactGridTextUptoCard : Claim7 := { stood := { row := fnExactGridTextUptoRow, standIns := [], harness := (true, "710847b2902a423a0cf23cc542035665425802944dc51fc9406eb3f55a1bb120"), looks := false }, kinds := [], alts := [], laidByText := true, laidKinds := [.data, .data, .data], laidTests := true, laidLooks := .later }
def FnExactGridTextUptoCardSaid : Prop := Claim7.holds Tryd.pinned (.plain (OpenSpec.upto fnExactGridTextSpec)) fnExactGridTextUptoCard
end Rows
end Go.Proofs.YtlmkgjigldmbaaaDoor
