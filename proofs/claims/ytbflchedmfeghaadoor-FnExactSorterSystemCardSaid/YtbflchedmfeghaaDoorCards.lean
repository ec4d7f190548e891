/-
  DERIVED. GIVEN WITH THE SEED: THE CARDS: each row of YtbflchedmfeghaaDoorRows.lean that lists a variable, with what it lists TIED to the program's text (the seventh form; the later family's looks); each row that meets fmt, with fmt's text TOLD by the authors' own Lean function (tested against real Go, not proved from fmt's source: count such statements apart). THE CARD IS WHAT COUNTS. Prove the row's statement (the work); the ties are given (YtbflchedmfeghaaDoorTie.lean); close each card by the builder's one call (the guide's Derived/Test/ToyasCard.lean, 'card_holds'). Laid BY PROGRAM, IN A SANDBOX (cutbox-door.mjs). By AI agents, Wed Nov 11 2026. No macro, syntax, notation, axiom, sorry.
-/
import Derived.Test.YtbflchedmfeghaaDoorRows
import GoSem.ClaimSeven
namespace Go.Proofs.YtbflchedmfeghaaDoor
namespace Rows

/-- THE TIED CARD OF 'laws.FnExactCounterSystem'. -/
def fnExactCounterSystemCard : Claim7 := { stood := { row := fnExactCounterSystemRow, standIns := [], harness := (true, "899c8d713477840a95817a544629377f9eb170d6c81a964636874c82a9e8848f"), looks := false }, kinds := [], alts := [], laidByText := true, laidKinds := [.data, .data, .data], laidTests := true, laidLooks := .later }
def FnExactCounterSystemCardSaid : Prop := Claim7.holds Tryd.pinned (.plain (OpenSpec.ofChange fnExactCounterSystemSpec)) fnExactCounterSystemCard

/-- THE TIED CARD OF 'laws.FnExactZigzagSystem'. -/
def fnExactZigzagSystemCard : Claim7 := { stood := { row := fnExactZigzagSystemRow, standIns := [], harness := (true, "899c8d713477840a95817a544629377f9eb170d6c81a964636874c82a9e8848f"), looks := false }, kinds := [], alts := [], laidByText := true, laidKinds := [.data, .data, .data], laidTests := true, laidLooks := .later }
def FnExactZigzagSystemCardSaid : Prop := Claim7.holds Tryd.pinned (.plain (OpenSpec.ofChange fnExactZigzagSystemSpec)) fnExactZigzagSystemCard

/-- THE TIED CARD OF 'laws.FnExactSorterSystem'. -/
def fnExactSorterSystemCard : Claim7 := { stood := { row := fnExactSorterSystemRow, standIns := [], harness := (true, "899c8d713477840a95817a544629377f9eb170d6c81a964636874c82a9e8848f"), looks := false }, kinds := [], alts := [], laidByText := true, laidKinds := [.data, .data, .data], laidTests := true, laidLooks := .later }
def FnExactSorterSystemCardSaid : Prop := Claim7.holds Tryd.pinned (.plain (OpenSpec.ofChange fnExactSorterSystemSpec)) fnExactSorterSystemCard

/-- THE SECOND FORM's CARD OF 'laws.FnExactCounterSystem'. -/
def fnExactCounterSystemUptoCard : Claim7 := { stood := { row := fnExactCounterSystemUptoRow, standIns := [], harness := (true, "899c8d713477840a95817a544629377f9eb170d6c81a964636874c82a9e8848f"), looks := false }, kinds := [], alts := [], laidByText := true, laidKinds := [.data, .data, .data], laidTests := true, laidLooks := .later }
def FnExactCounterSystemUptoCardSaid : Prop := Claim7.holds Tryd.pinned (.plain (OpenSpec.upto fnExactCounterSystemSpec)) fnExactCounterSystemUptoCard

/-- THE SECOND FORM's CARD OF 'laws.FnExactZigzagSystem'. -/
def fnExactZigzagSystemUptoCard : Claim7 := { stood := { row := fnExactZigzagSystemUptoRow, standIns := [], harness := (true, "899c8d713477840a95817a544629377f9eb170d6c81a964636874c82a9e8848f"), looks := false }, kinds := [], alts := [], laidByText := true, laidKinds := [.data, .data, .data], laidTests := true, laidLooks := .later }
def FnExactZigzagSystemUptoCardSaid : Prop := Claim7.holds Tryd.pinned (.plain (OpenSpec.upto fnExactZigzagSystemSpec)) fnExactZigzagSystemUptoCard

/-- THE SECOND FORM's CARD OF 'laws.FnExactSorterSystem'. -/
def fnExactSorterSystemUptoCard : Claim7 := { stood := { row := fnExactSorterSystemUptoRow, standIns := [], harness := (true, "899c8d713477840a95817a544629377f9eb170d6c81a964636874c82a9e8848f"), looks := false }, kinds := [], alts := [], laidByText := true, laidKinds := [.data, .data, .data], laidTests := true, laidLooks := .later }
def FnExactSorterSystemUptoCardSaid : Prop := Claim7.holds Tryd.pinned (.plain (OpenSpec.upto fnExactSorterSystemSpec)) fnExactSorterSystemUptoCard
end Rows
end Go.Proofs.YtbflchedmfeghaaDoor
