/-
  DERIVED. GIVEN WITH THE SEED: THE CARDS: each row of YtmaidelmbphbdaaDoorRows.lean that lists a variable, with what it lists TIED to the program's text (the seventh form; the later family's looks); each row that meets fmt, with fmt's text TOLD by the authors' own Lean function (tested against real Go, not proved from fmt's source: count such statements apart). THE CARD IS WHAT COUNTS. Prove the row's statement (the work); the ties are given (YtmaidelmbphbdaaDoorTie.lean); close each card by the builder's one call (the guide's Derived/Test/ToyasCard.lean, 'card_holds'). Laid BY PROGRAM, IN A SANDBOX (cutbox-door.mjs). By AI agents, Wed Nov 11 2026. No macro, syntax, notation, axiom, sorry.
-/
import Derived.Test.YtmaidelmbphbdaaDoorRows
import GoSem.ClaimSeven
namespace Go.Proofs.YtmaidelmbphbdaaDoor
namespace Rows

/-- THE TIED CARD OF 'laws.FnExactFrameSystem'. -/
def fnExactFrameSystemCard : Claim7 := { stood := { row := fnExactFrameSystemRow, standIns := [], harness := (true, "4f60b5432a27aa429616f1676aad39ed6386ea67ce682d49397bbbf157eeab01"), looks := false }, kinds := [], alts := [], laidByText := true, laidKinds := [.data, .data, .data], laidTests := true, laidLooks := .later }
def FnExactFrameSystemCardSaid : Prop := Claim7.holds Tryd.pinned (.plain (OpenSpec.ofChange fnExactFrameSystemSpec)) fnExactFrameSystemCard

/-- THE TIED CARD OF 'laws.FnExactCounterSystem'. -/
def fnExactCounterSystemCard : Claim7 := { stood := { row := fnExactCounterSystemRow, standIns := [], harness := (true, "4f60b5432a27aa429616f1676aad39ed6386ea67ce682d49397bbbf157eeab01"), looks := false }, kinds := [], alts := [], laidByText := true, laidKinds := [.data, .data, .data], laidTests := true, laidLooks := .later }
def FnExactCounterSystemCardSaid : Prop := Claim7.holds Tryd.pinned (.plain (OpenSpec.ofChange fnExactCounterSystemSpec)) fnExactCounterSystemCard

/-- THE TIED CARD OF 'laws.FnExactZigzagSystem'. -/
def fnExactZigzagSystemCard : Claim7 := { stood := { row := fnExactZigzagSystemRow, standIns := [], harness := (true, "4f60b5432a27aa429616f1676aad39ed6386ea67ce682d49397bbbf157eeab01"), looks := false }, kinds := [], alts := [], laidByText := true, laidKinds := [.data, .data, .data], laidTests := true, laidLooks := .later }
def FnExactZigzagSystemCardSaid : Prop := Claim7.holds Tryd.pinned (.plain (OpenSpec.ofChange fnExactZigzagSystemSpec)) fnExactZigzagSystemCard

/-- THE TIED CARD OF 'laws.FnExactSorterSystem'. -/
def fnExactSorterSystemCard : Claim7 := { stood := { row := fnExactSorterSystemRow, standIns := [], harness := (true, "4f60b5432a27aa429616f1676aad39ed6386ea67ce682d49397bbbf157eeab01"), looks := false }, kinds := [], alts := [], laidByText := true, laidKinds := [.data, .data, .data], laidTests := true, laidLooks := .later }
def FnExactSorterSystemCardSaid : Prop := Claim7.holds Tryd.pinned (.plain (OpenSpec.ofChange fnExactSorterSystemSpec)) fnExactSorterSystemCard

/-- THE TIED CARD OF 'laws.FnExactRuleSystem'. -/
def fnExactRuleSystemCard : Claim7 := { stood := { row := fnExactRuleSystemRow, standIns := [], harness := (true, "4f60b5432a27aa429616f1676aad39ed6386ea67ce682d49397bbbf157eeab01"), looks := false }, kinds := [], alts := [], laidByText := true, laidKinds := [.data, .data, .data], laidTests := true, laidLooks := .later }
def FnExactRuleSystemCardSaid : Prop := Claim7.holds Tryd.pinned (.plain (OpenSpec.ofChange fnExactRuleSystemSpec)) fnExactRuleSystemCard

/-- THE SECOND FORM's CARD OF 'laws.FnExactFrameSystem'. -/
def fnExactFrameSystemUptoCard : Claim7 := { stood := { row := fnExactFrameSystemUptoRow, standIns := [], harness := (true, "4f60b5432a27aa429616f1676aad39ed6386ea67ce682d49397bbbf157eeab01"), looks := false }, kinds := [], alts := [], laidByText := true, laidKinds := [.data, .data, .data], laidTests := true, laidLooks := .later }
def FnExactFrameSystemUptoCardSaid : Prop := Claim7.holds Tryd.pinned (.plain (OpenSpec.upto fnExactFrameSystemSpec)) fnExactFrameSystemUptoCard

/-- THE SECOND FORM's CARD OF 'laws.FnExactCounterSystem'. -/
def fnExactCounterSystemUptoCard : Claim7 := { stood := { row := fnExactCounterSystemUptoRow, standIns := [], harness := (true, "4f60b5432a27aa429616f1676aad39ed6386ea67ce682d49397bbbf157eeab01"), looks := false }, kinds := [], alts := [], laidByText := true, laidKinds := [.data, .data, .data], laidTests := true, laidLooks := .later }
def FnExactCounterSystemUptoCardSaid : Prop := Claim7.holds Tryd.pinned (.plain (OpenSpec.upto fnExactCounterSystemSpec)) fnExactCounterSystemUptoCard

/-- THE SECOND FORM's CARD OF 'laws.FnExactZigzagSystem'. -/
def fnExactZigzagSystemUptoCard : Claim7 := { stood := { row := fnExactZigzagSystemUptoRow, standIns := [], harness := (true, "4f60b5432a27aa429616f1676aad39ed6386ea67ce682d49397bbbf157eeab01"), looks := false }, kinds := [], alts := [], laidByText := true, laidKinds := [.data, .data, .data], laidTests := true, laidLooks := .later }
def FnExactZigzagSystemUptoCardSaid : Prop := Claim7.holds Tryd.pinned (.plain (OpenSpec.upto fnExactZigzagSystemSpec)) fnExactZigzagSystemUptoCard

/-- THE SECOND FORM's CARD OF 'laws.FnExactSorterSystem'. -/
def fnExactSorterSystemUptoCard : Claim7 := { stood := { row := fnExactSorterSystemUptoRow, standIns := [], harness := (true, "4f60b5432a27aa429616f1676aad39ed6386ea67ce682d49397bbbf157eeab01"), looks := false }, kinds := [], alts := [], laidByText := true, laidKinds := [.data, .data, .data], laidTests := true, laidLooks := .later }
def FnExactSorterSystemUptoCardSaid : Prop := Claim7.holds Tryd.pinned (.plain (OpenSpec.upto fnExactSorterSystemSpec)) fnExactSorterSystemUptoCard

/-- THE SECOND FORM's CARD OF 'laws.FnExactRuleSystem'. -/
def fnExactRuleSystemUptoCard : Claim7 := { stood := { row := fnExactRuleSystemUptoRow, standIns := [], harness := (true, "4f60b5432a27aa429616f1676aad39ed6386ea67ce682d49397bbbf157eeab01"), looks := false }, kinds := [], alts := [], laidByText := true, laidKinds := [.data, .data, .data], laidTests := true, laidLooks := .later }
def FnExactRuleSystemUptoCardSaid : Prop := Claim7.holds Tryd.pinned (.plain (OpenSpec.upto fnExactRuleSystemSpec)) fnExactRuleSystemUptoCard
end Rows
end Go.Proofs.YtmaidelmbphbdaaDoor
