/- Small functions that many call: their laws. -/
import Derived.Test.YtpaknhakpkfnnaaVB
import Derived.Test.YtpaknhakpkfnnaaProg
set_option linter.unusedSimpArgs false
set_option linter.unusedVariables false
set_option linter.all false
namespace Go.Proofs.Ytpaknhakpkfnnaa
open Go.RowKit Go.V
set_option maxRecDepth 100000
def inR (lo hi n : Int) : Bool := decide (lo ≤ n) && decide (n ≤ hi)
theorem inR_iff {lo hi n : Int} : inR lo hi n = true ↔ lo ≤ n ∧ n ≤ hi := by simp [inR]
end Go.Proofs.Ytpaknhakpkfnnaa
