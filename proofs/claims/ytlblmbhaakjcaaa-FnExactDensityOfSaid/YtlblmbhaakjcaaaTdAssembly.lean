/- Made by tdgen.py: Assembly, as the machine holds it. -/
import Derived.Test.YtlblmbhaakjcaaaTyAssembly
import Derived.Test.YtlblmbhaakjcaaaVB
import Derived.Test.YtlblmbhaakjcaaaTdPlaced
set_option linter.unusedSimpArgs false
set_option linter.unusedVariables false
set_option linter.all false
namespace Go.Proofs.Ytlblmbhaakjcaaa
open Go.RowKit Go.V
def Assembly.td : TD Assembly.ty := TD.via ((TD.slice 67 Placed.td)) (fun x : Assembly => x.Tiles)
theorem Assembly.td_d (o : Bool) (x : Assembly) : Assembly.td.d o x = [.sl o 3 (x.Tiles.map (Placed.td.d o))] := rfl
theorem Assembly.td_ok (x : Assembly) : Assembly.td.ok x = ((∀ y, y ∈ x.Tiles → Placed.td.ok y)) := rfl
end Go.Proofs.Ytlblmbhaakjcaaa
