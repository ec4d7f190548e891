/- Made by tdgen.py: Log, as the machine holds it. -/
import Derived.Test.YtbnjjcnbjkibgaaTyLog
import Derived.Test.YtbnjjcnbjkibgaaVB
set_option linter.unusedSimpArgs false
set_option linter.unusedVariables false
set_option linter.all false
namespace Go.Proofs.Ytbnjjcnbjkibgaa
open Go.RowKit Go.V
def Log.td : TD Log.ty := TD.via (TD.prod (TD.slice 5 (TD.int .u8)) (TD.slice 5 (TD.int .u8))) (fun x : Log => (x.Safe, x.Loose))
theorem Log.td_d (o : Bool) (x : Log) : Log.td.d o x = [.sl o 1 (x.Safe.map (rB8)), .sl o 1 (x.Loose.map (rB8))] := rfl
theorem Log.td_ok (x : Log) : Log.td.ok x = ((∀ y, y ∈ x.Safe → InK .u8 y) ∧ (∀ y, y ∈ x.Loose → InK .u8 y)) := rfl
end Go.Proofs.Ytbnjjcnbjkibgaa
