/- Made by tdgen.py: Pattern, as the machine holds it. -/
import Derived.Test.YtlfgkhjibhfopaaTyPattern
import Derived.Test.YtlfgkhjibhfopaaVB
set_option linter.unusedSimpArgs false
set_option linter.unusedVariables false
set_option linter.all false
namespace Go.Proofs.Ytlfgkhjibhfopaa
open Go.RowKit Go.V
def Pattern.td : TD Pattern.ty := TD.via (TD.prod (TD.int .i64) (TD.prod (TD.int .i64) (TD.slice 2 (TD.int .i64)))) (fun x : Pattern => (x.Width, x.Height, x.Cells))
theorem Pattern.td_d (o : Bool) (x : Pattern) : Pattern.td.d o x = [.v (.int .i64 x.Width), .v (.int .i64 x.Height), .sl o 1 (x.Cells.map (rI))] := rfl
theorem Pattern.td_ok (x : Pattern) : Pattern.td.ok x = (InK .i64 x.Width ∧ InK .i64 x.Height ∧ (∀ y, y ∈ x.Cells → InK .i64 y)) := rfl
end Go.Proofs.Ytlfgkhjibhfopaa
