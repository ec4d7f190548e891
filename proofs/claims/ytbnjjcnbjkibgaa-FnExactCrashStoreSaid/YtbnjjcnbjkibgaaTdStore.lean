/- Made by tdgen.py: Store, as the machine holds it. -/
import Derived.Test.YtbnjjcnbjkibgaaTyStore
import Derived.Test.YtbnjjcnbjkibgaaVB
import Derived.Test.YtbnjjcnbjkibgaaTdLog
set_option linter.unusedSimpArgs false
set_option linter.unusedVariables false
set_option linter.all false
namespace Go.Proofs.Ytbnjjcnbjkibgaa
open Go.RowKit Go.V
def Store.td : TD Store.ty := TD.via (TD.prod (TD.slice 150 Log.td) (TD.int .i64)) (fun x : Store => (x.Slots, x.Active))
theorem Store.td_d (o : Bool) (x : Store) : Store.td.d o x = [.sl o 2 (x.Slots.map (Log.td.d o)), .v (.int .i64 x.Active)] := rfl
theorem Store.td_ok (x : Store) : Store.td.ok x = ((∀ y, y ∈ x.Slots → Log.td.ok y) ∧ InK .i64 x.Active) := rfl
end Go.Proofs.Ytbnjjcnbjkibgaa
