/- Made by tdgen.py: Glue, as the machine holds it. -/
import Derived.Test.YtmgkmkbjmaapeaaZTyGlue
import Derived.Test.YtmgkmkbjmaapeaaZVB
set_option linter.all false
namespace Go.Proofs.Ytmgkmkbjmaapeaa
open Go.RowKit Go.V
def Glue.td : TD Glue.ty := TD.via (TD.prod TD.str (TD.int .i64)) (fun x : Glue => (x.Name, x.Strength))
theorem Glue.td_d (o : Bool) (x : Glue) : Glue.td.d o x = [.v (.string x.Name), .v (.int .i64 x.Strength)] := rfl
theorem Glue.td_ok (x : Glue) : Glue.td.ok x = (x.Name.size ≤ maxLen ∧ InK .i64 x.Strength) := rfl
end Go.Proofs.Ytmgkmkbjmaapeaa
