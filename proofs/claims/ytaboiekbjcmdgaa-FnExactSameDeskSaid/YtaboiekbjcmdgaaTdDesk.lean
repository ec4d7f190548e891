/- Made by tdgen.py: Desk, as the machine holds it. -/
import Derived.Test.YtaboiekbjcmdgaaTyDesk
import Derived.Test.YtaboiekbjcmdgaaVB
import Derived.Test.YtaboiekbjcmdgaaTdSystem
import Derived.Test.YtaboiekbjcmdgaaTdAssembly
set_option linter.unusedSimpArgs false
set_option linter.unusedVariables false
set_option linter.all false
namespace Go.Proofs.Ytaboiekbjcmdgaa
open Go.RowKit Go.V
def Desk.td : TD Desk.ty := TD.via (TD.prod TD.bool (TD.prod System.td (TD.prod Assembly.td (TD.slice 2 (TD.int .i64))))) (fun x : Desk => (x.Loaded, x.Sys, x.Now, x.Schedule))
theorem Desk.td_d (o : Bool) (x : Desk) : Desk.td.d o x = [.v (.bool x.Loaded), .sl o 2 (x.Sys.Set.Glues.map (Glue.td.d o)), .sl o 2 (x.Sys.Set.Tiles.map (Tile.td.d o)), .sl o 3 (x.Sys.Seed.Tiles.map (Placed.td.d o)), .v (.int .i64 x.Sys.Temperature), .sl o 3 (x.Now.Tiles.map (Placed.td.d o)), .sl o 1 (x.Schedule.map (rI))] := rfl
theorem Desk.td_ok (x : Desk) : Desk.td.ok x = (True ∧ System.td.ok x.Sys ∧ Assembly.td.ok x.Now ∧ (∀ y, y ∈ x.Schedule → InK .i64 y)) := rfl
end Go.Proofs.Ytaboiekbjcmdgaa
