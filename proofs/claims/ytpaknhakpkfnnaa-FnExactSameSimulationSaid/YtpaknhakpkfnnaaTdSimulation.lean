/- Made by tdgen.py: Simulation, as the machine holds it. -/
import Derived.Test.YtpaknhakpkfnnaaTySimulation
import Derived.Test.YtpaknhakpkfnnaaVB
import Derived.Test.YtpaknhakpkfnnaaTdSystem
set_option linter.unusedSimpArgs false
set_option linter.unusedVariables false
set_option linter.all false
namespace Go.Proofs.Ytpaknhakpkfnnaa
open Go.RowKit Go.V
def Simulation.td : TD Simulation.ty := TD.via (TD.prod System.td (TD.prod System.td (TD.prod (TD.int .i64) (TD.slice 2 (TD.int .i64))))) (fun x : Simulation => (x.Big, x.Small, x.Scale, x.Labels))
theorem Simulation.td_d (o : Bool) (x : Simulation) : Simulation.td.d o x = [.sl o 2 (x.Big.Set.Glues.map (Glue.td.d o)), .sl o 2 (x.Big.Set.Tiles.map (Tile.td.d o)), .sl o 3 (x.Big.Seed.Tiles.map (Placed.td.d o)), .v (.int .i64 x.Big.Temperature), .sl o 2 (x.Small.Set.Glues.map (Glue.td.d o)), .sl o 2 (x.Small.Set.Tiles.map (Tile.td.d o)), .sl o 3 (x.Small.Seed.Tiles.map (Placed.td.d o)), .v (.int .i64 x.Small.Temperature), .v (.int .i64 x.Scale), .sl o 1 (x.Labels.map (rI))] := rfl
theorem Simulation.td_ok (x : Simulation) : Simulation.td.ok x = (System.td.ok x.Big ∧ System.td.ok x.Small ∧ InK .i64 x.Scale ∧ (∀ y, y ∈ x.Labels → InK .i64 y)) := rfl
end Go.Proofs.Ytpaknhakpkfnnaa
