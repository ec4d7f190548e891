/- Made by tdgen.py: System, as the machine holds it. -/
import Derived.Test.YtpaknhakpkfnnaaTySystem
import Derived.Test.YtpaknhakpkfnnaaVB
import Derived.Test.YtpaknhakpkfnnaaTdTileSet
import Derived.Test.YtpaknhakpkfnnaaTdAssembly
set_option linter.unusedSimpArgs false
set_option linter.unusedVariables false
set_option linter.all false
namespace Go.Proofs.Ytpaknhakpkfnnaa
open Go.RowKit Go.V
def System.td : TD System.ty := TD.via (TD.prod TileSet.td (TD.prod Assembly.td (TD.int .i64))) (fun x : System => (x.Set, x.Seed, x.Temperature))
theorem System.td_d (o : Bool) (x : System) : System.td.d o x = [.sl o 2 (x.Set.Glues.map (Glue.td.d o)), .sl o 2 (x.Set.Tiles.map (Tile.td.d o)), .sl o 3 (x.Seed.Tiles.map (Placed.td.d o)), .v (.int .i64 x.Temperature)] := rfl
theorem System.td_ok (x : System) : System.td.ok x = (TileSet.td.ok x.Set ∧ Assembly.td.ok x.Seed ∧ InK .i64 x.Temperature) := rfl
end Go.Proofs.Ytpaknhakpkfnnaa
