/- Made by tdgen.py: Tile, as the machine holds it. -/
import Derived.Test.YtmgkmkbjmaapeaaZTyTile
import Derived.Test.YtmgkmkbjmaapeaaZVB
set_option linter.all false
namespace Go.Proofs.Ytmgkmkbjmaapeaa
open Go.RowKit Go.V
def Tile.td : TD Tile.ty := TD.via (TD.prod TD.str (TD.slice 2 (TD.int .i64))) (fun x : Tile => (x.Name, x.Sides))
theorem Tile.td_d (o : Bool) (x : Tile) : Tile.td.d o x = [.v (.string x.Name), .sl o 1 (x.Sides.map (rI))] := rfl
theorem Tile.td_ok (x : Tile) : Tile.td.ok x = (x.Name.size ≤ maxLen ∧ (∀ y, y ∈ x.Sides → InK .i64 y)) := rfl
end Go.Proofs.Ytmgkmkbjmaapeaa
