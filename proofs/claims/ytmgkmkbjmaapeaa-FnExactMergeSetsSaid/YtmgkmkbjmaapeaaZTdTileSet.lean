/- Made by tdgen.py: TileSet, as the machine holds it. -/
import Derived.Test.YtmgkmkbjmaapeaaZTyTileSet
import Derived.Test.YtmgkmkbjmaapeaaZVB
import Derived.Test.YtmgkmkbjmaapeaaZTdGlue
import Derived.Test.YtmgkmkbjmaapeaaZTdTile
set_option linter.all false
namespace Go.Proofs.Ytmgkmkbjmaapeaa
open Go.RowKit Go.V
def TileSet.td : TD TileSet.ty := TD.via (TD.prod (TD.slice 80 Glue.td) (TD.slice 60 Tile.td)) (fun x : TileSet => (x.Glues, x.Tiles))
theorem TileSet.td_d (o : Bool) (x : TileSet) : TileSet.td.d o x = [.sl o 2 (x.Glues.map (Glue.td.d o)), .sl o 2 (x.Tiles.map (Tile.td.d o))] := rfl
theorem TileSet.td_ok (x : TileSet) : TileSet.td.ok x = ((∀ y, y ∈ x.Glues → Glue.td.ok y) ∧ (∀ y, y ∈ x.Tiles → Tile.td.ok y)) := rfl
end Go.Proofs.Ytmgkmkbjmaapeaa
