/- Made by tdgen.py: TileSet, as the machine holds it. -/
import Derived.Test.YtaboiekbjcmdgaaTyTileSet
import Derived.Test.YtaboiekbjcmdgaaVB
import Derived.Test.YtaboiekbjcmdgaaTdGlue
import Derived.Test.YtaboiekbjcmdgaaTdTile
set_option linter.unusedSimpArgs false
set_option linter.unusedVariables false
set_option linter.all false
namespace Go.Proofs.Ytaboiekbjcmdgaa
open Go.RowKit Go.V
def TileSet.td : TD TileSet.ty := TD.via (TD.prod (TD.slice 75 Glue.td) (TD.slice 77 Tile.td)) (fun x : TileSet => (x.Glues, x.Tiles))
theorem TileSet.td_d (o : Bool) (x : TileSet) : TileSet.td.d o x = [.sl o 2 (x.Glues.map (Glue.td.d o)), .sl o 2 (x.Tiles.map (Tile.td.d o))] := rfl
theorem TileSet.td_ok (x : TileSet) : TileSet.td.ok x = ((∀ y, y ∈ x.Glues → Glue.td.ok y) ∧ (∀ y, y ∈ x.Tiles → Tile.td.ok y)) := rfl
end Go.Proofs.Ytaboiekbjcmdgaa
