/- Laws that the proof stands on. -/
import Derived.Test.YtddkkndgpcgdpaaGreatZg6
import Derived.Test.YtddkkndgpcgdpaaGreatZVB
set_option linter.all false
namespace Go.Proofs.YtddkkndgpcgdpaaGreat
open Go.RowKit Go.V
def Glue.td : TD Glue.ty := TD.via (TD.prod TD.str (TD.int .i64)) (fun x : Glue => (x.Name, x.Strength))
theorem Glue.td_d (o : Bool) (x : Glue) : Glue.td.d o x = [.v (.string x.Name), .v (.int .i64 x.Strength)] := rfl
theorem Glue.td_ok (x : Glue) : Glue.td.ok x = (x.Name.size ≤ maxLen ∧ InK .i64 x.Strength) := rfl
def Tile.td : TD Tile.ty := TD.via (TD.prod TD.str (TD.slice 2 (TD.int .i64))) (fun x : Tile => (x.Name, x.Sides))
theorem Tile.td_d (o : Bool) (x : Tile) : Tile.td.d o x = [.v (.string x.Name), .sl o 1 (x.Sides.map (rI))] := rfl
theorem Tile.td_ok (x : Tile) : Tile.td.ok x = (x.Name.size ≤ maxLen ∧ (∀ y, y ∈ x.Sides → InK .i64 y)) := rfl
def TileSet.td : TD TileSet.ty := TD.via (TD.prod (TD.slice 106 Glue.td) (TD.slice 98 Tile.td)) (fun x : TileSet => (x.Glues, x.Tiles))
theorem TileSet.td_d (o : Bool) (x : TileSet) : TileSet.td.d o x = [.sl o 2 (x.Glues.map (Glue.td.d o)), .sl o 2 (x.Tiles.map (Tile.td.d o))] := rfl
theorem TileSet.td_ok (x : TileSet) : TileSet.td.ok x = ((∀ y, y ∈ x.Glues → Glue.td.ok y) ∧ (∀ y, y ∈ x.Tiles → Tile.td.ok y)) := rfl
def Fire.td : TD Fire.ty := TD.via (TD.prod (TD.int .i64) (TD.int .i64)) (fun x : Fire => (x.From, x.To))
theorem Fire.td_d (o : Bool) (x : Fire) : Fire.td.d o x = [.v (.int .i64 x.From), .v (.int .i64 x.To)] := rfl
theorem Fire.td_ok (x : Fire) : Fire.td.ok x = (InK .i64 x.From ∧ InK .i64 x.To) := rfl
def SignalTile.td : TD SignalTile.ty := TD.via (TD.prod TD.str (TD.prod (TD.slice 2 (TD.int .i64)) (TD.prod (TD.slice 4 TD.bool) (TD.slice 102 Fire.td)))) (fun x : SignalTile => (x.Name, x.Sides, x.On, x.Fires))
theorem SignalTile.td_d (o : Bool) (x : SignalTile) : SignalTile.td.d o x = [.v (.string x.Name), .sl o 1 (x.Sides.map (rI)), .sl o 1 (x.On.map (rBo)), .sl o 2 (x.Fires.map (Fire.td.d o))] := rfl
theorem SignalTile.td_ok (x : SignalTile) : SignalTile.td.ok x = (x.Name.size ≤ maxLen ∧ (∀ y, y ∈ x.Sides → InK .i64 y) ∧ (∀ y, y ∈ x.On → True) ∧ (∀ y, y ∈ x.Fires → Fire.td.ok y)) := rfl
def SignalSet.td : TD SignalSet.ty := TD.via (TD.prod (TD.slice 106 Glue.td) (TD.slice 95 SignalTile.td)) (fun x : SignalSet => (x.Glues, x.Tiles))
theorem SignalSet.td_d (o : Bool) (x : SignalSet) : SignalSet.td.d o x = [.sl o 2 (x.Glues.map (Glue.td.d o)), .sl o 4 (x.Tiles.map (SignalTile.td.d o))] := rfl
theorem SignalSet.td_ok (x : SignalSet) : SignalSet.td.ok x = ((∀ y, y ∈ x.Glues → Glue.td.ok y) ∧ (∀ y, y ∈ x.Tiles → SignalTile.td.ok y)) := rfl
def Point.td : TD Point.ty := TD.via (TD.prod (TD.int .i64) (TD.int .i64)) (fun x : Point => (x.X, x.Y))
theorem Point.td_d (o : Bool) (x : Point) : Point.td.d o x = [.v (.int .i64 x.X), .v (.int .i64 x.Y)] := rfl
theorem Point.td_ok (x : Point) : Point.td.ok x = (InK .i64 x.X ∧ InK .i64 x.Y) := rfl
def Placed.td : TD Placed.ty := TD.via (TD.prod Point.td (TD.int .i64)) (fun x : Placed => (x.At, x.Tile))
theorem Placed.td_d (o : Bool) (x : Placed) : Placed.td.d o x = [.v (.int .i64 x.At.X), .v (.int .i64 x.At.Y), .v (.int .i64 x.Tile)] := rfl
theorem Placed.td_ok (x : Placed) : Placed.td.ok x = (Point.td.ok x.At ∧ InK .i64 x.Tile) := rfl
def Assembly.td : TD Assembly.ty := TD.via ((TD.slice 69 Placed.td)) (fun x : Assembly => x.Tiles)
theorem Assembly.td_d (o : Bool) (x : Assembly) : Assembly.td.d o x = [.sl o 3 (x.Tiles.map (Placed.td.d o))] := rfl
theorem Assembly.td_ok (x : Assembly) : Assembly.td.ok x = ((∀ y, y ∈ x.Tiles → Placed.td.ok y)) := rfl
def SignalCell.td : TD SignalCell.ty := TD.via (TD.prod Point.td (TD.prod (TD.int .i64) (TD.prod (TD.slice 4 TD.bool) (TD.prod (TD.slice 4 TD.bool) (TD.slice 4 TD.bool))))) (fun x : SignalCell => (x.At, x.Tile, x.On, x.Bound, x.Fired))
theorem SignalCell.td_d (o : Bool) (x : SignalCell) : SignalCell.td.d o x = [.v (.int .i64 x.At.X), .v (.int .i64 x.At.Y), .v (.int .i64 x.Tile), .sl o 1 (x.On.map (rBo)), .sl o 1 (x.Bound.map (rBo)), .sl o 1 (x.Fired.map (rBo))] := rfl
theorem SignalCell.td_ok (x : SignalCell) : SignalCell.td.ok x = (Point.td.ok x.At ∧ InK .i64 x.Tile ∧ (∀ y, y ∈ x.On → True) ∧ (∀ y, y ∈ x.Bound → True) ∧ (∀ y, y ∈ x.Fired → True)) := rfl
end Go.Proofs.YtddkkndgpcgdpaaGreat
