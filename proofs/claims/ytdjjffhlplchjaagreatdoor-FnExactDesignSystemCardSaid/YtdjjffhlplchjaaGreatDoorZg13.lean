/- Laws that the proof stands on. -/
import Derived.Test.YtdjjffhlplchjaaGreatDoorZg6
import Derived.Test.YtdjjffhlplchjaaGreatDoorZVB
set_option linter.all false
namespace Go.Proofs.YtdjjffhlplchjaaGreatDoor
open Go.RowKit Go.V
def Glue.td : TD Glue.ty:=TD.via (TD.prod TD.str (TD.int .i64)) (fun x : Glue => (x.Name,x.Strength))
theorem Glue.td_d (o : Bool) (x : Glue) : Glue.td.d o x = [.v (.string x.Name),.v (.int .i64 x.Strength)]:=rfl
theorem Glue.td_ok (x : Glue) : Glue.td.ok x = (x.Name.size ≤ maxLen ∧ InK .i64 x.Strength):=rfl
def Tile.td : TD Tile.ty:=TD.via (TD.prod TD.str (TD.slice 2 (TD.int .i64))) (fun x : Tile => (x.Name,x.Sides))
theorem Tile.td_d (o : Bool) (x : Tile) : Tile.td.d o x = [.v (.string x.Name),.sl o 1 (x.Sides.map (rI))]:=rfl
theorem Tile.td_ok (x : Tile) : Tile.td.ok x = (x.Name.size ≤ maxLen ∧ (∀ y,y ∈ x.Sides → InK .i64 y)):=rfl
def TileSet.td : TD TileSet.ty:=TD.via (TD.prod (TD.slice 123 Glue.td) (TD.slice 128 Tile.td)) (fun x : TileSet => (x.Glues,x.Tiles))
theorem TileSet.td_d (o : Bool) (x : TileSet) : TileSet.td.d o x = [.sl o 2 (x.Glues.map (Glue.td.d o)),.sl o 2 (x.Tiles.map (Tile.td.d o))]:=rfl
theorem TileSet.td_ok (x : TileSet) : TileSet.td.ok x = ((∀ y,y ∈ x.Glues → Glue.td.ok y) ∧ (∀ y,y ∈ x.Tiles → Tile.td.ok y)):=rfl
def Point.td : TD Point.ty:=TD.via (TD.prod (TD.int .i64) (TD.int .i64)) (fun x : Point => (x.X,x.Y))
theorem Point.td_d (o : Bool) (x : Point) : Point.td.d o x = [.v (.int .i64 x.X),.v (.int .i64 x.Y)]:=rfl
theorem Point.td_ok (x : Point) : Point.td.ok x = (InK .i64 x.X ∧ InK .i64 x.Y):=rfl
def Placed.td : TD Placed.ty:=TD.via (TD.prod Point.td (TD.int .i64)) (fun x : Placed => (x.At,x.Tile))
theorem Placed.td_d (o : Bool) (x : Placed) : Placed.td.d o x = [.v (.int .i64 x.At.X),.v (.int .i64 x.At.Y),.v (.int .i64 x.Tile)]:=rfl
theorem Placed.td_ok (x : Placed) : Placed.td.ok x = (Point.td.ok x.At ∧ InK .i64 x.Tile):=rfl
def Assembly.td : TD Assembly.ty:=TD.via ((TD.slice 87 Placed.td)) (fun x : Assembly => x.Tiles)
theorem Assembly.td_d (o : Bool) (x : Assembly) : Assembly.td.d o x = [.sl o 3 (x.Tiles.map (Placed.td.d o))]:=rfl
theorem Assembly.td_ok (x : Assembly) : Assembly.td.ok x = ((∀ y,y ∈ x.Tiles → Placed.td.ok y)):=rfl
def System.td : TD System.ty:=TD.via (TD.prod TileSet.td (TD.prod Assembly.td (TD.int .i64))) (fun x : System => (x.Set,x.Seed,x.Temperature))
theorem System.td_d (o : Bool) (x : System) : System.td.d o x = [.sl o 2 (x.Set.Glues.map (Glue.td.d o)),.sl o 2 (x.Set.Tiles.map (Tile.td.d o)),.sl o 3 (x.Seed.Tiles.map (Placed.td.d o)),.v (.int .i64 x.Temperature)]:=rfl
theorem System.td_ok (x : System) : System.td.ok x = (TileSet.td.ok x.Set ∧ Assembly.td.ok x.Seed ∧ InK .i64 x.Temperature):=rfl
def Piece.td : TD Piece.ty:=TD.via (TD.prod (TD.int .i64) (TD.prod (TD.int .i64) (TD.prod (TD.int .i64) (TD.prod (TD.int .i64) (TD.int .i64))))) (fun x : Piece => (x.Color,x.North,x.East,x.South,x.West))
theorem Piece.td_d (o : Bool) (x : Piece) : Piece.td.d o x = [.v (.int .i64 x.Color),.v (.int .i64 x.North),.v (.int .i64 x.East),.v (.int .i64 x.South),.v (.int .i64 x.West)]:=rfl
theorem Piece.td_ok (x : Piece) : Piece.td.ok x = (InK .i64 x.Color ∧ InK .i64 x.North ∧ InK .i64 x.East ∧ InK .i64 x.South ∧ InK .i64 x.West):=rfl
def Design.td : TD Design.ty:=TD.via (TD.prod (TD.slice 2 (TD.int .i64)) (TD.prod (TD.slice 2 (TD.int .i64)) (TD.slice 78 Piece.td))) (fun x : Design => (x.Bottom,x.Left,x.Pieces))
theorem Design.td_d (o : Bool) (x : Design) : Design.td.d o x = [.sl o 1 (x.Bottom.map (rI)),.sl o 1 (x.Left.map (rI)),.sl o 5 (x.Pieces.map (Piece.td.d o))]:=rfl
theorem Design.td_ok (x : Design) : Design.td.ok x = ((∀ y,y ∈ x.Bottom → InK .i64 y) ∧ (∀ y,y ∈ x.Left → InK .i64 y) ∧ (∀ y,y ∈ x.Pieces → Piece.td.ok y)):=rfl
end Go.Proofs.YtdjjffhlplchjaaGreatDoor
