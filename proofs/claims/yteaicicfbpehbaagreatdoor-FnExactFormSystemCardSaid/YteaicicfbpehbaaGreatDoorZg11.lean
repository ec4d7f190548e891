/- Laws that the proof stands on. -/
import Derived.Test.YteaicicfbpehbaaGreatDoorZg7
import Derived.Test.YteaicicfbpehbaaGreatDoorZVB
set_option linter.all false
namespace Go.Proofs.YteaicicfbpehbaaGreatDoor
open Go.RowKit Go.V
def Glue.td:TD Glue.ty:=TD.via (TD.prod TD.str (TD.int .i64)) (fun x:Glue=>(x.Name,x.Strength))
theorem Glue.td_d (o:Bool) (x:Glue):Glue.td.d o x=[.v (.string x.Name),.v (.int .i64 x.Strength)]:=rfl
theorem Glue.td_ok (x:Glue):Glue.td.ok x=(x.Name.size≤maxLen∧InK .i64 x.Strength):=rfl
def Tile.td:TD Tile.ty:=TD.via (TD.prod TD.str (TD.slice 2 (TD.int .i64))) (fun x:Tile=>(x.Name,x.Sides))
theorem Tile.td_d (o:Bool) (x:Tile):Tile.td.d o x=[.v (.string x.Name),.sl o 1 (x.Sides.map (rI))]:=rfl
theorem Tile.td_ok (x:Tile):Tile.td.ok x=(x.Name.size≤maxLen∧(∀ y,y∈x.Sides→InK .i64 y)):=rfl
def TileSet.td:TD TileSet.ty:=TD.via (TD.prod (TD.slice 121 Glue.td) (TD.slice 125 Tile.td)) (fun x:TileSet=>(x.Glues,x.Tiles))
theorem TileSet.td_d (o:Bool) (x:TileSet):TileSet.td.d o x=[.sl o 2 (x.Glues.map (Glue.td.d o)),.sl o 2 (x.Tiles.map (Tile.td.d o))]:=rfl
theorem TileSet.td_ok (x:TileSet):TileSet.td.ok x=((∀ y,y∈x.Glues→Glue.td.ok y)∧(∀ y,y∈x.Tiles→Tile.td.ok y)):=rfl
def Point.td:TD Point.ty:=TD.via (TD.prod (TD.int .i64) (TD.int .i64)) (fun x:Point=>(x.X,x.Y))
theorem Point.td_d (o:Bool) (x:Point):Point.td.d o x=[.v (.int .i64 x.X),.v (.int .i64 x.Y)]:=rfl
theorem Point.td_ok (x:Point):Point.td.ok x=(InK .i64 x.X∧InK .i64 x.Y):=rfl
def Placed.td:TD Placed.ty:=TD.via (TD.prod Point.td (TD.int .i64)) (fun x:Placed=>(x.At,x.Tile))
theorem Placed.td_d (o:Bool) (x:Placed):Placed.td.d o x=[.v (.int .i64 x.At.X),.v (.int .i64 x.At.Y),.v (.int .i64 x.Tile)]:=rfl
theorem Placed.td_ok (x:Placed):Placed.td.ok x=(Point.td.ok x.At∧InK .i64 x.Tile):=rfl
def Assembly.td:TD Assembly.ty:=TD.via ((TD.slice 109 Placed.td)) (fun x:Assembly=>x.Tiles)
theorem Assembly.td_d (o:Bool) (x:Assembly):Assembly.td.d o x=[.sl o 3 (x.Tiles.map (Placed.td.d o))]:=rfl
theorem Assembly.td_ok (x:Assembly):Assembly.td.ok x=((∀ y,y∈x.Tiles→Placed.td.ok y)):=rfl
def System.td:TD System.ty:=TD.via (TD.prod TileSet.td (TD.prod Assembly.td (TD.int .i64))) (fun x:System=>(x.Set,x.Seed,x.Temperature))
theorem System.td_d (o:Bool) (x:System):System.td.d o x=[.sl o 2 (x.Set.Glues.map (Glue.td.d o)),.sl o 2 (x.Set.Tiles.map (Tile.td.d o)),.sl o 3 (x.Seed.Tiles.map (Placed.td.d o)),.v (.int .i64 x.Temperature)]:=rfl
theorem System.td_ok (x:System):System.td.ok x=(TileSet.td.ok x.Set∧Assembly.td.ok x.Seed∧InK .i64 x.Temperature):=rfl
def Cube.td:TD Cube.ty:=TD.via (TD.prod (TD.int .i64) (TD.int .i64)) (fun x:Cube=>(x.Care,x.Valu))
theorem Cube.td_d (o:Bool) (x:Cube):Cube.td.d o x=[.v (.int .i64 x.Care),.v (.int .i64 x.Valu)]:=rfl
theorem Cube.td_ok (x:Cube):Cube.td.ok x=(InK .i64 x.Care∧InK .i64 x.Valu):=rfl
def Form.td:TD Form.ty:=TD.via (TD.prod (TD.int .i64) (TD.prod (TD.slice 88 Cube.td) (TD.slice 26 (TD.slice 2 (TD.int .i64))))) (fun x:Form=>(x.Inputs,x.Cubes,x.Sums))
theorem Form.td_d (o:Bool) (x:Form):Form.td.d o x=[.v (.int .i64 x.Inputs),.sl o 2 (x.Cubes.map (Cube.td.d o)),.sl o 1 (x.Sums.map (fun x=>[.sl o 1 (x.map (rI))]))]:=rfl
theorem Form.td_ok (x:Form):Form.td.ok x=(InK .i64 x.Inputs∧(∀ y,y∈x.Cubes→Cube.td.ok y)∧(∀ y,y∈x.Sums→∀ yy,yy∈y→InK .i64 yy)):=rfl
end Go.Proofs.YteaicicfbpehbaaGreatDoor
