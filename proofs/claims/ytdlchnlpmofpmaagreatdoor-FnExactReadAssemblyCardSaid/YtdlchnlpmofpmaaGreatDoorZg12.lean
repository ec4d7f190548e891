/- Laws that the proof stands on. -/
import Derived.Test.YtdlchnlpmofpmaaGreatDoorZg5
import Derived.Test.YtdlchnlpmofpmaaGreatDoorZVB
set_option linter.all false
namespace Go.Proofs.YtdlchnlpmofpmaaGreatDoor
open Go.RowKit Go.V
def Glue.td:TD Glue.ty:=TD.via (TD.prod TD.str (TD.int .i64)) (fun x:Glue=>(x.Name,x.Strength))
theorem Glue.td_d (o:Bool)(x:Glue):Glue.td.d o x=[.v (.string x.Name),.v (.int .i64 x.Strength)]:=rfl
theorem Glue.td_ok (x:Glue):Glue.td.ok x=(x.Name.size≤maxLen∧InK .i64 x.Strength):=rfl
theorem Glue.eq_dec (a b:Glue):(decide (a.Name=b.Name)&&decide (a.Strength=b.Strength))=decide (a=b):=by obtain ⟨a0,a1⟩:=a;obtain ⟨b0,b1⟩:=b;rw [Bool.eq_iff_iff];simp
def Tile.td:TD Tile.ty:=TD.via (TD.prod TD.str (TD.slice 2 (TD.int .i64))) (fun x:Tile=>(x.Name,x.Sides))
theorem Tile.td_d (o:Bool)(x:Tile):Tile.td.d o x=[.v (.string x.Name),.sl o 1 (x.Sides.map (rI))]:=rfl
theorem Tile.td_ok (x:Tile):Tile.td.ok x=(x.Name.size≤maxLen∧(∀ y,y∈x.Sides→InK .i64 y)):=rfl
def TileSet.td:TD TileSet.ty:=TD.via (TD.prod (TD.slice 76 Glue.td) (TD.slice 80 Tile.td)) (fun x:TileSet=>(x.Glues,x.Tiles))
theorem TileSet.td_d (o:Bool)(x:TileSet):TileSet.td.d o x=[.sl o 2 (x.Glues.map (Glue.td.d o)),.sl o 2 (x.Tiles.map (Tile.td.d o))]:=rfl
theorem TileSet.td_ok (x:TileSet):TileSet.td.ok x=((∀ y,y∈x.Glues→Glue.td.ok y)∧(∀ y,y∈x.Tiles→Tile.td.ok y)):=rfl
theorem yEo {α:Type}(p:α→Bool):zOf p [] = -1:=rfl
theorem zZs {α:Type}(p:α→Bool)(x:α)(xs:List α):zOf p (x::xs)=if p x then 0 else (if zOf p xs<0 then -1 else zOf p xs+1):=by
  unfold zOf;rw [List.findIdx?_cons];cases p x with
  | true=>rfl
  | false =>
    cases xs.findIdx? p with
    | none=>rfl
    | some k=>simp only [Option.map_some,Bool.false_eq_true,if_false];rw [if_neg (by omega)];omega
theorem zZr {α:Type}(p:α→Bool):∀ xs:List α,zOf p xs<xs.length
  | []=>by rw [yEo];simp
  | x::xs=>by
    have:=zZr p xs;rw [zZs,List.length_cons];split
    · omega
    · split<;>omega
def Point.td:TD Point.ty:=TD.via (TD.prod (TD.int .i64) (TD.int .i64)) (fun x:Point=>(x.X,x.Y))
theorem Point.td_d (o:Bool)(x:Point):Point.td.d o x=[.v (.int .i64 x.X),.v (.int .i64 x.Y)]:=rfl
theorem Point.td_ok (x:Point):Point.td.ok x=(InK .i64 x.X∧InK .i64 x.Y):=rfl
theorem Point.eq_dec (a b:Point):(decide (a.X=b.X)&&decide (a.Y=b.Y))=decide (a=b):=by obtain ⟨a0,a1⟩:=a;obtain ⟨b0,b1⟩:=b;rw [Bool.eq_iff_iff];simp
def Placed.td:TD Placed.ty:=TD.via (TD.prod Point.td (TD.int .i64)) (fun x:Placed=>(x.At,x.Tile))
theorem Placed.td_d (o:Bool)(x:Placed):Placed.td.d o x=[.v (.int .i64 x.At.X),.v (.int .i64 x.At.Y),.v (.int .i64 x.Tile)]:=rfl
theorem Placed.td_ok (x:Placed):Placed.td.ok x=(Point.td.ok x.At∧InK .i64 x.Tile):=rfl
theorem Placed.eq_dec (a b:Placed):(decide (a.At.X=b.At.X)&&(decide (a.At.Y=b.At.Y)&&decide (a.Tile=b.Tile)))=decide (a=b):=by obtain ⟨⟨a00,a01⟩,a1⟩:=a;obtain ⟨⟨b00,b01⟩,b1⟩:=b;rw [Bool.eq_iff_iff];simp [and_assoc]
def Assembly.td:TD Assembly.ty:=TD.via ((TD.slice 98 Placed.td)) (fun x:Assembly=>x.Tiles)
theorem Assembly.td_d (o:Bool)(x:Assembly):Assembly.td.d o x=[.sl o 3 (x.Tiles.map (Placed.td.d o))]:=rfl
theorem Assembly.td_ok (x:Assembly):Assembly.td.ok x=((∀ y,y∈x.Tiles→Placed.td.ok y)):=rfl
end Go.Proofs.YtdlchnlpmofpmaaGreatDoor
