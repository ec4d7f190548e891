/- Laws that the proof stands on. -/
import Derived.Test.YtjkbngjiagknkaaGreatDoorZg6
import Derived.Test.YtjkbngjiagknkaaGreatDoorZVB
set_option linter.all false
namespace Go.Proofs.YtjkbngjiagknkaaGreatDoor
open Go.RowKit Go.V
def Glue.td:TD Glue.ty:=TD.via (TD.prod TD.str (TD.int .i64)) (fun x:Glue=>(x.Name,x.Strength))
theorem Glue.td_d (o:Bool) (x:Glue):Glue.td.d o x=[.v (.string x.Name),.v (.int .i64 x.Strength)]:=rfl
theorem Glue.td_ok (x:Glue):Glue.td.ok x=(x.Name.size≤maxLen∧InK .i64 x.Strength):=rfl
def Tile.td:TD Tile.ty:=TD.via (TD.prod TD.str (TD.slice 2 (TD.int .i64))) (fun x:Tile=>(x.Name,x.Sides))
theorem Tile.td_d (o:Bool) (x:Tile):Tile.td.d o x=[.v (.string x.Name),.sl o 1 (x.Sides.map (rI))]:=rfl
theorem Tile.td_ok (x:Tile):Tile.td.ok x=(x.Name.size≤maxLen∧(∀ y,y∈x.Sides→InK .i64 y)):=rfl
def TileSet.td:TD TileSet.ty:=TD.via (TD.prod (TD.slice 120 Glue.td) (TD.slice 122 Tile.td)) (fun x:TileSet=>(x.Glues,x.Tiles))
theorem TileSet.td_d (o:Bool) (x:TileSet):TileSet.td.d o x=[.sl o 2 (x.Glues.map (Glue.td.d o)),.sl o 2 (x.Tiles.map (Tile.td.d o))]:=rfl
theorem TileSet.td_ok (x:TileSet):TileSet.td.ok x=((∀ y,y∈x.Glues→Glue.td.ok y)∧(∀ y,y∈x.Tiles→Tile.td.ok y)):=rfl
theorem vIdx_nil {α:Type} (p:α→Bool):vIdx p [] = -1:=rfl
theorem vIdx_cons {α:Type} (p:α→Bool) (x:α) (xs:List α):vIdx p (x::xs)=if p x then 0 else (if vIdx p xs < 0 then -1 else vIdx p xs+1):=by
  unfold vIdx;rw [List.findIdx?_cons];cases p x with
  | true=>rfl
  | false =>
    cases xs.findIdx? p with
    | none=>rfl
    | some k=>simp only [Option.map_some,Bool.false_eq_true,if_false];rw [if_neg (by omega)];omega
theorem vIdx_ge {α:Type} (p:α→Bool):∀ xs:List α,-1≤vIdx p xs
  | []=>by rw [vIdx_nil];omega
  | x::xs=>by
    have:=vIdx_ge p xs;rw [vIdx_cons];split
    · omega
    · split <;> omega
theorem vIdx_lt {α:Type} (p:α→Bool):∀ xs:List α,vIdx p xs < xs.length
  | []=>by rw [vIdx_nil];simp
  | x::xs=>by
    have:=vIdx_lt p xs;rw [vIdx_cons,List.length_cons];split
    · omega
    · split <;> omega
end Go.Proofs.YtjkbngjiagknkaaGreatDoor
