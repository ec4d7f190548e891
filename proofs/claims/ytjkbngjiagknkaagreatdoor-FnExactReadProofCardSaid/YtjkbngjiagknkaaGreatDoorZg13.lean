/- Laws that the proof stands on. -/
import Derived.Test.YtjkbngjiagknkaaGreatDoorZg7
import Derived.Test.YtjkbngjiagknkaaGreatDoorZVB
set_option linter.all false
namespace Go.Proofs.YtjkbngjiagknkaaGreatDoor
open Go.RowKit Go.V
def Point.td:TD Point.ty:=TD.via (TD.prod (TD.int .i64) (TD.int .i64)) (fun x:Point=>(x.X,x.Y))
theorem Point.td_d (o:Bool) (x:Point):Point.td.d o x=[.v (.int .i64 x.X),.v (.int .i64 x.Y)]:=rfl
theorem Point.td_ok (x:Point):Point.td.ok x=(InK .i64 x.X∧InK .i64 x.Y):=rfl
def Option.td:TD Option.ty:=TD.via (TD.prod Point.td (TD.int .i64)) (fun x:Option=>(x.At,x.Tile))
theorem Option.td_d (o:Bool) (x:Option):Option.td.d o x=[.v (.int .i64 x.At.X),.v (.int .i64 x.At.Y),.v (.int .i64 x.Tile)]:=rfl
theorem Option.td_ok (x:Option):Option.td.ok x=(Point.td.ok x.At∧InK .i64 x.Tile):=rfl
def Proof.td:TD Proof.ty:=TD.via (TD.prod (TD.int .i64) (TD.prod (TD.slice 114 Option.td) (TD.prod (TD.slice 114 Option.td) (TD.prod (TD.slice 2 (TD.int .i64)) (TD.slice 31 (TD.slice 2 (TD.int .i64))))))) (fun x:Proof=>(x.Kind,x.Sequence,x.Other,x.Part,x.Flows))
theorem Proof.td_d (o:Bool) (x:Proof):Proof.td.d o x=[.v (.int .i64 x.Kind),.sl o 3 (x.Sequence.map (Option.td.d o)),.sl o 3 (x.Other.map (Option.td.d o)),.sl o 1 (x.Part.map (rI)),.sl o 1 (x.Flows.map (fun x=>[.sl o 1 (x.map (rI))]))]:=rfl
theorem Proof.td_ok (x:Proof):Proof.td.ok x=(InK .i64 x.Kind∧(∀ y,y∈x.Sequence→Option.td.ok y)∧(∀ y,y∈x.Other→Option.td.ok y)∧(∀ y,y∈x.Part→InK .i64 y)∧(∀ y,y∈x.Flows→∀ yy,yy∈y→InK .i64 yy)):=rfl
end Go.Proofs.YtjkbngjiagknkaaGreatDoor
