/- Laws that the proof stands on. -/
import Derived.Test.YtaleehohmpohoaaZg6
import Derived.Test.YtaleehohmpohoaaZVB
set_option linter.all false
namespace Go.Proofs.Ytaleehohmpohoaa
open Go.RowKit Go.V
def Piece.td:TD Piece.ty:=TD.via (TD.prod (TD.int .i64) (TD.prod (TD.int .i64) (TD.prod (TD.int .i64) (TD.prod (TD.int .i64) (TD.int .i64))))) (fun x:Piece=>(x.Color,x.North,x.East,x.South,x.West))
theorem Piece.td_d (o:Bool)(x:Piece):Piece.td.d o x=[.v (.int .i64 x.Color),.v (.int .i64 x.North),.v (.int .i64 x.East),.v (.int .i64 x.South),.v (.int .i64 x.West)]:=rfl
theorem Piece.td_ok (x:Piece):Piece.td.ok x=(InK .i64 x.Color∧InK .i64 x.North∧InK .i64 x.East∧InK .i64 x.South∧InK .i64 x.West):=rfl
def Design.td:TD Design.ty:=TD.via (TD.prod (TD.slice 2 (TD.int .i64)) (TD.prod (TD.slice 2 (TD.int .i64)) (TD.slice 63 Piece.td))) (fun x:Design=>(x.Bottom,x.Left,x.Pieces))
theorem Design.td_d (o:Bool)(x:Design):Design.td.d o x=[.sl o 1 (x.Bottom.map (rI)),.sl o 1 (x.Left.map (rI)),.sl o 5 (x.Pieces.map (Piece.td.d o))]:=rfl
theorem Design.td_ok (x:Design):Design.td.ok x=((∀ y,y∈x.Bottom→InK .i64 y)∧(∀ y,y∈x.Left→InK .i64 y)∧(∀ y,y∈x.Pieces→Piece.td.ok y)):=rfl
def Pattern.td:TD Pattern.ty:=TD.via (TD.prod (TD.int .i64) (TD.prod (TD.int .i64) (TD.slice 2 (TD.int .i64)))) (fun x:Pattern=>(x.Width,x.Height,x.Cells))
theorem Pattern.td_d (o:Bool)(x:Pattern):Pattern.td.d o x=[.v (.int .i64 x.Width),.v (.int .i64 x.Height),.sl o 1 (x.Cells.map (rI))]:=rfl
theorem Pattern.td_ok (x:Pattern):Pattern.td.ok x=(InK .i64 x.Width∧InK .i64 x.Height∧(∀ y,y∈x.Cells→InK .i64 y)):=rfl
end Go.Proofs.Ytaleehohmpohoaa
