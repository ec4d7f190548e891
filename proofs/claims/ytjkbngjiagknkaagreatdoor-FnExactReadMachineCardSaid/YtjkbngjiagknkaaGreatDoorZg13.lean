/- Laws that the proof stands on. -/
import Derived.Test.YtjkbngjiagknkaaGreatDoorZg6
import Derived.Test.YtjkbngjiagknkaaGreatDoorZVB
set_option linter.all false
namespace Go.Proofs.YtjkbngjiagknkaaGreatDoor
open Go.RowKit Go.V
def Move.td:TD Move.ty:=TD.via (TD.prod (TD.int .i64) (TD.prod (TD.int .i64) (TD.prod (TD.int .i64) (TD.prod (TD.int .i64) (TD.int .i64))))) (fun x:Move=>(x.State,x.Read,x.Write,x.Dir,x.Next))
theorem Move.td_d (o:Bool) (x:Move):Move.td.d o x=[.v (.int .i64 x.State),.v (.int .i64 x.Read),.v (.int .i64 x.Write),.v (.int .i64 x.Dir),.v (.int .i64 x.Next)]:=rfl
theorem Move.td_ok (x:Move):Move.td.ok x=(InK .i64 x.State∧InK .i64 x.Read∧InK .i64 x.Write∧InK .i64 x.Dir∧InK .i64 x.Next):=rfl
def Machine.td:TD Machine.ty:=TD.via (TD.prod (TD.int .i64) (TD.prod (TD.int .i64) (TD.slice 86 Move.td))) (fun x:Machine=>(x.States,x.Symbols,x.Moves))
theorem Machine.td_d (o:Bool) (x:Machine):Machine.td.d o x=[.v (.int .i64 x.States),.v (.int .i64 x.Symbols),.sl o 5 (x.Moves.map (Move.td.d o))]:=rfl
theorem Machine.td_ok (x:Machine):Machine.td.ok x=(InK .i64 x.States∧InK .i64 x.Symbols∧(∀ y,y∈x.Moves→Move.td.ok y)):=rfl
def Config.td:TD Config.ty:=TD.via (TD.prod (TD.slice 2 (TD.int .i64)) (TD.prod (TD.int .i64) (TD.int .i64))) (fun x:Config=>(x.Tape,x.Head,x.State))
theorem Config.td_d (o:Bool) (x:Config):Config.td.d o x=[.sl o 1 (x.Tape.map (rI)),.v (.int .i64 x.Head),.v (.int .i64 x.State)]:=rfl
theorem Config.td_ok (x:Config):Config.td.ok x=((∀ y,y∈x.Tape→InK .i64 y)∧InK .i64 x.Head∧InK .i64 x.State):=rfl
end Go.Proofs.YtjkbngjiagknkaaGreatDoor
