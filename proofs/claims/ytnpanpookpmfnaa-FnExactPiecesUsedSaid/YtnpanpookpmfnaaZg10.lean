/- Laws that the proof stands on. -/
import Derived.Test.YtnpanpookpmfnaaZg9
import Derived.Test.YtnpanpookpmfnaaZVB
set_option linter.all false
namespace Go.Proofs.Ytnpanpookpmfnaa
open Go.RowKit Go.V
def Piece.td : TD Piece.ty := TD.via (TD.prod (TD.int .i64) (TD.prod (TD.int .i64) (TD.prod (TD.int .i64) (TD.prod (TD.int .i64) (TD.int .i64))))) (fun x : Piece => (x.Color, x.North, x.East, x.South, x.West))
theorem Piece.td_d (o : Bool) (x : Piece) : Piece.td.d o x = [.v (.int .i64 x.Color), .v (.int .i64 x.North), .v (.int .i64 x.East), .v (.int .i64 x.South), .v (.int .i64 x.West)] := rfl
def Design.td : TD Design.ty := TD.via (TD.prod (TD.slice 2 (TD.int .i64)) (TD.prod (TD.slice 2 (TD.int .i64)) (TD.slice 68 Piece.td))) (fun x : Design => (x.Bottom, x.Left, x.Pieces))
theorem Design.td_d (o : Bool) (x : Design) : Design.td.d o x = [.sl o 1 (x.Bottom.map (rI)), .sl o 1 (x.Left.map (rI)), .sl o 5 (x.Pieces.map (Piece.td.d o))] := rfl
end Go.Proofs.Ytnpanpookpmfnaa
