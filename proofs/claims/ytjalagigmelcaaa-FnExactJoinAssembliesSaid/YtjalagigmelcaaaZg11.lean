/- Laws that the proof stands on. -/
import Derived.Test.YtjalagigmelcaaaZg5
import Derived.Test.YtjalagigmelcaaaZVB
set_option linter.all false
namespace Go.Proofs.Ytjalagigmelcaaa
open Go.RowKit Go.V
def Point.td : TD Point.ty := TD.via (TD.prod (TD.int .i64) (TD.int .i64)) (fun x : Point => (x.X, x.Y))
theorem Point.td_d (o : Bool) (x : Point) : Point.td.d o x = [.v (.int .i64 x.X), .v (.int .i64 x.Y)] := rfl
theorem Point.td_ok (x : Point) : Point.td.ok x = (InK .i64 x.X ∧ InK .i64 x.Y) := rfl
def Placed.td : TD Placed.ty := TD.via (TD.prod Point.td (TD.int .i64)) (fun x : Placed => (x.At, x.Tile))
theorem Placed.td_d (o : Bool) (x : Placed) : Placed.td.d o x = [.v (.int .i64 x.At.X), .v (.int .i64 x.At.Y), .v (.int .i64 x.Tile)] := rfl
theorem Placed.td_ok (x : Placed) : Placed.td.ok x = (Point.td.ok x.At ∧ InK .i64 x.Tile) := rfl
def Assembly.td : TD Assembly.ty := TD.via ((TD.slice 60 Placed.td)) (fun x : Assembly => x.Tiles)
theorem Assembly.td_d (o : Bool) (x : Assembly) : Assembly.td.d o x = [.sl o 3 (x.Tiles.map (Placed.td.d o))] := rfl
theorem Assembly.td_ok (x : Assembly) : Assembly.td.ok x = ((∀ y, y ∈ x.Tiles → Placed.td.ok y)) := rfl
end Go.Proofs.Ytjalagigmelcaaa
