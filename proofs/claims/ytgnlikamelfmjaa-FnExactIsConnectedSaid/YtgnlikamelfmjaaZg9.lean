/- Laws that the proof stands on. -/
import Derived.Test.YtgnlikamelfmjaaZg5
import Derived.Test.YtgnlikamelfmjaaZVB
set_option linter.all false
namespace Go.Proofs.Ytgnlikamelfmjaa
open Go.RowKit Go.V
def Point.td : TD Point.ty := TD.via (TD.prod (TD.int .i64) (TD.int .i64)) (fun x : Point => (x.X, x.Y))
theorem Point.td_d (o : Bool) (x : Point) : Point.td.d o x = [.v (.int .i64 x.X), .v (.int .i64 x.Y)] := rfl
theorem Point.eq_dec (a b : Point) : (decide (a.X = b.X) && decide (a.Y = b.Y)) = decide (a = b) := by obtain ⟨a0, a1⟩ := a; obtain ⟨b0, b1⟩ := b; rw [Bool.eq_iff_iff]; simp
def Placed.td : TD Placed.ty := TD.via (TD.prod Point.td (TD.int .i64)) (fun x : Placed => (x.At, x.Tile))
theorem Placed.td_d (o : Bool) (x : Placed) : Placed.td.d o x = [.v (.int .i64 x.At.X), .v (.int .i64 x.At.Y), .v (.int .i64 x.Tile)] := rfl
theorem Placed.eq_dec (a b : Placed) : (decide (a.At.X = b.At.X) && (decide (a.At.Y = b.At.Y) && decide (a.Tile = b.Tile))) = decide (a = b) := by obtain ⟨⟨a00, a01⟩, a1⟩ := a; obtain ⟨⟨b00, b01⟩, b1⟩ := b; rw [Bool.eq_iff_iff]; simp [and_assoc]
def Assembly.td : TD Assembly.ty := TD.via ((TD.slice 101 Placed.td)) (fun x : Assembly => x.Tiles)
theorem Assembly.td_d (o : Bool) (x : Assembly) : Assembly.td.d o x = [.sl o 3 (x.Tiles.map (Placed.td.d o))] := rfl
end Go.Proofs.Ytgnlikamelfmjaa
