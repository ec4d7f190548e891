/- Made by tdgen.py: Placed, as the machine holds it. -/
import Derived.Test.YtlblmbhaakjcaaaTyPlaced
import Derived.Test.YtlblmbhaakjcaaaVB
import Derived.Test.YtlblmbhaakjcaaaTdPoint
set_option linter.unusedSimpArgs false
set_option linter.unusedVariables false
set_option linter.all false
namespace Go.Proofs.Ytlblmbhaakjcaaa
open Go.RowKit Go.V
def Placed.td : TD Placed.ty := TD.via (TD.prod Point.td (TD.int .i64)) (fun x : Placed => (x.At, x.Tile))
theorem Placed.td_d (o : Bool) (x : Placed) : Placed.td.d o x = [.v (.int .i64 x.At.X), .v (.int .i64 x.At.Y), .v (.int .i64 x.Tile)] := rfl
theorem Placed.td_ok (x : Placed) : Placed.td.ok x = (Point.td.ok x.At ∧ InK .i64 x.Tile) := rfl
theorem Placed.eq_dec (a b : Placed) : (decide (a.At.X = b.At.X) && (decide (a.At.Y = b.At.Y) && decide (a.Tile = b.Tile))) = decide (a = b) := by
  obtain ⟨⟨a00, a01⟩, a1⟩ := a
  obtain ⟨⟨b00, b01⟩, b1⟩ := b
  rw [Bool.eq_iff_iff]
  simp [and_assoc]
end Go.Proofs.Ytlblmbhaakjcaaa
