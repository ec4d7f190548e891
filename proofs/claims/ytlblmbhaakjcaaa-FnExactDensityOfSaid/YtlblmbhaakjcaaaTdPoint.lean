/- Made by tdgen.py: Point, as the machine holds it. -/
import Derived.Test.YtlblmbhaakjcaaaTyPoint
import Derived.Test.YtlblmbhaakjcaaaVB
set_option linter.unusedSimpArgs false
set_option linter.unusedVariables false
set_option linter.all false
namespace Go.Proofs.Ytlblmbhaakjcaaa
open Go.RowKit Go.V
def Point.td : TD Point.ty := TD.via (TD.prod (TD.int .i64) (TD.int .i64)) (fun x : Point => (x.X, x.Y))
theorem Point.td_d (o : Bool) (x : Point) : Point.td.d o x = [.v (.int .i64 x.X), .v (.int .i64 x.Y)] := rfl
theorem Point.td_ok (x : Point) : Point.td.ok x = (InK .i64 x.X ∧ InK .i64 x.Y) := rfl
theorem Point.eq_dec (a b : Point) : (decide (a.X = b.X) && decide (a.Y = b.Y)) = decide (a = b) := by
  obtain ⟨a0, a1⟩ := a
  obtain ⟨b0, b1⟩ := b
  rw [Bool.eq_iff_iff]
  simp
end Go.Proofs.Ytlblmbhaakjcaaa
