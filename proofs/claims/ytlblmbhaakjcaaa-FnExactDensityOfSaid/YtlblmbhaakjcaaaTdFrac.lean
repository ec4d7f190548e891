/- Made by tdgen.py: Frac, as the machine holds it. -/
import Derived.Test.YtlblmbhaakjcaaaTyFrac
import Derived.Test.YtlblmbhaakjcaaaVB
set_option linter.unusedSimpArgs false
set_option linter.unusedVariables false
set_option linter.all false
namespace Go.Proofs.Ytlblmbhaakjcaaa
open Go.RowKit Go.V
def Frac.td : TD Frac.ty := TD.via (TD.prod (TD.int .i64) (TD.int .i64)) (fun x : Frac => (x.Num, x.Den))
theorem Frac.td_d (o : Bool) (x : Frac) : Frac.td.d o x = [.v (.int .i64 x.Num), .v (.int .i64 x.Den)] := rfl
theorem Frac.td_ok (x : Frac) : Frac.td.ok x = (InK .i64 x.Num ∧ InK .i64 x.Den) := rfl
theorem Frac.eq_dec (a b : Frac) : (decide (a.Num = b.Num) && decide (a.Den = b.Den)) = decide (a = b) := by
  obtain ⟨a0, a1⟩ := a
  obtain ⟨b0, b1⟩ := b
  rw [Bool.eq_iff_iff]
  simp
end Go.Proofs.Ytlblmbhaakjcaaa
