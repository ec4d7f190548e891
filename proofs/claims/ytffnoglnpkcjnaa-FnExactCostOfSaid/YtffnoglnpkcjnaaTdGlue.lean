/- Made by tdgen.py: Glue, as the machine holds it. -/
import Derived.Test.YtffnoglnpkcjnaaTyGlue
import Derived.Test.YtffnoglnpkcjnaaVB
set_option linter.unusedSimpArgs false
set_option linter.unusedVariables false
set_option linter.all false
namespace Go.Proofs.Ytffnoglnpkcjnaa
open Go.RowKit Go.V
def Glue.td : TD Glue.ty := TD.via (TD.prod TD.str (TD.int .i64)) (fun x : Glue => (x.Name, x.Strength))
theorem Glue.td_d (o : Bool) (x : Glue) : Glue.td.d o x = [.v (.string x.Name), .v (.int .i64 x.Strength)] := rfl
theorem Glue.td_ok (x : Glue) : Glue.td.ok x = (x.Name.size ≤ maxLen ∧ InK .i64 x.Strength) := rfl
theorem Glue.eq_dec (a b : Glue) : (decide (a.Name = b.Name) && decide (a.Strength = b.Strength)) = decide (a = b) := by
  obtain ⟨a0, a1⟩ := a
  obtain ⟨b0, b1⟩ := b
  rw [Bool.eq_iff_iff]
  simp
end Go.Proofs.Ytffnoglnpkcjnaa
