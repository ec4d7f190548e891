/- Made by vlgen.py: the laws' functions of Glue. -/
import Derived.Test.YtmgkmkbjmaapeaaZTdGlue
import Derived.Test.YtmgkmkbjmaapeaaZMkGlue
import Derived.Test.YtmgkmkbjmaapeaaZVLBase
set_option linter.all false
namespace Go.Proofs.Ytmgkmkbjmaapeaa
open Go.RowKit Go.V
set_option maxRecDepth 100000
theorem Glue.mkE_ok (x : Glue) (k : Int) (h0 : 0 ≤ k) (hk : k + (Glue.cnE x : Nat) ≤ 4611686018427387904) : Glue.td.ok (Glue.mkE x k) := by
  have hc : Glue.cnE x = 1 + 1 := rfl
  rw [Glue.td_ok]
  exact ⟨(markT_size _), (show InK .i64 ((k + 1)) from ⟨by omega, by omega⟩)⟩
end Go.Proofs.Ytmgkmkbjmaapeaa
