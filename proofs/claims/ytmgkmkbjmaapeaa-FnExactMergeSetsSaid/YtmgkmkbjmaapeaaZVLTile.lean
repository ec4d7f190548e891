/- Made by vlgen.py: the laws' functions of Tile. -/
import Derived.Test.YtmgkmkbjmaapeaaZTdTile
import Derived.Test.YtmgkmkbjmaapeaaZMkTile
import Derived.Test.YtmgkmkbjmaapeaaZVLBase
set_option linter.all false
namespace Go.Proofs.Ytmgkmkbjmaapeaa
open Go.RowKit Go.V
set_option maxRecDepth 100000
theorem Tile.mkE_ok (x : Tile) (k : Int) (h0 : 0 ≤ k) (hk : k + (Tile.cnE x : Nat) ≤ 4611686018427387904) : Tile.td.ok (Tile.mkE x k) := by
  have hc : Tile.cnE x = 1 + cnS (fun _ => 1) x.Sides := rfl
  rw [Tile.td_ok]
  exact ⟨(markT_size _), (mkL_ok (ok := (TD.int .i64).ok) mkI_ok _ (k + 1) (by omega) (by omega))⟩
end Go.Proofs.Ytmgkmkbjmaapeaa
