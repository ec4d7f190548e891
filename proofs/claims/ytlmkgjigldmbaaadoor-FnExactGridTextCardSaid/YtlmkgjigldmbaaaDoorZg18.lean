/- Laws that the proof stands on. -/
import Derived.Test.YtlmkgjigldmbaaaDoorZg11
import Derived.Test.YtlmkgjigldmbaaaDoorZg17
import Derived.Test.YtlmkgjigldmbaaaDoorZg16
import Derived.Test.YtlmkgjigldmbaaaDoorZVTab
set_option linter.all false
namespace Go.Proofs.YtlmkgjigldmbaaaDoor
open Go.RowKit Go.V
set_option maxRecDepth 100000
theorem v_szTileSet (q : TileSet) (hk : TileSet.td.ok q) (l : Int) (h0 : 0 ≤ l) (h1 : l ≤ 1048576) : Contract Tryd.prog TabG 10 [.agg (TileSet.td.d false q), .v (.int .i64 l)] (.v (.int .i64 (szR l (TileSet.cnt q)))) := by refine contract_plain (fun us W => by kernel_rfl) fun w I us hI hV => ?_; obtain ⟨u0, us, rfl, hT0, hV⟩ := vals_one hV; obtain ⟨u1, us, rfl, hT1, hV⟩ := vals_one hV; obtain rfl := vals_none hV; obtain rfl := T_v hT1; obtain ⟨cs, rfl, hr⟩ := TD.agg_dn TileSet.td hk hI rfl hT0; obtain ⟨v0, v1, rfl, z0, z1⟩ := TileSet.cells hr; exact szTileSet_any v0 v1 q l h0 h1 w w.heap.size (Nat.le_refl _) z0 z1
theorem v_eqTileSet (q : TileSet) (hk : TileSet.td.ok q) : Contract Tryd.prog TabG 16 [.agg (TileSet.td.d false q), .agg (TileSet.td.d false q)] (.v (.bool true)) := by refine contract_plain (fun us W => by kernel_rfl) fun w I us hI hV => ?_; obtain ⟨u0, us, rfl, hT0, hV⟩ := vals_one hV; obtain ⟨u1, us, rfl, hT1, hV⟩ := vals_one hV; obtain rfl := vals_none hV; obtain ⟨cs, rfl, hr⟩ := TD.agg_dn TileSet.td hk hI rfl hT0; obtain ⟨ds, rfl, hs⟩ := TD.agg_dn TileSet.td hk hI rfl hT1; obtain ⟨v0, v1, rfl, z0, z1⟩ := TileSet.cells hr; obtain ⟨x0, x1, rfl, y0, y1⟩ := TileSet.cells hs; exact eqTileSet_any v0 v1 x0 x1 q w w.heap.size (Nat.le_refl _) z0 z1 y0 y1
end Go.Proofs.YtlmkgjigldmbaaaDoor
