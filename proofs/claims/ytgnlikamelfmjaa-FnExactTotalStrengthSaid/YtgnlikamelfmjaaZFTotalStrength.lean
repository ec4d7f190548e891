/- Laws that the proof stands on. -/
import Derived.Test.YtgnlikamelfmjaaZVBds
set_option linter.all false
namespace Go.Proofs.Ytgnlikamelfmjaa
open Go.RowKit Go.V
theorem vTotalStrength_spec (q_aSet : TileSet) (q_aSet_ok : TileSet.td.ok q_aSet) (q_aSet_n : TileSet.cnt q_aSet ≤ 1048576) (q_aA : Assembly) (q_aA_ok : Assembly.td.ok q_aA) (q_aA_n : Assembly.cnt q_aA ≤ 1048576) : Contract Try.prog NoG 14 [.agg (TileSet.td.d false q_aSet), .agg (Assembly.td.d false q_aA)] (.tup [.v (.int .i64 (totR q_aSet q_aA)), .v (.int .i64 (totC q_aSet q_aA))]) :=
  vTotal_spec q_aSet q_aA (setB_of q_aSet_n) (by have h : Assembly.cnt q_aA = q_aA.Tiles.length := rfl; omega)
theorem vTotalStrength_impl (q_aSet : TileSet) (q_aSet_ok : TileSet.td.ok q_aSet) (q_aSet_n : TileSet.cnt q_aSet ≤ 1048576) (q_aA : Assembly) (q_aA_ok : Assembly.td.ok q_aA) (q_aA_n : Assembly.cnt q_aA ≤ 1048576) : Contract Try.prog NoG 17 [.agg (TileSet.td.d false q_aSet), .agg (Assembly.td.d false q_aA)] (.tup [.v (.int .i64 (totR q_aSet q_aA)), .v (.int .i64 (totC q_aSet q_aA))]) :=
  vTotal_impl q_aSet q_aA (setB_of q_aSet_n) (by have h : Assembly.cnt q_aA = q_aA.Tiles.length := rfl; omega) q_aA_ok
end Go.Proofs.Ytgnlikamelfmjaa
