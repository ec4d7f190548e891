/- Laws that the proof stands on. -/
import Derived.Test.YtddkkndgpcgdpaaZg13
import Derived.Test.YtddkkndgpcgdpaaZg12
set_option linter.all false
namespace Go.Proofs.Ytddkkndgpcgdpaa
open Go.RowKit Go.V
theorem setR_cn {a : TileSet} (h : TileSet.cnt a ≤ 100000000) : a.cnT ≤ 1000000000000 := by have := TileSet.cnT_le a; omega
theorem set0_ok : TileSet.td.ok ⟨[], []⟩ := by rw [TileSet.td_ok]; exact ⟨fun _ h => (by cases h), fun _ h => (by cases h)⟩
end Go.Proofs.Ytddkkndgpcgdpaa
