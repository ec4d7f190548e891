/- Laws that the proof stands on. -/
import Derived.Test.YtddkkndgpcgdpaaGreatZg10
set_option linter.all false
namespace Go.Proofs.YtddkkndgpcgdpaaGreat
open Go.RowKit Go.V
set_option maxRecDepth 100000
end Go.Proofs.YtddkkndgpcgdpaaGreat
