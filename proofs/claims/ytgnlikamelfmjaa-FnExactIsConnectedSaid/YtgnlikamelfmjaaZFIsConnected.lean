/- Laws that the proof stands on. -/
import Derived.Test.YtgnlikamelfmjaaZg13
import Derived.Test.YtgnlikamelfmjaaZVPartI
set_option linter.all false
namespace Go.Proofs.Ytgnlikamelfmjaa
open Go.RowKit Go.V
set_option maxRecDepth 100000
def isConn (xs : List Point) : Bool := okShape xs && decide ((outG xs xs.length).2.length = 1)
theorem vIsConnected_spec (q_aShape : List Point) (q_aShape_ok : ∀ y, y ∈ q_aShape → Point.td.ok y) (q_aShape_n : q_aShape.length ≤ 1048576) : Contract Try.prog NoG 8 [.sl false 2 (q_aShape.map (Point.td.d false))] (.v (.bool (isConn q_aShape))) := v_IsConnected_spec q_aShape q_aShape_n
theorem vIsConnected_impl (q_aShape : List Point) (q_aShape_ok : ∀ y, y ∈ q_aShape → Point.td.ok y) (q_aShape_n : q_aShape.length ≤ 1048576) : Contract Try.prog NoG 10 [.sl false 2 (q_aShape.map (Point.td.d false))] (.v (.bool (isConn q_aShape))) := v_IsConnected_impl q_aShape q_aShape_n q_aShape_ok
end Go.Proofs.Ytgnlikamelfmjaa
