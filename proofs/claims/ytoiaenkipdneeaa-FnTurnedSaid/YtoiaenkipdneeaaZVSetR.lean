/- Laws that the proof stands on. -/
import Derived.Test.YtoiaenkipdneeaaZg10
import Derived.Test.YtoiaenkipdneeaaZg13
set_option linter.all false
namespace Go.Proofs.Ytoiaenkipdneeaa
open Go.RowKit Go.V
end Go.Proofs.Ytoiaenkipdneeaa
