/- Laws that the proof stands on. -/
import Derived.Test.YtoiaenkipdneeaaZMark
import Derived.Test.YtoiaenkipdneeaaZMkBase
import Derived.Test.YtoiaenkipdneeaaZg5
import Derived.Test.YtoiaenkipdneeaaZMkText
set_option linter.all false
namespace Go.Proofs.Ytoiaenkipdneeaa
open Go.RowKit Go.ChangeShapes Go.WideShapes Go.ChangeAt
end Go.Proofs.Ytoiaenkipdneeaa
