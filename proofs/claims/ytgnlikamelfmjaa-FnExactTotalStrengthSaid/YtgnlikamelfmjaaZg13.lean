/- Laws that the proof stands on. -/
import Derived.Test.YtgnlikamelfmjaaZMark
import Derived.Test.YtgnlikamelfmjaaZg9
import Derived.Test.YtgnlikamelfmjaaZg11
set_option linter.all false
namespace Go.Proofs.Ytgnlikamelfmjaa
open Go.RowKit Go.ChangeShapes Go.WideShapes Go.ChangeAt
end Go.Proofs.Ytgnlikamelfmjaa
