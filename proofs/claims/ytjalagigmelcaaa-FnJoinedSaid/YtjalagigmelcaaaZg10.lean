/- Laws that the proof stands on. -/
import Derived.Test.YtjalagigmelcaaaZMark
import Derived.Test.YtjalagigmelcaaaZg5
set_option linter.all false
namespace Go.Proofs.Ytjalagigmelcaaa
open Go.RowKit Go.ChangeShapes Go.WideShapes Go.ChangeAt
end Go.Proofs.Ytjalagigmelcaaa
