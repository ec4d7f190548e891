/- Laws that the proof stands on. -/
import Derived.Test.YtjcmijfompcphaaDoorZMark
import Derived.Test.YtjcmijfompcphaaDoorZg5
set_option linter.all false
namespace Go.Proofs.YtjcmijfompcphaaDoor
open Go.RowKit Go.ChangeShapes Go.WideShapes Go.ChangeAt
end Go.Proofs.YtjcmijfompcphaaDoor
