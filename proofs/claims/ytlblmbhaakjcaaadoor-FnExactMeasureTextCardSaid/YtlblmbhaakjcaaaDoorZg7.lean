/- Laws that the proof stands on. -/
import Derived.Test.YtlblmbhaakjcaaaDoorZMark
import Derived.Test.YtlblmbhaakjcaaaDoorZg5
set_option linter.all false
namespace Go.Proofs.YtlblmbhaakjcaaaDoor
open Go.RowKit Go.ChangeShapes Go.WideShapes Go.ChangeAt
end Go.Proofs.YtlblmbhaakjcaaaDoor
