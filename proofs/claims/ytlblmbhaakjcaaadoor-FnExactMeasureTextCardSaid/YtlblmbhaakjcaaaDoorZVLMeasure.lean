/- Laws that the proof stands on. -/
import Derived.Test.YtlblmbhaakjcaaaDoorZTdMeasure
import Derived.Test.YtlblmbhaakjcaaaDoorZg7
import Derived.Test.YtlblmbhaakjcaaaDoorZg11
set_option linter.all false
namespace Go.Proofs.YtlblmbhaakjcaaaDoor
open Go.RowKit Go.V
set_option maxRecDepth 100000
end Go.Proofs.YtlblmbhaakjcaaaDoor
