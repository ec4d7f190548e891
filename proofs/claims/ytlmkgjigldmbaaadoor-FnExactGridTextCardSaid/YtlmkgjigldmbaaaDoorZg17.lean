/- Laws that the proof stands on. -/
import Derived.Test.YtlmkgjigldmbaaaDoorZMark
import Derived.Test.YtlmkgjigldmbaaaDoorZg13
import Derived.Test.YtlmkgjigldmbaaaDoorZg8
import Derived.Test.YtlmkgjigldmbaaaDoorZg15
set_option linter.all false
namespace Go.Proofs.YtlmkgjigldmbaaaDoor
open Go.RowKit Go.ChangeShapes Go.WideShapes Go.ChangeAt
end Go.Proofs.YtlmkgjigldmbaaaDoor
