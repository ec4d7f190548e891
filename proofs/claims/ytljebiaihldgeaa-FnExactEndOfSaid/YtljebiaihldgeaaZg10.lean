/- Laws that the proof stands on. -/
import Derived.Test.YtljebiaihldgeaaZMark
import Derived.Test.YtljebiaihldgeaaZTyBase
import Derived.Test.YtljebiaihldgeaaZg6
set_option linter.all false
namespace Go.Proofs.Ytljebiaihldgeaa
open Go.RowKit Go.ChangeShapes Go.WideShapes Go.ChangeAt
end Go.Proofs.Ytljebiaihldgeaa
