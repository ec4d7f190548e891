/- Laws that the proof stands on. -/
import Derived.Test.YtaleehohmpohoaaZVd
set_option linter.all false
namespace Go.V
open Go.RowKit
section
variable {I:Nat→Prop} {w:World}
end
section
variable {s:List D}
end
end Go.V
