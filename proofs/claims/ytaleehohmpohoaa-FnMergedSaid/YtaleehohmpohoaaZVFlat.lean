/- Laws that the proof stands on. -/
import Derived.Test.YtaleehohmpohoaaZVB
set_option linter.all false
namespace Go.V
open Go.RowKit
section
variable {P:Program} {G:World→(Nat→Prop)→Prop} {w0:Base} {I0:Nat→Prop}
end
end Go.V
