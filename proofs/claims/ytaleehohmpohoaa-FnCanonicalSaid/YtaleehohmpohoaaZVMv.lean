/- Laws that the proof stands on. -/
import Derived.Test.YtaleehohmpohoaaZVd
set_option linter.all false
namespace Go.V
open Go.RowKit
section
variable {I:Nat→Prop} {w:World}
end
def setM (t j:Nat)(ps:List D)(cells':List D):Option D→Option D→Prop
  | some (.ref t' []),some (.sl true sz rows)=>t'=t∧(D.sl true sz rows).prune (fun _=>false)=.sl true sz rows∧leL (ps.set j (.sl true sz rows)) cells'
  | _,_=>leL ps cells'
section
variable {s:List D}
end
end Go.V
