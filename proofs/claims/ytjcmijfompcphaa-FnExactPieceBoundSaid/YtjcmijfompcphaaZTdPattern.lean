/- Laws that the proof stands on. -/
import Derived.Test.YtjcmijfompcphaaZg10
import Derived.Test.YtjcmijfompcphaaZVB
set_option linter.all false
namespace Go.Proofs.Ytjcmijfompcphaa
open Go.RowKit Go.V
def Pattern.td : TD Pattern.ty := TD.via (TD.prod (TD.int .i64) (TD.prod (TD.int .i64) (TD.slice 2 (TD.int .i64)))) (fun x : Pattern => (x.Width, x.Height, x.Cells))
theorem Pattern.td_d (o : Bool) (x : Pattern) : Pattern.td.d o x = [.v (.int .i64 x.Width), .v (.int .i64 x.Height), .sl o 1 (x.Cells.map (rI))] := rfl
end Go.Proofs.Ytjcmijfompcphaa
