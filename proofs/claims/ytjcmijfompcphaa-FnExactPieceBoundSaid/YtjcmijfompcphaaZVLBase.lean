/- Laws that the proof stands on. -/
import Derived.Test.YtjcmijfompcphaaZVB
import Derived.Test.YtjcmijfompcphaaZMkText
import Derived.Test.YtjcmijfompcphaaZg10
import Derived.Test.YtjcmijfompcphaaZTyBase
set_option linter.all false
namespace Go.Proofs.Ytjcmijfompcphaa
open Go.RowKit Go.V
set_option maxRecDepth 100000
end Go.Proofs.Ytjcmijfompcphaa
