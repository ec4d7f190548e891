/- Laws that the proof stands on. -/
import Derived.Test.YtkaehgnnhookpaaZVB
import Derived.Test.YtkaehgnnhookpaaProg
set_option linter.all false
namespace Go.Proofs.Ytkaehgnnhookpaa
open Go.RowKit Go.V
set_option maxRecDepth 100000
end Go.Proofs.Ytkaehgnnhookpaa
