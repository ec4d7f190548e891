/- Laws that the proof stands on. -/
import Derived.Test.YtkaehgnnhookpaaZVB
import Derived.Test.YtkaehgnnhookpaaProg
import Derived.Test.YtkaehgnnhookpaaZg10
import Derived.Test.YtkaehgnnhookpaaZTyBase
import Derived.Test.YtkaehgnnhookpaaZg11
set_option linter.all false
namespace Go.Proofs.Ytkaehgnnhookpaa
open Go.RowKit Go.V
set_option maxRecDepth 100000
end Go.Proofs.Ytkaehgnnhookpaa
