/- Laws that the proof stands on. -/
import Derived.Test.YtkaehgnnhookpaaZMark
import Derived.Test.YtkaehgnnhookpaaZg10
import Derived.Test.YtkaehgnnhookpaaZg13
set_option linter.all false
namespace Go.Proofs.Ytkaehgnnhookpaa
open Go.RowKit Go.ChangeShapes Go.WideShapes Go.ChangeAt
end Go.Proofs.Ytkaehgnnhookpaa
