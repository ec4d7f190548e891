/- Laws that the proof stands on. -/
import Derived.Test.YtjcgpppmikjbnaaZVB
import Derived.Test.YtjcgpppmikjbnaaProg
set_option linter.all false
namespace Go.Proofs.Ytjcgpppmikjbnaa
open Go.RowKit Go.V
set_option maxRecDepth 100000
end Go.Proofs.Ytjcgpppmikjbnaa
