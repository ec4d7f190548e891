/- Laws that the proof stands on. -/
import Derived.Test.YtbflchedmfeghaaDoorZg24
set_option linter.all false
namespace Go.Proofs.YtbflchedmfeghaaDoor
open Go.RowKit Go.V
theorem SorterR_ok (b : Int) (_ : InK .i64 b) (xs : List Int) (_ : ∀ x, x ∈ xs → InK .i64 x) (_ : xs.length ≤ 1048576) : System.td.ok (SorterR b xs) := smS_ok (SorterR_sm b xs)
theorem SorterR_cn (b : Int) (xs : List Int) : (SorterR b xs).cnT ≤ 1000000000000 := smS_cn (SorterR_sm b xs)
end Go.Proofs.YtbflchedmfeghaaDoor
