/- Laws that the proof stands on. -/
import Derived.Test.YtjalagigmelcaaaZg12
set_option linter.all false
namespace Go.Proofs.Ytjalagigmelcaaa
open Go.RowKit Go.V
set_option maxRecDepth 100000
theorem all_next {f : Nat → Bool} {i : Nat} (h : (List.range i).all f = true) (hi : f i = true) : (List.range (i + 1)).all f = true := by rw [List.range_succ, List.all_append, h]; simp [hi]
end Go.Proofs.Ytjalagigmelcaaa
