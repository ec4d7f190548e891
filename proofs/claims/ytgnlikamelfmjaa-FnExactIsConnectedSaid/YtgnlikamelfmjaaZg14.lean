/- Laws that the proof stands on. -/
import Derived.Test.YtgnlikamelfmjaaZVB
import Derived.Test.YtgnlikamelfmjaaZg13
import Derived.Test.YtgnlikamelfmjaaZg12
import Derived.Test.YtgnlikamelfmjaaZg5
import Derived.Test.YtgnlikamelfmjaaZg9
set_option linter.all false
namespace Go.Proofs.Ytgnlikamelfmjaa
open Go.RowKit Go.V
set_option maxRecDepth 100000
theorem v_szPointS (q : List Point) (hk : ∀ x, x ∈ q → Point.td.ok x) (l : Int) (h0 : 0 ≤ l) (h1 : l ≤ 1048576) : Contract Try.prog NoG 7 [(.sl false 2 (q.map (Point.td.d false))), .v (.int .i64 l)] (.v (.int .i64 (szR l (q.length)))) := by refine contract_plain (fun us W => by kernel_rfl) fun w I us hI hV => ?_; obtain ⟨u0, us, rfl, hT0, hV⟩ := vals_one hV; obtain ⟨u1, us, rfl, hT1, hV⟩ := vals_one hV; obtain rfl := vals_none hV; obtain rfl := T_v hT1; have hr := TD.sl_dn (e := 61) Point.td hk hI rfl hT0; exact szPointS_any _ q l h0 h1 w w.heap.size (Nat.le_refl _) hr
theorem v_eqPointS (q : List Point) (hk : ∀ x, x ∈ q → Point.td.ok x) : Contract Try.prog NoG 11 [(.sl false 2 (q.map (Point.td.d false))), (.sl false 2 (q.map (Point.td.d false)))] (.v (.bool true)) := by refine contract_plain (fun us W => by kernel_rfl) fun w I us hI hV => ?_; obtain ⟨u0, us, rfl, hT0, hV⟩ := vals_one hV; obtain ⟨u1, us, rfl, hT1, hV⟩ := vals_one hV; obtain rfl := vals_none hV; have hr := TD.sl_dn (e := 61) Point.td hk hI rfl hT0; have hs := TD.sl_dn (e := 61) Point.td hk hI rfl hT1; exact eqPointS_any _ _ q w w.heap.size (Nat.le_refl _) hr hs
end Go.Proofs.Ytgnlikamelfmjaa
