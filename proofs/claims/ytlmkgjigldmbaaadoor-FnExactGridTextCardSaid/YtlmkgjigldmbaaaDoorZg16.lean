/- Laws that the proof stands on. -/
import Derived.Test.YtlmkgjigldmbaaaDoorZVB
import Derived.Test.YtlmkgjigldmbaaaDoorZg15
import Derived.Test.YtlmkgjigldmbaaaDoorZg13
import Derived.Test.YtlmkgjigldmbaaaDoorZTyBase
import Derived.Test.YtlmkgjigldmbaaaDoorZVTab
import Derived.Test.YtlmkgjigldmbaaaDoorZg11
set_option linter.all false
namespace Go.Proofs.YtlmkgjigldmbaaaDoor
open Go.RowKit Go.V
set_option maxRecDepth 100000
theorem v_szAssembly (q : Assembly) (hk : Assembly.td.ok q) (l : Int) (h0 : 0 ≤ l) (h1 : l ≤ 1048576) : Contract Tryd.prog TabG 11 [.agg (Assembly.td.d false q), .v (.int .i64 l)] (.v (.int .i64 (szR l (Assembly.cnt q)))) := by refine contract_plain (fun us W => by kernel_rfl) fun w I us hI hV => ?_; obtain ⟨u0, us, rfl, hT0, hV⟩ := vals_one hV; obtain ⟨u1, us, rfl, hT1, hV⟩ := vals_one hV; obtain rfl := vals_none hV; obtain rfl := T_v hT1; obtain ⟨cs, rfl, hr⟩ := TD.agg_dn Assembly.td hk hI rfl hT0; obtain ⟨v0, rfl, z0⟩ := Assembly.cells hr; exact szAssembly_any v0 q l h0 h1 w w.heap.size (Nat.le_refl _) z0
theorem v_eqAssembly (q : Assembly) (hk : Assembly.td.ok q) : Contract Tryd.prog TabG 17 [.agg (Assembly.td.d false q), .agg (Assembly.td.d false q)] (.v (.bool true)) := by refine contract_plain (fun us W => by kernel_rfl) fun w I us hI hV => ?_; obtain ⟨u0, us, rfl, hT0, hV⟩ := vals_one hV; obtain ⟨u1, us, rfl, hT1, hV⟩ := vals_one hV; obtain rfl := vals_none hV; obtain ⟨cs, rfl, hr⟩ := TD.agg_dn Assembly.td hk hI rfl hT0; obtain ⟨ds, rfl, hs⟩ := TD.agg_dn Assembly.td hk hI rfl hT1; obtain ⟨v0, rfl, z0⟩ := Assembly.cells hr; obtain ⟨x0, rfl, y0⟩ := Assembly.cells hs; exact eqAssembly_any v0 x0 q w w.heap.size (Nat.le_refl _) z0 y0
end Go.Proofs.YtlmkgjigldmbaaaDoor
