/- Laws that the proof stands on. -/
import Derived.Test.YtjcmijfompcphaaZTdPattern
import Derived.Test.YtjcmijfompcphaaZg10
import Derived.Test.YtjcmijfompcphaaZVLBase
set_option linter.all false
namespace Go.Proofs.Ytjcmijfompcphaa
open Go.RowKit Go.V
set_option maxRecDepth 100000
theorem v_szPattern (q : Pattern) (hk : Pattern.td.ok q) (l : Int) (h0 : 0 ≤ l) (h1 : l ≤ 1048576) : Contract Try.prog NoG 4 [.agg (Pattern.td.d false q), .v (.int .i64 l)] (.v (.int .i64 (szR l (Pattern.cnt q)))) := by refine contract_plain (fun us W => by kernel_rfl) fun w I us hI hV => ?_; obtain ⟨u0, us, rfl, hT0, hV⟩ := vals_one hV; obtain ⟨u1, us, rfl, hT1, hV⟩ := vals_one hV; obtain rfl := vals_none hV; obtain rfl := T_v hT1; obtain ⟨cs, rfl, hr⟩ := TD.agg_dn Pattern.td hk hI rfl hT0; obtain ⟨v0, rfl, z0, z1, z2⟩ := Pattern.cells hr; exact szPattern_any v0 q l h0 h1 w w.heap.size (Nat.le_refl _) z2
theorem v_eqPattern (q : Pattern) (hk : Pattern.td.ok q) : Contract Try.prog NoG 8 [.agg (Pattern.td.d false q), .agg (Pattern.td.d false q)] (.v (.bool true)) := by refine contract_plain (fun us W => by kernel_rfl) fun w I us hI hV => ?_; obtain ⟨u0, us, rfl, hT0, hV⟩ := vals_one hV; obtain ⟨u1, us, rfl, hT1, hV⟩ := vals_one hV; obtain rfl := vals_none hV; obtain ⟨cs, rfl, hr⟩ := TD.agg_dn Pattern.td hk hI rfl hT0; obtain ⟨ds, rfl, hs⟩ := TD.agg_dn Pattern.td hk hI rfl hT1; obtain ⟨v0, rfl, z0, z1, z2⟩ := Pattern.cells hr; obtain ⟨x0, rfl, y0, y1, y2⟩ := Pattern.cells hs; exact eqPattern_any v0 x0 q w w.heap.size (Nat.le_refl _) z2 y2
end Go.Proofs.Ytjcmijfompcphaa
