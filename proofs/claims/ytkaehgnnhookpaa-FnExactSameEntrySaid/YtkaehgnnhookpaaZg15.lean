/- Laws that the proof stands on. -/
import Derived.Test.YtkaehgnnhookpaaZg11
import Derived.Test.YtkaehgnnhookpaaZg14
import Derived.Test.YtkaehgnnhookpaaZg13
set_option linter.all false
namespace Go.Proofs.Ytkaehgnnhookpaa
open Go.RowKit Go.V
set_option maxRecDepth 100000
theorem v_szEntry (q : Entry) (hk : Entry.td.ok q) (l : Int) (h0 : 0 ≤ l) (h1 : l ≤ 1048576) : Contract Try.prog NoG 4 [.agg (Entry.td.d false q), .v (.int .i64 l)] (.v (.int .i64 (szR l (Entry.cnt q)))) := by refine contract_plain (fun us W => by kernel_rfl) fun w I us hI hV => ?_; obtain ⟨u0, us, rfl, hT0, hV⟩ := vals_one hV; obtain ⟨u1, us, rfl, hT1, hV⟩ := vals_one hV; obtain rfl := vals_none hV; obtain rfl := T_v hT1; obtain ⟨cs, rfl, hr⟩ := TD.agg_dn Entry.td hk hI rfl hT0; obtain ⟨v0, v1, v2, v3, v4, v5, v6, v7, rfl, z0, z1, z2, z3, z4, z5, z6, z7, z8, z9, z10⟩ := Entry.cells hr; exact szEntry_any v0 v1 v2 v3 v4 v5 v6 v7 q l h0 h1 w w.heap.size (Nat.le_refl _) z1 z2 z3 z5 z7 z8 z9 z10 z0
theorem v_eqEntry (q : Entry) (hk : Entry.td.ok q) : Contract Try.prog NoG 8 [.agg (Entry.td.d false q), .agg (Entry.td.d false q)] (.v (.bool true)) := by refine contract_plain (fun us W => by kernel_rfl) fun w I us hI hV => ?_; obtain ⟨u0, us, rfl, hT0, hV⟩ := vals_one hV; obtain ⟨u1, us, rfl, hT1, hV⟩ := vals_one hV; obtain rfl := vals_none hV; obtain ⟨cs, rfl, hr⟩ := TD.agg_dn Entry.td hk hI rfl hT0; obtain ⟨ds, rfl, hs⟩ := TD.agg_dn Entry.td hk hI rfl hT1; obtain ⟨v0, v1, v2, v3, v4, v5, v6, v7, rfl, z0, z1, z2, z3, z4, z5, z6, z7, z8, z9, z10⟩ := Entry.cells hr; obtain ⟨x0, x1, x2, x3, x4, x5, x6, x7, rfl, y0, y1, y2, y3, y4, y5, y6, y7, y8, y9, y10⟩ := Entry.cells hs; exact eqEntry_any v0 v1 v2 v3 v4 v5 v6 v7 x0 x1 x2 x3 x4 x5 x6 x7 q w w.heap.size (Nat.le_refl _) z1 z2 z3 z5 z7 z8 z9 z10 y1 y2 y3 y5 y7 y8 y9 y10
end Go.Proofs.Ytkaehgnnhookpaa
