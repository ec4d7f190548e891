/- Made by vtogen.py: toSimulation_any. -/
import Derived.Test.YtpaknhakpkfnnaaVToSimulation
set_option linter.all false
namespace Go.Proofs.Ytpaknhakpkfnnaa
open Go.RowKit Go.V
set_option maxRecDepth 10000
theorem toSimulation_any (v0 v1 v2 v3 v4 v5 v6 : Value) (q : Simulation) (w : World) (B : Nat) (hB : B ≤ w.heap.size) (h0 : (Ty.slice 69 Glue.ty).rep w B [v0] q.Big.Set.Glues) (h1 : (Ty.slice 71 Tile.ty).rep w B [v1] q.Big.Set.Tiles) (h2 : (Ty.slice 75 Placed.ty).rep w B [v2] q.Big.Seed.Tiles) (h3 : (Ty.slice 69 Glue.ty).rep w B [v3] q.Small.Set.Glues) (h4 : (Ty.slice 71 Tile.ty).rep w B [v4] q.Small.Set.Tiles) (h5 : (Ty.slice 75 Placed.ty).rep w B [v5] q.Small.Seed.Tiles) (h6 : (Ty.slice 2 (Ty.int .i64)).rep w B [v6] q.Labels) (p0 : InK .i64 q.Big.Temperature) (p1 : InK .i64 q.Small.Temperature) (p2 : InK .i64 q.Scale) (hn : Simulation.cnt q ≤ 1048576) :
    Calls Try.prog 6 #[.agg #[v0, v1, v2, .int .i64 q.Big.Temperature, v3, v4, v5, .int .i64 q.Small.Temperature, .int .i64 q.Scale, v6]] w fun e w' => (∃ u0 u1 u2 u3 u4 u5 u6 : Value, e = .returned (.agg #[u0, u1, u2, .int .i64 q.Big.Temperature, u3, u4, u5, .int .i64 q.Small.Temperature, .int .i64 q.Scale, u6]) ∧ Own Simulation.ty w' w.heap.size w'.heap.size [u0, u1, u2, .int .i64 q.Big.Temperature, u3, u4, u5, .int .i64 q.Small.Temperature, .int .i64 q.Scale, u6] q) ∧ Below w.heap.size w w' := by
  have hr := Simulation.rep_mk (w := w) (B := B) h0 h1 h2 p0 h3 h4 h5 p1 p2 h6
  refine (Contract.at (v_toSimulation q hn) trivial hB (vals_cons (TD.arg_agg Simulation.td hr) vals_nil)).mono ?_
  rintro e w' ⟨⟨v, I, F, rfl, hT, hn, hF⟩, hb⟩
  obtain ⟨cs, rfl, O⟩ := own_agg Simulation.td (Simulation.td.rep_ok hr) hT hn hF
  obtain ⟨u0, u1, u2, u3, u4, u5, u6, rfl, _⟩ := Simulation.cells (Own.rep O (Nat.le_refl _))
  exact ⟨⟨_, _, _, _, _, _, _, rfl, O⟩, hb⟩
end Go.Proofs.Ytpaknhakpkfnnaa
