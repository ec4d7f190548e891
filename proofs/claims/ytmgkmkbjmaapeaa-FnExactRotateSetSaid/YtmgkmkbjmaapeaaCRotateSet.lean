/- RotateSet: the contracts, out of the V machine's laws. -/
import Derived.Test.YtmgkmkbjmaapeaaFRotateSet
set_option linter.unusedSimpArgs false
set_option linter.unusedVariables false
set_option linter.all false
namespace Go.Proofs.Ytmgkmkbjmaapeaa
open Go.RowKit Go.V
set_option maxRecDepth 10000
theorem RotateSet_spec (q_aSet_v0 q_aSet_v1 : Value) (q_aSet : TileSet) (q_aQuarters : Int) (w : World) (B : Nat) (hB : B ≤ w.heap.size) (q_aSet_h0 : (Ty.slice 80 Glue.ty).rep w B [q_aSet_v0] q_aSet.Glues) (q_aSet_h1 : (Ty.slice 60 Tile.ty).rep w B [q_aSet_v1] q_aSet.Tiles) (q_aSet_n : TileSet.cnt q_aSet ≤ 1048576) (q_aQuarters_p : InK .i64 q_aQuarters) :
    Calls Try.prog 13 #[.agg #[q_aSet_v0, q_aSet_v1], .int .i64 q_aQuarters] w fun e w' => (∃ z0 z1 : Value, e = .returned (.tuple #[.agg #[z0, z1], .int .i64 (RotateSetC q_aSet q_aQuarters)]) ∧ Own TileSet.ty w' w.heap.size w'.heap.size [z0, z1] (RotateSetR q_aSet q_aQuarters)) ∧ Below w.heap.size w w' := by
  have hr_q_aSet := TileSet.rep_mk (w := w) (B := B) q_aSet_h0 q_aSet_h1
  refine (Contract.at (vRotateSet_spec q_aSet (TileSet.td.rep_ok hr_q_aSet) q_aSet_n q_aQuarters q_aQuarters_p) trivial hB (vals_cons (TD.arg_agg TileSet.td hr_q_aSet) (vals_cons (vals_v _) vals_nil))).mono ?_
  rintro e w' ⟨⟨v, I, F, rfl, hT, hn, hF⟩, hb⟩
  obtain ⟨u0, us0, F0, G0, rfl, rfl, t0, hT⟩ := tup_split hT
  obtain ⟨u1, us1, F1, G1, rfl, rfl, t1, hT⟩ := vals_split hT
  have hT : us1 = [] ∧ G1 = [] := by simpa only [Vals] using hT
  obtain ⟨rfl, rfl⟩ := hT
  simp only [T] at t1
  obtain ⟨rfl, rfl⟩ := t1
  obtain ⟨cs, rfl, O⟩ := own_agg TileSet.td (RotateSetR_ok q_aSet (TileSet.td.rep_ok hr_q_aSet) q_aSet_n q_aQuarters q_aQuarters_p) t0 (by simpa using hn) (fun b hb => hF b (by simp [hb]))
  obtain ⟨z0, z1, rfl, _⟩ := TileSet.cells (Own.rep O (Nat.le_refl _))
  exact ⟨⟨_, _, rfl, O⟩, hb⟩
theorem RotateSet_impl (q_aSet_v0 q_aSet_v1 : Value) (q_aSet : TileSet) (q_aQuarters : Int) (w : World) (B : Nat) (hB : B ≤ w.heap.size) (q_aSet_h0 : (Ty.slice 80 Glue.ty).rep w B [q_aSet_v0] q_aSet.Glues) (q_aSet_h1 : (Ty.slice 60 Tile.ty).rep w B [q_aSet_v1] q_aSet.Tiles) (q_aSet_n : TileSet.cnt q_aSet ≤ 1048576) (q_aQuarters_p : InK .i64 q_aQuarters) :
    Calls Try.prog 12 #[.agg #[q_aSet_v0, q_aSet_v1], .int .i64 q_aQuarters] w fun e w' => (∃ z0 z1 : Value, e = .returned (.tuple #[.agg #[z0, z1], .int .i64 (RotateSetC q_aSet q_aQuarters)]) ∧ Own TileSet.ty w' w.heap.size w'.heap.size [z0, z1] (RotateSetR q_aSet q_aQuarters)) ∧ Below w.heap.size w w' := by
  have hr_q_aSet := TileSet.rep_mk (w := w) (B := B) q_aSet_h0 q_aSet_h1
  refine (Contract.at (vRotateSet_impl q_aSet (TileSet.td.rep_ok hr_q_aSet) q_aSet_n q_aQuarters q_aQuarters_p) trivial hB (vals_cons (TD.arg_agg TileSet.td hr_q_aSet) (vals_cons (vals_v _) vals_nil))).mono ?_
  rintro e w' ⟨⟨v, I, F, rfl, hT, hn, hF⟩, hb⟩
  obtain ⟨u0, us0, F0, G0, rfl, rfl, t0, hT⟩ := tup_split hT
  obtain ⟨u1, us1, F1, G1, rfl, rfl, t1, hT⟩ := vals_split hT
  have hT : us1 = [] ∧ G1 = [] := by simpa only [Vals] using hT
  obtain ⟨rfl, rfl⟩ := hT
  simp only [T] at t1
  obtain ⟨rfl, rfl⟩ := t1
  obtain ⟨cs, rfl, O⟩ := own_agg TileSet.td (RotateSetR_ok q_aSet (TileSet.td.rep_ok hr_q_aSet) q_aSet_n q_aQuarters q_aQuarters_p) t0 (by simpa using hn) (fun b hb => hF b (by simp [hb]))
  obtain ⟨z0, z1, rfl, _⟩ := TileSet.cells (Own.rep O (Nat.le_refl _))
  exact ⟨⟨_, _, rfl, O⟩, hb⟩
end Go.Proofs.Ytmgkmkbjmaapeaa
