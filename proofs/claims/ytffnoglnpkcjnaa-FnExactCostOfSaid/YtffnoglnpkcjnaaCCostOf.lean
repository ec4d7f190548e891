/- CostOf: the contracts, out of the V machine's laws. -/
import Derived.Test.YtffnoglnpkcjnaaFCostOf
set_option linter.unusedSimpArgs false
set_option linter.unusedVariables false
set_option linter.all false
namespace Go.Proofs.Ytffnoglnpkcjnaa
open Go.RowKit Go.V
set_option maxRecDepth 10000
theorem CostOf_spec (q_aSet_v0 q_aSet_v1 : Value) (q_aSet : TileSet) (q_aA_v0 : Value) (q_aA : Assembly) (q_aPrices_v : Value) (q_aPrices : List Int) (q_aGlue : Int) (w : World) (B : Nat) (hB : B ≤ w.heap.size) (q_aSet_h0 : (Ty.slice 150 Glue.ty).rep w B [q_aSet_v0] q_aSet.Glues) (q_aSet_h1 : (Ty.slice 149 Tile.ty).rep w B [q_aSet_v1] q_aSet.Tiles) (q_aSet_n : TileSet.cnt q_aSet ≤ 1048576) (q_aA_h0 : (Ty.slice 92 Placed.ty).rep w B [q_aA_v0] q_aA.Tiles) (q_aA_n : Assembly.cnt q_aA ≤ 1048576) (q_aPrices_h : (Ty.slice 2 (Ty.int .i64)).rep w B [q_aPrices_v] q_aPrices) (q_aPrices_n : q_aPrices.length ≤ 1048576) (q_aGlue_p : InK .i64 q_aGlue) :
    Calls Try.prog 12 #[.agg #[q_aSet_v0, q_aSet_v1], .agg #[q_aA_v0], q_aPrices_v, .int .i64 q_aGlue] w fun e w' => e = .returned (.tuple #[.int .i64 (CostOfR q_aSet q_aA q_aPrices q_aGlue), .int .i64 (CostOfC q_aSet q_aA q_aPrices q_aGlue)]) ∧ Below w.heap.size w w' := by
  have hr_q_aSet := TileSet.rep_mk (w := w) (B := B) q_aSet_h0 q_aSet_h1
  have hr_q_aA := Assembly.rep_mk (w := w) (B := B) q_aA_h0
  refine (Contract.at (vCostOf_spec q_aSet (TileSet.td.rep_ok hr_q_aSet) q_aSet_n q_aA (Assembly.td.rep_ok hr_q_aA) q_aA_n q_aPrices ((TD.slice 2 (TD.int .i64)).rep_ok q_aPrices_h) q_aPrices_n q_aGlue q_aGlue_p) trivial hB (vals_cons (TD.arg_agg TileSet.td hr_q_aSet) (vals_cons (TD.arg_agg Assembly.td hr_q_aA) (vals_cons (TD.arg_slice (TD.int .i64) q_aPrices_h) (vals_cons (vals_v _) vals_nil))))).mono ?_
  rintro e w' ⟨⟨v, I, F, rfl, hT, hn, hF⟩, hb⟩
  obtain ⟨u0, us0, F0, G0, rfl, rfl, t0, hT⟩ := tup_split hT
  obtain ⟨u1, us1, F1, G1, rfl, rfl, t1, hT⟩ := vals_split hT
  have hT : us1 = [] ∧ G1 = [] := by simpa only [Vals] using hT
  obtain ⟨rfl, rfl⟩ := hT
  simp only [T] at t0
  obtain ⟨rfl, rfl⟩ := t0
  simp only [T] at t1
  obtain ⟨rfl, rfl⟩ := t1
  exact ⟨rfl, hb⟩
theorem CostOf_impl (q_aSet_v0 q_aSet_v1 : Value) (q_aSet : TileSet) (q_aA_v0 : Value) (q_aA : Assembly) (q_aPrices_v : Value) (q_aPrices : List Int) (q_aGlue : Int) (w : World) (B : Nat) (hB : B ≤ w.heap.size) (q_aSet_h0 : (Ty.slice 150 Glue.ty).rep w B [q_aSet_v0] q_aSet.Glues) (q_aSet_h1 : (Ty.slice 149 Tile.ty).rep w B [q_aSet_v1] q_aSet.Tiles) (q_aSet_n : TileSet.cnt q_aSet ≤ 1048576) (q_aA_h0 : (Ty.slice 92 Placed.ty).rep w B [q_aA_v0] q_aA.Tiles) (q_aA_n : Assembly.cnt q_aA ≤ 1048576) (q_aPrices_h : (Ty.slice 2 (Ty.int .i64)).rep w B [q_aPrices_v] q_aPrices) (q_aPrices_n : q_aPrices.length ≤ 1048576) (q_aGlue_p : InK .i64 q_aGlue) :
    Calls Try.prog 16 #[.agg #[q_aSet_v0, q_aSet_v1], .agg #[q_aA_v0], q_aPrices_v, .int .i64 q_aGlue] w fun e w' => e = .returned (.tuple #[.int .i64 (CostOfR q_aSet q_aA q_aPrices q_aGlue), .int .i64 (CostOfC q_aSet q_aA q_aPrices q_aGlue)]) ∧ Below w.heap.size w w' := by
  have hr_q_aSet := TileSet.rep_mk (w := w) (B := B) q_aSet_h0 q_aSet_h1
  have hr_q_aA := Assembly.rep_mk (w := w) (B := B) q_aA_h0
  refine (Contract.at (vCostOf_impl q_aSet (TileSet.td.rep_ok hr_q_aSet) q_aSet_n q_aA (Assembly.td.rep_ok hr_q_aA) q_aA_n q_aPrices ((TD.slice 2 (TD.int .i64)).rep_ok q_aPrices_h) q_aPrices_n q_aGlue q_aGlue_p) trivial hB (vals_cons (TD.arg_agg TileSet.td hr_q_aSet) (vals_cons (TD.arg_agg Assembly.td hr_q_aA) (vals_cons (TD.arg_slice (TD.int .i64) q_aPrices_h) (vals_cons (vals_v _) vals_nil))))).mono ?_
  rintro e w' ⟨⟨v, I, F, rfl, hT, hn, hF⟩, hb⟩
  obtain ⟨u0, us0, F0, G0, rfl, rfl, t0, hT⟩ := tup_split hT
  obtain ⟨u1, us1, F1, G1, rfl, rfl, t1, hT⟩ := vals_split hT
  have hT : us1 = [] ∧ G1 = [] := by simpa only [Vals] using hT
  obtain ⟨rfl, rfl⟩ := hT
  simp only [T] at t0
  obtain ⟨rfl, rfl⟩ := t0
  simp only [T] at t1
  obtain ⟨rfl, rfl⟩ := t1
  exact ⟨rfl, hb⟩
end Go.Proofs.Ytffnoglnpkcjnaa
