/- SameDesk: the contracts, out of the V machine's laws. -/
import Derived.Test.YtaboiekbjcmdgaaFSameDesk
set_option linter.unusedSimpArgs false
set_option linter.unusedVariables false
set_option linter.all false
namespace Go.Proofs.Ytaboiekbjcmdgaa
open Go.RowKit Go.V
set_option maxRecDepth 10000
theorem SameDesk_spec (q_aA_v0 q_aA_v1 q_aA_v2 q_aA_v3 q_aA_v4 : Value) (q_aA : Desk) (q_aB_v0 q_aB_v1 q_aB_v2 q_aB_v3 q_aB_v4 : Value) (q_aB : Desk) (w : World) (B : Nat) (hB : B ≤ w.heap.size) (q_aA_h0 : (Ty.slice 75 Glue.ty).rep w B [q_aA_v0] q_aA.Sys.Set.Glues) (q_aA_h1 : (Ty.slice 77 Tile.ty).rep w B [q_aA_v1] q_aA.Sys.Set.Tiles) (q_aA_h2 : (Ty.slice 71 Placed.ty).rep w B [q_aA_v2] q_aA.Sys.Seed.Tiles) (q_aA_h3 : (Ty.slice 71 Placed.ty).rep w B [q_aA_v3] q_aA.Now.Tiles) (q_aA_h4 : (Ty.slice 2 (Ty.int .i64)).rep w B [q_aA_v4] q_aA.Schedule) (q_aA_p0 : InK .i64 q_aA.Sys.Temperature) (q_aA_n : Desk.cnt q_aA ≤ 1048576) (q_aB_h0 : (Ty.slice 75 Glue.ty).rep w B [q_aB_v0] q_aB.Sys.Set.Glues) (q_aB_h1 : (Ty.slice 77 Tile.ty).rep w B [q_aB_v1] q_aB.Sys.Set.Tiles) (q_aB_h2 : (Ty.slice 71 Placed.ty).rep w B [q_aB_v2] q_aB.Sys.Seed.Tiles) (q_aB_h3 : (Ty.slice 71 Placed.ty).rep w B [q_aB_v3] q_aB.Now.Tiles) (q_aB_h4 : (Ty.slice 2 (Ty.int .i64)).rep w B [q_aB_v4] q_aB.Schedule) (q_aB_p0 : InK .i64 q_aB.Sys.Temperature) (q_aB_n : Desk.cnt q_aB ≤ 1048576) :
    Calls Try.prog 5 #[.agg #[.bool q_aA.Loaded, q_aA_v0, q_aA_v1, q_aA_v2, .int .i64 q_aA.Sys.Temperature, q_aA_v3, q_aA_v4], .agg #[.bool q_aB.Loaded, q_aB_v0, q_aB_v1, q_aB_v2, .int .i64 q_aB.Sys.Temperature, q_aB_v3, q_aB_v4]] w fun e w' => e = .returned (.bool (sameDeskR q_aA q_aB)) ∧ Below w.heap.size w w' := by
  have hr_q_aA := Desk.rep_mk (w := w) (B := B) q_aA_h0 q_aA_h1 q_aA_h2 q_aA_p0 q_aA_h3 q_aA_h4
  have hr_q_aB := Desk.rep_mk (w := w) (B := B) q_aB_h0 q_aB_h1 q_aB_h2 q_aB_p0 q_aB_h3 q_aB_h4
  refine (Contract.at (vSameDesk_spec q_aA (Desk.td.rep_ok hr_q_aA) q_aA_n q_aB (Desk.td.rep_ok hr_q_aB) q_aB_n) trivial hB (vals_cons (TD.arg_agg Desk.td hr_q_aA) (vals_cons (TD.arg_agg Desk.td hr_q_aB) vals_nil))).mono ?_
  rintro e w' ⟨⟨v, I, F, rfl, hT, hn, hF⟩, hb⟩
  simp only [T] at hT
  obtain ⟨rfl, rfl⟩ := hT
  exact ⟨rfl, hb⟩
theorem SameDesk_impl (q_aA_v0 q_aA_v1 q_aA_v2 q_aA_v3 q_aA_v4 : Value) (q_aA : Desk) (q_aB_v0 q_aB_v1 q_aB_v2 q_aB_v3 q_aB_v4 : Value) (q_aB : Desk) (w : World) (B : Nat) (hB : B ≤ w.heap.size) (q_aA_h0 : (Ty.slice 75 Glue.ty).rep w B [q_aA_v0] q_aA.Sys.Set.Glues) (q_aA_h1 : (Ty.slice 77 Tile.ty).rep w B [q_aA_v1] q_aA.Sys.Set.Tiles) (q_aA_h2 : (Ty.slice 71 Placed.ty).rep w B [q_aA_v2] q_aA.Sys.Seed.Tiles) (q_aA_h3 : (Ty.slice 71 Placed.ty).rep w B [q_aA_v3] q_aA.Now.Tiles) (q_aA_h4 : (Ty.slice 2 (Ty.int .i64)).rep w B [q_aA_v4] q_aA.Schedule) (q_aA_p0 : InK .i64 q_aA.Sys.Temperature) (q_aA_n : Desk.cnt q_aA ≤ 1048576) (q_aB_h0 : (Ty.slice 75 Glue.ty).rep w B [q_aB_v0] q_aB.Sys.Set.Glues) (q_aB_h1 : (Ty.slice 77 Tile.ty).rep w B [q_aB_v1] q_aB.Sys.Set.Tiles) (q_aB_h2 : (Ty.slice 71 Placed.ty).rep w B [q_aB_v2] q_aB.Sys.Seed.Tiles) (q_aB_h3 : (Ty.slice 71 Placed.ty).rep w B [q_aB_v3] q_aB.Now.Tiles) (q_aB_h4 : (Ty.slice 2 (Ty.int .i64)).rep w B [q_aB_v4] q_aB.Schedule) (q_aB_p0 : InK .i64 q_aB.Sys.Temperature) (q_aB_n : Desk.cnt q_aB ≤ 1048576) :
    Calls Try.prog 7 #[.agg #[.bool q_aA.Loaded, q_aA_v0, q_aA_v1, q_aA_v2, .int .i64 q_aA.Sys.Temperature, q_aA_v3, q_aA_v4], .agg #[.bool q_aB.Loaded, q_aB_v0, q_aB_v1, q_aB_v2, .int .i64 q_aB.Sys.Temperature, q_aB_v3, q_aB_v4]] w fun e w' => e = .returned (.bool (sameDeskR q_aA q_aB)) ∧ Below w.heap.size w w' := by
  have hr_q_aA := Desk.rep_mk (w := w) (B := B) q_aA_h0 q_aA_h1 q_aA_h2 q_aA_p0 q_aA_h3 q_aA_h4
  have hr_q_aB := Desk.rep_mk (w := w) (B := B) q_aB_h0 q_aB_h1 q_aB_h2 q_aB_p0 q_aB_h3 q_aB_h4
  refine (Contract.at (vSameDesk_impl q_aA (Desk.td.rep_ok hr_q_aA) q_aA_n q_aB (Desk.td.rep_ok hr_q_aB) q_aB_n) trivial hB (vals_cons (TD.arg_agg Desk.td hr_q_aA) (vals_cons (TD.arg_agg Desk.td hr_q_aB) vals_nil))).mono ?_
  rintro e w' ⟨⟨v, I, F, rfl, hT, hn, hF⟩, hb⟩
  simp only [T] at hT
  obtain ⟨rfl, rfl⟩ := hT
  exact ⟨rfl, hb⟩
end Go.Proofs.Ytaboiekbjcmdgaa
