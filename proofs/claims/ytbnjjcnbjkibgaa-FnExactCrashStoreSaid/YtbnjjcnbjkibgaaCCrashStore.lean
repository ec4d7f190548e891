/- CrashStore: the contracts, out of the V machine's laws. -/
import Derived.Test.YtbnjjcnbjkibgaaFCrashStore
set_option linter.unusedSimpArgs false
set_option linter.unusedVariables false
set_option linter.all false
namespace Go.Proofs.Ytbnjjcnbjkibgaa
open Go.RowKit Go.V
set_option maxRecDepth 10000
theorem CrashStore_spec (q_aS_v0 : Value) (q_aS : Store) (q_aKeep : Int) (w : World) (B : Nat) (hB : B ≤ w.heap.size) (q_aS_h0 : (Ty.slice 150 Log.ty).rep w B [q_aS_v0] q_aS.Slots) (q_aS_p0 : InK .i64 q_aS.Active) (q_aS_n : Store.cnt q_aS ≤ 1048576) (q_aKeep_p : InK .i64 q_aKeep) :
    Calls Try.prog 20 #[.agg #[q_aS_v0, .int .i64 q_aS.Active], .int .i64 q_aKeep] w fun e w' => (∃ z0 : Value, e = .returned (.tuple #[.agg #[z0, .int .i64 (crashR q_aS q_aKeep).Active], .int .i64 (crashC q_aS q_aKeep)]) ∧ Own Store.ty w' w.heap.size w'.heap.size [z0, .int .i64 (crashR q_aS q_aKeep).Active] (crashR q_aS q_aKeep)) ∧ Below w.heap.size w w' := by
  have hr_q_aS := Store.rep_mk (w := w) (B := B) q_aS_h0 q_aS_p0
  refine (Contract.at (vCrashStore_spec q_aS (Store.td.rep_ok hr_q_aS) q_aS_n q_aKeep q_aKeep_p) trivial hB (vals_cons (TD.arg_agg Store.td hr_q_aS) (vals_cons (vals_v _) vals_nil))).mono ?_
  rintro e w' ⟨⟨v, I, F, rfl, hT, hn, hF⟩, hb⟩
  obtain ⟨u0, us0, F0, G0, rfl, rfl, t0, hT⟩ := tup_split hT
  obtain ⟨u1, us1, F1, G1, rfl, rfl, t1, hT⟩ := vals_split hT
  have hT : us1 = [] ∧ G1 = [] := by simpa only [Vals] using hT
  obtain ⟨rfl, rfl⟩ := hT
  simp only [T] at t1
  obtain ⟨rfl, rfl⟩ := t1
  obtain ⟨cs, rfl, O⟩ := own_agg Store.td (crashR_ok q_aS (Store.td.rep_ok hr_q_aS) q_aS_n q_aKeep q_aKeep_p) t0 (by simpa using hn) (fun b hb => hF b (by simp [hb]))
  obtain ⟨z0, rfl, _⟩ := Store.cells (Own.rep O (Nat.le_refl _))
  exact ⟨⟨_, rfl, O⟩, hb⟩
theorem CrashStore_impl (q_aS_v0 : Value) (q_aS : Store) (q_aKeep : Int) (w : World) (B : Nat) (hB : B ≤ w.heap.size) (q_aS_h0 : (Ty.slice 150 Log.ty).rep w B [q_aS_v0] q_aS.Slots) (q_aS_p0 : InK .i64 q_aS.Active) (q_aS_n : Store.cnt q_aS ≤ 1048576) (q_aKeep_p : InK .i64 q_aKeep) :
    Calls Try.prog 22 #[.agg #[q_aS_v0, .int .i64 q_aS.Active], .int .i64 q_aKeep] w fun e w' => (∃ z0 : Value, e = .returned (.tuple #[.agg #[z0, .int .i64 (crashR q_aS q_aKeep).Active], .int .i64 (crashC q_aS q_aKeep)]) ∧ Own Store.ty w' w.heap.size w'.heap.size [z0, .int .i64 (crashR q_aS q_aKeep).Active] (crashR q_aS q_aKeep)) ∧ Below w.heap.size w w' := by
  have hr_q_aS := Store.rep_mk (w := w) (B := B) q_aS_h0 q_aS_p0
  refine (Contract.at (vCrashStore_impl q_aS (Store.td.rep_ok hr_q_aS) q_aS_n q_aKeep q_aKeep_p) trivial hB (vals_cons (TD.arg_agg Store.td hr_q_aS) (vals_cons (vals_v _) vals_nil))).mono ?_
  rintro e w' ⟨⟨v, I, F, rfl, hT, hn, hF⟩, hb⟩
  obtain ⟨u0, us0, F0, G0, rfl, rfl, t0, hT⟩ := tup_split hT
  obtain ⟨u1, us1, F1, G1, rfl, rfl, t1, hT⟩ := vals_split hT
  have hT : us1 = [] ∧ G1 = [] := by simpa only [Vals] using hT
  obtain ⟨rfl, rfl⟩ := hT
  simp only [T] at t1
  obtain ⟨rfl, rfl⟩ := t1
  obtain ⟨cs, rfl, O⟩ := own_agg Store.td (crashR_ok q_aS (Store.td.rep_ok hr_q_aS) q_aS_n q_aKeep q_aKeep_p) t0 (by simpa using hn) (fun b hb => hF b (by simp [hb]))
  obtain ⟨z0, rfl, _⟩ := Store.cells (Own.rep O (Nat.le_refl _))
  exact ⟨⟨_, rfl, O⟩, hb⟩
end Go.Proofs.Ytbnjjcnbjkibgaa
