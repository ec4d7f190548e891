/- TransposePattern: the contracts, out of the V machine's laws. -/
import Derived.Test.YtlfgkhjibhfopaaFTransposePattern2
set_option linter.unusedSimpArgs false
set_option linter.unusedVariables false
set_option linter.all false
namespace Go.Proofs.Ytlfgkhjibhfopaa
open Go.RowKit Go.V
set_option maxRecDepth 10000
theorem TransposePattern_spec (q_aP_v0 : Value) (q_aP : Pattern) (w : World) (B : Nat) (hB : B ≤ w.heap.size) (q_aP_h0 : (Ty.slice 2 (Ty.int .i64)).rep w B [q_aP_v0] q_aP.Cells) (q_aP_p0 : InK .i64 q_aP.Width) (q_aP_p1 : InK .i64 q_aP.Height) (q_aP_n : Pattern.cnt q_aP ≤ 1048576) :
    Calls Try.prog 44 #[.agg #[.int .i64 q_aP.Width, .int .i64 q_aP.Height, q_aP_v0]] w fun e w' => (∃ z0 : Value, e = .returned (.tuple #[.agg #[.int .i64 (transposeR q_aP).Width, .int .i64 (transposeR q_aP).Height, z0], .int .i64 (transposeC q_aP)]) ∧ Own Pattern.ty w' w.heap.size w'.heap.size [.int .i64 (transposeR q_aP).Width, .int .i64 (transposeR q_aP).Height, z0] (transposeR q_aP)) ∧ Below w.heap.size w w' := by
  have hr_q_aP := Pattern.rep_mk (w := w) (B := B) q_aP_p0 q_aP_p1 q_aP_h0
  refine (Contract.at (vTransposePattern_spec q_aP (Pattern.td.rep_ok hr_q_aP) q_aP_n) trivial hB (vals_cons (TD.arg_agg Pattern.td hr_q_aP) vals_nil)).mono ?_
  rintro e w' ⟨⟨v, I, F, rfl, hT, hn, hF⟩, hb⟩
  obtain ⟨u0, us0, F0, G0, rfl, rfl, t0, hT⟩ := tup_split hT
  obtain ⟨u1, us1, F1, G1, rfl, rfl, t1, hT⟩ := vals_split hT
  have hT : us1 = [] ∧ G1 = [] := by simpa only [Vals] using hT
  obtain ⟨rfl, rfl⟩ := hT
  simp only [T] at t1
  obtain ⟨rfl, rfl⟩ := t1
  obtain ⟨cs, rfl, O⟩ := own_agg Pattern.td (transposeR_ok q_aP (Pattern.td.rep_ok hr_q_aP) q_aP_n) t0 (by simpa using hn) (fun b hb => hF b (by simp [hb]))
  obtain ⟨z0, rfl, _⟩ := Pattern.cells (Own.rep O (Nat.le_refl _))
  exact ⟨⟨_, rfl, O⟩, hb⟩
theorem TransposePattern_impl (q_aP_v0 : Value) (q_aP : Pattern) (w : World) (B : Nat) (hB : B ≤ w.heap.size) (q_aP_h0 : (Ty.slice 2 (Ty.int .i64)).rep w B [q_aP_v0] q_aP.Cells) (q_aP_p0 : InK .i64 q_aP.Width) (q_aP_p1 : InK .i64 q_aP.Height) (q_aP_n : Pattern.cnt q_aP ≤ 1048576) :
    Calls Try.prog 46 #[.agg #[.int .i64 q_aP.Width, .int .i64 q_aP.Height, q_aP_v0]] w fun e w' => (∃ z0 : Value, e = .returned (.tuple #[.agg #[.int .i64 (transposeR q_aP).Width, .int .i64 (transposeR q_aP).Height, z0], .int .i64 (transposeC q_aP)]) ∧ Own Pattern.ty w' w.heap.size w'.heap.size [.int .i64 (transposeR q_aP).Width, .int .i64 (transposeR q_aP).Height, z0] (transposeR q_aP)) ∧ Below w.heap.size w w' := by
  have hr_q_aP := Pattern.rep_mk (w := w) (B := B) q_aP_p0 q_aP_p1 q_aP_h0
  refine (Contract.at (vTransposePattern_impl q_aP (Pattern.td.rep_ok hr_q_aP) q_aP_n) trivial hB (vals_cons (TD.arg_agg Pattern.td hr_q_aP) vals_nil)).mono ?_
  rintro e w' ⟨⟨v, I, F, rfl, hT, hn, hF⟩, hb⟩
  obtain ⟨u0, us0, F0, G0, rfl, rfl, t0, hT⟩ := tup_split hT
  obtain ⟨u1, us1, F1, G1, rfl, rfl, t1, hT⟩ := vals_split hT
  have hT : us1 = [] ∧ G1 = [] := by simpa only [Vals] using hT
  obtain ⟨rfl, rfl⟩ := hT
  simp only [T] at t1
  obtain ⟨rfl, rfl⟩ := t1
  obtain ⟨cs, rfl, O⟩ := own_agg Pattern.td (transposeR_ok q_aP (Pattern.td.rep_ok hr_q_aP) q_aP_n) t0 (by simpa using hn) (fun b hb => hF b (by simp [hb]))
  obtain ⟨z0, rfl, _⟩ := Pattern.cells (Own.rep O (Nat.le_refl _))
  exact ⟨⟨_, rfl, O⟩, hb⟩
end Go.Proofs.Ytlfgkhjibhfopaa
