/- DensityOf: the contracts, out of the V machine's laws. -/
import Derived.Test.YtlblmbhaakjcaaaFDensityOf
set_option linter.unusedSimpArgs false
set_option linter.unusedVariables false
set_option linter.all false
namespace Go.Proofs.Ytlblmbhaakjcaaa
open Go.RowKit Go.V
set_option maxRecDepth 10000
theorem DensityOf_spec (q_aA_v0 : Value) (q_aA : Assembly) (w : World) (B : Nat) (hB : B ≤ w.heap.size) (q_aA_h0 : (Ty.slice 67 Placed.ty).rep w B [q_aA_v0] q_aA.Tiles) (q_aA_n : Assembly.cnt q_aA ≤ 1048576) :
    Calls Try.prog 6 #[.agg #[q_aA_v0]] w fun e w' => e = .returned (.tuple #[.agg #[.int .i64 (DensityOfR q_aA).Num, .int .i64 (DensityOfR q_aA).Den], .int .i64 (DensityOfC q_aA)]) ∧ Below w.heap.size w w' := by
  have hr_q_aA := Assembly.rep_mk (w := w) (B := B) q_aA_h0
  refine (Contract.at (vDensityOf_spec q_aA (Assembly.td.rep_ok hr_q_aA) q_aA_n) trivial hB (vals_cons (TD.arg_agg Assembly.td hr_q_aA) vals_nil)).mono ?_
  rintro e w' ⟨⟨v, I, F, rfl, hT, hn, hF⟩, hb⟩
  obtain ⟨u0, us0, F0, G0, rfl, rfl, t0, hT⟩ := tup_split hT
  obtain ⟨u1, us1, F1, G1, rfl, rfl, t1, hT⟩ := vals_split hT
  have hT : us1 = [] ∧ G1 = [] := by simpa only [Vals] using hT
  obtain ⟨rfl, rfl⟩ := hT
  simp only [T] at t1
  obtain ⟨rfl, rfl⟩ := t1
  obtain ⟨cs0, rfl, O0⟩ := own_agg (lo := 0) (hi := w'.heap.size) Frac.td (DensityOfR_ok q_aA (Assembly.td.rep_ok hr_q_aA) q_aA_n) t0 (by first | exact hn | exact (List.nodup_append.1 hn).1 | exact (List.nodup_append.1 (List.nodup_append.1 hn).2.1).1) (fun b hb => ⟨Nat.zero_le _, (hF b (by simp [hb])).2⟩)
  obtain ⟨rfl, _⟩ := Frac.cells (Own.rep O0 (Nat.le_refl _))
  exact ⟨rfl, hb⟩
theorem DensityOf_impl (q_aA_v0 : Value) (q_aA : Assembly) (w : World) (B : Nat) (hB : B ≤ w.heap.size) (q_aA_h0 : (Ty.slice 67 Placed.ty).rep w B [q_aA_v0] q_aA.Tiles) (q_aA_n : Assembly.cnt q_aA ≤ 1048576) :
    Calls Try.prog 8 #[.agg #[q_aA_v0]] w fun e w' => e = .returned (.tuple #[.agg #[.int .i64 (DensityOfR q_aA).Num, .int .i64 (DensityOfR q_aA).Den], .int .i64 (DensityOfC q_aA)]) ∧ Below w.heap.size w w' := by
  have hr_q_aA := Assembly.rep_mk (w := w) (B := B) q_aA_h0
  refine (Contract.at (vDensityOf_impl q_aA (Assembly.td.rep_ok hr_q_aA) q_aA_n) trivial hB (vals_cons (TD.arg_agg Assembly.td hr_q_aA) vals_nil)).mono ?_
  rintro e w' ⟨⟨v, I, F, rfl, hT, hn, hF⟩, hb⟩
  obtain ⟨u0, us0, F0, G0, rfl, rfl, t0, hT⟩ := tup_split hT
  obtain ⟨u1, us1, F1, G1, rfl, rfl, t1, hT⟩ := vals_split hT
  have hT : us1 = [] ∧ G1 = [] := by simpa only [Vals] using hT
  obtain ⟨rfl, rfl⟩ := hT
  simp only [T] at t1
  obtain ⟨rfl, rfl⟩ := t1
  obtain ⟨cs0, rfl, O0⟩ := own_agg (lo := 0) (hi := w'.heap.size) Frac.td (DensityOfR_ok q_aA (Assembly.td.rep_ok hr_q_aA) q_aA_n) t0 (by first | exact hn | exact (List.nodup_append.1 hn).1 | exact (List.nodup_append.1 (List.nodup_append.1 hn).2.1).1) (fun b hb => ⟨Nat.zero_le _, (hF b (by simp [hb])).2⟩)
  obtain ⟨rfl, _⟩ := Frac.cells (Own.rep O0 (Nat.le_refl _))
  exact ⟨rfl, hb⟩
end Go.Proofs.Ytlblmbhaakjcaaa
