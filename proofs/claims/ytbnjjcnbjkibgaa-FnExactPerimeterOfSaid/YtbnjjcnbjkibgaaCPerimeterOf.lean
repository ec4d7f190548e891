/- PerimeterOf: the contracts, out of the V machine's laws. -/
import Derived.Test.YtbnjjcnbjkibgaaFPerimeterOf
set_option linter.unusedSimpArgs false
set_option linter.unusedVariables false
set_option linter.all false
namespace Go.Proofs.Ytbnjjcnbjkibgaa
open Go.RowKit Go.V
set_option maxRecDepth 10000
theorem PerimeterOf_spec (q_aShape_v : Value) (q_aShape : List Point) (w : World) (B : Nat) (hB : B ≤ w.heap.size) (q_aShape_h : (Ty.slice 135 Point.ty).rep w B [q_aShape_v] q_aShape) (q_aShape_n : q_aShape.length ≤ 1048576) :
    Calls Try.prog 15 #[q_aShape_v] w fun e w' => e = .returned (.tuple #[.int .i64 (perimeterR q_aShape), .int .i64 (perimeterC q_aShape)]) ∧ Below w.heap.size w w' := by
  refine (Contract.at (vPerimeterOf_spec q_aShape ((TD.slice 135 Point.td).rep_ok q_aShape_h) q_aShape_n) trivial hB (vals_cons (TD.arg_slice Point.td q_aShape_h) vals_nil)).mono ?_
  rintro e w' ⟨⟨v, I, F, rfl, hT, hn, hF⟩, hb⟩
  obtain ⟨u0, us0, F0, G0, rfl, rfl, t0, hT⟩ := tup_split hT
  obtain ⟨u1, us1, F1, G1, rfl, rfl, t1, hT⟩ := vals_split hT
  have hT : us1 = [] ∧ G1 = [] := by simpa only [Vals] using hT
  obtain ⟨rfl, rfl⟩ := hT
  simp only [T] at t0
  obtain ⟨rfl, rfl⟩ := t0
  simp only [T] at t1
  obtain ⟨rfl, rfl⟩ := t1
  exact ⟨rfl, hb⟩
theorem PerimeterOf_impl (q_aShape_v : Value) (q_aShape : List Point) (w : World) (B : Nat) (hB : B ≤ w.heap.size) (q_aShape_h : (Ty.slice 135 Point.ty).rep w B [q_aShape_v] q_aShape) (q_aShape_n : q_aShape.length ≤ 1048576) :
    Calls Try.prog 17 #[q_aShape_v] w fun e w' => e = .returned (.tuple #[.int .i64 (perimeterR q_aShape), .int .i64 (perimeterC q_aShape)]) ∧ Below w.heap.size w w' := by
  refine (Contract.at (vPerimeterOf_impl q_aShape ((TD.slice 135 Point.td).rep_ok q_aShape_h) q_aShape_n) trivial hB (vals_cons (TD.arg_slice Point.td q_aShape_h) vals_nil)).mono ?_
  rintro e w' ⟨⟨v, I, F, rfl, hT, hn, hF⟩, hb⟩
  obtain ⟨u0, us0, F0, G0, rfl, rfl, t0, hT⟩ := tup_split hT
  obtain ⟨u1, us1, F1, G1, rfl, rfl, t1, hT⟩ := vals_split hT
  have hT : us1 = [] ∧ G1 = [] := by simpa only [Vals] using hT
  obtain ⟨rfl, rfl⟩ := hT
  simp only [T] at t0
  obtain ⟨rfl, rfl⟩ := t0
  simp only [T] at t1
  obtain ⟨rfl, rfl⟩ := t1
  exact ⟨rfl, hb⟩
end Go.Proofs.Ytbnjjcnbjkibgaa
