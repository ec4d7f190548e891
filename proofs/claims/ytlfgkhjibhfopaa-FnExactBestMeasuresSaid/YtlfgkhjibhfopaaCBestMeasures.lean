/- BestMeasures: the contracts, out of the V machine's laws. -/
import Derived.Test.YtlfgkhjibhfopaaFBestMeasures
import Derived.Test.YtlfgkhjibhfopaaMkBase
set_option linter.unusedSimpArgs false
set_option linter.unusedVariables false
set_option linter.all false
namespace Go.Proofs.Ytlfgkhjibhfopaa
open Go.RowKit Go.V
set_option maxRecDepth 10000
theorem BestMeasures_spec (q_aList_v : Value) (q_aList : List Measure) (w : World) (B : Nat) (hB : B ≤ w.heap.size) (q_aList_h : (Ty.slice 25 Measure.ty).rep w B [q_aList_v] q_aList) (q_aList_n : q_aList.length ≤ 1048576) :
    Calls Try.prog 36 #[q_aList_v] w fun e w' => (∃ z0 : Value, e = .returned (.tuple #[z0, .int .i64 (bestC q_aList)]) ∧ Own (Ty.slice 2 (Ty.int .i64)) w' w.heap.size w'.heap.size [z0] (bestR q_aList)) ∧ Below w.heap.size w w' := by
  refine (Contract.at (vBestMeasures_spec q_aList ((TD.slice 25 Measure.td).rep_ok q_aList_h) q_aList_n) trivial hB (vals_cons (TD.arg_slice Measure.td q_aList_h) vals_nil)).mono ?_
  rintro e w' ⟨⟨v, I, F, rfl, hT, hn, hF⟩, hb⟩
  obtain ⟨u0, us0, F0, G0, rfl, rfl, t0, hT⟩ := tup_split hT
  obtain ⟨u1, us1, F1, G1, rfl, rfl, t1, hT⟩ := vals_split hT
  have hT : us1 = [] ∧ G1 = [] := by simpa only [Vals] using hT
  obtain ⟨rfl, rfl⟩ := hT
  simp only [T] at t1
  obtain ⟨rfl, rfl⟩ := t1
  have O := own_slice (e := 2) (TD.int .i64) (bestR_ok q_aList ((TD.slice 25 Measure.td).rep_ok q_aList_h) q_aList_n) t0 (by simpa using hn) (fun b hb => hF b (by simp [hb]))
  skip
  exact ⟨⟨_, rfl, O⟩, hb⟩
theorem BestMeasures_impl (q_aList_v : Value) (q_aList : List Measure) (w : World) (B : Nat) (hB : B ≤ w.heap.size) (q_aList_h : (Ty.slice 25 Measure.ty).rep w B [q_aList_v] q_aList) (q_aList_n : q_aList.length ≤ 1048576) :
    Calls Try.prog 35 #[q_aList_v] w fun e w' => (∃ z0 : Value, e = .returned (.tuple #[z0, .int .i64 (bestC q_aList)]) ∧ Own (Ty.slice 2 (Ty.int .i64)) w' w.heap.size w'.heap.size [z0] (bestR q_aList)) ∧ Below w.heap.size w w' := by
  refine (Contract.at (vBestMeasures_impl q_aList ((TD.slice 25 Measure.td).rep_ok q_aList_h) q_aList_n) trivial hB (vals_cons (TD.arg_slice Measure.td q_aList_h) vals_nil)).mono ?_
  rintro e w' ⟨⟨v, I, F, rfl, hT, hn, hF⟩, hb⟩
  obtain ⟨u0, us0, F0, G0, rfl, rfl, t0, hT⟩ := tup_split hT
  obtain ⟨u1, us1, F1, G1, rfl, rfl, t1, hT⟩ := vals_split hT
  have hT : us1 = [] ∧ G1 = [] := by simpa only [Vals] using hT
  obtain ⟨rfl, rfl⟩ := hT
  simp only [T] at t1
  obtain ⟨rfl, rfl⟩ := t1
  have O := own_slice (e := 2) (TD.int .i64) (bestR_ok q_aList ((TD.slice 25 Measure.td).rep_ok q_aList_h) q_aList_n) t0 (by simpa using hn) (fun b hb => hF b (by simp [hb]))
  skip
  exact ⟨⟨_, rfl, O⟩, hb⟩
end Go.Proofs.Ytlfgkhjibhfopaa
