/- Steps from point to point. -/
import Derived.Test.YtlfgkhjibhfopaaPoint
namespace Go.Proofs.Ytlfgkhjibhfopaa
open Go.RowKit Go.ChangeShapes Go.WideShapes Go.ChangeAt
set_option maxRecDepth 10000 in
set_option maxHeartbeats 1000000 in
theorem step_any (p : Point) (d : Nat) (hd : d < 4) (w : World) (hp : p.ok = true) :
    Calls Try.prog 68 #[p.val, .int .i64 d] w fun e w' => e = .returned (p.next d).val ∧ Below w.heap.size w w' := by
  rw [Point.ok_iff] at hp
  obtain ⟨⟨h1, h2⟩, h3, h4⟩ := hp
  have hd' : d = 0 ∨ d = 1 ∨ d = 2 ∨ d = 3 := by omega
  rcases hd' with rfl | rfl | rfl | rfl
  · have i0 : ∀ W : World, (Instr.index 131 (.agg #[.int .i64 0, .int .i64 1, .int .i64 1, .int .i64 0, .int .i64 0, .int .i64 (-1), .int .i64 (-1), .int .i64 0]) (.int .i64 0)).run Try.prog W = .ok (.agg #[.int .i64 0, .int .i64 1]) W := fun _ => by kernel_rfl
    show Calls Try.prog 68 #[.agg #[.int .i64 p.x, .int .i64 p.y], .int .i64 0] _ _
    go_enter Try.func68, Try.ntmps68
    go_wp2_with fail
    refine (plus_any p ⟨0, 1⟩ _ (by omega) (by omega) (by simp) (by simp)).mono ?_
    rintro e w1 ⟨rfl, hb⟩
    obtain ⟨hc, hf⟩ := bcell hb
    have hz := hb.size
    simp only [World.size_alloc] at hz
    have hB : Below w.heap.size w w1 := Below.trans (by go_grown) (hb.mono (by simp only [World.size_alloc]; omega))
    have HB := Lib.hid hB
    clear hB
    go_wp2_with fail
    refine bodyPost_ret (results_cell_row rfl _ _ (w.heap.size + 1) 37 _ _ _ rfl (blk_set (blk_set (blk_below hb (push3_1 _ _ _ _) (by simp only [World.size_alloc]; omega)) _) _) Try.underlying37 rfl (by kernel_rfl)) rfl ?_
    exact ⟨by simp [Point.next] <;> omega, by have hB := HB.out; go_grown⟩
  · have i0 : ∀ W : World, (Instr.index 131 (.agg #[.int .i64 0, .int .i64 1, .int .i64 1, .int .i64 0, .int .i64 0, .int .i64 (-1), .int .i64 (-1), .int .i64 0]) (.int .i64 1)).run Try.prog W = .ok (.agg #[.int .i64 1, .int .i64 0]) W := fun _ => by kernel_rfl
    show Calls Try.prog 68 #[.agg #[.int .i64 p.x, .int .i64 p.y], .int .i64 1] _ _
    go_enter Try.func68, Try.ntmps68
    go_wp2_with fail
    refine (plus_any p ⟨1, 0⟩ _ (by omega) (by omega) (by simp) (by simp)).mono ?_
    rintro e w1 ⟨rfl, hb⟩
    obtain ⟨hc, hf⟩ := bcell hb
    have hz := hb.size
    simp only [World.size_alloc] at hz
    have hB : Below w.heap.size w w1 := Below.trans (by go_grown) (hb.mono (by simp only [World.size_alloc]; omega))
    have HB := Lib.hid hB
    clear hB
    go_wp2_with fail
    refine bodyPost_ret (results_cell_row rfl _ _ (w.heap.size + 1) 37 _ _ _ rfl (blk_set (blk_set (blk_below hb (push3_1 _ _ _ _) (by simp only [World.size_alloc]; omega)) _) _) Try.underlying37 rfl (by kernel_rfl)) rfl ?_
    exact ⟨by simp [Point.next] <;> omega, by have hB := HB.out; go_grown⟩
  · have i0 : ∀ W : World, (Instr.index 131 (.agg #[.int .i64 0, .int .i64 1, .int .i64 1, .int .i64 0, .int .i64 0, .int .i64 (-1), .int .i64 (-1), .int .i64 0]) (.int .i64 2)).run Try.prog W = .ok (.agg #[.int .i64 0, .int .i64 (-1)]) W := fun _ => by kernel_rfl
    show Calls Try.prog 68 #[.agg #[.int .i64 p.x, .int .i64 p.y], .int .i64 2] _ _
    go_enter Try.func68, Try.ntmps68
    go_wp2_with fail
    refine (plus_any p ⟨0, (-1)⟩ _ (by omega) (by omega) (by simp) (by simp)).mono ?_
    rintro e w1 ⟨rfl, hb⟩
    obtain ⟨hc, hf⟩ := bcell hb
    have hz := hb.size
    simp only [World.size_alloc] at hz
    have hB : Below w.heap.size w w1 := Below.trans (by go_grown) (hb.mono (by simp only [World.size_alloc]; omega))
    have HB := Lib.hid hB
    clear hB
    go_wp2_with fail
    refine bodyPost_ret (results_cell_row rfl _ _ (w.heap.size + 1) 37 _ _ _ rfl (blk_set (blk_set (blk_below hb (push3_1 _ _ _ _) (by simp only [World.size_alloc]; omega)) _) _) Try.underlying37 rfl (by kernel_rfl)) rfl ?_
    exact ⟨by simp [Point.next] <;> omega, by have hB := HB.out; go_grown⟩
  · have i0 : ∀ W : World, (Instr.index 131 (.agg #[.int .i64 0, .int .i64 1, .int .i64 1, .int .i64 0, .int .i64 0, .int .i64 (-1), .int .i64 (-1), .int .i64 0]) (.int .i64 3)).run Try.prog W = .ok (.agg #[.int .i64 (-1), .int .i64 0]) W := fun _ => by kernel_rfl
    show Calls Try.prog 68 #[.agg #[.int .i64 p.x, .int .i64 p.y], .int .i64 3] _ _
    go_enter Try.func68, Try.ntmps68
    go_wp2_with fail
    refine (plus_any p ⟨(-1), 0⟩ _ (by omega) (by omega) (by simp) (by simp)).mono ?_
    rintro e w1 ⟨rfl, hb⟩
    obtain ⟨hc, hf⟩ := bcell hb
    have hz := hb.size
    simp only [World.size_alloc] at hz
    have hB : Below w.heap.size w w1 := Below.trans (by go_grown) (hb.mono (by simp only [World.size_alloc]; omega))
    have HB := Lib.hid hB
    clear hB
    go_wp2_with fail
    refine bodyPost_ret (results_cell_row rfl _ _ (w.heap.size + 1) 37 _ _ _ rfl (blk_set (blk_set (blk_below hb (push3_1 _ _ _ _) (by simp only [World.size_alloc]; omega)) _) _) Try.underlying37 rfl (by kernel_rfl)) rfl ?_
    exact ⟨by simp [Point.next] <;> omega, by have hB := HB.out; go_grown⟩
set_option maxRecDepth 10000 in
set_option maxHeartbeats 1000000 in
theorem l01Step_any (p : Point) (d : Nat) (hd : d < 4) (w : World) (hp : p.ok = true) :
    Calls Try.prog 66 #[p.val, .int .i64 d] w fun e w' => e = .returned (p.next d).val ∧ Below w.heap.size w w' := by
  rw [Point.ok_iff] at hp
  obtain ⟨⟨h1, h2⟩, h3, h4⟩ := hp
  have hd' : d = 0 ∨ d = 1 ∨ d = 2 ∨ d = 3 := by omega
  rcases hd' with rfl | rfl | rfl | rfl
  · show Calls Try.prog 66 #[.agg #[.int .i64 p.x, .int .i64 p.y], .int .i64 0] _ _
    go_enter Try.func66, Try.ntmps66
    go_wp2
    go_returns
    exact ⟨by simp [Point.next], by go_grown⟩
  · show Calls Try.prog 66 #[.agg #[.int .i64 p.x, .int .i64 p.y], .int .i64 1] _ _
    go_enter Try.func66, Try.ntmps66
    go_wp2
    go_returns
    exact ⟨by simp [Point.next], by go_grown⟩
  · show Calls Try.prog 66 #[.agg #[.int .i64 p.x, .int .i64 p.y], .int .i64 2] _ _
    go_enter Try.func66, Try.ntmps66
    go_wp2
    go_returns
    exact ⟨by simp [Point.next], by go_grown⟩
  · show Calls Try.prog 66 #[.agg #[.int .i64 p.x, .int .i64 p.y], .int .i64 3] _ _
    go_enter Try.func66, Try.ntmps66
    go_wp2
    go_returns
    exact ⟨by simp [Point.next], by go_grown⟩
theorem Point.next_bd (p : Point) (d : Nat) (hp : p.ok = true) : (-61 ≤ (p.next d).x ∧ (p.next d).x ≤ 61) ∧ (-61 ≤ (p.next d).y ∧ (p.next d).y ≤ 61) := by
  rw [Point.ok_iff] at hp
  unfold Point.next
  split <;> simp only <;> omega
end Go.Proofs.Ytlfgkhjibhfopaa
