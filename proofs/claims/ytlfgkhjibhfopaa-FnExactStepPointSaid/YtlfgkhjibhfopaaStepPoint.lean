/- StepPoint: the program's and the reference's. -/
import Derived.Test.YtlfgkhjibhfopaaStep
namespace Go.Proofs.Ytlfgkhjibhfopaa
open Go.RowKit Go.ChangeShapes Go.WideShapes Go.ChangeAt
/-- What StepPoint gives. -/
def stepPt (p : Point) (d : Int) : Point × Int :=
  if p.ok = true ∧ dirOk d = true ∧ (p.next d.toNat).ok = true then (p.next d.toNat, 0) else (⟨0, 0⟩, 2)
theorem dirOk_nat {d : Int} (h : dirOk d = true) : ∃ n : Nat, d = n ∧ n < 4 := by
  simp [dirOk, inR] at h
  exact ⟨d.toNat, by omega, by omega⟩

set_option linter.unusedSimpArgs false in
set_option maxRecDepth 10000 in
set_option maxHeartbeats 1000000 in
theorem StepPoint_impl (p : Point) (d : Int) (w : World) :
    Calls Try.prog 26 #[p.val, .int .i64 d] w fun e w' => e = .returned (.tuple #[(stepPt p d).1.val, .int .i64 (stepPt p d).2]) ∧ Below w.heap.size w w' := by
  by_cases h1 : p.ok = true
  · by_cases h2 : dirOk d = true
    · obtain ⟨n, rfl, hn⟩ := dirOk_nat h2
      by_cases h3 : (p.next n).ok = true
      all_goals
        have hs : ∀ W, Calls Try.prog 68 #[p.val, .int .i64 n] W fun e w' => e = .returned (p.next n).val ∧ Below W.heap.size W w' := fun W => step_any p n hn W h1
        have HS := Lib.hid hs
        clear hs
        go_enter Try.func26, Try.ntmps26
        go_upto_region 1 with fail
        refine rebase ?_
        intro W1 hW x
        have hz : Below w.heap.size w W1 := by rw [hW]; go_grown
        have hb0 := at_of hW (push2_0 _ _ _)
        have c0 := box2 hb0
        have f0 := boxf hb0
        have B0 := Lib.hid hb0
        clear hb0
        have hb1 := at_of hW (push2_1 _ _ _)
        have c1 := box2 hb1
        have f1 := boxf hb1
        have B1 := Lib.hid hb1
        clear hb1
        have HW := Lib.hid hW
        clear hW
        go_wp2_with (first | (go_at_call 67; refine call_ext (ValidPoint_any _ _) ?_; intro y) | (go_at_call 70; refine call_ext (isDir_any _ _) ?_; intro y) | (go_at_call 68; refine call_ext (HS.out _) ?_; intro y))
        refine bodyPost_ret (res_cell_tmp rfl _ _ (w.heap.size + 1) rfl 37 _ _ _ (blk_set (blk_set (box_at B1.out _) _) _) Try.underlying37 rfl (by kernel_rfl)) rfl ?_
        exact ⟨by simp [stepPt, h1, h2, h3], ((ext_end _ hz).setCell (by simp) _).setCell (by simp) _⟩
    · have h3 : True := trivial
      go_enter Try.func26, Try.ntmps26
      go_upto_region 1 with fail
      refine rebase ?_
      intro W1 hW x
      have hz : Below w.heap.size w W1 := by rw [hW]; go_grown
      have hb0 := at_of hW (push2_0 _ _ _)
      have c0 := box2 hb0
      have f0 := boxf hb0
      have B0 := Lib.hid hb0
      clear hb0
      have hb1 := at_of hW (push2_1 _ _ _)
      have c1 := box2 hb1
      have f1 := boxf hb1
      have B1 := Lib.hid hb1
      clear hb1
      have HW := Lib.hid hW
      clear hW
      go_wp2_with (first | (go_at_call 67; refine call_ext (ValidPoint_any _ _) ?_; intro y) | (go_at_call 70; refine call_ext (isDir_any _ _) ?_; intro y))
      refine bodyPost_ret (res_cell_tmp rfl _ _ (w.heap.size + 1) rfl 37 _ _ _ (blk_set (blk_set (box_at B1.out _) _) _) Try.underlying37 rfl (by kernel_rfl)) rfl ?_
      exact ⟨by simp [stepPt, h1, h2, h3], ((ext_end _ hz).setCell (by simp) _).setCell (by simp) _⟩
  · have h2 : True := trivial
    have h3 : True := trivial
    go_enter Try.func26, Try.ntmps26
    go_upto_region 1 with fail
    refine rebase ?_
    intro W1 hW x
    have hz : Below w.heap.size w W1 := by rw [hW]; go_grown
    have hb0 := at_of hW (push2_0 _ _ _)
    have c0 := box2 hb0
    have f0 := boxf hb0
    have B0 := Lib.hid hb0
    clear hb0
    have hb1 := at_of hW (push2_1 _ _ _)
    have c1 := box2 hb1
    have f1 := boxf hb1
    have B1 := Lib.hid hb1
    clear hb1
    have HW := Lib.hid hW
    clear hW
    go_wp2_with (first | (go_at_call 67; refine call_ext (ValidPoint_any _ _) ?_; intro y) | (go_at_call 70; refine call_ext (isDir_any _ _) ?_; intro y))
    refine bodyPost_ret (res_cell_tmp rfl _ _ (w.heap.size + 1) rfl 37 _ _ _ (blk_set (blk_set (box_at B1.out _) _) _) Try.underlying37 rfl (by kernel_rfl)) rfl ?_
    exact ⟨by simp [stepPt, h1, h2, h3], ((ext_end _ hz).setCell (by simp) _).setCell (by simp) _⟩
set_option linter.unusedSimpArgs false in
set_option maxRecDepth 10000 in
set_option maxHeartbeats 1000000 in
theorem StepPoint_spec (p : Point) (d : Int) (w : World) :
    Calls Try.prog 25 #[p.val, .int .i64 d] w fun e w' => e = .returned (.tuple #[(stepPt p d).1.val, .int .i64 (stepPt p d).2]) ∧ Below w.heap.size w w' := by
  by_cases h1 : p.ok = true
  · by_cases h2 : dirOk d = true
    · obtain ⟨n, rfl, hn⟩ := dirOk_nat h2
      by_cases h3 : (p.next n).ok = true
      all_goals
        have hs : ∀ W, Calls Try.prog 66 #[p.val, .int .i64 n] W fun e w' => e = .returned (p.next n).val ∧ Below W.heap.size W w' := fun W => l01Step_any p n hn W h1
        have HS := Lib.hid hs
        clear hs
        go_enter Try.func25, Try.ntmps25
        go_upto_region 1 with fail
        refine rebase ?_
        intro W1 hW x
        have hz : Below w.heap.size w W1 := by rw [hW]; go_grown
        have hb0 := at_of hW (push2_0 _ _ _)
        have c0 := box2 hb0
        have f0 := boxf hb0
        have B0 := Lib.hid hb0
        clear hb0
        have hb1 := at_of hW (push2_1 _ _ _)
        have c1 := box2 hb1
        have f1 := boxf hb1
        have B1 := Lib.hid hb1
        clear hb1
        have HW := Lib.hid hW
        clear hW
        go_upto_region 4 with (first | (go_at_call 65; refine call_ext (l01Point_any _ _) ?_; intro y) | (go_at_call 69; refine call_ext (l01Dir_any _ _) ?_; intro y) | (go_at_call 66; refine call_ext (HS.out _) ?_; intro y))
        refine rebase ?_
        intro W2 hW x
        have hbW : Below W1.heap.size W1 W2 := by rw [hW]; exact (y.below.alloc (by first | exact to_size y | (simp only [World.size_alloc]; have := to_size y; omega)) _)
        have hz := hz.trans (hbW.mono hz.size)
        have hb0 := blk_on hbW B0.out
        clear c0 f0 B0
        have c0 := box2 hb0
        have f0 := boxf hb0
        have B0 := Lib.hid hb0
        clear hb0
        have hb1 := blk_on hbW B1.out
        clear c1 f1 B1
        have c1 := box2 hb1
        have f1 := boxf hb1
        have B1 := Lib.hid hb1
        clear hb1
        have hb2 := at_of hW (push1_0 _ _)
        have c2 := box2 hb2
        have f2 := boxf hb2
        have B2 := Lib.hid hb2
        clear hb2
        have HW := Lib.hid hW
        clear hW hbW
        go_wp2_with (first | (go_at_call 65; refine call_ext (l01Point_any _ _) ?_; intro y) | (go_at_call 69; refine call_ext (l01Dir_any _ _) ?_; intro y) | (go_at_call 66; refine call_ext (HS.out _) ?_; intro y))
        refine bodyPost_ret (res_cell_tmp rfl _ _ (w.heap.size + 1) rfl 37 _ _ _ (blk_set (blk_set (box_at B1.out _) _) _) Try.underlying37 rfl (by kernel_rfl)) rfl ?_
        exact ⟨by simp [stepPt, h1, h2, h3], ((ext_end _ hz).setCell (by simp) _).setCell (by simp) _⟩
    · have h3 : True := trivial
      go_enter Try.func25, Try.ntmps25
      go_upto_region 1 with fail
      refine rebase ?_
      intro W1 hW x
      have hz : Below w.heap.size w W1 := by rw [hW]; go_grown
      have hb0 := at_of hW (push2_0 _ _ _)
      have c0 := box2 hb0
      have f0 := boxf hb0
      have B0 := Lib.hid hb0
      clear hb0
      have hb1 := at_of hW (push2_1 _ _ _)
      have c1 := box2 hb1
      have f1 := boxf hb1
      have B1 := Lib.hid hb1
      clear hb1
      have HW := Lib.hid hW
      clear hW
      go_wp2_with (first | (go_at_call 65; refine call_ext (l01Point_any _ _) ?_; intro y) | (go_at_call 69; refine call_ext (l01Dir_any _ _) ?_; intro y))
      refine bodyPost_ret (res_cell_tmp rfl _ _ (w.heap.size + 1) rfl 37 _ _ _ (blk_set (blk_set (box_at B1.out _) _) _) Try.underlying37 rfl (by kernel_rfl)) rfl ?_
      exact ⟨by simp [stepPt, h1, h2, h3], ((ext_end _ hz).setCell (by simp) _).setCell (by simp) _⟩
  · have h2 : True := trivial
    have h3 : True := trivial
    go_enter Try.func25, Try.ntmps25
    go_upto_region 1 with fail
    refine rebase ?_
    intro W1 hW x
    have hz : Below w.heap.size w W1 := by rw [hW]; go_grown
    have hb0 := at_of hW (push2_0 _ _ _)
    have c0 := box2 hb0
    have f0 := boxf hb0
    have B0 := Lib.hid hb0
    clear hb0
    have hb1 := at_of hW (push2_1 _ _ _)
    have c1 := box2 hb1
    have f1 := boxf hb1
    have B1 := Lib.hid hb1
    clear hb1
    have HW := Lib.hid hW
    clear hW
    go_wp2_with (first | (go_at_call 65; refine call_ext (l01Point_any _ _) ?_; intro y) | (go_at_call 69; refine call_ext (l01Dir_any _ _) ?_; intro y))
    refine bodyPost_ret (res_cell_tmp rfl _ _ (w.heap.size + 1) rfl 37 _ _ _ (blk_set (blk_set (box_at B1.out _) _) _) Try.underlying37 rfl (by kernel_rfl)) rfl ?_
    exact ⟨by simp [stepPt, h1, h2, h3], ((ext_end _ hz).setCell (by simp) _).setCell (by simp) _⟩
end Go.Proofs.Ytlfgkhjibhfopaa
