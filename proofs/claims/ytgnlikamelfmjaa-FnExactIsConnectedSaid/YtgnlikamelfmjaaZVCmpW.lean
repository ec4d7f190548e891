/- Laws that the proof stands on. -/
import Derived.Test.YtgnlikamelfmjaaZg10
import Derived.StillTailTactics
import Derived.Lib.Small
import Derived.Lib.Walk
import Derived.Shelf.SlSortCmp.NoneTotal
set_option linter.all false
namespace Go.Proofs.Ytgnlikamelfmjaa
open Go.RowKit Go.Lib Go.Sort
set_option maxRecDepth 100000
theorem w_isNaN (x : Int) (w : World) : Calls Try.prog 135 #[.int .i64 x] w fun e w' => e = .returned (.bool false) ∧ w' = w := by go_enter Try.func135, Try.ntmps135; go_wp2; go_ret; exact ⟨by simp, rfl⟩
set_option maxHeartbeats 1000000 in
theorem w_Compare (x y : Int) (w : World) : Calls Try.prog 124 #[.int .i64 x, .int .i64 y] w fun e w' => e = .returned (.int .i64 (cmpI x y)) ∧ w' = w := by
  go_enter Try.func124, Try.ntmps124; go_wp2_with (go_at_call 135; refine (w_isNaN _ _).mono ?_; rintro e w' ⟨rfl, hw⟩; rw [hw])
  all_goals (go_ret; refine ⟨?_, rfl⟩; unfold cmpI; (repeat' split) <;> first | rfl | (exfalso; omega))
set_option maxHeartbeats 1000000 in
theorem w_Or (x y : Int) (b : Nat) (w : World) (h0 : w.cell? ⟨b, 0, none⟩ = some (.int .i64 x)) (h1 : w.cell? ⟨b, 1, none⟩ = some (.int .i64 y)) : Calls Try.prog 123 #[.slice (some ⟨b, 0, none⟩) 2 2] w fun e w' => e = .returned (.int .i64 (if x = 0 then y else x)) ∧ w' = w := by
  by_cases hx : x = 0
  · subst hx; rw [if_pos rfl]; by_cases hy : y = 0
    · subst hy; go_enter Try.func123, Try.ntmps123; go_wp2; refine wp_loop_rounds 3 ?_; rw [rounds_succ]; go_wp2; rw [rounds_succ]; go_wp2; rw [rounds_succ]; go_wp2; go_ret; exact ⟨rfl, rfl⟩
    · have hy' : (y != 0) = true := (by simp [hy]); go_enter Try.func123, Try.ntmps123; go_wp2; refine wp_loop_rounds 3 ?_; rw [rounds_succ]; go_wp2; rw [rounds_succ]; go_wp2; go_ret; exact ⟨rfl, rfl⟩
  · have hx' : (x != 0) = true := (by simp [hx]); rw [if_neg hx]; go_enter Try.func123, Try.ntmps123; go_wp2; refine wp_loop_rounds 3 ?_; rw [rounds_succ]; go_wp2; go_ret; exact ⟨rfl, rfl⟩
set_option maxHeartbeats 2000000 in
theorem w_comparePoints (a b : Point) (W : World) : Calls Try.prog 98 #[.agg #[.int .i64 a.X, .int .i64 a.Y], .agg #[.int .i64 b.X, .int .i64 b.Y]] W fun e w' => e = .returned (.int .i64 (cmpP a b)) ∧ ∃ q os', w' = grow (W.drewN q) os' := by
  have hc := w_Compare; have hor : ∀ (b' : Nat) (w : World), w.cell? ⟨b', 0, none⟩ = some (.int .i64 (cmpI a.Y b.Y)) → w.cell? ⟨b', 1, none⟩ = some (.int .i64 (cmpI a.X b.X)) → Calls Try.prog 123 #[.slice (some ⟨b', 0, none⟩) 2 2] w fun e w' => e = .returned (.int .i64 (cmpP a b)) ∧ w' = w := fun b' w => w_Or _ _ b' w; go_enter Try.func98, Try.ntmps98
  go_upto_region 1 with fail
  refine wp_region_still_tail 10 rfl (by kernel_rfl) ?_; simp only [World.drew_eq, List.take_succ_cons, List.take_zero, List.drop_succ_cons, List.drop_zero]; have hg : ∃ q os', ((W.alloc (Obj.cells #[Value.int IntKind.i64 a.X, Value.int IntKind.i64 a.Y] 61)).alloc (Obj.cells #[Value.int IntKind.i64 b.X, Value.int IntKind.i64 b.Y] 61)).drew = grow (W.drewN q) os' := ⟨1, _, by rw [alloc_eq_grow, alloc_eq_grow, grow_grow]; rfl⟩
  have h1 := World.cell?_alloc2_first (w := W) #[Value.int IntKind.i64 a.X, Value.int IntKind.i64 a.Y] 61 (Obj.cells #[Value.int IntKind.i64 b.X, Value.int IntKind.i64 b.Y] 61); have h2 := World.cell?_alloc2_new (w := W) (Obj.cells #[Value.int IntKind.i64 a.X, Value.int IntKind.i64 a.Y] 61) #[Value.int IntKind.i64 b.X, Value.int IntKind.i64 b.Y] 61; have hs : ((W.alloc (Obj.cells #[Value.int IntKind.i64 a.X, Value.int IntKind.i64 a.Y] 61)).alloc (Obj.cells #[Value.int IntKind.i64 b.X, Value.int IntKind.i64 b.Y] 61)).drew.heap.size = W.heap.size + 2 := (by simp); generalize hW : ((W.alloc (Obj.cells #[Value.int IntKind.i64 a.X, Value.int IntKind.i64 a.Y] 61)).alloc (Obj.cells #[Value.int IntKind.i64 b.X, Value.int IntKind.i64 b.Y] 61)).drew = W2 at *; have a0 : W2.cell? ⟨W.heap.size, 0, none⟩ = some (.int .i64 a.X) := (by rw [← hW]; exact h1 0); have a1 : W2.cell? ⟨W.heap.size, 1, none⟩ = some (.int .i64 a.Y) := (by rw [← hW]; exact h1 1); have b0 : W2.cell? ⟨W.heap.size + 1, 0, none⟩ = some (.int .i64 b.X) := (by rw [← hW]; exact h2 0); have b1 : W2.cell? ⟨W.heap.size + 1, 1, none⟩ = some (.int .i64 b.Y) := (by rw [← hW]; exact h2 1); clear h1 h2 hW
  repeat still_step
  still_call (hc _ _ _)
  repeat still_step
  still_call (hc _ _ _)
  refine wpStill_nil ?_; go_wp2_with (go_at_call 123; refine (hor _ _ (by rw [World.cell?_alloc_at _ _ _ _ hs.symm]; rfl) (by rw [World.cell?_alloc_at _ _ _ _ hs.symm]; rfl)).mono ?_; rintro e w' ⟨rfl, hw⟩; rw [hw])
  go_ret; obtain ⟨q, os, rfl⟩ := hg; exact ⟨rfl, q, _, by rw [alloc_eq_grow, grow_grow]⟩
theorem swo_P : SWO (ltOf fun a b : Point => cmpP a b) where
  irrefl x := by unfold ltOf; rw [cmpP_lt]; simp [lessP]
  trans x y z h1 h2 := by unfold ltOf at *; rw [cmpP_lt] at *; simp only [lessP, Bool.or_eq_true, Bool.and_eq_true, decide_eq_true_eq] at *; omega
  ntrans x y z h1 h2 := by unfold ltOf at *; rw [cmpP_lt] at *; simp only [lessP, Bool.or_eq_false_iff, Bool.and_eq_false_iff, decide_eq_false_iff_not] at *; omega
end Go.Proofs.Ytgnlikamelfmjaa
