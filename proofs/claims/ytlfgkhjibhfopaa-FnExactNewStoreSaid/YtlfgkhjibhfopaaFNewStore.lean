/- NewStore: the program's and the reference's. -/
import Derived.Test.YtlfgkhjibhfopaaTyStore
import Derived.Test.YtlfgkhjibhfopaaMkStore
set_option linter.unusedSimpArgs false
set_option linter.unusedVariables false
namespace Go.Proofs.Ytlfgkhjibhfopaa
open Go.RowKit Go.ChangeShapes Go.WideShapes Go.ChangeAt
def newStore : Store := ⟨[⟨[], []⟩, ⟨[], []⟩], 0⟩
theorem newStore_cn : newStore.cnT ≤ 1000000000000 := by decide
theorem own_nil {α : Type} (e : TypeId) (t : Ty α) (w : World) (lo hi : Nat) : Own (Ty.slice e t) w lo hi [.slice none 0 0] [] := ⟨[], ⟨none, 0, rfl, Nat.le_refl _, by unfold maxLen; omega, .inl ⟨rfl, rfl⟩⟩, by simp, by simp⟩
theorem own_log0 (w : World) (lo : Nat) : Own Log.ty w lo lo [.slice none 0 0, .slice none 0 0] ⟨[], []⟩ :=
  Own.pair (m := lo) (own_nil _ _ w lo lo) (own_nil _ _ w lo lo) (Nat.le_refl _) (Nat.le_refl _)
theorem newStore_own {w : World} {g hi : Nat} (hg : w.heap[g]? = some (.cells #[.slice none 0 0, .slice none 0 0, .slice none 0 0, .slice none 0 0] 113 (0, 0))) (hh : g < hi) :
    Own Store.ty w g hi [.slice (some ⟨g, 0, none⟩) 2 2, .int .i64 0] newStore := by
  have hr : OwnRows Log.ty w (g + 1) hi ([.slice none 0 0, .slice none 0 0] ++ [.slice none 0 0, .slice none 0 0]) ([⟨[], []⟩] ++ [⟨[], []⟩]) :=
    OwnRows.snoc (m := g + 1) (OwnRows.snoc (raw := []) (xs := []) (m := g + 1) (OwnRows.nil _ _ _ _) (own_log0 w (g + 1)) (Nat.le_refl _) (Nat.le_refl _)) ((own_log0 w (g + 1)).mono (Nat.le_refl _) hh) (Nat.le_refl _) (by omega)
  have hs : Own (Ty.slice 113 Log.ty) w g hi [.slice (some ⟨g, 0, none⟩) 2 2] [⟨[], []⟩, ⟨[], []⟩] := own_filled (left := []) (by simpa using hg) hr (Nat.le_refl _) (by unfold maxLen; omega) hh
  exact Own.pair (m := hi) hs (Own.int (k := .i64) (show InK .i64 0 from ⟨by omega, by omega⟩) w hi hi) (by omega) (Nat.le_refl _)
theorem info_Log2 : (Try.prog.info? 113).map (fun i => (i.zero, i.size, i.bytes)) = some (some (.agg #[.slice none 0 0, .slice none 0 0]), 2, 48) := by kernel_rfl
set_option maxRecDepth 10000 in
set_option maxHeartbeats 1000000 in
theorem NewStore_spec (w : World) (B : Nat) (hB : B ≤ w.heap.size) :
    Calls Try.prog 28 #[] w fun e w' => (∃ v, e = .returned (.agg #[v, .int .i64 newStore.Active]) ∧ Own Store.ty w' w.heap.size w'.heap.size [v, .int .i64 newStore.Active] newStore) ∧ Below w.heap.size w w' := by
  have hmk : ∀ W, (Instr.makeSlice 44 (.int .i64 2) (.int .i64 2)).run Try.prog W = .ok (.slice (some ⟨W.heap.size, 0, none⟩) 2 2) (W.alloc (.cells #[.slice none 0 0, .slice none 0 0, .slice none 0 0, .slice none 0 0] 113)) := fun W => by
    have h := run_make_n Try.underlying44 info_Log2 2 (by omega) (by omega) W
    rw [show madeCells (Value.agg #[.slice none 0 0, .slice none 0 0]).cells (2 * 2) = #[.slice none 0 0, .slice none 0 0, .slice none 0 0, .slice none 0 0] by kernel_rfl] at h
    exact h
  go_enter Try.func28, Try.ntmps28
  go_upto_region 1 with fail
  go_wp2_with fail
  refine bodyPost_ret (results_cell_row rfl _ _ w.heap.size 46 _ _ _ rfl (push2_0 _ _ _) Try.underlying46 rfl (by kernel_rfl)) rfl ?_
  have hr := push2_1 w (.cells #[.slice (some ⟨w.heap.size + 1, 0, none⟩) 2 2, .int .i64 0] 46) (.cells #[.slice none 0 0, .slice none 0 0, .slice none 0 0, .slice none 0 0] 113)
  exact ⟨⟨_, rfl, (newStore_own hr (blk_lt hr)).mono (by omega) (Nat.le_refl _)⟩, by go_grown⟩
set_option maxRecDepth 10000 in
set_option maxHeartbeats 1000000 in
theorem NewStore_impl (w : World) (B : Nat) (hB : B ≤ w.heap.size) :
    Calls Try.prog 29 #[] w fun e w' => (∃ v, e = .returned (.agg #[v, .int .i64 newStore.Active]) ∧ Own Store.ty w' w.heap.size w'.heap.size [v, .int .i64 newStore.Active] newStore) ∧ Below w.heap.size w w' := by
  have hmk : ∀ W, (Instr.makeSlice 44 (.int .i64 2) (.int .i64 2)).run Try.prog W = .ok (.slice (some ⟨W.heap.size, 0, none⟩) 2 2) (W.alloc (.cells #[.slice none 0 0, .slice none 0 0, .slice none 0 0, .slice none 0 0] 113)) := fun W => by
    have h := run_make_n Try.underlying44 info_Log2 2 (by omega) (by omega) W
    rw [show madeCells (Value.agg #[.slice none 0 0, .slice none 0 0]).cells (2 * 2) = #[.slice none 0 0, .slice none 0 0, .slice none 0 0, .slice none 0 0] by kernel_rfl] at h
    exact h
  go_enter Try.func29, Try.ntmps29
  go_upto_region 1 with fail
  go_wp2_with fail
  refine bodyPost_ret (results_cell_row rfl _ _ w.heap.size 46 _ _ _ rfl (push2_0 _ _ _) Try.underlying46 rfl (by kernel_rfl)) rfl ?_
  have hr := push2_1 w (.cells #[.slice (some ⟨w.heap.size + 1, 0, none⟩) 2 2, .int .i64 0] 46) (.cells #[.slice none 0 0, .slice none 0 0, .slice none 0 0, .slice none 0 0] 113)
  exact ⟨⟨_, rfl, (newStore_own hr (blk_lt hr)).mono (by omega) (Nat.le_refl _)⟩, by go_grown⟩
end Go.Proofs.Ytlfgkhjibhfopaa
