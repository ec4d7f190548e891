/- Made by vlgen.py: the laws' functions of slices of scalars. -/
import Derived.Test.YtmgkmkbjmaapeaaZVB
import Derived.Test.YtmgkmkbjmaapeaaZMkText
import Derived.Test.YtmgkmkbjmaapeaaZMkBase
import Derived.Test.YtmgkmkbjmaapeaaZTyBase
set_option linter.all false
namespace Go.Proofs.Ytmgkmkbjmaapeaa
open Go.RowKit Go.V
set_option maxRecDepth 100000
theorem mkL_ok {α : Type} {ok : α → Prop} {mk : α → Int → α} {cn : α → Nat} (h : ∀ (x : α) (k : Int), 0 ≤ k → k + (cn x : Nat) ≤ 4611686018427387904 → ok (mk x k)) : ∀ (xs : List α) (k : Int), 0 ≤ k → k + (cnS cn xs : Nat) ≤ 4611686018427387904 → ∀ y, y ∈ mkL mk cn xs k → ok y
  | [], k, _, _, y, hy => by simp [mkL] at hy
  | x :: xs, k, h0, hk, y, hy => by
    have e : cnS cn (x :: xs) = cn x + cnS cn xs := by unfold cnS; rw [List.map_cons, List.sum_cons]
    unfold mkL at hy
    rcases List.mem_cons.1 hy with rfl | hy
    · exact h x k h0 (by omega)
    · exact mkL_ok h xs _ (by omega) (by omega) y hy
theorem mkI_ok (x : Int) (k : Int) (h0 : 0 ≤ k) (hk : k + (1 : Nat) ≤ 4611686018427387904) : (TD.int .i64).ok k := show InK .i64 _ from ⟨by omega, by omega⟩
end Go.Proofs.Ytmgkmkbjmaapeaa
