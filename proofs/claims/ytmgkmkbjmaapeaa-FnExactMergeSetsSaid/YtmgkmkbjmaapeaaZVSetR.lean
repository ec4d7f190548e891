/- Sets of tiles whose tiles have turned: in order, and not too large. -/
import Derived.Test.YtmgkmkbjmaapeaaZVOwn
import Derived.Test.YtmgkmkbjmaapeaaZMkTileSet
set_option linter.all false
namespace Go.Proofs.Ytmgkmkbjmaapeaa
open Go.RowKit Go.V
theorem cntL_map_le {α : Type} {c : α → Nat} {f : α → α} : ∀ {xs : List α}, (∀ x, x ∈ xs → c (f x) ≤ c x + 4) → cntL c (xs.map f) ≤ 5 * cntL c xs
  | [], _ => by simp [cntL]
  | x :: xs, h => by
    have h1 := h x (by simp)
    have h2 := cntL_map_le (xs := xs) (fun y hy => h y (by simp [hy]))
    simp only [cntL, List.map_cons, List.length_cons, List.sum_cons, List.length_map] at h2 ⊢
    omega
theorem setR_cn {a : TileSet} (h : TileSet.cnt a ≤ 100000000) : a.cnT ≤ 1000000000000 := by
  have := TileSet.cnT_le a
  omega
theorem set0_ok : TileSet.td.ok ⟨[], []⟩ := by
  rw [TileSet.td_ok]
  exact ⟨fun _ h => (by cases h), fun _ h => (by cases h)⟩
end Go.Proofs.Ytmgkmkbjmaapeaa
