/- Laws that the proof stands on. -/
import Derived.Test.YtoiaenkipdneeaaZg11
import Derived.Test.YtoiaenkipdneeaaZg12
set_option linter.all false
namespace Go.Proofs.Ytoiaenkipdneeaa
open Go.RowKit Go.V
theorem cntL_map_le {α : Type} {c : α → Nat} {f : α → α} : ∀ {xs : List α}, (∀ x, x ∈ xs → c (f x) ≤ c x + 4) → cntL c (xs.map f) ≤ 5 * cntL c xs
  | [], _ => by simp [cntL]
  | x :: xs, h => by have h1 := h x (by simp); have h2 := cntL_map_le (xs := xs) (fun y hy => h y (by simp [hy])); simp only [cntL, List.map_cons, List.length_cons, List.sum_cons, List.length_map] at h2 ⊢; omega
theorem setR_cnt {a : TileSet} {f : Tile → Tile} (h : ∀ x, x ∈ a.Tiles → Tile.cnt (f x) ≤ Tile.cnt x + 4) : TileSet.cnt ⟨a.Glues, a.Tiles.map f⟩ ≤ 5 * TileSet.cnt a := by have h1 : TileSet.cnt a = cntL Glue.cnt a.Glues + cntL Tile.cnt a.Tiles := rfl; have h2 : TileSet.cnt ⟨a.Glues, a.Tiles.map f⟩ = cntL Glue.cnt a.Glues + cntL Tile.cnt (a.Tiles.map f) := rfl; have h3 := cntL_map_le h; omega
theorem setR_cn {a : TileSet} (h : TileSet.cnt a ≤ 100000000) : a.cnT ≤ 1000000000000 := by have := TileSet.cnT_le a; omega
theorem setR_ok {a : TileSet} {f : Tile → Tile} (ha : TileSet.td.ok a) (h : ∀ x, x ∈ a.Tiles → Tile.td.ok x → Tile.td.ok (f x)) : TileSet.td.ok ⟨a.Glues, a.Tiles.map f⟩ := by rw [TileSet.td_ok] at ha ⊢; refine ⟨ha.1, fun y hy => ?_⟩; obtain ⟨x, hx, rfl⟩ := List.mem_map.1 hy; exact h x hx (ha.2 x hx)
theorem set0_ok : TileSet.td.ok ⟨[], []⟩ := by rw [TileSet.td_ok]; exact ⟨fun _ h => (by cases h), fun _ h => (by cases h)⟩
theorem getD_ok {s : List Int} {k : Nat} (h : ∀ y, y ∈ s → InK .i64 y) : InK .i64 (s.getD k 0) := by
  rw [List.getD_eq_getElem?_getD]; cases hs : s[k]? with
  | none => exact ⟨by decide, by decide⟩
  | some v => exact h v (List.mem_of_getElem? hs)
end Go.Proofs.Ytoiaenkipdneeaa
