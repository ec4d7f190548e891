/- Laws that the proof stands on. -/
import Derived.Test.YtoiaenkipdneeaaZg5
import Derived.Test.YtoiaenkipdneeaaZVB
set_option linter.all false
namespace Go.Proofs.Ytoiaenkipdneeaa
open Go.RowKit Go.V
def Glue.td : TD Glue.ty := TD.via (TD.prod TD.str (TD.int .i64)) (fun x : Glue => (x.Name, x.Strength))
theorem Glue.td_d (o : Bool) (x : Glue) : Glue.td.d o x = [.v (.string x.Name), .v (.int .i64 x.Strength)] := rfl
theorem Glue.td_ok (x : Glue) : Glue.td.ok x = (x.Name.size ≤ maxLen ∧ InK .i64 x.Strength) := rfl
theorem Glue.eq_dec (a b : Glue) : (decide (a.Name = b.Name) && decide (a.Strength = b.Strength)) = decide (a = b) := by obtain ⟨a0, a1⟩ := a; obtain ⟨b0, b1⟩ := b; rw [Bool.eq_iff_iff]; simp
def Tile.td : TD Tile.ty := TD.via (TD.prod TD.str (TD.slice 2 (TD.int .i64))) (fun x : Tile => (x.Name, x.Sides))
theorem Tile.td_d (o : Bool) (x : Tile) : Tile.td.d o x = [.v (.string x.Name), .sl o 1 (x.Sides.map (rI))] := rfl
theorem Tile.td_ok (x : Tile) : Tile.td.ok x = (x.Name.size ≤ maxLen ∧ (∀ y, y ∈ x.Sides → InK .i64 y)) := rfl
def TileSet.td : TD TileSet.ty := TD.via (TD.prod (TD.slice 78 Glue.td) (TD.slice 58 Tile.td)) (fun x : TileSet => (x.Glues, x.Tiles))
theorem TileSet.td_d (o : Bool) (x : TileSet) : TileSet.td.d o x = [.sl o 2 (x.Glues.map (Glue.td.d o)), .sl o 2 (x.Tiles.map (Tile.td.d o))] := rfl
theorem TileSet.td_ok (x : TileSet) : TileSet.td.ok x = ((∀ y, y ∈ x.Glues → Glue.td.ok y) ∧ (∀ y, y ∈ x.Tiles → Tile.td.ok y)) := rfl
end Go.Proofs.Ytoiaenkipdneeaa
