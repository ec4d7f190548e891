/- Laws that the proof stands on. -/
import Derived.Test.YtkaehgnnhookpaaZg10
import Derived.Test.YtkaehgnnhookpaaZVB
set_option linter.all false
namespace Go.Proofs.Ytkaehgnnhookpaa
open Go.RowKit Go.V
def Glue.td : TD Glue.ty := TD.via (TD.prod TD.str (TD.int .i64)) (fun x : Glue => (x.Name, x.Strength))
theorem Glue.td_d (o : Bool) (x : Glue) : Glue.td.d o x = [.v (.string x.Name), .v (.int .i64 x.Strength)] := rfl
theorem Glue.eq_dec (a b : Glue) : (decide (a.Name = b.Name) && decide (a.Strength = b.Strength)) = decide (a = b) := by obtain ⟨a0, a1⟩ := a; obtain ⟨b0, b1⟩ := b; rw [Bool.eq_iff_iff]; simp
def Tile.td : TD Tile.ty := TD.via (TD.prod TD.str (TD.slice 2 (TD.int .i64))) (fun x : Tile => (x.Name, x.Sides))
theorem Tile.td_d (o : Bool) (x : Tile) : Tile.td.d o x = [.v (.string x.Name), .sl o 1 (x.Sides.map (rI))] := rfl
def TileSet.td : TD TileSet.ty := TD.via (TD.prod (TD.slice 93 Glue.td) (TD.slice 95 Tile.td)) (fun x : TileSet => (x.Glues, x.Tiles))
theorem TileSet.td_d (o : Bool) (x : TileSet) : TileSet.td.d o x = [.sl o 2 (x.Glues.map (Glue.td.d o)), .sl o 2 (x.Tiles.map (Tile.td.d o))] := rfl
def Point.td : TD Point.ty := TD.via (TD.prod (TD.int .i64) (TD.int .i64)) (fun x : Point => (x.X, x.Y))
theorem Point.td_d (o : Bool) (x : Point) : Point.td.d o x = [.v (.int .i64 x.X), .v (.int .i64 x.Y)] := rfl
theorem Point.eq_dec (a b : Point) : (decide (a.X = b.X) && decide (a.Y = b.Y)) = decide (a = b) := by obtain ⟨a0, a1⟩ := a; obtain ⟨b0, b1⟩ := b; rw [Bool.eq_iff_iff]; simp
def Placed.td : TD Placed.ty := TD.via (TD.prod Point.td (TD.int .i64)) (fun x : Placed => (x.At, x.Tile))
theorem Placed.td_d (o : Bool) (x : Placed) : Placed.td.d o x = [.v (.int .i64 x.At.X), .v (.int .i64 x.At.Y), .v (.int .i64 x.Tile)] := rfl
theorem Placed.eq_dec (a b : Placed) : (decide (a.At.X = b.At.X) && (decide (a.At.Y = b.At.Y) && decide (a.Tile = b.Tile))) = decide (a = b) := by obtain ⟨⟨a00, a01⟩, a1⟩ := a; obtain ⟨⟨b00, b01⟩, b1⟩ := b; rw [Bool.eq_iff_iff]; simp [and_assoc]
def Assembly.td : TD Assembly.ty := TD.via ((TD.slice 77 Placed.td)) (fun x : Assembly => x.Tiles)
theorem Assembly.td_d (o : Bool) (x : Assembly) : Assembly.td.d o x = [.sl o 3 (x.Tiles.map (Placed.td.d o))] := rfl
def System.td : TD System.ty := TD.via (TD.prod TileSet.td (TD.prod Assembly.td (TD.int .i64))) (fun x : System => (x.Set, x.Seed, x.Temperature))
theorem System.td_d (o : Bool) (x : System) : System.td.d o x = [.sl o 2 (x.Set.Glues.map (Glue.td.d o)), .sl o 2 (x.Set.Tiles.map (Tile.td.d o)), .sl o 3 (x.Seed.Tiles.map (Placed.td.d o)), .v (.int .i64 x.Temperature)] := rfl
def Option.td : TD Option.ty := TD.via (TD.prod Point.td (TD.int .i64)) (fun x : Option => (x.At, x.Tile))
theorem Option.td_d (o : Bool) (x : Option) : Option.td.d o x = [.v (.int .i64 x.At.X), .v (.int .i64 x.At.Y), .v (.int .i64 x.Tile)] := rfl
theorem Option.eq_dec (a b : Option) : (decide (a.At.X = b.At.X) && (decide (a.At.Y = b.At.Y) && decide (a.Tile = b.Tile))) = decide (a = b) := by obtain ⟨⟨a00, a01⟩, a1⟩ := a; obtain ⟨⟨b00, b01⟩, b1⟩ := b; rw [Bool.eq_iff_iff]; simp [and_assoc]
def Proof.td : TD Proof.ty := TD.via (TD.prod (TD.int .i64) (TD.prod (TD.slice 87 Option.td) (TD.prod (TD.slice 87 Option.td) (TD.prod (TD.slice 2 (TD.int .i64)) (TD.slice 32 (TD.slice 2 (TD.int .i64))))))) (fun x : Proof => (x.Kind, x.Sequence, x.Other, x.Part, x.Flows))
theorem Proof.td_d (o : Bool) (x : Proof) : Proof.td.d o x = [.v (.int .i64 x.Kind), .sl o 3 (x.Sequence.map (Option.td.d o)), .sl o 3 (x.Other.map (Option.td.d o)), .sl o 1 (x.Part.map (rI)), .sl o 1 (x.Flows.map (fun x => [.sl o 1 (x.map (rI))]))] := rfl
def Entry.td : TD Entry.ty := TD.via (TD.prod TD.str (TD.prod System.td (TD.prod Assembly.td Proof.td))) (fun x : Entry => (x.Name, x.System, x.End, x.Proof))
theorem Entry.td_d (o : Bool) (x : Entry) : Entry.td.d o x = [.v (.string x.Name), .sl o 2 (x.System.Set.Glues.map (Glue.td.d o)), .sl o 2 (x.System.Set.Tiles.map (Tile.td.d o)), .sl o 3 (x.System.Seed.Tiles.map (Placed.td.d o)), .v (.int .i64 x.System.Temperature), .sl o 3 (x.End.Tiles.map (Placed.td.d o)), .v (.int .i64 x.Proof.Kind), .sl o 3 (x.Proof.Sequence.map (Option.td.d o)), .sl o 3 (x.Proof.Other.map (Option.td.d o)), .sl o 1 (x.Proof.Part.map (rI)), .sl o 1 (x.Proof.Flows.map (fun x => [.sl o 1 (x.map (rI))]))] := rfl
end Go.Proofs.Ytkaehgnnhookpaa
