/- Laws that the proof stands on. -/
import Derived.Test.YtoiaenkipdneeaaRows
import Derived.Test.YtoiaenkipdneeaaZLib
set_option linter.all false
namespace Go.Proofs.Ytoiaenkipdneeaa
open Go.RowKit Go.ChangeShapes Go.WideShapes Go.ChangeAt
structure Glue where
  Name : ByteArray
  Strength : Int
  deriving DecidableEq
def Glue.ty : Ty Glue := Ty.via (Ty.prod Ty.str (Ty.int .i64)) (fun x => (x.Name, x.Strength))
def Glue.cnt (x : Glue) : Nat := x.Name.size
theorem Glue.cells {w : World} {B : Nat} {cs : List Value} {x : Glue} (h : Glue.ty.rep w B cs x) : cs = [.string x.Name, .int .i64 x.Strength] ∧ x.Name.size ≤ maxLen ∧ InK .i64 x.Strength := by obtain ⟨_, _, rfl, h0, h1⟩ := h; obtain ⟨rfl, i0⟩ := h0; obtain ⟨rfl, i1⟩ := h1; exact ⟨rfl, i0, i1⟩
theorem Glue.parts {w : World} {B : Nat} {x : Glue} (h : Glue.ty.rep w B [.string x.Name, .int .i64 x.Strength] x) : x.Name.size ≤ maxLen ∧ InK .i64 x.Strength := by obtain ⟨hh, r0, r1⟩ := Glue.cells h; exact ⟨r0, r1⟩
structure Tile where
  Name : ByteArray
  Sides : List Int
  deriving DecidableEq
def Tile.ty : Ty Tile := Ty.via (Ty.prod Ty.str (Ty.slice 2 (Ty.int .i64))) (fun x => (x.Name, x.Sides))
def Tile.cnt (x : Tile) : Nat := x.Name.size + x.Sides.length
theorem Tile.cells {w : World} {B : Nat} {cs : List Value} {x : Tile} (h : Tile.ty.rep w B cs x) : ∃ v0 : Value, cs = [.string x.Name, v0] ∧ x.Name.size ≤ maxLen ∧ (Ty.slice 2 (Ty.int .i64)).rep w B [v0] x.Sides := by obtain ⟨_, _, rfl, h0, h1⟩ := h; obtain ⟨rfl, i0⟩ := h0; obtain ⟨u1, rfl⟩ := Ty.slice_one h1; exact ⟨_, rfl, i0, h1⟩
theorem Tile.parts {w : World} {B : Nat} {v0 : Value} {x : Tile} (h : Tile.ty.rep w B [.string x.Name, v0] x) : x.Name.size ≤ maxLen ∧ (Ty.slice 2 (Ty.int .i64)).rep w B [v0] x.Sides := by obtain ⟨e0, hh, r0, r1⟩ := Tile.cells h; simp only [List.cons.injEq, and_true, true_and] at hh; subst hh; exact ⟨r0, r1⟩
structure TileSet where
  Glues : List Glue
  Tiles : List Tile
  deriving DecidableEq
def TileSet.ty : Ty TileSet := Ty.via (Ty.prod (Ty.slice 78 Glue.ty) (Ty.slice 58 Tile.ty)) (fun x => (x.Glues, x.Tiles))
def TileSet.cnt (x : TileSet) : Nat := cntL Glue.cnt x.Glues + cntL Tile.cnt x.Tiles
theorem TileSet.cells {w : World} {B : Nat} {cs : List Value} {x : TileSet} (h : TileSet.ty.rep w B cs x) : ∃ v0 v1 : Value, cs = [v0, v1] ∧ (Ty.slice 78 Glue.ty).rep w B [v0] x.Glues ∧ (Ty.slice 58 Tile.ty).rep w B [v1] x.Tiles := by obtain ⟨_, _, rfl, h0, h1⟩ := h; obtain ⟨u0, rfl⟩ := Ty.slice_one h0; obtain ⟨u1, rfl⟩ := Ty.slice_one h1; exact ⟨_, _, rfl, h0, h1⟩
theorem TileSet.parts {w : World} {B : Nat} {v0 v1 : Value} {x : TileSet} (h : TileSet.ty.rep w B [v0, v1] x) : (Ty.slice 78 Glue.ty).rep w B [v0] x.Glues ∧ (Ty.slice 58 Tile.ty).rep w B [v1] x.Tiles := by obtain ⟨e0, e1, hh, r0, r1⟩ := TileSet.cells h; simp only [List.cons.injEq, and_true, true_and] at hh; obtain ⟨rfl, rfl⟩ := hh; exact ⟨r0, r1⟩
end Go.Proofs.Ytoiaenkipdneeaa
