/- Laws that the proof stands on. -/
import Derived.Test.YtjalagigmelcaaaRows
import Derived.Test.YtjalagigmelcaaaZLib
set_option linter.all false
namespace Go.Proofs.Ytjalagigmelcaaa
open Go.RowKit Go.ChangeShapes Go.WideShapes Go.ChangeAt
structure Point where
  X : Int
  Y : Int
  deriving DecidableEq
def Point.ty : Ty Point := Ty.via (Ty.prod (Ty.int .i64) (Ty.int .i64)) (fun x => (x.X, x.Y))
theorem Point.cells {w : World} {B : Nat} {cs : List Value} {x : Point} (h : Point.ty.rep w B cs x) : cs = [.int .i64 x.X, .int .i64 x.Y] ∧ InK .i64 x.X ∧ InK .i64 x.Y := by obtain ⟨_, _, rfl, h0, h1⟩ := h; obtain ⟨rfl, i0⟩ := h0; obtain ⟨rfl, i1⟩ := h1; exact ⟨rfl, i0, i1⟩
theorem Point.parts {w : World} {B : Nat} {x : Point} (h : Point.ty.rep w B [.int .i64 x.X, .int .i64 x.Y] x) : InK .i64 x.X ∧ InK .i64 x.Y := by obtain ⟨hh, r0, r1⟩ := Point.cells h; exact ⟨r0, r1⟩
structure Placed where
  At : Point
  Tile : Int
  deriving DecidableEq
def Placed.ty : Ty Placed := Ty.via (Ty.prod Point.ty (Ty.int .i64)) (fun x => (x.At, x.Tile))
theorem Placed.cells {w : World} {B : Nat} {cs : List Value} {x : Placed} (h : Placed.ty.rep w B cs x) : cs = [.int .i64 x.At.X, .int .i64 x.At.Y, .int .i64 x.Tile] ∧ InK .i64 x.At.X ∧ InK .i64 x.At.Y ∧ InK .i64 x.Tile := by obtain ⟨_, _, rfl, h0, h1⟩ := h; obtain ⟨rfl, i0_0, i0_1⟩ := Point.cells h0; obtain ⟨rfl, i1⟩ := h1; exact ⟨rfl, i0_0, i0_1, i1⟩
theorem Placed.parts {w : World} {B : Nat} {x : Placed} (h : Placed.ty.rep w B [.int .i64 x.At.X, .int .i64 x.At.Y, .int .i64 x.Tile] x) : InK .i64 x.At.X ∧ InK .i64 x.At.Y ∧ InK .i64 x.Tile := by obtain ⟨hh, r0, r1, r2⟩ := Placed.cells h; exact ⟨r0, r1, r2⟩
structure Assembly where
  Tiles : List Placed
  deriving DecidableEq
def Assembly.ty : Ty Assembly := Ty.via ((Ty.slice 60 Placed.ty)) (fun x => x.Tiles)
def Assembly.cnt (x : Assembly) : Nat := x.Tiles.length
theorem Assembly.cells {w : World} {B : Nat} {cs : List Value} {x : Assembly} (h : Assembly.ty.rep w B cs x) : ∃ v0 : Value, cs = [v0] ∧ (Ty.slice 60 Placed.ty).rep w B [v0] x.Tiles := by have h0 : (Ty.slice 60 Placed.ty).rep w B cs x.Tiles := h; obtain ⟨u0, rfl⟩ := Ty.slice_one h0; exact ⟨_, rfl, h0⟩
theorem Assembly.parts {w : World} {B : Nat} {v0 : Value} {x : Assembly} (h : Assembly.ty.rep w B [v0] x) : (Ty.slice 60 Placed.ty).rep w B [v0] x.Tiles := by obtain ⟨e0, hh, r0⟩ := Assembly.cells h; simp only [List.cons.injEq, and_true, true_and] at hh; subst hh; exact r0
end Go.Proofs.Ytjalagigmelcaaa
