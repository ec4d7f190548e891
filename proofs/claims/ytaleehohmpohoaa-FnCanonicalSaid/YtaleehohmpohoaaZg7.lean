/- Laws that the proof stands on. -/
import Derived.Test.YtaleehohmpohoaaRows
import Derived.Test.YtaleehohmpohoaaZLib
set_option linter.all false
namespace Go.Proofs.Ytaleehohmpohoaa
open Go.RowKit Go.ChangeShapes Go.WideShapes Go.ChangeAt
structure Piece where
  Color:Int
  North:Int
  East:Int
  South:Int
  West:Int
  deriving DecidableEq
def Piece.ty:Ty Piece:=Ty.via (Ty.prod (Ty.int .i64) (Ty.prod (Ty.int .i64) (Ty.prod (Ty.int .i64) (Ty.prod (Ty.int .i64) (Ty.int .i64))))) (fun x=>(x.Color,x.North,x.East,x.South,x.West))
theorem Piece.cells {w:World}{B:Nat}{cs:List Value}{x:Piece}(h:Piece.ty.rep w B cs x):cs=[.int .i64 x.Color,.int .i64 x.North,.int .i64 x.East,.int .i64 x.South,.int .i64 x.West]∧InK .i64 x.Color∧InK .i64 x.North∧InK .i64 x.East∧InK .i64 x.South∧InK .i64 x.West:=by obtain ⟨_,_,rfl,h0,_,_,rfl,h1,_,_,rfl,h2,_,_,rfl,h3,h4⟩:=h;obtain ⟨rfl,i0⟩:=h0;obtain ⟨rfl,i1⟩:=h1;obtain ⟨rfl,i2⟩:=h2;obtain ⟨rfl,i3⟩:=h3;obtain ⟨rfl,i4⟩:=h4;exact ⟨rfl,i0,i1,i2,i3,i4⟩
theorem Piece.parts {w:World}{B:Nat}{x:Piece}(h:Piece.ty.rep w B [.int .i64 x.Color,.int .i64 x.North,.int .i64 x.East,.int .i64 x.South,.int .i64 x.West] x):InK .i64 x.Color∧InK .i64 x.North∧InK .i64 x.East∧InK .i64 x.South∧InK .i64 x.West:=by obtain ⟨hh,r0,r1,r2,r3,r4⟩:=Piece.cells h;exact ⟨r0,r1,r2,r3,r4⟩
structure Design where
  Bottom:List Int
  Left:List Int
  Pieces:List Piece
  deriving DecidableEq
def Design.ty:Ty Design:=Ty.via (Ty.prod (Ty.slice 2 (Ty.int .i64)) (Ty.prod (Ty.slice 2 (Ty.int .i64)) (Ty.slice 63 Piece.ty))) (fun x=>(x.Bottom,x.Left,x.Pieces))
def Design.cnt (x:Design):Nat:=x.Bottom.length+x.Left.length+x.Pieces.length
theorem Design.cells {w:World}{B:Nat}{cs:List Value}{x:Design}(h:Design.ty.rep w B cs x):∃ v0 v1 v2:Value,cs=[v0,v1,v2]∧(Ty.slice 2 (Ty.int .i64)).rep w B [v0] x.Bottom∧(Ty.slice 2 (Ty.int .i64)).rep w B [v1] x.Left∧(Ty.slice 63 Piece.ty).rep w B [v2] x.Pieces:=by obtain ⟨_,_,rfl,h0,_,_,rfl,h1,h2⟩:=h;obtain ⟨u0,rfl⟩:=Ty.slice_one h0;obtain ⟨u1,rfl⟩:=Ty.slice_one h1;obtain ⟨u2,rfl⟩:=Ty.slice_one h2;exact ⟨_,_,_,rfl,h0,h1,h2⟩
theorem Design.parts {w:World}{B:Nat}{v0 v1 v2:Value}{x:Design}(h:Design.ty.rep w B [v0,v1,v2] x):(Ty.slice 2 (Ty.int .i64)).rep w B [v0] x.Bottom∧(Ty.slice 2 (Ty.int .i64)).rep w B [v1] x.Left∧(Ty.slice 63 Piece.ty).rep w B [v2] x.Pieces:=by obtain ⟨e0,e1,e2,hh,r0,r1,r2⟩:=Design.cells h;simp only [xCo,and_true,true_and] at hh;obtain ⟨rfl,rfl,rfl⟩:=hh;exact ⟨r0,r1,r2⟩
structure Pattern where
  Width:Int
  Height:Int
  Cells:List Int
  deriving DecidableEq
def Pattern.ty:Ty Pattern:=Ty.via (Ty.prod (Ty.int .i64) (Ty.prod (Ty.int .i64) (Ty.slice 2 (Ty.int .i64)))) (fun x=>(x.Width,x.Height,x.Cells))
def Pattern.cnt (x:Pattern):Nat:=x.Cells.length
theorem Pattern.cells {w:World}{B:Nat}{cs:List Value}{x:Pattern}(h:Pattern.ty.rep w B cs x):∃ v0:Value,cs=[.int .i64 x.Width,.int .i64 x.Height,v0]∧InK .i64 x.Width∧InK .i64 x.Height∧(Ty.slice 2 (Ty.int .i64)).rep w B [v0] x.Cells:=by obtain ⟨_,_,rfl,h0,_,_,rfl,h1,h2⟩:=h;obtain ⟨rfl,i0⟩:=h0;obtain ⟨rfl,i1⟩:=h1;obtain ⟨u2,rfl⟩:=Ty.slice_one h2;exact ⟨_,rfl,i0,i1,h2⟩
theorem Pattern.parts {w:World}{B:Nat}{v0:Value}{x:Pattern}(h:Pattern.ty.rep w B [.int .i64 x.Width,.int .i64 x.Height,v0] x):InK .i64 x.Width∧InK .i64 x.Height∧(Ty.slice 2 (Ty.int .i64)).rep w B [v0] x.Cells:=by obtain ⟨e0,hh,r0,r1,r2⟩:=Pattern.cells h;simp only [xCo,and_true,true_and] at hh;subst hh;exact ⟨r0,r1,r2⟩
end Go.Proofs.Ytaleehohmpohoaa
