/- Laws that the proof stands on. -/
import Derived.Test.YtjcgpppmikjbnaaRows
import Derived.Test.YtjcgpppmikjbnaaZLib
set_option linter.all false
namespace Go.Proofs.Ytjcgpppmikjbnaa
open Go.RowKit Go.ChangeShapes Go.WideShapes Go.ChangeAt
structure Measure where
  Tiles : Int
  Kinds : Int
  Glues : Int
  Area : Int
  Strength : Int
  Misfits : Int
  Slack : Int
  deriving DecidableEq
def Measure.ty : Ty Measure := Ty.via (Ty.prod (Ty.int .i64) (Ty.prod (Ty.int .i64) (Ty.prod (Ty.int .i64) (Ty.prod (Ty.int .i64) (Ty.prod (Ty.int .i64) (Ty.prod (Ty.int .i64) (Ty.int .i64))))))) (fun x => (x.Tiles, x.Kinds, x.Glues, x.Area, x.Strength, x.Misfits, x.Slack))
theorem Measure.cells {w : World} {B : Nat} {cs : List Value} {x : Measure} (h : Measure.ty.rep w B cs x) : cs = [.int .i64 x.Tiles, .int .i64 x.Kinds, .int .i64 x.Glues, .int .i64 x.Area, .int .i64 x.Strength, .int .i64 x.Misfits, .int .i64 x.Slack] ∧ InK .i64 x.Tiles ∧ InK .i64 x.Kinds ∧ InK .i64 x.Glues ∧ InK .i64 x.Area ∧ InK .i64 x.Strength ∧ InK .i64 x.Misfits ∧ InK .i64 x.Slack := by obtain ⟨_, _, rfl, h0, _, _, rfl, h1, _, _, rfl, h2, _, _, rfl, h3, _, _, rfl, h4, _, _, rfl, h5, h6⟩ := h; obtain ⟨rfl, i0⟩ := h0; obtain ⟨rfl, i1⟩ := h1; obtain ⟨rfl, i2⟩ := h2; obtain ⟨rfl, i3⟩ := h3; obtain ⟨rfl, i4⟩ := h4; obtain ⟨rfl, i5⟩ := h5; obtain ⟨rfl, i6⟩ := h6; exact ⟨rfl, i0, i1, i2, i3, i4, i5, i6⟩
theorem Measure.parts {w : World} {B : Nat} {x : Measure} (h : Measure.ty.rep w B [.int .i64 x.Tiles, .int .i64 x.Kinds, .int .i64 x.Glues, .int .i64 x.Area, .int .i64 x.Strength, .int .i64 x.Misfits, .int .i64 x.Slack] x) : InK .i64 x.Tiles ∧ InK .i64 x.Kinds ∧ InK .i64 x.Glues ∧ InK .i64 x.Area ∧ InK .i64 x.Strength ∧ InK .i64 x.Misfits ∧ InK .i64 x.Slack := by obtain ⟨hh, r0, r1, r2, r3, r4, r5, r6⟩ := Measure.cells h; exact ⟨r0, r1, r2, r3, r4, r5, r6⟩
end Go.Proofs.Ytjcgpppmikjbnaa
