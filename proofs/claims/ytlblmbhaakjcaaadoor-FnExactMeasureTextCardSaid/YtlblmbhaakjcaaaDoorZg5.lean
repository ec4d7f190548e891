/- Laws that the proof stands on. -/
import Derived.Test.YtlblmbhaakjcaaaDoorRows
import Derived.Test.YtlblmbhaakjcaaaDoorZLib
set_option linter.all false
namespace Go.Proofs.YtlblmbhaakjcaaaDoor
open Go.RowKit Go.ChangeShapes Go.WideShapes Go.ChangeAt
structure Measure where
  Tiles : Int
  Kinds : Int
  Glues : Int
  Area : Int
  Strength : Int
  Misfits : Int
  Slack : Int
  deriving DecidableEq
def Measure.ty : Ty Measure := Ty.via (Ty.prod (Ty.int .i64) (Ty.prod (Ty.int .i64) (Ty.prod (Ty.int .i64) (Ty.prod (Ty.int .i64) (Ty.prod (Ty.int .i64) (Ty.prod (Ty.int .i64) (Ty.int .i64))))))) (fun x => (x.Tiles, x.Kinds, x.Glues, x.Area, x.Strength, x.Misfits, x.Slack))
theorem Measure.cells {w : World} {B : Nat} {cs : List Value} {x : Measure} (h : Measure.ty.rep w B cs x) : cs = [.int .i64 x.Tiles, .int .i64 x.Kinds, .int .i64 x.Glues, .int .i64 x.Area, .int .i64 x.Strength, .int .i64 x.Misfits, .int .i64 x.Slack] ∧ InK .i64 x.Tiles ∧ InK .i64 x.Kinds ∧ InK .i64 x.Glues ∧ InK .i64 x.Area ∧ InK .i64 x.Strength ∧ InK .i64 x.Misfits ∧ InK .i64 x.Slack := by obtain ⟨_, _, rfl, h0, _, _, rfl, h1, _, _, rfl, h2, _, _, rfl, h3, _, _, rfl, h4, _, _, rfl, h5, h6⟩ := h; obtain ⟨rfl, i0⟩ := h0; obtain ⟨rfl, i1⟩ := h1; obtain ⟨rfl, i2⟩ := h2; obtain ⟨rfl, i3⟩ := h3; obtain ⟨rfl, i4⟩ := h4; obtain ⟨rfl, i5⟩ := h5; obtain ⟨rfl, i6⟩ := h6; exact ⟨rfl, i0, i1, i2, i3, i4, i5, i6⟩
theorem Measure.parts {w : World} {B : Nat} {x : Measure} (h : Measure.ty.rep w B [.int .i64 x.Tiles, .int .i64 x.Kinds, .int .i64 x.Glues, .int .i64 x.Area, .int .i64 x.Strength, .int .i64 x.Misfits, .int .i64 x.Slack] x) : InK .i64 x.Tiles ∧ InK .i64 x.Kinds ∧ InK .i64 x.Glues ∧ InK .i64 x.Area ∧ InK .i64 x.Strength ∧ InK .i64 x.Misfits ∧ InK .i64 x.Slack := by obtain ⟨hh, r0, r1, r2, r3, r4, r5, r6⟩ := Measure.cells h; exact ⟨r0, r1, r2, r3, r4, r5, r6⟩
theorem Measure.rep_mk {w : World} {B : Nat} {x : Measure} (h0 : InK .i64 x.Tiles) (h1 : InK .i64 x.Kinds) (h2 : InK .i64 x.Glues) (h3 : InK .i64 x.Area) (h4 : InK .i64 x.Strength) (h5 : InK .i64 x.Misfits) (h6 : InK .i64 x.Slack) : Measure.ty.rep w B [.int .i64 x.Tiles, .int .i64 x.Kinds, .int .i64 x.Glues, .int .i64 x.Area, .int .i64 x.Strength, .int .i64 x.Misfits, .int .i64 x.Slack] x :=
  ⟨_, _, rfl, ⟨rfl, h0⟩, _, _, rfl, ⟨rfl, h1⟩, _, _, rfl, ⟨rfl, h2⟩, _, _, rfl, ⟨rfl, h3⟩, _, _, rfl, ⟨rfl, h4⟩, _, _, rfl, ⟨rfl, h5⟩, ⟨rfl, h6⟩⟩
set_option maxRecDepth 100000 in
theorem Measure.reads : Reads Tryd.prog 23 Measure.ty :=
  reads_via (t := (Ty.prod (Ty.int .i64) (Ty.prod (Ty.int .i64) (Ty.prod (Ty.int .i64) (Ty.prod (Ty.int .i64) (Ty.prod (Ty.int .i64) (Ty.prod (Ty.int .i64) (Ty.int .i64)))))))) (fun x : Measure => (x.Tiles, x.Kinds, x.Glues, x.Area, x.Strength, x.Misfits, x.Slack)) (fun y => ⟨y.1, y.2.1, y.2.2.1, y.2.2.2.1, y.2.2.2.2.1, y.2.2.2.2.2.1, y.2.2.2.2.2.2⟩) (fun _ => rfl) (reads_struct Tryd.underlying23 (by kernel_rfl) (fld_cons rfl (reads_int Tryd.underlying2 (by kernel_rfl)) (fld_cons rfl (reads_int Tryd.underlying2 (by kernel_rfl)) (fld_cons rfl (reads_int Tryd.underlying2 (by kernel_rfl)) (fld_cons rfl (reads_int Tryd.underlying2 (by kernel_rfl)) (fld_cons rfl (reads_int Tryd.underlying2 (by kernel_rfl)) (fld_cons rfl (reads_int Tryd.underlying2 (by kernel_rfl)) (fld_one rfl (reads_int Tryd.underlying2 (by kernel_rfl))))))))))
end Go.Proofs.YtlblmbhaakjcaaaDoor
