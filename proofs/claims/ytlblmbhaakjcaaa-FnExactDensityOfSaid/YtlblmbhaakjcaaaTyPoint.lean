/- Made by tygen.py: the type Point. -/
import Derived.Test.YtlblmbhaakjcaaaRows
import Derived.Test.YtlblmbhaakjcaaaLib
import Derived.Test.YtlblmbhaakjcaaaTyBase
set_option linter.unusedSimpArgs false
set_option linter.unusedVariables false
set_option linter.all false
namespace Go.Proofs.Ytlblmbhaakjcaaa
open Go.RowKit Go.ChangeShapes Go.WideShapes Go.ChangeAt
structure Point where
  X : Int
  Y : Int
  deriving DecidableEq
def Point.ty : Ty Point := Ty.via (Ty.prod (Ty.int .i64) (Ty.int .i64)) (fun x => (x.X, x.Y))
theorem Point.cells {w : World} {B : Nat} {cs : List Value} {x : Point} (h : Point.ty.rep w B cs x) : cs = [.int .i64 x.X, .int .i64 x.Y] ∧ InK .i64 x.X ∧ InK .i64 x.Y := by
  obtain ⟨_, _, rfl, h0, h1⟩ := h
  obtain ⟨rfl, i0⟩ := h0
  obtain ⟨rfl, i1⟩ := h1
  exact ⟨rfl, i0, i1⟩
theorem Point.parts {w : World} {B : Nat} {x : Point} (h : Point.ty.rep w B [.int .i64 x.X, .int .i64 x.Y] x) : InK .i64 x.X ∧ InK .i64 x.Y := by
  obtain ⟨hh, r0, r1⟩ := Point.cells h
  exact ⟨r0, r1⟩
theorem Point.rep_mk {w : World} {B : Nat} {x : Point} (h0 : InK .i64 x.X) (h1 : InK .i64 x.Y) : Point.ty.rep w B [.int .i64 x.X, .int .i64 x.Y] x :=
  ⟨_, _, rfl, ⟨rfl, h0⟩, ⟨rfl, h1⟩⟩
set_option maxRecDepth 100000 in
theorem Point.reads : Reads Try.prog 79 Point.ty :=
  reads_via (t := (Ty.prod (Ty.int .i64) (Ty.int .i64))) (fun x : Point => (x.X, x.Y)) (fun y => ⟨y.1, y.2⟩) (fun _ => rfl) (reads_struct Try.underlying79 (by kernel_rfl) (fld_cons rfl (reads_int Try.underlying2 (by kernel_rfl)) (fld_one rfl (reads_int Try.underlying2 (by kernel_rfl)))))
theorem Point.own_mk {w : World} {m0 : Nat} {q : Point} (p0 : InK .i64 q.X) (p1 : InK .i64 q.Y) : Own Point.ty w m0 m0 [.int .i64 q.X, .int .i64 q.Y] q :=
  (Own.pair (Own.int p0 w m0 m0) (Own.int p1 w m0 m0) (by omega) (by omega))
set_option maxRecDepth 10000 in
set_option maxHeartbeats 1000000 in
theorem eqPoint_any (x : Point) (w : World) :
    Calls Try.prog 59 #[.agg #[.int .i64 x.X, .int .i64 x.Y], .agg #[.int .i64 x.X, .int .i64 x.Y]] w fun e w' => e = .returned (.bool true) ∧ Below w.heap.size w w' := by
  go_enter Try.func59, Try.ntmps59
  go_upto_region 1 with fail
  refine rebase ?_
  intro W1 hW _
  have hz : Below w.heap.size w W1 := by rw [hW]; go_grown
  have hb0 := at_of hW (push2_0 _ _ _)
  have c0 := box2 hb0
  have f0 := boxf hb0
  have B0 := Lib.hid hb0
  clear hb0
  have hb1 := at_of hW (push2_1 _ _ _)
  have c1 := box2 hb1
  have f1 := boxf hb1
  have B1 := Lib.hid hb1
  clear hb1
  have HW := Lib.hid hW
  clear hW
  go_wp2_with fail
  go_ret
  exact ⟨rfl, ext_end _ hz⟩
set_option maxRecDepth 10000 in
set_option maxHeartbeats 1000000 in
theorem toPoint_any (q : Point) (w : World) :
    Calls Try.prog 56 #[.agg #[.int .i64 q.X, .int .i64 q.Y]] w fun e w' => e = .returned (.agg #[.int .i64 q.X, .int .i64 q.Y]) ∧ Below w.heap.size w w' := by
  go_enter Try.func56, Try.ntmps56
  go_wp2
  go_returns
  exact ⟨rfl, by go_grown⟩

end Go.Proofs.Ytlblmbhaakjcaaa
