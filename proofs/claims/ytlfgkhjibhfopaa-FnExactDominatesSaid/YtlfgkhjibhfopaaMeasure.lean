/- The type Measure, and what the small functions over it compute. -/
import Derived.Test.YtlfgkhjibhfopaaRows
import Derived.Test.YtlfgkhjibhfopaaLib
namespace Go.Proofs.Ytlfgkhjibhfopaa
open Go.RowKit Go.ChangeShapes Go.WideShapes Go.ChangeAt

structure Measure where
  tiles : Int
  kinds : Int
  glues : Int
  area : Int
  strength : Int
  misfits : Int
  slack : Int

abbrev Measure.val (m : Measure) : Value := .agg #[.int .i64 m.tiles, .int .i64 m.kinds, .int .i64 m.glues, .int .i64 m.area, .int .i64 m.strength, .int .i64 m.misfits, .int .i64 m.slack]

def Measure.ty : Ty Measure := Ty.via (Ty.prod (Ty.int .i64) (Ty.prod (Ty.int .i64) (Ty.prod (Ty.int .i64) (Ty.prod (Ty.int .i64) (Ty.prod (Ty.int .i64) (Ty.prod (Ty.int .i64) (Ty.int .i64)))))))
  (fun m => (m.tiles, m.kinds, m.glues, m.area, m.strength, m.misfits, m.slack))

theorem reads_i64 : Reads Try.prog 2 (Ty.int .i64) := reads_int Try.underlying2 (by kernel_rfl)
set_option maxRecDepth 100000 in
theorem Measure.reads : Reads Try.prog 23 Measure.ty :=
  reads_via (t := (Ty.prod (Ty.int .i64) (Ty.prod (Ty.int .i64) (Ty.prod (Ty.int .i64) (Ty.prod (Ty.int .i64) (Ty.prod (Ty.int .i64) (Ty.prod (Ty.int .i64) (Ty.int .i64)))))))) (fun m : Measure => (m.tiles, m.kinds, m.glues, m.area, m.strength, m.misfits, m.slack)) (fun x => ⟨x.1, x.2.1, x.2.2.1, x.2.2.2.1, x.2.2.2.2.1, x.2.2.2.2.2.1, x.2.2.2.2.2.2⟩) (fun _ => rfl)
   (reads_struct Try.underlying23 (by kernel_rfl) (fld_cons rfl reads_i64 (fld_cons rfl reads_i64 (fld_cons rfl reads_i64 (fld_cons rfl reads_i64 (fld_cons rfl reads_i64 (fld_cons rfl reads_i64 (fld_one rfl reads_i64))))))))

theorem Measure.cells {w : World} {B : Nat} {cs : List Value} {m : Measure} (h : Measure.ty.rep w B cs m) :
  cs = [.int .i64 m.tiles, .int .i64 m.kinds, .int .i64 m.glues, .int .i64 m.area, .int .i64 m.strength, .int .i64 m.misfits, .int .i64 m.slack] ∧
   InK .i64 m.tiles ∧ InK .i64 m.kinds ∧ InK .i64 m.glues ∧ InK .i64 m.area ∧ InK .i64 m.strength ∧ InK .i64 m.misfits ∧ InK .i64 m.slack := by
  obtain ⟨_, _, rfl, ⟨rfl, i1⟩, _, _, rfl, ⟨rfl, i2⟩, _, _, rfl, ⟨rfl, i3⟩, _, _, rfl, ⟨rfl, i4⟩, _, _, rfl, ⟨rfl, i5⟩, _, _, rfl, ⟨rfl, i6⟩, ⟨rfl, i7⟩⟩ := h
  exact ⟨rfl, i1, i2, i3, i4, i5, i6, i7⟩

def domB (a b : Measure) : Bool :=
  !(decide (b.tiles < a.tiles) || decide (b.kinds < a.kinds) || decide (b.glues < a.glues) || decide (b.area < a.area) || decide (b.misfits < a.misfits)) &&
  decide (b.strength ≤ a.strength) && decide (b.slack ≤ a.slack) && !(decide (a.tiles = b.tiles) && decide (a.kinds = b.kinds) && decide (a.glues = b.glues) && decide (a.area = b.area) && decide (a.strength = b.strength) && decide (a.misfits = b.misfits) && decide (a.slack = b.slack))

set_option maxHeartbeats 1000000 in
theorem dominates_impl (a b : Measure) (w : World) :
    Calls Try.prog 17 #[a.val, b.val] w fun e1 w' => e1 = .returned (.bool (domB a b)) ∧ Below w.heap.size w w' := by
  obtain ⟨a1,a2,a3,a4,a5,a6,a7⟩ := a
  obtain ⟨b1,b2,b3,b4,b5,b6,b7⟩ := b
  go_enter Try.func17, Try.ntmps17
  go_wp2
  all_goals (go_ret; exact ⟨by simp [domB, *]; try omega, by go_grown⟩)

set_option maxHeartbeats 1000000 in
theorem dominates_spec (a b : Measure) (w : World) :
    Calls Try.prog 15 #[a.val, b.val] w fun e1 w' => e1 = .returned (.bool (domB a b)) ∧ Below w.heap.size w w' := by
  obtain ⟨a1,a2,a3,a4,a5,a6,a7⟩ := a
  obtain ⟨b1,b2,b3,b4,b5,b6,b7⟩ := b
  go_enter Try.func15, Try.ntmps15
  go_wp2
  all_goals (go_ret; exact ⟨by simp [domB, *]; try omega, by go_grown⟩)

theorem toMeasure_any (a : Measure) (w : World) :
    Calls Try.prog 16 #[a.val] w fun e1 w' => e1 = .returned a.val ∧ Below w.heap.size w w' := by
  go_enter Try.func16, Try.ntmps16
  go_wp2
  go_returns
  exact ⟨rfl, by go_grown⟩

end Go.Proofs.Ytlfgkhjibhfopaa
