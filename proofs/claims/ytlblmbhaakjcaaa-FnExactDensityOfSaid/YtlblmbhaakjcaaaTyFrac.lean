/- Made by tygen.py: the type Frac. -/
import Derived.Test.YtlblmbhaakjcaaaRows
import Derived.Test.YtlblmbhaakjcaaaLib
import Derived.Test.YtlblmbhaakjcaaaTyBase
set_option linter.unusedSimpArgs false
set_option linter.unusedVariables false
set_option linter.all false
namespace Go.Proofs.Ytlblmbhaakjcaaa
open Go.RowKit Go.ChangeShapes Go.WideShapes Go.ChangeAt
structure Frac where
  Num : Int
  Den : Int
  deriving DecidableEq
def Frac.ty : Ty Frac := Ty.via (Ty.prod (Ty.int .i64) (Ty.int .i64)) (fun x => (x.Num, x.Den))
theorem Frac.cells {w : World} {B : Nat} {cs : List Value} {x : Frac} (h : Frac.ty.rep w B cs x) : cs = [.int .i64 x.Num, .int .i64 x.Den] ∧ InK .i64 x.Num ∧ InK .i64 x.Den := by
  obtain ⟨_, _, rfl, h0, h1⟩ := h
  obtain ⟨rfl, i0⟩ := h0
  obtain ⟨rfl, i1⟩ := h1
  exact ⟨rfl, i0, i1⟩
theorem Frac.parts {w : World} {B : Nat} {x : Frac} (h : Frac.ty.rep w B [.int .i64 x.Num, .int .i64 x.Den] x) : InK .i64 x.Num ∧ InK .i64 x.Den := by
  obtain ⟨hh, r0, r1⟩ := Frac.cells h
  exact ⟨r0, r1⟩
theorem Frac.rep_mk {w : World} {B : Nat} {x : Frac} (h0 : InK .i64 x.Num) (h1 : InK .i64 x.Den) : Frac.ty.rep w B [.int .i64 x.Num, .int .i64 x.Den] x :=
  ⟨_, _, rfl, ⟨rfl, h0⟩, ⟨rfl, h1⟩⟩
theorem Frac.own_mk {w : World} {m0 : Nat} {q : Frac} (p0 : InK .i64 q.Num) (p1 : InK .i64 q.Den) : Own Frac.ty w m0 m0 [.int .i64 q.Num, .int .i64 q.Den] q :=
  (Own.pair (Own.int p0 w m0 m0) (Own.int p1 w m0 m0) (by omega) (by omega))
set_option maxRecDepth 10000 in
set_option maxHeartbeats 1000000 in
theorem eqFrac_any (x : Frac) (w : World) :
    Calls Try.prog 9 #[.agg #[.int .i64 x.Num, .int .i64 x.Den], .agg #[.int .i64 x.Num, .int .i64 x.Den]] w fun e w' => e = .returned (.bool true) ∧ Below w.heap.size w w' := by
  go_enter Try.func9, Try.ntmps9
  go_upto_region 1 with fail
  refine rebase ?_
  intro W1 hW _
  have hz : Below w.heap.size w W1 := by rw [hW]; go_grown
  have hb0 := at_of hW (push2_0 _ _ _)
  have c0 := box2 hb0
  have f0 := boxf hb0
  have B0 := Lib.hid hb0
  clear hb0
  have hb1 := at_of hW (push2_1 _ _ _)
  have c1 := box2 hb1
  have f1 := boxf hb1
  have B1 := Lib.hid hb1
  clear hb1
  have HW := Lib.hid hW
  clear hW
  go_wp2_with fail
  go_ret
  exact ⟨rfl, ext_end _ hz⟩

end Go.Proofs.Ytlblmbhaakjcaaa
