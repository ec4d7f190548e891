/- Laws that the proof stands on. -/
import Derived.Test.YtjcmijfompcphaaRows
import Derived.Test.YtjcmijfompcphaaZLib
import Derived.Test.YtjcmijfompcphaaZTyBase
import Derived.Test.YtjcmijfompcphaaZMark
set_option linter.all false
namespace Go.Proofs.Ytjcmijfompcphaa
open Go.RowKit Go.ChangeShapes Go.WideShapes Go.ChangeAt
structure Pattern where
  Width : Int
  Height : Int
  Cells : List Int
  deriving DecidableEq
def Pattern.ty : Ty Pattern := Ty.via (Ty.prod (Ty.int .i64) (Ty.prod (Ty.int .i64) (Ty.slice 2 (Ty.int .i64)))) (fun x => (x.Width, x.Height, x.Cells))
def Pattern.cnt (x : Pattern) : Nat := x.Cells.length
theorem Pattern.cells {w : World} {B : Nat} {cs : List Value} {x : Pattern} (h : Pattern.ty.rep w B cs x) : ∃ v0 : Value, cs = [.int .i64 x.Width, .int .i64 x.Height, v0] ∧ InK .i64 x.Width ∧ InK .i64 x.Height ∧ (Ty.slice 2 (Ty.int .i64)).rep w B [v0] x.Cells := by obtain ⟨_, _, rfl, h0, _, _, rfl, h1, h2⟩ := h; obtain ⟨rfl, i0⟩ := h0; obtain ⟨rfl, i1⟩ := h1; obtain ⟨u2, rfl⟩ := Ty.slice_one h2; exact ⟨_, rfl, i0, i1, h2⟩
theorem Pattern.parts {w : World} {B : Nat} {v0 : Value} {x : Pattern} (h : Pattern.ty.rep w B [.int .i64 x.Width, .int .i64 x.Height, v0] x) : InK .i64 x.Width ∧ InK .i64 x.Height ∧ (Ty.slice 2 (Ty.int .i64)).rep w B [v0] x.Cells := by obtain ⟨e0, hh, r0, r1, r2⟩ := Pattern.cells h; simp only [List.cons.injEq, and_true, true_and] at hh; subst hh; exact ⟨r0, r1, r2⟩
theorem Pattern.rep_mk {w : World} {B : Nat} {v0 : Value} {x : Pattern} (h0 : InK .i64 x.Width) (h1 : InK .i64 x.Height) (h2 : (Ty.slice 2 (Ty.int .i64)).rep w B [v0] x.Cells) : Pattern.ty.rep w B [.int .i64 x.Width, .int .i64 x.Height, v0] x :=
  ⟨_, _, rfl, ⟨rfl, h0⟩, _, _, rfl, ⟨rfl, h1⟩, h2⟩
set_option maxRecDepth 100000 in
theorem Pattern.reads : Reads Try.prog 24 Pattern.ty :=
  reads_via (t := (Ty.prod (Ty.int .i64) (Ty.prod (Ty.int .i64) (Ty.slice 2 (Ty.int .i64))))) (fun x : Pattern => (x.Width, x.Height, x.Cells)) (fun y => ⟨y.1, y.2.1, y.2.2⟩) (fun _ => rfl) (reads_struct Try.underlying24 (by kernel_rfl) (fld_cons rfl (reads_int Try.underlying2 (by kernel_rfl)) (fld_cons rfl (reads_int Try.underlying2 (by kernel_rfl)) (fld_one rfl (reads_slice Try.underlying22 (by kernel_rfl) (by decide) (reads_int Try.underlying2 (by kernel_rfl)))))))
set_option maxRecDepth 10000 in
set_option maxHeartbeats 1000000 in
theorem eqPattern_any (v0 u0 : Value) (x : Pattern) (w : World) (B : Nat) (hB : B ≤ w.heap.size) (h0 : (Ty.slice 2 (Ty.int .i64)).rep w B [v0] x.Cells) (k0 : (Ty.slice 2 (Ty.int .i64)).rep w B [u0] x.Cells) :
    Calls Try.prog 8 #[.agg #[.int .i64 x.Width, .int .i64 x.Height, v0], .agg #[.int .i64 x.Width, .int .i64 x.Height, u0]] w fun e w' => e = .returned (.bool true) ∧ Below w.heap.size w w' := by
  go_enter Try.func8, Try.ntmps8
  go_upto_region 1 with fail
  refine rebase ?_; intro W1 hW _; have hz : Below w.heap.size w W1 := by rw [hW]; go_grown
  have hb0 := at_of hW (push2_0 _ _ _); have c0 := box3 hb0; have f0 := boxf hb0; have B0 := Lib.hid hb0; clear hb0; have hb1 := at_of hW (push2_1 _ _ _); have c1 := box3 hb1; have f1 := boxf hb1; have B1 := Lib.hid hb1; clear hb1; have HW := Lib.hid hW; clear hW; have hs0 := fun z : Ext W1 => eqInt64S_any v0 u0 x.Cells (W1.to z) B (Nat.le_trans hB (ext_end z hz).size) (Ty.rep_below _ h0 ((ext_end z hz).mono hB)) (Ty.rep_below _ k0 ((ext_end z hz).mono hB)); have HS0 := Lib.hid hs0; clear hs0; go_wp2_with fail
  first
    | (refine call_ext (HS0.out _) ?_; intro y)
    | (refine wp_region_ext (by kernel_rfl) (by kernel_rfl) ?_; repeat (go_big_quiet_step ((go_at_call 15; exact ext_call (HS0.out _)))); refine wpQuiet_nil ?_; rintro _ ⟨y, rfl⟩)
  go_wp2_with fail
  go_ret; exact ⟨rfl, ext_end _ hz⟩
set_option maxRecDepth 10000 in
set_option maxHeartbeats 1000000 in
theorem szPattern_any (v0 : Value) (q : Pattern) (l : Int) (hl0 : 0 ≤ l) (hl1 : l ≤ 1048576) (w : World) (B : Nat) (hB : B ≤ w.heap.size) (h0 : (Ty.slice 2 (Ty.int .i64)).rep w B [v0] q.Cells) :
    Calls Try.prog 4 #[.agg #[.int .i64 q.Width, .int .i64 q.Height, v0], .int .i64 l] w fun e w' => e = .returned (.int .i64 (szR l (Pattern.cnt q))) ∧ Below w.heap.size w w' := by
  by_cases g0 : ((q.Cells.length : Nat) : Int) ≤ l
  · go_enter Try.func4, Try.ntmps4
    go_upto_region 1 with fail
    refine rebase ?_; intro W1 hW _; have hz : Below w.heap.size w W1 := by rw [hW]; go_grown
    have hb0 := at_of hW (push1_0 _ _); have c0 := box3 hb0; have f0 := boxf hb0; have B0 := Lib.hid hb0; clear hb0; have HW := Lib.hid hW; clear hW; have hs0 := fun z : Ext W1 => szInt64S_any v0 q.Cells (l) (by omega) (by omega) (W1.to z) B (Nat.le_trans hB (ext_end z hz).size) (Ty.rep_below _ h0 ((ext_end z hz).mono hB)); simp only [szR_ok g0] at hs0; have HS0 := Lib.hid hs0; clear hs0; go_wp2_with fail; refine call_ext (HS0.out _) ?_; intro y; go_wp2_with fail; go_ret; exact ⟨by rw [szR_ok (by unfold Pattern.cnt; omega)]; unfold Pattern.cnt; go_num, ext_end _ hz⟩
  · go_enter Try.func4, Try.ntmps4
    go_upto_region 1 with fail
    refine rebase ?_; intro W1 hW _; have hz : Below w.heap.size w W1 := by rw [hW]; go_grown
    have hb0 := at_of hW (push1_0 _ _); have c0 := box3 hb0; have f0 := boxf hb0; have B0 := Lib.hid hb0; clear hb0; have HW := Lib.hid hW; clear hW; have hs0 := fun z : Ext W1 => szInt64S_any v0 q.Cells (l) (by omega) (by omega) (W1.to z) B (Nat.le_trans hB (ext_end z hz).size) (Ty.rep_below _ h0 ((ext_end z hz).mono hB)); simp only [szR_no g0] at hs0; have HS0 := Lib.hid hs0; clear hs0; go_wp2_with fail; refine call_ext (HS0.out _) ?_; intro y; go_wp2_with fail; go_ret; exact ⟨by rw [szR_no (by unfold Pattern.cnt; omega)]; rfl, ext_end _ hz⟩
end Go.Proofs.Ytjcmijfompcphaa
