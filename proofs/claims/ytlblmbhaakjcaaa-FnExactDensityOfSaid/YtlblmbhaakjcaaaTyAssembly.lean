/- Made by tygen.py: the type Assembly. -/
import Derived.Test.YtlblmbhaakjcaaaRows
import Derived.Test.YtlblmbhaakjcaaaLib
import Derived.Test.YtlblmbhaakjcaaaTyBase
import Derived.Test.YtlblmbhaakjcaaaTyPlaced
set_option linter.unusedSimpArgs false
set_option linter.unusedVariables false
set_option linter.all false
namespace Go.Proofs.Ytlblmbhaakjcaaa
open Go.RowKit Go.ChangeShapes Go.WideShapes Go.ChangeAt
structure Assembly where
  Tiles : List Placed
  deriving DecidableEq
def Assembly.ty : Ty Assembly := Ty.via ((Ty.slice 67 Placed.ty)) (fun x => x.Tiles)
def Assembly.cnt (x : Assembly) : Nat := x.Tiles.length
theorem Assembly.cells {w : World} {B : Nat} {cs : List Value} {x : Assembly} (h : Assembly.ty.rep w B cs x) : ∃ v0 : Value, cs = [v0] ∧ (Ty.slice 67 Placed.ty).rep w B [v0] x.Tiles := by
  have h0 : (Ty.slice 67 Placed.ty).rep w B cs x.Tiles := h
  obtain ⟨u0, rfl⟩ := Ty.slice_one h0
  exact ⟨_, rfl, h0⟩
theorem Assembly.parts {w : World} {B : Nat} {v0 : Value} {x : Assembly} (h : Assembly.ty.rep w B [v0] x) : (Ty.slice 67 Placed.ty).rep w B [v0] x.Tiles := by
  obtain ⟨e0, hh, r0⟩ := Assembly.cells h
  simp only [List.cons.injEq, and_true, true_and] at hh
  subst hh
  exact r0
theorem Assembly.rep_mk {w : World} {B : Nat} {v0 : Value} {x : Assembly} (h0 : (Ty.slice 67 Placed.ty).rep w B [v0] x.Tiles) : Assembly.ty.rep w B [v0] x :=
  h0
set_option maxRecDepth 100000 in
theorem Assembly.reads : Reads Try.prog 24 Assembly.ty :=
  reads_via (t := ((Ty.slice 67 Placed.ty))) (fun x : Assembly => x.Tiles) (fun y => ⟨y⟩) (fun _ => rfl) (reads_struct Try.underlying24 (by kernel_rfl) (fld_one rfl (reads_slice Try.underlying22 (by kernel_rfl) (by decide) (Placed.reads))))
theorem Assembly.own_mk {w : World} {m0 m1 : Nat} {v0 : Value} {q : Assembly} (h0 : Own (Ty.slice 67 Placed.ty) w m0 m1 [v0] q.Tiles) (l0 : m0 ≤ m1) : Own Assembly.ty w m0 m1 [v0] q :=
  h0
set_option maxRecDepth 10000 in
set_option maxHeartbeats 1000000 in
theorem eqAssembly_any (v0 u0 : Value) (x : Assembly) (w : World) (B : Nat) (hB : B ≤ w.heap.size) (h0 : (Ty.slice 67 Placed.ty).rep w B [v0] x.Tiles) (k0 : (Ty.slice 67 Placed.ty).rep w B [u0] x.Tiles) :
    Calls Try.prog 10 #[.agg #[v0], .agg #[u0]] w fun e w' => e = .returned (.bool true) ∧ Below w.heap.size w w' := by
  go_enter Try.func10, Try.ntmps10
  go_upto_region 1 with fail
  refine rebase ?_
  intro W1 hW _
  have hz : Below w.heap.size w W1 := by rw [hW]; go_grown
  have hb0 := at_of hW (push2_0 _ _ _)
  have c0 := box1 hb0
  have f0 := boxf hb0
  have B0 := Lib.hid hb0
  clear hb0
  have hb1 := at_of hW (push2_1 _ _ _)
  have c1 := box1 hb1
  have f1 := boxf hb1
  have B1 := Lib.hid hb1
  clear hb1
  have HW := Lib.hid hW
  clear hW
  have hs0 := fun z : Ext W1 => eqPlacedS_any v0 u0 x.Tiles (W1.to z) B (Nat.le_trans hB (ext_end z hz).size) (Ty.rep_below _ h0 ((ext_end z hz).mono hB)) (Ty.rep_below _ k0 ((ext_end z hz).mono hB))
  have HS0 := Lib.hid hs0
  clear hs0
  go_wp2_with fail
  first
    | (refine call_ext (HS0.out _) ?_; intro y)
    | (refine wp_region_ext (by kernel_rfl) (by kernel_rfl) ?_; repeat (go_big_quiet_step ((go_at_call 24; exact ext_call (HS0.out _)))); refine wpQuiet_nil ?_; rintro _ ⟨y, rfl⟩)
  go_wp2_with fail
  go_ret
  exact ⟨rfl, ext_end _ hz⟩
set_option maxRecDepth 10000 in
set_option maxHeartbeats 1000000 in
theorem szAssembly_any (v0 : Value) (q : Assembly) (l : Int) (hl0 : 0 ≤ l) (hl1 : l ≤ 1048576) (w : World) (B : Nat) (hB : B ≤ w.heap.size) (h0 : (Ty.slice 67 Placed.ty).rep w B [v0] q.Tiles) :
    Calls Try.prog 5 #[.agg #[v0], .int .i64 l] w fun e w' => e = .returned (.int .i64 (szR l (Assembly.cnt q))) ∧ Below w.heap.size w w' := by
  by_cases g0 : ((q.Tiles.length : Nat) : Int) ≤ l
  · go_enter Try.func5, Try.ntmps5
    go_upto_region 1 with fail
    refine rebase ?_
    intro W1 hW _
    have hz : Below w.heap.size w W1 := by rw [hW]; go_grown
    have hb0 := at_of hW (push1_0 _ _)
    have c0 := box1 hb0
    have f0 := boxf hb0
    have B0 := Lib.hid hb0
    clear hb0
    have HW := Lib.hid hW
    clear hW
    have hs0 := fun z : Ext W1 => szPlacedS_any v0 q.Tiles (l) (by omega) (by omega) (W1.to z) B (Nat.le_trans hB (ext_end z hz).size) (Ty.rep_below _ h0 ((ext_end z hz).mono hB))
    simp only [szR_ok g0] at hs0
    have HS0 := Lib.hid hs0
    clear hs0
    go_wp2_with fail
    refine call_ext (HS0.out _) ?_
    intro y
    go_wp2_with fail
    go_ret
    exact ⟨by rw [szR_ok (by unfold Assembly.cnt; omega)]; unfold Assembly.cnt; go_num, ext_end _ hz⟩
  · go_enter Try.func5, Try.ntmps5
    go_upto_region 1 with fail
    refine rebase ?_
    intro W1 hW _
    have hz : Below w.heap.size w W1 := by rw [hW]; go_grown
    have hb0 := at_of hW (push1_0 _ _)
    have c0 := box1 hb0
    have f0 := boxf hb0
    have B0 := Lib.hid hb0
    clear hb0
    have HW := Lib.hid hW
    clear hW
    have hs0 := fun z : Ext W1 => szPlacedS_any v0 q.Tiles (l) (by omega) (by omega) (W1.to z) B (Nat.le_trans hB (ext_end z hz).size) (Ty.rep_below _ h0 ((ext_end z hz).mono hB))
    simp only [szR_no g0] at hs0
    have HS0 := Lib.hid hs0
    clear hs0
    go_wp2_with fail
    refine call_ext (HS0.out _) ?_
    intro y
    go_wp2_with fail
    go_ret
    exact ⟨by rw [szR_no (by unfold Assembly.cnt; omega)]; rfl, ext_end _ hz⟩
set_option maxRecDepth 10000 in
set_option maxHeartbeats 1000000 in
theorem toAssembly_any (v0 : Value) (q : Assembly) (w : World) (B : Nat) (hB : B ≤ w.heap.size) (h0 : (Ty.slice 67 Placed.ty).rep w B [v0] q.Tiles) (hn : Assembly.cnt q ≤ 1048576) :
    Calls Try.prog 7 #[.agg #[v0]] w fun e w' => (∃ u0 : Value, e = .returned (.agg #[u0]) ∧ Own Assembly.ty w' w.heap.size w'.heap.size [u0] q) ∧ Below w.heap.size w w' := by
  have hn' := hn
  unfold Assembly.cnt at hn'
  obtain ⟨a0, z0, rfl, _, _⟩ := Ty.form h0
  have H0 := Lib.hid h0
  clear h0
  clear hn
  go_enter Try.func7, Try.ntmps7
  go_wp2_with fail
  refine callbase ?_
  intro W0 hW
  have hz : Below w.heap.size w W0 := by rw [hW]; go_grown
  have hs : w.heap.size + 3 = W0.heap.size := by rw [hW]; simp only [World.size_alloc]
  have hb0 := at_of hW (push3_0 _ _ _ _)
  have hb1 := at_of hW (push3_1 _ _ _ _)
  have hb2 := at_of hW (push3_2 _ _ _ _)
  have HS := Lib.hid hs
  clear hs hW
  refine (toPlacedS_any _ q.Tiles W0 B (Nat.le_trans hB hz.size) (Ty.rep_below _ H0.out (hz.mono hB)) (by omega)).mono ?_
  rintro e w0 ⟨⟨u0, rfl, OO⟩, hb⟩
  have hlt : w.heap.size + 3 ≤ W0.heap.size := by have := HS.out; omega
  have hle := hb.size
  have hb0 := blk_on hb hb0
  have hb1 := blk_on hb hb1
  have hb2 := blk_on hb hb2
  have hz := hz.trans (hb.mono hz.size)
  obtain ⟨ua0, uc0, rfl⟩ := Own.form OO
  have O0 := OO
  clear OO
  have c0 := cel1 hb0
  have f0 := celf hb0
  have HB0 := Lib.hid hb0
  clear hb0
  have c1 := cel1 hb1
  have f1 := celf hb1
  have HB1 := Lib.hid hb1
  clear hb1
  have c2 := cel1 hb2
  have f2 := celf hb2
  have HB2 := Lib.hid hb2
  clear hb2
  have HZ := Lib.hid hz
  have HLT := Lib.hid hlt
  clear hz hb hlt
  have HO0 := Lib.hid O0
  clear O0
  go_wp2_with fail
  refine bodyPost_ret (results_cell_row rfl _ _ (w.heap.size + 1) 32 _ _ _ rfl (blk_set (blk_far (HB1.out) _ (by simp <;> omega)) _) Try.underlying32 rfl (by kernel_rfl)) rfl ?_
  have hlt := HLT.out
  refine ⟨⟨_, rfl, ?_⟩, ((HZ.out.setCell (by simp <;> omega) _).setCell (by simp <;> omega) _)⟩
  refine Own.mono (lo := W0.heap.size) (hi := w0.heap.size) ?_ (by have := HS.out; omega) (by simp only [World.size_setCell]; exact Nat.le_refl _)
  exact Assembly.own_mk (Own.mono (lo := W0.heap.size) (hi' := w0.heap.size) (Own.set (Own.set (HO0.out) (by omega) _) (by omega) _) (Nat.le_refl _) (by omega)) (by omega)

end Go.Proofs.Ytlblmbhaakjcaaa
