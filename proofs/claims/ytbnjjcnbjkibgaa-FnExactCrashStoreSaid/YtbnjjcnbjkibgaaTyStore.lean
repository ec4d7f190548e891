/- Made by tygen.py: the type Store. -/
import Derived.Test.YtbnjjcnbjkibgaaRows
import Derived.Test.YtbnjjcnbjkibgaaLib
import Derived.Test.YtbnjjcnbjkibgaaTyBase
import Derived.Test.YtbnjjcnbjkibgaaTyLog
set_option linter.unusedSimpArgs false
set_option linter.unusedVariables false
set_option linter.all false
namespace Go.Proofs.Ytbnjjcnbjkibgaa
open Go.RowKit Go.ChangeShapes Go.WideShapes Go.ChangeAt
structure Store where
  Slots : List Log
  Active : Int
  deriving DecidableEq
def Store.ty : Ty Store := Ty.via (Ty.prod (Ty.slice 150 Log.ty) (Ty.int .i64)) (fun x => (x.Slots, x.Active))
def Store.cnt (x : Store) : Nat := cntL Log.cnt x.Slots
theorem Store.cells {w : World} {B : Nat} {cs : List Value} {x : Store} (h : Store.ty.rep w B cs x) : ∃ v0 : Value, cs = [v0, .int .i64 x.Active] ∧ (Ty.slice 150 Log.ty).rep w B [v0] x.Slots ∧ InK .i64 x.Active := by
  obtain ⟨_, _, rfl, h0, h1⟩ := h
  obtain ⟨u0, rfl⟩ := Ty.slice_one h0
  obtain ⟨rfl, i1⟩ := h1
  exact ⟨_, rfl, h0, i1⟩
theorem Store.parts {w : World} {B : Nat} {v0 : Value} {x : Store} (h : Store.ty.rep w B [v0, .int .i64 x.Active] x) : (Ty.slice 150 Log.ty).rep w B [v0] x.Slots ∧ InK .i64 x.Active := by
  obtain ⟨e0, hh, r0, r1⟩ := Store.cells h
  simp only [List.cons.injEq, and_true, true_and] at hh
  subst hh
  exact ⟨r0, r1⟩
theorem Store.rep_mk {w : World} {B : Nat} {v0 : Value} {x : Store} (h0 : (Ty.slice 150 Log.ty).rep w B [v0] x.Slots) (h1 : InK .i64 x.Active) : Store.ty.rep w B [v0, .int .i64 x.Active] x :=
  ⟨_, _, rfl, h0, ⟨rfl, h1⟩⟩
set_option maxRecDepth 100000 in
theorem Store.reads : Reads Try.prog 32 Store.ty :=
  reads_via (t := (Ty.prod (Ty.slice 150 Log.ty) (Ty.int .i64))) (fun x : Store => (x.Slots, x.Active)) (fun y => ⟨y.1, y.2⟩) (fun _ => rfl) (reads_struct Try.underlying32 (by kernel_rfl) (fld_cons rfl (reads_slice Try.underlying30 (by kernel_rfl) (by decide) (Log.reads)) (fld_one rfl (reads_int Try.underlying2 (by kernel_rfl)))))
theorem Store.own_mk {w : World} {m0 m1 : Nat} {v0 : Value} {q : Store} (p0 : InK .i64 q.Active) (h0 : Own (Ty.slice 150 Log.ty) w m0 m1 [v0] q.Slots) (l0 : m0 ≤ m1) : Own Store.ty w m0 m1 [v0, .int .i64 q.Active] q :=
  (Own.pair h0 (Own.int p0 w m1 m1) (by omega) (by omega))
set_option maxRecDepth 10000 in
set_option maxHeartbeats 1000000 in
theorem eqStore_any (v0 u0 : Value) (x : Store) (w : World) (B : Nat) (hB : B ≤ w.heap.size) (h0 : (Ty.slice 150 Log.ty).rep w B [v0] x.Slots) (k0 : (Ty.slice 150 Log.ty).rep w B [u0] x.Slots) :
    Calls Try.prog 23 #[.agg #[v0, .int .i64 x.Active], .agg #[u0, .int .i64 x.Active]] w fun e w' => e = .returned (.bool true) ∧ Below w.heap.size w w' := by
  go_enter Try.func23, Try.ntmps23
  go_upto_region 1 with fail
  refine rebase ?_
  intro W1 hW _
  have hz : Below w.heap.size w W1 := by rw [hW]; go_grown
  have hb0 := at_of hW (push2_0 _ _ _)
  have c0 := box2 hb0
  have f0 := boxf hb0
  have B0 := Lib.hid hb0
  clear hb0
  have hb1 := at_of hW (push2_1 _ _ _)
  have c1 := box2 hb1
  have f1 := boxf hb1
  have B1 := Lib.hid hb1
  clear hb1
  have HW := Lib.hid hW
  clear hW
  have hs0 := fun z : Ext W1 => eqLogS_any v0 u0 x.Slots (W1.to z) B (Nat.le_trans hB (ext_end z hz).size) (Ty.rep_below _ h0 ((ext_end z hz).mono hB)) (Ty.rep_below _ k0 ((ext_end z hz).mono hB))
  have HS0 := Lib.hid hs0
  clear hs0
  go_wp2_with fail
  first
    | (refine call_ext (HS0.out _) ?_; intro y)
    | (refine wp_region_ext (by kernel_rfl) (by kernel_rfl) ?_; repeat (go_big_quiet_step ((go_at_call 91; exact ext_call (HS0.out _)))); refine wpQuiet_nil ?_; rintro _ ⟨y, rfl⟩)
  go_wp2_with fail
  go_ret
  exact ⟨rfl, ext_end _ hz⟩
set_option maxRecDepth 10000 in
set_option maxHeartbeats 1000000 in
theorem szStore_any (v0 : Value) (q : Store) (l : Int) (hl0 : 0 ≤ l) (hl1 : l ≤ 1048576) (w : World) (B : Nat) (hB : B ≤ w.heap.size) (h0 : (Ty.slice 150 Log.ty).rep w B [v0] q.Slots) :
    Calls Try.prog 19 #[.agg #[v0, .int .i64 q.Active], .int .i64 l] w fun e w' => e = .returned (.int .i64 (szR l (Store.cnt q))) ∧ Below w.heap.size w w' := by
  by_cases g0 : ((cntL Log.cnt q.Slots : Nat) : Int) ≤ l
  · go_enter Try.func19, Try.ntmps19
    go_upto_region 1 with fail
    refine rebase ?_
    intro W1 hW _
    have hz : Below w.heap.size w W1 := by rw [hW]; go_grown
    have hb0 := at_of hW (push1_0 _ _)
    have c0 := box2 hb0
    have f0 := boxf hb0
    have B0 := Lib.hid hb0
    clear hb0
    have HW := Lib.hid hW
    clear hW
    have hs0 := fun z : Ext W1 => szLogS_any v0 q.Slots (l) (by omega) (by omega) (W1.to z) B (Nat.le_trans hB (ext_end z hz).size) (Ty.rep_below _ h0 ((ext_end z hz).mono hB))
    simp only [szR_ok g0] at hs0
    have HS0 := Lib.hid hs0
    clear hs0
    go_wp2_with fail
    refine call_ext (HS0.out _) ?_
    intro y
    go_wp2_with fail
    go_ret
    exact ⟨by rw [szR_ok (by unfold Store.cnt; omega)]; unfold Store.cnt; go_num, ext_end _ hz⟩
  · go_enter Try.func19, Try.ntmps19
    go_upto_region 1 with fail
    refine rebase ?_
    intro W1 hW _
    have hz : Below w.heap.size w W1 := by rw [hW]; go_grown
    have hb0 := at_of hW (push1_0 _ _)
    have c0 := box2 hb0
    have f0 := boxf hb0
    have B0 := Lib.hid hb0
    clear hb0
    have HW := Lib.hid hW
    clear hW
    have hs0 := fun z : Ext W1 => szLogS_any v0 q.Slots (l) (by omega) (by omega) (W1.to z) B (Nat.le_trans hB (ext_end z hz).size) (Ty.rep_below _ h0 ((ext_end z hz).mono hB))
    simp only [szR_no g0] at hs0
    have HS0 := Lib.hid hs0
    clear hs0
    go_wp2_with fail
    refine call_ext (HS0.out _) ?_
    intro y
    go_wp2_with fail
    go_ret
    exact ⟨by rw [szR_no (by unfold Store.cnt; omega)]; rfl, ext_end _ hz⟩
set_option maxRecDepth 10000 in
set_option maxHeartbeats 1000000 in
theorem toStore_any (v0 : Value) (q : Store) (w : World) (B : Nat) (hB : B ≤ w.heap.size) (h0 : (Ty.slice 150 Log.ty).rep w B [v0] q.Slots) (p0 : InK .i64 q.Active) (hn : Store.cnt q ≤ 1048576) :
    Calls Try.prog 21 #[.agg #[v0, .int .i64 q.Active]] w fun e w' => (∃ u0 : Value, e = .returned (.agg #[u0, .int .i64 q.Active]) ∧ Own Store.ty w' w.heap.size w'.heap.size [u0, .int .i64 q.Active] q) ∧ Below w.heap.size w w' := by
  have hn' := hn
  unfold Store.cnt at hn'
  obtain ⟨a0, z0, rfl, _, _⟩ := Ty.form h0
  have H0 := Lib.hid h0
  clear h0
  have P0 := Lib.hid p0
  clear p0
  clear hn
  go_enter Try.func21, Try.ntmps21
  go_wp2_with fail
  refine callbase ?_
  intro W0 hW
  have hz : Below w.heap.size w W0 := by rw [hW]; go_grown
  have hs : w.heap.size + 3 = W0.heap.size := by rw [hW]; simp only [World.size_alloc]
  have hb0 := at_of hW (push3_0 _ _ _ _)
  have hb1 := at_of hW (push3_1 _ _ _ _)
  have hb2 := at_of hW (push3_2 _ _ _ _)
  have HS := Lib.hid hs
  clear hs hW
  refine (toLogS_any _ q.Slots W0 B (Nat.le_trans hB hz.size) (Ty.rep_below _ H0.out (hz.mono hB)) (by omega)).mono ?_
  rintro e w0 ⟨⟨u0, rfl, OO⟩, hb⟩
  have hlt : w.heap.size + 3 ≤ W0.heap.size := by have := HS.out; omega
  have hle := hb.size
  have hb0 := blk_on hb hb0
  have hb1 := blk_on hb hb1
  have hb2 := blk_on hb hb2
  have hz := hz.trans (hb.mono hz.size)
  obtain ⟨ua0, uc0, rfl⟩ := Own.form OO
  have O0 := OO
  clear OO
  have c0 := cel2 hb0
  have f0 := celf hb0
  have HB0 := Lib.hid hb0
  clear hb0
  have c1 := cel2 hb1
  have f1 := celf hb1
  have HB1 := Lib.hid hb1
  clear hb1
  have c2 := cel2 hb2
  have f2 := celf hb2
  have HB2 := Lib.hid hb2
  clear hb2
  have HZ := Lib.hid hz
  have HLT := Lib.hid hlt
  clear hz hb hlt
  have HO0 := Lib.hid O0
  clear O0
  go_wp2_with fail
  refine bodyPost_ret (results_cell_row rfl _ _ (w.heap.size + 1) 36 _ _ _ rfl (blk_set (blk_set (blk_far (blk_far (HB1.out) _ (by simp <;> omega)) _ (by simp <;> omega)) _) _) Try.underlying36 rfl (by kernel_rfl)) rfl ?_
  have hlt := HLT.out
  refine ⟨⟨_, rfl, ?_⟩, ((((HZ.out.setCell (by simp <;> omega) _).setCell (by simp <;> omega) _).setCell (by simp <;> omega) _).setCell (by simp <;> omega) _)⟩
  refine Own.mono (lo := W0.heap.size) (hi := w0.heap.size) ?_ (by have := HS.out; omega) (by simp only [World.size_setCell]; exact Nat.le_refl _)
  exact Store.own_mk P0.out (Own.mono (lo := W0.heap.size) (hi' := w0.heap.size) (Own.set (Own.set (Own.set (Own.set (HO0.out) (by omega) _) (by omega) _) (by omega) _) (by omega) _) (Nat.le_refl _) (by omega)) (by omega)

end Go.Proofs.Ytbnjjcnbjkibgaa
