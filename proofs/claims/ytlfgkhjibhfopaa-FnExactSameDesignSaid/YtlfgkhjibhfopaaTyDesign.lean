/- Made by tygen.py: the type Design. -/
import Derived.Test.YtlfgkhjibhfopaaRows
import Derived.Test.YtlfgkhjibhfopaaLib
import Derived.Test.YtlfgkhjibhfopaaTyBase
import Derived.Test.YtlfgkhjibhfopaaTyPiece
set_option linter.unusedSimpArgs false
set_option linter.unusedVariables false
namespace Go.Proofs.Ytlfgkhjibhfopaa
open Go.RowKit Go.ChangeShapes Go.WideShapes Go.ChangeAt
structure Design where
  Bottom : List Int
  Left : List Int
  Pieces : List Piece
  deriving DecidableEq
def Design.ty : Ty Design := Ty.via (Ty.prod (Ty.slice 2 (Ty.int .i64)) (Ty.prod (Ty.slice 2 (Ty.int .i64)) (Ty.slice 128 Piece.ty))) (fun x => (x.Bottom, x.Left, x.Pieces))
def Design.cnt (x : Design) : Nat := x.Bottom.length + x.Left.length + x.Pieces.length
theorem Design.cells {w : World} {B : Nat} {cs : List Value} {x : Design} (h : Design.ty.rep w B cs x) : ∃ v0 v1 v2 : Value, cs = [v0, v1, v2] ∧ (Ty.slice 2 (Ty.int .i64)).rep w B [v0] x.Bottom ∧ (Ty.slice 2 (Ty.int .i64)).rep w B [v1] x.Left ∧ (Ty.slice 128 Piece.ty).rep w B [v2] x.Pieces := by
  obtain ⟨_, _, rfl, h0, _, _, rfl, h1, h2⟩ := h
  obtain ⟨u0, rfl⟩ := Ty.slice_one h0
  obtain ⟨u1, rfl⟩ := Ty.slice_one h1
  obtain ⟨u2, rfl⟩ := Ty.slice_one h2
  exact ⟨_, _, _, rfl, h0, h1, h2⟩
theorem Design.parts {w : World} {B : Nat} {v0 v1 v2 : Value} {x : Design} (h : Design.ty.rep w B [v0, v1, v2] x) : (Ty.slice 2 (Ty.int .i64)).rep w B [v0] x.Bottom ∧ (Ty.slice 2 (Ty.int .i64)).rep w B [v1] x.Left ∧ (Ty.slice 128 Piece.ty).rep w B [v2] x.Pieces := by
  obtain ⟨e0, e1, e2, hh, r0, r1, r2⟩ := Design.cells h
  simp only [List.cons.injEq, and_true, true_and] at hh
  obtain ⟨rfl, rfl, rfl⟩ := hh
  exact ⟨r0, r1, r2⟩
theorem Design.rep_mk {w : World} {B : Nat} {v0 v1 v2 : Value} {x : Design} (h0 : (Ty.slice 2 (Ty.int .i64)).rep w B [v0] x.Bottom) (h1 : (Ty.slice 2 (Ty.int .i64)).rep w B [v1] x.Left) (h2 : (Ty.slice 128 Piece.ty).rep w B [v2] x.Pieces) : Design.ty.rep w B [v0, v1, v2] x :=
  ⟨_, _, rfl, h0, _, _, rfl, h1, h2⟩
set_option maxRecDepth 100000 in
theorem Design.reads : Reads Try.prog 76 Design.ty :=
  reads_via (t := (Ty.prod (Ty.slice 2 (Ty.int .i64)) (Ty.prod (Ty.slice 2 (Ty.int .i64)) (Ty.slice 128 Piece.ty)))) (fun x : Design => (x.Bottom, x.Left, x.Pieces)) (fun y => ⟨y.1, y.2.1, y.2.2⟩) (fun _ => rfl) (reads_struct Try.underlying76 (by kernel_rfl) (fld_cons rfl (reads_slice Try.underlying53 (by kernel_rfl) (by decide) (reads_int Try.underlying2 (by kernel_rfl))) (fld_cons rfl (reads_slice Try.underlying53 (by kernel_rfl) (by decide) (reads_int Try.underlying2 (by kernel_rfl))) (fld_one rfl (reads_slice Try.underlying74 (by kernel_rfl) (by decide) (Piece.reads))))))
theorem Design.own_mk {w : World} {m0 m1 m2 m3 : Nat} {v0 v1 v2 : Value} {q : Design} (h0 : Own (Ty.slice 2 (Ty.int .i64)) w m0 m1 [v0] q.Bottom) (h1 : Own (Ty.slice 2 (Ty.int .i64)) w m1 m2 [v1] q.Left) (h2 : Own (Ty.slice 128 Piece.ty) w m2 m3 [v2] q.Pieces) (l0 : m0 ≤ m1) (l1 : m1 ≤ m2) (l2 : m2 ≤ m3) : Own Design.ty w m0 m3 [v0, v1, v2] q :=
  (Own.pair h0 (Own.pair h1 h2 (by omega) (by omega)) (by omega) (by omega))
set_option maxRecDepth 10000 in
set_option maxHeartbeats 1000000 in
theorem eqDesign_any (v0 v1 v2 u0 u1 u2 : Value) (x : Design) (w : World) (B : Nat) (hB : B ≤ w.heap.size) (h0 : (Ty.slice 2 (Ty.int .i64)).rep w B [v0] x.Bottom) (h1 : (Ty.slice 2 (Ty.int .i64)).rep w B [v1] x.Left) (h2 : (Ty.slice 128 Piece.ty).rep w B [v2] x.Pieces) (k0 : (Ty.slice 2 (Ty.int .i64)).rep w B [u0] x.Bottom) (k1 : (Ty.slice 2 (Ty.int .i64)).rep w B [u1] x.Left) (k2 : (Ty.slice 128 Piece.ty).rep w B [u2] x.Pieces) :
    Calls Try.prog 54 #[.agg #[v0, v1, v2], .agg #[u0, u1, u2]] w fun e w' => e = .returned (.bool true) ∧ Below w.heap.size w w' := by
  go_enter Try.func54, Try.ntmps54
  go_upto_region 1 with fail
  refine rebase ?_
  intro W1 hW _
  have hz : Below w.heap.size w W1 := by rw [hW]; go_grown
  have hb0 := at_of hW (push2_0 _ _ _)
  have c0 := box3 hb0
  have f0 := boxf hb0
  have B0 := Lib.hid hb0
  clear hb0
  have hb1 := at_of hW (push2_1 _ _ _)
  have c1 := box3 hb1
  have f1 := boxf hb1
  have B1 := Lib.hid hb1
  clear hb1
  have HW := Lib.hid hW
  clear hW
  have hs0 := fun z : Ext W1 => eqInt64S_any v0 u0 x.Bottom (W1.to z) B (Nat.le_trans hB (ext_end z hz).size) (Ty.rep_below _ h0 ((ext_end z hz).mono hB)) (Ty.rep_below _ k0 ((ext_end z hz).mono hB))
  have HS0 := Lib.hid hs0
  clear hs0
  have hs1 := fun z : Ext W1 => eqInt64S_any v1 u1 x.Left (W1.to z) B (Nat.le_trans hB (ext_end z hz).size) (Ty.rep_below _ h1 ((ext_end z hz).mono hB)) (Ty.rep_below _ k1 ((ext_end z hz).mono hB))
  have HS1 := Lib.hid hs1
  clear hs1
  have hs2 := fun z : Ext W1 => eqPieceS_any v2 u2 x.Pieces (W1.to z) B (Nat.le_trans hB (ext_end z hz).size) (Ty.rep_below _ h2 ((ext_end z hz).mono hB)) (Ty.rep_below _ k2 ((ext_end z hz).mono hB))
  have HS2 := Lib.hid hs2
  clear hs2
  go_wp2_with fail
  first
    | (refine call_ext (HS0.out _) ?_; intro y)
    | (refine wp_region_ext (by kernel_rfl) (by kernel_rfl) ?_; repeat (go_big_quiet_step ((go_at_call 57; exact ext_call (HS0.out _)))); refine wpQuiet_nil ?_; rintro _ ⟨y, rfl⟩)
  go_wp2_with fail
  first
    | (refine call_ext (HS1.out _) ?_; intro y)
    | (refine wp_region_ext (by kernel_rfl) (by kernel_rfl) ?_; repeat (go_big_quiet_step ((go_at_call 57; exact ext_call (HS1.out _)))); refine wpQuiet_nil ?_; rintro _ ⟨y, rfl⟩)
  go_wp2_with fail
  first
    | (refine call_ext (HS2.out _) ?_; intro y)
    | (refine wp_region_ext (by kernel_rfl) (by kernel_rfl) ?_; repeat (go_big_quiet_step ((go_at_call 98; exact ext_call (HS2.out _)))); refine wpQuiet_nil ?_; rintro _ ⟨y, rfl⟩)
  go_wp2_with fail
  go_ret
  exact ⟨rfl, ext_end _ hz⟩
set_option maxRecDepth 10000 in
set_option maxHeartbeats 1000000 in
theorem szDesign_any (v0 v1 v2 : Value) (q : Design) (l : Int) (hl0 : 0 ≤ l) (hl1 : l ≤ 1048576) (w : World) (B : Nat) (hB : B ≤ w.heap.size) (h0 : (Ty.slice 2 (Ty.int .i64)).rep w B [v0] q.Bottom) (h1 : (Ty.slice 2 (Ty.int .i64)).rep w B [v1] q.Left) (h2 : (Ty.slice 128 Piece.ty).rep w B [v2] q.Pieces) :
    Calls Try.prog 50 #[.agg #[v0, v1, v2], .int .i64 l] w fun e w' => e = .returned (.int .i64 (szR l (Design.cnt q))) ∧ Below w.heap.size w w' := by
  by_cases g0 : ((q.Bottom.length : Nat) : Int) ≤ l
  · by_cases g1 : ((q.Left.length : Nat) : Int) ≤ l - (q.Bottom.length : Nat)
    · by_cases g2 : ((q.Pieces.length : Nat) : Int) ≤ l - (q.Bottom.length : Nat) - (q.Left.length : Nat)
      · go_enter Try.func50, Try.ntmps50
        go_upto_region 1 with fail
        refine rebase ?_
        intro W1 hW _
        have hz : Below w.heap.size w W1 := by rw [hW]; go_grown
        have hb0 := at_of hW (push1_0 _ _)
        have c0 := box3 hb0
        have f0 := boxf hb0
        have B0 := Lib.hid hb0
        clear hb0
        have HW := Lib.hid hW
        clear hW
        have hs0 := fun z : Ext W1 => szInt64S_any v0 q.Bottom (l) (by omega) (by omega) (W1.to z) B (Nat.le_trans hB (ext_end z hz).size) (Ty.rep_below _ h0 ((ext_end z hz).mono hB))
        simp only [szR_ok g0] at hs0
        have HS0 := Lib.hid hs0
        clear hs0
        have hs1 := fun z : Ext W1 => szInt64S_any v1 q.Left (l - (q.Bottom.length : Nat)) (by omega) (by omega) (W1.to z) B (Nat.le_trans hB (ext_end z hz).size) (Ty.rep_below _ h1 ((ext_end z hz).mono hB))
        simp only [szR_ok g1] at hs1
        have HS1 := Lib.hid hs1
        clear hs1
        have hs2 := fun z : Ext W1 => szPieceS_any v2 q.Pieces (l - (q.Bottom.length : Nat) - (q.Left.length : Nat)) (by omega) (by omega) (W1.to z) B (Nat.le_trans hB (ext_end z hz).size) (Ty.rep_below _ h2 ((ext_end z hz).mono hB))
        simp only [szR_ok g2] at hs2
        have HS2 := Lib.hid hs2
        clear hs2
        go_wp2_with fail
        refine call_ext (HS0.out _) ?_
        intro y
        go_wp2_with fail
        refine call_ext (HS1.out _) ?_
        intro y
        go_wp2_with fail
        refine call_ext (HS2.out _) ?_
        intro y
        go_wp2_with fail
        go_ret
        exact ⟨by rw [szR_ok (by unfold Design.cnt; omega)]; unfold Design.cnt; go_num, ext_end _ hz⟩
      · go_enter Try.func50, Try.ntmps50
        go_upto_region 1 with fail
        refine rebase ?_
        intro W1 hW _
        have hz : Below w.heap.size w W1 := by rw [hW]; go_grown
        have hb0 := at_of hW (push1_0 _ _)
        have c0 := box3 hb0
        have f0 := boxf hb0
        have B0 := Lib.hid hb0
        clear hb0
        have HW := Lib.hid hW
        clear hW
        have hs0 := fun z : Ext W1 => szInt64S_any v0 q.Bottom (l) (by omega) (by omega) (W1.to z) B (Nat.le_trans hB (ext_end z hz).size) (Ty.rep_below _ h0 ((ext_end z hz).mono hB))
        simp only [szR_ok g0] at hs0
        have HS0 := Lib.hid hs0
        clear hs0
        have hs1 := fun z : Ext W1 => szInt64S_any v1 q.Left (l - (q.Bottom.length : Nat)) (by omega) (by omega) (W1.to z) B (Nat.le_trans hB (ext_end z hz).size) (Ty.rep_below _ h1 ((ext_end z hz).mono hB))
        simp only [szR_ok g1] at hs1
        have HS1 := Lib.hid hs1
        clear hs1
        have hs2 := fun z : Ext W1 => szPieceS_any v2 q.Pieces (l - (q.Bottom.length : Nat) - (q.Left.length : Nat)) (by omega) (by omega) (W1.to z) B (Nat.le_trans hB (ext_end z hz).size) (Ty.rep_below _ h2 ((ext_end z hz).mono hB))
        simp only [szR_no g2] at hs2
        have HS2 := Lib.hid hs2
        clear hs2
        go_wp2_with fail
        refine call_ext (HS0.out _) ?_
        intro y
        go_wp2_with fail
        refine call_ext (HS1.out _) ?_
        intro y
        go_wp2_with fail
        refine call_ext (HS2.out _) ?_
        intro y
        go_wp2_with fail
        go_ret
        exact ⟨by rw [szR_no (by unfold Design.cnt; omega)]; rfl, ext_end _ hz⟩
    · go_enter Try.func50, Try.ntmps50
      go_upto_region 1 with fail
      refine rebase ?_
      intro W1 hW _
      have hz : Below w.heap.size w W1 := by rw [hW]; go_grown
      have hb0 := at_of hW (push1_0 _ _)
      have c0 := box3 hb0
      have f0 := boxf hb0
      have B0 := Lib.hid hb0
      clear hb0
      have HW := Lib.hid hW
      clear hW
      have hs0 := fun z : Ext W1 => szInt64S_any v0 q.Bottom (l) (by omega) (by omega) (W1.to z) B (Nat.le_trans hB (ext_end z hz).size) (Ty.rep_below _ h0 ((ext_end z hz).mono hB))
      simp only [szR_ok g0] at hs0
      have HS0 := Lib.hid hs0
      clear hs0
      have hs1 := fun z : Ext W1 => szInt64S_any v1 q.Left (l - (q.Bottom.length : Nat)) (by omega) (by omega) (W1.to z) B (Nat.le_trans hB (ext_end z hz).size) (Ty.rep_below _ h1 ((ext_end z hz).mono hB))
      simp only [szR_no g1] at hs1
      have HS1 := Lib.hid hs1
      clear hs1
      go_wp2_with fail
      refine call_ext (HS0.out _) ?_
      intro y
      go_wp2_with fail
      refine call_ext (HS1.out _) ?_
      intro y
      go_wp2_with fail
      go_ret
      exact ⟨by rw [szR_no (by unfold Design.cnt; omega)]; rfl, ext_end _ hz⟩
  · go_enter Try.func50, Try.ntmps50
    go_upto_region 1 with fail
    refine rebase ?_
    intro W1 hW _
    have hz : Below w.heap.size w W1 := by rw [hW]; go_grown
    have hb0 := at_of hW (push1_0 _ _)
    have c0 := box3 hb0
    have f0 := boxf hb0
    have B0 := Lib.hid hb0
    clear hb0
    have HW := Lib.hid hW
    clear hW
    have hs0 := fun z : Ext W1 => szInt64S_any v0 q.Bottom (l) (by omega) (by omega) (W1.to z) B (Nat.le_trans hB (ext_end z hz).size) (Ty.rep_below _ h0 ((ext_end z hz).mono hB))
    simp only [szR_no g0] at hs0
    have HS0 := Lib.hid hs0
    clear hs0
    go_wp2_with fail
    refine call_ext (HS0.out _) ?_
    intro y
    go_wp2_with fail
    go_ret
    exact ⟨by rw [szR_no (by unfold Design.cnt; omega)]; rfl, ext_end _ hz⟩
set_option maxRecDepth 10000 in
set_option maxHeartbeats 1000000 in
theorem toDesign_any (v0 v1 v2 : Value) (q : Design) (w : World) (B : Nat) (hB : B ≤ w.heap.size) (h0 : (Ty.slice 2 (Ty.int .i64)).rep w B [v0] q.Bottom) (h1 : (Ty.slice 2 (Ty.int .i64)).rep w B [v1] q.Left) (h2 : (Ty.slice 128 Piece.ty).rep w B [v2] q.Pieces) (hn : Design.cnt q ≤ 1048576) :
    Calls Try.prog 52 #[.agg #[v0, v1, v2]] w fun e w' => (∃ u0 u1 u2 : Value, e = .returned (.agg #[u0, u1, u2]) ∧ Own Design.ty w' w.heap.size w'.heap.size [u0, u1, u2] q) ∧ Below w.heap.size w w' := by
  have hn' := hn
  unfold Design.cnt at hn'
  obtain ⟨a0, z0, rfl, _, _⟩ := Ty.form h0
  have H0 := Lib.hid h0
  clear h0
  obtain ⟨a1, z1, rfl, _, _⟩ := Ty.form h1
  have H1 := Lib.hid h1
  clear h1
  obtain ⟨a2, z2, rfl, _, _⟩ := Ty.form h2
  have H2 := Lib.hid h2
  clear h2
  clear hn
  go_enter Try.func52, Try.ntmps52
  go_wp2_with fail
  refine callbase ?_
  intro W0 hW
  have hz : Below w.heap.size w W0 := by rw [hW]; go_grown
  have hs : w.heap.size + 3 = W0.heap.size := by rw [hW]; simp only [World.size_alloc]
  have hb0 := at_of hW (push3_0 _ _ _ _)
  have hb1 := at_of hW (push3_1 _ _ _ _)
  have hb2 := at_of hW (push3_2 _ _ _ _)
  have HS := Lib.hid hs
  clear hs hW
  refine (toInt64S_any _ q.Bottom W0 B (Nat.le_trans hB hz.size) (Ty.rep_below _ H0.out (hz.mono hB)) (by omega)).mono ?_
  rintro e w0 ⟨⟨u0, rfl, OO⟩, hb⟩
  have hlt : w.heap.size + 3 ≤ W0.heap.size := by have := HS.out; omega
  have hle := hb.size
  have hb0 := blk_on hb hb0
  have hb1 := blk_on hb hb1
  have hb2 := blk_on hb hb2
  have hz := hz.trans (hb.mono hz.size)
  obtain ⟨ua0, uc0, rfl⟩ := Own.form OO
  have O0 := OO
  clear OO
  have c0 := cel3 hb0
  have f0 := celf hb0
  have HB0 := Lib.hid hb0
  clear hb0
  have c1 := cel3 hb1
  have f1 := celf hb1
  have HB1 := Lib.hid hb1
  clear hb1
  have c2 := cel3 hb2
  have f2 := celf hb2
  have HB2 := Lib.hid hb2
  clear hb2
  have HZ := Lib.hid hz
  have HLT := Lib.hid hlt
  clear hz hb hlt
  have HO0 := Lib.hid O0
  clear O0
  go_wp2_with fail
  refine callbase ?_
  intro W1 hW
  clear c0 c1 c2 f0 f1 f2
  have hz : Below w.heap.size w W1 := by rw [hW]; exact (HZ.out.setCell (by simp <;> omega) _)
  have hs : w0.heap.size = W1.heap.size := by rw [hW]; simp [World.setCell]
  have hb0 := at_of hW (blk_far (HB0.out) _ (by simp <;> omega))
  have hb1 := at_of hW (blk_far (HB1.out) _ (by simp <;> omega))
  have hb2 := at_of hW (blk_set (HB2.out) _)
  have hlt := HLT.out
  have hsl1 := Nat.le_of_eq hs
  have HS := Lib.hid hs
  have O0 := Own.at hW (Own.set (HO0.out) (by omega) _)
  clear hs hW HB0 HB1 HB2 HZ
  clear HO0
  refine (toInt64S_any _ q.Left W1 B (Nat.le_trans hB hz.size) (Ty.rep_below _ H1.out (hz.mono hB)) (by omega)).mono ?_
  rintro e w1 ⟨⟨u1, rfl, OO⟩, hb⟩
  have hlt : w.heap.size + 3 ≤ W1.heap.size := by have := HS.out; omega
  have hle := hb.size
  have hb0 := blk_on hb hb0
  have hb1 := blk_on hb hb1
  have hb2 := blk_on hb hb2
  have O0 := Own.below O0 hb (by omega)
  have hz := hz.trans (hb.mono hz.size)
  obtain ⟨ua1, uc1, rfl⟩ := Own.form OO
  have O1 := OO
  clear OO
  have c0 := cel3 hb0
  have f0 := celf hb0
  have HB0 := Lib.hid hb0
  clear hb0
  have c1 := cel3 hb1
  have f1 := celf hb1
  have HB1 := Lib.hid hb1
  clear hb1
  have c2 := cel3 hb2
  have f2 := celf hb2
  have HB2 := Lib.hid hb2
  clear hb2
  have HZ := Lib.hid hz
  have HLT := Lib.hid hlt
  clear hz hb hlt
  have HO0 := Lib.hid O0
  clear O0
  have HO1 := Lib.hid O1
  clear O1
  go_wp2_with fail
  refine callbase ?_
  intro W2 hW
  clear c0 c1 c2 f0 f1 f2
  have hz : Below w.heap.size w W2 := by rw [hW]; exact (HZ.out.setCell (by simp <;> omega) _)
  have hs : w1.heap.size = W2.heap.size := by rw [hW]; simp [World.setCell]
  have hb0 := at_of hW (blk_far (HB0.out) _ (by simp <;> omega))
  have hb1 := at_of hW (blk_far (HB1.out) _ (by simp <;> omega))
  have hb2 := at_of hW (blk_set (HB2.out) _)
  have hlt := HLT.out
  have hsl2 := Nat.le_of_eq hs
  have HS := Lib.hid hs
  have O0 := Own.at hW (Own.set (HO0.out) (by omega) _)
  have O1 := Own.at hW (Own.set (HO1.out) (by omega) _)
  clear hs hW HB0 HB1 HB2 HZ
  clear HO0
  clear HO1
  refine (toPieceS_any _ q.Pieces W2 B (Nat.le_trans hB hz.size) (Ty.rep_below _ H2.out (hz.mono hB)) (by omega)).mono ?_
  rintro e w2 ⟨⟨u2, rfl, OO⟩, hb⟩
  have hlt : w.heap.size + 3 ≤ W2.heap.size := by have := HS.out; omega
  have hle := hb.size
  have hb0 := blk_on hb hb0
  have hb1 := blk_on hb hb1
  have hb2 := blk_on hb hb2
  have O0 := Own.below O0 hb (by omega)
  have O1 := Own.below O1 hb (by omega)
  have hz := hz.trans (hb.mono hz.size)
  obtain ⟨ua2, uc2, rfl⟩ := Own.form OO
  have O2 := OO
  clear OO
  have c0 := cel3 hb0
  have f0 := celf hb0
  have HB0 := Lib.hid hb0
  clear hb0
  have c1 := cel3 hb1
  have f1 := celf hb1
  have HB1 := Lib.hid hb1
  clear hb1
  have c2 := cel3 hb2
  have f2 := celf hb2
  have HB2 := Lib.hid hb2
  clear hb2
  have HZ := Lib.hid hz
  have HLT := Lib.hid hlt
  clear hz hb hlt
  have HO0 := Lib.hid O0
  clear O0
  have HO1 := Lib.hid O1
  clear O1
  have HO2 := Lib.hid O2
  clear O2
  go_wp2_with fail
  refine bodyPost_ret (results_cell_row rfl _ _ (w.heap.size + 1) 81 _ _ _ rfl (blk_set (blk_set (blk_set (blk_far (HB1.out) _ (by simp <;> omega)) _) _) _) Try.underlying81 rfl (by kernel_rfl)) rfl ?_
  have hlt := HLT.out
  refine ⟨⟨_, _, _, rfl, ?_⟩, ((((HZ.out.setCell (by simp <;> omega) _).setCell (by simp <;> omega) _).setCell (by simp <;> omega) _).setCell (by simp <;> omega) _)⟩
  refine Own.mono (lo := W0.heap.size) (hi := w2.heap.size) ?_ (by have := HS.out; omega) (by simp only [World.size_setCell]; exact Nat.le_refl _)
  exact Design.own_mk (Own.mono (lo := W0.heap.size) (hi' := W1.heap.size) (Own.set (Own.set (Own.set (Own.set (HO0.out) (by omega) _) (by omega) _) (by omega) _) (by omega) _) (Nat.le_refl _) (by omega)) (Own.mono (lo := W1.heap.size) (hi' := W2.heap.size) (Own.set (Own.set (Own.set (Own.set (HO1.out) (by omega) _) (by omega) _) (by omega) _) (by omega) _) (Nat.le_refl _) (by omega)) (Own.mono (lo := W2.heap.size) (hi' := w2.heap.size) (Own.set (Own.set (Own.set (Own.set (HO2.out) (by omega) _) (by omega) _) (by omega) _) (by omega) _) (Nat.le_refl _) (by omega)) (by omega) (by omega) (by omega)

end Go.Proofs.Ytlfgkhjibhfopaa
