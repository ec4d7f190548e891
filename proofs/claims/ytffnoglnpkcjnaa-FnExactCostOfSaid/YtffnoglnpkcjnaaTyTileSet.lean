/- Made by tygen.py: the type TileSet. -/
import Derived.Test.YtffnoglnpkcjnaaRows
import Derived.Test.YtffnoglnpkcjnaaLib
import Derived.Test.YtffnoglnpkcjnaaTyBase
import Derived.Test.YtffnoglnpkcjnaaTyGlue
import Derived.Test.YtffnoglnpkcjnaaTyTile
set_option linter.unusedSimpArgs false
set_option linter.unusedVariables false
set_option linter.all false
namespace Go.Proofs.Ytffnoglnpkcjnaa
open Go.RowKit Go.ChangeShapes Go.WideShapes Go.ChangeAt
structure TileSet where
  Glues : List Glue
  Tiles : List Tile
  deriving DecidableEq
def TileSet.ty : Ty TileSet := Ty.via (Ty.prod (Ty.slice 150 Glue.ty) (Ty.slice 149 Tile.ty)) (fun x => (x.Glues, x.Tiles))
def TileSet.cnt (x : TileSet) : Nat := cntL Glue.cnt x.Glues + cntL Tile.cnt x.Tiles
theorem TileSet.cells {w : World} {B : Nat} {cs : List Value} {x : TileSet} (h : TileSet.ty.rep w B cs x) : ∃ v0 v1 : Value, cs = [v0, v1] ∧ (Ty.slice 150 Glue.ty).rep w B [v0] x.Glues ∧ (Ty.slice 149 Tile.ty).rep w B [v1] x.Tiles := by
  obtain ⟨_, _, rfl, h0, h1⟩ := h
  obtain ⟨u0, rfl⟩ := Ty.slice_one h0
  obtain ⟨u1, rfl⟩ := Ty.slice_one h1
  exact ⟨_, _, rfl, h0, h1⟩
theorem TileSet.parts {w : World} {B : Nat} {v0 v1 : Value} {x : TileSet} (h : TileSet.ty.rep w B [v0, v1] x) : (Ty.slice 150 Glue.ty).rep w B [v0] x.Glues ∧ (Ty.slice 149 Tile.ty).rep w B [v1] x.Tiles := by
  obtain ⟨e0, e1, hh, r0, r1⟩ := TileSet.cells h
  simp only [List.cons.injEq, and_true, true_and] at hh
  obtain ⟨rfl, rfl⟩ := hh
  exact ⟨r0, r1⟩
theorem TileSet.rep_mk {w : World} {B : Nat} {v0 v1 : Value} {x : TileSet} (h0 : (Ty.slice 150 Glue.ty).rep w B [v0] x.Glues) (h1 : (Ty.slice 149 Tile.ty).rep w B [v1] x.Tiles) : TileSet.ty.rep w B [v0, v1] x :=
  ⟨_, _, rfl, h0, h1⟩
set_option maxRecDepth 100000 in
theorem TileSet.reads : Reads Try.prog 25 TileSet.ty :=
  reads_via (t := (Ty.prod (Ty.slice 150 Glue.ty) (Ty.slice 149 Tile.ty))) (fun x : TileSet => (x.Glues, x.Tiles)) (fun y => ⟨y.1, y.2⟩) (fun _ => rfl) (reads_struct Try.underlying25 (by kernel_rfl) (fld_cons rfl (reads_slice Try.underlying22 (by kernel_rfl) (by decide) (Glue.reads)) (fld_one rfl (reads_slice Try.underlying23 (by kernel_rfl) (by decide) (Tile.reads)))))
theorem TileSet.own_mk {w : World} {m0 m1 m2 : Nat} {v0 v1 : Value} {q : TileSet} (h0 : Own (Ty.slice 150 Glue.ty) w m0 m1 [v0] q.Glues) (h1 : Own (Ty.slice 149 Tile.ty) w m1 m2 [v1] q.Tiles) (l0 : m0 ≤ m1) (l1 : m1 ≤ m2) : Own TileSet.ty w m0 m2 [v0, v1] q :=
  (Own.pair h0 h1 (by omega) (by omega))
set_option maxRecDepth 10000 in
set_option maxHeartbeats 1000000 in
theorem eqTileSet_any (v0 v1 u0 u1 : Value) (x : TileSet) (w : World) (B : Nat) (hB : B ≤ w.heap.size) (h0 : (Ty.slice 150 Glue.ty).rep w B [v0] x.Glues) (h1 : (Ty.slice 149 Tile.ty).rep w B [v1] x.Tiles) (k0 : (Ty.slice 150 Glue.ty).rep w B [u0] x.Glues) (k1 : (Ty.slice 149 Tile.ty).rep w B [u1] x.Tiles) :
    Calls Try.prog 17 #[.agg #[v0, v1], .agg #[u0, u1]] w fun e w' => e = .returned (.bool true) ∧ Below w.heap.size w w' := by
  go_enter Try.func17, Try.ntmps17
  go_upto_region 1 with fail
  refine rebase ?_
  intro W1 hW _
  have hz : Below w.heap.size w W1 := by rw [hW]; go_grown
  have hb0 := at_of hW (push2_0 _ _ _)
  have c0 := box2 hb0
  have f0 := boxf hb0
  have B0 := Lib.hid hb0
  clear hb0
  have hb1 := at_of hW (push2_1 _ _ _)
  have c1 := box2 hb1
  have f1 := boxf hb1
  have B1 := Lib.hid hb1
  clear hb1
  have HW := Lib.hid hW
  clear hW
  have hs0 := fun z : Ext W1 => eqGlueS_any v0 u0 x.Glues (W1.to z) B (Nat.le_trans hB (ext_end z hz).size) (Ty.rep_below _ h0 ((ext_end z hz).mono hB)) (Ty.rep_below _ k0 ((ext_end z hz).mono hB))
  have HS0 := Lib.hid hs0
  clear hs0
  have hs1 := fun z : Ext W1 => eqTileS_any v1 u1 x.Tiles (W1.to z) B (Nat.le_trans hB (ext_end z hz).size) (Ty.rep_below _ h1 ((ext_end z hz).mono hB)) (Ty.rep_below _ k1 ((ext_end z hz).mono hB))
  have HS1 := Lib.hid hs1
  clear hs1
  go_wp2_with fail
  first
    | (refine call_ext (HS0.out _) ?_; intro y)
    | (refine wp_region_ext (by kernel_rfl) (by kernel_rfl) ?_; repeat (go_big_quiet_step ((go_at_call 60; exact ext_call (HS0.out _)))); refine wpQuiet_nil ?_; rintro _ ⟨y, rfl⟩)
  go_wp2_with fail
  first
    | (refine call_ext (HS1.out _) ?_; intro y)
    | (refine wp_region_ext (by kernel_rfl) (by kernel_rfl) ?_; repeat (go_big_quiet_step ((go_at_call 61; exact ext_call (HS1.out _)))); refine wpQuiet_nil ?_; rintro _ ⟨y, rfl⟩)
  go_wp2_with fail
  go_ret
  exact ⟨rfl, ext_end _ hz⟩
set_option maxRecDepth 10000 in
set_option maxHeartbeats 1000000 in
theorem szTileSet_any (v0 v1 : Value) (q : TileSet) (l : Int) (hl0 : 0 ≤ l) (hl1 : l ≤ 1048576) (w : World) (B : Nat) (hB : B ≤ w.heap.size) (h0 : (Ty.slice 150 Glue.ty).rep w B [v0] q.Glues) (h1 : (Ty.slice 149 Tile.ty).rep w B [v1] q.Tiles) :
    Calls Try.prog 10 #[.agg #[v0, v1], .int .i64 l] w fun e w' => e = .returned (.int .i64 (szR l (TileSet.cnt q))) ∧ Below w.heap.size w w' := by
  by_cases g0 : ((cntL Glue.cnt q.Glues : Nat) : Int) ≤ l
  · by_cases g1 : ((cntL Tile.cnt q.Tiles : Nat) : Int) ≤ l - (cntL Glue.cnt q.Glues : Nat)
    · go_enter Try.func10, Try.ntmps10
      go_upto_region 1 with fail
      refine rebase ?_
      intro W1 hW _
      have hz : Below w.heap.size w W1 := by rw [hW]; go_grown
      have hb0 := at_of hW (push1_0 _ _)
      have c0 := box2 hb0
      have f0 := boxf hb0
      have B0 := Lib.hid hb0
      clear hb0
      have HW := Lib.hid hW
      clear hW
      have hs0 := fun z : Ext W1 => szGlueS_any v0 q.Glues (l) (by omega) (by omega) (W1.to z) B (Nat.le_trans hB (ext_end z hz).size) (Ty.rep_below _ h0 ((ext_end z hz).mono hB))
      simp only [szR_ok g0] at hs0
      have HS0 := Lib.hid hs0
      clear hs0
      have hs1 := fun z : Ext W1 => szTileS_any v1 q.Tiles (l - (cntL Glue.cnt q.Glues : Nat)) (by omega) (by omega) (W1.to z) B (Nat.le_trans hB (ext_end z hz).size) (Ty.rep_below _ h1 ((ext_end z hz).mono hB))
      simp only [szR_ok g1] at hs1
      have HS1 := Lib.hid hs1
      clear hs1
      go_wp2_with fail
      refine call_ext (HS0.out _) ?_
      intro y
      go_wp2_with fail
      refine call_ext (HS1.out _) ?_
      intro y
      go_wp2_with fail
      go_ret
      exact ⟨by rw [szR_ok (by unfold TileSet.cnt; omega)]; unfold TileSet.cnt; go_num, ext_end _ hz⟩
    · go_enter Try.func10, Try.ntmps10
      go_upto_region 1 with fail
      refine rebase ?_
      intro W1 hW _
      have hz : Below w.heap.size w W1 := by rw [hW]; go_grown
      have hb0 := at_of hW (push1_0 _ _)
      have c0 := box2 hb0
      have f0 := boxf hb0
      have B0 := Lib.hid hb0
      clear hb0
      have HW := Lib.hid hW
      clear hW
      have hs0 := fun z : Ext W1 => szGlueS_any v0 q.Glues (l) (by omega) (by omega) (W1.to z) B (Nat.le_trans hB (ext_end z hz).size) (Ty.rep_below _ h0 ((ext_end z hz).mono hB))
      simp only [szR_ok g0] at hs0
      have HS0 := Lib.hid hs0
      clear hs0
      have hs1 := fun z : Ext W1 => szTileS_any v1 q.Tiles (l - (cntL Glue.cnt q.Glues : Nat)) (by omega) (by omega) (W1.to z) B (Nat.le_trans hB (ext_end z hz).size) (Ty.rep_below _ h1 ((ext_end z hz).mono hB))
      simp only [szR_no g1] at hs1
      have HS1 := Lib.hid hs1
      clear hs1
      go_wp2_with fail
      refine call_ext (HS0.out _) ?_
      intro y
      go_wp2_with fail
      refine call_ext (HS1.out _) ?_
      intro y
      go_wp2_with fail
      go_ret
      exact ⟨by rw [szR_no (by unfold TileSet.cnt; omega)]; rfl, ext_end _ hz⟩
  · go_enter Try.func10, Try.ntmps10
    go_upto_region 1 with fail
    refine rebase ?_
    intro W1 hW _
    have hz : Below w.heap.size w W1 := by rw [hW]; go_grown
    have hb0 := at_of hW (push1_0 _ _)
    have c0 := box2 hb0
    have f0 := boxf hb0
    have B0 := Lib.hid hb0
    clear hb0
    have HW := Lib.hid hW
    clear hW
    have hs0 := fun z : Ext W1 => szGlueS_any v0 q.Glues (l) (by omega) (by omega) (W1.to z) B (Nat.le_trans hB (ext_end z hz).size) (Ty.rep_below _ h0 ((ext_end z hz).mono hB))
    simp only [szR_no g0] at hs0
    have HS0 := Lib.hid hs0
    clear hs0
    go_wp2_with fail
    refine call_ext (HS0.out _) ?_
    intro y
    go_wp2_with fail
    go_ret
    exact ⟨by rw [szR_no (by unfold TileSet.cnt; omega)]; rfl, ext_end _ hz⟩
set_option maxRecDepth 10000 in
set_option maxHeartbeats 1000000 in
theorem toTileSet_any (v0 v1 : Value) (q : TileSet) (w : World) (B : Nat) (hB : B ≤ w.heap.size) (h0 : (Ty.slice 150 Glue.ty).rep w B [v0] q.Glues) (h1 : (Ty.slice 149 Tile.ty).rep w B [v1] q.Tiles) (hn : TileSet.cnt q ≤ 1048576) :
    Calls Try.prog 13 #[.agg #[v0, v1]] w fun e w' => (∃ u0 u1 : Value, e = .returned (.agg #[u0, u1]) ∧ Own TileSet.ty w' w.heap.size w'.heap.size [u0, u1] q) ∧ Below w.heap.size w w' := by
  have hn' := hn
  unfold TileSet.cnt at hn'
  obtain ⟨a0, z0, rfl, _, _⟩ := Ty.form h0
  have H0 := Lib.hid h0
  clear h0
  obtain ⟨a1, z1, rfl, _, _⟩ := Ty.form h1
  have H1 := Lib.hid h1
  clear h1
  clear hn
  go_enter Try.func13, Try.ntmps13
  go_wp2_with fail
  refine callbase ?_
  intro W0 hW
  have hz : Below w.heap.size w W0 := by rw [hW]; go_grown
  have hs : w.heap.size + 3 = W0.heap.size := by rw [hW]; simp only [World.size_alloc]
  have hb0 := at_of hW (push3_0 _ _ _ _)
  have hb1 := at_of hW (push3_1 _ _ _ _)
  have hb2 := at_of hW (push3_2 _ _ _ _)
  have HS := Lib.hid hs
  clear hs hW
  refine (toGlueS_any _ q.Glues W0 B (Nat.le_trans hB hz.size) (Ty.rep_below _ H0.out (hz.mono hB)) (by omega)).mono ?_
  rintro e w0 ⟨⟨u0, rfl, OO⟩, hb⟩
  have hlt : w.heap.size + 3 ≤ W0.heap.size := by have := HS.out; omega
  have hle := hb.size
  have hb0 := blk_on hb hb0
  have hb1 := blk_on hb hb1
  have hb2 := blk_on hb hb2
  have hz := hz.trans (hb.mono hz.size)
  obtain ⟨ua0, uc0, rfl⟩ := Own.form OO
  have O0 := OO
  clear OO
  have c0 := cel2 hb0
  have f0 := celf hb0
  have HB0 := Lib.hid hb0
  clear hb0
  have c1 := cel2 hb1
  have f1 := celf hb1
  have HB1 := Lib.hid hb1
  clear hb1
  have c2 := cel2 hb2
  have f2 := celf hb2
  have HB2 := Lib.hid hb2
  clear hb2
  have HZ := Lib.hid hz
  have HLT := Lib.hid hlt
  clear hz hb hlt
  have HO0 := Lib.hid O0
  clear O0
  go_wp2_with fail
  refine callbase ?_
  intro W1 hW
  clear c0 c1 c2 f0 f1 f2
  have hz : Below w.heap.size w W1 := by rw [hW]; exact (HZ.out.setCell (by simp <;> omega) _)
  have hs : w0.heap.size = W1.heap.size := by rw [hW]; simp [World.setCell]
  have hb0 := at_of hW (blk_far (HB0.out) _ (by simp <;> omega))
  have hb1 := at_of hW (blk_far (HB1.out) _ (by simp <;> omega))
  have hb2 := at_of hW (blk_set (HB2.out) _)
  have hlt := HLT.out
  have hsl1 := Nat.le_of_eq hs
  have HS := Lib.hid hs
  have O0 := Own.at hW (Own.set (HO0.out) (by omega) _)
  clear hs hW HB0 HB1 HB2 HZ
  clear HO0
  refine (toTileS_any _ q.Tiles W1 B (Nat.le_trans hB hz.size) (Ty.rep_below _ H1.out (hz.mono hB)) (by omega)).mono ?_
  rintro e w1 ⟨⟨u1, rfl, OO⟩, hb⟩
  have hlt : w.heap.size + 3 ≤ W1.heap.size := by have := HS.out; omega
  have hle := hb.size
  have hb0 := blk_on hb hb0
  have hb1 := blk_on hb hb1
  have hb2 := blk_on hb hb2
  have O0 := Own.below O0 hb (by omega)
  have hz := hz.trans (hb.mono hz.size)
  obtain ⟨ua1, uc1, rfl⟩ := Own.form OO
  have O1 := OO
  clear OO
  have c0 := cel2 hb0
  have f0 := celf hb0
  have HB0 := Lib.hid hb0
  clear hb0
  have c1 := cel2 hb1
  have f1 := celf hb1
  have HB1 := Lib.hid hb1
  clear hb1
  have c2 := cel2 hb2
  have f2 := celf hb2
  have HB2 := Lib.hid hb2
  clear hb2
  have HZ := Lib.hid hz
  have HLT := Lib.hid hlt
  clear hz hb hlt
  have HO0 := Lib.hid O0
  clear O0
  have HO1 := Lib.hid O1
  clear O1
  go_wp2_with fail
  refine bodyPost_ret (results_cell_row rfl _ _ (w.heap.size + 1) 37 _ _ _ rfl (blk_set (blk_set (blk_far (HB1.out) _ (by simp <;> omega)) _) _) Try.underlying37 rfl (by kernel_rfl)) rfl ?_
  have hlt := HLT.out
  refine ⟨⟨_, _, rfl, ?_⟩, (((HZ.out.setCell (by simp <;> omega) _).setCell (by simp <;> omega) _).setCell (by simp <;> omega) _)⟩
  refine Own.mono (lo := W0.heap.size) (hi := w1.heap.size) ?_ (by have := HS.out; omega) (by simp only [World.size_setCell]; exact Nat.le_refl _)
  exact TileSet.own_mk (Own.mono (lo := W0.heap.size) (hi' := W1.heap.size) (Own.set (Own.set (Own.set (HO0.out) (by omega) _) (by omega) _) (by omega) _) (Nat.le_refl _) (by omega)) (Own.mono (lo := W1.heap.size) (hi' := w1.heap.size) (Own.set (Own.set (Own.set (HO1.out) (by omega) _) (by omega) _) (by omega) _) (Nat.le_refl _) (by omega)) (by omega) (by omega)

end Go.Proofs.Ytffnoglnpkcjnaa
