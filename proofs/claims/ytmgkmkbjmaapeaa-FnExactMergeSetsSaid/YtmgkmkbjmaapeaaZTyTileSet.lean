/- Made by tygen.py: the type TileSet. -/
import Derived.Test.YtmgkmkbjmaapeaaRows
import Derived.Test.YtmgkmkbjmaapeaaZLib
import Derived.Test.YtmgkmkbjmaapeaaZTyBase
import Derived.Test.YtmgkmkbjmaapeaaZTyGlue
import Derived.Test.YtmgkmkbjmaapeaaZTyTile
set_option linter.all false
namespace Go.Proofs.Ytmgkmkbjmaapeaa
open Go.RowKit Go.ChangeShapes Go.WideShapes Go.ChangeAt
structure TileSet where
  Glues : List Glue
  Tiles : List Tile
  deriving DecidableEq
def TileSet.ty : Ty TileSet := Ty.via (Ty.prod (Ty.slice 80 Glue.ty) (Ty.slice 60 Tile.ty)) (fun x => (x.Glues, x.Tiles))
def TileSet.cnt (x : TileSet) : Nat := cntL Glue.cnt x.Glues + cntL Tile.cnt x.Tiles
theorem TileSet.cells {w : World} {B : Nat} {cs : List Value} {x : TileSet} (h : TileSet.ty.rep w B cs x) : ∃ v0 v1 : Value, cs = [v0, v1] ∧ (Ty.slice 80 Glue.ty).rep w B [v0] x.Glues ∧ (Ty.slice 60 Tile.ty).rep w B [v1] x.Tiles := by
  obtain ⟨_, _, rfl, h0, h1⟩ := h
  obtain ⟨u0, rfl⟩ := Ty.slice_one h0
  obtain ⟨u1, rfl⟩ := Ty.slice_one h1
  exact ⟨_, _, rfl, h0, h1⟩
theorem TileSet.parts {w : World} {B : Nat} {v0 v1 : Value} {x : TileSet} (h : TileSet.ty.rep w B [v0, v1] x) : (Ty.slice 80 Glue.ty).rep w B [v0] x.Glues ∧ (Ty.slice 60 Tile.ty).rep w B [v1] x.Tiles := by
  obtain ⟨e0, e1, hh, r0, r1⟩ := TileSet.cells h
  simp only [List.cons.injEq, and_true, true_and] at hh
  obtain ⟨rfl, rfl⟩ := hh
  exact ⟨r0, r1⟩
theorem TileSet.rep_mk {w : World} {B : Nat} {v0 v1 : Value} {x : TileSet} (h0 : (Ty.slice 80 Glue.ty).rep w B [v0] x.Glues) (h1 : (Ty.slice 60 Tile.ty).rep w B [v1] x.Tiles) : TileSet.ty.rep w B [v0, v1] x :=
  ⟨_, _, rfl, h0, h1⟩
set_option maxRecDepth 100000 in
theorem TileSet.reads : Reads Try.prog 42 TileSet.ty :=
  reads_via (t := (Ty.prod (Ty.slice 80 Glue.ty) (Ty.slice 60 Tile.ty))) (fun x : TileSet => (x.Glues, x.Tiles)) (fun y => ⟨y.1, y.2⟩) (fun _ => rfl) (reads_struct Try.underlying42 (by kernel_rfl) (fld_cons rfl (reads_slice Try.underlying39 (by kernel_rfl) (by decide) (Glue.reads)) (fld_one rfl (reads_slice Try.underlying40 (by kernel_rfl) (by decide) (Tile.reads)))))
set_option maxRecDepth 10000 in
set_option maxHeartbeats 1000000 in
theorem eqTileSet_any (v0 v1 u0 u1 : Value) (x : TileSet) (w : World) (B : Nat) (hB : B ≤ w.heap.size) (h0 : (Ty.slice 80 Glue.ty).rep w B [v0] x.Glues) (h1 : (Ty.slice 60 Tile.ty).rep w B [v1] x.Tiles) (k0 : (Ty.slice 80 Glue.ty).rep w B [u0] x.Glues) (k1 : (Ty.slice 60 Tile.ty).rep w B [u1] x.Tiles) :
    Calls Try.prog 23 #[.agg #[v0, v1], .agg #[u0, u1]] w fun e w' => e = .returned (.bool true) ∧ Below w.heap.size w w' := by
  go_enter Try.func23, Try.ntmps23
  go_upto_region 1 with fail
  refine rebase ?_
  intro W1 hW _
  have hz : Below w.heap.size w W1 := by rw [hW]; go_grown
  have hb0 := at_of hW (push2_0 _ _ _)
  have c0 := box2 hb0
  have f0 := boxf hb0
  have B0 := Lib.hid hb0
  clear hb0
  have hb1 := at_of hW (push2_1 _ _ _)
  have c1 := box2 hb1
  have f1 := boxf hb1
  have B1 := Lib.hid hb1
  clear hb1
  have HW := Lib.hid hW
  clear hW
  have hs0 := fun z : Ext W1 => eqGlueS_any v0 u0 x.Glues (W1.to z) B (Nat.le_trans hB (ext_end z hz).size) (Ty.rep_below _ h0 ((ext_end z hz).mono hB)) (Ty.rep_below _ k0 ((ext_end z hz).mono hB))
  have HS0 := Lib.hid hs0
  clear hs0
  have hs1 := fun z : Ext W1 => eqTileS_any v1 u1 x.Tiles (W1.to z) B (Nat.le_trans hB (ext_end z hz).size) (Ty.rep_below _ h1 ((ext_end z hz).mono hB)) (Ty.rep_below _ k1 ((ext_end z hz).mono hB))
  have HS1 := Lib.hid hs1
  clear hs1
  go_wp2_with fail
  first
    | (refine call_ext (HS0.out _) ?_; intro y)
    | (refine wp_region_ext (by kernel_rfl) (by kernel_rfl) ?_; repeat (go_big_quiet_step ((go_at_call 55; exact ext_call (HS0.out _)))); refine wpQuiet_nil ?_; rintro _ ⟨y, rfl⟩)
  go_wp2_with fail
  first
    | (refine call_ext (HS1.out _) ?_; intro y)
    | (refine wp_region_ext (by kernel_rfl) (by kernel_rfl) ?_; repeat (go_big_quiet_step ((go_at_call 56; exact ext_call (HS1.out _)))); refine wpQuiet_nil ?_; rintro _ ⟨y, rfl⟩)
  go_wp2_with fail
  go_ret
  exact ⟨rfl, ext_end _ hz⟩
set_option maxRecDepth 10000 in
set_option maxHeartbeats 1000000 in
theorem szTileSet_any (v0 v1 : Value) (q : TileSet) (l : Int) (hl0 : 0 ≤ l) (hl1 : l ≤ 1048576) (w : World) (B : Nat) (hB : B ≤ w.heap.size) (h0 : (Ty.slice 80 Glue.ty).rep w B [v0] q.Glues) (h1 : (Ty.slice 60 Tile.ty).rep w B [v1] q.Tiles) :
    Calls Try.prog 20 #[.agg #[v0, v1], .int .i64 l] w fun e w' => e = .returned (.int .i64 (szR l (TileSet.cnt q))) ∧ Below w.heap.size w w' := by
  by_cases g0 : ((cntL Glue.cnt q.Glues : Nat) : Int) ≤ l
  · by_cases g1 : ((cntL Tile.cnt q.Tiles : Nat) : Int) ≤ l - (cntL Glue.cnt q.Glues : Nat)
    · go_enter Try.func20, Try.ntmps20
      go_upto_region 1 with fail
      refine rebase ?_
      intro W1 hW _
      have hz : Below w.heap.size w W1 := by rw [hW]; go_grown
      have hb0 := at_of hW (push1_0 _ _)
      have c0 := box2 hb0
      have f0 := boxf hb0
      have B0 := Lib.hid hb0
      clear hb0
      have HW := Lib.hid hW
      clear hW
      have hs0 := fun z : Ext W1 => szGlueS_any v0 q.Glues (l) (by omega) (by omega) (W1.to z) B (Nat.le_trans hB (ext_end z hz).size) (Ty.rep_below _ h0 ((ext_end z hz).mono hB))
      simp only [szR_ok g0] at hs0
      have HS0 := Lib.hid hs0
      clear hs0
      have hs1 := fun z : Ext W1 => szTileS_any v1 q.Tiles (l - (cntL Glue.cnt q.Glues : Nat)) (by omega) (by omega) (W1.to z) B (Nat.le_trans hB (ext_end z hz).size) (Ty.rep_below _ h1 ((ext_end z hz).mono hB))
      simp only [szR_ok g1] at hs1
      have HS1 := Lib.hid hs1
      clear hs1
      go_wp2_with fail
      refine call_ext (HS0.out _) ?_
      intro y
      go_wp2_with fail
      refine call_ext (HS1.out _) ?_
      intro y
      go_wp2_with fail
      go_ret
      exact ⟨by rw [szR_ok (by unfold TileSet.cnt; omega)]; unfold TileSet.cnt; go_num, ext_end _ hz⟩
    · go_enter Try.func20, Try.ntmps20
      go_upto_region 1 with fail
      refine rebase ?_
      intro W1 hW _
      have hz : Below w.heap.size w W1 := by rw [hW]; go_grown
      have hb0 := at_of hW (push1_0 _ _)
      have c0 := box2 hb0
      have f0 := boxf hb0
      have B0 := Lib.hid hb0
      clear hb0
      have HW := Lib.hid hW
      clear hW
      have hs0 := fun z : Ext W1 => szGlueS_any v0 q.Glues (l) (by omega) (by omega) (W1.to z) B (Nat.le_trans hB (ext_end z hz).size) (Ty.rep_below _ h0 ((ext_end z hz).mono hB))
      simp only [szR_ok g0] at hs0
      have HS0 := Lib.hid hs0
      clear hs0
      have hs1 := fun z : Ext W1 => szTileS_any v1 q.Tiles (l - (cntL Glue.cnt q.Glues : Nat)) (by omega) (by omega) (W1.to z) B (Nat.le_trans hB (ext_end z hz).size) (Ty.rep_below _ h1 ((ext_end z hz).mono hB))
      simp only [szR_no g1] at hs1
      have HS1 := Lib.hid hs1
      clear hs1
      go_wp2_with fail
      refine call_ext (HS0.out _) ?_
      intro y
      go_wp2_with fail
      refine call_ext (HS1.out _) ?_
      intro y
      go_wp2_with fail
      go_ret
      exact ⟨by rw [szR_no (by unfold TileSet.cnt; omega)]; rfl, ext_end _ hz⟩
  · go_enter Try.func20, Try.ntmps20
    go_upto_region 1 with fail
    refine rebase ?_
    intro W1 hW _
    have hz : Below w.heap.size w W1 := by rw [hW]; go_grown
    have hb0 := at_of hW (push1_0 _ _)
    have c0 := box2 hb0
    have f0 := boxf hb0
    have B0 := Lib.hid hb0
    clear hb0
    have HW := Lib.hid hW
    clear hW
    have hs0 := fun z : Ext W1 => szGlueS_any v0 q.Glues (l) (by omega) (by omega) (W1.to z) B (Nat.le_trans hB (ext_end z hz).size) (Ty.rep_below _ h0 ((ext_end z hz).mono hB))
    simp only [szR_no g0] at hs0
    have HS0 := Lib.hid hs0
    clear hs0
    go_wp2_with fail
    refine call_ext (HS0.out _) ?_
    intro y
    go_wp2_with fail
    go_ret
    exact ⟨by rw [szR_no (by unfold TileSet.cnt; omega)]; rfl, ext_end _ hz⟩
end Go.Proofs.Ytmgkmkbjmaapeaa
