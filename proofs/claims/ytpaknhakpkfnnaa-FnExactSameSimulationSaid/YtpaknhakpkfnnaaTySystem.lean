/- Made by tygen.py: the type System. -/
import Derived.Test.YtpaknhakpkfnnaaRows
import Derived.Test.YtpaknhakpkfnnaaLib
import Derived.Test.YtpaknhakpkfnnaaTyBase
import Derived.Test.YtpaknhakpkfnnaaTyTileSet
import Derived.Test.YtpaknhakpkfnnaaTyAssembly
set_option linter.unusedSimpArgs false
set_option linter.unusedVariables false
set_option linter.all false
namespace Go.Proofs.Ytpaknhakpkfnnaa
open Go.RowKit Go.ChangeShapes Go.WideShapes Go.ChangeAt
structure System where
  Set : TileSet
  Seed : Assembly
  Temperature : Int
  deriving DecidableEq
def System.ty : Ty System := Ty.via (Ty.prod TileSet.ty (Ty.prod Assembly.ty (Ty.int .i64))) (fun x => (x.Set, x.Seed, x.Temperature))
def System.cnt (x : System) : Nat := TileSet.cnt x.Set + Assembly.cnt x.Seed
theorem System.cells {w : World} {B : Nat} {cs : List Value} {x : System} (h : System.ty.rep w B cs x) : ∃ v0 v1 v2 : Value, cs = [v0, v1, v2, .int .i64 x.Temperature] ∧ (Ty.slice 69 Glue.ty).rep w B [v0] x.Set.Glues ∧ (Ty.slice 71 Tile.ty).rep w B [v1] x.Set.Tiles ∧ (Ty.slice 75 Placed.ty).rep w B [v2] x.Seed.Tiles ∧ InK .i64 x.Temperature := by
  obtain ⟨_, _, rfl, h0, _, _, rfl, h1, h2⟩ := h
  obtain ⟨u0_0, u0_1, rfl, i0_0, i0_1⟩ := TileSet.cells h0
  obtain ⟨u1_0, rfl, i1_0⟩ := Assembly.cells h1
  obtain ⟨rfl, i2⟩ := h2
  exact ⟨_, _, _, rfl, i0_0, i0_1, i1_0, i2⟩
theorem System.parts {w : World} {B : Nat} {v0 v1 v2 : Value} {x : System} (h : System.ty.rep w B [v0, v1, v2, .int .i64 x.Temperature] x) : (Ty.slice 69 Glue.ty).rep w B [v0] x.Set.Glues ∧ (Ty.slice 71 Tile.ty).rep w B [v1] x.Set.Tiles ∧ (Ty.slice 75 Placed.ty).rep w B [v2] x.Seed.Tiles ∧ InK .i64 x.Temperature := by
  obtain ⟨e0, e1, e2, hh, r0, r1, r2, r3⟩ := System.cells h
  simp only [List.cons.injEq, and_true, true_and] at hh
  obtain ⟨rfl, rfl, rfl⟩ := hh
  exact ⟨r0, r1, r2, r3⟩
theorem System.rep_mk {w : World} {B : Nat} {v0 v1 v2 : Value} {x : System} (h0 : (Ty.slice 69 Glue.ty).rep w B [v0] x.Set.Glues) (h1 : (Ty.slice 71 Tile.ty).rep w B [v1] x.Set.Tiles) (h2 : (Ty.slice 75 Placed.ty).rep w B [v2] x.Seed.Tiles) (h3 : InK .i64 x.Temperature) : System.ty.rep w B [v0, v1, v2, .int .i64 x.Temperature] x :=
  ⟨_, _, rfl, TileSet.rep_mk h0 h1, _, _, rfl, Assembly.rep_mk h2, ⟨rfl, h3⟩⟩
set_option maxRecDepth 100000 in
theorem System.reads : Reads Try.prog 30 System.ty :=
  reads_via (t := (Ty.prod TileSet.ty (Ty.prod Assembly.ty (Ty.int .i64)))) (fun x : System => (x.Set, x.Seed, x.Temperature)) (fun y => ⟨y.1, y.2.1, y.2.2⟩) (fun _ => rfl) (reads_struct Try.underlying30 (by kernel_rfl) (fld_cons rfl (TileSet.reads) (fld_cons rfl (Assembly.reads) (fld_one rfl (reads_int Try.underlying2 (by kernel_rfl))))))
theorem System.own_mk {w : World} {m0 m1 m2 : Nat} {v0 v1 v2 : Value} {q : System} (p0 : InK .i64 q.Temperature) (h0 : Own TileSet.ty w m0 m1 [v0, v1] q.Set) (h1 : Own Assembly.ty w m1 m2 [v2] q.Seed) (l0 : m0 ≤ m1) (l1 : m1 ≤ m2) : Own System.ty w m0 m2 [v0, v1, v2, .int .i64 q.Temperature] q :=
  (Own.pair h0 (Own.pair h1 (Own.int p0 w m2 m2) (by omega) (by omega)) (by omega) (by omega))
set_option maxRecDepth 10000 in
set_option maxHeartbeats 1000000 in
theorem eqSystem_any (v0 v1 v2 u0 u1 u2 : Value) (x : System) (w : World) (B : Nat) (hB : B ≤ w.heap.size) (h0 : (Ty.slice 69 Glue.ty).rep w B [v0] x.Set.Glues) (h1 : (Ty.slice 71 Tile.ty).rep w B [v1] x.Set.Tiles) (h2 : (Ty.slice 75 Placed.ty).rep w B [v2] x.Seed.Tiles) (k0 : (Ty.slice 69 Glue.ty).rep w B [u0] x.Set.Glues) (k1 : (Ty.slice 71 Tile.ty).rep w B [u1] x.Set.Tiles) (k2 : (Ty.slice 75 Placed.ty).rep w B [u2] x.Seed.Tiles) :
    Calls Try.prog 17 #[.agg #[v0, v1, v2, .int .i64 x.Temperature], .agg #[u0, u1, u2, .int .i64 x.Temperature]] w fun e w' => e = .returned (.bool true) ∧ Below w.heap.size w w' := by
  go_enter Try.func17, Try.ntmps17
  go_upto_region 1 with fail
  refine rebase ?_
  intro W1 hW _
  have hz : Below w.heap.size w W1 := by rw [hW]; go_grown
  have hb0 := at_of hW (push2_0 _ _ _)
  have c0 := box4 hb0
  have f0 := boxf hb0
  have B0 := Lib.hid hb0
  clear hb0
  have hb1 := at_of hW (push2_1 _ _ _)
  have c1 := box4 hb1
  have f1 := boxf hb1
  have B1 := Lib.hid hb1
  clear hb1
  have HW := Lib.hid hW
  clear hW
  have hs0 := fun z : Ext W1 => eqTileSet_any v0 v1 u0 u1 x.Set (W1.to z) B (Nat.le_trans hB (ext_end z hz).size) (Ty.rep_below _ h0 ((ext_end z hz).mono hB)) (Ty.rep_below _ h1 ((ext_end z hz).mono hB)) (Ty.rep_below _ k0 ((ext_end z hz).mono hB)) (Ty.rep_below _ k1 ((ext_end z hz).mono hB))
  have HS0 := Lib.hid hs0
  clear hs0
  have hs1 := fun z : Ext W1 => eqAssembly_any v2 u2 x.Seed (W1.to z) B (Nat.le_trans hB (ext_end z hz).size) (Ty.rep_below _ h2 ((ext_end z hz).mono hB)) (Ty.rep_below _ k2 ((ext_end z hz).mono hB))
  have HS1 := Lib.hid hs1
  clear hs1
  go_wp2_with fail
  first
    | (refine call_ext (HS0.out _) ?_; intro y)
    | (refine wp_region_ext (by kernel_rfl) (by kernel_rfl) ?_; repeat (go_big_quiet_step ((go_at_call 27; exact ext_call (HS0.out _)))); refine wpQuiet_nil ?_; rintro _ ⟨y, rfl⟩)
  go_wp2_with fail
  first
    | (refine call_ext (HS1.out _) ?_; intro y)
    | (refine wp_region_ext (by kernel_rfl) (by kernel_rfl) ?_; repeat (go_big_quiet_step ((go_at_call 28; exact ext_call (HS1.out _)))); refine wpQuiet_nil ?_; rintro _ ⟨y, rfl⟩)
  go_wp2_with fail
  go_ret
  exact ⟨rfl, ext_end _ hz⟩
set_option maxRecDepth 10000 in
set_option maxHeartbeats 1000000 in
theorem szSystem_any (v0 v1 v2 : Value) (q : System) (l : Int) (hl0 : 0 ≤ l) (hl1 : l ≤ 1048576) (w : World) (B : Nat) (hB : B ≤ w.heap.size) (h0 : (Ty.slice 69 Glue.ty).rep w B [v0] q.Set.Glues) (h1 : (Ty.slice 71 Tile.ty).rep w B [v1] q.Set.Tiles) (h2 : (Ty.slice 75 Placed.ty).rep w B [v2] q.Seed.Tiles) :
    Calls Try.prog 9 #[.agg #[v0, v1, v2, .int .i64 q.Temperature], .int .i64 l] w fun e w' => e = .returned (.int .i64 (szR l (System.cnt q))) ∧ Below w.heap.size w w' := by
  by_cases g0 : ((TileSet.cnt q.Set : Nat) : Int) ≤ l
  · by_cases g1 : ((Assembly.cnt q.Seed : Nat) : Int) ≤ l - (TileSet.cnt q.Set : Nat)
    · go_enter Try.func9, Try.ntmps9
      go_upto_region 1 with fail
      refine rebase ?_
      intro W1 hW _
      have hz : Below w.heap.size w W1 := by rw [hW]; go_grown
      have hb0 := at_of hW (push1_0 _ _)
      have c0 := box4 hb0
      have f0 := boxf hb0
      have B0 := Lib.hid hb0
      clear hb0
      have HW := Lib.hid hW
      clear hW
      have hs0 := fun z : Ext W1 => szTileSet_any v0 v1 q.Set (l) (by omega) (by omega) (W1.to z) B (Nat.le_trans hB (ext_end z hz).size) (Ty.rep_below _ h0 ((ext_end z hz).mono hB)) (Ty.rep_below _ h1 ((ext_end z hz).mono hB))
      simp only [szR_ok g0] at hs0
      have HS0 := Lib.hid hs0
      clear hs0
      have hs1 := fun z : Ext W1 => szAssembly_any v2 q.Seed (l - (TileSet.cnt q.Set : Nat)) (by omega) (by omega) (W1.to z) B (Nat.le_trans hB (ext_end z hz).size) (Ty.rep_below _ h2 ((ext_end z hz).mono hB))
      simp only [szR_ok g1] at hs1
      have HS1 := Lib.hid hs1
      clear hs1
      go_wp2_with fail
      refine call_ext (HS0.out _) ?_
      intro y
      go_wp2_with fail
      refine call_ext (HS1.out _) ?_
      intro y
      go_wp2_with fail
      go_ret
      exact ⟨by rw [szR_ok (by unfold System.cnt; omega)]; unfold System.cnt; go_num, ext_end _ hz⟩
    · go_enter Try.func9, Try.ntmps9
      go_upto_region 1 with fail
      refine rebase ?_
      intro W1 hW _
      have hz : Below w.heap.size w W1 := by rw [hW]; go_grown
      have hb0 := at_of hW (push1_0 _ _)
      have c0 := box4 hb0
      have f0 := boxf hb0
      have B0 := Lib.hid hb0
      clear hb0
      have HW := Lib.hid hW
      clear hW
      have hs0 := fun z : Ext W1 => szTileSet_any v0 v1 q.Set (l) (by omega) (by omega) (W1.to z) B (Nat.le_trans hB (ext_end z hz).size) (Ty.rep_below _ h0 ((ext_end z hz).mono hB)) (Ty.rep_below _ h1 ((ext_end z hz).mono hB))
      simp only [szR_ok g0] at hs0
      have HS0 := Lib.hid hs0
      clear hs0
      have hs1 := fun z : Ext W1 => szAssembly_any v2 q.Seed (l - (TileSet.cnt q.Set : Nat)) (by omega) (by omega) (W1.to z) B (Nat.le_trans hB (ext_end z hz).size) (Ty.rep_below _ h2 ((ext_end z hz).mono hB))
      simp only [szR_no g1] at hs1
      have HS1 := Lib.hid hs1
      clear hs1
      go_wp2_with fail
      refine call_ext (HS0.out _) ?_
      intro y
      go_wp2_with fail
      refine call_ext (HS1.out _) ?_
      intro y
      go_wp2_with fail
      go_ret
      exact ⟨by rw [szR_no (by unfold System.cnt; omega)]; rfl, ext_end _ hz⟩
  · go_enter Try.func9, Try.ntmps9
    go_upto_region 1 with fail
    refine rebase ?_
    intro W1 hW _
    have hz : Below w.heap.size w W1 := by rw [hW]; go_grown
    have hb0 := at_of hW (push1_0 _ _)
    have c0 := box4 hb0
    have f0 := boxf hb0
    have B0 := Lib.hid hb0
    clear hb0
    have HW := Lib.hid hW
    clear hW
    have hs0 := fun z : Ext W1 => szTileSet_any v0 v1 q.Set (l) (by omega) (by omega) (W1.to z) B (Nat.le_trans hB (ext_end z hz).size) (Ty.rep_below _ h0 ((ext_end z hz).mono hB)) (Ty.rep_below _ h1 ((ext_end z hz).mono hB))
    simp only [szR_no g0] at hs0
    have HS0 := Lib.hid hs0
    clear hs0
    go_wp2_with fail
    refine call_ext (HS0.out _) ?_
    intro y
    go_wp2_with fail
    go_ret
    exact ⟨by rw [szR_no (by unfold System.cnt; omega)]; rfl, ext_end _ hz⟩
set_option maxRecDepth 10000 in
set_option maxHeartbeats 1000000 in
theorem toSystem_any (v0 v1 v2 : Value) (q : System) (w : World) (B : Nat) (hB : B ≤ w.heap.size) (h0 : (Ty.slice 69 Glue.ty).rep w B [v0] q.Set.Glues) (h1 : (Ty.slice 71 Tile.ty).rep w B [v1] q.Set.Tiles) (h2 : (Ty.slice 75 Placed.ty).rep w B [v2] q.Seed.Tiles) (p0 : InK .i64 q.Temperature) (hn : System.cnt q ≤ 1048576) :
    Calls Try.prog 13 #[.agg #[v0, v1, v2, .int .i64 q.Temperature]] w fun e w' => (∃ u0 u1 u2 : Value, e = .returned (.agg #[u0, u1, u2, .int .i64 q.Temperature]) ∧ Own System.ty w' w.heap.size w'.heap.size [u0, u1, u2, .int .i64 q.Temperature] q) ∧ Below w.heap.size w w' := by
  have hn' := hn
  unfold System.cnt at hn'
  obtain ⟨a0, z0, rfl, _, _⟩ := Ty.form h0
  have H0 := Lib.hid h0
  clear h0
  obtain ⟨a1, z1, rfl, _, _⟩ := Ty.form h1
  have H1 := Lib.hid h1
  clear h1
  obtain ⟨a2, z2, rfl, _, _⟩ := Ty.form h2
  have H2 := Lib.hid h2
  clear h2
  have P0 := Lib.hid p0
  clear p0
  clear hn
  go_enter Try.func13, Try.ntmps13
  go_wp2_with fail
  refine callbase ?_
  intro W0 hW
  have hz : Below w.heap.size w W0 := by rw [hW]; go_grown
  have hs : w.heap.size + 3 = W0.heap.size := by rw [hW]; simp only [World.size_alloc]
  have hb0 := at_of hW (push3_0 _ _ _ _)
  have hb1 := at_of hW (push3_1 _ _ _ _)
  have hb2 := at_of hW (push3_2 _ _ _ _)
  have HS := Lib.hid hs
  clear hs hW
  refine (toTileSet_any _ _ q.Set W0 B (Nat.le_trans hB hz.size) (Ty.rep_below _ H0.out (hz.mono hB)) (Ty.rep_below _ H1.out (hz.mono hB)) (by omega)).mono ?_
  rintro e w0 ⟨⟨u0, u1, rfl, OO⟩, hb⟩
  have hlt : w.heap.size + 3 ≤ W0.heap.size := by have := HS.out; omega
  have hle := hb.size
  have hb0 := blk_on hb hb0
  have hb1 := blk_on hb hb1
  have hb2 := blk_on hb hb2
  have hz := hz.trans (hb.mono hz.size)
  have RR := TileSet.parts (Own.rep OO (Nat.le_refl _))
  obtain ⟨ua0_0, uc0_0, rfl, _, _⟩ := Ty.form (RR.1)
  obtain ⟨ua0_1, uc0_1, rfl, _, _⟩ := Ty.form (RR.2)
  clear RR
  have O0 := OO
  clear OO
  have c0 := cel4 hb0
  have f0 := celf hb0
  have HB0 := Lib.hid hb0
  clear hb0
  have c1 := cel4 hb1
  have f1 := celf hb1
  have HB1 := Lib.hid hb1
  clear hb1
  have c2 := cel4 hb2
  have f2 := celf hb2
  have HB2 := Lib.hid hb2
  clear hb2
  have HZ := Lib.hid hz
  have HLT := Lib.hid hlt
  clear hz hb hlt
  have HO0 := Lib.hid O0
  clear O0
  go_wp2_with fail
  refine callbase ?_
  intro W1 hW
  clear c0 c1 c2 f0 f1 f2
  have hz : Below w.heap.size w W1 := by rw [hW]; exact ((HZ.out.setCell (by simp <;> omega) _).setCell (by simp <;> omega) _)
  have hs : w0.heap.size = W1.heap.size := by rw [hW]; simp [World.setCell]
  have hb0 := at_of hW (blk_far (blk_far (HB0.out) _ (by simp <;> omega)) _ (by simp <;> omega))
  have hb1 := at_of hW (blk_far (blk_far (HB1.out) _ (by simp <;> omega)) _ (by simp <;> omega))
  have hb2 := at_of hW (blk_set (blk_set (HB2.out) _) _)
  have hlt := HLT.out
  have hsl1 := Nat.le_of_eq hs
  have HS := Lib.hid hs
  have O0 := Own.at hW (Own.set (Own.set (HO0.out) (by omega) _) (by omega) _)
  clear hs hW HB0 HB1 HB2 HZ
  clear HO0
  refine (toAssembly_any _ q.Seed W1 B (Nat.le_trans hB hz.size) (Ty.rep_below _ H2.out (hz.mono hB)) (by omega)).mono ?_
  rintro e w1 ⟨⟨u2, rfl, OO⟩, hb⟩
  have hlt : w.heap.size + 3 ≤ W1.heap.size := by have := HS.out; omega
  have hle := hb.size
  have hb0 := blk_on hb hb0
  have hb1 := blk_on hb hb1
  have hb2 := blk_on hb hb2
  have O0 := Own.below O0 hb (by omega)
  have hz := hz.trans (hb.mono hz.size)
  have RR := Assembly.parts (Own.rep OO (Nat.le_refl _))
  obtain ⟨ua1_0, uc1_0, rfl, _, _⟩ := Ty.form (RR)
  clear RR
  have O1 := OO
  clear OO
  have c0 := cel4 hb0
  have f0 := celf hb0
  have HB0 := Lib.hid hb0
  clear hb0
  have c1 := cel4 hb1
  have f1 := celf hb1
  have HB1 := Lib.hid hb1
  clear hb1
  have c2 := cel4 hb2
  have f2 := celf hb2
  have HB2 := Lib.hid hb2
  clear hb2
  have HZ := Lib.hid hz
  have HLT := Lib.hid hlt
  clear hz hb hlt
  have HO0 := Lib.hid O0
  clear O0
  have HO1 := Lib.hid O1
  clear O1
  go_wp2_with fail
  refine bodyPost_ret (results_cell_row rfl _ _ (w.heap.size + 1) 44 _ _ _ rfl (blk_set (blk_set (blk_set (blk_set (blk_far (blk_far (HB1.out) _ (by simp <;> omega)) _ (by simp <;> omega)) _) _) _) _) Try.underlying44 rfl (by kernel_rfl)) rfl ?_
  have hlt := HLT.out
  refine ⟨⟨_, _, _, rfl, ?_⟩, ((((((HZ.out.setCell (by simp <;> omega) _).setCell (by simp <;> omega) _).setCell (by simp <;> omega) _).setCell (by simp <;> omega) _).setCell (by simp <;> omega) _).setCell (by simp <;> omega) _)⟩
  refine Own.mono (lo := W0.heap.size) (hi := w1.heap.size) ?_ (by have := HS.out; omega) (by simp only [World.size_setCell]; exact Nat.le_refl _)
  exact System.own_mk P0.out (Own.mono (lo := W0.heap.size) (hi' := W1.heap.size) (Own.set (Own.set (Own.set (Own.set (Own.set (Own.set (HO0.out) (by omega) _) (by omega) _) (by omega) _) (by omega) _) (by omega) _) (by omega) _) (Nat.le_refl _) (by omega)) (Own.mono (lo := W1.heap.size) (hi' := w1.heap.size) (Own.set (Own.set (Own.set (Own.set (Own.set (Own.set (HO1.out) (by omega) _) (by omega) _) (by omega) _) (by omega) _) (by omega) _) (by omega) _) (Nat.le_refl _) (by omega)) (by omega) (by omega)

end Go.Proofs.Ytpaknhakpkfnnaa
