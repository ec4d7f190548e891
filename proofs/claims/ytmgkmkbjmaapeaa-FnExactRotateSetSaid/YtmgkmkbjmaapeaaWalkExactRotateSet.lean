/- For all arguments, the program's RotateSet and the reference's RotateSet give the same results: the law returns true, and its arguments read afterwards as before. No conditions. -/
import Derived.Test.YtmgkmkbjmaapeaaMkTileSet
import Derived.Test.YtmgkmkbjmaapeaaCRotateSet
set_option linter.unusedSimpArgs false
set_option linter.unusedVariables false
set_option linter.all false
namespace Go.Proofs.Ytmgkmkbjmaapeaa
open Go.RowKit Go.ChangeShapes Go.WideShapes Go.ChangeAt

set_option maxRecDepth 10000 in
set_option maxHeartbeats 4000000 in
theorem walk_fnExactRotateSet (q_aSet_v0 q_aSet_v1 : Value) (q_aSet : TileSet) (q_aQuarters : Int) (w : World) (q_aSet_h0 : (Ty.slice 80 Glue.ty).rep w w.heap.size [q_aSet_v0] q_aSet.Glues) (q_aSet_h1 : (Ty.slice 60 Tile.ty).rep w w.heap.size [q_aSet_v1] q_aSet.Tiles) (q_aQuarters_p : InK .i64 q_aQuarters) :
    Calls Try.prog 6 #[.agg #[q_aSet_v0, q_aSet_v1], .int .i64 q_aQuarters] w fun e w' => e = .returned (.bool true) ∧ Below w.heap.size w w' := by
  by_cases g0 : ((TileSet.cnt q_aSet : Nat) : Int) ≤ 1048576
  · have q_aSet_n : TileSet.cnt q_aSet ≤ 1048576 := by omega
    go_enter Try.func6, Try.ntmps6
    go_upto_region 1 with fail
    refine rebase ?_
    intro W1 hW _
    have hz : Below w.heap.size w W1 := by rw [hW]; go_grown
    have hb0 := at_of hW (push1_0 _ _)
    have c0 := box2 hb0
    have f0 := boxf hb0
    have B0 := Lib.hid hb0
    clear hb0
    have HW := Lib.hid hW
    clear hW
    have hs0 := fun z : Ext W1 => szTileSet_any q_aSet_v0 q_aSet_v1 q_aSet (1048576 : Int) (by omega) (by omega) (W1.to z) w.heap.size (ext_end z hz).size (Ty.rep_below _ q_aSet_h0 (ext_end z hz)) (Ty.rep_below _ q_aSet_h1 (ext_end z hz))
    simp only [szR_ok g0] at hs0
    have HS0 := Lib.hid hs0
    clear hs0
    go_wp2_with fail
    refine call_ext (HS0.out _) ?_
    intro y
    go_upto_region 5 with fail
    refine plainbase ?_
    intro w1 hW
    have hz : Below w.heap.size w w1 := by rw [hW]; exact ext_end _ hz
    have hz0 := hz.size
    have HB0 := Lib.hid (at_of hW (box_at B0.out _))
    have hbl0 := blk_lt HB0.out
    clear c0 f0 B0
    clear hW HW HS0
    have c0 := cel2 HB0.out
    go_wp2_with fail
    refine (toTileSet_any q_aSet_v0 q_aSet_v1 q_aSet w1 w.heap.size hz.size (Ty.rep_below _ q_aSet_h0 hz) (Ty.rep_below _ q_aSet_h1 hz) q_aSet_n).mono ?_
    rintro e w2 ⟨⟨u1_0, u1_1, rfl, OO⟩, hbw2⟩
    have RR := TileSet.parts (Own.rep OO (Nat.le_refl _))
    obtain ⟨u1_0a, u1_0c, rfl, _, _⟩ := Ty.form (RR.1)
    obtain ⟨u1_1a, u1_1c, rfl, _, _⟩ := Ty.form (RR.2)
    clear RR
    have hlew2 := hbw2.size
    have HB0 := Lib.hid (blk_on hbw2 HB0.out)
    have hz := hz.trans (hbw2.mono hz.size)
    clear hbw2
    have O1 := OO
    clear OO
    go_wp2_with fail
    have Rf20 := Own.rep (B := w2.heap.size) O1 (by omega)
    have Rf20 := TileSet.parts Rf20
    refine (RotateSet_spec (.slice u1_0a q_aSet.Glues.length u1_0c) (.slice u1_1a q_aSet.Tiles.length u1_1c) q_aSet q_aQuarters w2 w2.heap.size (Nat.le_refl _) (Rf20.1) (Rf20.2) q_aSet_n q_aQuarters_p).mono ?_
    rintro e w3 ⟨⟨u2_0, u2_1, rfl, OO⟩, hbw3⟩
    have RR := TileSet.parts (Own.rep OO (Nat.le_refl _))
    obtain ⟨u2_0a, u2_0c, rfl, _, _⟩ := Ty.form (RR.1)
    obtain ⟨u2_1a, u2_1c, rfl, _, _⟩ := Ty.form (RR.2)
    clear RR
    have hlew3 := hbw3.size
    have HB0 := Lib.hid (blk_on hbw3 HB0.out)
    have O1 := Own.below O1 hbw3 (by omega)
    have hz := hz.trans (hbw3.mono hz.size)
    clear hbw3
    have O2 := OO
    clear OO
    go_upto_region 6 with fail
    clear c0
    refine plainbase ?_
    intro w4 hW
    have hbA : Below w3.heap.size w3 w4 := by rw [hW]; exact ((Below.refl _ _).alloc (by first | exact Nat.le_refl _ | (simp only [World.size_alloc]; omega)) _)
    have hlew4 := hbA.size
    have HB0 := Lib.hid (blk_on hbA HB0.out)
    have O1 := Own.below O1 hbA (by omega)
    have O2 := Own.below O2 hbA (by omega)
    have hz := hz.trans (hbA.mono hz.size)
    have HB1 := Lib.hid (at_of hW (push1_0 _ _))
    have hbl1 := blk_lt HB1.out
    clear hbA hW
    have c0 := cel2 HB0.out
    have c1 := cel2 HB1.out
    go_wp2_with fail
    refine (toTileSet_any q_aSet_v0 q_aSet_v1 q_aSet w4 w.heap.size hz.size (Ty.rep_below _ q_aSet_h0 hz) (Ty.rep_below _ q_aSet_h1 hz) q_aSet_n).mono ?_
    rintro e w5 ⟨⟨u3_0, u3_1, rfl, OO⟩, hbw5⟩
    have RR := TileSet.parts (Own.rep OO (Nat.le_refl _))
    obtain ⟨u3_0a, u3_0c, rfl, _, _⟩ := Ty.form (RR.1)
    obtain ⟨u3_1a, u3_1c, rfl, _, _⟩ := Ty.form (RR.2)
    clear RR
    have hlew5 := hbw5.size
    have HB0 := Lib.hid (blk_on hbw5 HB0.out)
    have HB1 := Lib.hid (blk_on hbw5 HB1.out)
    have O1 := Own.below O1 hbw5 (by omega)
    have O2 := Own.below O2 hbw5 (by omega)
    have hz := hz.trans (hbw5.mono hz.size)
    clear hbw5
    have O3 := OO
    clear OO
    go_upto_region 7 with fail
    clear c0 c1
    refine plainbase ?_
    intro w6 hW
    have hbA : Below w5.heap.size w5 w6 := by rw [hW]; exact ((Below.refl _ _).alloc (by first | exact Nat.le_refl _ | (simp only [World.size_alloc]; omega)) _)
    have hlew6 := hbA.size
    have HB0 := Lib.hid (blk_on hbA HB0.out)
    have HB1 := Lib.hid (blk_on hbA HB1.out)
    have O1 := Own.below O1 hbA (by omega)
    have O2 := Own.below O2 hbA (by omega)
    have O3 := Own.below O3 hbA (by omega)
    have hz := hz.trans (hbA.mono hz.size)
    have HB2 := Lib.hid (at_of hW (push1_0 _ _))
    have hbl2 := blk_lt HB2.out
    clear hbA hW
    have c0 := cel2 HB0.out
    have c1 := cel2 HB1.out
    have c2 := cel2 HB2.out
    go_wp2_with fail
    have Rf60 := Own.rep (B := w6.heap.size) O3 (by omega)
    have Rf60 := TileSet.parts Rf60
    refine (RotateSet_impl (.slice u3_0a q_aSet.Glues.length u3_0c) (.slice u3_1a q_aSet.Tiles.length u3_1c) q_aSet q_aQuarters w6 w6.heap.size (Nat.le_refl _) (Rf60.1) (Rf60.2) q_aSet_n q_aQuarters_p).mono ?_
    rintro e w7 ⟨⟨u4_0, u4_1, rfl, OO⟩, hbw7⟩
    have RR := TileSet.parts (Own.rep OO (Nat.le_refl _))
    obtain ⟨u4_0a, u4_0c, rfl, _, _⟩ := Ty.form (RR.1)
    obtain ⟨u4_1a, u4_1c, rfl, _, _⟩ := Ty.form (RR.2)
    clear RR
    have hlew7 := hbw7.size
    have HB0 := Lib.hid (blk_on hbw7 HB0.out)
    have HB1 := Lib.hid (blk_on hbw7 HB1.out)
    have HB2 := Lib.hid (blk_on hbw7 HB2.out)
    have O1 := Own.below O1 hbw7 (by omega)
    have O2 := Own.below O2 hbw7 (by omega)
    have O3 := Own.below O3 hbw7 (by omega)
    have hz := hz.trans (hbw7.mono hz.size)
    clear hbw7
    have O4 := OO
    clear OO
    go_upto_region 8 with fail
    clear c0 c1 c2
    refine plainbase ?_
    intro w8 hW
    have hbA : Below w7.heap.size w7 w8 := by rw [hW]; exact ((Below.refl _ _).alloc (by first | exact Nat.le_refl _ | (simp only [World.size_alloc]; omega)) _)
    have hlew8 := hbA.size
    have HB0 := Lib.hid (blk_on hbA HB0.out)
    have HB1 := Lib.hid (blk_on hbA HB1.out)
    have HB2 := Lib.hid (blk_on hbA HB2.out)
    have O1 := Own.below O1 hbA (by omega)
    have O2 := Own.below O2 hbA (by omega)
    have O3 := Own.below O3 hbA (by omega)
    have O4 := Own.below O4 hbA (by omega)
    have hz := hz.trans (hbA.mono hz.size)
    have HB3 := Lib.hid (at_of hW (push1_0 _ _))
    have hbl3 := blk_lt HB3.out
    clear hbA hW
    have c0 := cel2 HB0.out
    have c1 := cel2 HB1.out
    have c2 := cel2 HB2.out
    have c3 := cel2 HB3.out
    go_wp2_with fail
    have Rx8 := Own.rep (B := w8.heap.size) O4 (by omega)
    have Rx8 := TileSet.parts Rx8
    have Ry8 := Own.rep (B := w8.heap.size) O2 (by omega)
    have Ry8 := TileSet.parts Ry8
    refine (eqTileSet_any (.slice u4_0a (RotateSetR q_aSet q_aQuarters).Glues.length u4_0c) (.slice u4_1a (RotateSetR q_aSet q_aQuarters).Tiles.length u4_1c) (.slice u2_0a (RotateSetR q_aSet q_aQuarters).Glues.length u2_0c) (.slice u2_1a (RotateSetR q_aSet q_aQuarters).Tiles.length u2_1c) (RotateSetR q_aSet q_aQuarters) w8 w8.heap.size (Nat.le_refl _) (Rx8.1) (Rx8.2) (Ry8.1) (Ry8.2)).mono ?_
    rintro e w9 ⟨rfl, hbw9⟩
    have hlew9 := hbw9.size
    have HB0 := Lib.hid (blk_on hbw9 HB0.out)
    have HB1 := Lib.hid (blk_on hbw9 HB1.out)
    have HB2 := Lib.hid (blk_on hbw9 HB2.out)
    have HB3 := Lib.hid (blk_on hbw9 HB3.out)
    have O1 := Own.below O1 hbw9 (by omega)
    have O2 := Own.below O2 hbw9 (by omega)
    have O3 := Own.below O3 hbw9 (by omega)
    have O4 := Own.below O4 hbw9 (by omega)
    have hz := hz.trans (hbw9.mono hz.size)
    clear hbw9
    go_upto_region 10 with fail
    clear c0 c1 c2 c3
    have hS : Below w9.heap.size w9 w9.drew := (Below.refl _ _).drew
    have d0 := bel2 HB0.out
    have d1 := bel2 HB1.out
    have d2 := bel2 HB2.out
    have d3 := bel2 HB3.out
    have hb0 := hS
    have hlew9drew := hb0.size
    have HB0 := Lib.hid (blk_on hb0 HB0.out)
    have HB1 := Lib.hid (blk_on hb0 HB1.out)
    have HB2 := Lib.hid (blk_on hb0 HB2.out)
    have HB3 := Lib.hid (blk_on hb0 HB3.out)
    have O1 := Own.below O1 hb0 (by omega)
    have O2 := Own.below O2 hb0 (by omega)
    have O3 := Own.below O3 hb0 (by omega)
    have O4 := Own.below O4 hb0 (by omega)
    have hz := hz.trans (hb0.mono hz.size)
    clear hb0
    go_region_held3 (fun w' => Below w9.heap.size w9 w') (exact hS) (first | (go_at_call 22; ((with_reducible refine (toTileSet_any q_aSet_v0 q_aSet_v1 q_aSet w9.drew w.heap.size hz.size (Ty.rep_below _ q_aSet_h0 hz) (Ty.rep_below _ q_aSet_h1 hz) q_aSet_n).mono ?_)); rintro e w10 ⟨⟨u5_0, u5_1, rfl, OO⟩, hbw10⟩; have RR := TileSet.parts (Own.rep OO (Nat.le_refl _)); obtain ⟨u5_0a, u5_0c, rfl, _, _⟩ := Ty.form (RR.1); obtain ⟨u5_1a, u5_1c, rfl, _, _⟩ := Ty.form (RR.2); clear RR; have hlew10 := hbw10.size; have HB0 := Lib.hid (blk_on hbw10 HB0.out); have HB1 := Lib.hid (blk_on hbw10 HB1.out); have HB2 := Lib.hid (blk_on hbw10 HB2.out); have HB3 := Lib.hid (blk_on hbw10 HB3.out); have O1 := Own.below O1 hbw10 (by omega); have O2 := Own.below O2 hbw10 (by omega); have O3 := Own.below O3 hbw10 (by omega); have O4 := Own.below O4 hbw10 (by omega); have hz := hz.trans (hbw10.mono hz.size); have hS := hS.trans (hbw10.mono hS.size); clear hbw10; have O5 := OO; clear OO) | (go_at_call 23; have Rx10 := Own.rep (B := w10.heap.size) O3 (by omega); have Rx10 := TileSet.parts Rx10; have Ry10 := Own.rep (B := w10.heap.size) O5 (by omega); have Ry10 := TileSet.parts Ry10; ((with_reducible refine (eqTileSet_any (.slice u3_0a q_aSet.Glues.length u3_0c) (.slice u3_1a q_aSet.Tiles.length u3_1c) (.slice u5_0a q_aSet.Glues.length u5_0c) (.slice u5_1a q_aSet.Tiles.length u5_1c) q_aSet w10 w10.heap.size (Nat.le_refl _) (Rx10.1) (Rx10.2) (Ry10.1) (Ry10.2)).mono ?_)); rintro e w11 ⟨rfl, hbw11⟩; have hlew11 := hbw11.size; have HB0 := Lib.hid (blk_on hbw11 HB0.out); have HB1 := Lib.hid (blk_on hbw11 HB1.out); have HB2 := Lib.hid (blk_on hbw11 HB2.out); have HB3 := Lib.hid (blk_on hbw11 HB3.out); have O1 := Own.below O1 hbw11 (by omega); have O2 := Own.below O2 hbw11 (by omega); have O3 := Own.below O3 hbw11 (by omega); have O4 := Own.below O4 hbw11 (by omega); have O5 := Own.below O5 hbw11 (by omega); have hz := hz.trans (hbw11.mono hz.size); have hS := hS.trans (hbw11.mono hS.size); clear hbw11))
    clear hS d0 d1 d2 d3
    go_upto_region 13 with fail
    have c0 := cel2 HB0.out
    have c1 := cel2 HB1.out
    have c2 := cel2 HB2.out
    have c3 := cel2 HB3.out
    go_wp2_with fail
    have hm3 := TileSet.cnT_le q_aSet
    refine (Own.marked O3 (by omega) (fun F ho hn hF => markTileSet_any (.slice u3_0a q_aSet.Glues.length u3_0c) (.slice u3_1a q_aSet.Tiles.length u3_1c) q_aSet 1 F w11 ho hn hF (by omega) (by omega))).mono ?_
    rintro e w12 ⟨rfl, OO, hoff⟩
    have hlew12 := hoff.size
    have HB0 := Lib.hid (hoff.blk HB0.out (by first | omega | (have := blk_lt HB0.out; omega)))
    have HB1 := Lib.hid (hoff.blk HB1.out (by first | omega | (have := blk_lt HB1.out; omega)))
    have HB2 := Lib.hid (hoff.blk HB2.out (by first | omega | (have := blk_lt HB2.out; omega)))
    have HB3 := Lib.hid (hoff.blk HB3.out (by first | omega | (have := blk_lt HB3.out; omega)))
    have O1 := Own.off O1 hoff (by omega) (by omega)
    have O2 := Own.off O2 hoff (by omega) (by omega)
    have O4 := Own.off O4 hoff (by omega) (by omega)
    have O5 := Own.off O5 hoff (by omega) (by omega)
    have hz := hz.trans (hoff.below (by have := hz.size; omega) hz.size)
    have O3 := OO
    clear OO hoff hm3
    go_upto_region 14 with fail
    clear c0 c1 c2 c3
    have c0 := cel2 HB0.out
    have c1 := cel2 HB1.out
    have c2 := cel2 HB2.out
    have c3 := cel2 HB3.out
    go_wp2_with fail
    have Rx12 := Own.rep (B := w12.heap.size) O4 (by omega)
    have Rx12 := TileSet.parts Rx12
    have Ry12 := Own.rep (B := w12.heap.size) O2 (by omega)
    have Ry12 := TileSet.parts Ry12
    refine (eqTileSet_any (.slice u4_0a (RotateSetR q_aSet q_aQuarters).Glues.length u4_0c) (.slice u4_1a (RotateSetR q_aSet q_aQuarters).Tiles.length u4_1c) (.slice u2_0a (RotateSetR q_aSet q_aQuarters).Glues.length u2_0c) (.slice u2_1a (RotateSetR q_aSet q_aQuarters).Tiles.length u2_1c) (RotateSetR q_aSet q_aQuarters) w12 w12.heap.size (Nat.le_refl _) (Rx12.1) (Rx12.2) (Ry12.1) (Ry12.2)).mono ?_
    rintro e w13 ⟨rfl, hbw13⟩
    have hlew13 := hbw13.size
    have HB0 := Lib.hid (blk_on hbw13 HB0.out)
    have HB1 := Lib.hid (blk_on hbw13 HB1.out)
    have HB2 := Lib.hid (blk_on hbw13 HB2.out)
    have HB3 := Lib.hid (blk_on hbw13 HB3.out)
    have O1 := Own.below O1 hbw13 (by omega)
    have O2 := Own.below O2 hbw13 (by omega)
    have O3 := Own.below O3 hbw13 (by omega)
    have O4 := Own.below O4 hbw13 (by omega)
    have O5 := Own.below O5 hbw13 (by omega)
    have hz := hz.trans (hbw13.mono hz.size)
    clear hbw13
    go_upto_region 17 with fail
    clear c0 c1 c2 c3
    have c0 := cel2 HB0.out
    have c1 := cel2 HB1.out
    have c2 := cel2 HB2.out
    have c3 := cel2 HB3.out
    go_wp2_with fail
    have hm4 : TileSet.cnT (RotateSetR q_aSet q_aQuarters) ≤ 1000000000000 := RotateSetR_cn q_aSet q_aSet_n q_aQuarters
    refine (Own.marked O4 (by omega) (fun F ho hn hF => markTileSet_any (.slice u4_0a (RotateSetR q_aSet q_aQuarters).Glues.length u4_0c) (.slice u4_1a (RotateSetR q_aSet q_aQuarters).Tiles.length u4_1c) (RotateSetR q_aSet q_aQuarters) 1 F w13 ho hn hF (by omega) (by omega))).mono ?_
    rintro e w14 ⟨rfl, OO, hoff⟩
    have hlew14 := hoff.size
    have HB0 := Lib.hid (hoff.blk HB0.out (by first | omega | (have := blk_lt HB0.out; omega)))
    have HB1 := Lib.hid (hoff.blk HB1.out (by first | omega | (have := blk_lt HB1.out; omega)))
    have HB2 := Lib.hid (hoff.blk HB2.out (by first | omega | (have := blk_lt HB2.out; omega)))
    have HB3 := Lib.hid (hoff.blk HB3.out (by first | omega | (have := blk_lt HB3.out; omega)))
    have O1 := Own.off O1 hoff (by omega) (by omega)
    have O2 := Own.off O2 hoff (by omega) (by omega)
    have O3 := Own.off O3 hoff (by omega) (by omega)
    have O5 := Own.off O5 hoff (by omega) (by omega)
    have hz := hz.trans (hoff.below (by have := hz.size; omega) hz.size)
    have O4 := OO
    clear OO hoff hm4
    go_upto_region 19 with fail
    clear c0 c1 c2 c3
    have c0 := cel2 HB0.out
    have c1 := cel2 HB1.out
    have c2 := cel2 HB2.out
    have c3 := cel2 HB3.out
    go_wp2_with fail
    have hm4 : TileSet.cnT (RotateSetR q_aSet q_aQuarters) ≤ 1000000000000 := RotateSetR_cn q_aSet q_aSet_n q_aQuarters
    have R4_ := Own.rep (B := w14.heap.size) O4 (by omega)
    refine (heldTileSet_any (.slice u4_0a (RotateSetR q_aSet q_aQuarters).Glues.length u4_0c) (.slice u4_1a (RotateSetR q_aSet q_aQuarters).Tiles.length u4_1c) (RotateSetR q_aSet q_aQuarters) 1 w14 w14.heap.size (Nat.le_refl _) R4_ (by omega) (by omega)).mono ?_
    rintro e w15 ⟨rfl, hbw15⟩
    have hlew15 := hbw15.size
    have HB0 := Lib.hid (blk_on hbw15 HB0.out)
    have HB1 := Lib.hid (blk_on hbw15 HB1.out)
    have HB2 := Lib.hid (blk_on hbw15 HB2.out)
    have HB3 := Lib.hid (blk_on hbw15 HB3.out)
    have O1 := Own.below O1 hbw15 (by omega)
    have O2 := Own.below O2 hbw15 (by omega)
    have O3 := Own.below O3 hbw15 (by omega)
    have O4 := Own.below O4 hbw15 (by omega)
    have O5 := Own.below O5 hbw15 (by omega)
    have hz := hz.trans (hbw15.mono hz.size)
    clear hbw15
    go_upto_region 24 with fail
    clear c0 c1 c2 c3
    have c0 := cel2 HB0.out
    have c1 := cel2 HB1.out
    have c2 := cel2 HB2.out
    have c3 := cel2 HB3.out
    go_wp2_with fail
    refine (toTileSet_any q_aSet_v0 q_aSet_v1 q_aSet w15 w.heap.size hz.size (Ty.rep_below _ q_aSet_h0 hz) (Ty.rep_below _ q_aSet_h1 hz) q_aSet_n).mono ?_
    rintro e w16 ⟨⟨u6_0, u6_1, rfl, OO⟩, hbw16⟩
    have RR := TileSet.parts (Own.rep OO (Nat.le_refl _))
    obtain ⟨u6_0a, u6_0c, rfl, _, _⟩ := Ty.form (RR.1)
    obtain ⟨u6_1a, u6_1c, rfl, _, _⟩ := Ty.form (RR.2)
    clear RR
    have hlew16 := hbw16.size
    have HB0 := Lib.hid (blk_on hbw16 HB0.out)
    have HB1 := Lib.hid (blk_on hbw16 HB1.out)
    have HB2 := Lib.hid (blk_on hbw16 HB2.out)
    have HB3 := Lib.hid (blk_on hbw16 HB3.out)
    have O1 := Own.below O1 hbw16 (by omega)
    have O2 := Own.below O2 hbw16 (by omega)
    have O3 := Own.below O3 hbw16 (by omega)
    have O4 := Own.below O4 hbw16 (by omega)
    have O5 := Own.below O5 hbw16 (by omega)
    have hz := hz.trans (hbw16.mono hz.size)
    clear hbw16
    have O6 := OO
    clear OO
    go_wp2_with fail
    have Rf160 := Own.rep (B := w16.heap.size) O6 (by omega)
    have Rf160 := TileSet.parts Rf160
    refine (RotateSet_impl (.slice u6_0a q_aSet.Glues.length u6_0c) (.slice u6_1a q_aSet.Tiles.length u6_1c) q_aSet q_aQuarters w16 w16.heap.size (Nat.le_refl _) (Rf160.1) (Rf160.2) q_aSet_n q_aQuarters_p).mono ?_
    rintro e w17 ⟨⟨u7_0, u7_1, rfl, OO⟩, hbw17⟩
    have RR := TileSet.parts (Own.rep OO (Nat.le_refl _))
    obtain ⟨u7_0a, u7_0c, rfl, _, _⟩ := Ty.form (RR.1)
    obtain ⟨u7_1a, u7_1c, rfl, _, _⟩ := Ty.form (RR.2)
    clear RR
    have hlew17 := hbw17.size
    have HB0 := Lib.hid (blk_on hbw17 HB0.out)
    have HB1 := Lib.hid (blk_on hbw17 HB1.out)
    have HB2 := Lib.hid (blk_on hbw17 HB2.out)
    have HB3 := Lib.hid (blk_on hbw17 HB3.out)
    have O1 := Own.below O1 hbw17 (by omega)
    have O2 := Own.below O2 hbw17 (by omega)
    have O3 := Own.below O3 hbw17 (by omega)
    have O4 := Own.below O4 hbw17 (by omega)
    have O5 := Own.below O5 hbw17 (by omega)
    have O6 := Own.below O6 hbw17 (by omega)
    have hz := hz.trans (hbw17.mono hz.size)
    clear hbw17
    have O7 := OO
    clear OO
    go_upto_region 25 with fail
    clear c0 c1 c2 c3
    refine plainbase ?_
    intro w18 hW
    have hbA : Below w17.heap.size w17 w18 := by rw [hW]; exact ((Below.refl _ _).alloc (by first | exact Nat.le_refl _ | (simp only [World.size_alloc]; omega)) _)
    have hlew18 := hbA.size
    have HB0 := Lib.hid (blk_on hbA HB0.out)
    have HB1 := Lib.hid (blk_on hbA HB1.out)
    have HB2 := Lib.hid (blk_on hbA HB2.out)
    have HB3 := Lib.hid (blk_on hbA HB3.out)
    have O1 := Own.below O1 hbA (by omega)
    have O2 := Own.below O2 hbA (by omega)
    have O3 := Own.below O3 hbA (by omega)
    have O4 := Own.below O4 hbA (by omega)
    have O5 := Own.below O5 hbA (by omega)
    have O6 := Own.below O6 hbA (by omega)
    have O7 := Own.below O7 hbA (by omega)
    have hz := hz.trans (hbA.mono hz.size)
    have HB4 := Lib.hid (at_of hW (push1_0 _ _))
    have hbl4 := blk_lt HB4.out
    clear hbA hW
    have c0 := cel2 HB0.out
    have c1 := cel2 HB1.out
    have c2 := cel2 HB2.out
    have c3 := cel2 HB3.out
    have c4 := cel2 HB4.out
    go_wp2_with fail
    have Rx18 := Own.rep (B := w18.heap.size) O7 (by omega)
    have Rx18 := TileSet.parts Rx18
    have Ry18 := Own.rep (B := w18.heap.size) O2 (by omega)
    have Ry18 := TileSet.parts Ry18
    refine (eqTileSet_any (.slice u7_0a (RotateSetR q_aSet q_aQuarters).Glues.length u7_0c) (.slice u7_1a (RotateSetR q_aSet q_aQuarters).Tiles.length u7_1c) (.slice u2_0a (RotateSetR q_aSet q_aQuarters).Glues.length u2_0c) (.slice u2_1a (RotateSetR q_aSet q_aQuarters).Tiles.length u2_1c) (RotateSetR q_aSet q_aQuarters) w18 w18.heap.size (Nat.le_refl _) (Rx18.1) (Rx18.2) (Ry18.1) (Ry18.2)).mono ?_
    rintro e w19 ⟨rfl, hbw19⟩
    have hlew19 := hbw19.size
    have HB0 := Lib.hid (blk_on hbw19 HB0.out)
    have HB1 := Lib.hid (blk_on hbw19 HB1.out)
    have HB2 := Lib.hid (blk_on hbw19 HB2.out)
    have HB3 := Lib.hid (blk_on hbw19 HB3.out)
    have HB4 := Lib.hid (blk_on hbw19 HB4.out)
    have O1 := Own.below O1 hbw19 (by omega)
    have O2 := Own.below O2 hbw19 (by omega)
    have O3 := Own.below O3 hbw19 (by omega)
    have O4 := Own.below O4 hbw19 (by omega)
    have O5 := Own.below O5 hbw19 (by omega)
    have O6 := Own.below O6 hbw19 (by omega)
    have O7 := Own.below O7 hbw19 (by omega)
    have hz := hz.trans (hbw19.mono hz.size)
    clear hbw19
    go_upto_region 28 with fail
    clear c0 c1 c2 c3 c4
    have c0 := cel2 HB0.out
    have c1 := cel2 HB1.out
    have c2 := cel2 HB2.out
    have c3 := cel2 HB3.out
    have c4 := cel2 HB4.out
    go_wp2_with fail
    have hm4 : TileSet.cnT (RotateSetR q_aSet q_aQuarters) ≤ 1000000000000 := RotateSetR_cn q_aSet q_aSet_n q_aQuarters
    have R4_ := Own.rep (B := w19.heap.size) O4 (by omega)
    refine (heldTileSet_any (.slice u4_0a (RotateSetR q_aSet q_aQuarters).Glues.length u4_0c) (.slice u4_1a (RotateSetR q_aSet q_aQuarters).Tiles.length u4_1c) (RotateSetR q_aSet q_aQuarters) 1 w19 w19.heap.size (Nat.le_refl _) R4_ (by omega) (by omega)).mono ?_
    rintro e w20 ⟨rfl, hbw20⟩
    have hlew20 := hbw20.size
    have HB0 := Lib.hid (blk_on hbw20 HB0.out)
    have HB1 := Lib.hid (blk_on hbw20 HB1.out)
    have HB2 := Lib.hid (blk_on hbw20 HB2.out)
    have HB3 := Lib.hid (blk_on hbw20 HB3.out)
    have HB4 := Lib.hid (blk_on hbw20 HB4.out)
    have O1 := Own.below O1 hbw20 (by omega)
    have O2 := Own.below O2 hbw20 (by omega)
    have O3 := Own.below O3 hbw20 (by omega)
    have O4 := Own.below O4 hbw20 (by omega)
    have O5 := Own.below O5 hbw20 (by omega)
    have O6 := Own.below O6 hbw20 (by omega)
    have O7 := Own.below O7 hbw20 (by omega)
    have hz := hz.trans (hbw20.mono hz.size)
    clear hbw20
    go_wp2_with fail
    go_ret
    exact ⟨rfl, hz⟩
  · go_enter Try.func6, Try.ntmps6
    go_upto_region 1 with fail
    refine rebase ?_
    intro W1 hW _
    have hz : Below w.heap.size w W1 := by rw [hW]; go_grown
    have hb0 := at_of hW (push1_0 _ _)
    have c0 := box2 hb0
    have f0 := boxf hb0
    have B0 := Lib.hid hb0
    clear hb0
    have HW := Lib.hid hW
    clear hW
    have hs0 := fun z : Ext W1 => szTileSet_any q_aSet_v0 q_aSet_v1 q_aSet (1048576 : Int) (by omega) (by omega) (W1.to z) w.heap.size (ext_end z hz).size (Ty.rep_below _ q_aSet_h0 (ext_end z hz)) (Ty.rep_below _ q_aSet_h1 (ext_end z hz))
    simp only [szR_no g0] at hs0
    have HS0 := Lib.hid hs0
    clear hs0
    go_wp2_with fail
    refine call_ext (HS0.out _) ?_
    intro y
    go_wp2_with fail
    go_ret
    exact ⟨rfl, ext_end _ hz⟩
end Go.Proofs.Ytmgkmkbjmaapeaa
