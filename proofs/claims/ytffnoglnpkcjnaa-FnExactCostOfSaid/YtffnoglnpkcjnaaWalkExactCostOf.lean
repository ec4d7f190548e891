/- For all arguments, the program's CostOf and the reference's CostOf give the same results: the law returns true, and its arguments read afterwards as before. No conditions. -/
import Derived.Test.YtffnoglnpkcjnaaCCostOf
set_option linter.unusedSimpArgs false
set_option linter.unusedVariables false
set_option linter.all false
namespace Go.Proofs.Ytffnoglnpkcjnaa
open Go.RowKit Go.ChangeShapes Go.WideShapes Go.ChangeAt

set_option maxRecDepth 10000 in
set_option maxHeartbeats 4000000 in
theorem walk_fnExactCostOf (q_aSet_v0 q_aSet_v1 : Value) (q_aSet : TileSet) (q_aA_v0 : Value) (q_aA : Assembly) (q_aPrices_v : Value) (q_aPrices : List Int) (q_aGlue : Int) (w : World) (q_aSet_h0 : (Ty.slice 150 Glue.ty).rep w w.heap.size [q_aSet_v0] q_aSet.Glues) (q_aSet_h1 : (Ty.slice 149 Tile.ty).rep w w.heap.size [q_aSet_v1] q_aSet.Tiles) (q_aA_h0 : (Ty.slice 92 Placed.ty).rep w w.heap.size [q_aA_v0] q_aA.Tiles) (q_aPrices_h : (Ty.slice 2 (Ty.int .i64)).rep w w.heap.size [q_aPrices_v] q_aPrices) (q_aGlue_p : InK .i64 q_aGlue) :
    Calls Try.prog 3 #[.agg #[q_aSet_v0, q_aSet_v1], .agg #[q_aA_v0], q_aPrices_v, .int .i64 q_aGlue] w fun e w' => e = .returned (.bool true) ∧ Below w.heap.size w w' := by
  obtain ⟨q_aPrices_a, q_aPrices_c, rfl, _, _⟩ := Ty.form q_aPrices_h
  by_cases g0 : q_aPrices.length ≤ 1048576
  · by_cases g1 : ((TileSet.cnt q_aSet : Nat) : Int) ≤ 1048576
    · by_cases g2 : ((Assembly.cnt q_aA : Nat) : Int) ≤ 1048576 - (TileSet.cnt q_aSet : Nat)
      · have q_aPrices_n : q_aPrices.length ≤ 1048576 := by omega
        have q_aSet_n : TileSet.cnt q_aSet ≤ 1048576 := by omega
        have q_aA_n : Assembly.cnt q_aA ≤ 1048576 := by omega
        go_enter Try.func3, Try.ntmps3
        go_upto_region 1 with fail
        refine rebase ?_
        intro W1 hW _
        have hz : Below w.heap.size w W1 := by rw [hW]; go_grown
        have hb0 := at_of hW (push2_0 _ _ _)
        have c0 := box2 hb0
        have f0 := boxf hb0
        have B0 := Lib.hid hb0
        clear hb0
        have hb1 := at_of hW (push2_1 _ _ _)
        have c1 := box1 hb1
        have f1 := boxf hb1
        have B1 := Lib.hid hb1
        clear hb1
        have HW := Lib.hid hW
        clear hW
        have hs1 := fun z : Ext W1 => szTileSet_any q_aSet_v0 q_aSet_v1 q_aSet (1048576 : Int) (by omega) (by omega) (W1.to z) w.heap.size (ext_end z hz).size (Ty.rep_below _ q_aSet_h0 (ext_end z hz)) (Ty.rep_below _ q_aSet_h1 (ext_end z hz))
        simp only [szR_ok g1] at hs1
        have HS1 := Lib.hid hs1
        clear hs1
        have hs2 := fun z : Ext W1 => szAssembly_any q_aA_v0 q_aA (1048576 - (TileSet.cnt q_aSet : Nat) : Int) (by omega) (by omega) (W1.to z) w.heap.size (ext_end z hz).size (Ty.rep_below _ q_aA_h0 (ext_end z hz))
        simp only [szR_ok g2] at hs2
        have HS2 := Lib.hid hs2
        clear hs2
        go_wp2_with fail
        refine call_ext (HS1.out _) ?_
        intro y
        go_wp2_with fail
        refine call_ext (HS2.out _) ?_
        intro y
        go_upto_region 10 with fail
        refine plainbase ?_
        intro w1 hW
        have hz : Below w.heap.size w w1 := by rw [hW]; exact ext_end _ hz
        have hz0 := hz.size
        have HB0 := Lib.hid (at_of hW (box_at B0.out _))
        have hbl0 := blk_lt HB0.out
        clear c0 f0 B0
        have HB1 := Lib.hid (at_of hW (box_at B1.out _))
        have hbl1 := blk_lt HB1.out
        clear c1 f1 B1
        clear hW HW HS1 HS2
        have hS : Below w1.heap.size w1 w1.drew := (Below.refl _ _).drew
        have d0 := bel2 HB0.out
        have d1 := bel1 HB1.out
        have hb0 := hS
        have hlew1drew := hb0.size
        have HB0 := Lib.hid (blk_on hb0 HB0.out)
        have HB1 := Lib.hid (blk_on hb0 HB1.out)
        have hz := hz.trans (hb0.mono hz.size)
        clear hb0
        go_region_held3 (fun w' => Below w1.heap.size w1 w') (first | exact hS | exact Below.alloc hS (by have := hS.size; omega) _) (first | (go_at_call 13; ((with_reducible refine (toTileSet_any q_aSet_v0 q_aSet_v1 q_aSet w1.drew w.heap.size hz.size (Ty.rep_below _ q_aSet_h0 hz) (Ty.rep_below _ q_aSet_h1 hz) q_aSet_n).mono ?_)); rintro e w2 ⟨⟨u1_0, u1_1, rfl, OO⟩, hbw2⟩; have RR := TileSet.parts (Own.rep OO (Nat.le_refl _)); obtain ⟨u1_0a, u1_0c, rfl, _, _⟩ := Ty.form (RR.1); obtain ⟨u1_1a, u1_1c, rfl, _, _⟩ := Ty.form (RR.2); clear RR; have hlew2 := hbw2.size; have HB0 := Lib.hid (blk_on hbw2 HB0.out); have HB1 := Lib.hid (blk_on hbw2 HB1.out); have hz := hz.trans (hbw2.mono hz.size); have hS := hS.trans (hbw2.mono hS.size); clear hbw2; have O1 := OO; clear OO) | (go_at_call 14; ((with_reducible refine (toAssembly_any q_aA_v0 q_aA w2 w.heap.size hz.size (Ty.rep_below _ q_aA_h0 hz) q_aA_n).mono ?_)); rintro e w3 ⟨⟨u2_0, rfl, OO⟩, hbw3⟩; have RR := Assembly.parts (Own.rep OO (Nat.le_refl _)); obtain ⟨u2_0a, u2_0c, rfl, _, _⟩ := Ty.form (RR); clear RR; have hlew3 := hbw3.size; have HB0 := Lib.hid (blk_on hbw3 HB0.out); have HB1 := Lib.hid (blk_on hbw3 HB1.out); have O1 := Own.below O1 hbw3 (by omega); have hz := hz.trans (hbw3.mono hz.size); have hS := hS.trans (hbw3.mono hS.size); clear hbw3; have O2 := OO; clear OO) | (go_at_call 15; ((with_reducible refine (toInt64S_any (.slice q_aPrices_a q_aPrices.length q_aPrices_c) q_aPrices w3 w.heap.size hz.size (Ty.rep_below _ q_aPrices_h hz) q_aPrices_n).mono ?_)); rintro e w4 ⟨⟨u3_0, rfl, OO⟩, hbw4⟩; obtain ⟨u3_0a, u3_0c, rfl⟩ := Own.form OO; have hlew4 := hbw4.size; have HB0 := Lib.hid (blk_on hbw4 HB0.out); have HB1 := Lib.hid (blk_on hbw4 HB1.out); have O1 := Own.below O1 hbw4 (by omega); have O2 := Own.below O2 hbw4 (by omega); have hz := hz.trans (hbw4.mono hz.size); have hS := hS.trans (hbw4.mono hS.size); clear hbw4; have O3 := OO; clear OO) | (go_at_call 12; have Rf40 := Own.rep (B := w4.heap.size) O1 (by omega); have Rf40 := TileSet.parts Rf40; have Rf41 := Own.rep (B := w4.heap.size) O2 (by omega); have Rf41 := Assembly.parts Rf41; have Rf42 := Own.rep (B := w4.heap.size) O3 (by omega); ((with_reducible refine (CostOf_spec (.slice u1_0a q_aSet.Glues.length u1_0c) (.slice u1_1a q_aSet.Tiles.length u1_1c) q_aSet (.slice u2_0a q_aA.Tiles.length u2_0c) q_aA (.slice u3_0a q_aPrices.length u3_0c) q_aPrices q_aGlue w4 w4.heap.size (Nat.le_refl _) (Rf40.1) (Rf40.2) q_aSet_n (Rf41) q_aA_n Rf42 q_aPrices_n q_aGlue_p).mono ?_)); rintro e w5 ⟨rfl, hbw5⟩; have hlew5 := hbw5.size; have HB0 := Lib.hid (blk_on hbw5 HB0.out); have HB1 := Lib.hid (blk_on hbw5 HB1.out); have O1 := Own.below O1 hbw5 (by omega); have O2 := Own.below O2 hbw5 (by omega); have O3 := Own.below O3 hbw5 (by omega); have hz := hz.trans (hbw5.mono hz.size); have hS := hS.trans (hbw5.mono hS.size); clear hbw5))
        clear hS d0 d1
        go_upto_region 11 with fail
        have c0 := cel2 HB0.out
        have c1 := cel1 HB1.out
        go_wp2_with fail
        refine (toTileSet_any q_aSet_v0 q_aSet_v1 q_aSet w5 w.heap.size hz.size (Ty.rep_below _ q_aSet_h0 hz) (Ty.rep_below _ q_aSet_h1 hz) q_aSet_n).mono ?_
        rintro e w6 ⟨⟨u4_0, u4_1, rfl, OO⟩, hbw6⟩
        have RR := TileSet.parts (Own.rep OO (Nat.le_refl _))
        obtain ⟨u4_0a, u4_0c, rfl, _, _⟩ := Ty.form (RR.1)
        obtain ⟨u4_1a, u4_1c, rfl, _, _⟩ := Ty.form (RR.2)
        clear RR
        have hlew6 := hbw6.size
        have HB0 := Lib.hid (blk_on hbw6 HB0.out)
        have HB1 := Lib.hid (blk_on hbw6 HB1.out)
        have O1 := Own.below O1 hbw6 (by omega)
        have O2 := Own.below O2 hbw6 (by omega)
        have O3 := Own.below O3 hbw6 (by omega)
        have hz := hz.trans (hbw6.mono hz.size)
        clear hbw6
        have O4 := OO
        clear OO
        go_upto_region 12 with fail
        clear c0 c1
        refine plainbase ?_
        intro w7 hW
        have hbA : Below w6.heap.size w6 w7 := by rw [hW]; exact ((Below.refl _ _).alloc (by first | exact Nat.le_refl _ | (simp only [World.size_alloc]; omega)) _)
        have hlew7 := hbA.size
        have HB0 := Lib.hid (blk_on hbA HB0.out)
        have HB1 := Lib.hid (blk_on hbA HB1.out)
        have O1 := Own.below O1 hbA (by omega)
        have O2 := Own.below O2 hbA (by omega)
        have O3 := Own.below O3 hbA (by omega)
        have O4 := Own.below O4 hbA (by omega)
        have hz := hz.trans (hbA.mono hz.size)
        have HB2 := Lib.hid (at_of hW (push1_0 _ _))
        have hbl2 := blk_lt HB2.out
        clear hbA hW
        have c0 := cel2 HB0.out
        have c1 := cel1 HB1.out
        have c2 := cel2 HB2.out
        go_wp2_with fail
        refine (toAssembly_any q_aA_v0 q_aA w7 w.heap.size hz.size (Ty.rep_below _ q_aA_h0 hz) q_aA_n).mono ?_
        rintro e w8 ⟨⟨u5_0, rfl, OO⟩, hbw8⟩
        have RR := Assembly.parts (Own.rep OO (Nat.le_refl _))
        obtain ⟨u5_0a, u5_0c, rfl, _, _⟩ := Ty.form (RR)
        clear RR
        have hlew8 := hbw8.size
        have HB0 := Lib.hid (blk_on hbw8 HB0.out)
        have HB1 := Lib.hid (blk_on hbw8 HB1.out)
        have HB2 := Lib.hid (blk_on hbw8 HB2.out)
        have O1 := Own.below O1 hbw8 (by omega)
        have O2 := Own.below O2 hbw8 (by omega)
        have O3 := Own.below O3 hbw8 (by omega)
        have O4 := Own.below O4 hbw8 (by omega)
        have hz := hz.trans (hbw8.mono hz.size)
        clear hbw8
        have O5 := OO
        clear OO
        go_upto_region 13 with fail
        clear c0 c1 c2
        refine plainbase ?_
        intro w9 hW
        have hbA : Below w8.heap.size w8 w9 := by rw [hW]; exact ((Below.refl _ _).alloc (by first | exact Nat.le_refl _ | (simp only [World.size_alloc]; omega)) _)
        have hlew9 := hbA.size
        have HB0 := Lib.hid (blk_on hbA HB0.out)
        have HB1 := Lib.hid (blk_on hbA HB1.out)
        have HB2 := Lib.hid (blk_on hbA HB2.out)
        have O1 := Own.below O1 hbA (by omega)
        have O2 := Own.below O2 hbA (by omega)
        have O3 := Own.below O3 hbA (by omega)
        have O4 := Own.below O4 hbA (by omega)
        have O5 := Own.below O5 hbA (by omega)
        have hz := hz.trans (hbA.mono hz.size)
        have HB3 := Lib.hid (at_of hW (push1_0 _ _))
        have hbl3 := blk_lt HB3.out
        clear hbA hW
        have c0 := cel2 HB0.out
        have c1 := cel1 HB1.out
        have c2 := cel2 HB2.out
        have c3 := cel1 HB3.out
        go_wp2_with fail
        refine (toInt64S_any (.slice q_aPrices_a q_aPrices.length q_aPrices_c) q_aPrices w9 w.heap.size hz.size (Ty.rep_below _ q_aPrices_h hz) q_aPrices_n).mono ?_
        rintro e w10 ⟨⟨u6_0, rfl, OO⟩, hbw10⟩
        obtain ⟨u6_0a, u6_0c, rfl⟩ := Own.form OO
        have hlew10 := hbw10.size
        have HB0 := Lib.hid (blk_on hbw10 HB0.out)
        have HB1 := Lib.hid (blk_on hbw10 HB1.out)
        have HB2 := Lib.hid (blk_on hbw10 HB2.out)
        have HB3 := Lib.hid (blk_on hbw10 HB3.out)
        have O1 := Own.below O1 hbw10 (by omega)
        have O2 := Own.below O2 hbw10 (by omega)
        have O3 := Own.below O3 hbw10 (by omega)
        have O4 := Own.below O4 hbw10 (by omega)
        have O5 := Own.below O5 hbw10 (by omega)
        have hz := hz.trans (hbw10.mono hz.size)
        clear hbw10
        have O6 := OO
        clear OO
        go_upto_region 14 with fail
        clear c0 c1 c2 c3
        have c0 := cel2 HB0.out
        have c1 := cel1 HB1.out
        have c2 := cel2 HB2.out
        have c3 := cel1 HB3.out
        go_wp2_with fail
        have Rf100 := Own.rep (B := w10.heap.size) O4 (by omega)
        have Rf100 := TileSet.parts Rf100
        have Rf101 := Own.rep (B := w10.heap.size) O5 (by omega)
        have Rf101 := Assembly.parts Rf101
        have Rf102 := Own.rep (B := w10.heap.size) O6 (by omega)
        refine (CostOf_impl (.slice u4_0a q_aSet.Glues.length u4_0c) (.slice u4_1a q_aSet.Tiles.length u4_1c) q_aSet (.slice u5_0a q_aA.Tiles.length u5_0c) q_aA (.slice u6_0a q_aPrices.length u6_0c) q_aPrices q_aGlue w10 w10.heap.size (Nat.le_refl _) (Rf100.1) (Rf100.2) q_aSet_n (Rf101) q_aA_n Rf102 q_aPrices_n q_aGlue_p).mono ?_
        rintro e w11 ⟨rfl, hbw11⟩
        have hlew11 := hbw11.size
        have HB0 := Lib.hid (blk_on hbw11 HB0.out)
        have HB1 := Lib.hid (blk_on hbw11 HB1.out)
        have HB2 := Lib.hid (blk_on hbw11 HB2.out)
        have HB3 := Lib.hid (blk_on hbw11 HB3.out)
        have O1 := Own.below O1 hbw11 (by omega)
        have O2 := Own.below O2 hbw11 (by omega)
        have O3 := Own.below O3 hbw11 (by omega)
        have O4 := Own.below O4 hbw11 (by omega)
        have O5 := Own.below O5 hbw11 (by omega)
        have O6 := Own.below O6 hbw11 (by omega)
        have hz := hz.trans (hbw11.mono hz.size)
        clear hbw11
        go_upto_region 17 with fail
        clear c0 c1 c2 c3
        have hS : Below w11.heap.size w11 w11.drew := (Below.refl _ _).drew
        have d0 := bel2 HB0.out
        have d1 := bel1 HB1.out
        have d2 := bel2 HB2.out
        have d3 := bel1 HB3.out
        have hb0 := hS
        have hlew11drew := hb0.size
        have HB0 := Lib.hid (blk_on hb0 HB0.out)
        have HB1 := Lib.hid (blk_on hb0 HB1.out)
        have HB2 := Lib.hid (blk_on hb0 HB2.out)
        have HB3 := Lib.hid (blk_on hb0 HB3.out)
        have O1 := Own.below O1 hb0 (by omega)
        have O2 := Own.below O2 hb0 (by omega)
        have O3 := Own.below O3 hb0 (by omega)
        have O4 := Own.below O4 hb0 (by omega)
        have O5 := Own.below O5 hb0 (by omega)
        have O6 := Own.below O6 hb0 (by omega)
        have hz := hz.trans (hb0.mono hz.size)
        clear hb0
        go_region_held3 (fun w' => Below w11.heap.size w11 w') (first | exact hS | exact Below.alloc hS (by have := hS.size; omega) _) (first | (go_at_call 13; ((with_reducible refine (toTileSet_any q_aSet_v0 q_aSet_v1 q_aSet w11.drew w.heap.size hz.size (Ty.rep_below _ q_aSet_h0 hz) (Ty.rep_below _ q_aSet_h1 hz) q_aSet_n).mono ?_)); rintro e w12 ⟨⟨u7_0, u7_1, rfl, OO⟩, hbw12⟩; have RR := TileSet.parts (Own.rep OO (Nat.le_refl _)); obtain ⟨u7_0a, u7_0c, rfl, _, _⟩ := Ty.form (RR.1); obtain ⟨u7_1a, u7_1c, rfl, _, _⟩ := Ty.form (RR.2); clear RR; have hlew12 := hbw12.size; have HB0 := Lib.hid (blk_on hbw12 HB0.out); have HB1 := Lib.hid (blk_on hbw12 HB1.out); have HB2 := Lib.hid (blk_on hbw12 HB2.out); have HB3 := Lib.hid (blk_on hbw12 HB3.out); have O1 := Own.below O1 hbw12 (by omega); have O2 := Own.below O2 hbw12 (by omega); have O3 := Own.below O3 hbw12 (by omega); have O4 := Own.below O4 hbw12 (by omega); have O5 := Own.below O5 hbw12 (by omega); have O6 := Own.below O6 hbw12 (by omega); have hz := hz.trans (hbw12.mono hz.size); have hS := hS.trans (hbw12.mono hS.size); clear hbw12; have O7 := OO; clear OO) | (go_at_call 17; have Rx12 := Own.rep (B := w12.heap.size) O4 (by omega); have Rx12 := TileSet.parts Rx12; have Ry12 := Own.rep (B := w12.heap.size) O7 (by omega); have Ry12 := TileSet.parts Ry12; ((with_reducible refine (eqTileSet_any (.slice u4_0a q_aSet.Glues.length u4_0c) (.slice u4_1a q_aSet.Tiles.length u4_1c) (.slice u7_0a q_aSet.Glues.length u7_0c) (.slice u7_1a q_aSet.Tiles.length u7_1c) q_aSet w12 w12.heap.size (Nat.le_refl _) (Rx12.1) (Rx12.2) (Ry12.1) (Ry12.2)).mono ?_)); rintro e w13 ⟨rfl, hbw13⟩; have hlew13 := hbw13.size; have HB0 := Lib.hid (blk_on hbw13 HB0.out); have HB1 := Lib.hid (blk_on hbw13 HB1.out); have HB2 := Lib.hid (blk_on hbw13 HB2.out); have HB3 := Lib.hid (blk_on hbw13 HB3.out); have O1 := Own.below O1 hbw13 (by omega); have O2 := Own.below O2 hbw13 (by omega); have O3 := Own.below O3 hbw13 (by omega); have O4 := Own.below O4 hbw13 (by omega); have O5 := Own.below O5 hbw13 (by omega); have O6 := Own.below O6 hbw13 (by omega); have O7 := Own.below O7 hbw13 (by omega); have hz := hz.trans (hbw13.mono hz.size); have hS := hS.trans (hbw13.mono hS.size); clear hbw13))
        clear hS d0 d1 d2 d3
        go_upto_region 19 with fail
        have hS : Below w13.heap.size w13 w13.drew := (Below.refl _ _).drew
        have d0 := bel2 HB0.out
        have d1 := bel1 HB1.out
        have d2 := bel2 HB2.out
        have d3 := bel1 HB3.out
        have hb0 := hS
        have hlew13drew := hb0.size
        have HB0 := Lib.hid (blk_on hb0 HB0.out)
        have HB1 := Lib.hid (blk_on hb0 HB1.out)
        have HB2 := Lib.hid (blk_on hb0 HB2.out)
        have HB3 := Lib.hid (blk_on hb0 HB3.out)
        have O1 := Own.below O1 hb0 (by omega)
        have O2 := Own.below O2 hb0 (by omega)
        have O3 := Own.below O3 hb0 (by omega)
        have O4 := Own.below O4 hb0 (by omega)
        have O5 := Own.below O5 hb0 (by omega)
        have O6 := Own.below O6 hb0 (by omega)
        have O7 := Own.below O7 hb0 (by omega)
        have hz := hz.trans (hb0.mono hz.size)
        clear hb0
        go_region_held3 (fun w' => Below w13.heap.size w13 w') (first | exact hS | exact Below.alloc hS (by have := hS.size; omega) _) (first | (go_at_call 14; ((with_reducible refine (toAssembly_any q_aA_v0 q_aA w13.drew w.heap.size hz.size (Ty.rep_below _ q_aA_h0 hz) q_aA_n).mono ?_)); rintro e w14 ⟨⟨u8_0, rfl, OO⟩, hbw14⟩; have RR := Assembly.parts (Own.rep OO (Nat.le_refl _)); obtain ⟨u8_0a, u8_0c, rfl, _, _⟩ := Ty.form (RR); clear RR; have hlew14 := hbw14.size; have HB0 := Lib.hid (blk_on hbw14 HB0.out); have HB1 := Lib.hid (blk_on hbw14 HB1.out); have HB2 := Lib.hid (blk_on hbw14 HB2.out); have HB3 := Lib.hid (blk_on hbw14 HB3.out); have O1 := Own.below O1 hbw14 (by omega); have O2 := Own.below O2 hbw14 (by omega); have O3 := Own.below O3 hbw14 (by omega); have O4 := Own.below O4 hbw14 (by omega); have O5 := Own.below O5 hbw14 (by omega); have O6 := Own.below O6 hbw14 (by omega); have O7 := Own.below O7 hbw14 (by omega); have hz := hz.trans (hbw14.mono hz.size); have hS := hS.trans (hbw14.mono hS.size); clear hbw14; have O8 := OO; clear OO) | (go_at_call 18; have Rx14 := Own.rep (B := w14.heap.size) O5 (by omega); have Rx14 := Assembly.parts Rx14; have Ry14 := Own.rep (B := w14.heap.size) O8 (by omega); have Ry14 := Assembly.parts Ry14; ((with_reducible refine (eqAssembly_any (.slice u5_0a q_aA.Tiles.length u5_0c) (.slice u8_0a q_aA.Tiles.length u8_0c) q_aA w14 w14.heap.size (Nat.le_refl _) (Rx14) (Ry14)).mono ?_)); rintro e w15 ⟨rfl, hbw15⟩; have hlew15 := hbw15.size; have HB0 := Lib.hid (blk_on hbw15 HB0.out); have HB1 := Lib.hid (blk_on hbw15 HB1.out); have HB2 := Lib.hid (blk_on hbw15 HB2.out); have HB3 := Lib.hid (blk_on hbw15 HB3.out); have O1 := Own.below O1 hbw15 (by omega); have O2 := Own.below O2 hbw15 (by omega); have O3 := Own.below O3 hbw15 (by omega); have O4 := Own.below O4 hbw15 (by omega); have O5 := Own.below O5 hbw15 (by omega); have O6 := Own.below O6 hbw15 (by omega); have O7 := Own.below O7 hbw15 (by omega); have O8 := Own.below O8 hbw15 (by omega); have hz := hz.trans (hbw15.mono hz.size); have hS := hS.trans (hbw15.mono hS.size); clear hbw15))
        clear hS d0 d1 d2 d3
        go_upto_region 21 with fail
        have c0 := cel2 HB0.out
        have c1 := cel1 HB1.out
        have c2 := cel2 HB2.out
        have c3 := cel1 HB3.out
        go_wp2_with fail
        refine (toInt64S_any (.slice q_aPrices_a q_aPrices.length q_aPrices_c) q_aPrices w15 w.heap.size hz.size (Ty.rep_below _ q_aPrices_h hz) q_aPrices_n).mono ?_
        rintro e w16 ⟨⟨u9_0, rfl, OO⟩, hbw16⟩
        obtain ⟨u9_0a, u9_0c, rfl⟩ := Own.form OO
        have hlew16 := hbw16.size
        have HB0 := Lib.hid (blk_on hbw16 HB0.out)
        have HB1 := Lib.hid (blk_on hbw16 HB1.out)
        have HB2 := Lib.hid (blk_on hbw16 HB2.out)
        have HB3 := Lib.hid (blk_on hbw16 HB3.out)
        have O1 := Own.below O1 hbw16 (by omega)
        have O2 := Own.below O2 hbw16 (by omega)
        have O3 := Own.below O3 hbw16 (by omega)
        have O4 := Own.below O4 hbw16 (by omega)
        have O5 := Own.below O5 hbw16 (by omega)
        have O6 := Own.below O6 hbw16 (by omega)
        have O7 := Own.below O7 hbw16 (by omega)
        have O8 := Own.below O8 hbw16 (by omega)
        have hz := hz.trans (hbw16.mono hz.size)
        clear hbw16
        have O9 := OO
        clear OO
        go_wp2_with fail
        have Rx16 := Own.rep (B := w16.heap.size) O6 (by omega)
        have Ry16 := Own.rep (B := w16.heap.size) O9 (by omega)
        refine (eqInt64S_any (.slice u6_0a q_aPrices.length u6_0c) (.slice u9_0a q_aPrices.length u9_0c) q_aPrices w16 w16.heap.size (Nat.le_refl _) Rx16 Ry16).mono ?_
        rintro e w17 ⟨rfl, hbw17⟩
        have hlew17 := hbw17.size
        have HB0 := Lib.hid (blk_on hbw17 HB0.out)
        have HB1 := Lib.hid (blk_on hbw17 HB1.out)
        have HB2 := Lib.hid (blk_on hbw17 HB2.out)
        have HB3 := Lib.hid (blk_on hbw17 HB3.out)
        have O1 := Own.below O1 hbw17 (by omega)
        have O2 := Own.below O2 hbw17 (by omega)
        have O3 := Own.below O3 hbw17 (by omega)
        have O4 := Own.below O4 hbw17 (by omega)
        have O5 := Own.below O5 hbw17 (by omega)
        have O6 := Own.below O6 hbw17 (by omega)
        have O7 := Own.below O7 hbw17 (by omega)
        have O8 := Own.below O8 hbw17 (by omega)
        have O9 := Own.below O9 hbw17 (by omega)
        have hz := hz.trans (hbw17.mono hz.size)
        clear hbw17
        go_wp2_with fail
        go_ret
        exact ⟨rfl, hz⟩
      · go_enter Try.func3, Try.ntmps3
        go_upto_region 1 with fail
        refine rebase ?_
        intro W1 hW _
        have hz : Below w.heap.size w W1 := by rw [hW]; go_grown
        have hb0 := at_of hW (push2_0 _ _ _)
        have c0 := box2 hb0
        have f0 := boxf hb0
        have B0 := Lib.hid hb0
        clear hb0
        have hb1 := at_of hW (push2_1 _ _ _)
        have c1 := box1 hb1
        have f1 := boxf hb1
        have B1 := Lib.hid hb1
        clear hb1
        have HW := Lib.hid hW
        clear hW
        have hs1 := fun z : Ext W1 => szTileSet_any q_aSet_v0 q_aSet_v1 q_aSet (1048576 : Int) (by omega) (by omega) (W1.to z) w.heap.size (ext_end z hz).size (Ty.rep_below _ q_aSet_h0 (ext_end z hz)) (Ty.rep_below _ q_aSet_h1 (ext_end z hz))
        simp only [szR_ok g1] at hs1
        have HS1 := Lib.hid hs1
        clear hs1
        have hs2 := fun z : Ext W1 => szAssembly_any q_aA_v0 q_aA (1048576 - (TileSet.cnt q_aSet : Nat) : Int) (by omega) (by omega) (W1.to z) w.heap.size (ext_end z hz).size (Ty.rep_below _ q_aA_h0 (ext_end z hz))
        simp only [szR_no g2] at hs2
        have HS2 := Lib.hid hs2
        clear hs2
        go_wp2_with fail
        refine call_ext (HS1.out _) ?_
        intro y
        go_wp2_with fail
        refine call_ext (HS2.out _) ?_
        intro y
        go_wp2_with fail
        go_ret
        exact ⟨rfl, ext_end _ hz⟩
    · go_enter Try.func3, Try.ntmps3
      go_upto_region 1 with fail
      refine rebase ?_
      intro W1 hW _
      have hz : Below w.heap.size w W1 := by rw [hW]; go_grown
      have hb0 := at_of hW (push2_0 _ _ _)
      have c0 := box2 hb0
      have f0 := boxf hb0
      have B0 := Lib.hid hb0
      clear hb0
      have hb1 := at_of hW (push2_1 _ _ _)
      have c1 := box1 hb1
      have f1 := boxf hb1
      have B1 := Lib.hid hb1
      clear hb1
      have HW := Lib.hid hW
      clear hW
      have hs1 := fun z : Ext W1 => szTileSet_any q_aSet_v0 q_aSet_v1 q_aSet (1048576 : Int) (by omega) (by omega) (W1.to z) w.heap.size (ext_end z hz).size (Ty.rep_below _ q_aSet_h0 (ext_end z hz)) (Ty.rep_below _ q_aSet_h1 (ext_end z hz))
      simp only [szR_no g1] at hs1
      have HS1 := Lib.hid hs1
      clear hs1
      go_wp2_with fail
      refine call_ext (HS1.out _) ?_
      intro y
      go_wp2_with fail
      go_ret
      exact ⟨rfl, ext_end _ hz⟩
  · go_enter Try.func3, Try.ntmps3
    go_upto_region 1 with fail
    refine rebase ?_
    intro W1 hW _
    have hz : Below w.heap.size w W1 := by rw [hW]; go_grown
    have hb0 := at_of hW (push2_0 _ _ _)
    have c0 := box2 hb0
    have f0 := boxf hb0
    have B0 := Lib.hid hb0
    clear hb0
    have hb1 := at_of hW (push2_1 _ _ _)
    have c1 := box1 hb1
    have f1 := boxf hb1
    have B1 := Lib.hid hb1
    clear hb1
    have HW := Lib.hid hW
    clear hW
    go_wp2_with fail
    go_ret
    exact ⟨rfl, ext_end _ hz⟩
end Go.Proofs.Ytffnoglnpkcjnaa
