/- For all arguments, the program's SameSimulation and the reference's SameSimulation give the same results: the law returns true, and its arguments read afterwards as before. No conditions. -/
import Derived.Test.YtpaknhakpkfnnaaCSameSimulation
set_option linter.unusedSimpArgs false
set_option linter.unusedVariables false
set_option linter.all false
namespace Go.Proofs.Ytpaknhakpkfnnaa
open Go.RowKit Go.ChangeShapes Go.WideShapes Go.ChangeAt

set_option maxRecDepth 10000 in
set_option maxHeartbeats 4000000 in
theorem walk_fnExactSameSimulation (q_aA_v0 q_aA_v1 q_aA_v2 q_aA_v3 q_aA_v4 q_aA_v5 q_aA_v6 : Value) (q_aA : Simulation) (q_aB_v0 q_aB_v1 q_aB_v2 q_aB_v3 q_aB_v4 q_aB_v5 q_aB_v6 : Value) (q_aB : Simulation) (w : World) (q_aA_h0 : (Ty.slice 69 Glue.ty).rep w w.heap.size [q_aA_v0] q_aA.Big.Set.Glues) (q_aA_h1 : (Ty.slice 71 Tile.ty).rep w w.heap.size [q_aA_v1] q_aA.Big.Set.Tiles) (q_aA_h2 : (Ty.slice 75 Placed.ty).rep w w.heap.size [q_aA_v2] q_aA.Big.Seed.Tiles) (q_aA_h3 : (Ty.slice 69 Glue.ty).rep w w.heap.size [q_aA_v3] q_aA.Small.Set.Glues) (q_aA_h4 : (Ty.slice 71 Tile.ty).rep w w.heap.size [q_aA_v4] q_aA.Small.Set.Tiles) (q_aA_h5 : (Ty.slice 75 Placed.ty).rep w w.heap.size [q_aA_v5] q_aA.Small.Seed.Tiles) (q_aA_h6 : (Ty.slice 2 (Ty.int .i64)).rep w w.heap.size [q_aA_v6] q_aA.Labels) (q_aA_p0 : InK .i64 q_aA.Big.Temperature) (q_aA_p1 : InK .i64 q_aA.Small.Temperature) (q_aA_p2 : InK .i64 q_aA.Scale) (q_aB_h0 : (Ty.slice 69 Glue.ty).rep w w.heap.size [q_aB_v0] q_aB.Big.Set.Glues) (q_aB_h1 : (Ty.slice 71 Tile.ty).rep w w.heap.size [q_aB_v1] q_aB.Big.Set.Tiles) (q_aB_h2 : (Ty.slice 75 Placed.ty).rep w w.heap.size [q_aB_v2] q_aB.Big.Seed.Tiles) (q_aB_h3 : (Ty.slice 69 Glue.ty).rep w w.heap.size [q_aB_v3] q_aB.Small.Set.Glues) (q_aB_h4 : (Ty.slice 71 Tile.ty).rep w w.heap.size [q_aB_v4] q_aB.Small.Set.Tiles) (q_aB_h5 : (Ty.slice 75 Placed.ty).rep w w.heap.size [q_aB_v5] q_aB.Small.Seed.Tiles) (q_aB_h6 : (Ty.slice 2 (Ty.int .i64)).rep w w.heap.size [q_aB_v6] q_aB.Labels) (q_aB_p0 : InK .i64 q_aB.Big.Temperature) (q_aB_p1 : InK .i64 q_aB.Small.Temperature) (q_aB_p2 : InK .i64 q_aB.Scale) :
    Calls Try.prog 3 #[.agg #[q_aA_v0, q_aA_v1, q_aA_v2, .int .i64 q_aA.Big.Temperature, q_aA_v3, q_aA_v4, q_aA_v5, .int .i64 q_aA.Small.Temperature, .int .i64 q_aA.Scale, q_aA_v6], .agg #[q_aB_v0, q_aB_v1, q_aB_v2, .int .i64 q_aB.Big.Temperature, q_aB_v3, q_aB_v4, q_aB_v5, .int .i64 q_aB.Small.Temperature, .int .i64 q_aB.Scale, q_aB_v6]] w fun e w' => e = .returned (.bool true) ∧ Below w.heap.size w w' := by
  by_cases g0 : ((Simulation.cnt q_aA : Nat) : Int) ≤ 1048576
  · by_cases g1 : ((Simulation.cnt q_aB : Nat) : Int) ≤ 1048576 - (Simulation.cnt q_aA : Nat)
    · have q_aA_n : Simulation.cnt q_aA ≤ 1048576 := by omega
      have q_aB_n : Simulation.cnt q_aB ≤ 1048576 := by omega
      go_enter Try.func3, Try.ntmps3
      go_upto_region 1 with fail
      refine rebase ?_
      intro W1 hW _
      have hz : Below w.heap.size w W1 := by rw [hW]; go_grown
      have hb0 := at_of hW (push2_0 _ _ _)
      have c0 := box10 hb0
      have f0 := boxf hb0
      have B0 := Lib.hid hb0
      clear hb0
      have hb1 := at_of hW (push2_1 _ _ _)
      have c1 := box10 hb1
      have f1 := boxf hb1
      have B1 := Lib.hid hb1
      clear hb1
      have HW := Lib.hid hW
      clear hW
      have hs0 := fun z : Ext W1 => szSimulation_any q_aA_v0 q_aA_v1 q_aA_v2 q_aA_v3 q_aA_v4 q_aA_v5 q_aA_v6 q_aA (1048576 : Int) (by omega) (by omega) (W1.to z) w.heap.size (ext_end z hz).size (Ty.rep_below _ q_aA_h0 (ext_end z hz)) (Ty.rep_below _ q_aA_h1 (ext_end z hz)) (Ty.rep_below _ q_aA_h2 (ext_end z hz)) (Ty.rep_below _ q_aA_h3 (ext_end z hz)) (Ty.rep_below _ q_aA_h4 (ext_end z hz)) (Ty.rep_below _ q_aA_h5 (ext_end z hz)) (Ty.rep_below _ q_aA_h6 (ext_end z hz))
      simp only [szR_ok g0] at hs0
      have HS0 := Lib.hid hs0
      clear hs0
      have hs1 := fun z : Ext W1 => szSimulation_any q_aB_v0 q_aB_v1 q_aB_v2 q_aB_v3 q_aB_v4 q_aB_v5 q_aB_v6 q_aB (1048576 - (Simulation.cnt q_aA : Nat) : Int) (by omega) (by omega) (W1.to z) w.heap.size (ext_end z hz).size (Ty.rep_below _ q_aB_h0 (ext_end z hz)) (Ty.rep_below _ q_aB_h1 (ext_end z hz)) (Ty.rep_below _ q_aB_h2 (ext_end z hz)) (Ty.rep_below _ q_aB_h3 (ext_end z hz)) (Ty.rep_below _ q_aB_h4 (ext_end z hz)) (Ty.rep_below _ q_aB_h5 (ext_end z hz)) (Ty.rep_below _ q_aB_h6 (ext_end z hz))
      simp only [szR_ok g1] at hs1
      have HS1 := Lib.hid hs1
      clear hs1
      go_wp2_with fail
      refine call_ext (HS0.out _) ?_
      intro y
      go_wp2_with fail
      refine call_ext (HS1.out _) ?_
      intro y
      go_upto_region 8 with fail
      refine plainbase ?_
      intro w1 hW
      have hz : Below w.heap.size w w1 := by rw [hW]; exact ext_end _ hz
      have hz0 := hz.size
      have HB0 := Lib.hid (at_of hW (box_at B0.out _))
      have hbl0 := blk_lt HB0.out
      clear c0 f0 B0
      have HB1 := Lib.hid (at_of hW (box_at B1.out _))
      have hbl1 := blk_lt HB1.out
      clear c1 f1 B1
      clear hW HW HS0 HS1
      have hS : Below w1.heap.size w1 w1.drew := (Below.refl _ _).drew
      have d0 := bel10 HB0.out
      have d1 := bel10 HB1.out
      have hb0 := hS
      have hlew1drew := hb0.size
      have HB0 := Lib.hid (blk_on hb0 HB0.out)
      have HB1 := Lib.hid (blk_on hb0 HB1.out)
      have hz := hz.trans (hb0.mono hz.size)
      clear hb0
      go_region_held3 (fun w' => Below w1.heap.size w1 w') (exact hS) (first | (go_at_call 6; ((with_reducible refine (toSimulation_any q_aA_v0 q_aA_v1 q_aA_v2 q_aA_v3 q_aA_v4 q_aA_v5 q_aA_v6 q_aA w1.drew w.heap.size hz.size (Ty.rep_below _ q_aA_h0 hz) (Ty.rep_below _ q_aA_h1 hz) (Ty.rep_below _ q_aA_h2 hz) (Ty.rep_below _ q_aA_h3 hz) (Ty.rep_below _ q_aA_h4 hz) (Ty.rep_below _ q_aA_h5 hz) (Ty.rep_below _ q_aA_h6 hz) q_aA_p0 q_aA_p1 q_aA_p2 q_aA_n).mono ?_)); rintro e w2 ⟨⟨u1_0, u1_1, u1_2, u1_3, u1_4, u1_5, u1_6, rfl, OO⟩, hbw2⟩; have RR := Simulation.parts (Own.rep OO (Nat.le_refl _)); obtain ⟨u1_0a, u1_0c, rfl, _, _⟩ := Ty.form (RR.1); obtain ⟨u1_1a, u1_1c, rfl, _, _⟩ := Ty.form (RR.2.1); obtain ⟨u1_2a, u1_2c, rfl, _, _⟩ := Ty.form (RR.2.2.1); obtain ⟨u1_3a, u1_3c, rfl, _, _⟩ := Ty.form (RR.2.2.2.2.1); obtain ⟨u1_4a, u1_4c, rfl, _, _⟩ := Ty.form (RR.2.2.2.2.2.1); obtain ⟨u1_5a, u1_5c, rfl, _, _⟩ := Ty.form (RR.2.2.2.2.2.2.1); obtain ⟨u1_6a, u1_6c, rfl, _, _⟩ := Ty.form (RR.2.2.2.2.2.2.2.2.2); clear RR; have hlew2 := hbw2.size; have HB0 := Lib.hid (blk_on hbw2 HB0.out); have HB1 := Lib.hid (blk_on hbw2 HB1.out); have hz := hz.trans (hbw2.mono hz.size); have hS := hS.trans (hbw2.mono hS.size); clear hbw2; have O1 := OO; clear OO) | (go_at_call 6; ((with_reducible refine (toSimulation_any q_aB_v0 q_aB_v1 q_aB_v2 q_aB_v3 q_aB_v4 q_aB_v5 q_aB_v6 q_aB w2 w.heap.size hz.size (Ty.rep_below _ q_aB_h0 hz) (Ty.rep_below _ q_aB_h1 hz) (Ty.rep_below _ q_aB_h2 hz) (Ty.rep_below _ q_aB_h3 hz) (Ty.rep_below _ q_aB_h4 hz) (Ty.rep_below _ q_aB_h5 hz) (Ty.rep_below _ q_aB_h6 hz) q_aB_p0 q_aB_p1 q_aB_p2 q_aB_n).mono ?_)); rintro e w3 ⟨⟨u2_0, u2_1, u2_2, u2_3, u2_4, u2_5, u2_6, rfl, OO⟩, hbw3⟩; have RR := Simulation.parts (Own.rep OO (Nat.le_refl _)); obtain ⟨u2_0a, u2_0c, rfl, _, _⟩ := Ty.form (RR.1); obtain ⟨u2_1a, u2_1c, rfl, _, _⟩ := Ty.form (RR.2.1); obtain ⟨u2_2a, u2_2c, rfl, _, _⟩ := Ty.form (RR.2.2.1); obtain ⟨u2_3a, u2_3c, rfl, _, _⟩ := Ty.form (RR.2.2.2.2.1); obtain ⟨u2_4a, u2_4c, rfl, _, _⟩ := Ty.form (RR.2.2.2.2.2.1); obtain ⟨u2_5a, u2_5c, rfl, _, _⟩ := Ty.form (RR.2.2.2.2.2.2.1); obtain ⟨u2_6a, u2_6c, rfl, _, _⟩ := Ty.form (RR.2.2.2.2.2.2.2.2.2); clear RR; have hlew3 := hbw3.size; have HB0 := Lib.hid (blk_on hbw3 HB0.out); have HB1 := Lib.hid (blk_on hbw3 HB1.out); have O1 := Own.below O1 hbw3 (by omega); have hz := hz.trans (hbw3.mono hz.size); have hS := hS.trans (hbw3.mono hS.size); clear hbw3; have O2 := OO; clear OO) | (go_at_call 5; have Rf30 := Own.rep (B := w3.heap.size) O1 (by omega); have Rf30 := Simulation.parts Rf30; have Rf31 := Own.rep (B := w3.heap.size) O2 (by omega); have Rf31 := Simulation.parts Rf31; ((with_reducible refine (SameSimulation_spec (.slice u1_0a q_aA.Big.Set.Glues.length u1_0c) (.slice u1_1a q_aA.Big.Set.Tiles.length u1_1c) (.slice u1_2a q_aA.Big.Seed.Tiles.length u1_2c) (.slice u1_3a q_aA.Small.Set.Glues.length u1_3c) (.slice u1_4a q_aA.Small.Set.Tiles.length u1_4c) (.slice u1_5a q_aA.Small.Seed.Tiles.length u1_5c) (.slice u1_6a q_aA.Labels.length u1_6c) q_aA (.slice u2_0a q_aB.Big.Set.Glues.length u2_0c) (.slice u2_1a q_aB.Big.Set.Tiles.length u2_1c) (.slice u2_2a q_aB.Big.Seed.Tiles.length u2_2c) (.slice u2_3a q_aB.Small.Set.Glues.length u2_3c) (.slice u2_4a q_aB.Small.Set.Tiles.length u2_4c) (.slice u2_5a q_aB.Small.Seed.Tiles.length u2_5c) (.slice u2_6a q_aB.Labels.length u2_6c) q_aB w3 w3.heap.size (Nat.le_refl _) (Rf30.1) (Rf30.2.1) (Rf30.2.2.1) (Rf30.2.2.2.2.1) (Rf30.2.2.2.2.2.1) (Rf30.2.2.2.2.2.2.1) (Rf30.2.2.2.2.2.2.2.2.2) q_aA_p0 q_aA_p1 q_aA_p2 q_aA_n (Rf31.1) (Rf31.2.1) (Rf31.2.2.1) (Rf31.2.2.2.2.1) (Rf31.2.2.2.2.2.1) (Rf31.2.2.2.2.2.2.1) (Rf31.2.2.2.2.2.2.2.2.2) q_aB_p0 q_aB_p1 q_aB_p2 q_aB_n).mono ?_)); rintro e w4 ⟨rfl, hbw4⟩; have hlew4 := hbw4.size; have HB0 := Lib.hid (blk_on hbw4 HB0.out); have HB1 := Lib.hid (blk_on hbw4 HB1.out); have O1 := Own.below O1 hbw4 (by omega); have O2 := Own.below O2 hbw4 (by omega); have hz := hz.trans (hbw4.mono hz.size); have hS := hS.trans (hbw4.mono hS.size); clear hbw4))
      clear hS d0 d1
      go_upto_region 9 with fail
      have c0 := cel10 HB0.out
      have c1 := cel10 HB1.out
      go_wp2_with fail
      refine (toSimulation_any q_aA_v0 q_aA_v1 q_aA_v2 q_aA_v3 q_aA_v4 q_aA_v5 q_aA_v6 q_aA w4 w.heap.size hz.size (Ty.rep_below _ q_aA_h0 hz) (Ty.rep_below _ q_aA_h1 hz) (Ty.rep_below _ q_aA_h2 hz) (Ty.rep_below _ q_aA_h3 hz) (Ty.rep_below _ q_aA_h4 hz) (Ty.rep_below _ q_aA_h5 hz) (Ty.rep_below _ q_aA_h6 hz) q_aA_p0 q_aA_p1 q_aA_p2 q_aA_n).mono ?_
      rintro e w5 ⟨⟨u3_0, u3_1, u3_2, u3_3, u3_4, u3_5, u3_6, rfl, OO⟩, hbw5⟩
      have RR := Simulation.parts (Own.rep OO (Nat.le_refl _))
      obtain ⟨u3_0a, u3_0c, rfl, _, _⟩ := Ty.form (RR.1)
      obtain ⟨u3_1a, u3_1c, rfl, _, _⟩ := Ty.form (RR.2.1)
      obtain ⟨u3_2a, u3_2c, rfl, _, _⟩ := Ty.form (RR.2.2.1)
      obtain ⟨u3_3a, u3_3c, rfl, _, _⟩ := Ty.form (RR.2.2.2.2.1)
      obtain ⟨u3_4a, u3_4c, rfl, _, _⟩ := Ty.form (RR.2.2.2.2.2.1)
      obtain ⟨u3_5a, u3_5c, rfl, _, _⟩ := Ty.form (RR.2.2.2.2.2.2.1)
      obtain ⟨u3_6a, u3_6c, rfl, _, _⟩ := Ty.form (RR.2.2.2.2.2.2.2.2.2)
      clear RR
      have hlew5 := hbw5.size
      have HB0 := Lib.hid (blk_on hbw5 HB0.out)
      have HB1 := Lib.hid (blk_on hbw5 HB1.out)
      have O1 := Own.below O1 hbw5 (by omega)
      have O2 := Own.below O2 hbw5 (by omega)
      have hz := hz.trans (hbw5.mono hz.size)
      clear hbw5
      have O3 := OO
      clear OO
      go_upto_region 10 with fail
      clear c0 c1
      refine plainbase ?_
      intro w6 hW
      have hbA : Below w5.heap.size w5 w6 := by rw [hW]; exact ((Below.refl _ _).alloc (by first | exact Nat.le_refl _ | (simp only [World.size_alloc]; omega)) _)
      have hlew6 := hbA.size
      have HB0 := Lib.hid (blk_on hbA HB0.out)
      have HB1 := Lib.hid (blk_on hbA HB1.out)
      have O1 := Own.below O1 hbA (by omega)
      have O2 := Own.below O2 hbA (by omega)
      have O3 := Own.below O3 hbA (by omega)
      have hz := hz.trans (hbA.mono hz.size)
      have HB2 := Lib.hid (at_of hW (push1_0 _ _))
      have hbl2 := blk_lt HB2.out
      clear hbA hW
      have c0 := cel10 HB0.out
      have c1 := cel10 HB1.out
      have c2 := cel10 HB2.out
      go_wp2_with fail
      refine (toSimulation_any q_aB_v0 q_aB_v1 q_aB_v2 q_aB_v3 q_aB_v4 q_aB_v5 q_aB_v6 q_aB w6 w.heap.size hz.size (Ty.rep_below _ q_aB_h0 hz) (Ty.rep_below _ q_aB_h1 hz) (Ty.rep_below _ q_aB_h2 hz) (Ty.rep_below _ q_aB_h3 hz) (Ty.rep_below _ q_aB_h4 hz) (Ty.rep_below _ q_aB_h5 hz) (Ty.rep_below _ q_aB_h6 hz) q_aB_p0 q_aB_p1 q_aB_p2 q_aB_n).mono ?_
      rintro e w7 ⟨⟨u4_0, u4_1, u4_2, u4_3, u4_4, u4_5, u4_6, rfl, OO⟩, hbw7⟩
      have RR := Simulation.parts (Own.rep OO (Nat.le_refl _))
      obtain ⟨u4_0a, u4_0c, rfl, _, _⟩ := Ty.form (RR.1)
      obtain ⟨u4_1a, u4_1c, rfl, _, _⟩ := Ty.form (RR.2.1)
      obtain ⟨u4_2a, u4_2c, rfl, _, _⟩ := Ty.form (RR.2.2.1)
      obtain ⟨u4_3a, u4_3c, rfl, _, _⟩ := Ty.form (RR.2.2.2.2.1)
      obtain ⟨u4_4a, u4_4c, rfl, _, _⟩ := Ty.form (RR.2.2.2.2.2.1)
      obtain ⟨u4_5a, u4_5c, rfl, _, _⟩ := Ty.form (RR.2.2.2.2.2.2.1)
      obtain ⟨u4_6a, u4_6c, rfl, _, _⟩ := Ty.form (RR.2.2.2.2.2.2.2.2.2)
      clear RR
      have hlew7 := hbw7.size
      have HB0 := Lib.hid (blk_on hbw7 HB0.out)
      have HB1 := Lib.hid (blk_on hbw7 HB1.out)
      have HB2 := Lib.hid (blk_on hbw7 HB2.out)
      have O1 := Own.below O1 hbw7 (by omega)
      have O2 := Own.below O2 hbw7 (by omega)
      have O3 := Own.below O3 hbw7 (by omega)
      have hz := hz.trans (hbw7.mono hz.size)
      clear hbw7
      have O4 := OO
      clear OO
      go_upto_region 11 with fail
      clear c0 c1 c2
      refine plainbase ?_
      intro w8 hW
      have hbA : Below w7.heap.size w7 w8 := by rw [hW]; exact ((Below.refl _ _).alloc (by first | exact Nat.le_refl _ | (simp only [World.size_alloc]; omega)) _)
      have hlew8 := hbA.size
      have HB0 := Lib.hid (blk_on hbA HB0.out)
      have HB1 := Lib.hid (blk_on hbA HB1.out)
      have HB2 := Lib.hid (blk_on hbA HB2.out)
      have O1 := Own.below O1 hbA (by omega)
      have O2 := Own.below O2 hbA (by omega)
      have O3 := Own.below O3 hbA (by omega)
      have O4 := Own.below O4 hbA (by omega)
      have hz := hz.trans (hbA.mono hz.size)
      have HB3 := Lib.hid (at_of hW (push1_0 _ _))
      have hbl3 := blk_lt HB3.out
      clear hbA hW
      have c0 := cel10 HB0.out
      have c1 := cel10 HB1.out
      have c2 := cel10 HB2.out
      have c3 := cel10 HB3.out
      go_wp2_with fail
      have Rf80 := Own.rep (B := w8.heap.size) O3 (by omega)
      have Rf80 := Simulation.parts Rf80
      have Rf81 := Own.rep (B := w8.heap.size) O4 (by omega)
      have Rf81 := Simulation.parts Rf81
      refine (SameSimulation_impl (.slice u3_0a q_aA.Big.Set.Glues.length u3_0c) (.slice u3_1a q_aA.Big.Set.Tiles.length u3_1c) (.slice u3_2a q_aA.Big.Seed.Tiles.length u3_2c) (.slice u3_3a q_aA.Small.Set.Glues.length u3_3c) (.slice u3_4a q_aA.Small.Set.Tiles.length u3_4c) (.slice u3_5a q_aA.Small.Seed.Tiles.length u3_5c) (.slice u3_6a q_aA.Labels.length u3_6c) q_aA (.slice u4_0a q_aB.Big.Set.Glues.length u4_0c) (.slice u4_1a q_aB.Big.Set.Tiles.length u4_1c) (.slice u4_2a q_aB.Big.Seed.Tiles.length u4_2c) (.slice u4_3a q_aB.Small.Set.Glues.length u4_3c) (.slice u4_4a q_aB.Small.Set.Tiles.length u4_4c) (.slice u4_5a q_aB.Small.Seed.Tiles.length u4_5c) (.slice u4_6a q_aB.Labels.length u4_6c) q_aB w8 w8.heap.size (Nat.le_refl _) (Rf80.1) (Rf80.2.1) (Rf80.2.2.1) (Rf80.2.2.2.2.1) (Rf80.2.2.2.2.2.1) (Rf80.2.2.2.2.2.2.1) (Rf80.2.2.2.2.2.2.2.2.2) q_aA_p0 q_aA_p1 q_aA_p2 q_aA_n (Rf81.1) (Rf81.2.1) (Rf81.2.2.1) (Rf81.2.2.2.2.1) (Rf81.2.2.2.2.2.1) (Rf81.2.2.2.2.2.2.1) (Rf81.2.2.2.2.2.2.2.2.2) q_aB_p0 q_aB_p1 q_aB_p2 q_aB_n).mono ?_
      rintro e w9 ⟨rfl, hbw9⟩
      have hlew9 := hbw9.size
      have HB0 := Lib.hid (blk_on hbw9 HB0.out)
      have HB1 := Lib.hid (blk_on hbw9 HB1.out)
      have HB2 := Lib.hid (blk_on hbw9 HB2.out)
      have HB3 := Lib.hid (blk_on hbw9 HB3.out)
      have O1 := Own.below O1 hbw9 (by omega)
      have O2 := Own.below O2 hbw9 (by omega)
      have O3 := Own.below O3 hbw9 (by omega)
      have O4 := Own.below O4 hbw9 (by omega)
      have hz := hz.trans (hbw9.mono hz.size)
      clear hbw9
      go_upto_region 14 with fail
      clear c0 c1 c2 c3
      have hS : Below w9.heap.size w9 w9.drew := (Below.refl _ _).drew
      have d0 := bel10 HB0.out
      have d1 := bel10 HB1.out
      have d2 := bel10 HB2.out
      have d3 := bel10 HB3.out
      have hb0 := hS
      have hlew9drew := hb0.size
      have HB0 := Lib.hid (blk_on hb0 HB0.out)
      have HB1 := Lib.hid (blk_on hb0 HB1.out)
      have HB2 := Lib.hid (blk_on hb0 HB2.out)
      have HB3 := Lib.hid (blk_on hb0 HB3.out)
      have O1 := Own.below O1 hb0 (by omega)
      have O2 := Own.below O2 hb0 (by omega)
      have O3 := Own.below O3 hb0 (by omega)
      have O4 := Own.below O4 hb0 (by omega)
      have hz := hz.trans (hb0.mono hz.size)
      clear hb0
      go_region_held3 (fun w' => Below w9.heap.size w9 w') (exact hS) (first | (go_at_call 6; ((with_reducible refine (toSimulation_any q_aA_v0 q_aA_v1 q_aA_v2 q_aA_v3 q_aA_v4 q_aA_v5 q_aA_v6 q_aA w9.drew w.heap.size hz.size (Ty.rep_below _ q_aA_h0 hz) (Ty.rep_below _ q_aA_h1 hz) (Ty.rep_below _ q_aA_h2 hz) (Ty.rep_below _ q_aA_h3 hz) (Ty.rep_below _ q_aA_h4 hz) (Ty.rep_below _ q_aA_h5 hz) (Ty.rep_below _ q_aA_h6 hz) q_aA_p0 q_aA_p1 q_aA_p2 q_aA_n).mono ?_)); rintro e w10 ⟨⟨u5_0, u5_1, u5_2, u5_3, u5_4, u5_5, u5_6, rfl, OO⟩, hbw10⟩; have RR := Simulation.parts (Own.rep OO (Nat.le_refl _)); obtain ⟨u5_0a, u5_0c, rfl, _, _⟩ := Ty.form (RR.1); obtain ⟨u5_1a, u5_1c, rfl, _, _⟩ := Ty.form (RR.2.1); obtain ⟨u5_2a, u5_2c, rfl, _, _⟩ := Ty.form (RR.2.2.1); obtain ⟨u5_3a, u5_3c, rfl, _, _⟩ := Ty.form (RR.2.2.2.2.1); obtain ⟨u5_4a, u5_4c, rfl, _, _⟩ := Ty.form (RR.2.2.2.2.2.1); obtain ⟨u5_5a, u5_5c, rfl, _, _⟩ := Ty.form (RR.2.2.2.2.2.2.1); obtain ⟨u5_6a, u5_6c, rfl, _, _⟩ := Ty.form (RR.2.2.2.2.2.2.2.2.2); clear RR; have hlew10 := hbw10.size; have HB0 := Lib.hid (blk_on hbw10 HB0.out); have HB1 := Lib.hid (blk_on hbw10 HB1.out); have HB2 := Lib.hid (blk_on hbw10 HB2.out); have HB3 := Lib.hid (blk_on hbw10 HB3.out); have O1 := Own.below O1 hbw10 (by omega); have O2 := Own.below O2 hbw10 (by omega); have O3 := Own.below O3 hbw10 (by omega); have O4 := Own.below O4 hbw10 (by omega); have hz := hz.trans (hbw10.mono hz.size); have hS := hS.trans (hbw10.mono hS.size); clear hbw10; have O5 := OO; clear OO) | (go_at_call 8; have Rx10 := Own.rep (B := w10.heap.size) O3 (by omega); have Rx10 := Simulation.parts Rx10; have Ry10 := Own.rep (B := w10.heap.size) O5 (by omega); have Ry10 := Simulation.parts Ry10; ((with_reducible refine (eqSimulation_any (.slice u3_0a q_aA.Big.Set.Glues.length u3_0c) (.slice u3_1a q_aA.Big.Set.Tiles.length u3_1c) (.slice u3_2a q_aA.Big.Seed.Tiles.length u3_2c) (.slice u3_3a q_aA.Small.Set.Glues.length u3_3c) (.slice u3_4a q_aA.Small.Set.Tiles.length u3_4c) (.slice u3_5a q_aA.Small.Seed.Tiles.length u3_5c) (.slice u3_6a q_aA.Labels.length u3_6c) (.slice u5_0a q_aA.Big.Set.Glues.length u5_0c) (.slice u5_1a q_aA.Big.Set.Tiles.length u5_1c) (.slice u5_2a q_aA.Big.Seed.Tiles.length u5_2c) (.slice u5_3a q_aA.Small.Set.Glues.length u5_3c) (.slice u5_4a q_aA.Small.Set.Tiles.length u5_4c) (.slice u5_5a q_aA.Small.Seed.Tiles.length u5_5c) (.slice u5_6a q_aA.Labels.length u5_6c) q_aA w10 w10.heap.size (Nat.le_refl _) (Rx10.1) (Rx10.2.1) (Rx10.2.2.1) (Rx10.2.2.2.2.1) (Rx10.2.2.2.2.2.1) (Rx10.2.2.2.2.2.2.1) (Rx10.2.2.2.2.2.2.2.2.2) (Ry10.1) (Ry10.2.1) (Ry10.2.2.1) (Ry10.2.2.2.2.1) (Ry10.2.2.2.2.2.1) (Ry10.2.2.2.2.2.2.1) (Ry10.2.2.2.2.2.2.2.2.2)).mono ?_)); rintro e w11 ⟨rfl, hbw11⟩; have hlew11 := hbw11.size; have HB0 := Lib.hid (blk_on hbw11 HB0.out); have HB1 := Lib.hid (blk_on hbw11 HB1.out); have HB2 := Lib.hid (blk_on hbw11 HB2.out); have HB3 := Lib.hid (blk_on hbw11 HB3.out); have O1 := Own.below O1 hbw11 (by omega); have O2 := Own.below O2 hbw11 (by omega); have O3 := Own.below O3 hbw11 (by omega); have O4 := Own.below O4 hbw11 (by omega); have O5 := Own.below O5 hbw11 (by omega); have hz := hz.trans (hbw11.mono hz.size); have hS := hS.trans (hbw11.mono hS.size); clear hbw11))
      clear hS d0 d1 d2 d3
      go_upto_region 16 with fail
      have hS : Below w11.heap.size w11 w11.drew := (Below.refl _ _).drew
      have d0 := bel10 HB0.out
      have d1 := bel10 HB1.out
      have d2 := bel10 HB2.out
      have d3 := bel10 HB3.out
      have hb0 := hS
      have hlew11drew := hb0.size
      have HB0 := Lib.hid (blk_on hb0 HB0.out)
      have HB1 := Lib.hid (blk_on hb0 HB1.out)
      have HB2 := Lib.hid (blk_on hb0 HB2.out)
      have HB3 := Lib.hid (blk_on hb0 HB3.out)
      have O1 := Own.below O1 hb0 (by omega)
      have O2 := Own.below O2 hb0 (by omega)
      have O3 := Own.below O3 hb0 (by omega)
      have O4 := Own.below O4 hb0 (by omega)
      have O5 := Own.below O5 hb0 (by omega)
      have hz := hz.trans (hb0.mono hz.size)
      clear hb0
      go_region_held3 (fun w' => Below w11.heap.size w11 w') (exact hS) (first | (go_at_call 6; ((with_reducible refine (toSimulation_any q_aB_v0 q_aB_v1 q_aB_v2 q_aB_v3 q_aB_v4 q_aB_v5 q_aB_v6 q_aB w11.drew w.heap.size hz.size (Ty.rep_below _ q_aB_h0 hz) (Ty.rep_below _ q_aB_h1 hz) (Ty.rep_below _ q_aB_h2 hz) (Ty.rep_below _ q_aB_h3 hz) (Ty.rep_below _ q_aB_h4 hz) (Ty.rep_below _ q_aB_h5 hz) (Ty.rep_below _ q_aB_h6 hz) q_aB_p0 q_aB_p1 q_aB_p2 q_aB_n).mono ?_)); rintro e w12 ⟨⟨u6_0, u6_1, u6_2, u6_3, u6_4, u6_5, u6_6, rfl, OO⟩, hbw12⟩; have RR := Simulation.parts (Own.rep OO (Nat.le_refl _)); obtain ⟨u6_0a, u6_0c, rfl, _, _⟩ := Ty.form (RR.1); obtain ⟨u6_1a, u6_1c, rfl, _, _⟩ := Ty.form (RR.2.1); obtain ⟨u6_2a, u6_2c, rfl, _, _⟩ := Ty.form (RR.2.2.1); obtain ⟨u6_3a, u6_3c, rfl, _, _⟩ := Ty.form (RR.2.2.2.2.1); obtain ⟨u6_4a, u6_4c, rfl, _, _⟩ := Ty.form (RR.2.2.2.2.2.1); obtain ⟨u6_5a, u6_5c, rfl, _, _⟩ := Ty.form (RR.2.2.2.2.2.2.1); obtain ⟨u6_6a, u6_6c, rfl, _, _⟩ := Ty.form (RR.2.2.2.2.2.2.2.2.2); clear RR; have hlew12 := hbw12.size; have HB0 := Lib.hid (blk_on hbw12 HB0.out); have HB1 := Lib.hid (blk_on hbw12 HB1.out); have HB2 := Lib.hid (blk_on hbw12 HB2.out); have HB3 := Lib.hid (blk_on hbw12 HB3.out); have O1 := Own.below O1 hbw12 (by omega); have O2 := Own.below O2 hbw12 (by omega); have O3 := Own.below O3 hbw12 (by omega); have O4 := Own.below O4 hbw12 (by omega); have O5 := Own.below O5 hbw12 (by omega); have hz := hz.trans (hbw12.mono hz.size); have hS := hS.trans (hbw12.mono hS.size); clear hbw12; have O6 := OO; clear OO) | (go_at_call 8; have Rx12 := Own.rep (B := w12.heap.size) O4 (by omega); have Rx12 := Simulation.parts Rx12; have Ry12 := Own.rep (B := w12.heap.size) O6 (by omega); have Ry12 := Simulation.parts Ry12; ((with_reducible refine (eqSimulation_any (.slice u4_0a q_aB.Big.Set.Glues.length u4_0c) (.slice u4_1a q_aB.Big.Set.Tiles.length u4_1c) (.slice u4_2a q_aB.Big.Seed.Tiles.length u4_2c) (.slice u4_3a q_aB.Small.Set.Glues.length u4_3c) (.slice u4_4a q_aB.Small.Set.Tiles.length u4_4c) (.slice u4_5a q_aB.Small.Seed.Tiles.length u4_5c) (.slice u4_6a q_aB.Labels.length u4_6c) (.slice u6_0a q_aB.Big.Set.Glues.length u6_0c) (.slice u6_1a q_aB.Big.Set.Tiles.length u6_1c) (.slice u6_2a q_aB.Big.Seed.Tiles.length u6_2c) (.slice u6_3a q_aB.Small.Set.Glues.length u6_3c) (.slice u6_4a q_aB.Small.Set.Tiles.length u6_4c) (.slice u6_5a q_aB.Small.Seed.Tiles.length u6_5c) (.slice u6_6a q_aB.Labels.length u6_6c) q_aB w12 w12.heap.size (Nat.le_refl _) (Rx12.1) (Rx12.2.1) (Rx12.2.2.1) (Rx12.2.2.2.2.1) (Rx12.2.2.2.2.2.1) (Rx12.2.2.2.2.2.2.1) (Rx12.2.2.2.2.2.2.2.2.2) (Ry12.1) (Ry12.2.1) (Ry12.2.2.1) (Ry12.2.2.2.2.1) (Ry12.2.2.2.2.2.1) (Ry12.2.2.2.2.2.2.1) (Ry12.2.2.2.2.2.2.2.2.2)).mono ?_)); rintro e w13 ⟨rfl, hbw13⟩; have hlew13 := hbw13.size; have HB0 := Lib.hid (blk_on hbw13 HB0.out); have HB1 := Lib.hid (blk_on hbw13 HB1.out); have HB2 := Lib.hid (blk_on hbw13 HB2.out); have HB3 := Lib.hid (blk_on hbw13 HB3.out); have O1 := Own.below O1 hbw13 (by omega); have O2 := Own.below O2 hbw13 (by omega); have O3 := Own.below O3 hbw13 (by omega); have O4 := Own.below O4 hbw13 (by omega); have O5 := Own.below O5 hbw13 (by omega); have O6 := Own.below O6 hbw13 (by omega); have hz := hz.trans (hbw13.mono hz.size); have hS := hS.trans (hbw13.mono hS.size); clear hbw13))
      clear hS d0 d1 d2 d3
      go_wp2_with fail
      go_ret
      exact ⟨rfl, hz⟩
    · go_enter Try.func3, Try.ntmps3
      go_upto_region 1 with fail
      refine rebase ?_
      intro W1 hW _
      have hz : Below w.heap.size w W1 := by rw [hW]; go_grown
      have hb0 := at_of hW (push2_0 _ _ _)
      have c0 := box10 hb0
      have f0 := boxf hb0
      have B0 := Lib.hid hb0
      clear hb0
      have hb1 := at_of hW (push2_1 _ _ _)
      have c1 := box10 hb1
      have f1 := boxf hb1
      have B1 := Lib.hid hb1
      clear hb1
      have HW := Lib.hid hW
      clear hW
      have hs0 := fun z : Ext W1 => szSimulation_any q_aA_v0 q_aA_v1 q_aA_v2 q_aA_v3 q_aA_v4 q_aA_v5 q_aA_v6 q_aA (1048576 : Int) (by omega) (by omega) (W1.to z) w.heap.size (ext_end z hz).size (Ty.rep_below _ q_aA_h0 (ext_end z hz)) (Ty.rep_below _ q_aA_h1 (ext_end z hz)) (Ty.rep_below _ q_aA_h2 (ext_end z hz)) (Ty.rep_below _ q_aA_h3 (ext_end z hz)) (Ty.rep_below _ q_aA_h4 (ext_end z hz)) (Ty.rep_below _ q_aA_h5 (ext_end z hz)) (Ty.rep_below _ q_aA_h6 (ext_end z hz))
      simp only [szR_ok g0] at hs0
      have HS0 := Lib.hid hs0
      clear hs0
      have hs1 := fun z : Ext W1 => szSimulation_any q_aB_v0 q_aB_v1 q_aB_v2 q_aB_v3 q_aB_v4 q_aB_v5 q_aB_v6 q_aB (1048576 - (Simulation.cnt q_aA : Nat) : Int) (by omega) (by omega) (W1.to z) w.heap.size (ext_end z hz).size (Ty.rep_below _ q_aB_h0 (ext_end z hz)) (Ty.rep_below _ q_aB_h1 (ext_end z hz)) (Ty.rep_below _ q_aB_h2 (ext_end z hz)) (Ty.rep_below _ q_aB_h3 (ext_end z hz)) (Ty.rep_below _ q_aB_h4 (ext_end z hz)) (Ty.rep_below _ q_aB_h5 (ext_end z hz)) (Ty.rep_below _ q_aB_h6 (ext_end z hz))
      simp only [szR_no g1] at hs1
      have HS1 := Lib.hid hs1
      clear hs1
      go_wp2_with fail
      refine call_ext (HS0.out _) ?_
      intro y
      go_wp2_with fail
      refine call_ext (HS1.out _) ?_
      intro y
      go_wp2_with fail
      go_ret
      exact ⟨rfl, ext_end _ hz⟩
  · go_enter Try.func3, Try.ntmps3
    go_upto_region 1 with fail
    refine rebase ?_
    intro W1 hW _
    have hz : Below w.heap.size w W1 := by rw [hW]; go_grown
    have hb0 := at_of hW (push2_0 _ _ _)
    have c0 := box10 hb0
    have f0 := boxf hb0
    have B0 := Lib.hid hb0
    clear hb0
    have hb1 := at_of hW (push2_1 _ _ _)
    have c1 := box10 hb1
    have f1 := boxf hb1
    have B1 := Lib.hid hb1
    clear hb1
    have HW := Lib.hid hW
    clear hW
    have hs0 := fun z : Ext W1 => szSimulation_any q_aA_v0 q_aA_v1 q_aA_v2 q_aA_v3 q_aA_v4 q_aA_v5 q_aA_v6 q_aA (1048576 : Int) (by omega) (by omega) (W1.to z) w.heap.size (ext_end z hz).size (Ty.rep_below _ q_aA_h0 (ext_end z hz)) (Ty.rep_below _ q_aA_h1 (ext_end z hz)) (Ty.rep_below _ q_aA_h2 (ext_end z hz)) (Ty.rep_below _ q_aA_h3 (ext_end z hz)) (Ty.rep_below _ q_aA_h4 (ext_end z hz)) (Ty.rep_below _ q_aA_h5 (ext_end z hz)) (Ty.rep_below _ q_aA_h6 (ext_end z hz))
    simp only [szR_no g0] at hs0
    have HS0 := Lib.hid hs0
    clear hs0
    go_wp2_with fail
    refine call_ext (HS0.out _) ?_
    intro y
    go_wp2_with fail
    go_ret
    exact ⟨rfl, ext_end _ hz⟩
end Go.Proofs.Ytpaknhakpkfnnaa
