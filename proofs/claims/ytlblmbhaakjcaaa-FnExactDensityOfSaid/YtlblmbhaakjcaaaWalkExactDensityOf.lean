/- For all arguments, the program's DensityOf and the reference's DensityOf give the same results: the law returns true, and its arguments read afterwards as before. No conditions. -/
import Derived.Test.YtlblmbhaakjcaaaCDensityOf
set_option linter.unusedSimpArgs false
set_option linter.unusedVariables false
set_option linter.all false
namespace Go.Proofs.Ytlblmbhaakjcaaa
open Go.RowKit Go.ChangeShapes Go.WideShapes Go.ChangeAt

set_option maxRecDepth 10000 in
set_option maxHeartbeats 4000000 in
theorem walk_fnExactDensityOf (q_aA_v0 : Value) (q_aA : Assembly) (w : World) (q_aA_h0 : (Ty.slice 67 Placed.ty).rep w w.heap.size [q_aA_v0] q_aA.Tiles) :
    Calls Try.prog 3 #[.agg #[q_aA_v0]] w fun e w' => e = .returned (.bool true) ∧ Below w.heap.size w w' := by
  by_cases g0 : ((Assembly.cnt q_aA : Nat) : Int) ≤ 1048576
  · have q_aA_n : Assembly.cnt q_aA ≤ 1048576 := by omega
    go_enter Try.func3, Try.ntmps3
    go_upto_region 1 with fail
    refine rebase ?_
    intro W1 hW _
    have hz : Below w.heap.size w W1 := by rw [hW]; go_grown
    have hb0 := at_of hW (push1_0 _ _)
    have c0 := box1 hb0
    have f0 := boxf hb0
    have B0 := Lib.hid hb0
    clear hb0
    have HW := Lib.hid hW
    clear hW
    have hs0 := fun z : Ext W1 => szAssembly_any q_aA_v0 q_aA (1048576 : Int) (by omega) (by omega) (W1.to z) w.heap.size (ext_end z hz).size (Ty.rep_below _ q_aA_h0 (ext_end z hz))
    simp only [szR_ok g0] at hs0
    have HS0 := Lib.hid hs0
    clear hs0
    go_wp2_with fail
    refine call_ext (HS0.out _) ?_
    intro y
    go_upto_region 5 with fail
    refine plainbase ?_
    intro w1 hW
    have hz : Below w.heap.size w w1 := by rw [hW]; exact ext_end _ hz
    have hz0 := hz.size
    have HB0 := Lib.hid (at_of hW (box_at B0.out _))
    have hbl0 := blk_lt HB0.out
    clear c0 f0 B0
    clear hW HW HS0
    have c0 := cel1 HB0.out
    go_wp2_with fail
    refine (toAssembly_any q_aA_v0 q_aA w1 w.heap.size hz.size (Ty.rep_below _ q_aA_h0 hz) q_aA_n).mono ?_
    rintro e w2 ⟨⟨u1_0, rfl, OO⟩, hbw2⟩
    have RR := Assembly.parts (Own.rep OO (Nat.le_refl _))
    obtain ⟨u1_0a, u1_0c, rfl, _, _⟩ := Ty.form (RR)
    clear RR
    have hlew2 := hbw2.size
    have HB0 := Lib.hid (blk_on hbw2 HB0.out)
    have hz := hz.trans (hbw2.mono hz.size)
    clear hbw2
    have O1 := OO
    clear OO
    go_wp2_with fail
    have Rf20 := Own.rep (B := w2.heap.size) O1 (by omega)
    have Rf20 := Assembly.parts Rf20
    refine (DensityOf_spec (.slice u1_0a q_aA.Tiles.length u1_0c) q_aA w2 w2.heap.size (Nat.le_refl _) (Rf20) q_aA_n).mono ?_
    rintro e w3 ⟨rfl, hbw3⟩
    have hlew3 := hbw3.size
    have HB0 := Lib.hid (blk_on hbw3 HB0.out)
    have O1 := Own.below O1 hbw3 (by omega)
    have hz := hz.trans (hbw3.mono hz.size)
    clear hbw3
    go_upto_region 6 with fail
    clear c0
    refine plainbase ?_
    intro w4 hW
    have hbA : Below w3.heap.size w3 w4 := by rw [hW]; exact ((Below.refl _ _).alloc (by first | exact Nat.le_refl _ | (simp only [World.size_alloc]; omega)) _)
    have hlew4 := hbA.size
    have HB0 := Lib.hid (blk_on hbA HB0.out)
    have O1 := Own.below O1 hbA (by omega)
    have hz := hz.trans (hbA.mono hz.size)
    have HB1 := Lib.hid (at_of hW (push1_0 _ _))
    have hbl1 := blk_lt HB1.out
    clear hbA hW
    have c0 := cel1 HB0.out
    have c1 := cel2 HB1.out
    go_wp2_with fail
    refine (toAssembly_any q_aA_v0 q_aA w4 w.heap.size hz.size (Ty.rep_below _ q_aA_h0 hz) q_aA_n).mono ?_
    rintro e w5 ⟨⟨u2_0, rfl, OO⟩, hbw5⟩
    have RR := Assembly.parts (Own.rep OO (Nat.le_refl _))
    obtain ⟨u2_0a, u2_0c, rfl, _, _⟩ := Ty.form (RR)
    clear RR
    have hlew5 := hbw5.size
    have HB0 := Lib.hid (blk_on hbw5 HB0.out)
    have HB1 := Lib.hid (blk_on hbw5 HB1.out)
    have O1 := Own.below O1 hbw5 (by omega)
    have hz := hz.trans (hbw5.mono hz.size)
    clear hbw5
    have O2 := OO
    clear OO
    go_upto_region 7 with fail
    clear c0 c1
    refine plainbase ?_
    intro w6 hW
    have hbA : Below w5.heap.size w5 w6 := by rw [hW]; exact ((Below.refl _ _).alloc (by first | exact Nat.le_refl _ | (simp only [World.size_alloc]; omega)) _)
    have hlew6 := hbA.size
    have HB0 := Lib.hid (blk_on hbA HB0.out)
    have HB1 := Lib.hid (blk_on hbA HB1.out)
    have O1 := Own.below O1 hbA (by omega)
    have O2 := Own.below O2 hbA (by omega)
    have hz := hz.trans (hbA.mono hz.size)
    have HB2 := Lib.hid (at_of hW (push1_0 _ _))
    have hbl2 := blk_lt HB2.out
    clear hbA hW
    have c0 := cel1 HB0.out
    have c1 := cel2 HB1.out
    have c2 := cel1 HB2.out
    go_wp2_with fail
    have Rf60 := Own.rep (B := w6.heap.size) O2 (by omega)
    have Rf60 := Assembly.parts Rf60
    refine (DensityOf_impl (.slice u2_0a q_aA.Tiles.length u2_0c) q_aA w6 w6.heap.size (Nat.le_refl _) (Rf60) q_aA_n).mono ?_
    rintro e w7 ⟨rfl, hbw7⟩
    have hlew7 := hbw7.size
    have HB0 := Lib.hid (blk_on hbw7 HB0.out)
    have HB1 := Lib.hid (blk_on hbw7 HB1.out)
    have HB2 := Lib.hid (blk_on hbw7 HB2.out)
    have O1 := Own.below O1 hbw7 (by omega)
    have O2 := Own.below O2 hbw7 (by omega)
    have hz := hz.trans (hbw7.mono hz.size)
    clear hbw7
    go_upto_region 8 with fail
    clear c0 c1 c2
    refine plainbase ?_
    intro w8 hW
    have hbA : Below w7.heap.size w7 w8 := by rw [hW]; exact ((Below.refl _ _).alloc (by first | exact Nat.le_refl _ | (simp only [World.size_alloc]; omega)) _)
    have hlew8 := hbA.size
    have HB0 := Lib.hid (blk_on hbA HB0.out)
    have HB1 := Lib.hid (blk_on hbA HB1.out)
    have HB2 := Lib.hid (blk_on hbA HB2.out)
    have O1 := Own.below O1 hbA (by omega)
    have O2 := Own.below O2 hbA (by omega)
    have hz := hz.trans (hbA.mono hz.size)
    have HB3 := Lib.hid (at_of hW (push1_0 _ _))
    have hbl3 := blk_lt HB3.out
    clear hbA hW
    have c0 := cel1 HB0.out
    have c1 := cel2 HB1.out
    have c2 := cel1 HB2.out
    have c3 := cel2 HB3.out
    go_wp2_with fail
    refine (eqFrac_any (DensityOfR q_aA) w8).mono ?_
    rintro e w9 ⟨rfl, hbw9⟩
    have hlew9 := hbw9.size
    have HB0 := Lib.hid (blk_on hbw9 HB0.out)
    have HB1 := Lib.hid (blk_on hbw9 HB1.out)
    have HB2 := Lib.hid (blk_on hbw9 HB2.out)
    have HB3 := Lib.hid (blk_on hbw9 HB3.out)
    have O1 := Own.below O1 hbw9 (by omega)
    have O2 := Own.below O2 hbw9 (by omega)
    have hz := hz.trans (hbw9.mono hz.size)
    clear hbw9
    go_upto_region 10 with fail
    clear c0 c1 c2 c3
    have hS : Below w9.heap.size w9 w9.drew := (Below.refl _ _).drew
    have d0 := bel1 HB0.out
    have d1 := bel2 HB1.out
    have d2 := bel1 HB2.out
    have d3 := bel2 HB3.out
    have hb0 := hS
    have hlew9drew := hb0.size
    have HB0 := Lib.hid (blk_on hb0 HB0.out)
    have HB1 := Lib.hid (blk_on hb0 HB1.out)
    have HB2 := Lib.hid (blk_on hb0 HB2.out)
    have HB3 := Lib.hid (blk_on hb0 HB3.out)
    have O1 := Own.below O1 hb0 (by omega)
    have O2 := Own.below O2 hb0 (by omega)
    have hz := hz.trans (hb0.mono hz.size)
    clear hb0
    go_region_held3 (fun w' => Below w9.heap.size w9 w') (first | exact hS | exact Below.alloc hS (by have := hS.size; omega) _) (first | (go_at_call 7; ((with_reducible refine (toAssembly_any q_aA_v0 q_aA w9.drew w.heap.size hz.size (Ty.rep_below _ q_aA_h0 hz) q_aA_n).mono ?_)); rintro e w10 ⟨⟨u3_0, rfl, OO⟩, hbw10⟩; have RR := Assembly.parts (Own.rep OO (Nat.le_refl _)); obtain ⟨u3_0a, u3_0c, rfl, _, _⟩ := Ty.form (RR); clear RR; have hlew10 := hbw10.size; have HB0 := Lib.hid (blk_on hbw10 HB0.out); have HB1 := Lib.hid (blk_on hbw10 HB1.out); have HB2 := Lib.hid (blk_on hbw10 HB2.out); have HB3 := Lib.hid (blk_on hbw10 HB3.out); have O1 := Own.below O1 hbw10 (by omega); have O2 := Own.below O2 hbw10 (by omega); have hz := hz.trans (hbw10.mono hz.size); have hS := hS.trans (hbw10.mono hS.size); clear hbw10; have O3 := OO; clear OO) | (go_at_call 10; have Rx10 := Own.rep (B := w10.heap.size) O2 (by omega); have Rx10 := Assembly.parts Rx10; have Ry10 := Own.rep (B := w10.heap.size) O3 (by omega); have Ry10 := Assembly.parts Ry10; ((with_reducible refine (eqAssembly_any (.slice u2_0a q_aA.Tiles.length u2_0c) (.slice u3_0a q_aA.Tiles.length u3_0c) q_aA w10 w10.heap.size (Nat.le_refl _) (Rx10) (Ry10)).mono ?_)); rintro e w11 ⟨rfl, hbw11⟩; have hlew11 := hbw11.size; have HB0 := Lib.hid (blk_on hbw11 HB0.out); have HB1 := Lib.hid (blk_on hbw11 HB1.out); have HB2 := Lib.hid (blk_on hbw11 HB2.out); have HB3 := Lib.hid (blk_on hbw11 HB3.out); have O1 := Own.below O1 hbw11 (by omega); have O2 := Own.below O2 hbw11 (by omega); have O3 := Own.below O3 hbw11 (by omega); have hz := hz.trans (hbw11.mono hz.size); have hS := hS.trans (hbw11.mono hS.size); clear hbw11))
    clear hS d0 d1 d2 d3
    go_wp2_with fail
    go_ret
    exact ⟨rfl, hz⟩
  · go_enter Try.func3, Try.ntmps3
    go_upto_region 1 with fail
    refine rebase ?_
    intro W1 hW _
    have hz : Below w.heap.size w W1 := by rw [hW]; go_grown
    have hb0 := at_of hW (push1_0 _ _)
    have c0 := box1 hb0
    have f0 := boxf hb0
    have B0 := Lib.hid hb0
    clear hb0
    have HW := Lib.hid hW
    clear hW
    have hs0 := fun z : Ext W1 => szAssembly_any q_aA_v0 q_aA (1048576 : Int) (by omega) (by omega) (W1.to z) w.heap.size (ext_end z hz).size (Ty.rep_below _ q_aA_h0 (ext_end z hz))
    simp only [szR_no g0] at hs0
    have HS0 := Lib.hid hs0
    clear hs0
    go_wp2_with fail
    refine call_ext (HS0.out _) ?_
    intro y
    go_wp2_with fail
    go_ret
    exact ⟨rfl, ext_end _ hz⟩
end Go.Proofs.Ytlblmbhaakjcaaa
