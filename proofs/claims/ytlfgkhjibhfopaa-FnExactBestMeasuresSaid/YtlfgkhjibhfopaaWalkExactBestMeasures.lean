/- For all arguments, the program's BestMeasures and the reference's BestMeasures give the same results: the law returns true, and its arguments read afterwards as before. No conditions. -/
import Derived.Test.YtlfgkhjibhfopaaMkMeasure
import Derived.Test.YtlfgkhjibhfopaaCBestMeasures
set_option linter.unusedSimpArgs false
set_option linter.unusedVariables false
set_option linter.all false
namespace Go.Proofs.Ytlfgkhjibhfopaa
open Go.RowKit Go.ChangeShapes Go.WideShapes Go.ChangeAt

set_option maxRecDepth 10000 in
set_option maxHeartbeats 4000000 in
theorem walk_fnExactBestMeasures (q_aList_v : Value) (q_aList : List Measure) (w : World) (q_aList_h : (Ty.slice 25 Measure.ty).rep w w.heap.size [q_aList_v] q_aList) :
    Calls Try.prog 13 #[q_aList_v] w fun e w' => e = .returned (.bool true) ∧ Below w.heap.size w w' := by
  obtain ⟨q_aList_a, q_aList_c, rfl, _, _⟩ := Ty.form q_aList_h
  by_cases g0 : ((q_aList.length : Nat) : Int) ≤ 1048576
  · have q_aList_n : q_aList.length ≤ 1048576 := by omega
    refine rebaseC ?_
    intro zz
    go_enter Try.func13, Try.ntmps13
    have hs0 := fun z : Ext w => szMeasureS_any (.slice q_aList_a q_aList.length q_aList_c) q_aList (1048576 : Int) (by omega) (by omega) (w.to z) w.heap.size z.below.size (Ty.rep_below _ q_aList_h z.below)
    simp only [szR_ok g0] at hs0
    have HS0 := Lib.hid hs0
    clear hs0
    go_wp2_with fail
    refine call_ext (HS0.out _) ?_
    intro y
    go_upto_region 5 with fail
    refine plainbase ?_
    intro w1 hW
    have hz : Below w.heap.size w w1 := by rw [hW]; exact Ext.below _
    have hz0 := hz.size
    clear hW HS0
    go_wp2_with fail
    refine (toMeasureS_any (.slice q_aList_a q_aList.length q_aList_c) q_aList w1 w.heap.size hz.size (Ty.rep_below _ q_aList_h hz) q_aList_n).mono ?_
    rintro e w2 ⟨⟨u1_0, rfl, OO⟩, hbw2⟩
    obtain ⟨u1_0a, u1_0c, rfl⟩ := Own.form OO
    have hlew2 := hbw2.size
    have hz := hz.trans (hbw2.mono hz.size)
    clear hbw2
    have O1 := OO
    clear OO
    go_wp2_with fail
    have Rf20 := Own.rep (B := w2.heap.size) O1 (by omega)
    refine (BestMeasures_spec (.slice u1_0a q_aList.length u1_0c) q_aList w2 w2.heap.size (Nat.le_refl _) Rf20 q_aList_n).mono ?_
    rintro e w3 ⟨⟨u2_0, rfl, OO⟩, hbw3⟩
    obtain ⟨u2_0a, u2_0c, rfl⟩ := Own.form OO
    have hlew3 := hbw3.size
    have O1 := Own.below O1 hbw3 (by omega)
    have hz := hz.trans (hbw3.mono hz.size)
    clear hbw3
    have O2 := OO
    clear OO
    go_upto_region 6 with fail
    go_wp2_with fail
    refine (toMeasureS_any (.slice q_aList_a q_aList.length q_aList_c) q_aList w3 w.heap.size hz.size (Ty.rep_below _ q_aList_h hz) q_aList_n).mono ?_
    rintro e w4 ⟨⟨u3_0, rfl, OO⟩, hbw4⟩
    obtain ⟨u3_0a, u3_0c, rfl⟩ := Own.form OO
    have hlew4 := hbw4.size
    have O1 := Own.below O1 hbw4 (by omega)
    have O2 := Own.below O2 hbw4 (by omega)
    have hz := hz.trans (hbw4.mono hz.size)
    clear hbw4
    have O3 := OO
    clear OO
    go_upto_region 7 with fail
    go_wp2_with fail
    have Rf40 := Own.rep (B := w4.heap.size) O3 (by omega)
    refine (BestMeasures_impl (.slice u3_0a q_aList.length u3_0c) q_aList w4 w4.heap.size (Nat.le_refl _) Rf40 q_aList_n).mono ?_
    rintro e w5 ⟨⟨u4_0, rfl, OO⟩, hbw5⟩
    obtain ⟨u4_0a, u4_0c, rfl⟩ := Own.form OO
    have hlew5 := hbw5.size
    have O1 := Own.below O1 hbw5 (by omega)
    have O2 := Own.below O2 hbw5 (by omega)
    have O3 := Own.below O3 hbw5 (by omega)
    have hz := hz.trans (hbw5.mono hz.size)
    clear hbw5
    have O4 := OO
    clear OO
    go_upto_region 8 with fail
    go_wp2_with fail
    have Rx5 := Own.rep (B := w5.heap.size) O4 (by omega)
    have Ry5 := Own.rep (B := w5.heap.size) O2 (by omega)
    refine (eqInt64S_any (.slice u4_0a (bestR q_aList).length u4_0c) (.slice u2_0a (bestR q_aList).length u2_0c) (bestR q_aList) w5 w5.heap.size (Nat.le_refl _) Rx5 Ry5).mono ?_
    rintro e w6 ⟨rfl, hbw6⟩
    have hlew6 := hbw6.size
    have O1 := Own.below O1 hbw6 (by omega)
    have O2 := Own.below O2 hbw6 (by omega)
    have O3 := Own.below O3 hbw6 (by omega)
    have O4 := Own.below O4 hbw6 (by omega)
    have hz := hz.trans (hbw6.mono hz.size)
    clear hbw6
    go_upto_region 10 with fail
    go_wp2_with fail
    refine (toMeasureS_any (.slice q_aList_a q_aList.length q_aList_c) q_aList w6 w.heap.size hz.size (Ty.rep_below _ q_aList_h hz) q_aList_n).mono ?_
    rintro e w7 ⟨⟨u5_0, rfl, OO⟩, hbw7⟩
    obtain ⟨u5_0a, u5_0c, rfl⟩ := Own.form OO
    have hlew7 := hbw7.size
    have O1 := Own.below O1 hbw7 (by omega)
    have O2 := Own.below O2 hbw7 (by omega)
    have O3 := Own.below O3 hbw7 (by omega)
    have O4 := Own.below O4 hbw7 (by omega)
    have hz := hz.trans (hbw7.mono hz.size)
    clear hbw7
    have O5 := OO
    clear OO
    go_wp2_with fail
    have Rx7 := Own.rep (B := w7.heap.size) O3 (by omega)
    have Ry7 := Own.rep (B := w7.heap.size) O5 (by omega)
    refine (eqMeasureS_any (.slice u3_0a q_aList.length u3_0c) (.slice u5_0a q_aList.length u5_0c) q_aList w7 w7.heap.size (Nat.le_refl _) Rx7 Ry7).mono ?_
    rintro e w8 ⟨rfl, hbw8⟩
    have hlew8 := hbw8.size
    have O1 := Own.below O1 hbw8 (by omega)
    have O2 := Own.below O2 hbw8 (by omega)
    have O3 := Own.below O3 hbw8 (by omega)
    have O4 := Own.below O4 hbw8 (by omega)
    have O5 := Own.below O5 hbw8 (by omega)
    have hz := hz.trans (hbw8.mono hz.size)
    clear hbw8
    go_upto_region 13 with fail
    go_wp2_with fail
    have hm3 := cnS_len (K := 7) Measure.cnE_le q_aList
    refine (Own.marked O3 (by omega) (fun F ho hn hF => markMeasureS_any (.slice u3_0a q_aList.length u3_0c) q_aList 1 F w8 ho hn hF (by omega) (by omega))).mono ?_
    rintro e w9 ⟨rfl, OO, hoff⟩
    have hlew9 := hoff.size
    have O1 := Own.off O1 hoff (by omega) (by omega)
    have O2 := Own.off O2 hoff (by omega) (by omega)
    have O4 := Own.off O4 hoff (by omega) (by omega)
    have O5 := Own.off O5 hoff (by omega) (by omega)
    have hz := hz.trans (hoff.below (by have := hz.size; omega) hz.size)
    have O3 := OO
    clear OO hoff hm3
    go_upto_region 14 with fail
    go_wp2_with fail
    have Rx9 := Own.rep (B := w9.heap.size) O4 (by omega)
    have Ry9 := Own.rep (B := w9.heap.size) O2 (by omega)
    refine (eqInt64S_any (.slice u4_0a (bestR q_aList).length u4_0c) (.slice u2_0a (bestR q_aList).length u2_0c) (bestR q_aList) w9 w9.heap.size (Nat.le_refl _) Rx9 Ry9).mono ?_
    rintro e w10 ⟨rfl, hbw10⟩
    have hlew10 := hbw10.size
    have O1 := Own.below O1 hbw10 (by omega)
    have O2 := Own.below O2 hbw10 (by omega)
    have O3 := Own.below O3 hbw10 (by omega)
    have O4 := Own.below O4 hbw10 (by omega)
    have O5 := Own.below O5 hbw10 (by omega)
    have hz := hz.trans (hbw10.mono hz.size)
    clear hbw10
    go_upto_region 17 with fail
    go_wp2_with fail
    have hm4 : cnS (fun _ => 1) (bestR q_aList) ≤ 1000000000000 := Nat.le_trans (cnS_len (K := 1) (fun _ => Nat.le_refl 1) (bestR q_aList)) (by have := bestR_len q_aList; omega)
    refine (Own.marked O4 (by omega) (fun F ho hn hF => markInt64S_any (.slice u4_0a (bestR q_aList).length u4_0c) (bestR q_aList) 1 F w10 ho hn hF (by omega) (by omega))).mono ?_
    rintro e w11 ⟨rfl, OO, hoff⟩
    have hlew11 := hoff.size
    have O1 := Own.off O1 hoff (by omega) (by omega)
    have O2 := Own.off O2 hoff (by omega) (by omega)
    have O3 := Own.off O3 hoff (by omega) (by omega)
    have O5 := Own.off O5 hoff (by omega) (by omega)
    have hz := hz.trans (hoff.below (by have := hz.size; omega) hz.size)
    have O4 := OO
    clear OO hoff hm4
    go_upto_region 19 with fail
    go_wp2_with fail
    have hm4 : cnS (fun _ => 1) (bestR q_aList) ≤ 1000000000000 := Nat.le_trans (cnS_len (K := 1) (fun _ => Nat.le_refl 1) (bestR q_aList)) (by have := bestR_len q_aList; omega)
    have R4_ := Own.rep (B := w11.heap.size) O4 (by omega)
    refine (heldInt64S_any (.slice u4_0a (bestR q_aList).length u4_0c) (bestR q_aList) 1 w11 w11.heap.size (Nat.le_refl _) R4_ (by omega) (by omega)).mono ?_
    rintro e w12 ⟨rfl, hbw12⟩
    have hlew12 := hbw12.size
    have O1 := Own.below O1 hbw12 (by omega)
    have O2 := Own.below O2 hbw12 (by omega)
    have O3 := Own.below O3 hbw12 (by omega)
    have O4 := Own.below O4 hbw12 (by omega)
    have O5 := Own.below O5 hbw12 (by omega)
    have hz := hz.trans (hbw12.mono hz.size)
    clear hbw12
    go_upto_region 24 with fail
    go_wp2_with fail
    refine (toMeasureS_any (.slice q_aList_a q_aList.length q_aList_c) q_aList w12 w.heap.size hz.size (Ty.rep_below _ q_aList_h hz) q_aList_n).mono ?_
    rintro e w13 ⟨⟨u6_0, rfl, OO⟩, hbw13⟩
    obtain ⟨u6_0a, u6_0c, rfl⟩ := Own.form OO
    have hlew13 := hbw13.size
    have O1 := Own.below O1 hbw13 (by omega)
    have O2 := Own.below O2 hbw13 (by omega)
    have O3 := Own.below O3 hbw13 (by omega)
    have O4 := Own.below O4 hbw13 (by omega)
    have O5 := Own.below O5 hbw13 (by omega)
    have hz := hz.trans (hbw13.mono hz.size)
    clear hbw13
    have O6 := OO
    clear OO
    go_wp2_with fail
    have Rf130 := Own.rep (B := w13.heap.size) O6 (by omega)
    refine (BestMeasures_impl (.slice u6_0a q_aList.length u6_0c) q_aList w13 w13.heap.size (Nat.le_refl _) Rf130 q_aList_n).mono ?_
    rintro e w14 ⟨⟨u7_0, rfl, OO⟩, hbw14⟩
    obtain ⟨u7_0a, u7_0c, rfl⟩ := Own.form OO
    have hlew14 := hbw14.size
    have O1 := Own.below O1 hbw14 (by omega)
    have O2 := Own.below O2 hbw14 (by omega)
    have O3 := Own.below O3 hbw14 (by omega)
    have O4 := Own.below O4 hbw14 (by omega)
    have O5 := Own.below O5 hbw14 (by omega)
    have O6 := Own.below O6 hbw14 (by omega)
    have hz := hz.trans (hbw14.mono hz.size)
    clear hbw14
    have O7 := OO
    clear OO
    go_upto_region 25 with fail
    go_wp2_with fail
    have Rx14 := Own.rep (B := w14.heap.size) O7 (by omega)
    have Ry14 := Own.rep (B := w14.heap.size) O2 (by omega)
    refine (eqInt64S_any (.slice u7_0a (bestR q_aList).length u7_0c) (.slice u2_0a (bestR q_aList).length u2_0c) (bestR q_aList) w14 w14.heap.size (Nat.le_refl _) Rx14 Ry14).mono ?_
    rintro e w15 ⟨rfl, hbw15⟩
    have hlew15 := hbw15.size
    have O1 := Own.below O1 hbw15 (by omega)
    have O2 := Own.below O2 hbw15 (by omega)
    have O3 := Own.below O3 hbw15 (by omega)
    have O4 := Own.below O4 hbw15 (by omega)
    have O5 := Own.below O5 hbw15 (by omega)
    have O6 := Own.below O6 hbw15 (by omega)
    have O7 := Own.below O7 hbw15 (by omega)
    have hz := hz.trans (hbw15.mono hz.size)
    clear hbw15
    go_upto_region 28 with fail
    go_wp2_with fail
    have hm4 : cnS (fun _ => 1) (bestR q_aList) ≤ 1000000000000 := Nat.le_trans (cnS_len (K := 1) (fun _ => Nat.le_refl 1) (bestR q_aList)) (by have := bestR_len q_aList; omega)
    have R4_ := Own.rep (B := w15.heap.size) O4 (by omega)
    refine (heldInt64S_any (.slice u4_0a (bestR q_aList).length u4_0c) (bestR q_aList) 1 w15 w15.heap.size (Nat.le_refl _) R4_ (by omega) (by omega)).mono ?_
    rintro e w16 ⟨rfl, hbw16⟩
    have hlew16 := hbw16.size
    have O1 := Own.below O1 hbw16 (by omega)
    have O2 := Own.below O2 hbw16 (by omega)
    have O3 := Own.below O3 hbw16 (by omega)
    have O4 := Own.below O4 hbw16 (by omega)
    have O5 := Own.below O5 hbw16 (by omega)
    have O6 := Own.below O6 hbw16 (by omega)
    have O7 := Own.below O7 hbw16 (by omega)
    have hz := hz.trans (hbw16.mono hz.size)
    clear hbw16
    go_wp2_with fail
    go_ret
    exact ⟨rfl, hz⟩
  · refine rebaseC ?_
    intro zz
    go_enter Try.func13, Try.ntmps13
    have hs0 := fun z : Ext w => szMeasureS_any (.slice q_aList_a q_aList.length q_aList_c) q_aList (1048576 : Int) (by omega) (by omega) (w.to z) w.heap.size z.below.size (Ty.rep_below _ q_aList_h z.below)
    simp only [szR_no g0] at hs0
    have HS0 := Lib.hid hs0
    clear hs0
    go_wp2_with fail
    refine call_ext (HS0.out _) ?_
    intro y
    go_wp2_with fail
    go_ret
    exact ⟨rfl, Ext.below _⟩
end Go.Proofs.Ytlfgkhjibhfopaa
