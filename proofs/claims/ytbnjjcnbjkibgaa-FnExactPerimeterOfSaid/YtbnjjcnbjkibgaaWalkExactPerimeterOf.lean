/- For all arguments, the program's PerimeterOf and the reference's PerimeterOf give the same results: the law returns true, and its arguments read afterwards as before. No conditions. -/
import Derived.Test.YtbnjjcnbjkibgaaCPerimeterOf
set_option linter.unusedSimpArgs false
set_option linter.unusedVariables false
set_option linter.all false
namespace Go.Proofs.Ytbnjjcnbjkibgaa
open Go.RowKit Go.ChangeShapes Go.WideShapes Go.ChangeAt

set_option maxRecDepth 10000 in
set_option maxHeartbeats 4000000 in
theorem walk_fnExactPerimeterOf (q_aShape_v : Value) (q_aShape : List Point) (w : World) (q_aShape_h : (Ty.slice 135 Point.ty).rep w w.heap.size [q_aShape_v] q_aShape) :
    Calls Try.prog 3 #[q_aShape_v] w fun e w' => e = .returned (.bool true) ∧ Below w.heap.size w w' := by
  obtain ⟨q_aShape_a, q_aShape_c, rfl, _, _⟩ := Ty.form q_aShape_h
  by_cases g0 : ((q_aShape.length : Nat) : Int) ≤ 1048576
  · have q_aShape_n : q_aShape.length ≤ 1048576 := by omega
    refine rebaseC ?_
    intro zz
    go_enter Try.func3, Try.ntmps3
    have hs0 := fun z : Ext w => szPointS_any (.slice q_aShape_a q_aShape.length q_aShape_c) q_aShape (1048576 : Int) (by omega) (by omega) (w.to z) w.heap.size z.below.size (Ty.rep_below _ q_aShape_h z.below)
    simp only [szR_ok g0] at hs0
    have HS0 := Lib.hid hs0
    clear hs0
    go_wp2_with fail
    refine call_ext (HS0.out _) ?_
    intro y
    go_upto_region 5 with fail
    refine plainbase ?_
    intro w1 hW
    have hz : Below w.heap.size w w1 := by rw [hW]; exact Ext.below _
    have hz0 := hz.size
    clear hW HS0
    go_wp2_with fail
    refine (toPointS_any (.slice q_aShape_a q_aShape.length q_aShape_c) q_aShape w1 w.heap.size hz.size (Ty.rep_below _ q_aShape_h hz) q_aShape_n).mono ?_
    rintro e w2 ⟨⟨u1_0, rfl, OO⟩, hbw2⟩
    obtain ⟨u1_0a, u1_0c, rfl⟩ := Own.form OO
    have hlew2 := hbw2.size
    have hz := hz.trans (hbw2.mono hz.size)
    clear hbw2
    have O1 := OO
    clear OO
    go_wp2_with fail
    have Rf20 := Own.rep (B := w2.heap.size) O1 (by omega)
    refine (PerimeterOf_spec (.slice u1_0a q_aShape.length u1_0c) q_aShape w2 w2.heap.size (Nat.le_refl _) Rf20 q_aShape_n).mono ?_
    rintro e w3 ⟨rfl, hbw3⟩
    have hlew3 := hbw3.size
    have O1 := Own.below O1 hbw3 (by omega)
    have hz := hz.trans (hbw3.mono hz.size)
    clear hbw3
    go_upto_region 6 with fail
    go_wp2_with fail
    refine (toPointS_any (.slice q_aShape_a q_aShape.length q_aShape_c) q_aShape w3 w.heap.size hz.size (Ty.rep_below _ q_aShape_h hz) q_aShape_n).mono ?_
    rintro e w4 ⟨⟨u2_0, rfl, OO⟩, hbw4⟩
    obtain ⟨u2_0a, u2_0c, rfl⟩ := Own.form OO
    have hlew4 := hbw4.size
    have O1 := Own.below O1 hbw4 (by omega)
    have hz := hz.trans (hbw4.mono hz.size)
    clear hbw4
    have O2 := OO
    clear OO
    go_upto_region 7 with fail
    go_wp2_with fail
    have Rf40 := Own.rep (B := w4.heap.size) O2 (by omega)
    refine (PerimeterOf_impl (.slice u2_0a q_aShape.length u2_0c) q_aShape w4 w4.heap.size (Nat.le_refl _) Rf40 q_aShape_n).mono ?_
    rintro e w5 ⟨rfl, hbw5⟩
    have hlew5 := hbw5.size
    have O1 := Own.below O1 hbw5 (by omega)
    have O2 := Own.below O2 hbw5 (by omega)
    have hz := hz.trans (hbw5.mono hz.size)
    clear hbw5
    go_upto_region 10 with fail
    go_wp2_with fail
    refine (toPointS_any (.slice q_aShape_a q_aShape.length q_aShape_c) q_aShape w5 w.heap.size hz.size (Ty.rep_below _ q_aShape_h hz) q_aShape_n).mono ?_
    rintro e w6 ⟨⟨u3_0, rfl, OO⟩, hbw6⟩
    obtain ⟨u3_0a, u3_0c, rfl⟩ := Own.form OO
    have hlew6 := hbw6.size
    have O1 := Own.below O1 hbw6 (by omega)
    have O2 := Own.below O2 hbw6 (by omega)
    have hz := hz.trans (hbw6.mono hz.size)
    clear hbw6
    have O3 := OO
    clear OO
    go_wp2_with fail
    have Rx6 := Own.rep (B := w6.heap.size) O2 (by omega)
    have Ry6 := Own.rep (B := w6.heap.size) O3 (by omega)
    refine (eqPointS_any (.slice u2_0a q_aShape.length u2_0c) (.slice u3_0a q_aShape.length u3_0c) q_aShape w6 w6.heap.size (Nat.le_refl _) Rx6 Ry6).mono ?_
    rintro e w7 ⟨rfl, hbw7⟩
    have hlew7 := hbw7.size
    have O1 := Own.below O1 hbw7 (by omega)
    have O2 := Own.below O2 hbw7 (by omega)
    have O3 := Own.below O3 hbw7 (by omega)
    have hz := hz.trans (hbw7.mono hz.size)
    clear hbw7
    go_wp2_with fail
    go_ret
    exact ⟨rfl, hz⟩
  · refine rebaseC ?_
    intro zz
    go_enter Try.func3, Try.ntmps3
    have hs0 := fun z : Ext w => szPointS_any (.slice q_aShape_a q_aShape.length q_aShape_c) q_aShape (1048576 : Int) (by omega) (by omega) (w.to z) w.heap.size z.below.size (Ty.rep_below _ q_aShape_h z.below)
    simp only [szR_no g0] at hs0
    have HS0 := Lib.hid hs0
    clear hs0
    go_wp2_with fail
    refine call_ext (HS0.out _) ?_
    intro y
    go_wp2_with fail
    go_ret
    exact ⟨rfl, Ext.below _⟩
end Go.Proofs.Ytbnjjcnbjkibgaa
