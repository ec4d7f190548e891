/- For all arguments, the program's ChecksumOf and the reference's ChecksumOf give the same results: the law returns true, and its arguments read afterwards as before. No conditions. -/
import Derived.Test.YtlfgkhjibhfopaaFChecksumOf
set_option linter.unusedSimpArgs false
set_option linter.unusedVariables false
namespace Go.Proofs.Ytlfgkhjibhfopaa
open Go.RowKit Go.ChangeShapes Go.WideShapes Go.ChangeAt

set_option maxRecDepth 10000 in
set_option maxHeartbeats 4000000 in
theorem walk_fnExactChecksumOf (q_aB_v : Value) (q_aB : List Int) (w : World) (q_aB_h : (Ty.slice 5 (Ty.int .u8)).rep w w.heap.size [q_aB_v] q_aB) :
    Calls Try.prog 4 #[q_aB_v] w fun e w' => e = .returned (.bool true) ∧ Below w.heap.size w w' := by
  obtain ⟨q_aB_a, q_aB_c, rfl, _, _⟩ := Ty.form q_aB_h
  by_cases g0 : q_aB.length ≤ 1048576
  · have q_aB_n : q_aB.length ≤ 1048576 := by omega
    refine rebaseC ?_
    intro zz
    go_enter Try.func4, Try.ntmps4
    go_upto_region 3 with fail
    refine plainbase ?_
    intro w1 hW
    have hz : Below w.heap.size w w1 := by rw [hW]; exact Ext.below _
    clear hW
    go_wp2_with fail
    refine (toByteS_any (.slice q_aB_a q_aB.length q_aB_c) q_aB w1 w.heap.size hz.size (Ty.rep_below _ q_aB_h hz) q_aB_n).mono ?_
    rintro e w2 ⟨⟨u1_0, rfl, OO⟩, hbw2⟩
    obtain ⟨u1_0a, u1_0c, rfl⟩ := Own.form OO
    have hlew2 := hbw2.size
    have hz := hz.trans (hbw2.mono hz.size)
    clear hbw2
    have O1 := OO
    clear OO
    go_wp2_with fail
    have Rf20 := Own.rep (B := w2.heap.size) O1 (by omega)
    refine (ChecksumOf_spec (.slice u1_0a q_aB.length u1_0c) q_aB w2 w2.heap.size (Nat.le_refl _) Rf20 q_aB_n).mono ?_
    rintro e w3 ⟨rfl, hbw3⟩
    have hlew3 := hbw3.size
    have O1 := Own.below O1 hbw3 (by omega)
    have hz := hz.trans (hbw3.mono hz.size)
    clear hbw3
    go_upto_region 4 with fail
    go_wp2_with fail
    refine (toByteS_any (.slice q_aB_a q_aB.length q_aB_c) q_aB w3 w.heap.size hz.size (Ty.rep_below _ q_aB_h hz) q_aB_n).mono ?_
    rintro e w4 ⟨⟨u2_0, rfl, OO⟩, hbw4⟩
    obtain ⟨u2_0a, u2_0c, rfl⟩ := Own.form OO
    have hlew4 := hbw4.size
    have O1 := Own.below O1 hbw4 (by omega)
    have hz := hz.trans (hbw4.mono hz.size)
    clear hbw4
    have O2 := OO
    clear OO
    go_upto_region 5 with fail
    go_wp2_with fail
    have Rf40 := Own.rep (B := w4.heap.size) O2 (by omega)
    refine (ChecksumOf_impl (.slice u2_0a q_aB.length u2_0c) q_aB w4 w4.heap.size (Nat.le_refl _) Rf40 q_aB_n).mono ?_
    rintro e w5 ⟨rfl, hbw5⟩
    have hlew5 := hbw5.size
    have O1 := Own.below O1 hbw5 (by omega)
    have O2 := Own.below O2 hbw5 (by omega)
    have hz := hz.trans (hbw5.mono hz.size)
    clear hbw5
    go_upto_region 8 with fail
    go_wp2_with fail
    refine (toByteS_any (.slice q_aB_a q_aB.length q_aB_c) q_aB w5 w.heap.size hz.size (Ty.rep_below _ q_aB_h hz) q_aB_n).mono ?_
    rintro e w6 ⟨⟨u3_0, rfl, OO⟩, hbw6⟩
    obtain ⟨u3_0a, u3_0c, rfl⟩ := Own.form OO
    have hlew6 := hbw6.size
    have O1 := Own.below O1 hbw6 (by omega)
    have O2 := Own.below O2 hbw6 (by omega)
    have hz := hz.trans (hbw6.mono hz.size)
    clear hbw6
    have O3 := OO
    clear OO
    go_wp2_with fail
    have Rx6 := Own.rep (B := w6.heap.size) O2 (by omega)
    have Ry6 := Own.rep (B := w6.heap.size) O3 (by omega)
    refine (eqByteS_any (.slice u2_0a q_aB.length u2_0c) (.slice u3_0a q_aB.length u3_0c) q_aB w6 w6.heap.size (Nat.le_refl _) Rx6 Ry6).mono ?_
    rintro e w7 ⟨rfl, hbw7⟩
    have hlew7 := hbw7.size
    have O1 := Own.below O1 hbw7 (by omega)
    have O2 := Own.below O2 hbw7 (by omega)
    have O3 := Own.below O3 hbw7 (by omega)
    have hz := hz.trans (hbw7.mono hz.size)
    clear hbw7
    go_wp2_with fail
    go_ret
    exact ⟨rfl, hz⟩
  · refine rebaseC ?_
    intro zz
    go_enter Try.func4, Try.ntmps4
    go_wp2_with fail
    go_ret
    exact ⟨rfl, Ext.below _⟩
end Go.Proofs.Ytlfgkhjibhfopaa
