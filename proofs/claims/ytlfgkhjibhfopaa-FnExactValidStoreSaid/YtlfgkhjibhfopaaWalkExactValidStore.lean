/- For all arguments, the program's ValidStore and the reference's ValidStore give the same results: the law returns true, and its arguments read afterwards as before. No conditions. -/
import Derived.Test.YtlfgkhjibhfopaaFStore
set_option linter.unusedSimpArgs false
set_option linter.unusedVariables false
namespace Go.Proofs.Ytlfgkhjibhfopaa
open Go.RowKit Go.ChangeShapes Go.WideShapes Go.ChangeAt

set_option maxRecDepth 10000 in
set_option maxHeartbeats 4000000 in
theorem walk_fnExactValidStore (q_aS_v0 : Value) (q_aS : Store) (w : World) (q_aS_h0 : (Ty.slice 113 Log.ty).rep w w.heap.size [q_aS_v0] q_aS.Slots) (q_aS_p0 : InK .i64 q_aS.Active) :
    Calls Try.prog 9 #[.agg #[q_aS_v0, .int .i64 q_aS.Active]] w fun e w' => e = .returned (.bool true) ∧ Below w.heap.size w w' := by
  by_cases g0 : ((Store.cnt q_aS : Nat) : Int) ≤ 1048576
  · have q_aS_n : Store.cnt q_aS ≤ 1048576 := by omega
    go_enter Try.func9, Try.ntmps9
    go_upto_region 1 with fail
    refine rebase ?_
    intro W1 hW _
    have hz : Below w.heap.size w W1 := by rw [hW]; go_grown
    have hb0 := at_of hW (push1_0 _ _)
    have c0 := box2 hb0
    have f0 := boxf hb0
    have B0 := Lib.hid hb0
    clear hb0
    have HW := Lib.hid hW
    clear hW
    have hs0 := fun z : Ext W1 => szStore_any q_aS_v0 q_aS (1048576 : Int) (by omega) (by omega) (W1.to z) w.heap.size (ext_end z hz).size (Ty.rep_below _ q_aS_h0 (ext_end z hz))
    simp only [szR_ok g0] at hs0
    have HS0 := Lib.hid hs0
    clear hs0
    go_wp2_with fail
    refine call_ext (HS0.out _) ?_
    intro y
    go_upto_region 5 with fail
    refine plainbase ?_
    intro w1 hW
    have hz : Below w.heap.size w w1 := by rw [hW]; exact ext_end _ hz
    have HB0 := Lib.hid (at_of hW (box_at B0.out _))
    clear c0 f0 B0
    clear hW HW HS0
    have c0 := cel2 HB0.out
    go_wp2_with fail
    refine (toStore_any q_aS_v0 q_aS w1 w.heap.size hz.size (Ty.rep_below _ q_aS_h0 hz) q_aS_p0 q_aS_n).mono ?_
    rintro e w2 ⟨⟨u1_0, rfl, OO⟩, hbw2⟩
    have RR := Store.parts (Own.rep OO (Nat.le_refl _))
    obtain ⟨u1_0a, u1_0c, rfl, _, _⟩ := Ty.form (RR.1)
    clear RR
    have hlew2 := hbw2.size
    have HB0 := Lib.hid (blk_on hbw2 HB0.out)
    have hz := hz.trans (hbw2.mono hz.size)
    clear hbw2
    have O1 := OO
    clear OO
    go_wp2_with fail
    have Rf20 := Own.rep (B := w2.heap.size) O1 (by omega)
    have Rf20 := Store.parts Rf20
    refine (ValidStore_spec (.slice u1_0a q_aS.Slots.length u1_0c) q_aS w2 w2.heap.size (Nat.le_refl _) (Rf20.1) q_aS_p0 q_aS_n).mono ?_
    rintro e w3 ⟨rfl, hbw3⟩
    have hlew3 := hbw3.size
    have HB0 := Lib.hid (blk_on hbw3 HB0.out)
    have O1 := Own.below O1 hbw3 (by omega)
    have hz := hz.trans (hbw3.mono hz.size)
    clear hbw3
    go_upto_region 6 with fail
    clear c0
    have c0 := cel2 HB0.out
    go_wp2_with fail
    refine (toStore_any q_aS_v0 q_aS w3 w.heap.size hz.size (Ty.rep_below _ q_aS_h0 hz) q_aS_p0 q_aS_n).mono ?_
    rintro e w4 ⟨⟨u2_0, rfl, OO⟩, hbw4⟩
    have RR := Store.parts (Own.rep OO (Nat.le_refl _))
    obtain ⟨u2_0a, u2_0c, rfl, _, _⟩ := Ty.form (RR.1)
    clear RR
    have hlew4 := hbw4.size
    have HB0 := Lib.hid (blk_on hbw4 HB0.out)
    have O1 := Own.below O1 hbw4 (by omega)
    have hz := hz.trans (hbw4.mono hz.size)
    clear hbw4
    have O2 := OO
    clear OO
    go_upto_region 7 with fail
    clear c0
    refine plainbase ?_
    intro w5 hW
    have hbA : Below w4.heap.size w4 w5 := by rw [hW]; exact ((Below.refl _ _).alloc (by first | exact Nat.le_refl _ | (simp only [World.size_alloc]; omega)) _)
    have hlew5 := hbA.size
    have HB0 := Lib.hid (blk_on hbA HB0.out)
    have O1 := Own.below O1 hbA (by omega)
    have O2 := Own.below O2 hbA (by omega)
    have hz := hz.trans (hbA.mono hz.size)
    have HB1 := Lib.hid (at_of hW (push1_0 _ _))
    clear hbA hW
    have c0 := cel2 HB0.out
    have c1 := cel2 HB1.out
    go_wp2_with fail
    have Rf50 := Own.rep (B := w5.heap.size) O2 (by omega)
    have Rf50 := Store.parts Rf50
    refine (ValidStore_impl (.slice u2_0a q_aS.Slots.length u2_0c) q_aS w5 w5.heap.size (Nat.le_refl _) (Rf50.1) q_aS_p0 q_aS_n).mono ?_
    rintro e w6 ⟨rfl, hbw6⟩
    have hlew6 := hbw6.size
    have HB0 := Lib.hid (blk_on hbw6 HB0.out)
    have HB1 := Lib.hid (blk_on hbw6 HB1.out)
    have O1 := Own.below O1 hbw6 (by omega)
    have O2 := Own.below O2 hbw6 (by omega)
    have hz := hz.trans (hbw6.mono hz.size)
    clear hbw6
    go_upto_region 10 with fail
    clear c0 c1
    have hS : Below w6.heap.size w6 w6.drew := (Below.refl _ _).drew
    have d0 := bel2 HB0.out
    have d1 := bel2 HB1.out
    have hb0 := hS
    have hlew6drew := hb0.size
    have HB0 := Lib.hid (blk_on hb0 HB0.out)
    have HB1 := Lib.hid (blk_on hb0 HB1.out)
    have O1 := Own.below O1 hb0 (by omega)
    have O2 := Own.below O2 hb0 (by omega)
    have hz := hz.trans (hb0.mono hz.size)
    clear hb0
    go_region_held3 (fun w' => Below w6.heap.size w6 w') (exact hS) (first | (go_at_call 39; ((with_reducible refine (toStore_any q_aS_v0 q_aS w6.drew w.heap.size hz.size (Ty.rep_below _ q_aS_h0 hz) q_aS_p0 q_aS_n).mono ?_)); rintro e w7 ⟨⟨u3_0, rfl, OO⟩, hbw7⟩; have RR := Store.parts (Own.rep OO (Nat.le_refl _)); obtain ⟨u3_0a, u3_0c, rfl, _, _⟩ := Ty.form (RR.1); clear RR; have hlew7 := hbw7.size; have HB0 := Lib.hid (blk_on hbw7 HB0.out); have HB1 := Lib.hid (blk_on hbw7 HB1.out); have O1 := Own.below O1 hbw7 (by omega); have O2 := Own.below O2 hbw7 (by omega); have hz := hz.trans (hbw7.mono hz.size); have hS := hS.trans (hbw7.mono hS.size); clear hbw7; have O3 := OO; clear OO) | (go_at_call 30; have Rx7 := Own.rep (B := w7.heap.size) O2 (by omega); have Rx7 := Store.parts Rx7; have Ry7 := Own.rep (B := w7.heap.size) O3 (by omega); have Ry7 := Store.parts Ry7; ((with_reducible refine (eqStore_any (.slice u2_0a q_aS.Slots.length u2_0c) (.slice u3_0a q_aS.Slots.length u3_0c) q_aS w7 w7.heap.size (Nat.le_refl _) (Rx7.1) (Ry7.1)).mono ?_)); rintro e w8 ⟨rfl, hbw8⟩; have hlew8 := hbw8.size; have HB0 := Lib.hid (blk_on hbw8 HB0.out); have HB1 := Lib.hid (blk_on hbw8 HB1.out); have O1 := Own.below O1 hbw8 (by omega); have O2 := Own.below O2 hbw8 (by omega); have O3 := Own.below O3 hbw8 (by omega); have hz := hz.trans (hbw8.mono hz.size); have hS := hS.trans (hbw8.mono hS.size); clear hbw8))
    clear hS d0 d1
    go_wp2_with fail
    go_ret
    exact ⟨rfl, hz⟩
  · go_enter Try.func9, Try.ntmps9
    go_upto_region 1 with fail
    refine rebase ?_
    intro W1 hW _
    have hz : Below w.heap.size w W1 := by rw [hW]; go_grown
    have hb0 := at_of hW (push1_0 _ _)
    have c0 := box2 hb0
    have f0 := boxf hb0
    have B0 := Lib.hid hb0
    clear hb0
    have HW := Lib.hid hW
    clear hW
    have hs0 := fun z : Ext W1 => szStore_any q_aS_v0 q_aS (1048576 : Int) (by omega) (by omega) (W1.to z) w.heap.size (ext_end z hz).size (Ty.rep_below _ q_aS_h0 (ext_end z hz))
    simp only [szR_no g0] at hs0
    have HS0 := Lib.hid hs0
    clear hs0
    go_wp2_with fail
    refine call_ext (HS0.out _) ?_
    intro y
    go_wp2_with fail
    go_ret
    exact ⟨rfl, ext_end _ hz⟩
end Go.Proofs.Ytlfgkhjibhfopaa
