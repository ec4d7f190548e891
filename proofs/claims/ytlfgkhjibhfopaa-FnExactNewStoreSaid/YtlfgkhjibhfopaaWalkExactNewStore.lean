/- For all arguments, the program's NewStore and the reference's NewStore give the same results: the law returns true, and its arguments read afterwards as before. No conditions. -/
import Derived.Test.YtlfgkhjibhfopaaFNewStore
set_option linter.unusedSimpArgs false
set_option linter.unusedVariables false
namespace Go.Proofs.Ytlfgkhjibhfopaa
open Go.RowKit Go.ChangeShapes Go.WideShapes Go.ChangeAt

set_option maxRecDepth 10000 in
set_option maxHeartbeats 4000000 in
theorem walk_fnExactNewStore  (w : World) :
    Calls Try.prog 7 #[] w fun e w' => e = .returned (.bool true) ∧ Below w.heap.size w w' := by
  refine rebaseC ?_
  intro zz
  go_enter Try.func7, Try.ntmps7
  go_upto_region 1 with fail
  refine plainbase ?_
  intro w1 hW
  have hz : Below w.heap.size w w1 := by rw [hW]; exact Ext.below _
  have hz0 := hz.size
  clear hW
  go_wp2_with fail
  refine (NewStore_spec  w1 w1.heap.size (Nat.le_refl _) ).mono ?_
  rintro e w2 ⟨⟨u1_0, rfl, OO⟩, hbw2⟩
  have RR := Store.parts (Own.rep OO (Nat.le_refl _))
  obtain ⟨u1_0a, u1_0c, rfl, _, _⟩ := Ty.form (RR.1)
  clear RR
  have hlew2 := hbw2.size
  have hz := hz.trans (hbw2.mono hz.size)
  clear hbw2
  have O1 := OO
  clear OO
  go_upto_region 2 with fail
  refine plainbase ?_
  intro w3 hW
  have hbA : Below w2.heap.size w2 w3 := by rw [hW]; exact ((Below.refl _ _).alloc (by first | exact Nat.le_refl _ | (simp only [World.size_alloc]; omega)) _)
  have hlew3 := hbA.size
  have O1 := Own.below O1 hbA (by omega)
  have hz := hz.trans (hbA.mono hz.size)
  have HB0 := Lib.hid (at_of hW (push1_0 _ _))
  have hbl0 := blk_lt HB0.out
  clear hbA hW
  have c0 := cel2 HB0.out
  go_wp2_with fail
  refine (NewStore_impl  w3 w3.heap.size (Nat.le_refl _) ).mono ?_
  rintro e w4 ⟨⟨u2_0, rfl, OO⟩, hbw4⟩
  have RR := Store.parts (Own.rep OO (Nat.le_refl _))
  obtain ⟨u2_0a, u2_0c, rfl, _, _⟩ := Ty.form (RR.1)
  clear RR
  have hlew4 := hbw4.size
  have HB0 := Lib.hid (blk_on hbw4 HB0.out)
  have O1 := Own.below O1 hbw4 (by omega)
  have hz := hz.trans (hbw4.mono hz.size)
  clear hbw4
  have O2 := OO
  clear OO
  go_upto_region 3 with fail
  clear c0
  refine plainbase ?_
  intro w5 hW
  have hbA : Below w4.heap.size w4 w5 := by rw [hW]; exact ((Below.refl _ _).alloc (by first | exact Nat.le_refl _ | (simp only [World.size_alloc]; omega)) _)
  have hlew5 := hbA.size
  have HB0 := Lib.hid (blk_on hbA HB0.out)
  have O1 := Own.below O1 hbA (by omega)
  have O2 := Own.below O2 hbA (by omega)
  have hz := hz.trans (hbA.mono hz.size)
  have HB1 := Lib.hid (at_of hW (push1_0 _ _))
  have hbl1 := blk_lt HB1.out
  clear hbA hW
  have c0 := cel2 HB0.out
  have c1 := cel2 HB1.out
  go_wp2_with fail
  have Rx5 := Own.rep (B := w5.heap.size) O2 (by omega)
  have Rx5 := Store.parts Rx5
  have Ry5 := Own.rep (B := w5.heap.size) O1 (by omega)
  have Ry5 := Store.parts Ry5
  refine (eqStore_any (.slice u2_0a (newStore).Slots.length u2_0c) (.slice u1_0a (newStore).Slots.length u1_0c) (newStore) w5 w5.heap.size (Nat.le_refl _) (Rx5.1) (Ry5.1)).mono ?_
  rintro e w6 ⟨rfl, hbw6⟩
  have hlew6 := hbw6.size
  have HB0 := Lib.hid (blk_on hbw6 HB0.out)
  have HB1 := Lib.hid (blk_on hbw6 HB1.out)
  have O1 := Own.below O1 hbw6 (by omega)
  have O2 := Own.below O2 hbw6 (by omega)
  have hz := hz.trans (hbw6.mono hz.size)
  clear hbw6
  go_upto_region 6 with fail
  clear c0 c1
  have c0 := cel2 HB0.out
  have c1 := cel2 HB1.out
  go_wp2_with fail
  have hm2 : Store.cnT (newStore) ≤ 1000000000000 := newStore_cn
  refine (Own.marked O2 (by omega) (fun F ho hn hF => markStore_any (.slice u2_0a (newStore).Slots.length u2_0c) (newStore) 1 F w6 ho hn hF (by omega) (by omega))).mono ?_
  rintro e w7 ⟨rfl, OO, hoff⟩
  have hlew7 := hoff.size
  have HB0 := Lib.hid (hoff.blk HB0.out (by first | omega | (have := blk_lt HB0.out; omega)))
  have HB1 := Lib.hid (hoff.blk HB1.out (by first | omega | (have := blk_lt HB1.out; omega)))
  have O1 := Own.off O1 hoff (by omega) (by omega)
  have hz := hz.trans (hoff.below (by have := hz.size; omega) hz.size)
  have O2 := OO
  clear OO hoff hm2
  go_upto_region 8 with fail
  clear c0 c1
  have c0 := cel2 HB0.out
  have c1 := cel2 HB1.out
  go_wp2_with fail
  have hm2 : Store.cnT (newStore) ≤ 1000000000000 := newStore_cn
  have R2_ := Own.rep (B := w7.heap.size) O2 (by omega)
  refine (heldStore_any (.slice u2_0a (newStore).Slots.length u2_0c) (newStore) 1 w7 w7.heap.size (Nat.le_refl _) R2_ (by omega) (by omega)).mono ?_
  rintro e w8 ⟨rfl, hbw8⟩
  have hlew8 := hbw8.size
  have HB0 := Lib.hid (blk_on hbw8 HB0.out)
  have HB1 := Lib.hid (blk_on hbw8 HB1.out)
  have O1 := Own.below O1 hbw8 (by omega)
  have O2 := Own.below O2 hbw8 (by omega)
  have hz := hz.trans (hbw8.mono hz.size)
  clear hbw8
  go_upto_region 13 with fail
  clear c0 c1
  have c0 := cel2 HB0.out
  have c1 := cel2 HB1.out
  go_wp2_with fail
  refine (NewStore_impl  w8 w8.heap.size (Nat.le_refl _) ).mono ?_
  rintro e w9 ⟨⟨u3_0, rfl, OO⟩, hbw9⟩
  have RR := Store.parts (Own.rep OO (Nat.le_refl _))
  obtain ⟨u3_0a, u3_0c, rfl, _, _⟩ := Ty.form (RR.1)
  clear RR
  have hlew9 := hbw9.size
  have HB0 := Lib.hid (blk_on hbw9 HB0.out)
  have HB1 := Lib.hid (blk_on hbw9 HB1.out)
  have O1 := Own.below O1 hbw9 (by omega)
  have O2 := Own.below O2 hbw9 (by omega)
  have hz := hz.trans (hbw9.mono hz.size)
  clear hbw9
  have O3 := OO
  clear OO
  go_upto_region 14 with fail
  clear c0 c1
  refine plainbase ?_
  intro w10 hW
  have hbA : Below w9.heap.size w9 w10 := by rw [hW]; exact ((Below.refl _ _).alloc (by first | exact Nat.le_refl _ | (simp only [World.size_alloc]; omega)) _)
  have hlew10 := hbA.size
  have HB0 := Lib.hid (blk_on hbA HB0.out)
  have HB1 := Lib.hid (blk_on hbA HB1.out)
  have O1 := Own.below O1 hbA (by omega)
  have O2 := Own.below O2 hbA (by omega)
  have O3 := Own.below O3 hbA (by omega)
  have hz := hz.trans (hbA.mono hz.size)
  have HB2 := Lib.hid (at_of hW (push1_0 _ _))
  have hbl2 := blk_lt HB2.out
  clear hbA hW
  have c0 := cel2 HB0.out
  have c1 := cel2 HB1.out
  have c2 := cel2 HB2.out
  go_wp2_with fail
  have Rx10 := Own.rep (B := w10.heap.size) O3 (by omega)
  have Rx10 := Store.parts Rx10
  have Ry10 := Own.rep (B := w10.heap.size) O1 (by omega)
  have Ry10 := Store.parts Ry10
  refine (eqStore_any (.slice u3_0a (newStore).Slots.length u3_0c) (.slice u1_0a (newStore).Slots.length u1_0c) (newStore) w10 w10.heap.size (Nat.le_refl _) (Rx10.1) (Ry10.1)).mono ?_
  rintro e w11 ⟨rfl, hbw11⟩
  have hlew11 := hbw11.size
  have HB0 := Lib.hid (blk_on hbw11 HB0.out)
  have HB1 := Lib.hid (blk_on hbw11 HB1.out)
  have HB2 := Lib.hid (blk_on hbw11 HB2.out)
  have O1 := Own.below O1 hbw11 (by omega)
  have O2 := Own.below O2 hbw11 (by omega)
  have O3 := Own.below O3 hbw11 (by omega)
  have hz := hz.trans (hbw11.mono hz.size)
  clear hbw11
  go_upto_region 17 with fail
  clear c0 c1 c2
  have c0 := cel2 HB0.out
  have c1 := cel2 HB1.out
  have c2 := cel2 HB2.out
  go_wp2_with fail
  have hm2 : Store.cnT (newStore) ≤ 1000000000000 := newStore_cn
  have R2_ := Own.rep (B := w11.heap.size) O2 (by omega)
  refine (heldStore_any (.slice u2_0a (newStore).Slots.length u2_0c) (newStore) 1 w11 w11.heap.size (Nat.le_refl _) R2_ (by omega) (by omega)).mono ?_
  rintro e w12 ⟨rfl, hbw12⟩
  have hlew12 := hbw12.size
  have HB0 := Lib.hid (blk_on hbw12 HB0.out)
  have HB1 := Lib.hid (blk_on hbw12 HB1.out)
  have HB2 := Lib.hid (blk_on hbw12 HB2.out)
  have O1 := Own.below O1 hbw12 (by omega)
  have O2 := Own.below O2 hbw12 (by omega)
  have O3 := Own.below O3 hbw12 (by omega)
  have hz := hz.trans (hbw12.mono hz.size)
  clear hbw12
  go_wp2_with fail
  go_ret
  exact ⟨rfl, hz⟩
end Go.Proofs.Ytlfgkhjibhfopaa
