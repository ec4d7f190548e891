/- Made by tygen.py: the type Simulation. -/
import Derived.Test.YtpaknhakpkfnnaaRows
import Derived.Test.YtpaknhakpkfnnaaLib
import Derived.Test.YtpaknhakpkfnnaaTyBase
import Derived.Test.YtpaknhakpkfnnaaTySystem
set_option linter.unusedSimpArgs false
set_option linter.unusedVariables false
set_option linter.all false
namespace Go.Proofs.Ytpaknhakpkfnnaa
open Go.RowKit Go.ChangeShapes Go.WideShapes Go.ChangeAt
structure Simulation where
  Big : System
  Small : System
  Scale : Int
  Labels : List Int
  deriving DecidableEq
def Simulation.ty : Ty Simulation := Ty.via (Ty.prod System.ty (Ty.prod System.ty (Ty.prod (Ty.int .i64) (Ty.slice 2 (Ty.int .i64))))) (fun x => (x.Big, x.Small, x.Scale, x.Labels))
def Simulation.cnt (x : Simulation) : Nat := System.cnt x.Big + System.cnt x.Small + x.Labels.length
theorem Simulation.cells {w : World} {B : Nat} {cs : List Value} {x : Simulation} (h : Simulation.ty.rep w B cs x) : ∃ v0 v1 v2 v3 v4 v5 v6 : Value, cs = [v0, v1, v2, .int .i64 x.Big.Temperature, v3, v4, v5, .int .i64 x.Small.Temperature, .int .i64 x.Scale, v6] ∧ (Ty.slice 69 Glue.ty).rep w B [v0] x.Big.Set.Glues ∧ (Ty.slice 71 Tile.ty).rep w B [v1] x.Big.Set.Tiles ∧ (Ty.slice 75 Placed.ty).rep w B [v2] x.Big.Seed.Tiles ∧ InK .i64 x.Big.Temperature ∧ (Ty.slice 69 Glue.ty).rep w B [v3] x.Small.Set.Glues ∧ (Ty.slice 71 Tile.ty).rep w B [v4] x.Small.Set.Tiles ∧ (Ty.slice 75 Placed.ty).rep w B [v5] x.Small.Seed.Tiles ∧ InK .i64 x.Small.Temperature ∧ InK .i64 x.Scale ∧ (Ty.slice 2 (Ty.int .i64)).rep w B [v6] x.Labels := by
  obtain ⟨_, _, rfl, h0, _, _, rfl, h1, _, _, rfl, h2, h3⟩ := h
  obtain ⟨u0_0, u0_1, u0_2, rfl, i0_0, i0_1, i0_2, i0_3⟩ := System.cells h0
  obtain ⟨u1_0, u1_1, u1_2, rfl, i1_0, i1_1, i1_2, i1_3⟩ := System.cells h1
  obtain ⟨rfl, i2⟩ := h2
  obtain ⟨u3, rfl⟩ := Ty.slice_one h3
  exact ⟨_, _, _, _, _, _, _, rfl, i0_0, i0_1, i0_2, i0_3, i1_0, i1_1, i1_2, i1_3, i2, h3⟩
theorem Simulation.parts {w : World} {B : Nat} {v0 v1 v2 v3 v4 v5 v6 : Value} {x : Simulation} (h : Simulation.ty.rep w B [v0, v1, v2, .int .i64 x.Big.Temperature, v3, v4, v5, .int .i64 x.Small.Temperature, .int .i64 x.Scale, v6] x) : (Ty.slice 69 Glue.ty).rep w B [v0] x.Big.Set.Glues ∧ (Ty.slice 71 Tile.ty).rep w B [v1] x.Big.Set.Tiles ∧ (Ty.slice 75 Placed.ty).rep w B [v2] x.Big.Seed.Tiles ∧ InK .i64 x.Big.Temperature ∧ (Ty.slice 69 Glue.ty).rep w B [v3] x.Small.Set.Glues ∧ (Ty.slice 71 Tile.ty).rep w B [v4] x.Small.Set.Tiles ∧ (Ty.slice 75 Placed.ty).rep w B [v5] x.Small.Seed.Tiles ∧ InK .i64 x.Small.Temperature ∧ InK .i64 x.Scale ∧ (Ty.slice 2 (Ty.int .i64)).rep w B [v6] x.Labels := by
  obtain ⟨e0, e1, e2, e3, e4, e5, e6, hh, r0, r1, r2, r3, r4, r5, r6, r7, r8, r9⟩ := Simulation.cells h
  simp only [List.cons.injEq, and_true, true_and] at hh
  obtain ⟨rfl, rfl, rfl, rfl, rfl, rfl, rfl⟩ := hh
  exact ⟨r0, r1, r2, r3, r4, r5, r6, r7, r8, r9⟩
theorem Simulation.rep_mk {w : World} {B : Nat} {v0 v1 v2 v3 v4 v5 v6 : Value} {x : Simulation} (h0 : (Ty.slice 69 Glue.ty).rep w B [v0] x.Big.Set.Glues) (h1 : (Ty.slice 71 Tile.ty).rep w B [v1] x.Big.Set.Tiles) (h2 : (Ty.slice 75 Placed.ty).rep w B [v2] x.Big.Seed.Tiles) (h3 : InK .i64 x.Big.Temperature) (h4 : (Ty.slice 69 Glue.ty).rep w B [v3] x.Small.Set.Glues) (h5 : (Ty.slice 71 Tile.ty).rep w B [v4] x.Small.Set.Tiles) (h6 : (Ty.slice 75 Placed.ty).rep w B [v5] x.Small.Seed.Tiles) (h7 : InK .i64 x.Small.Temperature) (h8 : InK .i64 x.Scale) (h9 : (Ty.slice 2 (Ty.int .i64)).rep w B [v6] x.Labels) : Simulation.ty.rep w B [v0, v1, v2, .int .i64 x.Big.Temperature, v3, v4, v5, .int .i64 x.Small.Temperature, .int .i64 x.Scale, v6] x :=
  ⟨_, _, rfl, System.rep_mk h0 h1 h2 h3, _, _, rfl, System.rep_mk h4 h5 h6 h7, _, _, rfl, ⟨rfl, h8⟩, h9⟩
set_option maxRecDepth 100000 in
theorem Simulation.reads : Reads Try.prog 33 Simulation.ty :=
  reads_via (t := (Ty.prod System.ty (Ty.prod System.ty (Ty.prod (Ty.int .i64) (Ty.slice 2 (Ty.int .i64)))))) (fun x : Simulation => (x.Big, x.Small, x.Scale, x.Labels)) (fun y => ⟨y.1, y.2.1, y.2.2.1, y.2.2.2⟩) (fun _ => rfl) (reads_struct Try.underlying33 (by kernel_rfl) (fld_cons rfl (System.reads) (fld_cons rfl (System.reads) (fld_cons rfl (reads_int Try.underlying2 (by kernel_rfl)) (fld_one rfl (reads_slice Try.underlying31 (by kernel_rfl) (by decide) (reads_int Try.underlying2 (by kernel_rfl))))))))
theorem Simulation.own_mk {w : World} {m0 m1 m2 m3 : Nat} {v0 v1 v2 v3 v4 v5 v6 : Value} {q : Simulation} (p0 : InK .i64 q.Scale) (h0 : Own System.ty w m0 m1 [v0, v1, v2, .int .i64 q.Big.Temperature] q.Big) (h1 : Own System.ty w m1 m2 [v3, v4, v5, .int .i64 q.Small.Temperature] q.Small) (h2 : Own (Ty.slice 2 (Ty.int .i64)) w m2 m3 [v6] q.Labels) (l0 : m0 ≤ m1) (l1 : m1 ≤ m2) (l2 : m2 ≤ m3) : Own Simulation.ty w m0 m3 [v0, v1, v2, .int .i64 q.Big.Temperature, v3, v4, v5, .int .i64 q.Small.Temperature, .int .i64 q.Scale, v6] q :=
  (Own.pair h0 (Own.pair h1 (Own.pair (Own.int p0 w m2 m2) h2 (by omega) (by omega)) (by omega) (by omega)) (by omega) (by omega))
set_option maxRecDepth 10000 in
set_option maxHeartbeats 1000000 in
theorem eqSimulation_any (v0 v1 v2 v3 v4 v5 v6 u0 u1 u2 u3 u4 u5 u6 : Value) (x : Simulation) (w : World) (B : Nat) (hB : B ≤ w.heap.size) (h0 : (Ty.slice 69 Glue.ty).rep w B [v0] x.Big.Set.Glues) (h1 : (Ty.slice 71 Tile.ty).rep w B [v1] x.Big.Set.Tiles) (h2 : (Ty.slice 75 Placed.ty).rep w B [v2] x.Big.Seed.Tiles) (h3 : (Ty.slice 69 Glue.ty).rep w B [v3] x.Small.Set.Glues) (h4 : (Ty.slice 71 Tile.ty).rep w B [v4] x.Small.Set.Tiles) (h5 : (Ty.slice 75 Placed.ty).rep w B [v5] x.Small.Seed.Tiles) (h6 : (Ty.slice 2 (Ty.int .i64)).rep w B [v6] x.Labels) (k0 : (Ty.slice 69 Glue.ty).rep w B [u0] x.Big.Set.Glues) (k1 : (Ty.slice 71 Tile.ty).rep w B [u1] x.Big.Set.Tiles) (k2 : (Ty.slice 75 Placed.ty).rep w B [u2] x.Big.Seed.Tiles) (k3 : (Ty.slice 69 Glue.ty).rep w B [u3] x.Small.Set.Glues) (k4 : (Ty.slice 71 Tile.ty).rep w B [u4] x.Small.Set.Tiles) (k5 : (Ty.slice 75 Placed.ty).rep w B [u5] x.Small.Seed.Tiles) (k6 : (Ty.slice 2 (Ty.int .i64)).rep w B [u6] x.Labels) :
    Calls Try.prog 8 #[.agg #[v0, v1, v2, .int .i64 x.Big.Temperature, v3, v4, v5, .int .i64 x.Small.Temperature, .int .i64 x.Scale, v6], .agg #[u0, u1, u2, .int .i64 x.Big.Temperature, u3, u4, u5, .int .i64 x.Small.Temperature, .int .i64 x.Scale, u6]] w fun e w' => e = .returned (.bool true) ∧ Below w.heap.size w w' := by
  go_enter Try.func8, Try.ntmps8
  go_upto_region 1 with fail
  refine rebase ?_
  intro W1 hW _
  have hz : Below w.heap.size w W1 := by rw [hW]; go_grown
  have hb0 := at_of hW (push2_0 _ _ _)
  have c0 := box10 hb0
  have f0 := boxf hb0
  have B0 := Lib.hid hb0
  clear hb0
  have hb1 := at_of hW (push2_1 _ _ _)
  have c1 := box10 hb1
  have f1 := boxf hb1
  have B1 := Lib.hid hb1
  clear hb1
  have HW := Lib.hid hW
  clear hW
  have hs0 := fun z : Ext W1 => eqSystem_any v0 v1 v2 u0 u1 u2 x.Big (W1.to z) B (Nat.le_trans hB (ext_end z hz).size) (Ty.rep_below _ h0 ((ext_end z hz).mono hB)) (Ty.rep_below _ h1 ((ext_end z hz).mono hB)) (Ty.rep_below _ h2 ((ext_end z hz).mono hB)) (Ty.rep_below _ k0 ((ext_end z hz).mono hB)) (Ty.rep_below _ k1 ((ext_end z hz).mono hB)) (Ty.rep_below _ k2 ((ext_end z hz).mono hB))
  have HS0 := Lib.hid hs0
  clear hs0
  have hs1 := fun z : Ext W1 => eqSystem_any v3 v4 v5 u3 u4 u5 x.Small (W1.to z) B (Nat.le_trans hB (ext_end z hz).size) (Ty.rep_below _ h3 ((ext_end z hz).mono hB)) (Ty.rep_below _ h4 ((ext_end z hz).mono hB)) (Ty.rep_below _ h5 ((ext_end z hz).mono hB)) (Ty.rep_below _ k3 ((ext_end z hz).mono hB)) (Ty.rep_below _ k4 ((ext_end z hz).mono hB)) (Ty.rep_below _ k5 ((ext_end z hz).mono hB))
  have HS1 := Lib.hid hs1
  clear hs1
  have hs2 := fun z : Ext W1 => eqInt64S_any v6 u6 x.Labels (W1.to z) B (Nat.le_trans hB (ext_end z hz).size) (Ty.rep_below _ h6 ((ext_end z hz).mono hB)) (Ty.rep_below _ k6 ((ext_end z hz).mono hB))
  have HS2 := Lib.hid hs2
  clear hs2
  go_wp2_with fail
  first
    | (refine call_ext (HS0.out _) ?_; intro y)
    | (refine wp_region_ext (by kernel_rfl) (by kernel_rfl) ?_; repeat (go_big_quiet_step ((go_at_call 17; exact ext_call (HS0.out _)))); refine wpQuiet_nil ?_; rintro _ ⟨y, rfl⟩)
  go_wp2_with fail
  first
    | (refine call_ext (HS1.out _) ?_; intro y)
    | (refine wp_region_ext (by kernel_rfl) (by kernel_rfl) ?_; repeat (go_big_quiet_step ((go_at_call 17; exact ext_call (HS1.out _)))); refine wpQuiet_nil ?_; rintro _ ⟨y, rfl⟩)
  go_wp2_with fail
  first
    | (refine call_ext (HS2.out _) ?_; intro y)
    | (refine wp_region_ext (by kernel_rfl) (by kernel_rfl) ?_; repeat (go_big_quiet_step ((go_at_call 18; exact ext_call (HS2.out _)))); refine wpQuiet_nil ?_; rintro _ ⟨y, rfl⟩)
  go_wp2_with fail
  go_ret
  exact ⟨rfl, ext_end _ hz⟩
set_option maxRecDepth 10000 in
set_option maxHeartbeats 1000000 in
theorem szSimulation_any (v0 v1 v2 v3 v4 v5 v6 : Value) (q : Simulation) (l : Int) (hl0 : 0 ≤ l) (hl1 : l ≤ 1048576) (w : World) (B : Nat) (hB : B ≤ w.heap.size) (h0 : (Ty.slice 69 Glue.ty).rep w B [v0] q.Big.Set.Glues) (h1 : (Ty.slice 71 Tile.ty).rep w B [v1] q.Big.Set.Tiles) (h2 : (Ty.slice 75 Placed.ty).rep w B [v2] q.Big.Seed.Tiles) (h3 : (Ty.slice 69 Glue.ty).rep w B [v3] q.Small.Set.Glues) (h4 : (Ty.slice 71 Tile.ty).rep w B [v4] q.Small.Set.Tiles) (h5 : (Ty.slice 75 Placed.ty).rep w B [v5] q.Small.Seed.Tiles) (h6 : (Ty.slice 2 (Ty.int .i64)).rep w B [v6] q.Labels) :
    Calls Try.prog 4 #[.agg #[v0, v1, v2, .int .i64 q.Big.Temperature, v3, v4, v5, .int .i64 q.Small.Temperature, .int .i64 q.Scale, v6], .int .i64 l] w fun e w' => e = .returned (.int .i64 (szR l (Simulation.cnt q))) ∧ Below w.heap.size w w' := by
  by_cases g0 : ((System.cnt q.Big : Nat) : Int) ≤ l
  · by_cases g1 : ((System.cnt q.Small : Nat) : Int) ≤ l - (System.cnt q.Big : Nat)
    · by_cases g2 : ((q.Labels.length : Nat) : Int) ≤ l - (System.cnt q.Big : Nat) - (System.cnt q.Small : Nat)
      · go_enter Try.func4, Try.ntmps4
        go_upto_region 1 with fail
        refine rebase ?_
        intro W1 hW _
        have hz : Below w.heap.size w W1 := by rw [hW]; go_grown
        have hb0 := at_of hW (push1_0 _ _)
        have c0 := box10 hb0
        have f0 := boxf hb0
        have B0 := Lib.hid hb0
        clear hb0
        have HW := Lib.hid hW
        clear hW
        have hs0 := fun z : Ext W1 => szSystem_any v0 v1 v2 q.Big (l) (by omega) (by omega) (W1.to z) B (Nat.le_trans hB (ext_end z hz).size) (Ty.rep_below _ h0 ((ext_end z hz).mono hB)) (Ty.rep_below _ h1 ((ext_end z hz).mono hB)) (Ty.rep_below _ h2 ((ext_end z hz).mono hB))
        simp only [szR_ok g0] at hs0
        have HS0 := Lib.hid hs0
        clear hs0
        have hs1 := fun z : Ext W1 => szSystem_any v3 v4 v5 q.Small (l - (System.cnt q.Big : Nat)) (by omega) (by omega) (W1.to z) B (Nat.le_trans hB (ext_end z hz).size) (Ty.rep_below _ h3 ((ext_end z hz).mono hB)) (Ty.rep_below _ h4 ((ext_end z hz).mono hB)) (Ty.rep_below _ h5 ((ext_end z hz).mono hB))
        simp only [szR_ok g1] at hs1
        have HS1 := Lib.hid hs1
        clear hs1
        have hs2 := fun z : Ext W1 => szInt64S_any v6 q.Labels (l - (System.cnt q.Big : Nat) - (System.cnt q.Small : Nat)) (by omega) (by omega) (W1.to z) B (Nat.le_trans hB (ext_end z hz).size) (Ty.rep_below _ h6 ((ext_end z hz).mono hB))
        simp only [szR_ok g2] at hs2
        have HS2 := Lib.hid hs2
        clear hs2
        go_wp2_with fail
        refine call_ext (HS0.out _) ?_
        intro y
        go_wp2_with fail
        refine call_ext (HS1.out _) ?_
        intro y
        go_wp2_with fail
        refine call_ext (HS2.out _) ?_
        intro y
        go_wp2_with fail
        go_ret
        exact ⟨by rw [szR_ok (by unfold Simulation.cnt; omega)]; unfold Simulation.cnt; go_num, ext_end _ hz⟩
      · go_enter Try.func4, Try.ntmps4
        go_upto_region 1 with fail
        refine rebase ?_
        intro W1 hW _
        have hz : Below w.heap.size w W1 := by rw [hW]; go_grown
        have hb0 := at_of hW (push1_0 _ _)
        have c0 := box10 hb0
        have f0 := boxf hb0
        have B0 := Lib.hid hb0
        clear hb0
        have HW := Lib.hid hW
        clear hW
        have hs0 := fun z : Ext W1 => szSystem_any v0 v1 v2 q.Big (l) (by omega) (by omega) (W1.to z) B (Nat.le_trans hB (ext_end z hz).size) (Ty.rep_below _ h0 ((ext_end z hz).mono hB)) (Ty.rep_below _ h1 ((ext_end z hz).mono hB)) (Ty.rep_below _ h2 ((ext_end z hz).mono hB))
        simp only [szR_ok g0] at hs0
        have HS0 := Lib.hid hs0
        clear hs0
        have hs1 := fun z : Ext W1 => szSystem_any v3 v4 v5 q.Small (l - (System.cnt q.Big : Nat)) (by omega) (by omega) (W1.to z) B (Nat.le_trans hB (ext_end z hz).size) (Ty.rep_below _ h3 ((ext_end z hz).mono hB)) (Ty.rep_below _ h4 ((ext_end z hz).mono hB)) (Ty.rep_below _ h5 ((ext_end z hz).mono hB))
        simp only [szR_ok g1] at hs1
        have HS1 := Lib.hid hs1
        clear hs1
        have hs2 := fun z : Ext W1 => szInt64S_any v6 q.Labels (l - (System.cnt q.Big : Nat) - (System.cnt q.Small : Nat)) (by omega) (by omega) (W1.to z) B (Nat.le_trans hB (ext_end z hz).size) (Ty.rep_below _ h6 ((ext_end z hz).mono hB))
        simp only [szR_no g2] at hs2
        have HS2 := Lib.hid hs2
        clear hs2
        go_wp2_with fail
        refine call_ext (HS0.out _) ?_
        intro y
        go_wp2_with fail
        refine call_ext (HS1.out _) ?_
        intro y
        go_wp2_with fail
        refine call_ext (HS2.out _) ?_
        intro y
        go_wp2_with fail
        go_ret
        exact ⟨by rw [szR_no (by unfold Simulation.cnt; omega)]; rfl, ext_end _ hz⟩
    · go_enter Try.func4, Try.ntmps4
      go_upto_region 1 with fail
      refine rebase ?_
      intro W1 hW _
      have hz : Below w.heap.size w W1 := by rw [hW]; go_grown
      have hb0 := at_of hW (push1_0 _ _)
      have c0 := box10 hb0
      have f0 := boxf hb0
      have B0 := Lib.hid hb0
      clear hb0
      have HW := Lib.hid hW
      clear hW
      have hs0 := fun z : Ext W1 => szSystem_any v0 v1 v2 q.Big (l) (by omega) (by omega) (W1.to z) B (Nat.le_trans hB (ext_end z hz).size) (Ty.rep_below _ h0 ((ext_end z hz).mono hB)) (Ty.rep_below _ h1 ((ext_end z hz).mono hB)) (Ty.rep_below _ h2 ((ext_end z hz).mono hB))
      simp only [szR_ok g0] at hs0
      have HS0 := Lib.hid hs0
      clear hs0
      have hs1 := fun z : Ext W1 => szSystem_any v3 v4 v5 q.Small (l - (System.cnt q.Big : Nat)) (by omega) (by omega) (W1.to z) B (Nat.le_trans hB (ext_end z hz).size) (Ty.rep_below _ h3 ((ext_end z hz).mono hB)) (Ty.rep_below _ h4 ((ext_end z hz).mono hB)) (Ty.rep_below _ h5 ((ext_end z hz).mono hB))
      simp only [szR_no g1] at hs1
      have HS1 := Lib.hid hs1
      clear hs1
      go_wp2_with fail
      refine call_ext (HS0.out _) ?_
      intro y
      go_wp2_with fail
      refine call_ext (HS1.out _) ?_
      intro y
      go_wp2_with fail
      go_ret
      exact ⟨by rw [szR_no (by unfold Simulation.cnt; omega)]; rfl, ext_end _ hz⟩
  · go_enter Try.func4, Try.ntmps4
    go_upto_region 1 with fail
    refine rebase ?_
    intro W1 hW _
    have hz : Below w.heap.size w W1 := by rw [hW]; go_grown
    have hb0 := at_of hW (push1_0 _ _)
    have c0 := box10 hb0
    have f0 := boxf hb0
    have B0 := Lib.hid hb0
    clear hb0
    have HW := Lib.hid hW
    clear hW
    have hs0 := fun z : Ext W1 => szSystem_any v0 v1 v2 q.Big (l) (by omega) (by omega) (W1.to z) B (Nat.le_trans hB (ext_end z hz).size) (Ty.rep_below _ h0 ((ext_end z hz).mono hB)) (Ty.rep_below _ h1 ((ext_end z hz).mono hB)) (Ty.rep_below _ h2 ((ext_end z hz).mono hB))
    simp only [szR_no g0] at hs0
    have HS0 := Lib.hid hs0
    clear hs0
    go_wp2_with fail
    refine call_ext (HS0.out _) ?_
    intro y
    go_wp2_with fail
    go_ret
    exact ⟨by rw [szR_no (by unfold Simulation.cnt; omega)]; rfl, ext_end _ hz⟩

end Go.Proofs.Ytpaknhakpkfnnaa
