/- Made by tygen.py: the type Desk. -/
import Derived.Test.YtaboiekbjcmdgaaRows
import Derived.Test.YtaboiekbjcmdgaaLib
import Derived.Test.YtaboiekbjcmdgaaTyBase
import Derived.Test.YtaboiekbjcmdgaaTySystem
import Derived.Test.YtaboiekbjcmdgaaTyAssembly
set_option linter.unusedSimpArgs false
set_option linter.unusedVariables false
set_option linter.all false
namespace Go.Proofs.Ytaboiekbjcmdgaa
open Go.RowKit Go.ChangeShapes Go.WideShapes Go.ChangeAt
structure Desk where
  Loaded : Bool
  Sys : System
  Now : Assembly
  Schedule : List Int
  deriving DecidableEq
def Desk.ty : Ty Desk := Ty.via (Ty.prod Ty.bool (Ty.prod System.ty (Ty.prod Assembly.ty (Ty.slice 2 (Ty.int .i64))))) (fun x => (x.Loaded, x.Sys, x.Now, x.Schedule))
def Desk.cnt (x : Desk) : Nat := System.cnt x.Sys + Assembly.cnt x.Now + x.Schedule.length
theorem Desk.cells {w : World} {B : Nat} {cs : List Value} {x : Desk} (h : Desk.ty.rep w B cs x) : ∃ v0 v1 v2 v3 v4 : Value, cs = [.bool x.Loaded, v0, v1, v2, .int .i64 x.Sys.Temperature, v3, v4] ∧ (Ty.slice 75 Glue.ty).rep w B [v0] x.Sys.Set.Glues ∧ (Ty.slice 77 Tile.ty).rep w B [v1] x.Sys.Set.Tiles ∧ (Ty.slice 71 Placed.ty).rep w B [v2] x.Sys.Seed.Tiles ∧ InK .i64 x.Sys.Temperature ∧ (Ty.slice 71 Placed.ty).rep w B [v3] x.Now.Tiles ∧ (Ty.slice 2 (Ty.int .i64)).rep w B [v4] x.Schedule := by
  obtain ⟨_, _, rfl, h0, _, _, rfl, h1, _, _, rfl, h2, h3⟩ := h
  have h0' : _ = _ := h0
  subst h0'
  obtain ⟨u1_0, u1_1, u1_2, rfl, i1_0, i1_1, i1_2, i1_3⟩ := System.cells h1
  obtain ⟨u2_0, rfl, i2_0⟩ := Assembly.cells h2
  obtain ⟨u3, rfl⟩ := Ty.slice_one h3
  exact ⟨_, _, _, _, _, rfl, i1_0, i1_1, i1_2, i1_3, i2_0, h3⟩
theorem Desk.parts {w : World} {B : Nat} {v0 v1 v2 v3 v4 : Value} {x : Desk} (h : Desk.ty.rep w B [.bool x.Loaded, v0, v1, v2, .int .i64 x.Sys.Temperature, v3, v4] x) : (Ty.slice 75 Glue.ty).rep w B [v0] x.Sys.Set.Glues ∧ (Ty.slice 77 Tile.ty).rep w B [v1] x.Sys.Set.Tiles ∧ (Ty.slice 71 Placed.ty).rep w B [v2] x.Sys.Seed.Tiles ∧ InK .i64 x.Sys.Temperature ∧ (Ty.slice 71 Placed.ty).rep w B [v3] x.Now.Tiles ∧ (Ty.slice 2 (Ty.int .i64)).rep w B [v4] x.Schedule := by
  obtain ⟨e0, e1, e2, e3, e4, hh, r0, r1, r2, r3, r4, r5⟩ := Desk.cells h
  simp only [List.cons.injEq, and_true, true_and] at hh
  obtain ⟨rfl, rfl, rfl, rfl, rfl⟩ := hh
  exact ⟨r0, r1, r2, r3, r4, r5⟩
theorem Desk.rep_mk {w : World} {B : Nat} {v0 v1 v2 v3 v4 : Value} {x : Desk} (h0 : (Ty.slice 75 Glue.ty).rep w B [v0] x.Sys.Set.Glues) (h1 : (Ty.slice 77 Tile.ty).rep w B [v1] x.Sys.Set.Tiles) (h2 : (Ty.slice 71 Placed.ty).rep w B [v2] x.Sys.Seed.Tiles) (h3 : InK .i64 x.Sys.Temperature) (h4 : (Ty.slice 71 Placed.ty).rep w B [v3] x.Now.Tiles) (h5 : (Ty.slice 2 (Ty.int .i64)).rep w B [v4] x.Schedule) : Desk.ty.rep w B [.bool x.Loaded, v0, v1, v2, .int .i64 x.Sys.Temperature, v3, v4] x :=
  ⟨_, _, rfl, rfl, _, _, rfl, System.rep_mk h0 h1 h2 h3, _, _, rfl, Assembly.rep_mk h4, h5⟩
set_option maxRecDepth 100000 in
theorem Desk.reads : Reads Try.prog 33 Desk.ty :=
  reads_via (t := (Ty.prod Ty.bool (Ty.prod System.ty (Ty.prod Assembly.ty (Ty.slice 2 (Ty.int .i64)))))) (fun x : Desk => (x.Loaded, x.Sys, x.Now, x.Schedule)) (fun y => ⟨y.1, y.2.1, y.2.2.1, y.2.2.2⟩) (fun _ => rfl) (reads_struct Try.underlying33 (by kernel_rfl) (fld_cons rfl (reads_bool Try.underlying4 (by kernel_rfl)) (fld_cons rfl (System.reads) (fld_cons rfl (Assembly.reads) (fld_one rfl (reads_slice Try.underlying31 (by kernel_rfl) (by decide) (reads_int Try.underlying2 (by kernel_rfl))))))))
theorem Desk.own_mk {w : World} {m0 m1 m2 m3 : Nat} {v0 v1 v2 v3 v4 : Value} {q : Desk} (h0 : Own System.ty w m0 m1 [v0, v1, v2, .int .i64 q.Sys.Temperature] q.Sys) (h1 : Own Assembly.ty w m1 m2 [v3] q.Now) (h2 : Own (Ty.slice 2 (Ty.int .i64)) w m2 m3 [v4] q.Schedule) (l0 : m0 ≤ m1) (l1 : m1 ≤ m2) (l2 : m2 ≤ m3) : Own Desk.ty w m0 m3 [.bool q.Loaded, v0, v1, v2, .int .i64 q.Sys.Temperature, v3, v4] q :=
  (Own.pair (Own.bool q.Loaded w m0 m0) (Own.pair h0 (Own.pair h1 h2 (by omega) (by omega)) (by omega) (by omega)) (by omega) (by omega))
set_option maxRecDepth 10000 in
set_option maxHeartbeats 1000000 in
theorem eqDesk_any (v0 v1 v2 v3 v4 u0 u1 u2 u3 u4 : Value) (x : Desk) (w : World) (B : Nat) (hB : B ≤ w.heap.size) (h0 : (Ty.slice 75 Glue.ty).rep w B [v0] x.Sys.Set.Glues) (h1 : (Ty.slice 77 Tile.ty).rep w B [v1] x.Sys.Set.Tiles) (h2 : (Ty.slice 71 Placed.ty).rep w B [v2] x.Sys.Seed.Tiles) (h3 : (Ty.slice 71 Placed.ty).rep w B [v3] x.Now.Tiles) (h4 : (Ty.slice 2 (Ty.int .i64)).rep w B [v4] x.Schedule) (k0 : (Ty.slice 75 Glue.ty).rep w B [u0] x.Sys.Set.Glues) (k1 : (Ty.slice 77 Tile.ty).rep w B [u1] x.Sys.Set.Tiles) (k2 : (Ty.slice 71 Placed.ty).rep w B [u2] x.Sys.Seed.Tiles) (k3 : (Ty.slice 71 Placed.ty).rep w B [u3] x.Now.Tiles) (k4 : (Ty.slice 2 (Ty.int .i64)).rep w B [u4] x.Schedule) :
    Calls Try.prog 8 #[.agg #[.bool x.Loaded, v0, v1, v2, .int .i64 x.Sys.Temperature, v3, v4], .agg #[.bool x.Loaded, u0, u1, u2, .int .i64 x.Sys.Temperature, u3, u4]] w fun e w' => e = .returned (.bool true) ∧ Below w.heap.size w w' := by
  go_enter Try.func8, Try.ntmps8
  go_upto_region 1 with fail
  refine rebase ?_
  intro W1 hW _
  have hz : Below w.heap.size w W1 := by rw [hW]; go_grown
  have hb0 := at_of hW (push2_0 _ _ _)
  have c0 := box7 hb0
  have f0 := boxf hb0
  have B0 := Lib.hid hb0
  clear hb0
  have hb1 := at_of hW (push2_1 _ _ _)
  have c1 := box7 hb1
  have f1 := boxf hb1
  have B1 := Lib.hid hb1
  clear hb1
  have HW := Lib.hid hW
  clear hW
  have hs0 := fun z : Ext W1 => eqSystem_any v0 v1 v2 u0 u1 u2 x.Sys (W1.to z) B (Nat.le_trans hB (ext_end z hz).size) (Ty.rep_below _ h0 ((ext_end z hz).mono hB)) (Ty.rep_below _ h1 ((ext_end z hz).mono hB)) (Ty.rep_below _ h2 ((ext_end z hz).mono hB)) (Ty.rep_below _ k0 ((ext_end z hz).mono hB)) (Ty.rep_below _ k1 ((ext_end z hz).mono hB)) (Ty.rep_below _ k2 ((ext_end z hz).mono hB))
  have HS0 := Lib.hid hs0
  clear hs0
  have hs1 := fun z : Ext W1 => eqAssembly_any v3 u3 x.Now (W1.to z) B (Nat.le_trans hB (ext_end z hz).size) (Ty.rep_below _ h3 ((ext_end z hz).mono hB)) (Ty.rep_below _ k3 ((ext_end z hz).mono hB))
  have HS1 := Lib.hid hs1
  clear hs1
  have hs2 := fun z : Ext W1 => eqInt64S_any v4 u4 x.Schedule (W1.to z) B (Nat.le_trans hB (ext_end z hz).size) (Ty.rep_below _ h4 ((ext_end z hz).mono hB)) (Ty.rep_below _ k4 ((ext_end z hz).mono hB))
  have HS2 := Lib.hid hs2
  clear hs2
  go_wp2_with fail
  first
    | (refine call_ext (HS0.out _) ?_; intro y)
    | (refine wp_region_ext (by kernel_rfl) (by kernel_rfl) ?_; repeat (go_big_quiet_step ((go_at_call 21; exact ext_call (HS0.out _)))); refine wpQuiet_nil ?_; rintro _ ⟨y, rfl⟩)
  go_wp2_with fail
  first
    | (refine call_ext (HS1.out _) ?_; intro y)
    | (refine wp_region_ext (by kernel_rfl) (by kernel_rfl) ?_; repeat (go_big_quiet_step ((go_at_call 22; exact ext_call (HS1.out _)))); refine wpQuiet_nil ?_; rintro _ ⟨y, rfl⟩)
  go_wp2_with fail
  first
    | (refine call_ext (HS2.out _) ?_; intro y)
    | (refine wp_region_ext (by kernel_rfl) (by kernel_rfl) ?_; repeat (go_big_quiet_step ((go_at_call 23; exact ext_call (HS2.out _)))); refine wpQuiet_nil ?_; rintro _ ⟨y, rfl⟩)
  go_wp2_with fail
  go_ret
  exact ⟨rfl, ext_end _ hz⟩
set_option maxRecDepth 10000 in
set_option maxHeartbeats 1000000 in
theorem szDesk_any (v0 v1 v2 v3 v4 : Value) (q : Desk) (l : Int) (hl0 : 0 ≤ l) (hl1 : l ≤ 1048576) (w : World) (B : Nat) (hB : B ≤ w.heap.size) (h0 : (Ty.slice 75 Glue.ty).rep w B [v0] q.Sys.Set.Glues) (h1 : (Ty.slice 77 Tile.ty).rep w B [v1] q.Sys.Set.Tiles) (h2 : (Ty.slice 71 Placed.ty).rep w B [v2] q.Sys.Seed.Tiles) (h3 : (Ty.slice 71 Placed.ty).rep w B [v3] q.Now.Tiles) (h4 : (Ty.slice 2 (Ty.int .i64)).rep w B [v4] q.Schedule) :
    Calls Try.prog 4 #[.agg #[.bool q.Loaded, v0, v1, v2, .int .i64 q.Sys.Temperature, v3, v4], .int .i64 l] w fun e w' => e = .returned (.int .i64 (szR l (Desk.cnt q))) ∧ Below w.heap.size w w' := by
  by_cases g0 : ((System.cnt q.Sys : Nat) : Int) ≤ l
  · by_cases g1 : ((Assembly.cnt q.Now : Nat) : Int) ≤ l - (System.cnt q.Sys : Nat)
    · by_cases g2 : ((q.Schedule.length : Nat) : Int) ≤ l - (System.cnt q.Sys : Nat) - (Assembly.cnt q.Now : Nat)
      · go_enter Try.func4, Try.ntmps4
        go_upto_region 1 with fail
        refine rebase ?_
        intro W1 hW _
        have hz : Below w.heap.size w W1 := by rw [hW]; go_grown
        have hb0 := at_of hW (push1_0 _ _)
        have c0 := box7 hb0
        have f0 := boxf hb0
        have B0 := Lib.hid hb0
        clear hb0
        have HW := Lib.hid hW
        clear hW
        have hs0 := fun z : Ext W1 => szSystem_any v0 v1 v2 q.Sys (l) (by omega) (by omega) (W1.to z) B (Nat.le_trans hB (ext_end z hz).size) (Ty.rep_below _ h0 ((ext_end z hz).mono hB)) (Ty.rep_below _ h1 ((ext_end z hz).mono hB)) (Ty.rep_below _ h2 ((ext_end z hz).mono hB))
        simp only [szR_ok g0] at hs0
        have HS0 := Lib.hid hs0
        clear hs0
        have hs1 := fun z : Ext W1 => szAssembly_any v3 q.Now (l - (System.cnt q.Sys : Nat)) (by omega) (by omega) (W1.to z) B (Nat.le_trans hB (ext_end z hz).size) (Ty.rep_below _ h3 ((ext_end z hz).mono hB))
        simp only [szR_ok g1] at hs1
        have HS1 := Lib.hid hs1
        clear hs1
        have hs2 := fun z : Ext W1 => szInt64S_any v4 q.Schedule (l - (System.cnt q.Sys : Nat) - (Assembly.cnt q.Now : Nat)) (by omega) (by omega) (W1.to z) B (Nat.le_trans hB (ext_end z hz).size) (Ty.rep_below _ h4 ((ext_end z hz).mono hB))
        simp only [szR_ok g2] at hs2
        have HS2 := Lib.hid hs2
        clear hs2
        go_wp2_with fail
        refine call_ext (HS0.out _) ?_
        intro y
        go_wp2_with fail
        refine call_ext (HS1.out _) ?_
        intro y
        go_wp2_with fail
        refine call_ext (HS2.out _) ?_
        intro y
        go_wp2_with fail
        go_ret
        exact ⟨by rw [szR_ok (by unfold Desk.cnt; omega)]; unfold Desk.cnt; go_num, ext_end _ hz⟩
      · go_enter Try.func4, Try.ntmps4
        go_upto_region 1 with fail
        refine rebase ?_
        intro W1 hW _
        have hz : Below w.heap.size w W1 := by rw [hW]; go_grown
        have hb0 := at_of hW (push1_0 _ _)
        have c0 := box7 hb0
        have f0 := boxf hb0
        have B0 := Lib.hid hb0
        clear hb0
        have HW := Lib.hid hW
        clear hW
        have hs0 := fun z : Ext W1 => szSystem_any v0 v1 v2 q.Sys (l) (by omega) (by omega) (W1.to z) B (Nat.le_trans hB (ext_end z hz).size) (Ty.rep_below _ h0 ((ext_end z hz).mono hB)) (Ty.rep_below _ h1 ((ext_end z hz).mono hB)) (Ty.rep_below _ h2 ((ext_end z hz).mono hB))
        simp only [szR_ok g0] at hs0
        have HS0 := Lib.hid hs0
        clear hs0
        have hs1 := fun z : Ext W1 => szAssembly_any v3 q.Now (l - (System.cnt q.Sys : Nat)) (by omega) (by omega) (W1.to z) B (Nat.le_trans hB (ext_end z hz).size) (Ty.rep_below _ h3 ((ext_end z hz).mono hB))
        simp only [szR_ok g1] at hs1
        have HS1 := Lib.hid hs1
        clear hs1
        have hs2 := fun z : Ext W1 => szInt64S_any v4 q.Schedule (l - (System.cnt q.Sys : Nat) - (Assembly.cnt q.Now : Nat)) (by omega) (by omega) (W1.to z) B (Nat.le_trans hB (ext_end z hz).size) (Ty.rep_below _ h4 ((ext_end z hz).mono hB))
        simp only [szR_no g2] at hs2
        have HS2 := Lib.hid hs2
        clear hs2
        go_wp2_with fail
        refine call_ext (HS0.out _) ?_
        intro y
        go_wp2_with fail
        refine call_ext (HS1.out _) ?_
        intro y
        go_wp2_with fail
        refine call_ext (HS2.out _) ?_
        intro y
        go_wp2_with fail
        go_ret
        exact ⟨by rw [szR_no (by unfold Desk.cnt; omega)]; rfl, ext_end _ hz⟩
    · go_enter Try.func4, Try.ntmps4
      go_upto_region 1 with fail
      refine rebase ?_
      intro W1 hW _
      have hz : Below w.heap.size w W1 := by rw [hW]; go_grown
      have hb0 := at_of hW (push1_0 _ _)
      have c0 := box7 hb0
      have f0 := boxf hb0
      have B0 := Lib.hid hb0
      clear hb0
      have HW := Lib.hid hW
      clear hW
      have hs0 := fun z : Ext W1 => szSystem_any v0 v1 v2 q.Sys (l) (by omega) (by omega) (W1.to z) B (Nat.le_trans hB (ext_end z hz).size) (Ty.rep_below _ h0 ((ext_end z hz).mono hB)) (Ty.rep_below _ h1 ((ext_end z hz).mono hB)) (Ty.rep_below _ h2 ((ext_end z hz).mono hB))
      simp only [szR_ok g0] at hs0
      have HS0 := Lib.hid hs0
      clear hs0
      have hs1 := fun z : Ext W1 => szAssembly_any v3 q.Now (l - (System.cnt q.Sys : Nat)) (by omega) (by omega) (W1.to z) B (Nat.le_trans hB (ext_end z hz).size) (Ty.rep_below _ h3 ((ext_end z hz).mono hB))
      simp only [szR_no g1] at hs1
      have HS1 := Lib.hid hs1
      clear hs1
      go_wp2_with fail
      refine call_ext (HS0.out _) ?_
      intro y
      go_wp2_with fail
      refine call_ext (HS1.out _) ?_
      intro y
      go_wp2_with fail
      go_ret
      exact ⟨by rw [szR_no (by unfold Desk.cnt; omega)]; rfl, ext_end _ hz⟩
  · go_enter Try.func4, Try.ntmps4
    go_upto_region 1 with fail
    refine rebase ?_
    intro W1 hW _
    have hz : Below w.heap.size w W1 := by rw [hW]; go_grown
    have hb0 := at_of hW (push1_0 _ _)
    have c0 := box7 hb0
    have f0 := boxf hb0
    have B0 := Lib.hid hb0
    clear hb0
    have HW := Lib.hid hW
    clear hW
    have hs0 := fun z : Ext W1 => szSystem_any v0 v1 v2 q.Sys (l) (by omega) (by omega) (W1.to z) B (Nat.le_trans hB (ext_end z hz).size) (Ty.rep_below _ h0 ((ext_end z hz).mono hB)) (Ty.rep_below _ h1 ((ext_end z hz).mono hB)) (Ty.rep_below _ h2 ((ext_end z hz).mono hB))
    simp only [szR_no g0] at hs0
    have HS0 := Lib.hid hs0
    clear hs0
    go_wp2_with fail
    refine call_ext (HS0.out _) ?_
    intro y
    go_wp2_with fail
    go_ret
    exact ⟨by rw [szR_no (by unfold Desk.cnt; omega)]; rfl, ext_end _ hz⟩
set_option maxRecDepth 10000 in
set_option maxHeartbeats 1000000 in
theorem toDesk_any (v0 v1 v2 v3 v4 : Value) (q : Desk) (w : World) (B : Nat) (hB : B ≤ w.heap.size) (h0 : (Ty.slice 75 Glue.ty).rep w B [v0] q.Sys.Set.Glues) (h1 : (Ty.slice 77 Tile.ty).rep w B [v1] q.Sys.Set.Tiles) (h2 : (Ty.slice 71 Placed.ty).rep w B [v2] q.Sys.Seed.Tiles) (h3 : (Ty.slice 71 Placed.ty).rep w B [v3] q.Now.Tiles) (h4 : (Ty.slice 2 (Ty.int .i64)).rep w B [v4] q.Schedule) (p0 : InK .i64 q.Sys.Temperature) (hn : Desk.cnt q ≤ 1048576) :
    Calls Try.prog 6 #[.agg #[.bool q.Loaded, v0, v1, v2, .int .i64 q.Sys.Temperature, v3, v4]] w fun e w' => (∃ u0 u1 u2 u3 u4 : Value, e = .returned (.agg #[.bool q.Loaded, u0, u1, u2, .int .i64 q.Sys.Temperature, u3, u4]) ∧ Own Desk.ty w' w.heap.size w'.heap.size [.bool q.Loaded, u0, u1, u2, .int .i64 q.Sys.Temperature, u3, u4] q) ∧ Below w.heap.size w w' := by
  have hn' := hn
  unfold Desk.cnt at hn'
  obtain ⟨a0, z0, rfl, _, _⟩ := Ty.form h0
  have H0 := Lib.hid h0
  clear h0
  obtain ⟨a1, z1, rfl, _, _⟩ := Ty.form h1
  have H1 := Lib.hid h1
  clear h1
  obtain ⟨a2, z2, rfl, _, _⟩ := Ty.form h2
  have H2 := Lib.hid h2
  clear h2
  obtain ⟨a3, z3, rfl, _, _⟩ := Ty.form h3
  have H3 := Lib.hid h3
  clear h3
  obtain ⟨a4, z4, rfl, _, _⟩ := Ty.form h4
  have H4 := Lib.hid h4
  clear h4
  have P0 := Lib.hid p0
  clear p0
  clear hn
  go_enter Try.func6, Try.ntmps6
  go_wp2_with fail
  refine callbase ?_
  intro W0 hW
  have hz : Below w.heap.size w W0 := by rw [hW]; go_grown
  have hs : w.heap.size + 3 = W0.heap.size := by rw [hW]; simp only [World.size_alloc]
  have hb0 := at_of hW (push3_0 _ _ _ _)
  have hb1 := at_of hW (push3_1 _ _ _ _)
  have hb2 := at_of hW (push3_2 _ _ _ _)
  have HS := Lib.hid hs
  clear hs hW
  refine (toSystem_any _ _ _ q.Sys W0 B (Nat.le_trans hB hz.size) (Ty.rep_below _ H0.out (hz.mono hB)) (Ty.rep_below _ H1.out (hz.mono hB)) (Ty.rep_below _ H2.out (hz.mono hB)) P0.out (by omega)).mono ?_
  rintro e w0 ⟨⟨u0, u1, u2, rfl, OO⟩, hb⟩
  have hlt : w.heap.size + 3 ≤ W0.heap.size := by have := HS.out; omega
  have hle := hb.size
  have hb0 := blk_on hb hb0
  have hb1 := blk_on hb hb1
  have hb2 := blk_on hb hb2
  have hz := hz.trans (hb.mono hz.size)
  have RR := System.parts (Own.rep OO (Nat.le_refl _))
  obtain ⟨ua0_0, uc0_0, rfl, _, _⟩ := Ty.form (RR.1)
  obtain ⟨ua0_1, uc0_1, rfl, _, _⟩ := Ty.form (RR.2.1)
  obtain ⟨ua0_2, uc0_2, rfl, _, _⟩ := Ty.form (RR.2.2.1)
  clear RR
  have O0 := OO
  clear OO
  have c0 := cel7 hb0
  have f0 := celf hb0
  have HB0 := Lib.hid hb0
  clear hb0
  have c1 := cel7 hb1
  have f1 := celf hb1
  have HB1 := Lib.hid hb1
  clear hb1
  have c2 := cel7 hb2
  have f2 := celf hb2
  have HB2 := Lib.hid hb2
  clear hb2
  have HZ := Lib.hid hz
  have HLT := Lib.hid hlt
  clear hz hb hlt
  have HO0 := Lib.hid O0
  clear O0
  go_wp2_with fail
  refine callbase ?_
  intro W1 hW
  clear c0 c1 c2 f0 f1 f2
  have hz : Below w.heap.size w W1 := by rw [hW]; exact ((((HZ.out.setCell (by simp <;> omega) _).setCell (by simp <;> omega) _).setCell (by simp <;> omega) _).setCell (by simp <;> omega) _)
  have hs : w0.heap.size = W1.heap.size := by rw [hW]; simp [World.setCell]
  have hb0 := at_of hW (blk_far (blk_far (blk_far (blk_far (HB0.out) _ (by simp <;> omega)) _ (by simp <;> omega)) _ (by simp <;> omega)) _ (by simp <;> omega))
  have hb1 := at_of hW (blk_far (blk_far (blk_far (blk_far (HB1.out) _ (by simp <;> omega)) _ (by simp <;> omega)) _ (by simp <;> omega)) _ (by simp <;> omega))
  have hb2 := at_of hW (blk_set (blk_set (blk_set (blk_set (HB2.out) _) _) _) _)
  have hlt := HLT.out
  have hsl1 := Nat.le_of_eq hs
  have HS := Lib.hid hs
  have O0 := Own.at hW (Own.set (Own.set (Own.set (Own.set (HO0.out) (by omega) _) (by omega) _) (by omega) _) (by omega) _)
  clear hs hW HB0 HB1 HB2 HZ
  clear HO0
  refine (toAssembly_any _ q.Now W1 B (Nat.le_trans hB hz.size) (Ty.rep_below _ H3.out (hz.mono hB)) (by omega)).mono ?_
  rintro e w1 ⟨⟨u3, rfl, OO⟩, hb⟩
  have hlt : w.heap.size + 3 ≤ W1.heap.size := by have := HS.out; omega
  have hle := hb.size
  have hb0 := blk_on hb hb0
  have hb1 := blk_on hb hb1
  have hb2 := blk_on hb hb2
  have O0 := Own.below O0 hb (by omega)
  have hz := hz.trans (hb.mono hz.size)
  have RR := Assembly.parts (Own.rep OO (Nat.le_refl _))
  obtain ⟨ua1_0, uc1_0, rfl, _, _⟩ := Ty.form (RR)
  clear RR
  have O1 := OO
  clear OO
  have c0 := cel7 hb0
  have f0 := celf hb0
  have HB0 := Lib.hid hb0
  clear hb0
  have c1 := cel7 hb1
  have f1 := celf hb1
  have HB1 := Lib.hid hb1
  clear hb1
  have c2 := cel7 hb2
  have f2 := celf hb2
  have HB2 := Lib.hid hb2
  clear hb2
  have HZ := Lib.hid hz
  have HLT := Lib.hid hlt
  clear hz hb hlt
  have HO0 := Lib.hid O0
  clear O0
  have HO1 := Lib.hid O1
  clear O1
  go_wp2_with fail
  refine callbase ?_
  intro W2 hW
  clear c0 c1 c2 f0 f1 f2
  have hz : Below w.heap.size w W2 := by rw [hW]; exact (HZ.out.setCell (by simp <;> omega) _)
  have hs : w1.heap.size = W2.heap.size := by rw [hW]; simp [World.setCell]
  have hb0 := at_of hW (blk_far (HB0.out) _ (by simp <;> omega))
  have hb1 := at_of hW (blk_far (HB1.out) _ (by simp <;> omega))
  have hb2 := at_of hW (blk_set (HB2.out) _)
  have hlt := HLT.out
  have hsl2 := Nat.le_of_eq hs
  have HS := Lib.hid hs
  have O0 := Own.at hW (Own.set (HO0.out) (by omega) _)
  have O1 := Own.at hW (Own.set (HO1.out) (by omega) _)
  clear hs hW HB0 HB1 HB2 HZ
  clear HO0
  clear HO1
  refine (toInt64S_any _ q.Schedule W2 B (Nat.le_trans hB hz.size) (Ty.rep_below _ H4.out (hz.mono hB)) (by omega)).mono ?_
  rintro e w2 ⟨⟨u4, rfl, OO⟩, hb⟩
  have hlt : w.heap.size + 3 ≤ W2.heap.size := by have := HS.out; omega
  have hle := hb.size
  have hb0 := blk_on hb hb0
  have hb1 := blk_on hb hb1
  have hb2 := blk_on hb hb2
  have O0 := Own.below O0 hb (by omega)
  have O1 := Own.below O1 hb (by omega)
  have hz := hz.trans (hb.mono hz.size)
  obtain ⟨ua2, uc2, rfl⟩ := Own.form OO
  have O2 := OO
  clear OO
  have c0 := cel7 hb0
  have f0 := celf hb0
  have HB0 := Lib.hid hb0
  clear hb0
  have c1 := cel7 hb1
  have f1 := celf hb1
  have HB1 := Lib.hid hb1
  clear hb1
  have c2 := cel7 hb2
  have f2 := celf hb2
  have HB2 := Lib.hid hb2
  clear hb2
  have HZ := Lib.hid hz
  have HLT := Lib.hid hlt
  clear hz hb hlt
  have HO0 := Lib.hid O0
  clear O0
  have HO1 := Lib.hid O1
  clear O1
  have HO2 := Lib.hid O2
  clear O2
  go_wp2_with fail
  refine bodyPost_ret (results_cell_row rfl _ _ (w.heap.size + 1) 46 _ _ _ rfl (blk_set (blk_set (blk_set (blk_set (blk_set (blk_set (blk_set (blk_far (HB1.out) _ (by simp <;> omega)) _) _) _) _) _) _) _) Try.underlying46 rfl (by kernel_rfl)) rfl ?_
  have hlt := HLT.out
  refine ⟨⟨_, _, _, _, _, rfl, ?_⟩, ((((((((HZ.out.setCell (by simp <;> omega) _).setCell (by simp <;> omega) _).setCell (by simp <;> omega) _).setCell (by simp <;> omega) _).setCell (by simp <;> omega) _).setCell (by simp <;> omega) _).setCell (by simp <;> omega) _).setCell (by simp <;> omega) _)⟩
  refine Own.mono (lo := W0.heap.size) (hi := w2.heap.size) ?_ (by have := HS.out; omega) (by simp only [World.size_setCell]; exact Nat.le_refl _)
  exact Desk.own_mk (Own.mono (lo := W0.heap.size) (hi' := W1.heap.size) (Own.set (Own.set (Own.set (Own.set (Own.set (Own.set (Own.set (Own.set (HO0.out) (by omega) _) (by omega) _) (by omega) _) (by omega) _) (by omega) _) (by omega) _) (by omega) _) (by omega) _) (Nat.le_refl _) (by omega)) (Own.mono (lo := W1.heap.size) (hi' := W2.heap.size) (Own.set (Own.set (Own.set (Own.set (Own.set (Own.set (Own.set (Own.set (HO1.out) (by omega) _) (by omega) _) (by omega) _) (by omega) _) (by omega) _) (by omega) _) (by omega) _) (by omega) _) (Nat.le_refl _) (by omega)) (Own.mono (lo := W2.heap.size) (hi' := w2.heap.size) (Own.set (Own.set (Own.set (Own.set (Own.set (Own.set (Own.set (Own.set (HO2.out) (by omega) _) (by omega) _) (by omega) _) (by omega) _) (by omega) _) (by omega) _) (by omega) _) (by omega) _) (Nat.le_refl _) (by omega)) (by omega) (by omega) (by omega)

end Go.Proofs.Ytaboiekbjcmdgaa
