/- Laws that the proof stands on. -/
import Derived.Test.YtgnlikamelfmjaaRows
import Derived.Test.YtgnlikamelfmjaaZLib
set_option linter.all false
namespace Go.Proofs.Ytgnlikamelfmjaa
open Go.RowKit Go.ChangeShapes Go.WideShapes Go.ChangeAt
structure Point where
  X : Int
  Y : Int
  deriving DecidableEq
def Point.ty : Ty Point := Ty.via (Ty.prod (Ty.int .i64) (Ty.int .i64)) (fun x => (x.X, x.Y))
theorem Point.cells {w : World} {B : Nat} {cs : List Value} {x : Point} (h : Point.ty.rep w B cs x) : cs = [.int .i64 x.X, .int .i64 x.Y] ∧ InK .i64 x.X ∧ InK .i64 x.Y := by obtain ⟨_, _, rfl, h0, h1⟩ := h; obtain ⟨rfl, i0⟩ := h0; obtain ⟨rfl, i1⟩ := h1; exact ⟨rfl, i0, i1⟩
theorem Point.parts {w : World} {B : Nat} {x : Point} (h : Point.ty.rep w B [.int .i64 x.X, .int .i64 x.Y] x) : InK .i64 x.X ∧ InK .i64 x.Y := by obtain ⟨hh, r0, r1⟩ := Point.cells h; exact ⟨r0, r1⟩
set_option maxRecDepth 100000 in
theorem Point.reads : Reads Try.prog 69 Point.ty :=
  reads_via (t := (Ty.prod (Ty.int .i64) (Ty.int .i64))) (fun x : Point => (x.X, x.Y)) (fun y => ⟨y.1, y.2⟩) (fun _ => rfl) (reads_struct Try.underlying69 (by kernel_rfl) (fld_cons rfl (reads_int Try.underlying2 (by kernel_rfl)) (fld_one rfl (reads_int Try.underlying2 (by kernel_rfl)))))
set_option maxRecDepth 10000 in
set_option maxHeartbeats 1000000 in
theorem eqPoint_any (x : Point) (w : World) :
    Calls Try.prog 35 #[.agg #[.int .i64 x.X, .int .i64 x.Y], .agg #[.int .i64 x.X, .int .i64 x.Y]] w fun e w' => e = .returned (.bool true) ∧ Below w.heap.size w w' := by
  go_enter Try.func35, Try.ntmps35
  go_upto_region 1 with fail
  refine rebase ?_; intro W1 hW _; have hz : Below w.heap.size w W1 := by rw [hW]; go_grown
  have hb0 := at_of hW (push2_0 _ _ _); have c0 := box2 hb0; have f0 := boxf hb0; have B0 := Lib.hid hb0; clear hb0; have hb1 := at_of hW (push2_1 _ _ _); have c1 := box2 hb1; have f1 := boxf hb1; have B1 := Lib.hid hb1; clear hb1; have HW := Lib.hid hW; clear hW; go_wp2_with fail; go_ret; exact ⟨rfl, ext_end _ hz⟩
set_option maxRecDepth 10000 in
set_option maxHeartbeats 1000000 in
theorem eqPointS_any (v1 v2 : Value) (xs : List Point) (w : World) (B : Nat) (hB : B ≤ w.heap.size) (h1 : (Ty.slice 61 Point.ty).rep w B [v1] xs) (h2 : (Ty.slice 61 Point.ty).rep w B [v2] xs) :
    Calls Try.prog 11 #[v1, v2] w fun e w' => e = .returned (.bool true) ∧ Below w.heap.size w w' := by
  obtain ⟨a1, c1, rfl, _, hm1⟩ := Ty.form h1; obtain ⟨a2, c2, rfl, _, hm2⟩ := Ty.form h2; have hn : xs.length ≤ 9223372036854775807 := (by unfold maxLen at hm1; omega); clear hm1 hm2; refine rebaseC ?_; intro x; go_enter Try.func11, Try.ntmps11; go_wp2
  go_loopw [5] (fun i wr => ∃ k : Nat, k ≤ xs.length ∧ i = .int .i64 k ∧ ∃ z : Ext w, wr = w.to z) (fun i _ => xs.length - (intOf i).toNat)
  case atStart => exact ⟨0, Nat.zero_le _, rfl, x, rfl⟩
  case round =>
    obtain ⟨k, hk, rfl, z, rfl⟩ := hrel; by_cases hlt : k < xs.length
    · obtain ⟨b1, o1, cs1, rfl, hb1, g1, e1⟩ := Ty.elem h1 hB k hlt; obtain ⟨rfl, _, _⟩ := Point.cells e1; have d1_0 : ∀ z : Ext w, (w.to z).cell? ⟨b1, o1 + k * 2, none⟩ = some (.int .i64 xs[k].X) := g1 0 _ rfl; have d1_1 : ∀ z : Ext w, (w.to z).cell? ⟨b1, o1 + k * 2 + 1, none⟩ = some (.int .i64 xs[k].Y) := g1 1 _ rfl; clear g1; obtain ⟨b2, o2, cs2, rfl, hb2, g2, e2⟩ := Ty.elem h2 hB k hlt; obtain ⟨rfl, _, _⟩ := Point.cells e2; have d2_0 : ∀ z : Ext w, (w.to z).cell? ⟨b2, o2 + k * 2, none⟩ = some (.int .i64 xs[k].X) := g2 0 _ rfl; have d2_1 : ∀ z : Ext w, (w.to z).cell? ⟨b2, o2 + k * 2 + 1, none⟩ = some (.int .i64 xs[k].Y) := g2 1 _ rfl; clear g2; have hs := fun z : Ext w => eqPoint_any xs[k] (w.to z); have HS := Lib.hid hs; clear hs; go_wp2_with fail; refine wp_region_ext (by kernel_rfl) (by kernel_rfl) ?_
      repeat (go_big_quiet_step ((go_at_call 35; exact ext_call (HS.out _))))
      refine wpQuiet_nil ?_; rintro _ ⟨y, rfl⟩; go_wp2_with fail
      go_roundw
      case rel => exact ⟨k + 1, by omega, by go_num, y, rfl⟩
      case measure => simp [intOf]; omega
    · go_wp2_with fail
      go_ret; exact ⟨rfl, z.below⟩
set_option maxRecDepth 10000 in
set_option maxHeartbeats 1000000 in
theorem szPointS_any (v : Value) (xs : List Point) (l : Int) (hl0 : 0 ≤ l) (hl1 : l ≤ 1048576) (w : World) (B : Nat) (hB : B ≤ w.heap.size) (h : (Ty.slice 61 Point.ty).rep w B [v] xs) :
    Calls Try.prog 7 #[v, .int .i64 l] w fun e w' => e = .returned (.int .i64 (szR l (xs.length))) ∧ Below w.heap.size w w' := by
  have _ := hB; obtain ⟨a, c, rfl, hc, hm⟩ := Ty.form h; have hn : xs.length ≤ 9223372036854775807 := (by unfold maxLen at hm; omega); clear hm; by_cases g : (xs.length : Int) ≤ l
  · rw [szR_ok g]; go_enter Try.func7, Try.ntmps7; go_wp2; go_ret; exact ⟨rfl, by go_grown⟩
  · rw [szR_no g]; go_enter Try.func7, Try.ntmps7; go_wp2; go_ret; exact ⟨rfl, by go_grown⟩
structure Placed where
  At : Point
  Tile : Int
  deriving DecidableEq
def Placed.ty : Ty Placed := Ty.via (Ty.prod Point.ty (Ty.int .i64)) (fun x => (x.At, x.Tile))
theorem Placed.cells {w : World} {B : Nat} {cs : List Value} {x : Placed} (h : Placed.ty.rep w B cs x) : cs = [.int .i64 x.At.X, .int .i64 x.At.Y, .int .i64 x.Tile] ∧ InK .i64 x.At.X ∧ InK .i64 x.At.Y ∧ InK .i64 x.Tile := by obtain ⟨_, _, rfl, h0, h1⟩ := h; obtain ⟨rfl, i0_0, i0_1⟩ := Point.cells h0; obtain ⟨rfl, i1⟩ := h1; exact ⟨rfl, i0_0, i0_1, i1⟩
theorem Placed.parts {w : World} {B : Nat} {x : Placed} (h : Placed.ty.rep w B [.int .i64 x.At.X, .int .i64 x.At.Y, .int .i64 x.Tile] x) : InK .i64 x.At.X ∧ InK .i64 x.At.Y ∧ InK .i64 x.Tile := by obtain ⟨hh, r0, r1, r2⟩ := Placed.cells h; exact ⟨r0, r1, r2⟩
set_option maxRecDepth 100000 in
theorem Placed.reads : Reads Try.prog 126 Placed.ty :=
  reads_via (t := (Ty.prod Point.ty (Ty.int .i64))) (fun x : Placed => (x.At, x.Tile)) (fun y => ⟨y.1, y.2⟩) (fun _ => rfl) (reads_struct Try.underlying126 (by kernel_rfl) (fld_cons rfl (Point.reads) (fld_one rfl (reads_int Try.underlying2 (by kernel_rfl)))))
structure Assembly where
  Tiles : List Placed
  deriving DecidableEq
def Assembly.ty : Ty Assembly := Ty.via ((Ty.slice 101 Placed.ty)) (fun x => x.Tiles)
def Assembly.cnt (x : Assembly) : Nat := x.Tiles.length
theorem Assembly.cells {w : World} {B : Nat} {cs : List Value} {x : Assembly} (h : Assembly.ty.rep w B cs x) : ∃ v0 : Value, cs = [v0] ∧ (Ty.slice 101 Placed.ty).rep w B [v0] x.Tiles := by have h0 : (Ty.slice 101 Placed.ty).rep w B cs x.Tiles := h; obtain ⟨u0, rfl⟩ := Ty.slice_one h0; exact ⟨_, rfl, h0⟩
theorem Assembly.parts {w : World} {B : Nat} {v0 : Value} {x : Assembly} (h : Assembly.ty.rep w B [v0] x) : (Ty.slice 101 Placed.ty).rep w B [v0] x.Tiles := by obtain ⟨e0, hh, r0⟩ := Assembly.cells h; simp only [List.cons.injEq, and_true, true_and] at hh; subst hh; exact r0
set_option maxRecDepth 100000 in
theorem Assembly.reads : Reads Try.prog 35 Assembly.ty :=
  reads_via (t := ((Ty.slice 101 Placed.ty))) (fun x : Assembly => x.Tiles) (fun y => ⟨y⟩) (fun _ => rfl) (reads_struct Try.underlying35 (by kernel_rfl) (fld_one rfl (reads_slice Try.underlying33 (by kernel_rfl) (by decide) (Placed.reads))))
end Go.Proofs.Ytgnlikamelfmjaa
