/- Laws that the proof stands on. -/
import Derived.Test.YtbflchedmfeghaaDoorRows
import Derived.Test.YtbflchedmfeghaaDoorZLib
import Derived.Test.YtbflchedmfeghaaDoorZg6
import Derived.Test.YtbflchedmfeghaaDoorZMark
set_option linter.all false
namespace Go.Proofs.YtbflchedmfeghaaDoor
open Go.RowKit Go.ChangeShapes Go.WideShapes Go.ChangeAt
structure Glue where
  Name : ByteArray
  Strength : Int
  deriving DecidableEq
def Glue.ty : Ty Glue := Ty.via (Ty.prod Ty.str (Ty.int .i64)) (fun x => (x.Name, x.Strength))
def Glue.cnt (x : Glue) : Nat := x.Name.size
theorem Glue.cells {w : World} {B : Nat} {cs : List Value} {x : Glue} (h : Glue.ty.rep w B cs x) : cs = [.string x.Name, .int .i64 x.Strength] ∧ x.Name.size ≤ maxLen ∧ InK .i64 x.Strength := by obtain ⟨_, _, rfl, h0, h1⟩ := h; obtain ⟨rfl, i0⟩ := h0; obtain ⟨rfl, i1⟩ := h1; exact ⟨rfl, i0, i1⟩
theorem Glue.parts {w : World} {B : Nat} {x : Glue} (h : Glue.ty.rep w B [.string x.Name, .int .i64 x.Strength] x) : x.Name.size ≤ maxLen ∧ InK .i64 x.Strength := by obtain ⟨hh, r0, r1⟩ := Glue.cells h; exact ⟨r0, r1⟩
theorem Glue.rep_mk {w : World} {B : Nat} {x : Glue} (h0 : x.Name.size ≤ maxLen) (h1 : InK .i64 x.Strength) : Glue.ty.rep w B [.string x.Name, .int .i64 x.Strength] x :=
  ⟨_, _, rfl, ⟨rfl, h0⟩, ⟨rfl, h1⟩⟩
set_option maxRecDepth 10000 in
set_option maxHeartbeats 1000000 in
theorem eqGlue_any (x : Glue) (w : World) :
    Calls Tryd.prog 71 #[.agg #[.string x.Name, .int .i64 x.Strength], .agg #[.string x.Name, .int .i64 x.Strength]] w fun e w' => e = .returned (.bool true) ∧ Below w.heap.size w w' := by
  go_enter Tryd.func71, Tryd.ntmps71
  go_upto_region 1 with fail
  refine rebase ?_; intro W1 hW _; have hz : Below w.heap.size w W1 := by rw [hW]; go_grown
  have hb0 := at_of hW (push2_0 _ _ _); have c0 := box2 hb0; have f0 := boxf hb0; have B0 := Lib.hid hb0; clear hb0; have hb1 := at_of hW (push2_1 _ _ _); have c1 := box2 hb1; have f1 := boxf hb1; have B1 := Lib.hid hb1; clear hb1; have HW := Lib.hid hW; clear hW; go_wp2_with fail; go_ret; exact ⟨rfl, ext_end _ hz⟩
set_option maxRecDepth 10000 in
set_option maxHeartbeats 1000000 in
theorem eqGlueS_any (v1 v2 : Value) (xs : List Glue) (w : World) (B : Nat) (hB : B ≤ w.heap.size) (h1 : (Ty.slice 71 Glue.ty).rep w B [v1] xs) (h2 : (Ty.slice 71 Glue.ty).rep w B [v2] xs) :
    Calls Tryd.prog 57 #[v1, v2] w fun e w' => e = .returned (.bool true) ∧ Below w.heap.size w w' := by
  obtain ⟨a1, c1, rfl, _, hm1⟩ := Ty.form h1; obtain ⟨a2, c2, rfl, _, hm2⟩ := Ty.form h2; have hn : xs.length ≤ 9223372036854775807 := (by unfold maxLen at hm1; omega); clear hm1 hm2; refine rebaseC ?_; intro x; go_enter Tryd.func57, Tryd.ntmps57; go_wp2
  go_loopw [5] (fun i wr => ∃ k : Nat, k ≤ xs.length ∧ i = .int .i64 k ∧ ∃ z : Ext w, wr = w.to z) (fun i _ => xs.length - (intOf i).toNat)
  case atStart => exact ⟨0, Nat.zero_le _, rfl, x, rfl⟩
  case round =>
    obtain ⟨k, hk, rfl, z, rfl⟩ := hrel; by_cases hlt : k < xs.length
    · obtain ⟨b1, o1, cs1, rfl, hb1, g1, e1⟩ := Ty.elem h1 hB k hlt; obtain ⟨rfl, _, _⟩ := Glue.cells e1; have d1_0 : ∀ z : Ext w, (w.to z).cell? ⟨b1, o1 + k * 2, none⟩ = some (.string xs[k].Name) := g1 0 _ rfl; have d1_1 : ∀ z : Ext w, (w.to z).cell? ⟨b1, o1 + k * 2 + 1, none⟩ = some (.int .i64 xs[k].Strength) := g1 1 _ rfl; clear g1; obtain ⟨b2, o2, cs2, rfl, hb2, g2, e2⟩ := Ty.elem h2 hB k hlt; obtain ⟨rfl, _, _⟩ := Glue.cells e2; have d2_0 : ∀ z : Ext w, (w.to z).cell? ⟨b2, o2 + k * 2, none⟩ = some (.string xs[k].Name) := g2 0 _ rfl; have d2_1 : ∀ z : Ext w, (w.to z).cell? ⟨b2, o2 + k * 2 + 1, none⟩ = some (.int .i64 xs[k].Strength) := g2 1 _ rfl; clear g2; have hs := fun z : Ext w => eqGlue_any xs[k] (w.to z); have HS := Lib.hid hs; clear hs; go_wp2_with fail; refine wp_region_ext (by kernel_rfl) (by kernel_rfl) ?_
      repeat (go_big_quiet_step ((go_at_call 71; exact ext_call (HS.out _))))
      refine wpQuiet_nil ?_; rintro _ ⟨y, rfl⟩; go_wp2_with fail
      go_roundw
      case rel => exact ⟨k + 1, by omega, by go_num, y, rfl⟩
      case measure => simp [intOf]; omega
    · go_wp2_with fail
      go_ret; exact ⟨rfl, z.below⟩
structure Tile where
  Name : ByteArray
  Sides : List Int
  deriving DecidableEq
def Tile.ty : Ty Tile := Ty.via (Ty.prod Ty.str (Ty.slice 2 (Ty.int .i64))) (fun x => (x.Name, x.Sides))
def Tile.cnt (x : Tile) : Nat := x.Name.size + x.Sides.length
theorem Tile.cells {w : World} {B : Nat} {cs : List Value} {x : Tile} (h : Tile.ty.rep w B cs x) : ∃ v0 : Value, cs = [.string x.Name, v0] ∧ x.Name.size ≤ maxLen ∧ (Ty.slice 2 (Ty.int .i64)).rep w B [v0] x.Sides := by obtain ⟨_, _, rfl, h0, h1⟩ := h; obtain ⟨rfl, i0⟩ := h0; obtain ⟨u1, rfl⟩ := Ty.slice_one h1; exact ⟨_, rfl, i0, h1⟩
theorem Tile.parts {w : World} {B : Nat} {v0 : Value} {x : Tile} (h : Tile.ty.rep w B [.string x.Name, v0] x) : x.Name.size ≤ maxLen ∧ (Ty.slice 2 (Ty.int .i64)).rep w B [v0] x.Sides := by obtain ⟨e0, hh, r0, r1⟩ := Tile.cells h; simp only [List.cons.injEq, and_true, true_and] at hh; subst hh; exact ⟨r0, r1⟩
theorem Tile.rep_mk {w : World} {B : Nat} {v0 : Value} {x : Tile} (h0 : x.Name.size ≤ maxLen) (h1 : (Ty.slice 2 (Ty.int .i64)).rep w B [v0] x.Sides) : Tile.ty.rep w B [.string x.Name, v0] x :=
  ⟨_, _, rfl, ⟨rfl, h0⟩, h1⟩
set_option maxRecDepth 10000 in
set_option maxHeartbeats 1000000 in
theorem eqTile_any (v0 u0 : Value) (x : Tile) (w : World) (B : Nat) (hB : B ≤ w.heap.size) (h0 : (Ty.slice 2 (Ty.int .i64)).rep w B [v0] x.Sides) (k0 : (Ty.slice 2 (Ty.int .i64)).rep w B [u0] x.Sides) :
    Calls Tryd.prog 72 #[.agg #[.string x.Name, v0], .agg #[.string x.Name, u0]] w fun e w' => e = .returned (.bool true) ∧ Below w.heap.size w w' := by
  go_enter Tryd.func72, Tryd.ntmps72
  go_upto_region 1 with fail
  refine rebase ?_; intro W1 hW _; have hz : Below w.heap.size w W1 := by rw [hW]; go_grown
  have hb0 := at_of hW (push2_0 _ _ _); have c0 := box2 hb0; have f0 := boxf hb0; have B0 := Lib.hid hb0; clear hb0; have hb1 := at_of hW (push2_1 _ _ _); have c1 := box2 hb1; have f1 := boxf hb1; have B1 := Lib.hid hb1; clear hb1; have HW := Lib.hid hW; clear hW; have hs0 := fun z : Ext W1 => eqInt64S_any v0 u0 x.Sides (W1.to z) B (Nat.le_trans hB (ext_end z hz).size) (Ty.rep_below _ h0 ((ext_end z hz).mono hB)) (Ty.rep_below _ k0 ((ext_end z hz).mono hB)); have HS0 := Lib.hid hs0; clear hs0; go_wp2_with fail
  first
    | (refine call_ext (HS0.out _) ?_; intro y)
    | (refine wp_region_ext (by kernel_rfl) (by kernel_rfl) ?_; repeat (go_big_quiet_step ((go_at_call 16; exact ext_call (HS0.out _)))); refine wpQuiet_nil ?_; rintro _ ⟨y, rfl⟩)
  go_wp2_with fail
  go_ret; exact ⟨rfl, ext_end _ hz⟩
set_option maxRecDepth 10000 in
set_option maxHeartbeats 1000000 in
theorem eqTileS_any (v1 v2 : Value) (xs : List Tile) (w : World) (B : Nat) (hB : B ≤ w.heap.size) (h1 : (Ty.slice 80 Tile.ty).rep w B [v1] xs) (h2 : (Ty.slice 80 Tile.ty).rep w B [v2] xs) :
    Calls Tryd.prog 58 #[v1, v2] w fun e w' => e = .returned (.bool true) ∧ Below w.heap.size w w' := by
  obtain ⟨a1, c1, rfl, _, hm1⟩ := Ty.form h1; obtain ⟨a2, c2, rfl, _, hm2⟩ := Ty.form h2; have hn : xs.length ≤ 9223372036854775807 := (by unfold maxLen at hm1; omega); clear hm1 hm2; refine rebaseC ?_; intro x; go_enter Tryd.func58, Tryd.ntmps58; go_wp2
  go_loopw [5] (fun i wr => ∃ k : Nat, k ≤ xs.length ∧ i = .int .i64 k ∧ ∃ z : Ext w, wr = w.to z) (fun i _ => xs.length - (intOf i).toNat)
  case atStart => exact ⟨0, Nat.zero_le _, rfl, x, rfl⟩
  case round =>
    obtain ⟨k, hk, rfl, z, rfl⟩ := hrel; by_cases hlt : k < xs.length
    · obtain ⟨b1, o1, cs1, rfl, hb1, g1, e1⟩ := Ty.elem h1 hB k hlt; obtain ⟨p1_0, rfl, _, r1_1⟩ := Tile.cells e1; have d1_0 : ∀ z : Ext w, (w.to z).cell? ⟨b1, o1 + k * 2, none⟩ = some (.string xs[k].Name) := g1 0 _ rfl; have d1_1 : ∀ z : Ext w, (w.to z).cell? ⟨b1, o1 + k * 2 + 1, none⟩ = some (p1_0) := g1 1 _ rfl; clear g1; obtain ⟨b2, o2, cs2, rfl, hb2, g2, e2⟩ := Ty.elem h2 hB k hlt; obtain ⟨p2_0, rfl, _, r2_1⟩ := Tile.cells e2; have d2_0 : ∀ z : Ext w, (w.to z).cell? ⟨b2, o2 + k * 2, none⟩ = some (.string xs[k].Name) := g2 0 _ rfl; have d2_1 : ∀ z : Ext w, (w.to z).cell? ⟨b2, o2 + k * 2 + 1, none⟩ = some (p2_0) := g2 1 _ rfl; clear g2; have hs := fun z : Ext w => eqTile_any p1_0 p2_0 xs[k] (w.to z) B (Nat.le_trans hB z.below.size) (Ty.rep_to _ hB r1_1 z) (Ty.rep_to _ hB r2_1 z); have HS := Lib.hid hs; clear hs; go_wp2_with fail; refine wp_region_ext (by kernel_rfl) (by kernel_rfl) ?_
      repeat (go_big_quiet_step ((go_at_call 72; exact ext_call (HS.out _))))
      refine wpQuiet_nil ?_; rintro _ ⟨y, rfl⟩; go_wp2_with fail
      go_roundw
      case rel => exact ⟨k + 1, by omega, by go_num, y, rfl⟩
      case measure => simp [intOf]; omega
    · go_wp2_with fail
      go_ret; exact ⟨rfl, z.below⟩
structure TileSet where
  Glues : List Glue
  Tiles : List Tile
  deriving DecidableEq
def TileSet.ty : Ty TileSet := Ty.via (Ty.prod (Ty.slice 71 Glue.ty) (Ty.slice 80 Tile.ty)) (fun x => (x.Glues, x.Tiles))
def TileSet.cnt (x : TileSet) : Nat := cntL Glue.cnt x.Glues + cntL Tile.cnt x.Tiles
theorem TileSet.cells {w : World} {B : Nat} {cs : List Value} {x : TileSet} (h : TileSet.ty.rep w B cs x) : ∃ v0 v1 : Value, cs = [v0, v1] ∧ (Ty.slice 71 Glue.ty).rep w B [v0] x.Glues ∧ (Ty.slice 80 Tile.ty).rep w B [v1] x.Tiles := by obtain ⟨_, _, rfl, h0, h1⟩ := h; obtain ⟨u0, rfl⟩ := Ty.slice_one h0; obtain ⟨u1, rfl⟩ := Ty.slice_one h1; exact ⟨_, _, rfl, h0, h1⟩
theorem TileSet.parts {w : World} {B : Nat} {v0 v1 : Value} {x : TileSet} (h : TileSet.ty.rep w B [v0, v1] x) : (Ty.slice 71 Glue.ty).rep w B [v0] x.Glues ∧ (Ty.slice 80 Tile.ty).rep w B [v1] x.Tiles := by obtain ⟨e0, e1, hh, r0, r1⟩ := TileSet.cells h; simp only [List.cons.injEq, and_true, true_and] at hh; obtain ⟨rfl, rfl⟩ := hh; exact ⟨r0, r1⟩
theorem TileSet.rep_mk {w : World} {B : Nat} {v0 v1 : Value} {x : TileSet} (h0 : (Ty.slice 71 Glue.ty).rep w B [v0] x.Glues) (h1 : (Ty.slice 80 Tile.ty).rep w B [v1] x.Tiles) : TileSet.ty.rep w B [v0, v1] x :=
  ⟨_, _, rfl, h0, h1⟩
set_option maxRecDepth 10000 in
set_option maxHeartbeats 1000000 in
theorem eqTileSet_any (v0 v1 u0 u1 : Value) (x : TileSet) (w : World) (B : Nat) (hB : B ≤ w.heap.size) (h0 : (Ty.slice 71 Glue.ty).rep w B [v0] x.Glues) (h1 : (Ty.slice 80 Tile.ty).rep w B [v1] x.Tiles) (k0 : (Ty.slice 71 Glue.ty).rep w B [u0] x.Glues) (k1 : (Ty.slice 80 Tile.ty).rep w B [u1] x.Tiles) :
    Calls Tryd.prog 37 #[.agg #[v0, v1], .agg #[u0, u1]] w fun e w' => e = .returned (.bool true) ∧ Below w.heap.size w w' := by
  go_enter Tryd.func37, Tryd.ntmps37
  go_upto_region 1 with fail
  refine rebase ?_; intro W1 hW _; have hz : Below w.heap.size w W1 := by rw [hW]; go_grown
  have hb0 := at_of hW (push2_0 _ _ _); have c0 := box2 hb0; have f0 := boxf hb0; have B0 := Lib.hid hb0; clear hb0; have hb1 := at_of hW (push2_1 _ _ _); have c1 := box2 hb1; have f1 := boxf hb1; have B1 := Lib.hid hb1; clear hb1; have HW := Lib.hid hW; clear hW; have hs0 := fun z : Ext W1 => eqGlueS_any v0 u0 x.Glues (W1.to z) B (Nat.le_trans hB (ext_end z hz).size) (Ty.rep_below _ h0 ((ext_end z hz).mono hB)) (Ty.rep_below _ k0 ((ext_end z hz).mono hB)); have HS0 := Lib.hid hs0; clear hs0; have hs1 := fun z : Ext W1 => eqTileS_any v1 u1 x.Tiles (W1.to z) B (Nat.le_trans hB (ext_end z hz).size) (Ty.rep_below _ h1 ((ext_end z hz).mono hB)) (Ty.rep_below _ k1 ((ext_end z hz).mono hB)); have HS1 := Lib.hid hs1; clear hs1; go_wp2_with fail
  first
    | (refine call_ext (HS0.out _) ?_; intro y)
    | (refine wp_region_ext (by kernel_rfl) (by kernel_rfl) ?_; repeat (go_big_quiet_step ((go_at_call 57; exact ext_call (HS0.out _)))); refine wpQuiet_nil ?_; rintro _ ⟨y, rfl⟩)
  go_wp2_with fail
  first
    | (refine call_ext (HS1.out _) ?_; intro y)
    | (refine wp_region_ext (by kernel_rfl) (by kernel_rfl) ?_; repeat (go_big_quiet_step ((go_at_call 58; exact ext_call (HS1.out _)))); refine wpQuiet_nil ?_; rintro _ ⟨y, rfl⟩)
  go_wp2_with fail
  go_ret; exact ⟨rfl, ext_end _ hz⟩
structure Point where
  X : Int
  Y : Int
  deriving DecidableEq
def Point.ty : Ty Point := Ty.via (Ty.prod (Ty.int .i64) (Ty.int .i64)) (fun x => (x.X, x.Y))
theorem Point.cells {w : World} {B : Nat} {cs : List Value} {x : Point} (h : Point.ty.rep w B cs x) : cs = [.int .i64 x.X, .int .i64 x.Y] ∧ InK .i64 x.X ∧ InK .i64 x.Y := by obtain ⟨_, _, rfl, h0, h1⟩ := h; obtain ⟨rfl, i0⟩ := h0; obtain ⟨rfl, i1⟩ := h1; exact ⟨rfl, i0, i1⟩
theorem Point.parts {w : World} {B : Nat} {x : Point} (h : Point.ty.rep w B [.int .i64 x.X, .int .i64 x.Y] x) : InK .i64 x.X ∧ InK .i64 x.Y := by obtain ⟨hh, r0, r1⟩ := Point.cells h; exact ⟨r0, r1⟩
theorem Point.rep_mk {w : World} {B : Nat} {x : Point} (h0 : InK .i64 x.X) (h1 : InK .i64 x.Y) : Point.ty.rep w B [.int .i64 x.X, .int .i64 x.Y] x :=
  ⟨_, _, rfl, ⟨rfl, h0⟩, ⟨rfl, h1⟩⟩
set_option maxRecDepth 10000 in
set_option maxHeartbeats 1000000 in
theorem eqPoint_any (x : Point) (w : World) :
    Calls Tryd.prog 79 #[.agg #[.int .i64 x.X, .int .i64 x.Y], .agg #[.int .i64 x.X, .int .i64 x.Y]] w fun e w' => e = .returned (.bool true) ∧ Below w.heap.size w w' := by
  go_enter Tryd.func79, Tryd.ntmps79
  go_upto_region 1 with fail
  refine rebase ?_; intro W1 hW _; have hz : Below w.heap.size w W1 := by rw [hW]; go_grown
  have hb0 := at_of hW (push2_0 _ _ _); have c0 := box2 hb0; have f0 := boxf hb0; have B0 := Lib.hid hb0; clear hb0; have hb1 := at_of hW (push2_1 _ _ _); have c1 := box2 hb1; have f1 := boxf hb1; have B1 := Lib.hid hb1; clear hb1; have HW := Lib.hid hW; clear hW; go_wp2_with fail; go_ret; exact ⟨rfl, ext_end _ hz⟩
structure Placed where
  At : Point
  Tile : Int
  deriving DecidableEq
def Placed.ty : Ty Placed := Ty.via (Ty.prod Point.ty (Ty.int .i64)) (fun x => (x.At, x.Tile))
theorem Placed.cells {w : World} {B : Nat} {cs : List Value} {x : Placed} (h : Placed.ty.rep w B cs x) : cs = [.int .i64 x.At.X, .int .i64 x.At.Y, .int .i64 x.Tile] ∧ InK .i64 x.At.X ∧ InK .i64 x.At.Y ∧ InK .i64 x.Tile := by obtain ⟨_, _, rfl, h0, h1⟩ := h; obtain ⟨rfl, i0_0, i0_1⟩ := Point.cells h0; obtain ⟨rfl, i1⟩ := h1; exact ⟨rfl, i0_0, i0_1, i1⟩
theorem Placed.parts {w : World} {B : Nat} {x : Placed} (h : Placed.ty.rep w B [.int .i64 x.At.X, .int .i64 x.At.Y, .int .i64 x.Tile] x) : InK .i64 x.At.X ∧ InK .i64 x.At.Y ∧ InK .i64 x.Tile := by obtain ⟨hh, r0, r1, r2⟩ := Placed.cells h; exact ⟨r0, r1, r2⟩
theorem Placed.rep_mk {w : World} {B : Nat} {x : Placed} (h0 : InK .i64 x.At.X) (h1 : InK .i64 x.At.Y) (h2 : InK .i64 x.Tile) : Placed.ty.rep w B [.int .i64 x.At.X, .int .i64 x.At.Y, .int .i64 x.Tile] x :=
  ⟨_, _, rfl, Point.rep_mk h0 h1, ⟨rfl, h2⟩⟩
set_option maxRecDepth 10000 in
set_option maxHeartbeats 1000000 in
theorem eqPlaced_any (x : Placed) (w : World) :
    Calls Tryd.prog 73 #[.agg #[.int .i64 x.At.X, .int .i64 x.At.Y, .int .i64 x.Tile], .agg #[.int .i64 x.At.X, .int .i64 x.At.Y, .int .i64 x.Tile]] w fun e w' => e = .returned (.bool true) ∧ Below w.heap.size w w' := by
  go_enter Tryd.func73, Tryd.ntmps73
  go_upto_region 1 with fail
  refine rebase ?_; intro W1 hW _; have hz : Below w.heap.size w W1 := by rw [hW]; go_grown
  have hb0 := at_of hW (push2_0 _ _ _); have c0 := box3 hb0; have f0 := boxf hb0; have B0 := Lib.hid hb0; clear hb0; have hb1 := at_of hW (push2_1 _ _ _); have c1 := box3 hb1; have f1 := boxf hb1; have B1 := Lib.hid hb1; clear hb1; have HW := Lib.hid hW; clear hW; have hs0 := fun z : Ext W1 => eqPoint_any x.At (W1.to z); have HS0 := Lib.hid hs0; clear hs0; go_wp2_with fail
  first
    | (refine call_ext (HS0.out _) ?_; intro y)
    | (refine wp_region_ext (by kernel_rfl) (by kernel_rfl) ?_; repeat (go_big_quiet_step ((go_at_call 79; exact ext_call (HS0.out _)))); refine wpQuiet_nil ?_; rintro _ ⟨y, rfl⟩)
  go_wp2_with fail
  go_ret; exact ⟨rfl, ext_end _ hz⟩
set_option maxRecDepth 10000 in
set_option maxHeartbeats 1000000 in
theorem eqPlacedS_any (v1 v2 : Value) (xs : List Placed) (w : World) (B : Nat) (hB : B ≤ w.heap.size) (h1 : (Ty.slice 84 Placed.ty).rep w B [v1] xs) (h2 : (Ty.slice 84 Placed.ty).rep w B [v2] xs) :
    Calls Tryd.prog 59 #[v1, v2] w fun e w' => e = .returned (.bool true) ∧ Below w.heap.size w w' := by
  obtain ⟨a1, c1, rfl, _, hm1⟩ := Ty.form h1; obtain ⟨a2, c2, rfl, _, hm2⟩ := Ty.form h2; have hn : xs.length ≤ 9223372036854775807 := (by unfold maxLen at hm1; omega); clear hm1 hm2; refine rebaseC ?_; intro x; go_enter Tryd.func59, Tryd.ntmps59; go_wp2
  go_loopw [5] (fun i wr => ∃ k : Nat, k ≤ xs.length ∧ i = .int .i64 k ∧ ∃ z : Ext w, wr = w.to z) (fun i _ => xs.length - (intOf i).toNat)
  case atStart => exact ⟨0, Nat.zero_le _, rfl, x, rfl⟩
  case round =>
    obtain ⟨k, hk, rfl, z, rfl⟩ := hrel; by_cases hlt : k < xs.length
    · obtain ⟨b1, o1, cs1, rfl, hb1, g1, e1⟩ := Ty.elem h1 hB k hlt; obtain ⟨rfl, _, _, _⟩ := Placed.cells e1; have d1_0 : ∀ z : Ext w, (w.to z).cell? ⟨b1, o1 + k * 3, none⟩ = some (.int .i64 xs[k].At.X) := g1 0 _ rfl; have d1_1 : ∀ z : Ext w, (w.to z).cell? ⟨b1, o1 + k * 3 + 1, none⟩ = some (.int .i64 xs[k].At.Y) := g1 1 _ rfl; have d1_2 : ∀ z : Ext w, (w.to z).cell? ⟨b1, o1 + k * 3 + 2, none⟩ = some (.int .i64 xs[k].Tile) := g1 2 _ rfl; clear g1; obtain ⟨b2, o2, cs2, rfl, hb2, g2, e2⟩ := Ty.elem h2 hB k hlt; obtain ⟨rfl, _, _, _⟩ := Placed.cells e2; have d2_0 : ∀ z : Ext w, (w.to z).cell? ⟨b2, o2 + k * 3, none⟩ = some (.int .i64 xs[k].At.X) := g2 0 _ rfl; have d2_1 : ∀ z : Ext w, (w.to z).cell? ⟨b2, o2 + k * 3 + 1, none⟩ = some (.int .i64 xs[k].At.Y) := g2 1 _ rfl; have d2_2 : ∀ z : Ext w, (w.to z).cell? ⟨b2, o2 + k * 3 + 2, none⟩ = some (.int .i64 xs[k].Tile) := g2 2 _ rfl; clear g2; have hs := fun z : Ext w => eqPlaced_any xs[k] (w.to z); have HS := Lib.hid hs; clear hs; go_wp2_with fail; refine wp_region_ext (by kernel_rfl) (by kernel_rfl) ?_
      repeat (go_big_quiet_step ((go_at_call 73; exact ext_call (HS.out _))))
      refine wpQuiet_nil ?_; rintro _ ⟨y, rfl⟩; go_wp2_with fail
      go_roundw
      case rel => exact ⟨k + 1, by omega, by go_num, y, rfl⟩
      case measure => simp [intOf]; omega
    · go_wp2_with fail
      go_ret; exact ⟨rfl, z.below⟩
structure Assembly where
  Tiles : List Placed
  deriving DecidableEq
def Assembly.ty : Ty Assembly := Ty.via ((Ty.slice 84 Placed.ty)) (fun x => x.Tiles)
def Assembly.cnt (x : Assembly) : Nat := x.Tiles.length
theorem Assembly.cells {w : World} {B : Nat} {cs : List Value} {x : Assembly} (h : Assembly.ty.rep w B cs x) : ∃ v0 : Value, cs = [v0] ∧ (Ty.slice 84 Placed.ty).rep w B [v0] x.Tiles := by have h0 : (Ty.slice 84 Placed.ty).rep w B cs x.Tiles := h; obtain ⟨u0, rfl⟩ := Ty.slice_one h0; exact ⟨_, rfl, h0⟩
theorem Assembly.parts {w : World} {B : Nat} {v0 : Value} {x : Assembly} (h : Assembly.ty.rep w B [v0] x) : (Ty.slice 84 Placed.ty).rep w B [v0] x.Tiles := by obtain ⟨e0, hh, r0⟩ := Assembly.cells h; simp only [List.cons.injEq, and_true, true_and] at hh; subst hh; exact r0
theorem Assembly.rep_mk {w : World} {B : Nat} {v0 : Value} {x : Assembly} (h0 : (Ty.slice 84 Placed.ty).rep w B [v0] x.Tiles) : Assembly.ty.rep w B [v0] x :=
  h0
set_option maxRecDepth 10000 in
set_option maxHeartbeats 1000000 in
theorem eqAssembly_any (v0 u0 : Value) (x : Assembly) (w : World) (B : Nat) (hB : B ≤ w.heap.size) (h0 : (Ty.slice 84 Placed.ty).rep w B [v0] x.Tiles) (k0 : (Ty.slice 84 Placed.ty).rep w B [u0] x.Tiles) :
    Calls Tryd.prog 38 #[.agg #[v0], .agg #[u0]] w fun e w' => e = .returned (.bool true) ∧ Below w.heap.size w w' := by
  go_enter Tryd.func38, Tryd.ntmps38
  go_upto_region 1 with fail
  refine rebase ?_; intro W1 hW _; have hz : Below w.heap.size w W1 := by rw [hW]; go_grown
  have hb0 := at_of hW (push2_0 _ _ _); have c0 := box1 hb0; have f0 := boxf hb0; have B0 := Lib.hid hb0; clear hb0; have hb1 := at_of hW (push2_1 _ _ _); have c1 := box1 hb1; have f1 := boxf hb1; have B1 := Lib.hid hb1; clear hb1; have HW := Lib.hid hW; clear hW; have hs0 := fun z : Ext W1 => eqPlacedS_any v0 u0 x.Tiles (W1.to z) B (Nat.le_trans hB (ext_end z hz).size) (Ty.rep_below _ h0 ((ext_end z hz).mono hB)) (Ty.rep_below _ k0 ((ext_end z hz).mono hB)); have HS0 := Lib.hid hs0; clear hs0; go_wp2_with fail
  first
    | (refine call_ext (HS0.out _) ?_; intro y)
    | (refine wp_region_ext (by kernel_rfl) (by kernel_rfl) ?_; repeat (go_big_quiet_step ((go_at_call 59; exact ext_call (HS0.out _)))); refine wpQuiet_nil ?_; rintro _ ⟨y, rfl⟩)
  go_wp2_with fail
  go_ret; exact ⟨rfl, ext_end _ hz⟩
structure System where
  Set : TileSet
  Seed : Assembly
  Temperature : Int
  deriving DecidableEq
def System.ty : Ty System := Ty.via (Ty.prod TileSet.ty (Ty.prod Assembly.ty (Ty.int .i64))) (fun x => (x.Set, x.Seed, x.Temperature))
def System.cnt (x : System) : Nat := TileSet.cnt x.Set + Assembly.cnt x.Seed
theorem System.cells {w : World} {B : Nat} {cs : List Value} {x : System} (h : System.ty.rep w B cs x) : ∃ v0 v1 v2 : Value, cs = [v0, v1, v2, .int .i64 x.Temperature] ∧ (Ty.slice 71 Glue.ty).rep w B [v0] x.Set.Glues ∧ (Ty.slice 80 Tile.ty).rep w B [v1] x.Set.Tiles ∧ (Ty.slice 84 Placed.ty).rep w B [v2] x.Seed.Tiles ∧ InK .i64 x.Temperature := by obtain ⟨_, _, rfl, h0, _, _, rfl, h1, h2⟩ := h; obtain ⟨u0_0, u0_1, rfl, i0_0, i0_1⟩ := TileSet.cells h0; obtain ⟨u1_0, rfl, i1_0⟩ := Assembly.cells h1; obtain ⟨rfl, i2⟩ := h2; exact ⟨_, _, _, rfl, i0_0, i0_1, i1_0, i2⟩
theorem System.parts {w : World} {B : Nat} {v0 v1 v2 : Value} {x : System} (h : System.ty.rep w B [v0, v1, v2, .int .i64 x.Temperature] x) : (Ty.slice 71 Glue.ty).rep w B [v0] x.Set.Glues ∧ (Ty.slice 80 Tile.ty).rep w B [v1] x.Set.Tiles ∧ (Ty.slice 84 Placed.ty).rep w B [v2] x.Seed.Tiles ∧ InK .i64 x.Temperature := by obtain ⟨e0, e1, e2, hh, r0, r1, r2, r3⟩ := System.cells h; simp only [List.cons.injEq, and_true, true_and] at hh; obtain ⟨rfl, rfl, rfl⟩ := hh; exact ⟨r0, r1, r2, r3⟩
theorem System.rep_mk {w : World} {B : Nat} {v0 v1 v2 : Value} {x : System} (h0 : (Ty.slice 71 Glue.ty).rep w B [v0] x.Set.Glues) (h1 : (Ty.slice 80 Tile.ty).rep w B [v1] x.Set.Tiles) (h2 : (Ty.slice 84 Placed.ty).rep w B [v2] x.Seed.Tiles) (h3 : InK .i64 x.Temperature) : System.ty.rep w B [v0, v1, v2, .int .i64 x.Temperature] x :=
  ⟨_, _, rfl, TileSet.rep_mk h0 h1, _, _, rfl, Assembly.rep_mk h2, ⟨rfl, h3⟩⟩
set_option maxRecDepth 10000 in
set_option maxHeartbeats 1000000 in
theorem eqSystem_any (v0 v1 v2 u0 u1 u2 : Value) (x : System) (w : World) (B : Nat) (hB : B ≤ w.heap.size) (h0 : (Ty.slice 71 Glue.ty).rep w B [v0] x.Set.Glues) (h1 : (Ty.slice 80 Tile.ty).rep w B [v1] x.Set.Tiles) (h2 : (Ty.slice 84 Placed.ty).rep w B [v2] x.Seed.Tiles) (k0 : (Ty.slice 71 Glue.ty).rep w B [u0] x.Set.Glues) (k1 : (Ty.slice 80 Tile.ty).rep w B [u1] x.Set.Tiles) (k2 : (Ty.slice 84 Placed.ty).rep w B [u2] x.Seed.Tiles) :
    Calls Tryd.prog 8 #[.agg #[v0, v1, v2, .int .i64 x.Temperature], .agg #[u0, u1, u2, .int .i64 x.Temperature]] w fun e w' => e = .returned (.bool true) ∧ Below w.heap.size w w' := by
  go_enter Tryd.func8, Tryd.ntmps8
  go_upto_region 1 with fail
  refine rebase ?_; intro W1 hW _; have hz : Below w.heap.size w W1 := by rw [hW]; go_grown
  have hb0 := at_of hW (push2_0 _ _ _); have c0 := box4 hb0; have f0 := boxf hb0; have B0 := Lib.hid hb0; clear hb0; have hb1 := at_of hW (push2_1 _ _ _); have c1 := box4 hb1; have f1 := boxf hb1; have B1 := Lib.hid hb1; clear hb1; have HW := Lib.hid hW; clear hW; have hs0 := fun z : Ext W1 => eqTileSet_any v0 v1 u0 u1 x.Set (W1.to z) B (Nat.le_trans hB (ext_end z hz).size) (Ty.rep_below _ h0 ((ext_end z hz).mono hB)) (Ty.rep_below _ h1 ((ext_end z hz).mono hB)) (Ty.rep_below _ k0 ((ext_end z hz).mono hB)) (Ty.rep_below _ k1 ((ext_end z hz).mono hB)); have HS0 := Lib.hid hs0; clear hs0; have hs1 := fun z : Ext W1 => eqAssembly_any v2 u2 x.Seed (W1.to z) B (Nat.le_trans hB (ext_end z hz).size) (Ty.rep_below _ h2 ((ext_end z hz).mono hB)) (Ty.rep_below _ k2 ((ext_end z hz).mono hB)); have HS1 := Lib.hid hs1; clear hs1; go_wp2_with fail
  first
    | (refine call_ext (HS0.out _) ?_; intro y)
    | (refine wp_region_ext (by kernel_rfl) (by kernel_rfl) ?_; repeat (go_big_quiet_step ((go_at_call 37; exact ext_call (HS0.out _)))); refine wpQuiet_nil ?_; rintro _ ⟨y, rfl⟩)
  go_wp2_with fail
  first
    | (refine call_ext (HS1.out _) ?_; intro y)
    | (refine wp_region_ext (by kernel_rfl) (by kernel_rfl) ?_; repeat (go_big_quiet_step ((go_at_call 38; exact ext_call (HS1.out _)))); refine wpQuiet_nil ?_; rintro _ ⟨y, rfl⟩)
  go_wp2_with fail
  go_ret; exact ⟨rfl, ext_end _ hz⟩
def Point.cnE (x : Point) : Nat := 1 + 1
def Point.mkE (x : Point) (k : Int) : Point := ⟨k, (k + 1)⟩
def Point.cnT (x : Point) : Nat := 0
def Point.mkT (x : Point) (k : Int) : Point := ⟨x.X, x.Y⟩
theorem Point.own_cells {w : World} {cs : List Value} {x : Point} {F : List Nat} (h : Point.ty.own w cs x F) : cs = [.int .i64 x.X, .int .i64 x.Y] ∧ F = (([] : List Nat) ++ ([] : List Nat)) ∧ InK .i64 x.X ∧ InK .i64 x.Y := by obtain ⟨_, _, _, _, rfl, rfl, h_0, h_1⟩ := h; obtain ⟨rfl, h_0_i, rfl⟩ := h_0; obtain ⟨rfl, h_1_i, rfl⟩ := h_1; exact ⟨rfl, rfl, h_0_i, h_1_i⟩
theorem Point.own_make {w : World} {x : Point} (h0 : InK .i64 x.X) (h1 : InK .i64 x.Y) : Point.ty.own w [.int .i64 x.X, .int .i64 x.Y] x (([] : List Nat) ++ ([] : List Nat)) :=
  ⟨_, _, _, _, rfl, rfl, ⟨rfl, h0, rfl⟩, ⟨rfl, h1, rfl⟩⟩
def Placed.cnE (x : Placed) : Nat := 1 + 1 + 1
def Placed.mkE (x : Placed) (k : Int) : Placed := ⟨⟨k, (k + 1)⟩, ((k + 1) + 1)⟩
def Placed.cnT (x : Placed) : Nat := 0
def Placed.mkT (x : Placed) (k : Int) : Placed := ⟨⟨x.At.X, x.At.Y⟩, x.Tile⟩
theorem Placed.own_cells {w : World} {cs : List Value} {x : Placed} {F : List Nat} (h : Placed.ty.own w cs x F) : cs = [.int .i64 x.At.X, .int .i64 x.At.Y, .int .i64 x.Tile] ∧ F = ((([] : List Nat) ++ ([] : List Nat)) ++ ([] : List Nat)) ∧ InK .i64 x.At.X ∧ InK .i64 x.At.Y ∧ InK .i64 x.Tile := by obtain ⟨_, _, _, _, rfl, rfl, h_0, h_1⟩ := h; obtain ⟨_, _, _, _, rfl, rfl, h_0_0, h_0_1⟩ := h_0; obtain ⟨rfl, h_0_0_i, rfl⟩ := h_0_0; obtain ⟨rfl, h_0_1_i, rfl⟩ := h_0_1; obtain ⟨rfl, h_1_i, rfl⟩ := h_1; exact ⟨rfl, rfl, h_0_0_i, h_0_1_i, h_1_i⟩
theorem Placed.own_make {w : World} {x : Placed} (h0 : InK .i64 x.At.X) (h1 : InK .i64 x.At.Y) (h2 : InK .i64 x.Tile) : Placed.ty.own w [.int .i64 x.At.X, .int .i64 x.At.Y, .int .i64 x.Tile] x ((([] : List Nat) ++ ([] : List Nat)) ++ ([] : List Nat)) :=
  ⟨_, _, _, _, rfl, rfl, ⟨_, _, _, _, rfl, rfl, ⟨rfl, h0, rfl⟩, ⟨rfl, h1, rfl⟩⟩, ⟨rfl, h2, rfl⟩⟩
set_option maxRecDepth 10000 in
set_option maxHeartbeats 1000000 in
theorem markPlacedS_any (v : Value) (xs : List Placed) (k : Int) (F : List Nat) (w : World) (h : (Ty.slice 84 Placed.ty).own w [v] xs F) (hn : F.Nodup) (hF : ∀ b, b ∈ F → b < w.heap.size) (h0 : 0 ≤ k) (hk : k + (cnS Placed.cnE xs : Nat) ≤ 4611686018427387904) :
    Calls Tryd.prog 62 #[v, .int .i64 k] w fun e w' => e = .returned (.int .i64 (k + (cnS Placed.cnE xs : Nat))) ∧ (Ty.slice 84 Placed.ty).own w' [v] (mkL Placed.mkE Placed.cnE xs k) F ∧ Chg F w w' := by
  obtain ⟨a, c, rfl, _, hm⟩ := Ty.form (Ty.own_lt _ h); have hlen : xs.length ≤ 9223372036854775807 := (by unfold maxLen at hm; omega); clear hm; have HO := Lib.hid h; have HN := Lib.hid hn; have HF := Lib.hid hF; clear h hn hF; go_enter Tryd.func62, Tryd.ntmps62; go_wp2
  go_loopw [1, 5] (fun n i wr => ∃ j : Nat, j ≤ xs.length ∧ i = .int .i64 j ∧ n = .int .i64 (k + (sumT Placed.cnE xs j : Nat)) ∧ (Ty.slice 84 Placed.ty).own wr [.slice a xs.length c] (mkAt Placed.mkE Placed.cnE xs k j) F ∧ Chg F w wr) (fun _ i _ => xs.length - (intOf i).toNat)
  case atStart => exact ⟨0, Nat.zero_le _, rfl, by simp [sumT_zero], by rw [mkAt_zero]; exact HO.out, Chg.refl _ _⟩
  case round =>
    obtain ⟨j, hj, rfl, rfl, ho, hc⟩ := hrel; by_cases hlt : j < xs.length
    · obtain ⟨g, o, cs, Fk, arr0, rfl, -, hg, hgk, hnk, hsub, hx, hH, hput⟩ := own_elem ho HN.out j (by rw [mkAt_len]; exact hlt); rw [mkAt_get _ _ _ _ _ hlt] at hx; have hb1 := sumT_cn_lt Placed.cnE xs j hlt; have hb2 := sumT_succ Placed.cnE xs j hlt; have hFw : ∀ b, b ∈ F → b < wr.heap.size := fun b hb => Nat.lt_of_lt_of_le (HF.out b hb) hc.size; have HFW := Lib.hid hFw; have HC := Lib.hid hc; clear ho hFw hc; obtain ⟨rfl, hFe, _, _, _⟩ := Placed.own_cells hx; rw [hFe] at hgk hnk hsub hput; clear hFe hx; have hcn : Placed.cnE xs[j] = 1 + 1 + 1 := rfl; have KC : Chg (g :: ((([] : List Nat) ++ ([] : List Nat)) ++ ([] : List Nat))) wr wr := Chg.refl _ _; have hsz : Placed.ty.size = 3 := rfl; rw [hsz] at hH hput; have c0 : wr.cell? ⟨g, o + j * 3, none⟩ = some (.int .i64 xs[j].At.X) := (by have := hH.cell (j := 0) rfl; simpa using this); have f0 := hH.froz
      go_upto_region 6 with fail
      refine plainbase ?_; intro W1 hW; have hH2 := hH.set 0 (by omega) (.int .i64 (k + (sumT Placed.cnE xs j : Nat))); have hH3 : HoleAt W1 g 84 arr0 (o + j * 3) 3 [.int .i64 (k + (sumT Placed.cnE xs j : Nat)), .int .i64 xs[j].At.Y, .int .i64 xs[j].Tile] := by rw [hW]; simpa using hH2
      have hCG : Chg [g] wr W1 := (by rw [hW]; exact (Chg.refl [g] _).set (by simp) _ _); have KC2 := KC.trans (hCG.mono (fun b hb => by simp_all)); clear c0 f0 hH hH2 hCG KC hW; have hH := hH3; have KC := KC2; clear hH3 KC2; have c1 : W1.cell? ⟨g, o + j * 3 + 1, none⟩ = some (.int .i64 xs[j].At.Y) := (by have := hH.cell (j := 1) rfl; simpa using this); have f1 := hH.froz
      go_upto_region 8 with fail
      refine plainbase ?_; intro W2 hW; have hH2 := hH.set 1 (by omega) (.int .i64 ((k + (sumT Placed.cnE xs j : Nat)) + 1)); have hH3 : HoleAt W2 g 84 arr0 (o + j * 3) 3 [.int .i64 (k + (sumT Placed.cnE xs j : Nat)), .int .i64 ((k + (sumT Placed.cnE xs j : Nat)) + 1), .int .i64 xs[j].Tile] := by rw [hW]; simpa using hH2
      have hCG : Chg [g] W1 W2 := (by rw [hW]; exact (Chg.refl [g] _).set (by simp) _ _); have KC2 := KC.trans (hCG.mono (fun b hb => by simp_all)); clear c1 f1 hH hH2 hCG KC hW; have hH := hH3; have KC := KC2; clear hH3 KC2; have c2 : W2.cell? ⟨g, o + j * 3 + 2, none⟩ = some (.int .i64 xs[j].Tile) := (by have := hH.cell (j := 2) rfl; simpa using this); have f2 := hH.froz
      go_upto_region 3 with fail
      refine plainbase ?_; intro W3 hW; have hH2 := hH.set 2 (by omega) (.int .i64 (((k + (sumT Placed.cnE xs j : Nat)) + 1) + 1)); have hH3 : HoleAt W3 g 84 arr0 (o + j * 3) 3 [.int .i64 (k + (sumT Placed.cnE xs j : Nat)), .int .i64 ((k + (sumT Placed.cnE xs j : Nat)) + 1), .int .i64 (((k + (sumT Placed.cnE xs j : Nat)) + 1) + 1)] := by rw [hW]; simpa using hH2
      have hCG : Chg [g] W2 W3 := (by rw [hW]; exact (Chg.refl [g] _).set (by simp) _ _); have KC2 := KC.trans (hCG.mono (fun b hb => by simp_all)); clear c2 f2 hH hH2 hCG KC hW; have hH := hH3; have KC := KC2; clear hH3 KC2; have h3 := hput _ _ _ hH (Placed.own_make (x := Placed.mkE xs[j] (k + (sumT Placed.cnE xs j : Nat))) (show InK .i64 (k + (sumT Placed.cnE xs j : Nat)) from ⟨by omega, by omega⟩) (show InK .i64 ((k + (sumT Placed.cnE xs j : Nat)) + 1) from ⟨by omega, by omega⟩) (show InK .i64 (((k + (sumT Placed.cnE xs j : Nat)) + 1) + 1) from ⟨by omega, by omega⟩)) (fun b hb h1 h2 => KC.keep b (HFW.out b hb) (by simp only [List.mem_cons, not_or]; exact ⟨h1, h2⟩)); rw [← mkAt_succ Placed.mkE Placed.cnE xs k j hlt] at h3; have h4 := HC.out.trans (KC.mono (fun b hb => by rcases List.mem_cons.1 hb with rfl | hb; exact hg; exact hsub b hb)); have H3 := Lib.hid h3; have H4 := Lib.hid h4; clear h3 h4 hput hH KC; go_wp2_with fail
      go_roundw
      case rel => refine ⟨j + 1, by omega, by go_num, by rw [hb2]; rw [hcn]; simp only [Int.natCast_add, Int.natCast_one, Int.add_assoc], H3.out, H4.out⟩
      case measure => simp [intOf]; omega
    · obtain rfl : j = xs.length := (by omega); have HC := Lib.hid hc; have HW := Lib.hid ho; clear hc ho; go_wp2_with fail; go_ret; refine ⟨by rw [sumT_cnS]; rfl, ?_, HC.out⟩; have := HW.out; rw [mkAt_all] at this; exact this
set_option maxRecDepth 10000 in
set_option maxHeartbeats 1000000 in
theorem heldPlacedS_any (v : Value) (xs : List Placed) (k : Int) (w : World) (B : Nat) (hB : B ≤ w.heap.size) (h : (Ty.slice 84 Placed.ty).rep w B [v] (mkL Placed.mkE Placed.cnE xs k)) (h0 : 0 ≤ k) (hk : k + (cnS Placed.cnE xs : Nat) ≤ 4611686018427387904) :
    Calls Tryd.prog 65 #[v, .int .i64 k] w fun e w' => e = .returned (.int .i64 (k + (cnS Placed.cnE xs : Nat))) ∧ Below w.heap.size w w' := by
  obtain ⟨a, c, hv, _, hm⟩ := Ty.form h; rw [mkL_len] at hv; subst hv; have hlen : xs.length ≤ 9223372036854775807 := (by have := Ty.form h; obtain ⟨_, _, _, hh1, hh2⟩ := this; rw [mkL_len] at hh1; unfold maxLen at hh2; omega); clear hm; have HR := Lib.hid h; clear h; refine rebaseC ?_; intro x; go_enter Tryd.func65, Tryd.ntmps65; go_wp2
  go_loopw [1, 5] (fun n i wr => ∃ j : Nat, j ≤ xs.length ∧ i = .int .i64 j ∧ n = .int .i64 (k + (sumT Placed.cnE xs j : Nat)) ∧ ∃ z : Ext w, wr = w.to z) (fun _ i _ => xs.length - (intOf i).toNat)
  case atStart => exact ⟨0, Nat.zero_le _, rfl, by simp [sumT_zero], x, rfl⟩
  case round =>
    obtain ⟨j, hj, rfl, rfl, z, rfl⟩ := hrel; by_cases hlt : j < xs.length
    · have hb1 := sumT_cn_lt Placed.cnE xs j hlt; have hb2 := sumT_succ Placed.cnE xs j hlt; have HB2 := Lib.hid hb2; clear hb2; obtain ⟨b, o, cs, rfl, hb, gg, ee⟩ := Ty.elem HR.out hB j (by rw [mkL_len]; exact hlt); rw [mkL_get _ _ _ _ _ hlt] at ee; obtain ⟨rfl, r0, r1, r2⟩ := Placed.cells ee; have d0 : ∀ z : Ext w, (w.to z).cell? ⟨b, o + j * 3, none⟩ = some (.int .i64 (k + (sumT Placed.cnE xs j : Nat))) := gg 0 _ rfl; have d1 : ∀ z : Ext w, (w.to z).cell? ⟨b, o + j * 3 + 1, none⟩ = some (.int .i64 ((k + (sumT Placed.cnE xs j : Nat)) + 1)) := gg 1 _ rfl; have d2 : ∀ z : Ext w, (w.to z).cell? ⟨b, o + j * 3 + 2, none⟩ = some (.int .i64 (((k + (sumT Placed.cnE xs j : Nat)) + 1) + 1)) := gg 2 _ rfl; clear gg ee; have hcn : Placed.cnE xs[j] = 1 + 1 + 1 := rfl; go_wp2_with fail
      go_roundw
      case rel => have hb2 := HB2.out; refine ⟨j + 1, by omega, by go_num, by rw [hb2]; rw [hcn]; simp only [Int.natCast_add, Int.natCast_one, Int.add_assoc], z, rfl⟩
      case measure => simp [intOf]; omega
    · obtain rfl : j = xs.length := (by omega); go_wp2_with fail; go_ret; exact ⟨by rw [sumT_cnS]; rfl, z.below⟩
def Assembly.cnE (x : Assembly) : Nat := cnS Placed.cnE x.Tiles
def Assembly.mkE (x : Assembly) (k : Int) : Assembly := ⟨mkL Placed.mkE Placed.cnE x.Tiles k⟩
def Assembly.cnT (x : Assembly) : Nat := cnS Placed.cnE x.Tiles
def Assembly.mkT (x : Assembly) (k : Int) : Assembly := ⟨mkL Placed.mkE Placed.cnE x.Tiles k⟩
theorem Assembly.own_cells {w : World} {cs : List Value} {x : Assembly} {F : List Nat} (h : Assembly.ty.own w cs x F) : ∃ v0 : Value, ∃ F0 : List Nat, cs = [v0] ∧ F = F0 ∧ (Ty.slice 84 Placed.ty).own w [v0] x.Tiles F0 := by have h_0 : (Ty.slice 84 Placed.ty).own w _ _ _ := h; obtain ⟨h_0_v, h_0_e⟩ := Ty.slice_one (Ty.own_lt _ h_0); subst h_0_e; exact ⟨h_0_v, _, rfl, rfl, h_0⟩
theorem Assembly.own_make {w : World} {v0 : Value} {F0 : List Nat} {x : Assembly} (h0 : (Ty.slice 84 Placed.ty).own w [v0] x.Tiles F0) : Assembly.ty.own w [v0] x F0 :=
  h0
set_option maxRecDepth 10000 in
set_option maxHeartbeats 1000000 in
theorem markAssembly_any (v0 : Value) (x : Assembly) (k : Int) (F : List Nat) (w : World) (h : Assembly.ty.own w [v0] x F) (hn : F.Nodup) (hF : ∀ b, b ∈ F → b < w.heap.size) (h0 : 0 ≤ k) (hk : k + (Assembly.cnT x : Nat) ≤ 4611686018427387904) :
    Calls Tryd.prog 40 #[.agg #[v0], .int .i64 k] w fun e w' => e = .returned (.int .i64 (k + (Assembly.cnT x : Nat))) ∧ Assembly.ty.own w' [v0] (Assembly.mkT x k) F ∧ Chg F w w' := by
  obtain ⟨u0, F0, hcs, hFe, o0⟩ := Assembly.own_cells h; rw [hFe] at hn hF ⊢; clear h hFe; simp only [List.cons.injEq, and_true, true_and] at hcs; subst hcs; obtain ⟨a0, c0_, hv0, _, _⟩ := Ty.form (Ty.own_lt _ o0); subst hv0; have hnd := hn
  try simp only [List.nil_append, List.append_nil, List.nodup_append, List.mem_append] at hnd
  have hsb : ∀ b, b ∈ F0 → b < w.heap.size := hF
  try simp only [List.nil_append, List.append_nil, List.mem_append] at hsb
  have hcn : Assembly.cnT x = cnS Placed.cnE x.Tiles := rfl; have HND := Lib.hid hnd; have HSB := Lib.hid hsb; clear hnd hsb hn hF; go_enter Tryd.func40, Tryd.ntmps40
  go_upto_region 1 with fail
  refine plainbase ?_; intro w1 hW; have hz : Below w.heap.size w w1 := by rw [hW]; go_grown
  have HB := Lib.hid (at_of hW (push1_0 _ _)); have o0_ := (Chg.of_below (F := []) hz).own o0 (by simp) (fun b hb => HSB.out b (by simp_all)); clear o0; have o0 := o0_; clear o0_; have KC : Chg F0 w w1 := Chg.of_below hz; have hbw : w.heap.size < w1.heap.size := blk_lt HB.out; clear hW hz; have c := cel1 HB.out; go_wp2_with fail; have hnd := HND.out; have hsb := HSB.out; refine (markPlacedS_any (.slice a0 x.Tiles.length c0_) x.Tiles k (F0) w1 o0 (by simp_all [List.nodup_append]) (fun b hb => Nat.lt_of_lt_of_le (HSB.out b (by simp_all)) KC.size) (by omega) (by omega)).mono ?_; rintro e w2 ⟨rfl, oo, hCG⟩; have HB2 := Lib.hid ((hCG.keep _ hbw (fun hb => absurd (HSB.out _ (by simp_all)) (Nat.lt_irrefl _))).trans HB.out); have KC2 := KC.trans (hCG.mono (fun b hb => by simp_all)); have hbw2 := Nat.lt_of_lt_of_le hbw hCG.size; clear hnd hsb c HB hCG KC hbw o0; have KC := KC2; have HB := HB2; have hbw := hbw2; clear KC2 HB2 hbw2; have o0 := oo; clear oo; go_wp2_with fail; go_ret; exact ⟨by rw [hcn]; first | rfl | (simp only [Int.natCast_add, Int.add_assoc]; done) | (simp only [Int.natCast_add, Int.add_assoc]; rfl), Assembly.own_make (x := Assembly.mkT x k) o0, KC⟩
set_option maxRecDepth 10000 in
set_option maxHeartbeats 1000000 in
theorem heldAssembly_any (v0 : Value) (x : Assembly) (k : Int) (w : World) (B : Nat) (hB : B ≤ w.heap.size) (h : Assembly.ty.rep w B [v0] (Assembly.mkT x k)) (h0 : 0 ≤ k) (hk : k + (Assembly.cnT x : Nat) ≤ 4611686018427387904) :
    Calls Tryd.prog 42 #[.agg #[v0], .int .i64 k] w fun e w' => e = .returned (.int .i64 (k + (Assembly.cnT x : Nat))) ∧ Below w.heap.size w w' := by
  have hh := Assembly.parts (x := Assembly.mkT x k) h; have r0 := hh; obtain ⟨a0, c0_, hv0, _, _⟩ := Ty.form r0; rw [show (Assembly.mkT x k).Tiles.length = x.Tiles.length from mkL_len _ _ _ _] at hv0; subst hv0; have R0 := Lib.hid r0; have hcn : Assembly.cnT x = cnS Placed.cnE x.Tiles := rfl; clear h r0; go_enter Tryd.func42, Tryd.ntmps42
  go_upto_region 1 with fail
  refine rebase ?_; intro W1 hW _; have hz : Below w.heap.size w W1 := by rw [hW]; go_grown
  have hb0 := at_of hW (push1_0 _ _); have c0 := box1 hb0; have f0 := boxf hb0; have B0 := Lib.hid hb0; clear hb0; have HW := Lib.hid hW; clear hW; have hs0 := fun z : Ext W1 => heldPlacedS_any (.slice a0 x.Tiles.length c0_) x.Tiles k (W1.to z) B (Nat.le_trans hB (ext_end z hz).size) (Ty.rep_below _ R0.out ((ext_end z hz).mono hB)) (by omega) (by omega); have HS0 := Lib.hid hs0; clear hs0; go_wp2_with fail; refine call_ext (HS0.out _) ?_; intro y0; go_wp2_with fail; go_ret; exact ⟨by rw [hcn]; first | rfl | (simp only [Int.natCast_add, Int.add_assoc]; done) | (simp only [Int.natCast_add, Int.add_assoc]; rfl), ext_end _ hz⟩
end Go.Proofs.YtbflchedmfeghaaDoor
