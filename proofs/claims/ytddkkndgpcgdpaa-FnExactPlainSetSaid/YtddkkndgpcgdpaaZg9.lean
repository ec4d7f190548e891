/- Laws that the proof stands on. -/
import Derived.Test.YtddkkndgpcgdpaaRows
import Derived.Test.YtddkkndgpcgdpaaZLib
import Derived.Test.YtddkkndgpcgdpaaZg8
import Derived.Test.YtddkkndgpcgdpaaZMark
set_option linter.all false
namespace Go.Proofs.Ytddkkndgpcgdpaa
open Go.RowKit Go.ChangeShapes Go.WideShapes Go.ChangeAt
structure Glue where
  Name : ByteArray
  Strength : Int
  deriving DecidableEq
def Glue.ty : Ty Glue := Ty.via (Ty.prod Ty.str (Ty.int .i64)) (fun x => (x.Name, x.Strength))
def Glue.cnt (x : Glue) : Nat := x.Name.size
theorem Glue.cells {w : World} {B : Nat} {cs : List Value} {x : Glue} (h : Glue.ty.rep w B cs x) : cs = [.string x.Name, .int .i64 x.Strength] ∧ x.Name.size ≤ maxLen ∧ InK .i64 x.Strength := by obtain ⟨_, _, rfl, h0, h1⟩ := h; obtain ⟨rfl, i0⟩ := h0; obtain ⟨rfl, i1⟩ := h1; exact ⟨rfl, i0, i1⟩
theorem Glue.parts {w : World} {B : Nat} {x : Glue} (h : Glue.ty.rep w B [.string x.Name, .int .i64 x.Strength] x) : x.Name.size ≤ maxLen ∧ InK .i64 x.Strength := by obtain ⟨hh, r0, r1⟩ := Glue.cells h; exact ⟨r0, r1⟩
theorem Glue.rep_mk {w : World} {B : Nat} {x : Glue} (h0 : x.Name.size ≤ maxLen) (h1 : InK .i64 x.Strength) : Glue.ty.rep w B [.string x.Name, .int .i64 x.Strength] x :=
  ⟨_, _, rfl, ⟨rfl, h0⟩, ⟨rfl, h1⟩⟩
set_option maxRecDepth 100000 in
theorem Glue.reads : Reads Try.prog 59 Glue.ty :=
  reads_via (t := (Ty.prod Ty.str (Ty.int .i64))) (fun x : Glue => (x.Name, x.Strength)) (fun y => ⟨y.1, y.2⟩) (fun _ => rfl) (reads_struct Try.underlying59 (by kernel_rfl) (fld_cons rfl (reads_str Try.underlying9 (by kernel_rfl)) (fld_one rfl (reads_int Try.underlying2 (by kernel_rfl)))))
set_option maxRecDepth 10000 in
set_option maxHeartbeats 1000000 in
theorem eqGlue_any (x : Glue) (w : World) :
    Calls Try.prog 42 #[.agg #[.string x.Name, .int .i64 x.Strength], .agg #[.string x.Name, .int .i64 x.Strength]] w fun e w' => e = .returned (.bool true) ∧ Below w.heap.size w w' := by
  go_enter Try.func42, Try.ntmps42
  go_upto_region 1 with fail
  refine rebase ?_; intro W1 hW _; have hz : Below w.heap.size w W1 := by rw [hW]; go_grown
  have hb0 := at_of hW (push2_0 _ _ _); have c0 := box2 hb0; have f0 := boxf hb0; have B0 := Lib.hid hb0; clear hb0; have hb1 := at_of hW (push2_1 _ _ _); have c1 := box2 hb1; have f1 := boxf hb1; have B1 := Lib.hid hb1; clear hb1; have HW := Lib.hid hW; clear hW; go_wp2_with fail; go_ret; exact ⟨rfl, ext_end _ hz⟩
set_option maxRecDepth 10000 in
set_option maxHeartbeats 1000000 in
theorem eqGlueS_any (v1 v2 : Value) (xs : List Glue) (w : World) (B : Nat) (hB : B ≤ w.heap.size) (h1 : (Ty.slice 78 Glue.ty).rep w B [v1] xs) (h2 : (Ty.slice 78 Glue.ty).rep w B [v2] xs) :
    Calls Try.prog 21 #[v1, v2] w fun e w' => e = .returned (.bool true) ∧ Below w.heap.size w w' := by
  obtain ⟨a1, c1, rfl, _, hm1⟩ := Ty.form h1; obtain ⟨a2, c2, rfl, _, hm2⟩ := Ty.form h2; have hn : xs.length ≤ 9223372036854775807 := (by unfold maxLen at hm1; omega); clear hm1 hm2; refine rebaseC ?_; intro x; go_enter Try.func21, Try.ntmps21; go_wp2
  go_loopw [5] (fun i wr => ∃ k : Nat, k ≤ xs.length ∧ i = .int .i64 k ∧ ∃ z : Ext w, wr = w.to z) (fun i _ => xs.length - (intOf i).toNat)
  case atStart => exact ⟨0, Nat.zero_le _, rfl, x, rfl⟩
  case round =>
    obtain ⟨k, hk, rfl, z, rfl⟩ := hrel; by_cases hlt : k < xs.length
    · obtain ⟨b1, o1, cs1, rfl, hb1, g1, e1⟩ := Ty.elem h1 hB k hlt; obtain ⟨rfl, _, _⟩ := Glue.cells e1; have d1_0 : ∀ z : Ext w, (w.to z).cell? ⟨b1, o1 + k * 2, none⟩ = some (.string xs[k].Name) := g1 0 _ rfl; have d1_1 : ∀ z : Ext w, (w.to z).cell? ⟨b1, o1 + k * 2 + 1, none⟩ = some (.int .i64 xs[k].Strength) := g1 1 _ rfl; clear g1; obtain ⟨b2, o2, cs2, rfl, hb2, g2, e2⟩ := Ty.elem h2 hB k hlt; obtain ⟨rfl, _, _⟩ := Glue.cells e2; have d2_0 : ∀ z : Ext w, (w.to z).cell? ⟨b2, o2 + k * 2, none⟩ = some (.string xs[k].Name) := g2 0 _ rfl; have d2_1 : ∀ z : Ext w, (w.to z).cell? ⟨b2, o2 + k * 2 + 1, none⟩ = some (.int .i64 xs[k].Strength) := g2 1 _ rfl; clear g2; have hs := fun z : Ext w => eqGlue_any xs[k] (w.to z); have HS := Lib.hid hs; clear hs; go_wp2_with fail; refine wp_region_ext (by kernel_rfl) (by kernel_rfl) ?_
      repeat (go_big_quiet_step ((go_at_call 42; exact ext_call (HS.out _))))
      refine wpQuiet_nil ?_; rintro _ ⟨y, rfl⟩; go_wp2_with fail
      go_roundw
      case rel => exact ⟨k + 1, by omega, by go_num, y, rfl⟩
      case measure => simp [intOf]; omega
    · go_wp2_with fail
      go_ret; exact ⟨rfl, z.below⟩
set_option maxRecDepth 10000 in
set_option maxHeartbeats 1000000 in
theorem szGlue_any (q : Glue) (l : Int) (hl0 : 0 ≤ l) (hl1 : l ≤ 1048576) (w : World) (s0 : q.Name.size ≤ maxLen) :
    Calls Try.prog 29 #[.agg #[.string q.Name, .int .i64 q.Strength], .int .i64 l] w fun e w' => e = .returned (.int .i64 (szR l (Glue.cnt q))) ∧ Below w.heap.size w w' := by
  have s0_ : q.Name.size ≤ 9223372036854775807 := (by unfold maxLen at s0; omega); by_cases g0 : ((q.Name.size : Nat) : Int) ≤ l
  · go_enter Try.func29, Try.ntmps29
    go_upto_region 1 with fail
    refine rebase ?_; intro W1 hW _; have hz : Below w.heap.size w W1 := by rw [hW]; go_grown
    have hb0 := at_of hW (push1_0 _ _); have c0 := box2 hb0; have f0 := boxf hb0; have B0 := Lib.hid hb0; clear hb0; have HW := Lib.hid hW; clear hW; go_wp2_with fail; go_ret; exact ⟨by rw [szR_ok (by unfold Glue.cnt; omega)]; unfold Glue.cnt; go_num, ext_end _ hz⟩
  · go_enter Try.func29, Try.ntmps29
    go_upto_region 1 with fail
    refine rebase ?_; intro W1 hW _; have hz : Below w.heap.size w W1 := by rw [hW]; go_grown
    have hb0 := at_of hW (push1_0 _ _); have c0 := box2 hb0; have f0 := boxf hb0; have B0 := Lib.hid hb0; clear hb0; have HW := Lib.hid hW; clear hW; go_wp2_with fail; go_ret; exact ⟨by rw [szR_no (by unfold Glue.cnt; omega)]; rfl, ext_end _ hz⟩
set_option maxRecDepth 10000 in
set_option maxHeartbeats 1000000 in
theorem szGlueS_any (v : Value) (xs : List Glue) (l : Int) (hl0 : 0 ≤ l) (hl1 : l ≤ 1048576) (w : World) (B : Nat) (hB : B ≤ w.heap.size) (h : (Ty.slice 78 Glue.ty).rep w B [v] xs) :
    Calls Try.prog 13 #[v, .int .i64 l] w fun e w' => e = .returned (.int .i64 (szR l (cntL Glue.cnt xs))) ∧ Below w.heap.size w w' := by
  obtain ⟨a, c, rfl, hc, hm⟩ := Ty.form h; have hn : xs.length ≤ 9223372036854775807 := (by unfold maxLen at hm; omega); clear hm; by_cases g : (xs.length : Int) ≤ l
  · refine rebaseC ?_; intro x; go_enter Try.func13, Try.ntmps13; go_wp2
    go_loopw [1, 5] (fun q i wr => ∃ k : Nat, k ≤ xs.length ∧ i = .int .i64 k ∧ ((xs.length + sumT Glue.cnt xs k : Nat) : Int) ≤ l ∧ q = .int .i64 (l - (xs.length + sumT Glue.cnt xs k : Nat)) ∧ ∃ z : Ext w, wr = w.to z) (fun _ i _ => xs.length - (intOf i).toNat)
    case atStart => exact ⟨0, Nat.zero_le _, rfl, by rw [sumT_zero]; exact g, by rw [sumT_zero]; rfl, x, rfl⟩
    case round =>
      obtain ⟨k, hk, rfl, hs, rfl, z, rfl⟩ := hrel; generalize hq : xs.length + sumT Glue.cnt xs k = q at hs ⊢; have HQ := Lib.hid hq; clear hq; by_cases hlt : k < xs.length
      · obtain ⟨b, o, cs, rfl, hb, gg, ee⟩ := Ty.elem h hB k hlt; obtain ⟨rfl, s0, _⟩ := Glue.cells ee; have d0 : ∀ z : Ext w, (w.to z).cell? ⟨b, o + k * 2, none⟩ = some (.string xs[k].Name) := gg 0 _ rfl; have d1 : ∀ z : Ext w, (w.to z).cell? ⟨b, o + k * 2 + 1, none⟩ = some (.int .i64 xs[k].Strength) := gg 1 _ rfl; clear gg; have hs1 := fun z : Ext w => szGlue_any xs[k] (l - q) (by omega) (by omega) (w.to z) s0; have hsum := sumT_succ Glue.cnt xs k hlt; have hsle := sumT_le Glue.cnt xs (k + 1); have HSU := Lib.hid hsum; have HSL := Lib.hid hsle; clear hsum hsle; by_cases gk : ((Glue.cnt xs[k] : Nat) : Int) ≤ l - q
        · simp only [szR_ok gk] at hs1; have HS1 := Lib.hid hs1; clear hs1; go_wp2_with (go_at_call 29; refine call_ext (HS1.out _) ?_; intro y)
          go_roundw
          case rel => have h1 := HSU.out; have h2 := HQ.out; exact ⟨k + 1, by omega, by go_num, by rw [h1]; omega, by rw [h1]; go_num, y, rfl⟩
          case measure => simp [intOf]; omega
        · simp only [szR_no gk] at hs1; have HS1 := Lib.hid hs1; clear hs1; go_wp2_with (go_at_call 29; refine call_ext (HS1.out _) ?_; intro y)
          go_ret; have h1 := HSU.out; have h2 := HQ.out; have h3 := HSL.out; exact ⟨by rw [szR_no (by unfold cntL; omega)]; rfl, y.below⟩
      · obtain rfl : k = xs.length := (by omega); go_wp2_with fail; go_ret; have h2 := HQ.out; have h3 := sumT_all Glue.cnt xs; exact ⟨by rw [szR_ok (by unfold cntL; omega), show cntL Glue.cnt xs = q by unfold cntL; omega]; rfl, z.below⟩
  · rw [szR_no (by have := cntL_len Glue.cnt xs; omega)]; go_enter Try.func13, Try.ntmps13; go_wp2; go_ret; exact ⟨rfl, by go_grown⟩
structure Tile where
  Name : ByteArray
  Sides : List Int
  deriving DecidableEq
def Tile.ty : Ty Tile := Ty.via (Ty.prod Ty.str (Ty.slice 2 (Ty.int .i64))) (fun x => (x.Name, x.Sides))
def Tile.cnt (x : Tile) : Nat := x.Name.size + x.Sides.length
theorem Tile.cells {w : World} {B : Nat} {cs : List Value} {x : Tile} (h : Tile.ty.rep w B cs x) : ∃ v0 : Value, cs = [.string x.Name, v0] ∧ x.Name.size ≤ maxLen ∧ (Ty.slice 2 (Ty.int .i64)).rep w B [v0] x.Sides := by obtain ⟨_, _, rfl, h0, h1⟩ := h; obtain ⟨rfl, i0⟩ := h0; obtain ⟨u1, rfl⟩ := Ty.slice_one h1; exact ⟨_, rfl, i0, h1⟩
theorem Tile.parts {w : World} {B : Nat} {v0 : Value} {x : Tile} (h : Tile.ty.rep w B [.string x.Name, v0] x) : x.Name.size ≤ maxLen ∧ (Ty.slice 2 (Ty.int .i64)).rep w B [v0] x.Sides := by obtain ⟨e0, hh, r0, r1⟩ := Tile.cells h; simp only [List.cons.injEq, and_true, true_and] at hh; subst hh; exact ⟨r0, r1⟩
theorem Tile.rep_mk {w : World} {B : Nat} {v0 : Value} {x : Tile} (h0 : x.Name.size ≤ maxLen) (h1 : (Ty.slice 2 (Ty.int .i64)).rep w B [v0] x.Sides) : Tile.ty.rep w B [.string x.Name, v0] x :=
  ⟨_, _, rfl, ⟨rfl, h0⟩, h1⟩
set_option maxRecDepth 10000 in
set_option maxHeartbeats 1000000 in
theorem eqTile_any (v0 u0 : Value) (x : Tile) (w : World) (B : Nat) (hB : B ≤ w.heap.size) (h0 : (Ty.slice 2 (Ty.int .i64)).rep w B [v0] x.Sides) (k0 : (Ty.slice 2 (Ty.int .i64)).rep w B [u0] x.Sides) :
    Calls Try.prog 43 #[.agg #[.string x.Name, v0], .agg #[.string x.Name, u0]] w fun e w' => e = .returned (.bool true) ∧ Below w.heap.size w w' := by
  go_enter Try.func43, Try.ntmps43
  go_upto_region 1 with fail
  refine rebase ?_; intro W1 hW _; have hz : Below w.heap.size w W1 := by rw [hW]; go_grown
  have hb0 := at_of hW (push2_0 _ _ _); have c0 := box2 hb0; have f0 := boxf hb0; have B0 := Lib.hid hb0; clear hb0; have hb1 := at_of hW (push2_1 _ _ _); have c1 := box2 hb1; have f1 := boxf hb1; have B1 := Lib.hid hb1; clear hb1; have HW := Lib.hid hW; clear hW; have hs0 := fun z : Ext W1 => eqInt64S_any v0 u0 x.Sides (W1.to z) B (Nat.le_trans hB (ext_end z hz).size) (Ty.rep_below _ h0 ((ext_end z hz).mono hB)) (Ty.rep_below _ k0 ((ext_end z hz).mono hB)); have HS0 := Lib.hid hs0; clear hs0; go_wp2_with fail
  first
    | (refine call_ext (HS0.out _) ?_; intro y)
    | (refine wp_region_ext (by kernel_rfl) (by kernel_rfl) ?_; repeat (go_big_quiet_step ((go_at_call 67; exact ext_call (HS0.out _)))); refine wpQuiet_nil ?_; rintro _ ⟨y, rfl⟩)
  go_wp2_with fail
  go_ret; exact ⟨rfl, ext_end _ hz⟩
set_option maxRecDepth 10000 in
set_option maxHeartbeats 1000000 in
theorem eqTileS_any (v1 v2 : Value) (xs : List Tile) (w : World) (B : Nat) (hB : B ≤ w.heap.size) (h1 : (Ty.slice 77 Tile.ty).rep w B [v1] xs) (h2 : (Ty.slice 77 Tile.ty).rep w B [v2] xs) :
    Calls Try.prog 22 #[v1, v2] w fun e w' => e = .returned (.bool true) ∧ Below w.heap.size w w' := by
  obtain ⟨a1, c1, rfl, _, hm1⟩ := Ty.form h1; obtain ⟨a2, c2, rfl, _, hm2⟩ := Ty.form h2; have hn : xs.length ≤ 9223372036854775807 := (by unfold maxLen at hm1; omega); clear hm1 hm2; refine rebaseC ?_; intro x; go_enter Try.func22, Try.ntmps22; go_wp2
  go_loopw [5] (fun i wr => ∃ k : Nat, k ≤ xs.length ∧ i = .int .i64 k ∧ ∃ z : Ext w, wr = w.to z) (fun i _ => xs.length - (intOf i).toNat)
  case atStart => exact ⟨0, Nat.zero_le _, rfl, x, rfl⟩
  case round =>
    obtain ⟨k, hk, rfl, z, rfl⟩ := hrel; by_cases hlt : k < xs.length
    · obtain ⟨b1, o1, cs1, rfl, hb1, g1, e1⟩ := Ty.elem h1 hB k hlt; obtain ⟨p1_0, rfl, _, r1_1⟩ := Tile.cells e1; have d1_0 : ∀ z : Ext w, (w.to z).cell? ⟨b1, o1 + k * 2, none⟩ = some (.string xs[k].Name) := g1 0 _ rfl; have d1_1 : ∀ z : Ext w, (w.to z).cell? ⟨b1, o1 + k * 2 + 1, none⟩ = some (p1_0) := g1 1 _ rfl; clear g1; obtain ⟨b2, o2, cs2, rfl, hb2, g2, e2⟩ := Ty.elem h2 hB k hlt; obtain ⟨p2_0, rfl, _, r2_1⟩ := Tile.cells e2; have d2_0 : ∀ z : Ext w, (w.to z).cell? ⟨b2, o2 + k * 2, none⟩ = some (.string xs[k].Name) := g2 0 _ rfl; have d2_1 : ∀ z : Ext w, (w.to z).cell? ⟨b2, o2 + k * 2 + 1, none⟩ = some (p2_0) := g2 1 _ rfl; clear g2; have hs := fun z : Ext w => eqTile_any p1_0 p2_0 xs[k] (w.to z) B (Nat.le_trans hB z.below.size) (Ty.rep_to _ hB r1_1 z) (Ty.rep_to _ hB r2_1 z); have HS := Lib.hid hs; clear hs; go_wp2_with fail; refine wp_region_ext (by kernel_rfl) (by kernel_rfl) ?_
      repeat (go_big_quiet_step ((go_at_call 43; exact ext_call (HS.out _))))
      refine wpQuiet_nil ?_; rintro _ ⟨y, rfl⟩; go_wp2_with fail
      go_roundw
      case rel => exact ⟨k + 1, by omega, by go_num, y, rfl⟩
      case measure => simp [intOf]; omega
    · go_wp2_with fail
      go_ret; exact ⟨rfl, z.below⟩
structure TileSet where
  Glues : List Glue
  Tiles : List Tile
  deriving DecidableEq
def TileSet.ty : Ty TileSet := Ty.via (Ty.prod (Ty.slice 78 Glue.ty) (Ty.slice 77 Tile.ty)) (fun x => (x.Glues, x.Tiles))
def TileSet.cnt (x : TileSet) : Nat := cntL Glue.cnt x.Glues + cntL Tile.cnt x.Tiles
theorem TileSet.cells {w : World} {B : Nat} {cs : List Value} {x : TileSet} (h : TileSet.ty.rep w B cs x) : ∃ v0 v1 : Value, cs = [v0, v1] ∧ (Ty.slice 78 Glue.ty).rep w B [v0] x.Glues ∧ (Ty.slice 77 Tile.ty).rep w B [v1] x.Tiles := by obtain ⟨_, _, rfl, h0, h1⟩ := h; obtain ⟨u0, rfl⟩ := Ty.slice_one h0; obtain ⟨u1, rfl⟩ := Ty.slice_one h1; exact ⟨_, _, rfl, h0, h1⟩
theorem TileSet.parts {w : World} {B : Nat} {v0 v1 : Value} {x : TileSet} (h : TileSet.ty.rep w B [v0, v1] x) : (Ty.slice 78 Glue.ty).rep w B [v0] x.Glues ∧ (Ty.slice 77 Tile.ty).rep w B [v1] x.Tiles := by obtain ⟨e0, e1, hh, r0, r1⟩ := TileSet.cells h; simp only [List.cons.injEq, and_true, true_and] at hh; obtain ⟨rfl, rfl⟩ := hh; exact ⟨r0, r1⟩
theorem TileSet.rep_mk {w : World} {B : Nat} {v0 v1 : Value} {x : TileSet} (h0 : (Ty.slice 78 Glue.ty).rep w B [v0] x.Glues) (h1 : (Ty.slice 77 Tile.ty).rep w B [v1] x.Tiles) : TileSet.ty.rep w B [v0, v1] x :=
  ⟨_, _, rfl, h0, h1⟩
set_option maxRecDepth 10000 in
set_option maxHeartbeats 1000000 in
theorem eqTileSet_any (v0 v1 u0 u1 : Value) (x : TileSet) (w : World) (B : Nat) (hB : B ≤ w.heap.size) (h0 : (Ty.slice 78 Glue.ty).rep w B [v0] x.Glues) (h1 : (Ty.slice 77 Tile.ty).rep w B [v1] x.Tiles) (k0 : (Ty.slice 78 Glue.ty).rep w B [u0] x.Glues) (k1 : (Ty.slice 77 Tile.ty).rep w B [u1] x.Tiles) :
    Calls Try.prog 8 #[.agg #[v0, v1], .agg #[u0, u1]] w fun e w' => e = .returned (.bool true) ∧ Below w.heap.size w w' := by
  go_enter Try.func8, Try.ntmps8
  go_upto_region 1 with fail
  refine rebase ?_; intro W1 hW _; have hz : Below w.heap.size w W1 := by rw [hW]; go_grown
  have hb0 := at_of hW (push2_0 _ _ _); have c0 := box2 hb0; have f0 := boxf hb0; have B0 := Lib.hid hb0; clear hb0; have hb1 := at_of hW (push2_1 _ _ _); have c1 := box2 hb1; have f1 := boxf hb1; have B1 := Lib.hid hb1; clear hb1; have HW := Lib.hid hW; clear hW; have hs0 := fun z : Ext W1 => eqGlueS_any v0 u0 x.Glues (W1.to z) B (Nat.le_trans hB (ext_end z hz).size) (Ty.rep_below _ h0 ((ext_end z hz).mono hB)) (Ty.rep_below _ k0 ((ext_end z hz).mono hB)); have HS0 := Lib.hid hs0; clear hs0; have hs1 := fun z : Ext W1 => eqTileS_any v1 u1 x.Tiles (W1.to z) B (Nat.le_trans hB (ext_end z hz).size) (Ty.rep_below _ h1 ((ext_end z hz).mono hB)) (Ty.rep_below _ k1 ((ext_end z hz).mono hB)); have HS1 := Lib.hid hs1; clear hs1; go_wp2_with fail
  first
    | (refine call_ext (HS0.out _) ?_; intro y)
    | (refine wp_region_ext (by kernel_rfl) (by kernel_rfl) ?_; repeat (go_big_quiet_step ((go_at_call 21; exact ext_call (HS0.out _)))); refine wpQuiet_nil ?_; rintro _ ⟨y, rfl⟩)
  go_wp2_with fail
  first
    | (refine call_ext (HS1.out _) ?_; intro y)
    | (refine wp_region_ext (by kernel_rfl) (by kernel_rfl) ?_; repeat (go_big_quiet_step ((go_at_call 22; exact ext_call (HS1.out _)))); refine wpQuiet_nil ?_; rintro _ ⟨y, rfl⟩)
  go_wp2_with fail
  go_ret; exact ⟨rfl, ext_end _ hz⟩
structure Fire where
  From : Int
  To : Int
  deriving DecidableEq
def Fire.ty : Ty Fire := Ty.via (Ty.prod (Ty.int .i64) (Ty.int .i64)) (fun x => (x.From, x.To))
theorem Fire.cells {w : World} {B : Nat} {cs : List Value} {x : Fire} (h : Fire.ty.rep w B cs x) : cs = [.int .i64 x.From, .int .i64 x.To] ∧ InK .i64 x.From ∧ InK .i64 x.To := by obtain ⟨_, _, rfl, h0, h1⟩ := h; obtain ⟨rfl, i0⟩ := h0; obtain ⟨rfl, i1⟩ := h1; exact ⟨rfl, i0, i1⟩
theorem Fire.parts {w : World} {B : Nat} {x : Fire} (h : Fire.ty.rep w B [.int .i64 x.From, .int .i64 x.To] x) : InK .i64 x.From ∧ InK .i64 x.To := by obtain ⟨hh, r0, r1⟩ := Fire.cells h; exact ⟨r0, r1⟩
theorem Fire.rep_mk {w : World} {B : Nat} {x : Fire} (h0 : InK .i64 x.From) (h1 : InK .i64 x.To) : Fire.ty.rep w B [.int .i64 x.From, .int .i64 x.To] x :=
  ⟨_, _, rfl, ⟨rfl, h0⟩, ⟨rfl, h1⟩⟩
set_option maxRecDepth 100000 in
theorem Fire.reads : Reads Try.prog 110 Fire.ty :=
  reads_via (t := (Ty.prod (Ty.int .i64) (Ty.int .i64))) (fun x : Fire => (x.From, x.To)) (fun y => ⟨y.1, y.2⟩) (fun _ => rfl) (reads_struct Try.underlying110 (by kernel_rfl) (fld_cons rfl (reads_int Try.underlying2 (by kernel_rfl)) (fld_one rfl (reads_int Try.underlying2 (by kernel_rfl)))))
set_option maxRecDepth 10000 in
set_option maxHeartbeats 1000000 in
theorem eqFire_any (x : Fire) (w : World) :
    Calls Try.prog 75 #[.agg #[.int .i64 x.From, .int .i64 x.To], .agg #[.int .i64 x.From, .int .i64 x.To]] w fun e w' => e = .returned (.bool true) ∧ Below w.heap.size w w' := by
  go_enter Try.func75, Try.ntmps75
  go_upto_region 1 with fail
  refine rebase ?_; intro W1 hW _; have hz : Below w.heap.size w W1 := by rw [hW]; go_grown
  have hb0 := at_of hW (push2_0 _ _ _); have c0 := box2 hb0; have f0 := boxf hb0; have B0 := Lib.hid hb0; clear hb0; have hb1 := at_of hW (push2_1 _ _ _); have c1 := box2 hb1; have f1 := boxf hb1; have B1 := Lib.hid hb1; clear hb1; have HW := Lib.hid hW; clear hW; go_wp2_with fail; go_ret; exact ⟨rfl, ext_end _ hz⟩
set_option maxRecDepth 10000 in
set_option maxHeartbeats 1000000 in
theorem eqFireS_any (v1 v2 : Value) (xs : List Fire) (w : World) (B : Nat) (hB : B ≤ w.heap.size) (h1 : (Ty.slice 73 Fire.ty).rep w B [v1] xs) (h2 : (Ty.slice 73 Fire.ty).rep w B [v2] xs) :
    Calls Try.prog 69 #[v1, v2] w fun e w' => e = .returned (.bool true) ∧ Below w.heap.size w w' := by
  obtain ⟨a1, c1, rfl, _, hm1⟩ := Ty.form h1; obtain ⟨a2, c2, rfl, _, hm2⟩ := Ty.form h2; have hn : xs.length ≤ 9223372036854775807 := (by unfold maxLen at hm1; omega); clear hm1 hm2; refine rebaseC ?_; intro x; go_enter Try.func69, Try.ntmps69; go_wp2
  go_loopw [5] (fun i wr => ∃ k : Nat, k ≤ xs.length ∧ i = .int .i64 k ∧ ∃ z : Ext w, wr = w.to z) (fun i _ => xs.length - (intOf i).toNat)
  case atStart => exact ⟨0, Nat.zero_le _, rfl, x, rfl⟩
  case round =>
    obtain ⟨k, hk, rfl, z, rfl⟩ := hrel; by_cases hlt : k < xs.length
    · obtain ⟨b1, o1, cs1, rfl, hb1, g1, e1⟩ := Ty.elem h1 hB k hlt; obtain ⟨rfl, _, _⟩ := Fire.cells e1; have d1_0 : ∀ z : Ext w, (w.to z).cell? ⟨b1, o1 + k * 2, none⟩ = some (.int .i64 xs[k].From) := g1 0 _ rfl; have d1_1 : ∀ z : Ext w, (w.to z).cell? ⟨b1, o1 + k * 2 + 1, none⟩ = some (.int .i64 xs[k].To) := g1 1 _ rfl; clear g1; obtain ⟨b2, o2, cs2, rfl, hb2, g2, e2⟩ := Ty.elem h2 hB k hlt; obtain ⟨rfl, _, _⟩ := Fire.cells e2; have d2_0 : ∀ z : Ext w, (w.to z).cell? ⟨b2, o2 + k * 2, none⟩ = some (.int .i64 xs[k].From) := g2 0 _ rfl; have d2_1 : ∀ z : Ext w, (w.to z).cell? ⟨b2, o2 + k * 2 + 1, none⟩ = some (.int .i64 xs[k].To) := g2 1 _ rfl; clear g2; have hs := fun z : Ext w => eqFire_any xs[k] (w.to z); have HS := Lib.hid hs; clear hs; go_wp2_with fail; refine wp_region_ext (by kernel_rfl) (by kernel_rfl) ?_
      repeat (go_big_quiet_step ((go_at_call 75; exact ext_call (HS.out _))))
      refine wpQuiet_nil ?_; rintro _ ⟨y, rfl⟩; go_wp2_with fail
      go_roundw
      case rel => exact ⟨k + 1, by omega, by go_num, y, rfl⟩
      case measure => simp [intOf]; omega
    · go_wp2_with fail
      go_ret; exact ⟨rfl, z.below⟩
set_option maxRecDepth 10000 in
set_option maxHeartbeats 1000000 in
theorem szFireS_any (v : Value) (xs : List Fire) (l : Int) (hl0 : 0 ≤ l) (hl1 : l ≤ 1048576) (w : World) (B : Nat) (hB : B ≤ w.heap.size) (h : (Ty.slice 73 Fire.ty).rep w B [v] xs) :
    Calls Try.prog 52 #[v, .int .i64 l] w fun e w' => e = .returned (.int .i64 (szR l (xs.length))) ∧ Below w.heap.size w w' := by
  have _ := hB; obtain ⟨a, c, rfl, hc, hm⟩ := Ty.form h; have hn : xs.length ≤ 9223372036854775807 := (by unfold maxLen at hm; omega); clear hm; by_cases g : (xs.length : Int) ≤ l
  · rw [szR_ok g]; go_enter Try.func52, Try.ntmps52; go_wp2; go_ret; exact ⟨rfl, by go_grown⟩
  · rw [szR_no g]; go_enter Try.func52, Try.ntmps52; go_wp2; go_ret; exact ⟨rfl, by go_grown⟩
structure SignalTile where
  Name : ByteArray
  Sides : List Int
  On : List Bool
  Fires : List Fire
  deriving DecidableEq
def SignalTile.ty : Ty SignalTile := Ty.via (Ty.prod Ty.str (Ty.prod (Ty.slice 2 (Ty.int .i64)) (Ty.prod (Ty.slice 4 Ty.bool) (Ty.slice 73 Fire.ty)))) (fun x => (x.Name, x.Sides, x.On, x.Fires))
def SignalTile.cnt (x : SignalTile) : Nat := x.Name.size + x.Sides.length + x.On.length + x.Fires.length
theorem SignalTile.cells {w : World} {B : Nat} {cs : List Value} {x : SignalTile} (h : SignalTile.ty.rep w B cs x) : ∃ v0 v1 v2 : Value, cs = [.string x.Name, v0, v1, v2] ∧ x.Name.size ≤ maxLen ∧ (Ty.slice 2 (Ty.int .i64)).rep w B [v0] x.Sides ∧ (Ty.slice 4 Ty.bool).rep w B [v1] x.On ∧ (Ty.slice 73 Fire.ty).rep w B [v2] x.Fires := by obtain ⟨_, _, rfl, h0, _, _, rfl, h1, _, _, rfl, h2, h3⟩ := h; obtain ⟨rfl, i0⟩ := h0; obtain ⟨u1, rfl⟩ := Ty.slice_one h1; obtain ⟨u2, rfl⟩ := Ty.slice_one h2; obtain ⟨u3, rfl⟩ := Ty.slice_one h3; exact ⟨_, _, _, rfl, i0, h1, h2, h3⟩
theorem SignalTile.parts {w : World} {B : Nat} {v0 v1 v2 : Value} {x : SignalTile} (h : SignalTile.ty.rep w B [.string x.Name, v0, v1, v2] x) : x.Name.size ≤ maxLen ∧ (Ty.slice 2 (Ty.int .i64)).rep w B [v0] x.Sides ∧ (Ty.slice 4 Ty.bool).rep w B [v1] x.On ∧ (Ty.slice 73 Fire.ty).rep w B [v2] x.Fires := by obtain ⟨e0, e1, e2, hh, r0, r1, r2, r3⟩ := SignalTile.cells h; simp only [List.cons.injEq, and_true, true_and] at hh; obtain ⟨rfl, rfl, rfl⟩ := hh; exact ⟨r0, r1, r2, r3⟩
theorem SignalTile.rep_mk {w : World} {B : Nat} {v0 v1 v2 : Value} {x : SignalTile} (h0 : x.Name.size ≤ maxLen) (h1 : (Ty.slice 2 (Ty.int .i64)).rep w B [v0] x.Sides) (h2 : (Ty.slice 4 Ty.bool).rep w B [v1] x.On) (h3 : (Ty.slice 73 Fire.ty).rep w B [v2] x.Fires) : SignalTile.ty.rep w B [.string x.Name, v0, v1, v2] x :=
  ⟨_, _, rfl, ⟨rfl, h0⟩, _, _, rfl, h1, _, _, rfl, h2, h3⟩
set_option maxRecDepth 100000 in
theorem SignalTile.reads : Reads Try.prog 65 SignalTile.ty :=
  reads_via (t := (Ty.prod Ty.str (Ty.prod (Ty.slice 2 (Ty.int .i64)) (Ty.prod (Ty.slice 4 Ty.bool) (Ty.slice 73 Fire.ty))))) (fun x : SignalTile => (x.Name, x.Sides, x.On, x.Fires)) (fun y => ⟨y.1, y.2.1, y.2.2.1, y.2.2.2⟩) (fun _ => rfl) (reads_struct Try.underlying65 (by kernel_rfl) (fld_cons rfl (reads_str Try.underlying9 (by kernel_rfl)) (fld_cons rfl (reads_slice Try.underlying61 (by kernel_rfl) (by decide) (reads_int Try.underlying2 (by kernel_rfl))) (fld_cons rfl (reads_slice Try.underlying62 (by kernel_rfl) (by decide) (reads_bool Try.underlying4 (by kernel_rfl))) (fld_one rfl (reads_slice Try.underlying63 (by kernel_rfl) (by decide) (Fire.reads)))))))
set_option maxRecDepth 10000 in
set_option maxHeartbeats 1000000 in
theorem eqSignalTile_any (v0 v1 v2 u0 u1 u2 : Value) (x : SignalTile) (w : World) (B : Nat) (hB : B ≤ w.heap.size) (h0 : (Ty.slice 2 (Ty.int .i64)).rep w B [v0] x.Sides) (h1 : (Ty.slice 4 Ty.bool).rep w B [v1] x.On) (h2 : (Ty.slice 73 Fire.ty).rep w B [v2] x.Fires) (k0 : (Ty.slice 2 (Ty.int .i64)).rep w B [u0] x.Sides) (k1 : (Ty.slice 4 Ty.bool).rep w B [u1] x.On) (k2 : (Ty.slice 73 Fire.ty).rep w B [u2] x.Fires) :
    Calls Try.prog 44 #[.agg #[.string x.Name, v0, v1, v2], .agg #[.string x.Name, u0, u1, u2]] w fun e w' => e = .returned (.bool true) ∧ Below w.heap.size w w' := by
  go_enter Try.func44, Try.ntmps44
  go_upto_region 1 with fail
  refine rebase ?_; intro W1 hW _; have hz : Below w.heap.size w W1 := by rw [hW]; go_grown
  have hb0 := at_of hW (push2_0 _ _ _); have c0 := box4 hb0; have f0 := boxf hb0; have B0 := Lib.hid hb0; clear hb0; have hb1 := at_of hW (push2_1 _ _ _); have c1 := box4 hb1; have f1 := boxf hb1; have B1 := Lib.hid hb1; clear hb1; have HW := Lib.hid hW; clear hW; have hs0 := fun z : Ext W1 => eqInt64S_any v0 u0 x.Sides (W1.to z) B (Nat.le_trans hB (ext_end z hz).size) (Ty.rep_below _ h0 ((ext_end z hz).mono hB)) (Ty.rep_below _ k0 ((ext_end z hz).mono hB)); have HS0 := Lib.hid hs0; clear hs0; have hs1 := fun z : Ext W1 => eqBoolS_any v1 u1 x.On (W1.to z) B (Nat.le_trans hB (ext_end z hz).size) (Ty.rep_below _ h1 ((ext_end z hz).mono hB)) (Ty.rep_below _ k1 ((ext_end z hz).mono hB)); have HS1 := Lib.hid hs1; clear hs1; have hs2 := fun z : Ext W1 => eqFireS_any v2 u2 x.Fires (W1.to z) B (Nat.le_trans hB (ext_end z hz).size) (Ty.rep_below _ h2 ((ext_end z hz).mono hB)) (Ty.rep_below _ k2 ((ext_end z hz).mono hB)); have HS2 := Lib.hid hs2; clear hs2; go_wp2_with fail
  first
    | (refine call_ext (HS0.out _) ?_; intro y)
    | (refine wp_region_ext (by kernel_rfl) (by kernel_rfl) ?_; repeat (go_big_quiet_step ((go_at_call 67; exact ext_call (HS0.out _)))); refine wpQuiet_nil ?_; rintro _ ⟨y, rfl⟩)
  go_wp2_with fail
  first
    | (refine call_ext (HS1.out _) ?_; intro y)
    | (refine wp_region_ext (by kernel_rfl) (by kernel_rfl) ?_; repeat (go_big_quiet_step ((go_at_call 68; exact ext_call (HS1.out _)))); refine wpQuiet_nil ?_; rintro _ ⟨y, rfl⟩)
  go_wp2_with fail
  first
    | (refine call_ext (HS2.out _) ?_; intro y)
    | (refine wp_region_ext (by kernel_rfl) (by kernel_rfl) ?_; repeat (go_big_quiet_step ((go_at_call 69; exact ext_call (HS2.out _)))); refine wpQuiet_nil ?_; rintro _ ⟨y, rfl⟩)
  go_wp2_with fail
  go_ret; exact ⟨rfl, ext_end _ hz⟩
set_option maxRecDepth 10000 in
set_option maxHeartbeats 1000000 in
theorem eqSignalTileS_any (v1 v2 : Value) (xs : List SignalTile) (w : World) (B : Nat) (hB : B ≤ w.heap.size) (h1 : (Ty.slice 71 SignalTile.ty).rep w B [v1] xs) (h2 : (Ty.slice 71 SignalTile.ty).rep w B [v2] xs) :
    Calls Try.prog 23 #[v1, v2] w fun e w' => e = .returned (.bool true) ∧ Below w.heap.size w w' := by
  obtain ⟨a1, c1, rfl, _, hm1⟩ := Ty.form h1; obtain ⟨a2, c2, rfl, _, hm2⟩ := Ty.form h2; have hn : xs.length ≤ 9223372036854775807 := (by unfold maxLen at hm1; omega); clear hm1 hm2; refine rebaseC ?_; intro x; go_enter Try.func23, Try.ntmps23; go_wp2
  go_loopw [5] (fun i wr => ∃ k : Nat, k ≤ xs.length ∧ i = .int .i64 k ∧ ∃ z : Ext w, wr = w.to z) (fun i _ => xs.length - (intOf i).toNat)
  case atStart => exact ⟨0, Nat.zero_le _, rfl, x, rfl⟩
  case round =>
    obtain ⟨k, hk, rfl, z, rfl⟩ := hrel; by_cases hlt : k < xs.length
    · obtain ⟨b1, o1, cs1, rfl, hb1, g1, e1⟩ := Ty.elem h1 hB k hlt; obtain ⟨p1_0, p1_1, p1_2, rfl, _, r1_1, r1_2, r1_3⟩ := SignalTile.cells e1; have d1_0 : ∀ z : Ext w, (w.to z).cell? ⟨b1, o1 + k * 4, none⟩ = some (.string xs[k].Name) := g1 0 _ rfl; have d1_1 : ∀ z : Ext w, (w.to z).cell? ⟨b1, o1 + k * 4 + 1, none⟩ = some (p1_0) := g1 1 _ rfl; have d1_2 : ∀ z : Ext w, (w.to z).cell? ⟨b1, o1 + k * 4 + 2, none⟩ = some (p1_1) := g1 2 _ rfl; have d1_3 : ∀ z : Ext w, (w.to z).cell? ⟨b1, o1 + k * 4 + 3, none⟩ = some (p1_2) := g1 3 _ rfl; clear g1; obtain ⟨b2, o2, cs2, rfl, hb2, g2, e2⟩ := Ty.elem h2 hB k hlt; obtain ⟨p2_0, p2_1, p2_2, rfl, _, r2_1, r2_2, r2_3⟩ := SignalTile.cells e2; have d2_0 : ∀ z : Ext w, (w.to z).cell? ⟨b2, o2 + k * 4, none⟩ = some (.string xs[k].Name) := g2 0 _ rfl; have d2_1 : ∀ z : Ext w, (w.to z).cell? ⟨b2, o2 + k * 4 + 1, none⟩ = some (p2_0) := g2 1 _ rfl; have d2_2 : ∀ z : Ext w, (w.to z).cell? ⟨b2, o2 + k * 4 + 2, none⟩ = some (p2_1) := g2 2 _ rfl; have d2_3 : ∀ z : Ext w, (w.to z).cell? ⟨b2, o2 + k * 4 + 3, none⟩ = some (p2_2) := g2 3 _ rfl; clear g2; have hs := fun z : Ext w => eqSignalTile_any p1_0 p1_1 p1_2 p2_0 p2_1 p2_2 xs[k] (w.to z) B (Nat.le_trans hB z.below.size) (Ty.rep_to _ hB r1_1 z) (Ty.rep_to _ hB r1_2 z) (Ty.rep_to _ hB r1_3 z) (Ty.rep_to _ hB r2_1 z) (Ty.rep_to _ hB r2_2 z) (Ty.rep_to _ hB r2_3 z); have HS := Lib.hid hs; clear hs; go_wp2_with fail; refine wp_region_ext (by kernel_rfl) (by kernel_rfl) ?_
      repeat (go_big_quiet_step ((go_at_call 44; exact ext_call (HS.out _))))
      refine wpQuiet_nil ?_; rintro _ ⟨y, rfl⟩; go_wp2_with fail
      go_roundw
      case rel => exact ⟨k + 1, by omega, by go_num, y, rfl⟩
      case measure => simp [intOf]; omega
    · go_wp2_with fail
      go_ret; exact ⟨rfl, z.below⟩
set_option maxRecDepth 10000 in
set_option maxHeartbeats 1000000 in
theorem szSignalTile_any (v0 v1 v2 : Value) (q : SignalTile) (l : Int) (hl0 : 0 ≤ l) (hl1 : l ≤ 1048576) (w : World) (B : Nat) (hB : B ≤ w.heap.size) (h0 : (Ty.slice 2 (Ty.int .i64)).rep w B [v0] q.Sides) (h1 : (Ty.slice 4 Ty.bool).rep w B [v1] q.On) (h2 : (Ty.slice 73 Fire.ty).rep w B [v2] q.Fires) (s0 : q.Name.size ≤ maxLen) :
    Calls Try.prog 30 #[.agg #[.string q.Name, v0, v1, v2], .int .i64 l] w fun e w' => e = .returned (.int .i64 (szR l (SignalTile.cnt q))) ∧ Below w.heap.size w w' := by
  have s0_ : q.Name.size ≤ 9223372036854775807 := (by unfold maxLen at s0; omega); by_cases g0 : ((q.Name.size : Nat) : Int) ≤ l
  · by_cases g1 : ((q.Sides.length : Nat) : Int) ≤ l - (q.Name.size : Nat)
    · by_cases g2 : ((q.On.length : Nat) : Int) ≤ l - (q.Name.size : Nat) - (q.Sides.length : Nat)
      · by_cases g3 : ((q.Fires.length : Nat) : Int) ≤ l - (q.Name.size : Nat) - (q.Sides.length : Nat) - (q.On.length : Nat)
        · go_enter Try.func30, Try.ntmps30
          go_upto_region 1 with fail
          refine rebase ?_; intro W1 hW _; have hz : Below w.heap.size w W1 := by rw [hW]; go_grown
          have hb0 := at_of hW (push1_0 _ _); have c0 := box4 hb0; have f0 := boxf hb0; have B0 := Lib.hid hb0; clear hb0; have HW := Lib.hid hW; clear hW; have hs1 := fun z : Ext W1 => szInt64S_any v0 q.Sides (l - (q.Name.size : Nat)) (by omega) (by omega) (W1.to z) B (Nat.le_trans hB (ext_end z hz).size) (Ty.rep_below _ h0 ((ext_end z hz).mono hB)); simp only [szR_ok g1] at hs1; have HS1 := Lib.hid hs1; clear hs1; have hs2 := fun z : Ext W1 => szBoolS_any v1 q.On (l - (q.Name.size : Nat) - (q.Sides.length : Nat)) (by omega) (by omega) (W1.to z) B (Nat.le_trans hB (ext_end z hz).size) (Ty.rep_below _ h1 ((ext_end z hz).mono hB)); simp only [szR_ok g2] at hs2; have HS2 := Lib.hid hs2; clear hs2; have hs3 := fun z : Ext W1 => szFireS_any v2 q.Fires (l - (q.Name.size : Nat) - (q.Sides.length : Nat) - (q.On.length : Nat)) (by omega) (by omega) (W1.to z) B (Nat.le_trans hB (ext_end z hz).size) (Ty.rep_below _ h2 ((ext_end z hz).mono hB)); simp only [szR_ok g3] at hs3; have HS3 := Lib.hid hs3; clear hs3; go_wp2_with fail; refine call_ext (HS1.out _) ?_; intro y; go_wp2_with fail; refine call_ext (HS2.out _) ?_; intro y; go_wp2_with fail; refine call_ext (HS3.out _) ?_; intro y; go_wp2_with fail; go_ret; exact ⟨by rw [szR_ok (by unfold SignalTile.cnt; omega)]; unfold SignalTile.cnt; go_num, ext_end _ hz⟩
        · go_enter Try.func30, Try.ntmps30
          go_upto_region 1 with fail
          refine rebase ?_; intro W1 hW _; have hz : Below w.heap.size w W1 := by rw [hW]; go_grown
          have hb0 := at_of hW (push1_0 _ _); have c0 := box4 hb0; have f0 := boxf hb0; have B0 := Lib.hid hb0; clear hb0; have HW := Lib.hid hW; clear hW; have hs1 := fun z : Ext W1 => szInt64S_any v0 q.Sides (l - (q.Name.size : Nat)) (by omega) (by omega) (W1.to z) B (Nat.le_trans hB (ext_end z hz).size) (Ty.rep_below _ h0 ((ext_end z hz).mono hB)); simp only [szR_ok g1] at hs1; have HS1 := Lib.hid hs1; clear hs1; have hs2 := fun z : Ext W1 => szBoolS_any v1 q.On (l - (q.Name.size : Nat) - (q.Sides.length : Nat)) (by omega) (by omega) (W1.to z) B (Nat.le_trans hB (ext_end z hz).size) (Ty.rep_below _ h1 ((ext_end z hz).mono hB)); simp only [szR_ok g2] at hs2; have HS2 := Lib.hid hs2; clear hs2; have hs3 := fun z : Ext W1 => szFireS_any v2 q.Fires (l - (q.Name.size : Nat) - (q.Sides.length : Nat) - (q.On.length : Nat)) (by omega) (by omega) (W1.to z) B (Nat.le_trans hB (ext_end z hz).size) (Ty.rep_below _ h2 ((ext_end z hz).mono hB)); simp only [szR_no g3] at hs3; have HS3 := Lib.hid hs3; clear hs3; go_wp2_with fail; refine call_ext (HS1.out _) ?_; intro y; go_wp2_with fail; refine call_ext (HS2.out _) ?_; intro y; go_wp2_with fail; refine call_ext (HS3.out _) ?_; intro y; go_wp2_with fail; go_ret; exact ⟨by rw [szR_no (by unfold SignalTile.cnt; omega)]; rfl, ext_end _ hz⟩
      · go_enter Try.func30, Try.ntmps30
        go_upto_region 1 with fail
        refine rebase ?_; intro W1 hW _; have hz : Below w.heap.size w W1 := by rw [hW]; go_grown
        have hb0 := at_of hW (push1_0 _ _); have c0 := box4 hb0; have f0 := boxf hb0; have B0 := Lib.hid hb0; clear hb0; have HW := Lib.hid hW; clear hW; have hs1 := fun z : Ext W1 => szInt64S_any v0 q.Sides (l - (q.Name.size : Nat)) (by omega) (by omega) (W1.to z) B (Nat.le_trans hB (ext_end z hz).size) (Ty.rep_below _ h0 ((ext_end z hz).mono hB)); simp only [szR_ok g1] at hs1; have HS1 := Lib.hid hs1; clear hs1; have hs2 := fun z : Ext W1 => szBoolS_any v1 q.On (l - (q.Name.size : Nat) - (q.Sides.length : Nat)) (by omega) (by omega) (W1.to z) B (Nat.le_trans hB (ext_end z hz).size) (Ty.rep_below _ h1 ((ext_end z hz).mono hB)); simp only [szR_no g2] at hs2; have HS2 := Lib.hid hs2; clear hs2; go_wp2_with fail; refine call_ext (HS1.out _) ?_; intro y; go_wp2_with fail; refine call_ext (HS2.out _) ?_; intro y; go_wp2_with fail; go_ret; exact ⟨by rw [szR_no (by unfold SignalTile.cnt; omega)]; rfl, ext_end _ hz⟩
    · go_enter Try.func30, Try.ntmps30
      go_upto_region 1 with fail
      refine rebase ?_; intro W1 hW _; have hz : Below w.heap.size w W1 := by rw [hW]; go_grown
      have hb0 := at_of hW (push1_0 _ _); have c0 := box4 hb0; have f0 := boxf hb0; have B0 := Lib.hid hb0; clear hb0; have HW := Lib.hid hW; clear hW; have hs1 := fun z : Ext W1 => szInt64S_any v0 q.Sides (l - (q.Name.size : Nat)) (by omega) (by omega) (W1.to z) B (Nat.le_trans hB (ext_end z hz).size) (Ty.rep_below _ h0 ((ext_end z hz).mono hB)); simp only [szR_no g1] at hs1; have HS1 := Lib.hid hs1; clear hs1; go_wp2_with fail; refine call_ext (HS1.out _) ?_; intro y; go_wp2_with fail; go_ret; exact ⟨by rw [szR_no (by unfold SignalTile.cnt; omega)]; rfl, ext_end _ hz⟩
  · go_enter Try.func30, Try.ntmps30
    go_upto_region 1 with fail
    refine rebase ?_; intro W1 hW _; have hz : Below w.heap.size w W1 := by rw [hW]; go_grown
    have hb0 := at_of hW (push1_0 _ _); have c0 := box4 hb0; have f0 := boxf hb0; have B0 := Lib.hid hb0; clear hb0; have HW := Lib.hid hW; clear hW; go_wp2_with fail; go_ret; exact ⟨by rw [szR_no (by unfold SignalTile.cnt; omega)]; rfl, ext_end _ hz⟩
set_option maxRecDepth 10000 in
set_option maxHeartbeats 1000000 in
theorem szSignalTileS_any (v : Value) (xs : List SignalTile) (l : Int) (hl0 : 0 ≤ l) (hl1 : l ≤ 1048576) (w : World) (B : Nat) (hB : B ≤ w.heap.size) (h : (Ty.slice 71 SignalTile.ty).rep w B [v] xs) :
    Calls Try.prog 14 #[v, .int .i64 l] w fun e w' => e = .returned (.int .i64 (szR l (cntL SignalTile.cnt xs))) ∧ Below w.heap.size w w' := by
  obtain ⟨a, c, rfl, hc, hm⟩ := Ty.form h; have hn : xs.length ≤ 9223372036854775807 := (by unfold maxLen at hm; omega); clear hm; by_cases g : (xs.length : Int) ≤ l
  · refine rebaseC ?_; intro x; go_enter Try.func14, Try.ntmps14; go_wp2
    go_loopw [1, 5] (fun q i wr => ∃ k : Nat, k ≤ xs.length ∧ i = .int .i64 k ∧ ((xs.length + sumT SignalTile.cnt xs k : Nat) : Int) ≤ l ∧ q = .int .i64 (l - (xs.length + sumT SignalTile.cnt xs k : Nat)) ∧ ∃ z : Ext w, wr = w.to z) (fun _ i _ => xs.length - (intOf i).toNat)
    case atStart => exact ⟨0, Nat.zero_le _, rfl, by rw [sumT_zero]; exact g, by rw [sumT_zero]; rfl, x, rfl⟩
    case round =>
      obtain ⟨k, hk, rfl, hs, rfl, z, rfl⟩ := hrel; generalize hq : xs.length + sumT SignalTile.cnt xs k = q at hs ⊢; have HQ := Lib.hid hq; clear hq; by_cases hlt : k < xs.length
      · obtain ⟨b, o, cs, rfl, hb, gg, ee⟩ := Ty.elem h hB k hlt; obtain ⟨p0, p1, p2, rfl, s0, r1, r2, r3⟩ := SignalTile.cells ee; have d0 : ∀ z : Ext w, (w.to z).cell? ⟨b, o + k * 4, none⟩ = some (.string xs[k].Name) := gg 0 _ rfl; have d1 : ∀ z : Ext w, (w.to z).cell? ⟨b, o + k * 4 + 1, none⟩ = some (p0) := gg 1 _ rfl; have d2 : ∀ z : Ext w, (w.to z).cell? ⟨b, o + k * 4 + 2, none⟩ = some (p1) := gg 2 _ rfl; have d3 : ∀ z : Ext w, (w.to z).cell? ⟨b, o + k * 4 + 3, none⟩ = some (p2) := gg 3 _ rfl; clear gg; have hs1 := fun z : Ext w => szSignalTile_any p0 p1 p2 xs[k] (l - q) (by omega) (by omega) (w.to z) B (Nat.le_trans hB z.below.size) (Ty.rep_to _ hB r1 z) (Ty.rep_to _ hB r2 z) (Ty.rep_to _ hB r3 z) s0; have hsum := sumT_succ SignalTile.cnt xs k hlt; have hsle := sumT_le SignalTile.cnt xs (k + 1); have HSU := Lib.hid hsum; have HSL := Lib.hid hsle; clear hsum hsle; by_cases gk : ((SignalTile.cnt xs[k] : Nat) : Int) ≤ l - q
        · simp only [szR_ok gk] at hs1; have HS1 := Lib.hid hs1; clear hs1; go_wp2_with (go_at_call 30; refine call_ext (HS1.out _) ?_; intro y)
          go_roundw
          case rel => have h1 := HSU.out; have h2 := HQ.out; exact ⟨k + 1, by omega, by go_num, by rw [h1]; omega, by rw [h1]; go_num, y, rfl⟩
          case measure => simp [intOf]; omega
        · simp only [szR_no gk] at hs1; have HS1 := Lib.hid hs1; clear hs1; go_wp2_with (go_at_call 30; refine call_ext (HS1.out _) ?_; intro y)
          go_ret; have h1 := HSU.out; have h2 := HQ.out; have h3 := HSL.out; exact ⟨by rw [szR_no (by unfold cntL; omega)]; rfl, y.below⟩
      · obtain rfl : k = xs.length := (by omega); go_wp2_with fail; go_ret; have h2 := HQ.out; have h3 := sumT_all SignalTile.cnt xs; exact ⟨by rw [szR_ok (by unfold cntL; omega), show cntL SignalTile.cnt xs = q by unfold cntL; omega]; rfl, z.below⟩
  · rw [szR_no (by have := cntL_len SignalTile.cnt xs; omega)]; go_enter Try.func14, Try.ntmps14; go_wp2; go_ret; exact ⟨rfl, by go_grown⟩
structure SignalSet where
  Glues : List Glue
  Tiles : List SignalTile
  deriving DecidableEq
def SignalSet.ty : Ty SignalSet := Ty.via (Ty.prod (Ty.slice 78 Glue.ty) (Ty.slice 71 SignalTile.ty)) (fun x => (x.Glues, x.Tiles))
def SignalSet.cnt (x : SignalSet) : Nat := cntL Glue.cnt x.Glues + cntL SignalTile.cnt x.Tiles
theorem SignalSet.cells {w : World} {B : Nat} {cs : List Value} {x : SignalSet} (h : SignalSet.ty.rep w B cs x) : ∃ v0 v1 : Value, cs = [v0, v1] ∧ (Ty.slice 78 Glue.ty).rep w B [v0] x.Glues ∧ (Ty.slice 71 SignalTile.ty).rep w B [v1] x.Tiles := by obtain ⟨_, _, rfl, h0, h1⟩ := h; obtain ⟨u0, rfl⟩ := Ty.slice_one h0; obtain ⟨u1, rfl⟩ := Ty.slice_one h1; exact ⟨_, _, rfl, h0, h1⟩
theorem SignalSet.parts {w : World} {B : Nat} {v0 v1 : Value} {x : SignalSet} (h : SignalSet.ty.rep w B [v0, v1] x) : (Ty.slice 78 Glue.ty).rep w B [v0] x.Glues ∧ (Ty.slice 71 SignalTile.ty).rep w B [v1] x.Tiles := by obtain ⟨e0, e1, hh, r0, r1⟩ := SignalSet.cells h; simp only [List.cons.injEq, and_true, true_and] at hh; obtain ⟨rfl, rfl⟩ := hh; exact ⟨r0, r1⟩
theorem SignalSet.rep_mk {w : World} {B : Nat} {v0 v1 : Value} {x : SignalSet} (h0 : (Ty.slice 78 Glue.ty).rep w B [v0] x.Glues) (h1 : (Ty.slice 71 SignalTile.ty).rep w B [v1] x.Tiles) : SignalSet.ty.rep w B [v0, v1] x :=
  ⟨_, _, rfl, h0, h1⟩
set_option maxRecDepth 100000 in
theorem SignalSet.reads : Reads Try.prog 25 SignalSet.ty :=
  reads_via (t := (Ty.prod (Ty.slice 78 Glue.ty) (Ty.slice 71 SignalTile.ty))) (fun x : SignalSet => (x.Glues, x.Tiles)) (fun y => ⟨y.1, y.2⟩) (fun _ => rfl) (reads_struct Try.underlying25 (by kernel_rfl) (fld_cons rfl (reads_slice Try.underlying22 (by kernel_rfl) (by decide) (Glue.reads)) (fld_one rfl (reads_slice Try.underlying23 (by kernel_rfl) (by decide) (SignalTile.reads)))))
set_option maxRecDepth 10000 in
set_option maxHeartbeats 1000000 in
theorem eqSignalSet_any (v0 v1 u0 u1 : Value) (x : SignalSet) (w : World) (B : Nat) (hB : B ≤ w.heap.size) (h0 : (Ty.slice 78 Glue.ty).rep w B [v0] x.Glues) (h1 : (Ty.slice 71 SignalTile.ty).rep w B [v1] x.Tiles) (k0 : (Ty.slice 78 Glue.ty).rep w B [u0] x.Glues) (k1 : (Ty.slice 71 SignalTile.ty).rep w B [u1] x.Tiles) :
    Calls Try.prog 9 #[.agg #[v0, v1], .agg #[u0, u1]] w fun e w' => e = .returned (.bool true) ∧ Below w.heap.size w w' := by
  go_enter Try.func9, Try.ntmps9
  go_upto_region 1 with fail
  refine rebase ?_; intro W1 hW _; have hz : Below w.heap.size w W1 := by rw [hW]; go_grown
  have hb0 := at_of hW (push2_0 _ _ _); have c0 := box2 hb0; have f0 := boxf hb0; have B0 := Lib.hid hb0; clear hb0; have hb1 := at_of hW (push2_1 _ _ _); have c1 := box2 hb1; have f1 := boxf hb1; have B1 := Lib.hid hb1; clear hb1; have HW := Lib.hid hW; clear hW; have hs0 := fun z : Ext W1 => eqGlueS_any v0 u0 x.Glues (W1.to z) B (Nat.le_trans hB (ext_end z hz).size) (Ty.rep_below _ h0 ((ext_end z hz).mono hB)) (Ty.rep_below _ k0 ((ext_end z hz).mono hB)); have HS0 := Lib.hid hs0; clear hs0; have hs1 := fun z : Ext W1 => eqSignalTileS_any v1 u1 x.Tiles (W1.to z) B (Nat.le_trans hB (ext_end z hz).size) (Ty.rep_below _ h1 ((ext_end z hz).mono hB)) (Ty.rep_below _ k1 ((ext_end z hz).mono hB)); have HS1 := Lib.hid hs1; clear hs1; go_wp2_with fail
  first
    | (refine call_ext (HS0.out _) ?_; intro y)
    | (refine wp_region_ext (by kernel_rfl) (by kernel_rfl) ?_; repeat (go_big_quiet_step ((go_at_call 21; exact ext_call (HS0.out _)))); refine wpQuiet_nil ?_; rintro _ ⟨y, rfl⟩)
  go_wp2_with fail
  first
    | (refine call_ext (HS1.out _) ?_; intro y)
    | (refine wp_region_ext (by kernel_rfl) (by kernel_rfl) ?_; repeat (go_big_quiet_step ((go_at_call 23; exact ext_call (HS1.out _)))); refine wpQuiet_nil ?_; rintro _ ⟨y, rfl⟩)
  go_wp2_with fail
  go_ret; exact ⟨rfl, ext_end _ hz⟩
set_option maxRecDepth 10000 in
set_option maxHeartbeats 1000000 in
theorem szSignalSet_any (v0 v1 : Value) (q : SignalSet) (l : Int) (hl0 : 0 ≤ l) (hl1 : l ≤ 1048576) (w : World) (B : Nat) (hB : B ≤ w.heap.size) (h0 : (Ty.slice 78 Glue.ty).rep w B [v0] q.Glues) (h1 : (Ty.slice 71 SignalTile.ty).rep w B [v1] q.Tiles) :
    Calls Try.prog 4 #[.agg #[v0, v1], .int .i64 l] w fun e w' => e = .returned (.int .i64 (szR l (SignalSet.cnt q))) ∧ Below w.heap.size w w' := by
  by_cases g0 : ((cntL Glue.cnt q.Glues : Nat) : Int) ≤ l
  · by_cases g1 : ((cntL SignalTile.cnt q.Tiles : Nat) : Int) ≤ l - (cntL Glue.cnt q.Glues : Nat)
    · go_enter Try.func4, Try.ntmps4
      go_upto_region 1 with fail
      refine rebase ?_; intro W1 hW _; have hz : Below w.heap.size w W1 := by rw [hW]; go_grown
      have hb0 := at_of hW (push1_0 _ _); have c0 := box2 hb0; have f0 := boxf hb0; have B0 := Lib.hid hb0; clear hb0; have HW := Lib.hid hW; clear hW; have hs0 := fun z : Ext W1 => szGlueS_any v0 q.Glues (l) (by omega) (by omega) (W1.to z) B (Nat.le_trans hB (ext_end z hz).size) (Ty.rep_below _ h0 ((ext_end z hz).mono hB)); simp only [szR_ok g0] at hs0; have HS0 := Lib.hid hs0; clear hs0; have hs1 := fun z : Ext W1 => szSignalTileS_any v1 q.Tiles (l - (cntL Glue.cnt q.Glues : Nat)) (by omega) (by omega) (W1.to z) B (Nat.le_trans hB (ext_end z hz).size) (Ty.rep_below _ h1 ((ext_end z hz).mono hB)); simp only [szR_ok g1] at hs1; have HS1 := Lib.hid hs1; clear hs1; go_wp2_with fail; refine call_ext (HS0.out _) ?_; intro y; go_wp2_with fail; refine call_ext (HS1.out _) ?_; intro y; go_wp2_with fail; go_ret; exact ⟨by rw [szR_ok (by unfold SignalSet.cnt; omega)]; unfold SignalSet.cnt; go_num, ext_end _ hz⟩
    · go_enter Try.func4, Try.ntmps4
      go_upto_region 1 with fail
      refine rebase ?_; intro W1 hW _; have hz : Below w.heap.size w W1 := by rw [hW]; go_grown
      have hb0 := at_of hW (push1_0 _ _); have c0 := box2 hb0; have f0 := boxf hb0; have B0 := Lib.hid hb0; clear hb0; have HW := Lib.hid hW; clear hW; have hs0 := fun z : Ext W1 => szGlueS_any v0 q.Glues (l) (by omega) (by omega) (W1.to z) B (Nat.le_trans hB (ext_end z hz).size) (Ty.rep_below _ h0 ((ext_end z hz).mono hB)); simp only [szR_ok g0] at hs0; have HS0 := Lib.hid hs0; clear hs0; have hs1 := fun z : Ext W1 => szSignalTileS_any v1 q.Tiles (l - (cntL Glue.cnt q.Glues : Nat)) (by omega) (by omega) (W1.to z) B (Nat.le_trans hB (ext_end z hz).size) (Ty.rep_below _ h1 ((ext_end z hz).mono hB)); simp only [szR_no g1] at hs1; have HS1 := Lib.hid hs1; clear hs1; go_wp2_with fail; refine call_ext (HS0.out _) ?_; intro y; go_wp2_with fail; refine call_ext (HS1.out _) ?_; intro y; go_wp2_with fail; go_ret; exact ⟨by rw [szR_no (by unfold SignalSet.cnt; omega)]; rfl, ext_end _ hz⟩
  · go_enter Try.func4, Try.ntmps4
    go_upto_region 1 with fail
    refine rebase ?_; intro W1 hW _; have hz : Below w.heap.size w W1 := by rw [hW]; go_grown
    have hb0 := at_of hW (push1_0 _ _); have c0 := box2 hb0; have f0 := boxf hb0; have B0 := Lib.hid hb0; clear hb0; have HW := Lib.hid hW; clear hW; have hs0 := fun z : Ext W1 => szGlueS_any v0 q.Glues (l) (by omega) (by omega) (W1.to z) B (Nat.le_trans hB (ext_end z hz).size) (Ty.rep_below _ h0 ((ext_end z hz).mono hB)); simp only [szR_no g0] at hs0; have HS0 := Lib.hid hs0; clear hs0; go_wp2_with fail; refine call_ext (HS0.out _) ?_; intro y; go_wp2_with fail; go_ret; exact ⟨by rw [szR_no (by unfold SignalSet.cnt; omega)]; rfl, ext_end _ hz⟩
def Fire.cnE (x : Fire) : Nat := 1 + 1
def Fire.mkE (x : Fire) (k : Int) : Fire := ⟨k, (k + 1)⟩
def Fire.cnT (x : Fire) : Nat := 0
def Fire.mkT (x : Fire) (k : Int) : Fire := ⟨x.From, x.To⟩
theorem Fire.cnE_le (x : Fire) : Fire.cnE x ≤ 2 := Nat.le_refl _
theorem Fire.own_cells {w : World} {cs : List Value} {x : Fire} {F : List Nat} (h : Fire.ty.own w cs x F) : cs = [.int .i64 x.From, .int .i64 x.To] ∧ F = (([] : List Nat) ++ ([] : List Nat)) ∧ InK .i64 x.From ∧ InK .i64 x.To := by obtain ⟨_, _, _, _, rfl, rfl, h_0, h_1⟩ := h; obtain ⟨rfl, h_0_i, rfl⟩ := h_0; obtain ⟨rfl, h_1_i, rfl⟩ := h_1; exact ⟨rfl, rfl, h_0_i, h_1_i⟩
theorem Fire.own_make {w : World} {x : Fire} (h0 : InK .i64 x.From) (h1 : InK .i64 x.To) : Fire.ty.own w [.int .i64 x.From, .int .i64 x.To] x (([] : List Nat) ++ ([] : List Nat)) :=
  ⟨_, _, _, _, rfl, rfl, ⟨rfl, h0, rfl⟩, ⟨rfl, h1, rfl⟩⟩
set_option maxRecDepth 10000 in
set_option maxHeartbeats 1000000 in
theorem markFireS_any (v : Value) (xs : List Fire) (k : Int) (F : List Nat) (w : World) (h : (Ty.slice 73 Fire.ty).own w [v] xs F) (hn : F.Nodup) (hF : ∀ b, b ∈ F → b < w.heap.size) (h0 : 0 ≤ k) (hk : k + (cnS Fire.cnE xs : Nat) ≤ 4611686018427387904) :
    Calls Try.prog 48 #[v, .int .i64 k] w fun e w' => e = .returned (.int .i64 (k + (cnS Fire.cnE xs : Nat))) ∧ (Ty.slice 73 Fire.ty).own w' [v] (mkL Fire.mkE Fire.cnE xs k) F ∧ Chg F w w' := by
  obtain ⟨a, c, rfl, _, hm⟩ := Ty.form (Ty.own_lt _ h); have hlen : xs.length ≤ 9223372036854775807 := (by unfold maxLen at hm; omega); clear hm; have HO := Lib.hid h; have HN := Lib.hid hn; have HF := Lib.hid hF; clear h hn hF; go_enter Try.func48, Try.ntmps48; go_wp2
  go_loopw [1, 5] (fun n i wr => ∃ j : Nat, j ≤ xs.length ∧ i = .int .i64 j ∧ n = .int .i64 (k + (sumT Fire.cnE xs j : Nat)) ∧ (Ty.slice 73 Fire.ty).own wr [.slice a xs.length c] (mkAt Fire.mkE Fire.cnE xs k j) F ∧ Chg F w wr) (fun _ i _ => xs.length - (intOf i).toNat)
  case atStart => exact ⟨0, Nat.zero_le _, rfl, by simp [sumT_zero], by rw [mkAt_zero]; exact HO.out, Chg.refl _ _⟩
  case round =>
    obtain ⟨j, hj, rfl, rfl, ho, hc⟩ := hrel; by_cases hlt : j < xs.length
    · obtain ⟨g, o, cs, Fk, arr0, rfl, -, hg, hgk, hnk, hsub, hx, hH, hput⟩ := own_elem ho HN.out j (by rw [mkAt_len]; exact hlt); rw [mkAt_get _ _ _ _ _ hlt] at hx; have hb1 := sumT_cn_lt Fire.cnE xs j hlt; have hb2 := sumT_succ Fire.cnE xs j hlt; have hFw : ∀ b, b ∈ F → b < wr.heap.size := fun b hb => Nat.lt_of_lt_of_le (HF.out b hb) hc.size; have HFW := Lib.hid hFw; have HC := Lib.hid hc; clear ho hFw hc; obtain ⟨rfl, hFe, _, _⟩ := Fire.own_cells hx; rw [hFe] at hgk hnk hsub hput; clear hFe hx; have hcn : Fire.cnE xs[j] = 1 + 1 := rfl; have KC : Chg (g :: (([] : List Nat) ++ ([] : List Nat))) wr wr := Chg.refl _ _; have hsz : Fire.ty.size = 2 := rfl; rw [hsz] at hH hput; have c0 : wr.cell? ⟨g, o + j * 2, none⟩ = some (.int .i64 xs[j].From) := (by have := hH.cell (j := 0) rfl; simpa using this); have f0 := hH.froz
      go_upto_region 6 with fail
      refine plainbase ?_; intro W1 hW; have hH2 := hH.set 0 (by omega) (.int .i64 (k + (sumT Fire.cnE xs j : Nat))); have hH3 : HoleAt W1 g 73 arr0 (o + j * 2) 2 [.int .i64 (k + (sumT Fire.cnE xs j : Nat)), .int .i64 xs[j].To] := by rw [hW]; simpa using hH2
      have hCG : Chg [g] wr W1 := (by rw [hW]; exact (Chg.refl [g] _).set (by simp) _ _); have KC2 := KC.trans (hCG.mono (fun b hb => by simp_all)); clear c0 f0 hH hH2 hCG KC hW; have hH := hH3; have KC := KC2; clear hH3 KC2; have c1 : W1.cell? ⟨g, o + j * 2 + 1, none⟩ = some (.int .i64 xs[j].To) := (by have := hH.cell (j := 1) rfl; simpa using this); have f1 := hH.froz
      go_upto_region 3 with fail
      refine plainbase ?_; intro W2 hW; have hH2 := hH.set 1 (by omega) (.int .i64 ((k + (sumT Fire.cnE xs j : Nat)) + 1)); have hH3 : HoleAt W2 g 73 arr0 (o + j * 2) 2 [.int .i64 (k + (sumT Fire.cnE xs j : Nat)), .int .i64 ((k + (sumT Fire.cnE xs j : Nat)) + 1)] := by rw [hW]; simpa using hH2
      have hCG : Chg [g] W1 W2 := (by rw [hW]; exact (Chg.refl [g] _).set (by simp) _ _); have KC2 := KC.trans (hCG.mono (fun b hb => by simp_all)); clear c1 f1 hH hH2 hCG KC hW; have hH := hH3; have KC := KC2; clear hH3 KC2; have h3 := hput _ _ _ hH (Fire.own_make (x := Fire.mkE xs[j] (k + (sumT Fire.cnE xs j : Nat))) (show InK .i64 (k + (sumT Fire.cnE xs j : Nat)) from ⟨by omega, by omega⟩) (show InK .i64 ((k + (sumT Fire.cnE xs j : Nat)) + 1) from ⟨by omega, by omega⟩)) (fun b hb h1 h2 => KC.keep b (HFW.out b hb) (by simp only [List.mem_cons, not_or]; exact ⟨h1, h2⟩)); rw [← mkAt_succ Fire.mkE Fire.cnE xs k j hlt] at h3; have h4 := HC.out.trans (KC.mono (fun b hb => by rcases List.mem_cons.1 hb with rfl | hb; exact hg; exact hsub b hb)); have H3 := Lib.hid h3; have H4 := Lib.hid h4; clear h3 h4 hput hH KC; go_wp2_with fail
      go_roundw
      case rel => refine ⟨j + 1, by omega, by go_num, by rw [hb2]; rw [hcn]; simp only [Int.natCast_add, Int.natCast_one, Int.add_assoc], H3.out, H4.out⟩
      case measure => simp [intOf]; omega
    · obtain rfl : j = xs.length := (by omega); have HC := Lib.hid hc; have HW := Lib.hid ho; clear hc ho; go_wp2_with fail; go_ret; refine ⟨by rw [sumT_cnS]; rfl, ?_, HC.out⟩; have := HW.out; rw [mkAt_all] at this; exact this
end Go.Proofs.Ytddkkndgpcgdpaa
