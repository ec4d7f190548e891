/- Laws that the proof stands on. -/
import Derived.Test.YtddkkndgpcgdpaaGreatRows
import Derived.Test.YtddkkndgpcgdpaaGreatZLib
import Derived.Test.YtddkkndgpcgdpaaGreatZTyBase
set_option linter.all false
namespace Go.Proofs.YtddkkndgpcgdpaaGreat
open Go.RowKit Go.ChangeShapes Go.WideShapes Go.ChangeAt
structure Glue where
  Name : ByteArray
  Strength : Int
  deriving DecidableEq
def Glue.ty : Ty Glue := Ty.via (Ty.prod Ty.str (Ty.int .i64)) (fun x => (x.Name, x.Strength))
def Glue.cnt (x : Glue) : Nat := x.Name.size
theorem Glue.cells {w : World} {B : Nat} {cs : List Value} {x : Glue} (h : Glue.ty.rep w B cs x) : cs = [.string x.Name, .int .i64 x.Strength] ∧ x.Name.size ≤ maxLen ∧ InK .i64 x.Strength := by obtain ⟨_, _, rfl, h0, h1⟩ := h; obtain ⟨rfl, i0⟩ := h0; obtain ⟨rfl, i1⟩ := h1; exact ⟨rfl, i0, i1⟩
theorem Glue.parts {w : World} {B : Nat} {x : Glue} (h : Glue.ty.rep w B [.string x.Name, .int .i64 x.Strength] x) : x.Name.size ≤ maxLen ∧ InK .i64 x.Strength := by obtain ⟨hh, r0, r1⟩ := Glue.cells h; exact ⟨r0, r1⟩
theorem Glue.rep_mk {w : World} {B : Nat} {x : Glue} (h0 : x.Name.size ≤ maxLen) (h1 : InK .i64 x.Strength) : Glue.ty.rep w B [.string x.Name, .int .i64 x.Strength] x :=
  ⟨_, _, rfl, ⟨rfl, h0⟩, ⟨rfl, h1⟩⟩
set_option maxRecDepth 100000 in
theorem Glue.reads : Reads Tryz.prog 87 Glue.ty :=
  reads_via (t := (Ty.prod Ty.str (Ty.int .i64))) (fun x : Glue => (x.Name, x.Strength)) (fun y => ⟨y.1, y.2⟩) (fun _ => rfl) (reads_struct Tryz.underlying87 (by kernel_rfl) (fld_cons rfl (reads_str Tryz.underlying9 (by kernel_rfl)) (fld_one rfl (reads_int Tryz.underlying2 (by kernel_rfl)))))
set_option maxRecDepth 10000 in
set_option maxHeartbeats 1000000 in
theorem eqGlue_any (x : Glue) (w : World) :
    Calls Tryz.prog 63 #[.agg #[.string x.Name, .int .i64 x.Strength], .agg #[.string x.Name, .int .i64 x.Strength]] w fun e w' => e = .returned (.bool true) ∧ Below w.heap.size w w' := by
  go_enter Tryz.func63, Tryz.ntmps63
  go_upto_region 1 with fail
  refine rebase ?_; intro W1 hW _; have hz : Below w.heap.size w W1 := by rw [hW]; go_grown
  have hb0 := at_of hW (push2_0 _ _ _); have c0 := box2 hb0; have f0 := boxf hb0; have B0 := Lib.hid hb0; clear hb0; have hb1 := at_of hW (push2_1 _ _ _); have c1 := box2 hb1; have f1 := boxf hb1; have B1 := Lib.hid hb1; clear hb1; have HW := Lib.hid hW; clear hW; go_wp2_with fail; go_ret; exact ⟨rfl, ext_end _ hz⟩
set_option maxRecDepth 10000 in
set_option maxHeartbeats 1000000 in
theorem eqGlueS_any (v1 v2 : Value) (xs : List Glue) (w : World) (B : Nat) (hB : B ≤ w.heap.size) (h1 : (Ty.slice 106 Glue.ty).rep w B [v1] xs) (h2 : (Ty.slice 106 Glue.ty).rep w B [v2] xs) :
    Calls Tryz.prog 32 #[v1, v2] w fun e w' => e = .returned (.bool true) ∧ Below w.heap.size w w' := by
  obtain ⟨a1, c1, rfl, _, hm1⟩ := Ty.form h1; obtain ⟨a2, c2, rfl, _, hm2⟩ := Ty.form h2; have hn : xs.length ≤ 9223372036854775807 := (by unfold maxLen at hm1; omega); clear hm1 hm2; refine rebaseC ?_; intro x; go_enter Tryz.func32, Tryz.ntmps32; go_wp2
  go_loopw [5] (fun i wr => ∃ k : Nat, k ≤ xs.length ∧ i = .int .i64 k ∧ ∃ z : Ext w, wr = w.to z) (fun i _ => xs.length - (intOf i).toNat)
  case atStart => exact ⟨0, Nat.zero_le _, rfl, x, rfl⟩
  case round =>
    obtain ⟨k, hk, rfl, z, rfl⟩ := hrel; by_cases hlt : k < xs.length
    · obtain ⟨b1, o1, cs1, rfl, hb1, g1, e1⟩ := Ty.elem h1 hB k hlt; obtain ⟨rfl, _, _⟩ := Glue.cells e1; have d1_0 : ∀ z : Ext w, (w.to z).cell? ⟨b1, o1 + k * 2, none⟩ = some (.string xs[k].Name) := g1 0 _ rfl; have d1_1 : ∀ z : Ext w, (w.to z).cell? ⟨b1, o1 + k * 2 + 1, none⟩ = some (.int .i64 xs[k].Strength) := g1 1 _ rfl; clear g1; obtain ⟨b2, o2, cs2, rfl, hb2, g2, e2⟩ := Ty.elem h2 hB k hlt; obtain ⟨rfl, _, _⟩ := Glue.cells e2; have d2_0 : ∀ z : Ext w, (w.to z).cell? ⟨b2, o2 + k * 2, none⟩ = some (.string xs[k].Name) := g2 0 _ rfl; have d2_1 : ∀ z : Ext w, (w.to z).cell? ⟨b2, o2 + k * 2 + 1, none⟩ = some (.int .i64 xs[k].Strength) := g2 1 _ rfl; clear g2; have hs := fun z : Ext w => eqGlue_any xs[k] (w.to z); have HS := Lib.hid hs; clear hs; go_wp2_with fail; refine wp_region_ext (by kernel_rfl) (by kernel_rfl) ?_
      repeat (go_big_quiet_step ((go_at_call 63; exact ext_call (HS.out _))))
      refine wpQuiet_nil ?_; rintro _ ⟨y, rfl⟩; go_wp2_with fail
      go_roundw
      case rel => exact ⟨k + 1, by omega, by go_num, y, rfl⟩
      case measure => simp [intOf]; omega
    · go_wp2_with fail
      go_ret; exact ⟨rfl, z.below⟩
set_option maxRecDepth 10000 in
set_option maxHeartbeats 1000000 in
theorem szGlue_any (q : Glue) (l : Int) (hl0 : 0 ≤ l) (hl1 : l ≤ 1048576) (w : World) (s0 : q.Name.size ≤ maxLen) :
    Calls Tryz.prog 40 #[.agg #[.string q.Name, .int .i64 q.Strength], .int .i64 l] w fun e w' => e = .returned (.int .i64 (szR l (Glue.cnt q))) ∧ Below w.heap.size w w' := by
  have s0_ : q.Name.size ≤ 9223372036854775807 := (by unfold maxLen at s0; omega); by_cases g0 : ((q.Name.size : Nat) : Int) ≤ l
  · go_enter Tryz.func40, Tryz.ntmps40
    go_upto_region 1 with fail
    refine rebase ?_; intro W1 hW _; have hz : Below w.heap.size w W1 := by rw [hW]; go_grown
    have hb0 := at_of hW (push1_0 _ _); have c0 := box2 hb0; have f0 := boxf hb0; have B0 := Lib.hid hb0; clear hb0; have HW := Lib.hid hW; clear hW; go_wp2_with fail; go_ret; exact ⟨by rw [szR_ok (by unfold Glue.cnt; omega)]; unfold Glue.cnt; go_num, ext_end _ hz⟩
  · go_enter Tryz.func40, Tryz.ntmps40
    go_upto_region 1 with fail
    refine rebase ?_; intro W1 hW _; have hz : Below w.heap.size w W1 := by rw [hW]; go_grown
    have hb0 := at_of hW (push1_0 _ _); have c0 := box2 hb0; have f0 := boxf hb0; have B0 := Lib.hid hb0; clear hb0; have HW := Lib.hid hW; clear hW; go_wp2_with fail; go_ret; exact ⟨by rw [szR_no (by unfold Glue.cnt; omega)]; rfl, ext_end _ hz⟩
set_option maxRecDepth 10000 in
set_option maxHeartbeats 1000000 in
theorem szGlueS_any (v : Value) (xs : List Glue) (l : Int) (hl0 : 0 ≤ l) (hl1 : l ≤ 1048576) (w : World) (B : Nat) (hB : B ≤ w.heap.size) (h : (Ty.slice 106 Glue.ty).rep w B [v] xs) :
    Calls Tryz.prog 17 #[v, .int .i64 l] w fun e w' => e = .returned (.int .i64 (szR l (cntL Glue.cnt xs))) ∧ Below w.heap.size w w' := by
  obtain ⟨a, c, rfl, hc, hm⟩ := Ty.form h; have hn : xs.length ≤ 9223372036854775807 := (by unfold maxLen at hm; omega); clear hm; by_cases g : (xs.length : Int) ≤ l
  · refine rebaseC ?_; intro x; go_enter Tryz.func17, Tryz.ntmps17; go_wp2
    go_loopw [1, 5] (fun q i wr => ∃ k : Nat, k ≤ xs.length ∧ i = .int .i64 k ∧ ((xs.length + sumT Glue.cnt xs k : Nat) : Int) ≤ l ∧ q = .int .i64 (l - (xs.length + sumT Glue.cnt xs k : Nat)) ∧ ∃ z : Ext w, wr = w.to z) (fun _ i _ => xs.length - (intOf i).toNat)
    case atStart => exact ⟨0, Nat.zero_le _, rfl, by rw [sumT_zero]; exact g, by rw [sumT_zero]; rfl, x, rfl⟩
    case round =>
      obtain ⟨k, hk, rfl, hs, rfl, z, rfl⟩ := hrel; generalize hq : xs.length + sumT Glue.cnt xs k = q at hs ⊢; have HQ := Lib.hid hq; clear hq; by_cases hlt : k < xs.length
      · obtain ⟨b, o, cs, rfl, hb, gg, ee⟩ := Ty.elem h hB k hlt; obtain ⟨rfl, s0, _⟩ := Glue.cells ee; have d0 : ∀ z : Ext w, (w.to z).cell? ⟨b, o + k * 2, none⟩ = some (.string xs[k].Name) := gg 0 _ rfl; have d1 : ∀ z : Ext w, (w.to z).cell? ⟨b, o + k * 2 + 1, none⟩ = some (.int .i64 xs[k].Strength) := gg 1 _ rfl; clear gg; have hs1 := fun z : Ext w => szGlue_any xs[k] (l - q) (by omega) (by omega) (w.to z) s0; have hsum := sumT_succ Glue.cnt xs k hlt; have hsle := sumT_le Glue.cnt xs (k + 1); have HSU := Lib.hid hsum; have HSL := Lib.hid hsle; clear hsum hsle; by_cases gk : ((Glue.cnt xs[k] : Nat) : Int) ≤ l - q
        · simp only [szR_ok gk] at hs1; have HS1 := Lib.hid hs1; clear hs1; go_wp2_with (go_at_call 40; refine call_ext (HS1.out _) ?_; intro y)
          go_roundw
          case rel => have h1 := HSU.out; have h2 := HQ.out; exact ⟨k + 1, by omega, by go_num, by rw [h1]; omega, by rw [h1]; go_num, y, rfl⟩
          case measure => simp [intOf]; omega
        · simp only [szR_no gk] at hs1; have HS1 := Lib.hid hs1; clear hs1; go_wp2_with (go_at_call 40; refine call_ext (HS1.out _) ?_; intro y)
          go_ret; have h1 := HSU.out; have h2 := HQ.out; have h3 := HSL.out; exact ⟨by rw [szR_no (by unfold cntL; omega)]; rfl, y.below⟩
      · obtain rfl : k = xs.length := (by omega); go_wp2_with fail; go_ret; have h2 := HQ.out; have h3 := sumT_all Glue.cnt xs; exact ⟨by rw [szR_ok (by unfold cntL; omega), show cntL Glue.cnt xs = q by unfold cntL; omega]; rfl, z.below⟩
  · rw [szR_no (by have := cntL_len Glue.cnt xs; omega)]; go_enter Tryz.func17, Tryz.ntmps17; go_wp2; go_ret; exact ⟨rfl, by go_grown⟩
structure Tile where
  Name : ByteArray
  Sides : List Int
  deriving DecidableEq
def Tile.ty : Ty Tile := Ty.via (Ty.prod Ty.str (Ty.slice 2 (Ty.int .i64))) (fun x => (x.Name, x.Sides))
def Tile.cnt (x : Tile) : Nat := x.Name.size + x.Sides.length
theorem Tile.cells {w : World} {B : Nat} {cs : List Value} {x : Tile} (h : Tile.ty.rep w B cs x) : ∃ v0 : Value, cs = [.string x.Name, v0] ∧ x.Name.size ≤ maxLen ∧ (Ty.slice 2 (Ty.int .i64)).rep w B [v0] x.Sides := by obtain ⟨_, _, rfl, h0, h1⟩ := h; obtain ⟨rfl, i0⟩ := h0; obtain ⟨u1, rfl⟩ := Ty.slice_one h1; exact ⟨_, rfl, i0, h1⟩
theorem Tile.parts {w : World} {B : Nat} {v0 : Value} {x : Tile} (h : Tile.ty.rep w B [.string x.Name, v0] x) : x.Name.size ≤ maxLen ∧ (Ty.slice 2 (Ty.int .i64)).rep w B [v0] x.Sides := by obtain ⟨e0, hh, r0, r1⟩ := Tile.cells h; simp only [List.cons.injEq, and_true, true_and] at hh; subst hh; exact ⟨r0, r1⟩
theorem Tile.rep_mk {w : World} {B : Nat} {v0 : Value} {x : Tile} (h0 : x.Name.size ≤ maxLen) (h1 : (Ty.slice 2 (Ty.int .i64)).rep w B [v0] x.Sides) : Tile.ty.rep w B [.string x.Name, v0] x :=
  ⟨_, _, rfl, ⟨rfl, h0⟩, h1⟩
structure TileSet where
  Glues : List Glue
  Tiles : List Tile
  deriving DecidableEq
def TileSet.ty : Ty TileSet := Ty.via (Ty.prod (Ty.slice 106 Glue.ty) (Ty.slice 98 Tile.ty)) (fun x => (x.Glues, x.Tiles))
def TileSet.cnt (x : TileSet) : Nat := cntL Glue.cnt x.Glues + cntL Tile.cnt x.Tiles
theorem TileSet.cells {w : World} {B : Nat} {cs : List Value} {x : TileSet} (h : TileSet.ty.rep w B cs x) : ∃ v0 v1 : Value, cs = [v0, v1] ∧ (Ty.slice 106 Glue.ty).rep w B [v0] x.Glues ∧ (Ty.slice 98 Tile.ty).rep w B [v1] x.Tiles := by obtain ⟨_, _, rfl, h0, h1⟩ := h; obtain ⟨u0, rfl⟩ := Ty.slice_one h0; obtain ⟨u1, rfl⟩ := Ty.slice_one h1; exact ⟨_, _, rfl, h0, h1⟩
theorem TileSet.parts {w : World} {B : Nat} {v0 v1 : Value} {x : TileSet} (h : TileSet.ty.rep w B [v0, v1] x) : (Ty.slice 106 Glue.ty).rep w B [v0] x.Glues ∧ (Ty.slice 98 Tile.ty).rep w B [v1] x.Tiles := by obtain ⟨e0, e1, hh, r0, r1⟩ := TileSet.cells h; simp only [List.cons.injEq, and_true, true_and] at hh; obtain ⟨rfl, rfl⟩ := hh; exact ⟨r0, r1⟩
theorem TileSet.rep_mk {w : World} {B : Nat} {v0 v1 : Value} {x : TileSet} (h0 : (Ty.slice 106 Glue.ty).rep w B [v0] x.Glues) (h1 : (Ty.slice 98 Tile.ty).rep w B [v1] x.Tiles) : TileSet.ty.rep w B [v0, v1] x :=
  ⟨_, _, rfl, h0, h1⟩
structure Fire where
  From : Int
  To : Int
  deriving DecidableEq
def Fire.ty : Ty Fire := Ty.via (Ty.prod (Ty.int .i64) (Ty.int .i64)) (fun x => (x.From, x.To))
theorem Fire.cells {w : World} {B : Nat} {cs : List Value} {x : Fire} (h : Fire.ty.rep w B cs x) : cs = [.int .i64 x.From, .int .i64 x.To] ∧ InK .i64 x.From ∧ InK .i64 x.To := by obtain ⟨_, _, rfl, h0, h1⟩ := h; obtain ⟨rfl, i0⟩ := h0; obtain ⟨rfl, i1⟩ := h1; exact ⟨rfl, i0, i1⟩
theorem Fire.parts {w : World} {B : Nat} {x : Fire} (h : Fire.ty.rep w B [.int .i64 x.From, .int .i64 x.To] x) : InK .i64 x.From ∧ InK .i64 x.To := by obtain ⟨hh, r0, r1⟩ := Fire.cells h; exact ⟨r0, r1⟩
theorem Fire.rep_mk {w : World} {B : Nat} {x : Fire} (h0 : InK .i64 x.From) (h1 : InK .i64 x.To) : Fire.ty.rep w B [.int .i64 x.From, .int .i64 x.To] x :=
  ⟨_, _, rfl, ⟨rfl, h0⟩, ⟨rfl, h1⟩⟩
set_option maxRecDepth 100000 in
theorem Fire.reads : Reads Tryz.prog 149 Fire.ty :=
  reads_via (t := (Ty.prod (Ty.int .i64) (Ty.int .i64))) (fun x : Fire => (x.From, x.To)) (fun y => ⟨y.1, y.2⟩) (fun _ => rfl) (reads_struct Tryz.underlying149 (by kernel_rfl) (fld_cons rfl (reads_int Tryz.underlying2 (by kernel_rfl)) (fld_one rfl (reads_int Tryz.underlying2 (by kernel_rfl)))))
set_option maxRecDepth 10000 in
set_option maxHeartbeats 1000000 in
theorem eqFire_any (x : Fire) (w : World) :
    Calls Tryz.prog 101 #[.agg #[.int .i64 x.From, .int .i64 x.To], .agg #[.int .i64 x.From, .int .i64 x.To]] w fun e w' => e = .returned (.bool true) ∧ Below w.heap.size w w' := by
  go_enter Tryz.func101, Tryz.ntmps101
  go_upto_region 1 with fail
  refine rebase ?_; intro W1 hW _; have hz : Below w.heap.size w W1 := by rw [hW]; go_grown
  have hb0 := at_of hW (push2_0 _ _ _); have c0 := box2 hb0; have f0 := boxf hb0; have B0 := Lib.hid hb0; clear hb0; have hb1 := at_of hW (push2_1 _ _ _); have c1 := box2 hb1; have f1 := boxf hb1; have B1 := Lib.hid hb1; clear hb1; have HW := Lib.hid hW; clear hW; go_wp2_with fail; go_ret; exact ⟨rfl, ext_end _ hz⟩
set_option maxRecDepth 10000 in
set_option maxHeartbeats 1000000 in
theorem eqFireS_any (v1 v2 : Value) (xs : List Fire) (w : World) (B : Nat) (hB : B ≤ w.heap.size) (h1 : (Ty.slice 102 Fire.ty).rep w B [v1] xs) (h2 : (Ty.slice 102 Fire.ty).rep w B [v2] xs) :
    Calls Tryz.prog 94 #[v1, v2] w fun e w' => e = .returned (.bool true) ∧ Below w.heap.size w w' := by
  obtain ⟨a1, c1, rfl, _, hm1⟩ := Ty.form h1; obtain ⟨a2, c2, rfl, _, hm2⟩ := Ty.form h2; have hn : xs.length ≤ 9223372036854775807 := (by unfold maxLen at hm1; omega); clear hm1 hm2; refine rebaseC ?_; intro x; go_enter Tryz.func94, Tryz.ntmps94; go_wp2
  go_loopw [5] (fun i wr => ∃ k : Nat, k ≤ xs.length ∧ i = .int .i64 k ∧ ∃ z : Ext w, wr = w.to z) (fun i _ => xs.length - (intOf i).toNat)
  case atStart => exact ⟨0, Nat.zero_le _, rfl, x, rfl⟩
  case round =>
    obtain ⟨k, hk, rfl, z, rfl⟩ := hrel; by_cases hlt : k < xs.length
    · obtain ⟨b1, o1, cs1, rfl, hb1, g1, e1⟩ := Ty.elem h1 hB k hlt; obtain ⟨rfl, _, _⟩ := Fire.cells e1; have d1_0 : ∀ z : Ext w, (w.to z).cell? ⟨b1, o1 + k * 2, none⟩ = some (.int .i64 xs[k].From) := g1 0 _ rfl; have d1_1 : ∀ z : Ext w, (w.to z).cell? ⟨b1, o1 + k * 2 + 1, none⟩ = some (.int .i64 xs[k].To) := g1 1 _ rfl; clear g1; obtain ⟨b2, o2, cs2, rfl, hb2, g2, e2⟩ := Ty.elem h2 hB k hlt; obtain ⟨rfl, _, _⟩ := Fire.cells e2; have d2_0 : ∀ z : Ext w, (w.to z).cell? ⟨b2, o2 + k * 2, none⟩ = some (.int .i64 xs[k].From) := g2 0 _ rfl; have d2_1 : ∀ z : Ext w, (w.to z).cell? ⟨b2, o2 + k * 2 + 1, none⟩ = some (.int .i64 xs[k].To) := g2 1 _ rfl; clear g2; have hs := fun z : Ext w => eqFire_any xs[k] (w.to z); have HS := Lib.hid hs; clear hs; go_wp2_with fail; refine wp_region_ext (by kernel_rfl) (by kernel_rfl) ?_
      repeat (go_big_quiet_step ((go_at_call 101; exact ext_call (HS.out _))))
      refine wpQuiet_nil ?_; rintro _ ⟨y, rfl⟩; go_wp2_with fail
      go_roundw
      case rel => exact ⟨k + 1, by omega, by go_num, y, rfl⟩
      case measure => simp [intOf]; omega
    · go_wp2_with fail
      go_ret; exact ⟨rfl, z.below⟩
set_option maxRecDepth 10000 in
set_option maxHeartbeats 1000000 in
theorem szFireS_any (v : Value) (xs : List Fire) (l : Int) (hl0 : 0 ≤ l) (hl1 : l ≤ 1048576) (w : World) (B : Nat) (hB : B ≤ w.heap.size) (h : (Ty.slice 102 Fire.ty).rep w B [v] xs) :
    Calls Tryz.prog 71 #[v, .int .i64 l] w fun e w' => e = .returned (.int .i64 (szR l (xs.length))) ∧ Below w.heap.size w w' := by
  have _ := hB; obtain ⟨a, c, rfl, hc, hm⟩ := Ty.form h; have hn : xs.length ≤ 9223372036854775807 := (by unfold maxLen at hm; omega); clear hm; by_cases g : (xs.length : Int) ≤ l
  · rw [szR_ok g]; go_enter Tryz.func71, Tryz.ntmps71; go_wp2; go_ret; exact ⟨rfl, by go_grown⟩
  · rw [szR_no g]; go_enter Tryz.func71, Tryz.ntmps71; go_wp2; go_ret; exact ⟨rfl, by go_grown⟩
structure SignalTile where
  Name : ByteArray
  Sides : List Int
  On : List Bool
  Fires : List Fire
  deriving DecidableEq
def SignalTile.ty : Ty SignalTile := Ty.via (Ty.prod Ty.str (Ty.prod (Ty.slice 2 (Ty.int .i64)) (Ty.prod (Ty.slice 4 Ty.bool) (Ty.slice 102 Fire.ty)))) (fun x => (x.Name, x.Sides, x.On, x.Fires))
def SignalTile.cnt (x : SignalTile) : Nat := x.Name.size + x.Sides.length + x.On.length + x.Fires.length
theorem SignalTile.cells {w : World} {B : Nat} {cs : List Value} {x : SignalTile} (h : SignalTile.ty.rep w B cs x) : ∃ v0 v1 v2 : Value, cs = [.string x.Name, v0, v1, v2] ∧ x.Name.size ≤ maxLen ∧ (Ty.slice 2 (Ty.int .i64)).rep w B [v0] x.Sides ∧ (Ty.slice 4 Ty.bool).rep w B [v1] x.On ∧ (Ty.slice 102 Fire.ty).rep w B [v2] x.Fires := by obtain ⟨_, _, rfl, h0, _, _, rfl, h1, _, _, rfl, h2, h3⟩ := h; obtain ⟨rfl, i0⟩ := h0; obtain ⟨u1, rfl⟩ := Ty.slice_one h1; obtain ⟨u2, rfl⟩ := Ty.slice_one h2; obtain ⟨u3, rfl⟩ := Ty.slice_one h3; exact ⟨_, _, _, rfl, i0, h1, h2, h3⟩
theorem SignalTile.parts {w : World} {B : Nat} {v0 v1 v2 : Value} {x : SignalTile} (h : SignalTile.ty.rep w B [.string x.Name, v0, v1, v2] x) : x.Name.size ≤ maxLen ∧ (Ty.slice 2 (Ty.int .i64)).rep w B [v0] x.Sides ∧ (Ty.slice 4 Ty.bool).rep w B [v1] x.On ∧ (Ty.slice 102 Fire.ty).rep w B [v2] x.Fires := by obtain ⟨e0, e1, e2, hh, r0, r1, r2, r3⟩ := SignalTile.cells h; simp only [List.cons.injEq, and_true, true_and] at hh; obtain ⟨rfl, rfl, rfl⟩ := hh; exact ⟨r0, r1, r2, r3⟩
theorem SignalTile.rep_mk {w : World} {B : Nat} {v0 v1 v2 : Value} {x : SignalTile} (h0 : x.Name.size ≤ maxLen) (h1 : (Ty.slice 2 (Ty.int .i64)).rep w B [v0] x.Sides) (h2 : (Ty.slice 4 Ty.bool).rep w B [v1] x.On) (h3 : (Ty.slice 102 Fire.ty).rep w B [v2] x.Fires) : SignalTile.ty.rep w B [.string x.Name, v0, v1, v2] x :=
  ⟨_, _, rfl, ⟨rfl, h0⟩, _, _, rfl, h1, _, _, rfl, h2, h3⟩
set_option maxRecDepth 100000 in
theorem SignalTile.reads : Reads Tryz.prog 92 SignalTile.ty :=
  reads_via (t := (Ty.prod Ty.str (Ty.prod (Ty.slice 2 (Ty.int .i64)) (Ty.prod (Ty.slice 4 Ty.bool) (Ty.slice 102 Fire.ty))))) (fun x : SignalTile => (x.Name, x.Sides, x.On, x.Fires)) (fun y => ⟨y.1, y.2.1, y.2.2.1, y.2.2.2⟩) (fun _ => rfl) (reads_struct Tryz.underlying92 (by kernel_rfl) (fld_cons rfl (reads_str Tryz.underlying9 (by kernel_rfl)) (fld_cons rfl (reads_slice Tryz.underlying89 (by kernel_rfl) (by decide) (reads_int Tryz.underlying2 (by kernel_rfl))) (fld_cons rfl (reads_slice Tryz.underlying64 (by kernel_rfl) (by decide) (reads_bool Tryz.underlying4 (by kernel_rfl))) (fld_one rfl (reads_slice Tryz.underlying90 (by kernel_rfl) (by decide) (Fire.reads)))))))
set_option maxRecDepth 10000 in
set_option maxHeartbeats 1000000 in
theorem eqSignalTile_any (v0 v1 v2 u0 u1 u2 : Value) (x : SignalTile) (w : World) (B : Nat) (hB : B ≤ w.heap.size) (h0 : (Ty.slice 2 (Ty.int .i64)).rep w B [v0] x.Sides) (h1 : (Ty.slice 4 Ty.bool).rep w B [v1] x.On) (h2 : (Ty.slice 102 Fire.ty).rep w B [v2] x.Fires) (k0 : (Ty.slice 2 (Ty.int .i64)).rep w B [u0] x.Sides) (k1 : (Ty.slice 4 Ty.bool).rep w B [u1] x.On) (k2 : (Ty.slice 102 Fire.ty).rep w B [u2] x.Fires) :
    Calls Tryz.prog 64 #[.agg #[.string x.Name, v0, v1, v2], .agg #[.string x.Name, u0, u1, u2]] w fun e w' => e = .returned (.bool true) ∧ Below w.heap.size w w' := by
  go_enter Tryz.func64, Tryz.ntmps64
  go_upto_region 1 with fail
  refine rebase ?_; intro W1 hW _; have hz : Below w.heap.size w W1 := by rw [hW]; go_grown
  have hb0 := at_of hW (push2_0 _ _ _); have c0 := box4 hb0; have f0 := boxf hb0; have B0 := Lib.hid hb0; clear hb0; have hb1 := at_of hW (push2_1 _ _ _); have c1 := box4 hb1; have f1 := boxf hb1; have B1 := Lib.hid hb1; clear hb1; have HW := Lib.hid hW; clear hW; have hs0 := fun z : Ext W1 => eqInt64S_any v0 u0 x.Sides (W1.to z) B (Nat.le_trans hB (ext_end z hz).size) (Ty.rep_below _ h0 ((ext_end z hz).mono hB)) (Ty.rep_below _ k0 ((ext_end z hz).mono hB)); have HS0 := Lib.hid hs0; clear hs0; have hs1 := fun z : Ext W1 => eqBoolS_any v1 u1 x.On (W1.to z) B (Nat.le_trans hB (ext_end z hz).size) (Ty.rep_below _ h1 ((ext_end z hz).mono hB)) (Ty.rep_below _ k1 ((ext_end z hz).mono hB)); have HS1 := Lib.hid hs1; clear hs1; have hs2 := fun z : Ext W1 => eqFireS_any v2 u2 x.Fires (W1.to z) B (Nat.le_trans hB (ext_end z hz).size) (Ty.rep_below _ h2 ((ext_end z hz).mono hB)) (Ty.rep_below _ k2 ((ext_end z hz).mono hB)); have HS2 := Lib.hid hs2; clear hs2; go_wp2_with fail
  first
    | (refine call_ext (HS0.out _) ?_; intro y)
    | (refine wp_region_ext (by kernel_rfl) (by kernel_rfl) ?_; repeat (go_big_quiet_step ((go_at_call 93; exact ext_call (HS0.out _)))); refine wpQuiet_nil ?_; rintro _ ⟨y, rfl⟩)
  go_wp2_with fail
  first
    | (refine call_ext (HS1.out _) ?_; intro y)
    | (refine wp_region_ext (by kernel_rfl) (by kernel_rfl) ?_; repeat (go_big_quiet_step ((go_at_call 62; exact ext_call (HS1.out _)))); refine wpQuiet_nil ?_; rintro _ ⟨y, rfl⟩)
  go_wp2_with fail
  first
    | (refine call_ext (HS2.out _) ?_; intro y)
    | (refine wp_region_ext (by kernel_rfl) (by kernel_rfl) ?_; repeat (go_big_quiet_step ((go_at_call 94; exact ext_call (HS2.out _)))); refine wpQuiet_nil ?_; rintro _ ⟨y, rfl⟩)
  go_wp2_with fail
  go_ret; exact ⟨rfl, ext_end _ hz⟩
set_option maxRecDepth 10000 in
set_option maxHeartbeats 1000000 in
theorem eqSignalTileS_any (v1 v2 : Value) (xs : List SignalTile) (w : World) (B : Nat) (hB : B ≤ w.heap.size) (h1 : (Ty.slice 95 SignalTile.ty).rep w B [v1] xs) (h2 : (Ty.slice 95 SignalTile.ty).rep w B [v2] xs) :
    Calls Tryz.prog 33 #[v1, v2] w fun e w' => e = .returned (.bool true) ∧ Below w.heap.size w w' := by
  obtain ⟨a1, c1, rfl, _, hm1⟩ := Ty.form h1; obtain ⟨a2, c2, rfl, _, hm2⟩ := Ty.form h2; have hn : xs.length ≤ 9223372036854775807 := (by unfold maxLen at hm1; omega); clear hm1 hm2; refine rebaseC ?_; intro x; go_enter Tryz.func33, Tryz.ntmps33; go_wp2
  go_loopw [5] (fun i wr => ∃ k : Nat, k ≤ xs.length ∧ i = .int .i64 k ∧ ∃ z : Ext w, wr = w.to z) (fun i _ => xs.length - (intOf i).toNat)
  case atStart => exact ⟨0, Nat.zero_le _, rfl, x, rfl⟩
  case round =>
    obtain ⟨k, hk, rfl, z, rfl⟩ := hrel; by_cases hlt : k < xs.length
    · obtain ⟨b1, o1, cs1, rfl, hb1, g1, e1⟩ := Ty.elem h1 hB k hlt; obtain ⟨p1_0, p1_1, p1_2, rfl, _, r1_1, r1_2, r1_3⟩ := SignalTile.cells e1; have d1_0 : ∀ z : Ext w, (w.to z).cell? ⟨b1, o1 + k * 4, none⟩ = some (.string xs[k].Name) := g1 0 _ rfl; have d1_1 : ∀ z : Ext w, (w.to z).cell? ⟨b1, o1 + k * 4 + 1, none⟩ = some (p1_0) := g1 1 _ rfl; have d1_2 : ∀ z : Ext w, (w.to z).cell? ⟨b1, o1 + k * 4 + 2, none⟩ = some (p1_1) := g1 2 _ rfl; have d1_3 : ∀ z : Ext w, (w.to z).cell? ⟨b1, o1 + k * 4 + 3, none⟩ = some (p1_2) := g1 3 _ rfl; clear g1; obtain ⟨b2, o2, cs2, rfl, hb2, g2, e2⟩ := Ty.elem h2 hB k hlt; obtain ⟨p2_0, p2_1, p2_2, rfl, _, r2_1, r2_2, r2_3⟩ := SignalTile.cells e2; have d2_0 : ∀ z : Ext w, (w.to z).cell? ⟨b2, o2 + k * 4, none⟩ = some (.string xs[k].Name) := g2 0 _ rfl; have d2_1 : ∀ z : Ext w, (w.to z).cell? ⟨b2, o2 + k * 4 + 1, none⟩ = some (p2_0) := g2 1 _ rfl; have d2_2 : ∀ z : Ext w, (w.to z).cell? ⟨b2, o2 + k * 4 + 2, none⟩ = some (p2_1) := g2 2 _ rfl; have d2_3 : ∀ z : Ext w, (w.to z).cell? ⟨b2, o2 + k * 4 + 3, none⟩ = some (p2_2) := g2 3 _ rfl; clear g2; have hs := fun z : Ext w => eqSignalTile_any p1_0 p1_1 p1_2 p2_0 p2_1 p2_2 xs[k] (w.to z) B (Nat.le_trans hB z.below.size) (Ty.rep_to _ hB r1_1 z) (Ty.rep_to _ hB r1_2 z) (Ty.rep_to _ hB r1_3 z) (Ty.rep_to _ hB r2_1 z) (Ty.rep_to _ hB r2_2 z) (Ty.rep_to _ hB r2_3 z); have HS := Lib.hid hs; clear hs; go_wp2_with fail; refine wp_region_ext (by kernel_rfl) (by kernel_rfl) ?_
      repeat (go_big_quiet_step ((go_at_call 64; exact ext_call (HS.out _))))
      refine wpQuiet_nil ?_; rintro _ ⟨y, rfl⟩; go_wp2_with fail
      go_roundw
      case rel => exact ⟨k + 1, by omega, by go_num, y, rfl⟩
      case measure => simp [intOf]; omega
    · go_wp2_with fail
      go_ret; exact ⟨rfl, z.below⟩
set_option maxRecDepth 10000 in
set_option maxHeartbeats 1000000 in
theorem szSignalTile_any (v0 v1 v2 : Value) (q : SignalTile) (l : Int) (hl0 : 0 ≤ l) (hl1 : l ≤ 1048576) (w : World) (B : Nat) (hB : B ≤ w.heap.size) (h0 : (Ty.slice 2 (Ty.int .i64)).rep w B [v0] q.Sides) (h1 : (Ty.slice 4 Ty.bool).rep w B [v1] q.On) (h2 : (Ty.slice 102 Fire.ty).rep w B [v2] q.Fires) (s0 : q.Name.size ≤ maxLen) :
    Calls Tryz.prog 41 #[.agg #[.string q.Name, v0, v1, v2], .int .i64 l] w fun e w' => e = .returned (.int .i64 (szR l (SignalTile.cnt q))) ∧ Below w.heap.size w w' := by
  have s0_ : q.Name.size ≤ 9223372036854775807 := (by unfold maxLen at s0; omega); by_cases g0 : ((q.Name.size : Nat) : Int) ≤ l
  · by_cases g1 : ((q.Sides.length : Nat) : Int) ≤ l - (q.Name.size : Nat)
    · by_cases g2 : ((q.On.length : Nat) : Int) ≤ l - (q.Name.size : Nat) - (q.Sides.length : Nat)
      · by_cases g3 : ((q.Fires.length : Nat) : Int) ≤ l - (q.Name.size : Nat) - (q.Sides.length : Nat) - (q.On.length : Nat)
        · go_enter Tryz.func41, Tryz.ntmps41
          go_upto_region 1 with fail
          refine rebase ?_; intro W1 hW _; have hz : Below w.heap.size w W1 := by rw [hW]; go_grown
          have hb0 := at_of hW (push1_0 _ _); have c0 := box4 hb0; have f0 := boxf hb0; have B0 := Lib.hid hb0; clear hb0; have HW := Lib.hid hW; clear hW; have hs1 := fun z : Ext W1 => szInt64S_any v0 q.Sides (l - (q.Name.size : Nat)) (by omega) (by omega) (W1.to z) B (Nat.le_trans hB (ext_end z hz).size) (Ty.rep_below _ h0 ((ext_end z hz).mono hB)); simp only [szR_ok g1] at hs1; have HS1 := Lib.hid hs1; clear hs1; have hs2 := fun z : Ext W1 => szBoolS_any v1 q.On (l - (q.Name.size : Nat) - (q.Sides.length : Nat)) (by omega) (by omega) (W1.to z) B (Nat.le_trans hB (ext_end z hz).size) (Ty.rep_below _ h1 ((ext_end z hz).mono hB)); simp only [szR_ok g2] at hs2; have HS2 := Lib.hid hs2; clear hs2; have hs3 := fun z : Ext W1 => szFireS_any v2 q.Fires (l - (q.Name.size : Nat) - (q.Sides.length : Nat) - (q.On.length : Nat)) (by omega) (by omega) (W1.to z) B (Nat.le_trans hB (ext_end z hz).size) (Ty.rep_below _ h2 ((ext_end z hz).mono hB)); simp only [szR_ok g3] at hs3; have HS3 := Lib.hid hs3; clear hs3; go_wp2_with fail; refine call_ext (HS1.out _) ?_; intro y; go_wp2_with fail; refine call_ext (HS2.out _) ?_; intro y; go_wp2_with fail; refine call_ext (HS3.out _) ?_; intro y; go_wp2_with fail; go_ret; exact ⟨by rw [szR_ok (by unfold SignalTile.cnt; omega)]; unfold SignalTile.cnt; go_num, ext_end _ hz⟩
        · go_enter Tryz.func41, Tryz.ntmps41
          go_upto_region 1 with fail
          refine rebase ?_; intro W1 hW _; have hz : Below w.heap.size w W1 := by rw [hW]; go_grown
          have hb0 := at_of hW (push1_0 _ _); have c0 := box4 hb0; have f0 := boxf hb0; have B0 := Lib.hid hb0; clear hb0; have HW := Lib.hid hW; clear hW; have hs1 := fun z : Ext W1 => szInt64S_any v0 q.Sides (l - (q.Name.size : Nat)) (by omega) (by omega) (W1.to z) B (Nat.le_trans hB (ext_end z hz).size) (Ty.rep_below _ h0 ((ext_end z hz).mono hB)); simp only [szR_ok g1] at hs1; have HS1 := Lib.hid hs1; clear hs1; have hs2 := fun z : Ext W1 => szBoolS_any v1 q.On (l - (q.Name.size : Nat) - (q.Sides.length : Nat)) (by omega) (by omega) (W1.to z) B (Nat.le_trans hB (ext_end z hz).size) (Ty.rep_below _ h1 ((ext_end z hz).mono hB)); simp only [szR_ok g2] at hs2; have HS2 := Lib.hid hs2; clear hs2; have hs3 := fun z : Ext W1 => szFireS_any v2 q.Fires (l - (q.Name.size : Nat) - (q.Sides.length : Nat) - (q.On.length : Nat)) (by omega) (by omega) (W1.to z) B (Nat.le_trans hB (ext_end z hz).size) (Ty.rep_below _ h2 ((ext_end z hz).mono hB)); simp only [szR_no g3] at hs3; have HS3 := Lib.hid hs3; clear hs3; go_wp2_with fail; refine call_ext (HS1.out _) ?_; intro y; go_wp2_with fail; refine call_ext (HS2.out _) ?_; intro y; go_wp2_with fail; refine call_ext (HS3.out _) ?_; intro y; go_wp2_with fail; go_ret; exact ⟨by rw [szR_no (by unfold SignalTile.cnt; omega)]; rfl, ext_end _ hz⟩
      · go_enter Tryz.func41, Tryz.ntmps41
        go_upto_region 1 with fail
        refine rebase ?_; intro W1 hW _; have hz : Below w.heap.size w W1 := by rw [hW]; go_grown
        have hb0 := at_of hW (push1_0 _ _); have c0 := box4 hb0; have f0 := boxf hb0; have B0 := Lib.hid hb0; clear hb0; have HW := Lib.hid hW; clear hW; have hs1 := fun z : Ext W1 => szInt64S_any v0 q.Sides (l - (q.Name.size : Nat)) (by omega) (by omega) (W1.to z) B (Nat.le_trans hB (ext_end z hz).size) (Ty.rep_below _ h0 ((ext_end z hz).mono hB)); simp only [szR_ok g1] at hs1; have HS1 := Lib.hid hs1; clear hs1; have hs2 := fun z : Ext W1 => szBoolS_any v1 q.On (l - (q.Name.size : Nat) - (q.Sides.length : Nat)) (by omega) (by omega) (W1.to z) B (Nat.le_trans hB (ext_end z hz).size) (Ty.rep_below _ h1 ((ext_end z hz).mono hB)); simp only [szR_no g2] at hs2; have HS2 := Lib.hid hs2; clear hs2; go_wp2_with fail; refine call_ext (HS1.out _) ?_; intro y; go_wp2_with fail; refine call_ext (HS2.out _) ?_; intro y; go_wp2_with fail; go_ret; exact ⟨by rw [szR_no (by unfold SignalTile.cnt; omega)]; rfl, ext_end _ hz⟩
    · go_enter Tryz.func41, Tryz.ntmps41
      go_upto_region 1 with fail
      refine rebase ?_; intro W1 hW _; have hz : Below w.heap.size w W1 := by rw [hW]; go_grown
      have hb0 := at_of hW (push1_0 _ _); have c0 := box4 hb0; have f0 := boxf hb0; have B0 := Lib.hid hb0; clear hb0; have HW := Lib.hid hW; clear hW; have hs1 := fun z : Ext W1 => szInt64S_any v0 q.Sides (l - (q.Name.size : Nat)) (by omega) (by omega) (W1.to z) B (Nat.le_trans hB (ext_end z hz).size) (Ty.rep_below _ h0 ((ext_end z hz).mono hB)); simp only [szR_no g1] at hs1; have HS1 := Lib.hid hs1; clear hs1; go_wp2_with fail; refine call_ext (HS1.out _) ?_; intro y; go_wp2_with fail; go_ret; exact ⟨by rw [szR_no (by unfold SignalTile.cnt; omega)]; rfl, ext_end _ hz⟩
  · go_enter Tryz.func41, Tryz.ntmps41
    go_upto_region 1 with fail
    refine rebase ?_; intro W1 hW _; have hz : Below w.heap.size w W1 := by rw [hW]; go_grown
    have hb0 := at_of hW (push1_0 _ _); have c0 := box4 hb0; have f0 := boxf hb0; have B0 := Lib.hid hb0; clear hb0; have HW := Lib.hid hW; clear hW; go_wp2_with fail; go_ret; exact ⟨by rw [szR_no (by unfold SignalTile.cnt; omega)]; rfl, ext_end _ hz⟩
set_option maxRecDepth 10000 in
set_option maxHeartbeats 1000000 in
theorem szSignalTileS_any (v : Value) (xs : List SignalTile) (l : Int) (hl0 : 0 ≤ l) (hl1 : l ≤ 1048576) (w : World) (B : Nat) (hB : B ≤ w.heap.size) (h : (Ty.slice 95 SignalTile.ty).rep w B [v] xs) :
    Calls Tryz.prog 18 #[v, .int .i64 l] w fun e w' => e = .returned (.int .i64 (szR l (cntL SignalTile.cnt xs))) ∧ Below w.heap.size w w' := by
  obtain ⟨a, c, rfl, hc, hm⟩ := Ty.form h; have hn : xs.length ≤ 9223372036854775807 := (by unfold maxLen at hm; omega); clear hm; by_cases g : (xs.length : Int) ≤ l
  · refine rebaseC ?_; intro x; go_enter Tryz.func18, Tryz.ntmps18; go_wp2
    go_loopw [1, 5] (fun q i wr => ∃ k : Nat, k ≤ xs.length ∧ i = .int .i64 k ∧ ((xs.length + sumT SignalTile.cnt xs k : Nat) : Int) ≤ l ∧ q = .int .i64 (l - (xs.length + sumT SignalTile.cnt xs k : Nat)) ∧ ∃ z : Ext w, wr = w.to z) (fun _ i _ => xs.length - (intOf i).toNat)
    case atStart => exact ⟨0, Nat.zero_le _, rfl, by rw [sumT_zero]; exact g, by rw [sumT_zero]; rfl, x, rfl⟩
    case round =>
      obtain ⟨k, hk, rfl, hs, rfl, z, rfl⟩ := hrel; generalize hq : xs.length + sumT SignalTile.cnt xs k = q at hs ⊢; have HQ := Lib.hid hq; clear hq; by_cases hlt : k < xs.length
      · obtain ⟨b, o, cs, rfl, hb, gg, ee⟩ := Ty.elem h hB k hlt; obtain ⟨p0, p1, p2, rfl, s0, r1, r2, r3⟩ := SignalTile.cells ee; have d0 : ∀ z : Ext w, (w.to z).cell? ⟨b, o + k * 4, none⟩ = some (.string xs[k].Name) := gg 0 _ rfl; have d1 : ∀ z : Ext w, (w.to z).cell? ⟨b, o + k * 4 + 1, none⟩ = some (p0) := gg 1 _ rfl; have d2 : ∀ z : Ext w, (w.to z).cell? ⟨b, o + k * 4 + 2, none⟩ = some (p1) := gg 2 _ rfl; have d3 : ∀ z : Ext w, (w.to z).cell? ⟨b, o + k * 4 + 3, none⟩ = some (p2) := gg 3 _ rfl; clear gg; have hs1 := fun z : Ext w => szSignalTile_any p0 p1 p2 xs[k] (l - q) (by omega) (by omega) (w.to z) B (Nat.le_trans hB z.below.size) (Ty.rep_to _ hB r1 z) (Ty.rep_to _ hB r2 z) (Ty.rep_to _ hB r3 z) s0; have hsum := sumT_succ SignalTile.cnt xs k hlt; have hsle := sumT_le SignalTile.cnt xs (k + 1); have HSU := Lib.hid hsum; have HSL := Lib.hid hsle; clear hsum hsle; by_cases gk : ((SignalTile.cnt xs[k] : Nat) : Int) ≤ l - q
        · simp only [szR_ok gk] at hs1; have HS1 := Lib.hid hs1; clear hs1; go_wp2_with (go_at_call 41; refine call_ext (HS1.out _) ?_; intro y)
          go_roundw
          case rel => have h1 := HSU.out; have h2 := HQ.out; exact ⟨k + 1, by omega, by go_num, by rw [h1]; omega, by rw [h1]; go_num, y, rfl⟩
          case measure => simp [intOf]; omega
        · simp only [szR_no gk] at hs1; have HS1 := Lib.hid hs1; clear hs1; go_wp2_with (go_at_call 41; refine call_ext (HS1.out _) ?_; intro y)
          go_ret; have h1 := HSU.out; have h2 := HQ.out; have h3 := HSL.out; exact ⟨by rw [szR_no (by unfold cntL; omega)]; rfl, y.below⟩
      · obtain rfl : k = xs.length := (by omega); go_wp2_with fail; go_ret; have h2 := HQ.out; have h3 := sumT_all SignalTile.cnt xs; exact ⟨by rw [szR_ok (by unfold cntL; omega), show cntL SignalTile.cnt xs = q by unfold cntL; omega]; rfl, z.below⟩
  · rw [szR_no (by have := cntL_len SignalTile.cnt xs; omega)]; go_enter Tryz.func18, Tryz.ntmps18; go_wp2; go_ret; exact ⟨rfl, by go_grown⟩
structure SignalSet where
  Glues : List Glue
  Tiles : List SignalTile
  deriving DecidableEq
def SignalSet.ty : Ty SignalSet := Ty.via (Ty.prod (Ty.slice 106 Glue.ty) (Ty.slice 95 SignalTile.ty)) (fun x => (x.Glues, x.Tiles))
def SignalSet.cnt (x : SignalSet) : Nat := cntL Glue.cnt x.Glues + cntL SignalTile.cnt x.Tiles
theorem SignalSet.cells {w : World} {B : Nat} {cs : List Value} {x : SignalSet} (h : SignalSet.ty.rep w B cs x) : ∃ v0 v1 : Value, cs = [v0, v1] ∧ (Ty.slice 106 Glue.ty).rep w B [v0] x.Glues ∧ (Ty.slice 95 SignalTile.ty).rep w B [v1] x.Tiles := by obtain ⟨_, _, rfl, h0, h1⟩ := h; obtain ⟨u0, rfl⟩ := Ty.slice_one h0; obtain ⟨u1, rfl⟩ := Ty.slice_one h1; exact ⟨_, _, rfl, h0, h1⟩
theorem SignalSet.parts {w : World} {B : Nat} {v0 v1 : Value} {x : SignalSet} (h : SignalSet.ty.rep w B [v0, v1] x) : (Ty.slice 106 Glue.ty).rep w B [v0] x.Glues ∧ (Ty.slice 95 SignalTile.ty).rep w B [v1] x.Tiles := by obtain ⟨e0, e1, hh, r0, r1⟩ := SignalSet.cells h; simp only [List.cons.injEq, and_true, true_and] at hh; obtain ⟨rfl, rfl⟩ := hh; exact ⟨r0, r1⟩
theorem SignalSet.rep_mk {w : World} {B : Nat} {v0 v1 : Value} {x : SignalSet} (h0 : (Ty.slice 106 Glue.ty).rep w B [v0] x.Glues) (h1 : (Ty.slice 95 SignalTile.ty).rep w B [v1] x.Tiles) : SignalSet.ty.rep w B [v0, v1] x :=
  ⟨_, _, rfl, h0, h1⟩
set_option maxRecDepth 100000 in
theorem SignalSet.reads : Reads Tryz.prog 25 SignalSet.ty :=
  reads_via (t := (Ty.prod (Ty.slice 106 Glue.ty) (Ty.slice 95 SignalTile.ty))) (fun x : SignalSet => (x.Glues, x.Tiles)) (fun y => ⟨y.1, y.2⟩) (fun _ => rfl) (reads_struct Tryz.underlying25 (by kernel_rfl) (fld_cons rfl (reads_slice Tryz.underlying22 (by kernel_rfl) (by decide) (Glue.reads)) (fld_one rfl (reads_slice Tryz.underlying23 (by kernel_rfl) (by decide) (SignalTile.reads)))))
set_option maxRecDepth 10000 in
set_option maxHeartbeats 1000000 in
theorem eqSignalSet_any (v0 v1 u0 u1 : Value) (x : SignalSet) (w : World) (B : Nat) (hB : B ≤ w.heap.size) (h0 : (Ty.slice 106 Glue.ty).rep w B [v0] x.Glues) (h1 : (Ty.slice 95 SignalTile.ty).rep w B [v1] x.Tiles) (k0 : (Ty.slice 106 Glue.ty).rep w B [u0] x.Glues) (k1 : (Ty.slice 95 SignalTile.ty).rep w B [u1] x.Tiles) :
    Calls Tryz.prog 11 #[.agg #[v0, v1], .agg #[u0, u1]] w fun e w' => e = .returned (.bool true) ∧ Below w.heap.size w w' := by
  go_enter Tryz.func11, Tryz.ntmps11
  go_upto_region 1 with fail
  refine rebase ?_; intro W1 hW _; have hz : Below w.heap.size w W1 := by rw [hW]; go_grown
  have hb0 := at_of hW (push2_0 _ _ _); have c0 := box2 hb0; have f0 := boxf hb0; have B0 := Lib.hid hb0; clear hb0; have hb1 := at_of hW (push2_1 _ _ _); have c1 := box2 hb1; have f1 := boxf hb1; have B1 := Lib.hid hb1; clear hb1; have HW := Lib.hid hW; clear hW; have hs0 := fun z : Ext W1 => eqGlueS_any v0 u0 x.Glues (W1.to z) B (Nat.le_trans hB (ext_end z hz).size) (Ty.rep_below _ h0 ((ext_end z hz).mono hB)) (Ty.rep_below _ k0 ((ext_end z hz).mono hB)); have HS0 := Lib.hid hs0; clear hs0; have hs1 := fun z : Ext W1 => eqSignalTileS_any v1 u1 x.Tiles (W1.to z) B (Nat.le_trans hB (ext_end z hz).size) (Ty.rep_below _ h1 ((ext_end z hz).mono hB)) (Ty.rep_below _ k1 ((ext_end z hz).mono hB)); have HS1 := Lib.hid hs1; clear hs1; go_wp2_with fail
  first
    | (refine call_ext (HS0.out _) ?_; intro y)
    | (refine wp_region_ext (by kernel_rfl) (by kernel_rfl) ?_; repeat (go_big_quiet_step ((go_at_call 32; exact ext_call (HS0.out _)))); refine wpQuiet_nil ?_; rintro _ ⟨y, rfl⟩)
  go_wp2_with fail
  first
    | (refine call_ext (HS1.out _) ?_; intro y)
    | (refine wp_region_ext (by kernel_rfl) (by kernel_rfl) ?_; repeat (go_big_quiet_step ((go_at_call 33; exact ext_call (HS1.out _)))); refine wpQuiet_nil ?_; rintro _ ⟨y, rfl⟩)
  go_wp2_with fail
  go_ret; exact ⟨rfl, ext_end _ hz⟩
set_option maxRecDepth 10000 in
set_option maxHeartbeats 1000000 in
theorem szSignalSet_any (v0 v1 : Value) (q : SignalSet) (l : Int) (hl0 : 0 ≤ l) (hl1 : l ≤ 1048576) (w : World) (B : Nat) (hB : B ≤ w.heap.size) (h0 : (Ty.slice 106 Glue.ty).rep w B [v0] q.Glues) (h1 : (Ty.slice 95 SignalTile.ty).rep w B [v1] q.Tiles) :
    Calls Tryz.prog 4 #[.agg #[v0, v1], .int .i64 l] w fun e w' => e = .returned (.int .i64 (szR l (SignalSet.cnt q))) ∧ Below w.heap.size w w' := by
  by_cases g0 : ((cntL Glue.cnt q.Glues : Nat) : Int) ≤ l
  · by_cases g1 : ((cntL SignalTile.cnt q.Tiles : Nat) : Int) ≤ l - (cntL Glue.cnt q.Glues : Nat)
    · go_enter Tryz.func4, Tryz.ntmps4
      go_upto_region 1 with fail
      refine rebase ?_; intro W1 hW _; have hz : Below w.heap.size w W1 := by rw [hW]; go_grown
      have hb0 := at_of hW (push1_0 _ _); have c0 := box2 hb0; have f0 := boxf hb0; have B0 := Lib.hid hb0; clear hb0; have HW := Lib.hid hW; clear hW; have hs0 := fun z : Ext W1 => szGlueS_any v0 q.Glues (l) (by omega) (by omega) (W1.to z) B (Nat.le_trans hB (ext_end z hz).size) (Ty.rep_below _ h0 ((ext_end z hz).mono hB)); simp only [szR_ok g0] at hs0; have HS0 := Lib.hid hs0; clear hs0; have hs1 := fun z : Ext W1 => szSignalTileS_any v1 q.Tiles (l - (cntL Glue.cnt q.Glues : Nat)) (by omega) (by omega) (W1.to z) B (Nat.le_trans hB (ext_end z hz).size) (Ty.rep_below _ h1 ((ext_end z hz).mono hB)); simp only [szR_ok g1] at hs1; have HS1 := Lib.hid hs1; clear hs1; go_wp2_with fail; refine call_ext (HS0.out _) ?_; intro y; go_wp2_with fail; refine call_ext (HS1.out _) ?_; intro y; go_wp2_with fail; go_ret; exact ⟨by rw [szR_ok (by unfold SignalSet.cnt; omega)]; unfold SignalSet.cnt; go_num, ext_end _ hz⟩
    · go_enter Tryz.func4, Tryz.ntmps4
      go_upto_region 1 with fail
      refine rebase ?_; intro W1 hW _; have hz : Below w.heap.size w W1 := by rw [hW]; go_grown
      have hb0 := at_of hW (push1_0 _ _); have c0 := box2 hb0; have f0 := boxf hb0; have B0 := Lib.hid hb0; clear hb0; have HW := Lib.hid hW; clear hW; have hs0 := fun z : Ext W1 => szGlueS_any v0 q.Glues (l) (by omega) (by omega) (W1.to z) B (Nat.le_trans hB (ext_end z hz).size) (Ty.rep_below _ h0 ((ext_end z hz).mono hB)); simp only [szR_ok g0] at hs0; have HS0 := Lib.hid hs0; clear hs0; have hs1 := fun z : Ext W1 => szSignalTileS_any v1 q.Tiles (l - (cntL Glue.cnt q.Glues : Nat)) (by omega) (by omega) (W1.to z) B (Nat.le_trans hB (ext_end z hz).size) (Ty.rep_below _ h1 ((ext_end z hz).mono hB)); simp only [szR_no g1] at hs1; have HS1 := Lib.hid hs1; clear hs1; go_wp2_with fail; refine call_ext (HS0.out _) ?_; intro y; go_wp2_with fail; refine call_ext (HS1.out _) ?_; intro y; go_wp2_with fail; go_ret; exact ⟨by rw [szR_no (by unfold SignalSet.cnt; omega)]; rfl, ext_end _ hz⟩
  · go_enter Tryz.func4, Tryz.ntmps4
    go_upto_region 1 with fail
    refine rebase ?_; intro W1 hW _; have hz : Below w.heap.size w W1 := by rw [hW]; go_grown
    have hb0 := at_of hW (push1_0 _ _); have c0 := box2 hb0; have f0 := boxf hb0; have B0 := Lib.hid hb0; clear hb0; have HW := Lib.hid hW; clear hW; have hs0 := fun z : Ext W1 => szGlueS_any v0 q.Glues (l) (by omega) (by omega) (W1.to z) B (Nat.le_trans hB (ext_end z hz).size) (Ty.rep_below _ h0 ((ext_end z hz).mono hB)); simp only [szR_no g0] at hs0; have HS0 := Lib.hid hs0; clear hs0; go_wp2_with fail; refine call_ext (HS0.out _) ?_; intro y; go_wp2_with fail; go_ret; exact ⟨by rw [szR_no (by unfold SignalSet.cnt; omega)]; rfl, ext_end _ hz⟩
structure Point where
  X : Int
  Y : Int
  deriving DecidableEq
def Point.ty : Ty Point := Ty.via (Ty.prod (Ty.int .i64) (Ty.int .i64)) (fun x => (x.X, x.Y))
theorem Point.cells {w : World} {B : Nat} {cs : List Value} {x : Point} (h : Point.ty.rep w B cs x) : cs = [.int .i64 x.X, .int .i64 x.Y] ∧ InK .i64 x.X ∧ InK .i64 x.Y := by obtain ⟨_, _, rfl, h0, h1⟩ := h; obtain ⟨rfl, i0⟩ := h0; obtain ⟨rfl, i1⟩ := h1; exact ⟨rfl, i0, i1⟩
theorem Point.parts {w : World} {B : Nat} {x : Point} (h : Point.ty.rep w B [.int .i64 x.X, .int .i64 x.Y] x) : InK .i64 x.X ∧ InK .i64 x.Y := by obtain ⟨hh, r0, r1⟩ := Point.cells h; exact ⟨r0, r1⟩
theorem Point.rep_mk {w : World} {B : Nat} {x : Point} (h0 : InK .i64 x.X) (h1 : InK .i64 x.Y) : Point.ty.rep w B [.int .i64 x.X, .int .i64 x.Y] x :=
  ⟨_, _, rfl, ⟨rfl, h0⟩, ⟨rfl, h1⟩⟩
set_option maxRecDepth 100000 in
theorem Point.reads : Reads Tryz.prog 110 Point.ty :=
  reads_via (t := (Ty.prod (Ty.int .i64) (Ty.int .i64))) (fun x : Point => (x.X, x.Y)) (fun y => ⟨y.1, y.2⟩) (fun _ => rfl) (reads_struct Tryz.underlying110 (by kernel_rfl) (fld_cons rfl (reads_int Tryz.underlying2 (by kernel_rfl)) (fld_one rfl (reads_int Tryz.underlying2 (by kernel_rfl)))))
set_option maxRecDepth 10000 in
set_option maxHeartbeats 1000000 in
theorem eqPoint_any (x : Point) (w : World) :
    Calls Tryz.prog 61 #[.agg #[.int .i64 x.X, .int .i64 x.Y], .agg #[.int .i64 x.X, .int .i64 x.Y]] w fun e w' => e = .returned (.bool true) ∧ Below w.heap.size w w' := by
  go_enter Tryz.func61, Tryz.ntmps61
  go_upto_region 1 with fail
  refine rebase ?_; intro W1 hW _; have hz : Below w.heap.size w W1 := by rw [hW]; go_grown
  have hb0 := at_of hW (push2_0 _ _ _); have c0 := box2 hb0; have f0 := boxf hb0; have B0 := Lib.hid hb0; clear hb0; have hb1 := at_of hW (push2_1 _ _ _); have c1 := box2 hb1; have f1 := boxf hb1; have B1 := Lib.hid hb1; clear hb1; have HW := Lib.hid hW; clear hW; go_wp2_with fail; go_ret; exact ⟨rfl, ext_end _ hz⟩
structure Placed where
  At : Point
  Tile : Int
  deriving DecidableEq
def Placed.ty : Ty Placed := Ty.via (Ty.prod Point.ty (Ty.int .i64)) (fun x => (x.At, x.Tile))
theorem Placed.cells {w : World} {B : Nat} {cs : List Value} {x : Placed} (h : Placed.ty.rep w B cs x) : cs = [.int .i64 x.At.X, .int .i64 x.At.Y, .int .i64 x.Tile] ∧ InK .i64 x.At.X ∧ InK .i64 x.At.Y ∧ InK .i64 x.Tile := by obtain ⟨_, _, rfl, h0, h1⟩ := h; obtain ⟨rfl, i0_0, i0_1⟩ := Point.cells h0; obtain ⟨rfl, i1⟩ := h1; exact ⟨rfl, i0_0, i0_1, i1⟩
theorem Placed.parts {w : World} {B : Nat} {x : Placed} (h : Placed.ty.rep w B [.int .i64 x.At.X, .int .i64 x.At.Y, .int .i64 x.Tile] x) : InK .i64 x.At.X ∧ InK .i64 x.At.Y ∧ InK .i64 x.Tile := by obtain ⟨hh, r0, r1, r2⟩ := Placed.cells h; exact ⟨r0, r1, r2⟩
theorem Placed.rep_mk {w : World} {B : Nat} {x : Placed} (h0 : InK .i64 x.At.X) (h1 : InK .i64 x.At.Y) (h2 : InK .i64 x.Tile) : Placed.ty.rep w B [.int .i64 x.At.X, .int .i64 x.At.Y, .int .i64 x.Tile] x :=
  ⟨_, _, rfl, Point.rep_mk h0 h1, ⟨rfl, h2⟩⟩
set_option maxRecDepth 100000 in
theorem Placed.reads : Reads Tryz.prog 112 Placed.ty :=
  reads_via (t := (Ty.prod Point.ty (Ty.int .i64))) (fun x : Placed => (x.At, x.Tile)) (fun y => ⟨y.1, y.2⟩) (fun _ => rfl) (reads_struct Tryz.underlying112 (by kernel_rfl) (fld_cons rfl (Point.reads) (fld_one rfl (reads_int Tryz.underlying2 (by kernel_rfl)))))
set_option maxRecDepth 10000 in
set_option maxHeartbeats 1000000 in
theorem eqPlaced_any (x : Placed) (w : World) :
    Calls Tryz.prog 65 #[.agg #[.int .i64 x.At.X, .int .i64 x.At.Y, .int .i64 x.Tile], .agg #[.int .i64 x.At.X, .int .i64 x.At.Y, .int .i64 x.Tile]] w fun e w' => e = .returned (.bool true) ∧ Below w.heap.size w w' := by
  go_enter Tryz.func65, Tryz.ntmps65
  go_upto_region 1 with fail
  refine rebase ?_; intro W1 hW _; have hz : Below w.heap.size w W1 := by rw [hW]; go_grown
  have hb0 := at_of hW (push2_0 _ _ _); have c0 := box3 hb0; have f0 := boxf hb0; have B0 := Lib.hid hb0; clear hb0; have hb1 := at_of hW (push2_1 _ _ _); have c1 := box3 hb1; have f1 := boxf hb1; have B1 := Lib.hid hb1; clear hb1; have HW := Lib.hid hW; clear hW; have hs0 := fun z : Ext W1 => eqPoint_any x.At (W1.to z); have HS0 := Lib.hid hs0; clear hs0; go_wp2_with fail
  first
    | (refine call_ext (HS0.out _) ?_; intro y)
    | (refine wp_region_ext (by kernel_rfl) (by kernel_rfl) ?_; repeat (go_big_quiet_step ((go_at_call 61; exact ext_call (HS0.out _)))); refine wpQuiet_nil ?_; rintro _ ⟨y, rfl⟩)
  go_wp2_with fail
  go_ret; exact ⟨rfl, ext_end _ hz⟩
set_option maxRecDepth 10000 in
set_option maxHeartbeats 1000000 in
theorem eqPlacedS_any (v1 v2 : Value) (xs : List Placed) (w : World) (B : Nat) (hB : B ≤ w.heap.size) (h1 : (Ty.slice 69 Placed.ty).rep w B [v1] xs) (h2 : (Ty.slice 69 Placed.ty).rep w B [v2] xs) :
    Calls Tryz.prog 34 #[v1, v2] w fun e w' => e = .returned (.bool true) ∧ Below w.heap.size w w' := by
  obtain ⟨a1, c1, rfl, _, hm1⟩ := Ty.form h1; obtain ⟨a2, c2, rfl, _, hm2⟩ := Ty.form h2; have hn : xs.length ≤ 9223372036854775807 := (by unfold maxLen at hm1; omega); clear hm1 hm2; refine rebaseC ?_; intro x; go_enter Tryz.func34, Tryz.ntmps34; go_wp2
  go_loopw [5] (fun i wr => ∃ k : Nat, k ≤ xs.length ∧ i = .int .i64 k ∧ ∃ z : Ext w, wr = w.to z) (fun i _ => xs.length - (intOf i).toNat)
  case atStart => exact ⟨0, Nat.zero_le _, rfl, x, rfl⟩
  case round =>
    obtain ⟨k, hk, rfl, z, rfl⟩ := hrel; by_cases hlt : k < xs.length
    · obtain ⟨b1, o1, cs1, rfl, hb1, g1, e1⟩ := Ty.elem h1 hB k hlt; obtain ⟨rfl, _, _, _⟩ := Placed.cells e1; have d1_0 : ∀ z : Ext w, (w.to z).cell? ⟨b1, o1 + k * 3, none⟩ = some (.int .i64 xs[k].At.X) := g1 0 _ rfl; have d1_1 : ∀ z : Ext w, (w.to z).cell? ⟨b1, o1 + k * 3 + 1, none⟩ = some (.int .i64 xs[k].At.Y) := g1 1 _ rfl; have d1_2 : ∀ z : Ext w, (w.to z).cell? ⟨b1, o1 + k * 3 + 2, none⟩ = some (.int .i64 xs[k].Tile) := g1 2 _ rfl; clear g1; obtain ⟨b2, o2, cs2, rfl, hb2, g2, e2⟩ := Ty.elem h2 hB k hlt; obtain ⟨rfl, _, _, _⟩ := Placed.cells e2; have d2_0 : ∀ z : Ext w, (w.to z).cell? ⟨b2, o2 + k * 3, none⟩ = some (.int .i64 xs[k].At.X) := g2 0 _ rfl; have d2_1 : ∀ z : Ext w, (w.to z).cell? ⟨b2, o2 + k * 3 + 1, none⟩ = some (.int .i64 xs[k].At.Y) := g2 1 _ rfl; have d2_2 : ∀ z : Ext w, (w.to z).cell? ⟨b2, o2 + k * 3 + 2, none⟩ = some (.int .i64 xs[k].Tile) := g2 2 _ rfl; clear g2; have hs := fun z : Ext w => eqPlaced_any xs[k] (w.to z); have HS := Lib.hid hs; clear hs; go_wp2_with fail; refine wp_region_ext (by kernel_rfl) (by kernel_rfl) ?_
      repeat (go_big_quiet_step ((go_at_call 65; exact ext_call (HS.out _))))
      refine wpQuiet_nil ?_; rintro _ ⟨y, rfl⟩; go_wp2_with fail
      go_roundw
      case rel => exact ⟨k + 1, by omega, by go_num, y, rfl⟩
      case measure => simp [intOf]; omega
    · go_wp2_with fail
      go_ret; exact ⟨rfl, z.below⟩
set_option maxRecDepth 10000 in
set_option maxHeartbeats 1000000 in
theorem szPlacedS_any (v : Value) (xs : List Placed) (l : Int) (hl0 : 0 ≤ l) (hl1 : l ≤ 1048576) (w : World) (B : Nat) (hB : B ≤ w.heap.size) (h : (Ty.slice 69 Placed.ty).rep w B [v] xs) :
    Calls Tryz.prog 19 #[v, .int .i64 l] w fun e w' => e = .returned (.int .i64 (szR l (xs.length))) ∧ Below w.heap.size w w' := by
  have _ := hB; obtain ⟨a, c, rfl, hc, hm⟩ := Ty.form h; have hn : xs.length ≤ 9223372036854775807 := (by unfold maxLen at hm; omega); clear hm; by_cases g : (xs.length : Int) ≤ l
  · rw [szR_ok g]; go_enter Tryz.func19, Tryz.ntmps19; go_wp2; go_ret; exact ⟨rfl, by go_grown⟩
  · rw [szR_no g]; go_enter Tryz.func19, Tryz.ntmps19; go_wp2; go_ret; exact ⟨rfl, by go_grown⟩
structure Assembly where
  Tiles : List Placed
  deriving DecidableEq
def Assembly.ty : Ty Assembly := Ty.via ((Ty.slice 69 Placed.ty)) (fun x => x.Tiles)
def Assembly.cnt (x : Assembly) : Nat := x.Tiles.length
theorem Assembly.cells {w : World} {B : Nat} {cs : List Value} {x : Assembly} (h : Assembly.ty.rep w B cs x) : ∃ v0 : Value, cs = [v0] ∧ (Ty.slice 69 Placed.ty).rep w B [v0] x.Tiles := by have h0 : (Ty.slice 69 Placed.ty).rep w B cs x.Tiles := h; obtain ⟨u0, rfl⟩ := Ty.slice_one h0; exact ⟨_, rfl, h0⟩
theorem Assembly.parts {w : World} {B : Nat} {v0 : Value} {x : Assembly} (h : Assembly.ty.rep w B [v0] x) : (Ty.slice 69 Placed.ty).rep w B [v0] x.Tiles := by obtain ⟨e0, hh, r0⟩ := Assembly.cells h; simp only [List.cons.injEq, and_true, true_and] at hh; subst hh; exact r0
theorem Assembly.rep_mk {w : World} {B : Nat} {v0 : Value} {x : Assembly} (h0 : (Ty.slice 69 Placed.ty).rep w B [v0] x.Tiles) : Assembly.ty.rep w B [v0] x :=
  h0
set_option maxRecDepth 100000 in
theorem Assembly.reads : Reads Tryz.prog 28 Assembly.ty :=
  reads_via (t := ((Ty.slice 69 Placed.ty))) (fun x : Assembly => x.Tiles) (fun y => ⟨y⟩) (fun _ => rfl) (reads_struct Tryz.underlying28 (by kernel_rfl) (fld_one rfl (reads_slice Tryz.underlying26 (by kernel_rfl) (by decide) (Placed.reads))))
set_option maxRecDepth 10000 in
set_option maxHeartbeats 1000000 in
theorem eqAssembly_any (v0 u0 : Value) (x : Assembly) (w : World) (B : Nat) (hB : B ≤ w.heap.size) (h0 : (Ty.slice 69 Placed.ty).rep w B [v0] x.Tiles) (k0 : (Ty.slice 69 Placed.ty).rep w B [u0] x.Tiles) :
    Calls Tryz.prog 12 #[.agg #[v0], .agg #[u0]] w fun e w' => e = .returned (.bool true) ∧ Below w.heap.size w w' := by
  go_enter Tryz.func12, Tryz.ntmps12
  go_upto_region 1 with fail
  refine rebase ?_; intro W1 hW _; have hz : Below w.heap.size w W1 := by rw [hW]; go_grown
  have hb0 := at_of hW (push2_0 _ _ _); have c0 := box1 hb0; have f0 := boxf hb0; have B0 := Lib.hid hb0; clear hb0; have hb1 := at_of hW (push2_1 _ _ _); have c1 := box1 hb1; have f1 := boxf hb1; have B1 := Lib.hid hb1; clear hb1; have HW := Lib.hid hW; clear hW; have hs0 := fun z : Ext W1 => eqPlacedS_any v0 u0 x.Tiles (W1.to z) B (Nat.le_trans hB (ext_end z hz).size) (Ty.rep_below _ h0 ((ext_end z hz).mono hB)) (Ty.rep_below _ k0 ((ext_end z hz).mono hB)); have HS0 := Lib.hid hs0; clear hs0; go_wp2_with fail
  first
    | (refine call_ext (HS0.out _) ?_; intro y)
    | (refine wp_region_ext (by kernel_rfl) (by kernel_rfl) ?_; repeat (go_big_quiet_step ((go_at_call 34; exact ext_call (HS0.out _)))); refine wpQuiet_nil ?_; rintro _ ⟨y, rfl⟩)
  go_wp2_with fail
  go_ret; exact ⟨rfl, ext_end _ hz⟩
set_option maxRecDepth 10000 in
set_option maxHeartbeats 1000000 in
theorem szAssembly_any (v0 : Value) (q : Assembly) (l : Int) (hl0 : 0 ≤ l) (hl1 : l ≤ 1048576) (w : World) (B : Nat) (hB : B ≤ w.heap.size) (h0 : (Ty.slice 69 Placed.ty).rep w B [v0] q.Tiles) :
    Calls Tryz.prog 5 #[.agg #[v0], .int .i64 l] w fun e w' => e = .returned (.int .i64 (szR l (Assembly.cnt q))) ∧ Below w.heap.size w w' := by
  by_cases g0 : ((q.Tiles.length : Nat) : Int) ≤ l
  · go_enter Tryz.func5, Tryz.ntmps5
    go_upto_region 1 with fail
    refine rebase ?_; intro W1 hW _; have hz : Below w.heap.size w W1 := by rw [hW]; go_grown
    have hb0 := at_of hW (push1_0 _ _); have c0 := box1 hb0; have f0 := boxf hb0; have B0 := Lib.hid hb0; clear hb0; have HW := Lib.hid hW; clear hW; have hs0 := fun z : Ext W1 => szPlacedS_any v0 q.Tiles (l) (by omega) (by omega) (W1.to z) B (Nat.le_trans hB (ext_end z hz).size) (Ty.rep_below _ h0 ((ext_end z hz).mono hB)); simp only [szR_ok g0] at hs0; have HS0 := Lib.hid hs0; clear hs0; go_wp2_with fail; refine call_ext (HS0.out _) ?_; intro y; go_wp2_with fail; go_ret; exact ⟨by rw [szR_ok (by unfold Assembly.cnt; omega)]; unfold Assembly.cnt; go_num, ext_end _ hz⟩
  · go_enter Tryz.func5, Tryz.ntmps5
    go_upto_region 1 with fail
    refine rebase ?_; intro W1 hW _; have hz : Below w.heap.size w W1 := by rw [hW]; go_grown
    have hb0 := at_of hW (push1_0 _ _); have c0 := box1 hb0; have f0 := boxf hb0; have B0 := Lib.hid hb0; clear hb0; have HW := Lib.hid hW; clear hW; have hs0 := fun z : Ext W1 => szPlacedS_any v0 q.Tiles (l) (by omega) (by omega) (W1.to z) B (Nat.le_trans hB (ext_end z hz).size) (Ty.rep_below _ h0 ((ext_end z hz).mono hB)); simp only [szR_no g0] at hs0; have HS0 := Lib.hid hs0; clear hs0; go_wp2_with fail; refine call_ext (HS0.out _) ?_; intro y; go_wp2_with fail; go_ret; exact ⟨by rw [szR_no (by unfold Assembly.cnt; omega)]; rfl, ext_end _ hz⟩
structure SignalCell where
  At : Point
  Tile : Int
  On : List Bool
  Bound : List Bool
  Fired : List Bool
  deriving DecidableEq
def SignalCell.ty : Ty SignalCell := Ty.via (Ty.prod Point.ty (Ty.prod (Ty.int .i64) (Ty.prod (Ty.slice 4 Ty.bool) (Ty.prod (Ty.slice 4 Ty.bool) (Ty.slice 4 Ty.bool))))) (fun x => (x.At, x.Tile, x.On, x.Bound, x.Fired))
def SignalCell.cnt (x : SignalCell) : Nat := x.On.length + x.Bound.length + x.Fired.length
theorem SignalCell.cells {w : World} {B : Nat} {cs : List Value} {x : SignalCell} (h : SignalCell.ty.rep w B cs x) : ∃ v0 v1 v2 : Value, cs = [.int .i64 x.At.X, .int .i64 x.At.Y, .int .i64 x.Tile, v0, v1, v2] ∧ InK .i64 x.At.X ∧ InK .i64 x.At.Y ∧ InK .i64 x.Tile ∧ (Ty.slice 4 Ty.bool).rep w B [v0] x.On ∧ (Ty.slice 4 Ty.bool).rep w B [v1] x.Bound ∧ (Ty.slice 4 Ty.bool).rep w B [v2] x.Fired := by obtain ⟨_, _, rfl, h0, _, _, rfl, h1, _, _, rfl, h2, _, _, rfl, h3, h4⟩ := h; obtain ⟨rfl, i0_0, i0_1⟩ := Point.cells h0; obtain ⟨rfl, i1⟩ := h1; obtain ⟨u2, rfl⟩ := Ty.slice_one h2; obtain ⟨u3, rfl⟩ := Ty.slice_one h3; obtain ⟨u4, rfl⟩ := Ty.slice_one h4; exact ⟨_, _, _, rfl, i0_0, i0_1, i1, h2, h3, h4⟩
theorem SignalCell.parts {w : World} {B : Nat} {v0 v1 v2 : Value} {x : SignalCell} (h : SignalCell.ty.rep w B [.int .i64 x.At.X, .int .i64 x.At.Y, .int .i64 x.Tile, v0, v1, v2] x) : InK .i64 x.At.X ∧ InK .i64 x.At.Y ∧ InK .i64 x.Tile ∧ (Ty.slice 4 Ty.bool).rep w B [v0] x.On ∧ (Ty.slice 4 Ty.bool).rep w B [v1] x.Bound ∧ (Ty.slice 4 Ty.bool).rep w B [v2] x.Fired := by obtain ⟨e0, e1, e2, hh, r0, r1, r2, r3, r4, r5⟩ := SignalCell.cells h; simp only [List.cons.injEq, and_true, true_and] at hh; obtain ⟨rfl, rfl, rfl⟩ := hh; exact ⟨r0, r1, r2, r3, r4, r5⟩
theorem SignalCell.rep_mk {w : World} {B : Nat} {v0 v1 v2 : Value} {x : SignalCell} (h0 : InK .i64 x.At.X) (h1 : InK .i64 x.At.Y) (h2 : InK .i64 x.Tile) (h3 : (Ty.slice 4 Ty.bool).rep w B [v0] x.On) (h4 : (Ty.slice 4 Ty.bool).rep w B [v1] x.Bound) (h5 : (Ty.slice 4 Ty.bool).rep w B [v2] x.Fired) : SignalCell.ty.rep w B [.int .i64 x.At.X, .int .i64 x.At.Y, .int .i64 x.Tile, v0, v1, v2] x :=
  ⟨_, _, rfl, Point.rep_mk h0 h1, _, _, rfl, ⟨rfl, h2⟩, _, _, rfl, h3, _, _, rfl, h4, h5⟩
set_option maxRecDepth 10000 in
set_option maxHeartbeats 1000000 in
theorem eqSignalCell_any (v0 v1 v2 u0 u1 u2 : Value) (x : SignalCell) (w : World) (B : Nat) (hB : B ≤ w.heap.size) (h0 : (Ty.slice 4 Ty.bool).rep w B [v0] x.On) (h1 : (Ty.slice 4 Ty.bool).rep w B [v1] x.Bound) (h2 : (Ty.slice 4 Ty.bool).rep w B [v2] x.Fired) (k0 : (Ty.slice 4 Ty.bool).rep w B [u0] x.On) (k1 : (Ty.slice 4 Ty.bool).rep w B [u1] x.Bound) (k2 : (Ty.slice 4 Ty.bool).rep w B [u2] x.Fired) :
    Calls Tryz.prog 31 #[.agg #[.int .i64 x.At.X, .int .i64 x.At.Y, .int .i64 x.Tile, v0, v1, v2], .agg #[.int .i64 x.At.X, .int .i64 x.At.Y, .int .i64 x.Tile, u0, u1, u2]] w fun e w' => e = .returned (.bool true) ∧ Below w.heap.size w w' := by
  go_enter Tryz.func31, Tryz.ntmps31
  go_upto_region 1 with fail
  refine rebase ?_; intro W1 hW _; have hz : Below w.heap.size w W1 := by rw [hW]; go_grown
  have hb0 := at_of hW (push2_0 _ _ _); have c0 := box6 hb0; have f0 := boxf hb0; have B0 := Lib.hid hb0; clear hb0; have hb1 := at_of hW (push2_1 _ _ _); have c1 := box6 hb1; have f1 := boxf hb1; have B1 := Lib.hid hb1; clear hb1; have HW := Lib.hid hW; clear hW; have hs0 := fun z : Ext W1 => eqPoint_any x.At (W1.to z); have HS0 := Lib.hid hs0; clear hs0; have hs1 := fun z : Ext W1 => eqBoolS_any v0 u0 x.On (W1.to z) B (Nat.le_trans hB (ext_end z hz).size) (Ty.rep_below _ h0 ((ext_end z hz).mono hB)) (Ty.rep_below _ k0 ((ext_end z hz).mono hB)); have HS1 := Lib.hid hs1; clear hs1; have hs2 := fun z : Ext W1 => eqBoolS_any v1 u1 x.Bound (W1.to z) B (Nat.le_trans hB (ext_end z hz).size) (Ty.rep_below _ h1 ((ext_end z hz).mono hB)) (Ty.rep_below _ k1 ((ext_end z hz).mono hB)); have HS2 := Lib.hid hs2; clear hs2; have hs3 := fun z : Ext W1 => eqBoolS_any v2 u2 x.Fired (W1.to z) B (Nat.le_trans hB (ext_end z hz).size) (Ty.rep_below _ h2 ((ext_end z hz).mono hB)) (Ty.rep_below _ k2 ((ext_end z hz).mono hB)); have HS3 := Lib.hid hs3; clear hs3; go_wp2_with fail
  first
    | (refine call_ext (HS0.out _) ?_; intro y)
    | (refine wp_region_ext (by kernel_rfl) (by kernel_rfl) ?_; repeat (go_big_quiet_step ((go_at_call 61; exact ext_call (HS0.out _)))); refine wpQuiet_nil ?_; rintro _ ⟨y, rfl⟩)
  go_wp2_with fail
  first
    | (refine call_ext (HS1.out _) ?_; intro y)
    | (refine wp_region_ext (by kernel_rfl) (by kernel_rfl) ?_; repeat (go_big_quiet_step ((go_at_call 62; exact ext_call (HS1.out _)))); refine wpQuiet_nil ?_; rintro _ ⟨y, rfl⟩)
  go_wp2_with fail
  first
    | (refine call_ext (HS2.out _) ?_; intro y)
    | (refine wp_region_ext (by kernel_rfl) (by kernel_rfl) ?_; repeat (go_big_quiet_step ((go_at_call 62; exact ext_call (HS2.out _)))); refine wpQuiet_nil ?_; rintro _ ⟨y, rfl⟩)
  go_wp2_with fail
  first
    | (refine call_ext (HS3.out _) ?_; intro y)
    | (refine wp_region_ext (by kernel_rfl) (by kernel_rfl) ?_; repeat (go_big_quiet_step ((go_at_call 62; exact ext_call (HS3.out _)))); refine wpQuiet_nil ?_; rintro _ ⟨y, rfl⟩)
  go_wp2_with fail
  go_ret; exact ⟨rfl, ext_end _ hz⟩
set_option maxRecDepth 10000 in
set_option maxHeartbeats 1000000 in
theorem eqSignalCellS_any (v1 v2 : Value) (xs : List SignalCell) (w : World) (B : Nat) (hB : B ≤ w.heap.size) (h1 : (Ty.slice 66 SignalCell.ty).rep w B [v1] xs) (h2 : (Ty.slice 66 SignalCell.ty).rep w B [v2] xs) :
    Calls Tryz.prog 10 #[v1, v2] w fun e w' => e = .returned (.bool true) ∧ Below w.heap.size w w' := by
  obtain ⟨a1, c1, rfl, _, hm1⟩ := Ty.form h1; obtain ⟨a2, c2, rfl, _, hm2⟩ := Ty.form h2; have hn : xs.length ≤ 9223372036854775807 := (by unfold maxLen at hm1; omega); clear hm1 hm2; refine rebaseC ?_; intro x; go_enter Tryz.func10, Tryz.ntmps10; go_wp2
  go_loopw [5] (fun i wr => ∃ k : Nat, k ≤ xs.length ∧ i = .int .i64 k ∧ ∃ z : Ext w, wr = w.to z) (fun i _ => xs.length - (intOf i).toNat)
  case atStart => exact ⟨0, Nat.zero_le _, rfl, x, rfl⟩
  case round =>
    obtain ⟨k, hk, rfl, z, rfl⟩ := hrel; by_cases hlt : k < xs.length
    · obtain ⟨b1, o1, cs1, rfl, hb1, g1, e1⟩ := Ty.elem h1 hB k hlt; obtain ⟨p1_0, p1_1, p1_2, rfl, _, _, _, r1_3, r1_4, r1_5⟩ := SignalCell.cells e1; have d1_0 : ∀ z : Ext w, (w.to z).cell? ⟨b1, o1 + k * 6, none⟩ = some (.int .i64 xs[k].At.X) := g1 0 _ rfl; have d1_1 : ∀ z : Ext w, (w.to z).cell? ⟨b1, o1 + k * 6 + 1, none⟩ = some (.int .i64 xs[k].At.Y) := g1 1 _ rfl; have d1_2 : ∀ z : Ext w, (w.to z).cell? ⟨b1, o1 + k * 6 + 2, none⟩ = some (.int .i64 xs[k].Tile) := g1 2 _ rfl; have d1_3 : ∀ z : Ext w, (w.to z).cell? ⟨b1, o1 + k * 6 + 3, none⟩ = some (p1_0) := g1 3 _ rfl; have d1_4 : ∀ z : Ext w, (w.to z).cell? ⟨b1, o1 + k * 6 + 4, none⟩ = some (p1_1) := g1 4 _ rfl; have d1_5 : ∀ z : Ext w, (w.to z).cell? ⟨b1, o1 + k * 6 + 5, none⟩ = some (p1_2) := g1 5 _ rfl; clear g1; obtain ⟨b2, o2, cs2, rfl, hb2, g2, e2⟩ := Ty.elem h2 hB k hlt; obtain ⟨p2_0, p2_1, p2_2, rfl, _, _, _, r2_3, r2_4, r2_5⟩ := SignalCell.cells e2; have d2_0 : ∀ z : Ext w, (w.to z).cell? ⟨b2, o2 + k * 6, none⟩ = some (.int .i64 xs[k].At.X) := g2 0 _ rfl; have d2_1 : ∀ z : Ext w, (w.to z).cell? ⟨b2, o2 + k * 6 + 1, none⟩ = some (.int .i64 xs[k].At.Y) := g2 1 _ rfl; have d2_2 : ∀ z : Ext w, (w.to z).cell? ⟨b2, o2 + k * 6 + 2, none⟩ = some (.int .i64 xs[k].Tile) := g2 2 _ rfl; have d2_3 : ∀ z : Ext w, (w.to z).cell? ⟨b2, o2 + k * 6 + 3, none⟩ = some (p2_0) := g2 3 _ rfl; have d2_4 : ∀ z : Ext w, (w.to z).cell? ⟨b2, o2 + k * 6 + 4, none⟩ = some (p2_1) := g2 4 _ rfl; have d2_5 : ∀ z : Ext w, (w.to z).cell? ⟨b2, o2 + k * 6 + 5, none⟩ = some (p2_2) := g2 5 _ rfl; clear g2; have hs := fun z : Ext w => eqSignalCell_any p1_0 p1_1 p1_2 p2_0 p2_1 p2_2 xs[k] (w.to z) B (Nat.le_trans hB z.below.size) (Ty.rep_to _ hB r1_3 z) (Ty.rep_to _ hB r1_4 z) (Ty.rep_to _ hB r1_5 z) (Ty.rep_to _ hB r2_3 z) (Ty.rep_to _ hB r2_4 z) (Ty.rep_to _ hB r2_5 z); have HS := Lib.hid hs; clear hs; go_wp2_with fail; refine wp_region_ext (by kernel_rfl) (by kernel_rfl) ?_
      repeat (go_big_quiet_step ((go_at_call 31; exact ext_call (HS.out _))))
      refine wpQuiet_nil ?_; rintro _ ⟨y, rfl⟩; go_wp2_with fail
      go_roundw
      case rel => exact ⟨k + 1, by omega, by go_num, y, rfl⟩
      case measure => simp [intOf]; omega
    · go_wp2_with fail
      go_ret; exact ⟨rfl, z.below⟩
end Go.Proofs.YtddkkndgpcgdpaaGreat
