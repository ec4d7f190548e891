/- Laws that the proof stands on. -/
import Derived.Test.YtdjjffhlplchjaaGreatDoorRows
import Derived.Test.YtdjjffhlplchjaaGreatDoorZLib
import Derived.Test.YtdjjffhlplchjaaGreatDoorZTyBase
set_option linter.all false
namespace Go.Proofs.YtdjjffhlplchjaaGreatDoor
open Go.RowKit Go.ChangeShapes Go.WideShapes Go.ChangeAt
structure Glue where
  Name : ByteArray
  Strength : Int
  deriving DecidableEq
def Glue.ty : Ty Glue:=Ty.via (Ty.prod Ty.str (Ty.int .i64)) (fun x => (x.Name,x.Strength))
def Glue.cnt (x : Glue) : Nat:=x.Name.size
theorem Glue.cells {w : World} {B : Nat} {cs : List Value} {x : Glue} (h : Glue.ty.rep w B cs x) : cs = [.string x.Name,.int .i64 x.Strength] ∧ x.Name.size ≤ maxLen ∧ InK .i64 x.Strength:=by obtain ⟨_,_,rfl,h0,h1⟩:=h;obtain ⟨rfl,i0⟩:=h0;obtain ⟨rfl,i1⟩:=h1;exact ⟨rfl,i0,i1⟩
theorem Glue.parts {w : World} {B : Nat} {x : Glue} (h : Glue.ty.rep w B [.string x.Name,.int .i64 x.Strength] x) : x.Name.size ≤ maxLen ∧ InK .i64 x.Strength:=by obtain ⟨hh,r0,r1⟩:=Glue.cells h;exact ⟨r0,r1⟩
theorem Glue.rep_mk {w : World} {B : Nat} {x : Glue} (h0 : x.Name.size ≤ maxLen) (h1 : InK .i64 x.Strength) : Glue.ty.rep w B [.string x.Name,.int .i64 x.Strength] x :=
  ⟨_,_,rfl,⟨rfl,h0⟩,⟨rfl,h1⟩⟩
set_option maxRecDepth 10000 in
set_option maxHeartbeats 1000000 in
theorem zW4 (x : Glue) (w : World) :
    Calls Tryz.prog 117 #[.agg #[.string x.Name,.int .i64 x.Strength],.agg #[.string x.Name,.int .i64 x.Strength]] w fun e w' => e = .returned (.bool true) ∧ Below w.heap.size w w':=by
  go_enter Tryz.func117,Tryz.ntmps117
  go_upto_region 1 with fail
  refine zEe ?_;intro W1 hW _;have hz : Below w.heap.size w W1:=by rw [hW];go_grown
  have hb0:=zDs hW (zF3 _ _ _);have c0:=box2 hb0;have f0:=zK8 hb0;have B0:=Lib.hid hb0;clear hb0;have hb1:=zDs hW (zF2 _ _ _);have c1:=box2 hb1;have f1:=zK8 hb1;have B1:=Lib.hid hb1;clear hb1;have HW:=Lib.hid hW;clear hW;go_wp2_with fail;go_ret;exact ⟨rfl,zAq _ hz⟩
set_option maxRecDepth 10000 in
set_option maxHeartbeats 1000000 in
theorem zTc (v1 v2 : Value) (xs : List Glue) (w : World) (B : Nat) (hB : B ≤ w.heap.size) (h1 : (Ty.slice 123 Glue.ty).rep w B [v1] xs) (h2 : (Ty.slice 123 Glue.ty).rep w B [v2] xs) :
    Calls Tryz.prog 83 #[v1,v2] w fun e w' => e = .returned (.bool true) ∧ Below w.heap.size w w':=by
  obtain ⟨a1,c1,rfl,_,hm1⟩:=Ty.form h1;obtain ⟨a2,c2,rfl,_,hm2⟩:=Ty.form h2;have hn : xs.length ≤ 9223372036854775807:=(by unfold maxLen at hm1;omega);clear hm1 hm2;refine zF0 ?_;intro x;go_enter Tryz.func83,Tryz.ntmps83;go_wp2
  go_loopw [5] (fun i wr => ∃ k : Nat,k ≤ xs.length ∧ i = .int .i64 k ∧ ∃ z : Ext w,wr = w.to z) (fun i _ => xs.length - (intOf i).toNat)
  case atStart => exact ⟨0,Nat.zero_le _,rfl,x,rfl⟩
  case round =>
    obtain ⟨k,hk,rfl,z,rfl⟩:=hrel;by_cases hlt : k < xs.length
    · obtain ⟨b1,o1,cs1,rfl,hb1,g1,e1⟩:=Ty.elem h1 hB k hlt;obtain ⟨rfl,_,_⟩:=Glue.cells e1;have d1_0 : ∀ z : Ext w,(w.to z).cell? ⟨b1,o1 + k * 2,none⟩ = some (.string xs[k].Name):=g1 0 _ rfl;have d1_1 : ∀ z : Ext w,(w.to z).cell? ⟨b1,o1 + k * 2 + 1,none⟩ = some (.int .i64 xs[k].Strength):=g1 1 _ rfl;clear g1;obtain ⟨b2,o2,cs2,rfl,hb2,g2,e2⟩:=Ty.elem h2 hB k hlt;obtain ⟨rfl,_,_⟩:=Glue.cells e2;have d2_0 : ∀ z : Ext w,(w.to z).cell? ⟨b2,o2 + k * 2,none⟩ = some (.string xs[k].Name):=g2 0 _ rfl;have d2_1 : ∀ z : Ext w,(w.to z).cell? ⟨b2,o2 + k * 2 + 1,none⟩ = some (.int .i64 xs[k].Strength):=g2 1 _ rfl;clear g2;have hs:=fun z : Ext w => zW4 xs[k] (w.to z);have HS:=Lib.hid hs;clear hs;go_wp2_with fail;refine zA0 (by kernel_rfl) (by kernel_rfl) ?_
      repeat (go_big_quiet_step ((go_at_call 117;exact zCo (HS.out _))))
      refine wpQuiet_nil ?_;rintro _ ⟨y,rfl⟩;go_wp2_with fail
      go_roundw
      case rel => exact ⟨k + 1,by omega,by go_num,y,rfl⟩
      case measure => simp [intOf];omega
    · go_wp2_with fail
      go_ret;exact ⟨rfl,z.below⟩
structure Tile where
  Name : ByteArray
  Sides : List Int
  deriving DecidableEq
def Tile.ty : Ty Tile:=Ty.via (Ty.prod Ty.str (Ty.slice 2 (Ty.int .i64))) (fun x => (x.Name,x.Sides))
def Tile.cnt (x : Tile) : Nat:=x.Name.size + x.Sides.length
theorem Tile.cells {w : World} {B : Nat} {cs : List Value} {x : Tile} (h : Tile.ty.rep w B cs x) : ∃ v0 : Value,cs = [.string x.Name,v0] ∧ x.Name.size ≤ maxLen ∧ (Ty.slice 2 (Ty.int .i64)).rep w B [v0] x.Sides:=by obtain ⟨_,_,rfl,h0,h1⟩:=h;obtain ⟨rfl,i0⟩:=h0;obtain ⟨u1,rfl⟩:=Ty.slice_one h1;exact ⟨_,rfl,i0,h1⟩
theorem Tile.parts {w : World} {B : Nat} {v0 : Value} {x : Tile} (h : Tile.ty.rep w B [.string x.Name,v0] x) : x.Name.size ≤ maxLen ∧ (Ty.slice 2 (Ty.int .i64)).rep w B [v0] x.Sides:=by obtain ⟨e0,hh,r0,r1⟩:=Tile.cells h;simp only [List.cons.injEq,and_true,true_and] at hh;subst hh;exact ⟨r0,r1⟩
theorem Tile.rep_mk {w : World} {B : Nat} {v0 : Value} {x : Tile} (h0 : x.Name.size ≤ maxLen) (h1 : (Ty.slice 2 (Ty.int .i64)).rep w B [v0] x.Sides) : Tile.ty.rep w B [.string x.Name,v0] x :=
  ⟨_,_,rfl,⟨rfl,h0⟩,h1⟩
set_option maxRecDepth 10000 in
set_option maxHeartbeats 1000000 in
theorem zW3 (v0 u0 : Value) (x : Tile) (w : World) (B : Nat) (hB : B ≤ w.heap.size) (h0 : (Ty.slice 2 (Ty.int .i64)).rep w B [v0] x.Sides) (k0 : (Ty.slice 2 (Ty.int .i64)).rep w B [u0] x.Sides) :
    Calls Tryz.prog 118 #[.agg #[.string x.Name,v0],.agg #[.string x.Name,u0]] w fun e w' => e = .returned (.bool true) ∧ Below w.heap.size w w':=by
  go_enter Tryz.func118,Tryz.ntmps118
  go_upto_region 1 with fail
  refine zEe ?_;intro W1 hW _;have hz : Below w.heap.size w W1:=by rw [hW];go_grown
  have hb0:=zDs hW (zF3 _ _ _);have c0:=box2 hb0;have f0:=zK8 hb0;have B0:=Lib.hid hb0;clear hb0;have hb1:=zDs hW (zF2 _ _ _);have c1:=box2 hb1;have f1:=zK8 hb1;have B1:=Lib.hid hb1;clear hb1;have HW:=Lib.hid hW;clear hW;have hs0:=fun z : Ext W1 => zG0 v0 u0 x.Sides (W1.to z) B (Nat.le_trans hB (zAq z hz).size) (Ty.rep_below _ h0 ((zAq z hz).mono hB)) (Ty.rep_below _ k0 ((zAq z hz).mono hB));have HS0:=Lib.hid hs0;clear hs0;go_wp2_with fail
  first
    | (refine zBj (HS0.out _) ?_;intro y)
    | (refine zA0 (by kernel_rfl) (by kernel_rfl) ?_;repeat (go_big_quiet_step ((go_at_call 20;exact zCo (HS0.out _))));refine wpQuiet_nil ?_;rintro _ ⟨y,rfl⟩)
  go_wp2_with fail
  go_ret;exact ⟨rfl,zAq _ hz⟩
set_option maxRecDepth 10000 in
set_option maxHeartbeats 1000000 in
theorem zS9 (v1 v2 : Value) (xs : List Tile) (w : World) (B : Nat) (hB : B ≤ w.heap.size) (h1 : (Ty.slice 128 Tile.ty).rep w B [v1] xs) (h2 : (Ty.slice 128 Tile.ty).rep w B [v2] xs) :
    Calls Tryz.prog 84 #[v1,v2] w fun e w' => e = .returned (.bool true) ∧ Below w.heap.size w w':=by
  obtain ⟨a1,c1,rfl,_,hm1⟩:=Ty.form h1;obtain ⟨a2,c2,rfl,_,hm2⟩:=Ty.form h2;have hn : xs.length ≤ 9223372036854775807:=(by unfold maxLen at hm1;omega);clear hm1 hm2;refine zF0 ?_;intro x;go_enter Tryz.func84,Tryz.ntmps84;go_wp2
  go_loopw [5] (fun i wr => ∃ k : Nat,k ≤ xs.length ∧ i = .int .i64 k ∧ ∃ z : Ext w,wr = w.to z) (fun i _ => xs.length - (intOf i).toNat)
  case atStart => exact ⟨0,Nat.zero_le _,rfl,x,rfl⟩
  case round =>
    obtain ⟨k,hk,rfl,z,rfl⟩:=hrel;by_cases hlt : k < xs.length
    · obtain ⟨b1,o1,cs1,rfl,hb1,g1,e1⟩:=Ty.elem h1 hB k hlt;obtain ⟨p1_0,rfl,_,r1_1⟩:=Tile.cells e1;have d1_0 : ∀ z : Ext w,(w.to z).cell? ⟨b1,o1 + k * 2,none⟩ = some (.string xs[k].Name):=g1 0 _ rfl;have d1_1 : ∀ z : Ext w,(w.to z).cell? ⟨b1,o1 + k * 2 + 1,none⟩ = some (p1_0):=g1 1 _ rfl;clear g1;obtain ⟨b2,o2,cs2,rfl,hb2,g2,e2⟩:=Ty.elem h2 hB k hlt;obtain ⟨p2_0,rfl,_,r2_1⟩:=Tile.cells e2;have d2_0 : ∀ z : Ext w,(w.to z).cell? ⟨b2,o2 + k * 2,none⟩ = some (.string xs[k].Name):=g2 0 _ rfl;have d2_1 : ∀ z : Ext w,(w.to z).cell? ⟨b2,o2 + k * 2 + 1,none⟩ = some (p2_0):=g2 1 _ rfl;clear g2;have hs:=fun z : Ext w => zW3 p1_0 p2_0 xs[k] (w.to z) B (Nat.le_trans hB z.below.size) (Ty.rep_to _ hB r1_1 z) (Ty.rep_to _ hB r2_1 z);have HS:=Lib.hid hs;clear hs;go_wp2_with fail;refine zA0 (by kernel_rfl) (by kernel_rfl) ?_
      repeat (go_big_quiet_step ((go_at_call 118;exact zCo (HS.out _))))
      refine wpQuiet_nil ?_;rintro _ ⟨y,rfl⟩;go_wp2_with fail
      go_roundw
      case rel => exact ⟨k + 1,by omega,by go_num,y,rfl⟩
      case measure => simp [intOf];omega
    · go_wp2_with fail
      go_ret;exact ⟨rfl,z.below⟩
structure TileSet where
  Glues : List Glue
  Tiles : List Tile
  deriving DecidableEq
def TileSet.ty : Ty TileSet:=Ty.via (Ty.prod (Ty.slice 123 Glue.ty) (Ty.slice 128 Tile.ty)) (fun x => (x.Glues,x.Tiles))
def TileSet.cnt (x : TileSet) : Nat:=zXj Glue.cnt x.Glues + zXj Tile.cnt x.Tiles
theorem TileSet.cells {w : World} {B : Nat} {cs : List Value} {x : TileSet} (h : TileSet.ty.rep w B cs x) : ∃ v0 v1 : Value,cs = [v0,v1] ∧ (Ty.slice 123 Glue.ty).rep w B [v0] x.Glues ∧ (Ty.slice 128 Tile.ty).rep w B [v1] x.Tiles:=by obtain ⟨_,_,rfl,h0,h1⟩:=h;obtain ⟨u0,rfl⟩:=Ty.slice_one h0;obtain ⟨u1,rfl⟩:=Ty.slice_one h1;exact ⟨_,_,rfl,h0,h1⟩
theorem TileSet.parts {w : World} {B : Nat} {v0 v1 : Value} {x : TileSet} (h : TileSet.ty.rep w B [v0,v1] x) : (Ty.slice 123 Glue.ty).rep w B [v0] x.Glues ∧ (Ty.slice 128 Tile.ty).rep w B [v1] x.Tiles:=by obtain ⟨e0,e1,hh,r0,r1⟩:=TileSet.cells h;simp only [List.cons.injEq,and_true,true_and] at hh;obtain ⟨rfl,rfl⟩:=hh;exact ⟨r0,r1⟩
theorem TileSet.rep_mk {w : World} {B : Nat} {v0 v1 : Value} {x : TileSet} (h0 : (Ty.slice 123 Glue.ty).rep w B [v0] x.Glues) (h1 : (Ty.slice 128 Tile.ty).rep w B [v1] x.Tiles) : TileSet.ty.rep w B [v0,v1] x :=
  ⟨_,_,rfl,h0,h1⟩
set_option maxRecDepth 10000 in
set_option maxHeartbeats 1000000 in
theorem zO9 (v0 v1 u0 u1 : Value) (x : TileSet) (w : World) (B : Nat) (hB : B ≤ w.heap.size) (h0 : (Ty.slice 123 Glue.ty).rep w B [v0] x.Glues) (h1 : (Ty.slice 128 Tile.ty).rep w B [v1] x.Tiles) (k0 : (Ty.slice 123 Glue.ty).rep w B [u0] x.Glues) (k1 : (Ty.slice 128 Tile.ty).rep w B [u1] x.Tiles) :
    Calls Tryz.prog 37 #[.agg #[v0,v1],.agg #[u0,u1]] w fun e w' => e = .returned (.bool true) ∧ Below w.heap.size w w':=by
  go_enter Tryz.func37,Tryz.ntmps37
  go_upto_region 1 with fail
  refine zEe ?_;intro W1 hW _;have hz : Below w.heap.size w W1:=by rw [hW];go_grown
  have hb0:=zDs hW (zF3 _ _ _);have c0:=box2 hb0;have f0:=zK8 hb0;have B0:=Lib.hid hb0;clear hb0;have hb1:=zDs hW (zF2 _ _ _);have c1:=box2 hb1;have f1:=zK8 hb1;have B1:=Lib.hid hb1;clear hb1;have HW:=Lib.hid hW;clear hW;have hs0:=fun z : Ext W1 => zTc v0 u0 x.Glues (W1.to z) B (Nat.le_trans hB (zAq z hz).size) (Ty.rep_below _ h0 ((zAq z hz).mono hB)) (Ty.rep_below _ k0 ((zAq z hz).mono hB));have HS0:=Lib.hid hs0;clear hs0;have hs1:=fun z : Ext W1 => zS9 v1 u1 x.Tiles (W1.to z) B (Nat.le_trans hB (zAq z hz).size) (Ty.rep_below _ h1 ((zAq z hz).mono hB)) (Ty.rep_below _ k1 ((zAq z hz).mono hB));have HS1:=Lib.hid hs1;clear hs1;go_wp2_with fail
  first
    | (refine zBj (HS0.out _) ?_;intro y)
    | (refine zA0 (by kernel_rfl) (by kernel_rfl) ?_;repeat (go_big_quiet_step ((go_at_call 83;exact zCo (HS0.out _))));refine wpQuiet_nil ?_;rintro _ ⟨y,rfl⟩)
  go_wp2_with fail
  first
    | (refine zBj (HS1.out _) ?_;intro y)
    | (refine zA0 (by kernel_rfl) (by kernel_rfl) ?_;repeat (go_big_quiet_step ((go_at_call 84;exact zCo (HS1.out _))));refine wpQuiet_nil ?_;rintro _ ⟨y,rfl⟩)
  go_wp2_with fail
  go_ret;exact ⟨rfl,zAq _ hz⟩
structure Point where
  X : Int
  Y : Int
  deriving DecidableEq
def Point.ty : Ty Point:=Ty.via (Ty.prod (Ty.int .i64) (Ty.int .i64)) (fun x => (x.X,x.Y))
theorem Point.cells {w : World} {B : Nat} {cs : List Value} {x : Point} (h : Point.ty.rep w B cs x) : cs = [.int .i64 x.X,.int .i64 x.Y] ∧ InK .i64 x.X ∧ InK .i64 x.Y:=by obtain ⟨_,_,rfl,h0,h1⟩:=h;obtain ⟨rfl,i0⟩:=h0;obtain ⟨rfl,i1⟩:=h1;exact ⟨rfl,i0,i1⟩
theorem Point.parts {w : World} {B : Nat} {x : Point} (h : Point.ty.rep w B [.int .i64 x.X,.int .i64 x.Y] x) : InK .i64 x.X ∧ InK .i64 x.Y:=by obtain ⟨hh,r0,r1⟩:=Point.cells h;exact ⟨r0,r1⟩
theorem Point.rep_mk {w : World} {B : Nat} {x : Point} (h0 : InK .i64 x.X) (h1 : InK .i64 x.Y) : Point.ty.rep w B [.int .i64 x.X,.int .i64 x.Y] x :=
  ⟨_,_,rfl,⟨rfl,h0⟩,⟨rfl,h1⟩⟩
set_option maxRecDepth 10000 in
set_option maxHeartbeats 1000000 in
theorem zTa (x : Point) (w : World) :
    Calls Tryz.prog 135 #[.agg #[.int .i64 x.X,.int .i64 x.Y],.agg #[.int .i64 x.X,.int .i64 x.Y]] w fun e w' => e = .returned (.bool true) ∧ Below w.heap.size w w':=by
  go_enter Tryz.func135,Tryz.ntmps135
  go_upto_region 1 with fail
  refine zEe ?_;intro W1 hW _;have hz : Below w.heap.size w W1:=by rw [hW];go_grown
  have hb0:=zDs hW (zF3 _ _ _);have c0:=box2 hb0;have f0:=zK8 hb0;have B0:=Lib.hid hb0;clear hb0;have hb1:=zDs hW (zF2 _ _ _);have c1:=box2 hb1;have f1:=zK8 hb1;have B1:=Lib.hid hb1;clear hb1;have HW:=Lib.hid hW;clear hW;go_wp2_with fail;go_ret;exact ⟨rfl,zAq _ hz⟩
structure Placed where
  At : Point
  Tile : Int
  deriving DecidableEq
def Placed.ty : Ty Placed:=Ty.via (Ty.prod Point.ty (Ty.int .i64)) (fun x => (x.At,x.Tile))
theorem Placed.cells {w : World} {B : Nat} {cs : List Value} {x : Placed} (h : Placed.ty.rep w B cs x) : cs = [.int .i64 x.At.X,.int .i64 x.At.Y,.int .i64 x.Tile] ∧ InK .i64 x.At.X ∧ InK .i64 x.At.Y ∧ InK .i64 x.Tile:=by obtain ⟨_,_,rfl,h0,h1⟩:=h;obtain ⟨rfl,i0_0,i0_1⟩:=Point.cells h0;obtain ⟨rfl,i1⟩:=h1;exact ⟨rfl,i0_0,i0_1,i1⟩
theorem Placed.parts {w : World} {B : Nat} {x : Placed} (h : Placed.ty.rep w B [.int .i64 x.At.X,.int .i64 x.At.Y,.int .i64 x.Tile] x) : InK .i64 x.At.X ∧ InK .i64 x.At.Y ∧ InK .i64 x.Tile:=by obtain ⟨hh,r0,r1,r2⟩:=Placed.cells h;exact ⟨r0,r1,r2⟩
theorem Placed.rep_mk {w : World} {B : Nat} {x : Placed} (h0 : InK .i64 x.At.X) (h1 : InK .i64 x.At.Y) (h2 : InK .i64 x.Tile) : Placed.ty.rep w B [.int .i64 x.At.X,.int .i64 x.At.Y,.int .i64 x.Tile] x :=
  ⟨_,_,rfl,Point.rep_mk h0 h1,⟨rfl,h2⟩⟩
set_option maxRecDepth 10000 in
set_option maxHeartbeats 1000000 in
theorem zQ1 (x : Placed) (w : World) :
    Calls Tryz.prog 119 #[.agg #[.int .i64 x.At.X,.int .i64 x.At.Y,.int .i64 x.Tile],.agg #[.int .i64 x.At.X,.int .i64 x.At.Y,.int .i64 x.Tile]] w fun e w' => e = .returned (.bool true) ∧ Below w.heap.size w w':=by
  go_enter Tryz.func119,Tryz.ntmps119
  go_upto_region 1 with fail
  refine zEe ?_;intro W1 hW _;have hz : Below w.heap.size w W1:=by rw [hW];go_grown
  have hb0:=zDs hW (zF3 _ _ _);have c0:=box3 hb0;have f0:=zK8 hb0;have B0:=Lib.hid hb0;clear hb0;have hb1:=zDs hW (zF2 _ _ _);have c1:=box3 hb1;have f1:=zK8 hb1;have B1:=Lib.hid hb1;clear hb1;have HW:=Lib.hid hW;clear hW;have hs0:=fun z : Ext W1 => zTa x.At (W1.to z);have HS0:=Lib.hid hs0;clear hs0;go_wp2_with fail
  first
    | (refine zBj (HS0.out _) ?_;intro y)
    | (refine zA0 (by kernel_rfl) (by kernel_rfl) ?_;repeat (go_big_quiet_step ((go_at_call 135;exact zCo (HS0.out _))));refine wpQuiet_nil ?_;rintro _ ⟨y,rfl⟩)
  go_wp2_with fail
  go_ret;exact ⟨rfl,zAq _ hz⟩
set_option maxRecDepth 10000 in
set_option maxHeartbeats 1000000 in
theorem zPa (v1 v2 : Value) (xs : List Placed) (w : World) (B : Nat) (hB : B ≤ w.heap.size) (h1 : (Ty.slice 87 Placed.ty).rep w B [v1] xs) (h2 : (Ty.slice 87 Placed.ty).rep w B [v2] xs) :
    Calls Tryz.prog 85 #[v1,v2] w fun e w' => e = .returned (.bool true) ∧ Below w.heap.size w w':=by
  obtain ⟨a1,c1,rfl,_,hm1⟩:=Ty.form h1;obtain ⟨a2,c2,rfl,_,hm2⟩:=Ty.form h2;have hn : xs.length ≤ 9223372036854775807:=(by unfold maxLen at hm1;omega);clear hm1 hm2;refine zF0 ?_;intro x;go_enter Tryz.func85,Tryz.ntmps85;go_wp2
  go_loopw [5] (fun i wr => ∃ k : Nat,k ≤ xs.length ∧ i = .int .i64 k ∧ ∃ z : Ext w,wr = w.to z) (fun i _ => xs.length - (intOf i).toNat)
  case atStart => exact ⟨0,Nat.zero_le _,rfl,x,rfl⟩
  case round =>
    obtain ⟨k,hk,rfl,z,rfl⟩:=hrel;by_cases hlt : k < xs.length
    · obtain ⟨b1,o1,cs1,rfl,hb1,g1,e1⟩:=Ty.elem h1 hB k hlt;obtain ⟨rfl,_,_,_⟩:=Placed.cells e1;have d1_0 : ∀ z : Ext w,(w.to z).cell? ⟨b1,o1 + k * 3,none⟩ = some (.int .i64 xs[k].At.X):=g1 0 _ rfl;have d1_1 : ∀ z : Ext w,(w.to z).cell? ⟨b1,o1 + k * 3 + 1,none⟩ = some (.int .i64 xs[k].At.Y):=g1 1 _ rfl;have d1_2 : ∀ z : Ext w,(w.to z).cell? ⟨b1,o1 + k * 3 + 2,none⟩ = some (.int .i64 xs[k].Tile):=g1 2 _ rfl;clear g1;obtain ⟨b2,o2,cs2,rfl,hb2,g2,e2⟩:=Ty.elem h2 hB k hlt;obtain ⟨rfl,_,_,_⟩:=Placed.cells e2;have d2_0 : ∀ z : Ext w,(w.to z).cell? ⟨b2,o2 + k * 3,none⟩ = some (.int .i64 xs[k].At.X):=g2 0 _ rfl;have d2_1 : ∀ z : Ext w,(w.to z).cell? ⟨b2,o2 + k * 3 + 1,none⟩ = some (.int .i64 xs[k].At.Y):=g2 1 _ rfl;have d2_2 : ∀ z : Ext w,(w.to z).cell? ⟨b2,o2 + k * 3 + 2,none⟩ = some (.int .i64 xs[k].Tile):=g2 2 _ rfl;clear g2;have hs:=fun z : Ext w => zQ1 xs[k] (w.to z);have HS:=Lib.hid hs;clear hs;go_wp2_with fail;refine zA0 (by kernel_rfl) (by kernel_rfl) ?_
      repeat (go_big_quiet_step ((go_at_call 119;exact zCo (HS.out _))))
      refine wpQuiet_nil ?_;rintro _ ⟨y,rfl⟩;go_wp2_with fail
      go_roundw
      case rel => exact ⟨k + 1,by omega,by go_num,y,rfl⟩
      case measure => simp [intOf];omega
    · go_wp2_with fail
      go_ret;exact ⟨rfl,z.below⟩
structure Assembly where
  Tiles : List Placed
  deriving DecidableEq
def Assembly.ty : Ty Assembly:=Ty.via ((Ty.slice 87 Placed.ty)) (fun x => x.Tiles)
def Assembly.cnt (x : Assembly) : Nat:=x.Tiles.length
theorem Assembly.cells {w : World} {B : Nat} {cs : List Value} {x : Assembly} (h : Assembly.ty.rep w B cs x) : ∃ v0 : Value,cs = [v0] ∧ (Ty.slice 87 Placed.ty).rep w B [v0] x.Tiles:=by have h0 : (Ty.slice 87 Placed.ty).rep w B cs x.Tiles:=h;obtain ⟨u0,rfl⟩:=Ty.slice_one h0;exact ⟨_,rfl,h0⟩
theorem Assembly.parts {w : World} {B : Nat} {v0 : Value} {x : Assembly} (h : Assembly.ty.rep w B [v0] x) : (Ty.slice 87 Placed.ty).rep w B [v0] x.Tiles:=by obtain ⟨e0,hh,r0⟩:=Assembly.cells h;simp only [List.cons.injEq,and_true,true_and] at hh;subst hh;exact r0
theorem Assembly.rep_mk {w : World} {B : Nat} {v0 : Value} {x : Assembly} (h0 : (Ty.slice 87 Placed.ty).rep w B [v0] x.Tiles) : Assembly.ty.rep w B [v0] x :=
  h0
set_option maxRecDepth 10000 in
set_option maxHeartbeats 1000000 in
theorem zNk (v0 u0 : Value) (x : Assembly) (w : World) (B : Nat) (hB : B ≤ w.heap.size) (h0 : (Ty.slice 87 Placed.ty).rep w B [v0] x.Tiles) (k0 : (Ty.slice 87 Placed.ty).rep w B [u0] x.Tiles) :
    Calls Tryz.prog 38 #[.agg #[v0],.agg #[u0]] w fun e w' => e = .returned (.bool true) ∧ Below w.heap.size w w':=by
  go_enter Tryz.func38,Tryz.ntmps38
  go_upto_region 1 with fail
  refine zEe ?_;intro W1 hW _;have hz : Below w.heap.size w W1:=by rw [hW];go_grown
  have hb0:=zDs hW (zF3 _ _ _);have c0:=box1 hb0;have f0:=zK8 hb0;have B0:=Lib.hid hb0;clear hb0;have hb1:=zDs hW (zF2 _ _ _);have c1:=box1 hb1;have f1:=zK8 hb1;have B1:=Lib.hid hb1;clear hb1;have HW:=Lib.hid hW;clear hW;have hs0:=fun z : Ext W1 => zPa v0 u0 x.Tiles (W1.to z) B (Nat.le_trans hB (zAq z hz).size) (Ty.rep_below _ h0 ((zAq z hz).mono hB)) (Ty.rep_below _ k0 ((zAq z hz).mono hB));have HS0:=Lib.hid hs0;clear hs0;go_wp2_with fail
  first
    | (refine zBj (HS0.out _) ?_;intro y)
    | (refine zA0 (by kernel_rfl) (by kernel_rfl) ?_;repeat (go_big_quiet_step ((go_at_call 85;exact zCo (HS0.out _))));refine wpQuiet_nil ?_;rintro _ ⟨y,rfl⟩)
  go_wp2_with fail
  go_ret;exact ⟨rfl,zAq _ hz⟩
structure System where
  Set : TileSet
  Seed : Assembly
  Temperature : Int
  deriving DecidableEq
def System.ty : Ty System:=Ty.via (Ty.prod TileSet.ty (Ty.prod Assembly.ty (Ty.int .i64))) (fun x => (x.Set,x.Seed,x.Temperature))
def System.cnt (x : System) : Nat:=TileSet.cnt x.Set + Assembly.cnt x.Seed
theorem System.cells {w : World} {B : Nat} {cs : List Value} {x : System} (h : System.ty.rep w B cs x) : ∃ v0 v1 v2 : Value,cs = [v0,v1,v2,.int .i64 x.Temperature] ∧ (Ty.slice 123 Glue.ty).rep w B [v0] x.Set.Glues ∧ (Ty.slice 128 Tile.ty).rep w B [v1] x.Set.Tiles ∧ (Ty.slice 87 Placed.ty).rep w B [v2] x.Seed.Tiles ∧ InK .i64 x.Temperature:=by obtain ⟨_,_,rfl,h0,_,_,rfl,h1,h2⟩:=h;obtain ⟨u0_0,u0_1,rfl,i0_0,i0_1⟩:=TileSet.cells h0;obtain ⟨u1_0,rfl,i1_0⟩:=Assembly.cells h1;obtain ⟨rfl,i2⟩:=h2;exact ⟨_,_,_,rfl,i0_0,i0_1,i1_0,i2⟩
theorem System.parts {w : World} {B : Nat} {v0 v1 v2 : Value} {x : System} (h : System.ty.rep w B [v0,v1,v2,.int .i64 x.Temperature] x) : (Ty.slice 123 Glue.ty).rep w B [v0] x.Set.Glues ∧ (Ty.slice 128 Tile.ty).rep w B [v1] x.Set.Tiles ∧ (Ty.slice 87 Placed.ty).rep w B [v2] x.Seed.Tiles ∧ InK .i64 x.Temperature:=by obtain ⟨e0,e1,e2,hh,r0,r1,r2,r3⟩:=System.cells h;simp only [List.cons.injEq,and_true,true_and] at hh;obtain ⟨rfl,rfl,rfl⟩:=hh;exact ⟨r0,r1,r2,r3⟩
theorem System.rep_mk {w : World} {B : Nat} {v0 v1 v2 : Value} {x : System} (h0 : (Ty.slice 123 Glue.ty).rep w B [v0] x.Set.Glues) (h1 : (Ty.slice 128 Tile.ty).rep w B [v1] x.Set.Tiles) (h2 : (Ty.slice 87 Placed.ty).rep w B [v2] x.Seed.Tiles) (h3 : InK .i64 x.Temperature) : System.ty.rep w B [v0,v1,v2,.int .i64 x.Temperature] x :=
  ⟨_,_,rfl,TileSet.rep_mk h0 h1,_,_,rfl,Assembly.rep_mk h2,⟨rfl,h3⟩⟩
set_option maxRecDepth 10000 in
set_option maxHeartbeats 1000000 in
theorem zQ0 (v0 v1 v2 u0 u1 u2 : Value) (x : System) (w : World) (B : Nat) (hB : B ≤ w.heap.size) (h0 : (Ty.slice 123 Glue.ty).rep w B [v0] x.Set.Glues) (h1 : (Ty.slice 128 Tile.ty).rep w B [v1] x.Set.Tiles) (h2 : (Ty.slice 87 Placed.ty).rep w B [v2] x.Seed.Tiles) (k0 : (Ty.slice 123 Glue.ty).rep w B [u0] x.Set.Glues) (k1 : (Ty.slice 128 Tile.ty).rep w B [u1] x.Set.Tiles) (k2 : (Ty.slice 87 Placed.ty).rep w B [u2] x.Seed.Tiles) :
    Calls Tryz.prog 9 #[.agg #[v0,v1,v2,.int .i64 x.Temperature],.agg #[u0,u1,u2,.int .i64 x.Temperature]] w fun e w' => e = .returned (.bool true) ∧ Below w.heap.size w w':=by
  go_enter Tryz.func9,Tryz.ntmps9
  go_upto_region 1 with fail
  refine zEe ?_;intro W1 hW _;have hz : Below w.heap.size w W1:=by rw [hW];go_grown
  have hb0:=zDs hW (zF3 _ _ _);have c0:=box4 hb0;have f0:=zK8 hb0;have B0:=Lib.hid hb0;clear hb0;have hb1:=zDs hW (zF2 _ _ _);have c1:=box4 hb1;have f1:=zK8 hb1;have B1:=Lib.hid hb1;clear hb1;have HW:=Lib.hid hW;clear hW;have hs0:=fun z : Ext W1 => zO9 v0 v1 u0 u1 x.Set (W1.to z) B (Nat.le_trans hB (zAq z hz).size) (Ty.rep_below _ h0 ((zAq z hz).mono hB)) (Ty.rep_below _ h1 ((zAq z hz).mono hB)) (Ty.rep_below _ k0 ((zAq z hz).mono hB)) (Ty.rep_below _ k1 ((zAq z hz).mono hB));have HS0:=Lib.hid hs0;clear hs0;have hs1:=fun z : Ext W1 => zNk v2 u2 x.Seed (W1.to z) B (Nat.le_trans hB (zAq z hz).size) (Ty.rep_below _ h2 ((zAq z hz).mono hB)) (Ty.rep_below _ k2 ((zAq z hz).mono hB));have HS1:=Lib.hid hs1;clear hs1;go_wp2_with fail
  first
    | (refine zBj (HS0.out _) ?_;intro y)
    | (refine zA0 (by kernel_rfl) (by kernel_rfl) ?_;repeat (go_big_quiet_step ((go_at_call 37;exact zCo (HS0.out _))));refine wpQuiet_nil ?_;rintro _ ⟨y,rfl⟩)
  go_wp2_with fail
  first
    | (refine zBj (HS1.out _) ?_;intro y)
    | (refine zA0 (by kernel_rfl) (by kernel_rfl) ?_;repeat (go_big_quiet_step ((go_at_call 38;exact zCo (HS1.out _))));refine wpQuiet_nil ?_;rintro _ ⟨y,rfl⟩)
  go_wp2_with fail
  go_ret;exact ⟨rfl,zAq _ hz⟩
structure Piece where
  Color : Int
  North : Int
  East : Int
  South : Int
  West : Int
  deriving DecidableEq
def Piece.ty : Ty Piece:=Ty.via (Ty.prod (Ty.int .i64) (Ty.prod (Ty.int .i64) (Ty.prod (Ty.int .i64) (Ty.prod (Ty.int .i64) (Ty.int .i64))))) (fun x => (x.Color,x.North,x.East,x.South,x.West))
theorem Piece.cells {w : World} {B : Nat} {cs : List Value} {x : Piece} (h : Piece.ty.rep w B cs x) : cs = [.int .i64 x.Color,.int .i64 x.North,.int .i64 x.East,.int .i64 x.South,.int .i64 x.West] ∧ InK .i64 x.Color ∧ InK .i64 x.North ∧ InK .i64 x.East ∧ InK .i64 x.South ∧ InK .i64 x.West:=by obtain ⟨_,_,rfl,h0,_,_,rfl,h1,_,_,rfl,h2,_,_,rfl,h3,h4⟩:=h;obtain ⟨rfl,i0⟩:=h0;obtain ⟨rfl,i1⟩:=h1;obtain ⟨rfl,i2⟩:=h2;obtain ⟨rfl,i3⟩:=h3;obtain ⟨rfl,i4⟩:=h4;exact ⟨rfl,i0,i1,i2,i3,i4⟩
theorem Piece.parts {w : World} {B : Nat} {x : Piece} (h : Piece.ty.rep w B [.int .i64 x.Color,.int .i64 x.North,.int .i64 x.East,.int .i64 x.South,.int .i64 x.West] x) : InK .i64 x.Color ∧ InK .i64 x.North ∧ InK .i64 x.East ∧ InK .i64 x.South ∧ InK .i64 x.West:=by obtain ⟨hh,r0,r1,r2,r3,r4⟩:=Piece.cells h;exact ⟨r0,r1,r2,r3,r4⟩
theorem Piece.rep_mk {w : World} {B : Nat} {x : Piece} (h0 : InK .i64 x.Color) (h1 : InK .i64 x.North) (h2 : InK .i64 x.East) (h3 : InK .i64 x.South) (h4 : InK .i64 x.West) : Piece.ty.rep w B [.int .i64 x.Color,.int .i64 x.North,.int .i64 x.East,.int .i64 x.South,.int .i64 x.West] x :=
  ⟨_,_,rfl,⟨rfl,h0⟩,_,_,rfl,⟨rfl,h1⟩,_,_,rfl,⟨rfl,h2⟩,_,_,rfl,⟨rfl,h3⟩,⟨rfl,h4⟩⟩
set_option maxRecDepth 100000 in
theorem Piece.reads : Reads Tryz.prog 130 Piece.ty :=
  zQf (t:=(Ty.prod (Ty.int .i64) (Ty.prod (Ty.int .i64) (Ty.prod (Ty.int .i64) (Ty.prod (Ty.int .i64) (Ty.int .i64)))))) (fun x : Piece => (x.Color,x.North,x.East,x.South,x.West)) (fun y => ⟨y.1,y.2.1,y.2.2.1,y.2.2.2.1,y.2.2.2.2⟩) (fun _ => rfl) (zKi Tryz.underlying130 (by kernel_rfl) (zHf rfl (zEr Tryz.underlying2 (by kernel_rfl)) (zHf rfl (zEr Tryz.underlying2 (by kernel_rfl)) (zHf rfl (zEr Tryz.underlying2 (by kernel_rfl)) (zHf rfl (zEr Tryz.underlying2 (by kernel_rfl)) (fld_one rfl (zEr Tryz.underlying2 (by kernel_rfl))))))))
set_option maxRecDepth 10000 in
set_option maxHeartbeats 1000000 in
theorem zTb (x : Piece) (w : World) :
    Calls Tryz.prog 86 #[.agg #[.int .i64 x.Color,.int .i64 x.North,.int .i64 x.East,.int .i64 x.South,.int .i64 x.West],.agg #[.int .i64 x.Color,.int .i64 x.North,.int .i64 x.East,.int .i64 x.South,.int .i64 x.West]] w fun e w' => e = .returned (.bool true) ∧ Below w.heap.size w w':=by
  go_enter Tryz.func86,Tryz.ntmps86
  go_upto_region 1 with fail
  refine zEe ?_;intro W1 hW _;have hz : Below w.heap.size w W1:=by rw [hW];go_grown
  have hb0:=zDs hW (zF3 _ _ _);have c0:=box5 hb0;have f0:=zK8 hb0;have B0:=Lib.hid hb0;clear hb0;have hb1:=zDs hW (zF2 _ _ _);have c1:=box5 hb1;have f1:=zK8 hb1;have B1:=Lib.hid hb1;clear hb1;have HW:=Lib.hid hW;clear hW;go_wp2_with fail;go_ret;exact ⟨rfl,zAq _ hz⟩
set_option maxRecDepth 10000 in
set_option maxHeartbeats 1000000 in
theorem zQ2 (v1 v2 : Value) (xs : List Piece) (w : World) (B : Nat) (hB : B ≤ w.heap.size) (h1 : (Ty.slice 78 Piece.ty).rep w B [v1] xs) (h2 : (Ty.slice 78 Piece.ty).rep w B [v2] xs) :
    Calls Tryz.prog 39 #[v1,v2] w fun e w' => e = .returned (.bool true) ∧ Below w.heap.size w w':=by
  obtain ⟨a1,c1,rfl,_,hm1⟩:=Ty.form h1;obtain ⟨a2,c2,rfl,_,hm2⟩:=Ty.form h2;have hn : xs.length ≤ 9223372036854775807:=(by unfold maxLen at hm1;omega);clear hm1 hm2;refine zF0 ?_;intro x;go_enter Tryz.func39,Tryz.ntmps39;go_wp2
  go_loopw [5] (fun i wr => ∃ k : Nat,k ≤ xs.length ∧ i = .int .i64 k ∧ ∃ z : Ext w,wr = w.to z) (fun i _ => xs.length - (intOf i).toNat)
  case atStart => exact ⟨0,Nat.zero_le _,rfl,x,rfl⟩
  case round =>
    obtain ⟨k,hk,rfl,z,rfl⟩:=hrel;by_cases hlt : k < xs.length
    · obtain ⟨b1,o1,cs1,rfl,hb1,g1,e1⟩:=Ty.elem h1 hB k hlt;obtain ⟨rfl,_,_,_,_,_⟩:=Piece.cells e1;have d1_0 : ∀ z : Ext w,(w.to z).cell? ⟨b1,o1 + k * 5,none⟩ = some (.int .i64 xs[k].Color):=g1 0 _ rfl;have d1_1 : ∀ z : Ext w,(w.to z).cell? ⟨b1,o1 + k * 5 + 1,none⟩ = some (.int .i64 xs[k].North):=g1 1 _ rfl;have d1_2 : ∀ z : Ext w,(w.to z).cell? ⟨b1,o1 + k * 5 + 2,none⟩ = some (.int .i64 xs[k].East):=g1 2 _ rfl;have d1_3 : ∀ z : Ext w,(w.to z).cell? ⟨b1,o1 + k * 5 + 3,none⟩ = some (.int .i64 xs[k].South):=g1 3 _ rfl;have d1_4 : ∀ z : Ext w,(w.to z).cell? ⟨b1,o1 + k * 5 + 4,none⟩ = some (.int .i64 xs[k].West):=g1 4 _ rfl;clear g1;obtain ⟨b2,o2,cs2,rfl,hb2,g2,e2⟩:=Ty.elem h2 hB k hlt;obtain ⟨rfl,_,_,_,_,_⟩:=Piece.cells e2;have d2_0 : ∀ z : Ext w,(w.to z).cell? ⟨b2,o2 + k * 5,none⟩ = some (.int .i64 xs[k].Color):=g2 0 _ rfl;have d2_1 : ∀ z : Ext w,(w.to z).cell? ⟨b2,o2 + k * 5 + 1,none⟩ = some (.int .i64 xs[k].North):=g2 1 _ rfl;have d2_2 : ∀ z : Ext w,(w.to z).cell? ⟨b2,o2 + k * 5 + 2,none⟩ = some (.int .i64 xs[k].East):=g2 2 _ rfl;have d2_3 : ∀ z : Ext w,(w.to z).cell? ⟨b2,o2 + k * 5 + 3,none⟩ = some (.int .i64 xs[k].South):=g2 3 _ rfl;have d2_4 : ∀ z : Ext w,(w.to z).cell? ⟨b2,o2 + k * 5 + 4,none⟩ = some (.int .i64 xs[k].West):=g2 4 _ rfl;clear g2;have hs:=fun z : Ext w => zTb xs[k] (w.to z);have HS:=Lib.hid hs;clear hs;go_wp2_with fail;refine zA0 (by kernel_rfl) (by kernel_rfl) ?_
      repeat (go_big_quiet_step ((go_at_call 86;exact zCo (HS.out _))))
      refine wpQuiet_nil ?_;rintro _ ⟨y,rfl⟩;go_wp2_with fail
      go_roundw
      case rel => exact ⟨k + 1,by omega,by go_num,y,rfl⟩
      case measure => simp [intOf];omega
    · go_wp2_with fail
      go_ret;exact ⟨rfl,z.below⟩
set_option maxRecDepth 10000 in
set_option maxHeartbeats 1000000 in
theorem zKg (v : Value) (xs : List Piece) (l : Int) (hl0 : 0 ≤ l) (hl1 : l ≤ 1048576) (w : World) (B : Nat) (hB : B ≤ w.heap.size) (h : (Ty.slice 78 Piece.ty).rep w B [v] xs) :
    Calls Tryz.prog 24 #[v,.int .i64 l] w fun e w' => e = .returned (.int .i64 (szR l (xs.length))) ∧ Below w.heap.size w w':=by
  have _:=hB;obtain ⟨a,c,rfl,hc,hm⟩:=Ty.form h;have hn : xs.length ≤ 9223372036854775807:=(by unfold maxLen at hm;omega);clear hm;by_cases g : (xs.length : Int) ≤ l
  · rw [zHk g];go_enter Tryz.func24,Tryz.ntmps24;go_wp2;go_ret;exact ⟨rfl,by go_grown⟩
  · rw [zId g];go_enter Tryz.func24,Tryz.ntmps24;go_wp2;go_ret;exact ⟨rfl,by go_grown⟩
structure Design where
  Bottom : List Int
  Left : List Int
  Pieces : List Piece
  deriving DecidableEq
def Design.ty : Ty Design:=Ty.via (Ty.prod (Ty.slice 2 (Ty.int .i64)) (Ty.prod (Ty.slice 2 (Ty.int .i64)) (Ty.slice 78 Piece.ty))) (fun x => (x.Bottom,x.Left,x.Pieces))
def Design.cnt (x : Design) : Nat:=x.Bottom.length + x.Left.length + x.Pieces.length
theorem Design.cells {w : World} {B : Nat} {cs : List Value} {x : Design} (h : Design.ty.rep w B cs x) : ∃ v0 v1 v2 : Value,cs = [v0,v1,v2] ∧ (Ty.slice 2 (Ty.int .i64)).rep w B [v0] x.Bottom ∧ (Ty.slice 2 (Ty.int .i64)).rep w B [v1] x.Left ∧ (Ty.slice 78 Piece.ty).rep w B [v2] x.Pieces:=by obtain ⟨_,_,rfl,h0,_,_,rfl,h1,h2⟩:=h;obtain ⟨u0,rfl⟩:=Ty.slice_one h0;obtain ⟨u1,rfl⟩:=Ty.slice_one h1;obtain ⟨u2,rfl⟩:=Ty.slice_one h2;exact ⟨_,_,_,rfl,h0,h1,h2⟩
theorem Design.parts {w : World} {B : Nat} {v0 v1 v2 : Value} {x : Design} (h : Design.ty.rep w B [v0,v1,v2] x) : (Ty.slice 2 (Ty.int .i64)).rep w B [v0] x.Bottom ∧ (Ty.slice 2 (Ty.int .i64)).rep w B [v1] x.Left ∧ (Ty.slice 78 Piece.ty).rep w B [v2] x.Pieces:=by obtain ⟨e0,e1,e2,hh,r0,r1,r2⟩:=Design.cells h;simp only [List.cons.injEq,and_true,true_and] at hh;obtain ⟨rfl,rfl,rfl⟩:=hh;exact ⟨r0,r1,r2⟩
theorem Design.rep_mk {w : World} {B : Nat} {v0 v1 v2 : Value} {x : Design} (h0 : (Ty.slice 2 (Ty.int .i64)).rep w B [v0] x.Bottom) (h1 : (Ty.slice 2 (Ty.int .i64)).rep w B [v1] x.Left) (h2 : (Ty.slice 78 Piece.ty).rep w B [v2] x.Pieces) : Design.ty.rep w B [v0,v1,v2] x :=
  ⟨_,_,rfl,h0,_,_,rfl,h1,h2⟩
set_option maxRecDepth 100000 in
theorem Design.reads : Reads Tryz.prog 25 Design.ty :=
  zQf (t:=(Ty.prod (Ty.slice 2 (Ty.int .i64)) (Ty.prod (Ty.slice 2 (Ty.int .i64)) (Ty.slice 78 Piece.ty)))) (fun x : Design => (x.Bottom,x.Left,x.Pieces)) (fun y => ⟨y.1,y.2.1,y.2.2⟩) (fun _ => rfl) (zKi Tryz.underlying25 (by kernel_rfl) (zHf rfl (zHr Tryz.underlying22 (by kernel_rfl) (by decide) (zEr Tryz.underlying2 (by kernel_rfl))) (zHf rfl (zHr Tryz.underlying22 (by kernel_rfl) (by decide) (zEr Tryz.underlying2 (by kernel_rfl))) (fld_one rfl (zHr Tryz.underlying23 (by kernel_rfl) (by decide) (Piece.reads))))))
set_option maxRecDepth 10000 in
set_option maxHeartbeats 1000000 in
theorem zQ3 (v0 v1 v2 u0 u1 u2 : Value) (x : Design) (w : World) (B : Nat) (hB : B ≤ w.heap.size) (h0 : (Ty.slice 2 (Ty.int .i64)).rep w B [v0] x.Bottom) (h1 : (Ty.slice 2 (Ty.int .i64)).rep w B [v1] x.Left) (h2 : (Ty.slice 78 Piece.ty).rep w B [v2] x.Pieces) (k0 : (Ty.slice 2 (Ty.int .i64)).rep w B [u0] x.Bottom) (k1 : (Ty.slice 2 (Ty.int .i64)).rep w B [u1] x.Left) (k2 : (Ty.slice 78 Piece.ty).rep w B [u2] x.Pieces) :
    Calls Tryz.prog 10 #[.agg #[v0,v1,v2],.agg #[u0,u1,u2]] w fun e w' => e = .returned (.bool true) ∧ Below w.heap.size w w':=by
  go_enter Tryz.func10,Tryz.ntmps10
  go_upto_region 1 with fail
  refine zEe ?_;intro W1 hW _;have hz : Below w.heap.size w W1:=by rw [hW];go_grown
  have hb0:=zDs hW (zF3 _ _ _);have c0:=box3 hb0;have f0:=zK8 hb0;have B0:=Lib.hid hb0;clear hb0;have hb1:=zDs hW (zF2 _ _ _);have c1:=box3 hb1;have f1:=zK8 hb1;have B1:=Lib.hid hb1;clear hb1;have HW:=Lib.hid hW;clear hW;have hs0:=fun z : Ext W1 => zG0 v0 u0 x.Bottom (W1.to z) B (Nat.le_trans hB (zAq z hz).size) (Ty.rep_below _ h0 ((zAq z hz).mono hB)) (Ty.rep_below _ k0 ((zAq z hz).mono hB));have HS0:=Lib.hid hs0;clear hs0;have hs1:=fun z : Ext W1 => zG0 v1 u1 x.Left (W1.to z) B (Nat.le_trans hB (zAq z hz).size) (Ty.rep_below _ h1 ((zAq z hz).mono hB)) (Ty.rep_below _ k1 ((zAq z hz).mono hB));have HS1:=Lib.hid hs1;clear hs1;have hs2:=fun z : Ext W1 => zQ2 v2 u2 x.Pieces (W1.to z) B (Nat.le_trans hB (zAq z hz).size) (Ty.rep_below _ h2 ((zAq z hz).mono hB)) (Ty.rep_below _ k2 ((zAq z hz).mono hB));have HS2:=Lib.hid hs2;clear hs2;go_wp2_with fail
  first
    | (refine zBj (HS0.out _) ?_;intro y)
    | (refine zA0 (by kernel_rfl) (by kernel_rfl) ?_;repeat (go_big_quiet_step ((go_at_call 20;exact zCo (HS0.out _))));refine wpQuiet_nil ?_;rintro _ ⟨y,rfl⟩)
  go_wp2_with fail
  first
    | (refine zBj (HS1.out _) ?_;intro y)
    | (refine zA0 (by kernel_rfl) (by kernel_rfl) ?_;repeat (go_big_quiet_step ((go_at_call 20;exact zCo (HS1.out _))));refine wpQuiet_nil ?_;rintro _ ⟨y,rfl⟩)
  go_wp2_with fail
  first
    | (refine zBj (HS2.out _) ?_;intro y)
    | (refine zA0 (by kernel_rfl) (by kernel_rfl) ?_;repeat (go_big_quiet_step ((go_at_call 39;exact zCo (HS2.out _))));refine wpQuiet_nil ?_;rintro _ ⟨y,rfl⟩)
  go_wp2_with fail
  go_ret;exact ⟨rfl,zAq _ hz⟩
set_option maxRecDepth 10000 in
set_option maxHeartbeats 1000000 in
theorem zP3 (v0 v1 v2 : Value) (q : Design) (l : Int) (hl0 : 0 ≤ l) (hl1 : l ≤ 1048576) (w : World) (B : Nat) (hB : B ≤ w.heap.size) (h0 : (Ty.slice 2 (Ty.int .i64)).rep w B [v0] q.Bottom) (h1 : (Ty.slice 2 (Ty.int .i64)).rep w B [v1] q.Left) (h2 : (Ty.slice 78 Piece.ty).rep w B [v2] q.Pieces) :
    Calls Tryz.prog 5 #[.agg #[v0,v1,v2],.int .i64 l] w fun e w' => e = .returned (.int .i64 (szR l (Design.cnt q))) ∧ Below w.heap.size w w':=by
  by_cases g0 : ((q.Bottom.length : Nat) : Int) ≤ l
  · by_cases g1 : ((q.Left.length : Nat) : Int) ≤ l - (q.Bottom.length : Nat)
    · by_cases g2 : ((q.Pieces.length : Nat) : Int) ≤ l - (q.Bottom.length : Nat) - (q.Left.length : Nat)
      · go_enter Tryz.func5,Tryz.ntmps5
        go_upto_region 1 with fail
        refine zEe ?_;intro W1 hW _;have hz : Below w.heap.size w W1:=by rw [hW];go_grown
        have hb0:=zDs hW (zEs _ _);have c0:=box3 hb0;have f0:=zK8 hb0;have B0:=Lib.hid hb0;clear hb0;have HW:=Lib.hid hW;clear hW;have hs0:=fun z : Ext W1 => zCz v0 q.Bottom (l) (by omega) (by omega) (W1.to z) B (Nat.le_trans hB (zAq z hz).size) (Ty.rep_below _ h0 ((zAq z hz).mono hB));simp only [zHk g0] at hs0;have HS0:=Lib.hid hs0;clear hs0;have hs1:=fun z : Ext W1 => zCz v1 q.Left (l - (q.Bottom.length : Nat)) (by omega) (by omega) (W1.to z) B (Nat.le_trans hB (zAq z hz).size) (Ty.rep_below _ h1 ((zAq z hz).mono hB));simp only [zHk g1] at hs1;have HS1:=Lib.hid hs1;clear hs1;have hs2:=fun z : Ext W1 => zKg v2 q.Pieces (l - (q.Bottom.length : Nat) - (q.Left.length : Nat)) (by omega) (by omega) (W1.to z) B (Nat.le_trans hB (zAq z hz).size) (Ty.rep_below _ h2 ((zAq z hz).mono hB));simp only [zHk g2] at hs2;have HS2:=Lib.hid hs2;clear hs2;go_wp2_with fail;refine zBj (HS0.out _) ?_;intro y;go_wp2_with fail;refine zBj (HS1.out _) ?_;intro y;go_wp2_with fail;refine zBj (HS2.out _) ?_;intro y;go_wp2_with fail;go_ret;exact ⟨by rw [zHk (by unfold Design.cnt;omega)];unfold Design.cnt;go_num,zAq _ hz⟩
      · go_enter Tryz.func5,Tryz.ntmps5
        go_upto_region 1 with fail
        refine zEe ?_;intro W1 hW _;have hz : Below w.heap.size w W1:=by rw [hW];go_grown
        have hb0:=zDs hW (zEs _ _);have c0:=box3 hb0;have f0:=zK8 hb0;have B0:=Lib.hid hb0;clear hb0;have HW:=Lib.hid hW;clear hW;have hs0:=fun z : Ext W1 => zCz v0 q.Bottom (l) (by omega) (by omega) (W1.to z) B (Nat.le_trans hB (zAq z hz).size) (Ty.rep_below _ h0 ((zAq z hz).mono hB));simp only [zHk g0] at hs0;have HS0:=Lib.hid hs0;clear hs0;have hs1:=fun z : Ext W1 => zCz v1 q.Left (l - (q.Bottom.length : Nat)) (by omega) (by omega) (W1.to z) B (Nat.le_trans hB (zAq z hz).size) (Ty.rep_below _ h1 ((zAq z hz).mono hB));simp only [zHk g1] at hs1;have HS1:=Lib.hid hs1;clear hs1;have hs2:=fun z : Ext W1 => zKg v2 q.Pieces (l - (q.Bottom.length : Nat) - (q.Left.length : Nat)) (by omega) (by omega) (W1.to z) B (Nat.le_trans hB (zAq z hz).size) (Ty.rep_below _ h2 ((zAq z hz).mono hB));simp only [zId g2] at hs2;have HS2:=Lib.hid hs2;clear hs2;go_wp2_with fail;refine zBj (HS0.out _) ?_;intro y;go_wp2_with fail;refine zBj (HS1.out _) ?_;intro y;go_wp2_with fail;refine zBj (HS2.out _) ?_;intro y;go_wp2_with fail;go_ret;exact ⟨by rw [zId (by unfold Design.cnt;omega)];rfl,zAq _ hz⟩
    · go_enter Tryz.func5,Tryz.ntmps5
      go_upto_region 1 with fail
      refine zEe ?_;intro W1 hW _;have hz : Below w.heap.size w W1:=by rw [hW];go_grown
      have hb0:=zDs hW (zEs _ _);have c0:=box3 hb0;have f0:=zK8 hb0;have B0:=Lib.hid hb0;clear hb0;have HW:=Lib.hid hW;clear hW;have hs0:=fun z : Ext W1 => zCz v0 q.Bottom (l) (by omega) (by omega) (W1.to z) B (Nat.le_trans hB (zAq z hz).size) (Ty.rep_below _ h0 ((zAq z hz).mono hB));simp only [zHk g0] at hs0;have HS0:=Lib.hid hs0;clear hs0;have hs1:=fun z : Ext W1 => zCz v1 q.Left (l - (q.Bottom.length : Nat)) (by omega) (by omega) (W1.to z) B (Nat.le_trans hB (zAq z hz).size) (Ty.rep_below _ h1 ((zAq z hz).mono hB));simp only [zId g1] at hs1;have HS1:=Lib.hid hs1;clear hs1;go_wp2_with fail;refine zBj (HS0.out _) ?_;intro y;go_wp2_with fail;refine zBj (HS1.out _) ?_;intro y;go_wp2_with fail;go_ret;exact ⟨by rw [zId (by unfold Design.cnt;omega)];rfl,zAq _ hz⟩
  · go_enter Tryz.func5,Tryz.ntmps5
    go_upto_region 1 with fail
    refine zEe ?_;intro W1 hW _;have hz : Below w.heap.size w W1:=by rw [hW];go_grown
    have hb0:=zDs hW (zEs _ _);have c0:=box3 hb0;have f0:=zK8 hb0;have B0:=Lib.hid hb0;clear hb0;have HW:=Lib.hid hW;clear hW;have hs0:=fun z : Ext W1 => zCz v0 q.Bottom (l) (by omega) (by omega) (W1.to z) B (Nat.le_trans hB (zAq z hz).size) (Ty.rep_below _ h0 ((zAq z hz).mono hB));simp only [zId g0] at hs0;have HS0:=Lib.hid hs0;clear hs0;go_wp2_with fail;refine zBj (HS0.out _) ?_;intro y;go_wp2_with fail;go_ret;exact ⟨by rw [zId (by unfold Design.cnt;omega)];rfl,zAq _ hz⟩
end Go.Proofs.YtdjjffhlplchjaaGreatDoor
