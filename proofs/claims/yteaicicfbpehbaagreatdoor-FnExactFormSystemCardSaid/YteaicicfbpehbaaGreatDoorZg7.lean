/- Laws that the proof stands on. -/
import Derived.Test.YteaicicfbpehbaaGreatDoorRows
import Derived.Test.YteaicicfbpehbaaGreatDoorZLib
import Derived.Test.YteaicicfbpehbaaGreatDoorZg6
import Derived.Test.YteaicicfbpehbaaGreatDoorZMark
set_option linter.all false
namespace Go.Proofs.YteaicicfbpehbaaGreatDoor
open Go.RowKit Go.ChangeShapes Go.WideShapes Go.ChangeAt
structure Glue where
  Name:ByteArray
  Strength:Int
  deriving DecidableEq
def Glue.ty:Ty Glue:=Ty.via (Ty.prod Ty.str (Ty.int .i64)) (fun x=>(x.Name,x.Strength))
def Glue.cnt (x:Glue):Nat:=x.Name.size
theorem Glue.cells {w:World} {B:Nat} {cs:List Value} {x:Glue} (h:Glue.ty.rep w B cs x):cs=[.string x.Name,.int .i64 x.Strength]∧x.Name.size≤maxLen∧InK .i64 x.Strength:=by obtain ⟨_,_,rfl,h0,h1⟩:=h;obtain ⟨rfl,i0⟩:=h0;obtain ⟨rfl,i1⟩:=h1;exact ⟨rfl,i0,i1⟩
theorem Glue.parts {w:World} {B:Nat} {x:Glue} (h:Glue.ty.rep w B [.string x.Name,.int .i64 x.Strength] x):x.Name.size≤maxLen∧InK .i64 x.Strength:=by obtain ⟨hh,r0,r1⟩:=Glue.cells h;exact ⟨r0,r1⟩
theorem Glue.rep_mk {w:World} {B:Nat} {x:Glue} (h0:x.Name.size≤maxLen) (h1:InK .i64 x.Strength):Glue.ty.rep w B [.string x.Name,.int .i64 x.Strength] x :=
  ⟨_,_,rfl,⟨rfl,h0⟩,⟨rfl,h1⟩⟩
set_option maxRecDepth 10000 in
set_option maxHeartbeats 1000000 in
theorem zXw (x:Glue) (w:World) :
    Calls Tryz.prog 91 #[.agg #[.string x.Name,.int .i64 x.Strength],.agg #[.string x.Name,.int .i64 x.Strength]] w fun e w'=>e=.returned (.bool true)∧Below w.heap.size w w':=by
  go_enter Tryz.func91,Tryz.ntmps91
  go_upto_region 1 with fail
  refine zE3 ?_;intro W1 hW _;have hz:Below w.heap.size w W1:=by rw [hW];go_grown
  have hb0:=zD3 hW (zGb _ _ _);have c0:=yCm hb0;have f0:=zL3 hb0;have B0:=Lib.hid hb0;clear hb0;have hb1:=zD3 hW (zGa _ _ _);have c1:=yCm hb1;have f1:=zL3 hb1;have B1:=Lib.hid hb1;clear hb1;have HW:=Lib.hid hW;clear hW;go_wp2_with fail;go_ret;exact ⟨rfl,zAz _ hz⟩
set_option maxRecDepth 10000 in
set_option maxHeartbeats 1000000 in
theorem zT0 (v1 v2:Value) (xs:List Glue) (w:World) (B:Nat) (hB:B≤w.heap.size) (h1:(Ty.slice 121 Glue.ty).rep w B [v1] xs) (h2:(Ty.slice 121 Glue.ty).rep w B [v2] xs) :
    Calls Tryz.prog 62 #[v1,v2] w fun e w'=>e=.returned (.bool true)∧Below w.heap.size w w':=by
  obtain ⟨a1,c1,rfl,_,hm1⟩:=Ty.form h1;obtain ⟨a2,c2,rfl,_,hm2⟩:=Ty.form h2;have hn:xs.length≤9223372036854775807:=(by unfold maxLen at hm1;omega);clear hm1 hm2;refine zE2 ?_;intro x;go_enter Tryz.func62,Tryz.ntmps62;go_wp2
  go_loopw [5] (fun i wr=>∃ k:Nat,k≤xs.length∧i=.int .i64 k∧∃ z:Ext w,wr=w.to z) (fun i _=>xs.length - (intOf i).toNat)
  case atStart=>exact ⟨0,Nat.zero_le _,rfl,x,rfl⟩
  case round =>
    obtain ⟨k,hk,rfl,z,rfl⟩:=hrel;by_cases hlt:k < xs.length
    · obtain ⟨b1,o1,cs1,rfl,hb1,g1,e1⟩:=Ty.elem h1 hB k hlt;obtain ⟨rfl,_,_⟩:=Glue.cells e1;have d1_0:∀ z:Ext w,(w.to z).cell? ⟨b1,o1+k*2,none⟩=some (.string xs[k].Name):=g1 0 _ rfl;have d1_1:∀ z:Ext w,(w.to z).cell? ⟨b1,o1+k*2+1,none⟩=some (.int .i64 xs[k].Strength):=g1 1 _ rfl;clear g1;obtain ⟨b2,o2,cs2,rfl,hb2,g2,e2⟩:=Ty.elem h2 hB k hlt;obtain ⟨rfl,_,_⟩:=Glue.cells e2;have d2_0:∀ z:Ext w,(w.to z).cell? ⟨b2,o2+k*2,none⟩=some (.string xs[k].Name):=g2 0 _ rfl;have d2_1:∀ z:Ext w,(w.to z).cell? ⟨b2,o2+k*2+1,none⟩=some (.int .i64 xs[k].Strength):=g2 1 _ rfl;clear g2;have hs:=fun z:Ext w=>zXw xs[k] (w.to z);have HS:=Lib.hid hs;clear hs;go_wp2_with fail;refine zBb (by kernel_rfl) (by kernel_rfl) ?_
      repeat (go_big_quiet_step ((go_at_call 91;exact zCq (HS.out _))))
      refine wpQuiet_nil ?_;rintro _ ⟨y,rfl⟩;go_wp2_with fail
      go_roundw
      case rel=>exact ⟨k+1,by omega,by go_num,y,rfl⟩
      case measure=>simp [intOf];omega
    · go_wp2_with fail
      go_ret;exact ⟨rfl,z.below⟩
structure Tile where
  Name:ByteArray
  Sides:List Int
  deriving DecidableEq
def Tile.ty:Ty Tile:=Ty.via (Ty.prod Ty.str (Ty.slice 2 (Ty.int .i64))) (fun x=>(x.Name,x.Sides))
def Tile.cnt (x:Tile):Nat:=x.Name.size+x.Sides.length
theorem Tile.cells {w:World} {B:Nat} {cs:List Value} {x:Tile} (h:Tile.ty.rep w B cs x):∃ v0:Value,cs=[.string x.Name,v0]∧x.Name.size≤maxLen∧(Ty.slice 2 (Ty.int .i64)).rep w B [v0] x.Sides:=by obtain ⟨_,_,rfl,h0,h1⟩:=h;obtain ⟨rfl,i0⟩:=h0;obtain ⟨u1,rfl⟩:=Ty.slice_one h1;exact ⟨_,rfl,i0,h1⟩
theorem Tile.parts {w:World} {B:Nat} {v0:Value} {x:Tile} (h:Tile.ty.rep w B [.string x.Name,v0] x):x.Name.size≤maxLen∧(Ty.slice 2 (Ty.int .i64)).rep w B [v0] x.Sides:=by obtain ⟨e0,hh,r0,r1⟩:=Tile.cells h;simp only [List.cons.injEq,and_true,true_and] at hh;subst hh;exact ⟨r0,r1⟩
theorem Tile.rep_mk {w:World} {B:Nat} {v0:Value} {x:Tile} (h0:x.Name.size≤maxLen) (h1:(Ty.slice 2 (Ty.int .i64)).rep w B [v0] x.Sides):Tile.ty.rep w B [.string x.Name,v0] x :=
  ⟨_,_,rfl,⟨rfl,h0⟩,h1⟩
set_option maxRecDepth 10000 in
set_option maxHeartbeats 1000000 in
theorem zXv (v0 u0:Value) (x:Tile) (w:World) (B:Nat) (hB:B≤w.heap.size) (h0:(Ty.slice 2 (Ty.int .i64)).rep w B [v0] x.Sides) (k0:(Ty.slice 2 (Ty.int .i64)).rep w B [u0] x.Sides) :
    Calls Tryz.prog 92 #[.agg #[.string x.Name,v0],.agg #[.string x.Name,u0]] w fun e w'=>e=.returned (.bool true)∧Below w.heap.size w w':=by
  go_enter Tryz.func92,Tryz.ntmps92
  go_upto_region 1 with fail
  refine zE3 ?_;intro W1 hW _;have hz:Below w.heap.size w W1:=by rw [hW];go_grown
  have hb0:=zD3 hW (zGb _ _ _);have c0:=yCm hb0;have f0:=zL3 hb0;have B0:=Lib.hid hb0;clear hb0;have hb1:=zD3 hW (zGa _ _ _);have c1:=yCm hb1;have f1:=zL3 hb1;have B1:=Lib.hid hb1;clear hb1;have HW:=Lib.hid hW;clear hW;have hs0:=fun z:Ext W1=>zHc v0 u0 x.Sides (W1.to z) B (Nat.le_trans hB (zAz z hz).size) (Ty.rep_below _ h0 ((zAz z hz).mono hB)) (Ty.rep_below _ k0 ((zAz z hz).mono hB));have HS0:=Lib.hid hs0;clear hs0;go_wp2_with fail
  first
    | (refine zB3 (HS0.out _) ?_;intro y)
    | (refine zBb (by kernel_rfl) (by kernel_rfl) ?_;repeat (go_big_quiet_step ((go_at_call 11;exact zCq (HS0.out _))));refine wpQuiet_nil ?_;rintro _ ⟨y,rfl⟩)
  go_wp2_with fail
  go_ret;exact ⟨rfl,zAz _ hz⟩
set_option maxRecDepth 10000 in
set_option maxHeartbeats 1000000 in
theorem zTy (v1 v2:Value) (xs:List Tile) (w:World) (B:Nat) (hB:B≤w.heap.size) (h1:(Ty.slice 125 Tile.ty).rep w B [v1] xs) (h2:(Ty.slice 125 Tile.ty).rep w B [v2] xs) :
    Calls Tryz.prog 63 #[v1,v2] w fun e w'=>e=.returned (.bool true)∧Below w.heap.size w w':=by
  obtain ⟨a1,c1,rfl,_,hm1⟩:=Ty.form h1;obtain ⟨a2,c2,rfl,_,hm2⟩:=Ty.form h2;have hn:xs.length≤9223372036854775807:=(by unfold maxLen at hm1;omega);clear hm1 hm2;refine zE2 ?_;intro x;go_enter Tryz.func63,Tryz.ntmps63;go_wp2
  go_loopw [5] (fun i wr=>∃ k:Nat,k≤xs.length∧i=.int .i64 k∧∃ z:Ext w,wr=w.to z) (fun i _=>xs.length - (intOf i).toNat)
  case atStart=>exact ⟨0,Nat.zero_le _,rfl,x,rfl⟩
  case round =>
    obtain ⟨k,hk,rfl,z,rfl⟩:=hrel;by_cases hlt:k < xs.length
    · obtain ⟨b1,o1,cs1,rfl,hb1,g1,e1⟩:=Ty.elem h1 hB k hlt;obtain ⟨p1_0,rfl,_,r1_1⟩:=Tile.cells e1;have d1_0:∀ z:Ext w,(w.to z).cell? ⟨b1,o1+k*2,none⟩=some (.string xs[k].Name):=g1 0 _ rfl;have d1_1:∀ z:Ext w,(w.to z).cell? ⟨b1,o1+k*2+1,none⟩=some (p1_0):=g1 1 _ rfl;clear g1;obtain ⟨b2,o2,cs2,rfl,hb2,g2,e2⟩:=Ty.elem h2 hB k hlt;obtain ⟨p2_0,rfl,_,r2_1⟩:=Tile.cells e2;have d2_0:∀ z:Ext w,(w.to z).cell? ⟨b2,o2+k*2,none⟩=some (.string xs[k].Name):=g2 0 _ rfl;have d2_1:∀ z:Ext w,(w.to z).cell? ⟨b2,o2+k*2+1,none⟩=some (p2_0):=g2 1 _ rfl;clear g2;have hs:=fun z:Ext w=>zXv p1_0 p2_0 xs[k] (w.to z) B (Nat.le_trans hB z.below.size) (Ty.rep_to _ hB r1_1 z) (Ty.rep_to _ hB r2_1 z);have HS:=Lib.hid hs;clear hs;go_wp2_with fail;refine zBb (by kernel_rfl) (by kernel_rfl) ?_
      repeat (go_big_quiet_step ((go_at_call 92;exact zCq (HS.out _))))
      refine wpQuiet_nil ?_;rintro _ ⟨y,rfl⟩;go_wp2_with fail
      go_roundw
      case rel=>exact ⟨k+1,by omega,by go_num,y,rfl⟩
      case measure=>simp [intOf];omega
    · go_wp2_with fail
      go_ret;exact ⟨rfl,z.below⟩
structure TileSet where
  Glues:List Glue
  Tiles:List Tile
  deriving DecidableEq
def TileSet.ty:Ty TileSet:=Ty.via (Ty.prod (Ty.slice 121 Glue.ty) (Ty.slice 125 Tile.ty)) (fun x=>(x.Glues,x.Tiles))
def TileSet.cnt (x:TileSet):Nat:=zJ3 Glue.cnt x.Glues+zJ3 Tile.cnt x.Tiles
theorem TileSet.cells {w:World} {B:Nat} {cs:List Value} {x:TileSet} (h:TileSet.ty.rep w B cs x):∃ v0 v1:Value,cs=[v0,v1]∧(Ty.slice 121 Glue.ty).rep w B [v0] x.Glues∧(Ty.slice 125 Tile.ty).rep w B [v1] x.Tiles:=by obtain ⟨_,_,rfl,h0,h1⟩:=h;obtain ⟨u0,rfl⟩:=Ty.slice_one h0;obtain ⟨u1,rfl⟩:=Ty.slice_one h1;exact ⟨_,_,rfl,h0,h1⟩
theorem TileSet.parts {w:World} {B:Nat} {v0 v1:Value} {x:TileSet} (h:TileSet.ty.rep w B [v0,v1] x):(Ty.slice 121 Glue.ty).rep w B [v0] x.Glues∧(Ty.slice 125 Tile.ty).rep w B [v1] x.Tiles:=by obtain ⟨e0,e1,hh,r0,r1⟩:=TileSet.cells h;simp only [List.cons.injEq,and_true,true_and] at hh;obtain ⟨rfl,rfl⟩:=hh;exact ⟨r0,r1⟩
theorem TileSet.rep_mk {w:World} {B:Nat} {v0 v1:Value} {x:TileSet} (h0:(Ty.slice 121 Glue.ty).rep w B [v0] x.Glues) (h1:(Ty.slice 125 Tile.ty).rep w B [v1] x.Tiles):TileSet.ty.rep w B [v0,v1] x :=
  ⟨_,_,rfl,h0,h1⟩
set_option maxRecDepth 10000 in
set_option maxHeartbeats 1000000 in
theorem zQa (v0 v1 u0 u1:Value) (x:TileSet) (w:World) (B:Nat) (hB:B≤w.heap.size) (h0:(Ty.slice 121 Glue.ty).rep w B [v0] x.Glues) (h1:(Ty.slice 125 Tile.ty).rep w B [v1] x.Tiles) (k0:(Ty.slice 121 Glue.ty).rep w B [u0] x.Glues) (k1:(Ty.slice 125 Tile.ty).rep w B [u1] x.Tiles) :
    Calls Tryz.prog 27 #[.agg #[v0,v1],.agg #[u0,u1]] w fun e w'=>e=.returned (.bool true)∧Below w.heap.size w w':=by
  go_enter Tryz.func27,Tryz.ntmps27
  go_upto_region 1 with fail
  refine zE3 ?_;intro W1 hW _;have hz:Below w.heap.size w W1:=by rw [hW];go_grown
  have hb0:=zD3 hW (zGb _ _ _);have c0:=yCm hb0;have f0:=zL3 hb0;have B0:=Lib.hid hb0;clear hb0;have hb1:=zD3 hW (zGa _ _ _);have c1:=yCm hb1;have f1:=zL3 hb1;have B1:=Lib.hid hb1;clear hb1;have HW:=Lib.hid hW;clear hW;have hs0:=fun z:Ext W1=>zT0 v0 u0 x.Glues (W1.to z) B (Nat.le_trans hB (zAz z hz).size) (Ty.rep_below _ h0 ((zAz z hz).mono hB)) (Ty.rep_below _ k0 ((zAz z hz).mono hB));have HS0:=Lib.hid hs0;clear hs0;have hs1:=fun z:Ext W1=>zTy v1 u1 x.Tiles (W1.to z) B (Nat.le_trans hB (zAz z hz).size) (Ty.rep_below _ h1 ((zAz z hz).mono hB)) (Ty.rep_below _ k1 ((zAz z hz).mono hB));have HS1:=Lib.hid hs1;clear hs1;go_wp2_with fail
  first
    | (refine zB3 (HS0.out _) ?_;intro y)
    | (refine zBb (by kernel_rfl) (by kernel_rfl) ?_;repeat (go_big_quiet_step ((go_at_call 62;exact zCq (HS0.out _))));refine wpQuiet_nil ?_;rintro _ ⟨y,rfl⟩)
  go_wp2_with fail
  first
    | (refine zB3 (HS1.out _) ?_;intro y)
    | (refine zBb (by kernel_rfl) (by kernel_rfl) ?_;repeat (go_big_quiet_step ((go_at_call 63;exact zCq (HS1.out _))));refine wpQuiet_nil ?_;rintro _ ⟨y,rfl⟩)
  go_wp2_with fail
  go_ret;exact ⟨rfl,zAz _ hz⟩
structure Point where
  X:Int
  Y:Int
  deriving DecidableEq
def Point.ty:Ty Point:=Ty.via (Ty.prod (Ty.int .i64) (Ty.int .i64)) (fun x=>(x.X,x.Y))
theorem Point.cells {w:World} {B:Nat} {cs:List Value} {x:Point} (h:Point.ty.rep w B cs x):cs=[.int .i64 x.X,.int .i64 x.Y]∧InK .i64 x.X∧InK .i64 x.Y:=by obtain ⟨_,_,rfl,h0,h1⟩:=h;obtain ⟨rfl,i0⟩:=h0;obtain ⟨rfl,i1⟩:=h1;exact ⟨rfl,i0,i1⟩
theorem Point.parts {w:World} {B:Nat} {x:Point} (h:Point.ty.rep w B [.int .i64 x.X,.int .i64 x.Y] x):InK .i64 x.X∧InK .i64 x.Y:=by obtain ⟨hh,r0,r1⟩:=Point.cells h;exact ⟨r0,r1⟩
theorem Point.rep_mk {w:World} {B:Nat} {x:Point} (h0:InK .i64 x.X) (h1:InK .i64 x.Y):Point.ty.rep w B [.int .i64 x.X,.int .i64 x.Y] x :=
  ⟨_,_,rfl,⟨rfl,h0⟩,⟨rfl,h1⟩⟩
set_option maxRecDepth 10000 in
set_option maxHeartbeats 1000000 in
theorem zTz (x:Point) (w:World) :
    Calls Tryz.prog 101 #[.agg #[.int .i64 x.X,.int .i64 x.Y],.agg #[.int .i64 x.X,.int .i64 x.Y]] w fun e w'=>e=.returned (.bool true)∧Below w.heap.size w w':=by
  go_enter Tryz.func101,Tryz.ntmps101
  go_upto_region 1 with fail
  refine zE3 ?_;intro W1 hW _;have hz:Below w.heap.size w W1:=by rw [hW];go_grown
  have hb0:=zD3 hW (zGb _ _ _);have c0:=yCm hb0;have f0:=zL3 hb0;have B0:=Lib.hid hb0;clear hb0;have hb1:=zD3 hW (zGa _ _ _);have c1:=yCm hb1;have f1:=zL3 hb1;have B1:=Lib.hid hb1;clear hb1;have HW:=Lib.hid hW;clear hW;go_wp2_with fail;go_ret;exact ⟨rfl,zAz _ hz⟩
structure Placed where
  At:Point
  Tile:Int
  deriving DecidableEq
def Placed.ty:Ty Placed:=Ty.via (Ty.prod Point.ty (Ty.int .i64)) (fun x=>(x.At,x.Tile))
theorem Placed.cells {w:World} {B:Nat} {cs:List Value} {x:Placed} (h:Placed.ty.rep w B cs x):cs=[.int .i64 x.At.X,.int .i64 x.At.Y,.int .i64 x.Tile]∧InK .i64 x.At.X∧InK .i64 x.At.Y∧InK .i64 x.Tile:=by obtain ⟨_,_,rfl,h0,h1⟩:=h;obtain ⟨rfl,i0_0,i0_1⟩:=Point.cells h0;obtain ⟨rfl,i1⟩:=h1;exact ⟨rfl,i0_0,i0_1,i1⟩
theorem Placed.parts {w:World} {B:Nat} {x:Placed} (h:Placed.ty.rep w B [.int .i64 x.At.X,.int .i64 x.At.Y,.int .i64 x.Tile] x):InK .i64 x.At.X∧InK .i64 x.At.Y∧InK .i64 x.Tile:=by obtain ⟨hh,r0,r1,r2⟩:=Placed.cells h;exact ⟨r0,r1,r2⟩
theorem Placed.rep_mk {w:World} {B:Nat} {x:Placed} (h0:InK .i64 x.At.X) (h1:InK .i64 x.At.Y) (h2:InK .i64 x.Tile):Placed.ty.rep w B [.int .i64 x.At.X,.int .i64 x.At.Y,.int .i64 x.Tile] x :=
  ⟨_,_,rfl,Point.rep_mk h0 h1,⟨rfl,h2⟩⟩
set_option maxRecDepth 10000 in
set_option maxHeartbeats 1000000 in
theorem zR7 (x:Placed) (w:World) :
    Calls Tryz.prog 93 #[.agg #[.int .i64 x.At.X,.int .i64 x.At.Y,.int .i64 x.Tile],.agg #[.int .i64 x.At.X,.int .i64 x.At.Y,.int .i64 x.Tile]] w fun e w'=>e=.returned (.bool true)∧Below w.heap.size w w':=by
  go_enter Tryz.func93,Tryz.ntmps93
  go_upto_region 1 with fail
  refine zE3 ?_;intro W1 hW _;have hz:Below w.heap.size w W1:=by rw [hW];go_grown
  have hb0:=zD3 hW (zGb _ _ _);have c0:=yNz hb0;have f0:=zL3 hb0;have B0:=Lib.hid hb0;clear hb0;have hb1:=zD3 hW (zGa _ _ _);have c1:=yNz hb1;have f1:=zL3 hb1;have B1:=Lib.hid hb1;clear hb1;have HW:=Lib.hid hW;clear hW;have hs0:=fun z:Ext W1=>zTz x.At (W1.to z);have HS0:=Lib.hid hs0;clear hs0;go_wp2_with fail
  first
    | (refine zB3 (HS0.out _) ?_;intro y)
    | (refine zBb (by kernel_rfl) (by kernel_rfl) ?_;repeat (go_big_quiet_step ((go_at_call 101;exact zCq (HS0.out _))));refine wpQuiet_nil ?_;rintro _ ⟨y,rfl⟩)
  go_wp2_with fail
  go_ret;exact ⟨rfl,zAz _ hz⟩
set_option maxRecDepth 10000 in
set_option maxHeartbeats 1000000 in
theorem zQb (v1 v2:Value) (xs:List Placed) (w:World) (B:Nat) (hB:B≤w.heap.size) (h1:(Ty.slice 109 Placed.ty).rep w B [v1] xs) (h2:(Ty.slice 109 Placed.ty).rep w B [v2] xs) :
    Calls Tryz.prog 64 #[v1,v2] w fun e w'=>e=.returned (.bool true)∧Below w.heap.size w w':=by
  obtain ⟨a1,c1,rfl,_,hm1⟩:=Ty.form h1;obtain ⟨a2,c2,rfl,_,hm2⟩:=Ty.form h2;have hn:xs.length≤9223372036854775807:=(by unfold maxLen at hm1;omega);clear hm1 hm2;refine zE2 ?_;intro x;go_enter Tryz.func64,Tryz.ntmps64;go_wp2
  go_loopw [5] (fun i wr=>∃ k:Nat,k≤xs.length∧i=.int .i64 k∧∃ z:Ext w,wr=w.to z) (fun i _=>xs.length - (intOf i).toNat)
  case atStart=>exact ⟨0,Nat.zero_le _,rfl,x,rfl⟩
  case round =>
    obtain ⟨k,hk,rfl,z,rfl⟩:=hrel;by_cases hlt:k < xs.length
    · obtain ⟨b1,o1,cs1,rfl,hb1,g1,e1⟩:=Ty.elem h1 hB k hlt;obtain ⟨rfl,_,_,_⟩:=Placed.cells e1;have d1_0:∀ z:Ext w,(w.to z).cell? ⟨b1,o1+k*3,none⟩=some (.int .i64 xs[k].At.X):=g1 0 _ rfl;have d1_1:∀ z:Ext w,(w.to z).cell? ⟨b1,o1+k*3+1,none⟩=some (.int .i64 xs[k].At.Y):=g1 1 _ rfl;have d1_2:∀ z:Ext w,(w.to z).cell? ⟨b1,o1+k*3+2,none⟩=some (.int .i64 xs[k].Tile):=g1 2 _ rfl;clear g1;obtain ⟨b2,o2,cs2,rfl,hb2,g2,e2⟩:=Ty.elem h2 hB k hlt;obtain ⟨rfl,_,_,_⟩:=Placed.cells e2;have d2_0:∀ z:Ext w,(w.to z).cell? ⟨b2,o2+k*3,none⟩=some (.int .i64 xs[k].At.X):=g2 0 _ rfl;have d2_1:∀ z:Ext w,(w.to z).cell? ⟨b2,o2+k*3+1,none⟩=some (.int .i64 xs[k].At.Y):=g2 1 _ rfl;have d2_2:∀ z:Ext w,(w.to z).cell? ⟨b2,o2+k*3+2,none⟩=some (.int .i64 xs[k].Tile):=g2 2 _ rfl;clear g2;have hs:=fun z:Ext w=>zR7 xs[k] (w.to z);have HS:=Lib.hid hs;clear hs;go_wp2_with fail;refine zBb (by kernel_rfl) (by kernel_rfl) ?_
      repeat (go_big_quiet_step ((go_at_call 93;exact zCq (HS.out _))))
      refine wpQuiet_nil ?_;rintro _ ⟨y,rfl⟩;go_wp2_with fail
      go_roundw
      case rel=>exact ⟨k+1,by omega,by go_num,y,rfl⟩
      case measure=>simp [intOf];omega
    · go_wp2_with fail
      go_ret;exact ⟨rfl,z.below⟩
structure Assembly where
  Tiles:List Placed
  deriving DecidableEq
def Assembly.ty:Ty Assembly:=Ty.via ((Ty.slice 109 Placed.ty)) (fun x=>x.Tiles)
def Assembly.cnt (x:Assembly):Nat:=x.Tiles.length
theorem Assembly.cells {w:World} {B:Nat} {cs:List Value} {x:Assembly} (h:Assembly.ty.rep w B cs x):∃ v0:Value,cs=[v0]∧(Ty.slice 109 Placed.ty).rep w B [v0] x.Tiles:=by have h0:(Ty.slice 109 Placed.ty).rep w B cs x.Tiles:=h;obtain ⟨u0,rfl⟩:=Ty.slice_one h0;exact ⟨_,rfl,h0⟩
theorem Assembly.parts {w:World} {B:Nat} {v0:Value} {x:Assembly} (h:Assembly.ty.rep w B [v0] x):(Ty.slice 109 Placed.ty).rep w B [v0] x.Tiles:=by obtain ⟨e0,hh,r0⟩:=Assembly.cells h;simp only [List.cons.injEq,and_true,true_and] at hh;subst hh;exact r0
theorem Assembly.rep_mk {w:World} {B:Nat} {v0:Value} {x:Assembly} (h0:(Ty.slice 109 Placed.ty).rep w B [v0] x.Tiles):Assembly.ty.rep w B [v0] x :=
  h0
set_option maxRecDepth 10000 in
set_option maxHeartbeats 1000000 in
theorem zOe (v0 u0:Value) (x:Assembly) (w:World) (B:Nat) (hB:B≤w.heap.size) (h0:(Ty.slice 109 Placed.ty).rep w B [v0] x.Tiles) (k0:(Ty.slice 109 Placed.ty).rep w B [u0] x.Tiles) :
    Calls Tryz.prog 28 #[.agg #[v0],.agg #[u0]] w fun e w'=>e=.returned (.bool true)∧Below w.heap.size w w':=by
  go_enter Tryz.func28,Tryz.ntmps28
  go_upto_region 1 with fail
  refine zE3 ?_;intro W1 hW _;have hz:Below w.heap.size w W1:=by rw [hW];go_grown
  have hb0:=zD3 hW (zGb _ _ _);have c0:=yVd hb0;have f0:=zL3 hb0;have B0:=Lib.hid hb0;clear hb0;have hb1:=zD3 hW (zGa _ _ _);have c1:=yVd hb1;have f1:=zL3 hb1;have B1:=Lib.hid hb1;clear hb1;have HW:=Lib.hid hW;clear hW;have hs0:=fun z:Ext W1=>zQb v0 u0 x.Tiles (W1.to z) B (Nat.le_trans hB (zAz z hz).size) (Ty.rep_below _ h0 ((zAz z hz).mono hB)) (Ty.rep_below _ k0 ((zAz z hz).mono hB));have HS0:=Lib.hid hs0;clear hs0;go_wp2_with fail
  first
    | (refine zB3 (HS0.out _) ?_;intro y)
    | (refine zBb (by kernel_rfl) (by kernel_rfl) ?_;repeat (go_big_quiet_step ((go_at_call 64;exact zCq (HS0.out _))));refine wpQuiet_nil ?_;rintro _ ⟨y,rfl⟩)
  go_wp2_with fail
  go_ret;exact ⟨rfl,zAz _ hz⟩
structure System where
  Set:TileSet
  Seed:Assembly
  Temperature:Int
  deriving DecidableEq
def System.ty:Ty System:=Ty.via (Ty.prod TileSet.ty (Ty.prod Assembly.ty (Ty.int .i64))) (fun x=>(x.Set,x.Seed,x.Temperature))
def System.cnt (x:System):Nat:=TileSet.cnt x.Set+Assembly.cnt x.Seed
theorem System.cells {w:World} {B:Nat} {cs:List Value} {x:System} (h:System.ty.rep w B cs x):∃ v0 v1 v2:Value,cs=[v0,v1,v2,.int .i64 x.Temperature]∧(Ty.slice 121 Glue.ty).rep w B [v0] x.Set.Glues∧(Ty.slice 125 Tile.ty).rep w B [v1] x.Set.Tiles∧(Ty.slice 109 Placed.ty).rep w B [v2] x.Seed.Tiles∧InK .i64 x.Temperature:=by obtain ⟨_,_,rfl,h0,_,_,rfl,h1,h2⟩:=h;obtain ⟨u0_0,u0_1,rfl,i0_0,i0_1⟩:=TileSet.cells h0;obtain ⟨u1_0,rfl,i1_0⟩:=Assembly.cells h1;obtain ⟨rfl,i2⟩:=h2;exact ⟨_,_,_,rfl,i0_0,i0_1,i1_0,i2⟩
theorem System.parts {w:World} {B:Nat} {v0 v1 v2:Value} {x:System} (h:System.ty.rep w B [v0,v1,v2,.int .i64 x.Temperature] x):(Ty.slice 121 Glue.ty).rep w B [v0] x.Set.Glues∧(Ty.slice 125 Tile.ty).rep w B [v1] x.Set.Tiles∧(Ty.slice 109 Placed.ty).rep w B [v2] x.Seed.Tiles∧InK .i64 x.Temperature:=by obtain ⟨e0,e1,e2,hh,r0,r1,r2,r3⟩:=System.cells h;simp only [List.cons.injEq,and_true,true_and] at hh;obtain ⟨rfl,rfl,rfl⟩:=hh;exact ⟨r0,r1,r2,r3⟩
theorem System.rep_mk {w:World} {B:Nat} {v0 v1 v2:Value} {x:System} (h0:(Ty.slice 121 Glue.ty).rep w B [v0] x.Set.Glues) (h1:(Ty.slice 125 Tile.ty).rep w B [v1] x.Set.Tiles) (h2:(Ty.slice 109 Placed.ty).rep w B [v2] x.Seed.Tiles) (h3:InK .i64 x.Temperature):System.ty.rep w B [v0,v1,v2,.int .i64 x.Temperature] x :=
  ⟨_,_,rfl,TileSet.rep_mk h0 h1,_,_,rfl,Assembly.rep_mk h2,⟨rfl,h3⟩⟩
set_option maxRecDepth 10000 in
set_option maxHeartbeats 1000000 in
theorem zR6 (v0 v1 v2 u0 u1 u2:Value) (x:System) (w:World) (B:Nat) (hB:B≤w.heap.size) (h0:(Ty.slice 121 Glue.ty).rep w B [v0] x.Set.Glues) (h1:(Ty.slice 125 Tile.ty).rep w B [v1] x.Set.Tiles) (h2:(Ty.slice 109 Placed.ty).rep w B [v2] x.Seed.Tiles) (k0:(Ty.slice 121 Glue.ty).rep w B [u0] x.Set.Glues) (k1:(Ty.slice 125 Tile.ty).rep w B [u1] x.Set.Tiles) (k2:(Ty.slice 109 Placed.ty).rep w B [u2] x.Seed.Tiles) :
    Calls Tryz.prog 9 #[.agg #[v0,v1,v2,.int .i64 x.Temperature],.agg #[u0,u1,u2,.int .i64 x.Temperature]] w fun e w'=>e=.returned (.bool true)∧Below w.heap.size w w':=by
  go_enter Tryz.func9,Tryz.ntmps9
  go_upto_region 1 with fail
  refine zE3 ?_;intro W1 hW _;have hz:Below w.heap.size w W1:=by rw [hW];go_grown
  have hb0:=zD3 hW (zGb _ _ _);have c0:=yVc hb0;have f0:=zL3 hb0;have B0:=Lib.hid hb0;clear hb0;have hb1:=zD3 hW (zGa _ _ _);have c1:=yVc hb1;have f1:=zL3 hb1;have B1:=Lib.hid hb1;clear hb1;have HW:=Lib.hid hW;clear hW;have hs0:=fun z:Ext W1=>zQa v0 v1 u0 u1 x.Set (W1.to z) B (Nat.le_trans hB (zAz z hz).size) (Ty.rep_below _ h0 ((zAz z hz).mono hB)) (Ty.rep_below _ h1 ((zAz z hz).mono hB)) (Ty.rep_below _ k0 ((zAz z hz).mono hB)) (Ty.rep_below _ k1 ((zAz z hz).mono hB));have HS0:=Lib.hid hs0;clear hs0;have hs1:=fun z:Ext W1=>zOe v2 u2 x.Seed (W1.to z) B (Nat.le_trans hB (zAz z hz).size) (Ty.rep_below _ h2 ((zAz z hz).mono hB)) (Ty.rep_below _ k2 ((zAz z hz).mono hB));have HS1:=Lib.hid hs1;clear hs1;go_wp2_with fail
  first
    | (refine zB3 (HS0.out _) ?_;intro y)
    | (refine zBb (by kernel_rfl) (by kernel_rfl) ?_;repeat (go_big_quiet_step ((go_at_call 27;exact zCq (HS0.out _))));refine wpQuiet_nil ?_;rintro _ ⟨y,rfl⟩)
  go_wp2_with fail
  first
    | (refine zB3 (HS1.out _) ?_;intro y)
    | (refine zBb (by kernel_rfl) (by kernel_rfl) ?_;repeat (go_big_quiet_step ((go_at_call 28;exact zCq (HS1.out _))));refine wpQuiet_nil ?_;rintro _ ⟨y,rfl⟩)
  go_wp2_with fail
  go_ret;exact ⟨rfl,zAz _ hz⟩
def Point.cnE (x:Point):Nat:=1+1
def Point.mkE (x:Point) (k:Int):Point:=⟨k,(k+1)⟩
def Point.cnT (x:Point):Nat:=0
def Point.mkT (x:Point) (k:Int):Point:=⟨x.X,x.Y⟩
theorem Point.cnE_le (x:Point):Point.cnE x≤2:=Nat.le_refl _
theorem Point.own_cells {w:World} {cs:List Value} {x:Point} {F:List Nat} (h:Point.ty.own w cs x F):cs=[.int .i64 x.X,.int .i64 x.Y]∧F=(([]:List Nat)++([]:List Nat))∧InK .i64 x.X∧InK .i64 x.Y:=by obtain ⟨_,_,_,_,rfl,rfl,h_0,h_1⟩:=h;obtain ⟨rfl,h_0_i,rfl⟩:=h_0;obtain ⟨rfl,h_1_i,rfl⟩:=h_1;exact ⟨rfl,rfl,h_0_i,h_1_i⟩
theorem Point.own_make {w:World} {x:Point} (h0:InK .i64 x.X) (h1:InK .i64 x.Y):Point.ty.own w [.int .i64 x.X,.int .i64 x.Y] x (([]:List Nat)++([]:List Nat)) :=
  ⟨_,_,_,_,rfl,rfl,⟨rfl,h0,rfl⟩,⟨rfl,h1,rfl⟩⟩
def Placed.cnE (x:Placed):Nat:=1+1+1
def Placed.mkE (x:Placed) (k:Int):Placed:=⟨⟨k,(k+1)⟩,((k+1)+1)⟩
def Placed.cnT (x:Placed):Nat:=0
def Placed.mkT (x:Placed) (k:Int):Placed:=⟨⟨x.At.X,x.At.Y⟩,x.Tile⟩
theorem Placed.cnE_le (x:Placed):Placed.cnE x≤3:=Nat.le_refl _
theorem Placed.own_cells {w:World} {cs:List Value} {x:Placed} {F:List Nat} (h:Placed.ty.own w cs x F):cs=[.int .i64 x.At.X,.int .i64 x.At.Y,.int .i64 x.Tile]∧F=((([]:List Nat)++([]:List Nat))++([]:List Nat))∧InK .i64 x.At.X∧InK .i64 x.At.Y∧InK .i64 x.Tile:=by obtain ⟨_,_,_,_,rfl,rfl,h_0,h_1⟩:=h;obtain ⟨_,_,_,_,rfl,rfl,h_0_0,h_0_1⟩:=h_0;obtain ⟨rfl,h_0_0_i,rfl⟩:=h_0_0;obtain ⟨rfl,h_0_1_i,rfl⟩:=h_0_1;obtain ⟨rfl,h_1_i,rfl⟩:=h_1;exact ⟨rfl,rfl,h_0_0_i,h_0_1_i,h_1_i⟩
theorem Placed.own_make {w:World} {x:Placed} (h0:InK .i64 x.At.X) (h1:InK .i64 x.At.Y) (h2:InK .i64 x.Tile):Placed.ty.own w [.int .i64 x.At.X,.int .i64 x.At.Y,.int .i64 x.Tile] x ((([]:List Nat)++([]:List Nat))++([]:List Nat)) :=
  ⟨_,_,_,_,rfl,rfl,⟨_,_,_,_,rfl,rfl,⟨rfl,h0,rfl⟩,⟨rfl,h1,rfl⟩⟩,⟨rfl,h2,rfl⟩⟩
set_option maxRecDepth 10000 in
set_option maxHeartbeats 1000000 in
theorem zMt (v:Value) (xs:List Placed) (k:Int) (F:List Nat) (w:World) (h:(Ty.slice 109 Placed.ty).own w [v] xs F) (hn:F.Nodup) (hF:∀ b,b∈F→b < w.heap.size) (h0:0≤k) (hk:k+(cnS Placed.cnE xs:Nat)≤4611686018427387904) :
    Calls Tryz.prog 68 #[v,.int .i64 k] w fun e w'=>e=.returned (.int .i64 (k+(cnS Placed.cnE xs:Nat)))∧(Ty.slice 109 Placed.ty).own w' [v] (mkL Placed.mkE Placed.cnE xs k) F∧Chg F w w':=by
  obtain ⟨a,c,rfl,_,hm⟩:=Ty.form (Ty.own_lt _ h);have hlen:xs.length≤9223372036854775807:=(by unfold maxLen at hm;omega);clear hm;have HO:=Lib.hid h;have HN:=Lib.hid hn;have HF:=Lib.hid hF;clear h hn hF;go_enter Tryz.func68,Tryz.ntmps68;go_wp2
  go_loopw [1,5] (fun n i wr=>∃ j:Nat,j≤xs.length∧i=.int .i64 j∧n=.int .i64 (k+(zC5 Placed.cnE xs j:Nat))∧(Ty.slice 109 Placed.ty).own wr [.slice a xs.length c] (zPk Placed.mkE Placed.cnE xs k j) F∧Chg F w wr) (fun _ i _=>xs.length - (intOf i).toNat)
  case atStart=>exact ⟨0,Nat.zero_le _,rfl,by simp [zC4],by rw [zFu];exact HO.out,Chg.refl _ _⟩
  case round =>
    obtain ⟨j,hj,rfl,rfl,ho,hc⟩:=hrel;by_cases hlt:j < xs.length
    · obtain ⟨g,o,cs,Fk,arr0,rfl,-,hg,hgk,hnk,hsub,hx,hH,hput⟩:=zHj ho HN.out j (by rw [zFf];exact hlt);rw [zHl _ _ _ _ _ hlt] at hx;have hb1:=zC8 Placed.cnE xs j hlt;have hb2:=zCs Placed.cnE xs j hlt;have hFw:∀ b,b∈F→b < wr.heap.size:=fun b hb=>Nat.lt_of_lt_of_le (HF.out b hb) hc.size;have HFW:=Lib.hid hFw;have HC:=Lib.hid hc;clear ho hFw hc;obtain ⟨rfl,hFe,_,_,_⟩:=Placed.own_cells hx;rw [hFe] at hgk hnk hsub hput;clear hFe hx;have hcn:Placed.cnE xs[j]=1+1+1:=rfl;have KC:Chg (g::((([]:List Nat)++([]:List Nat))++([]:List Nat))) wr wr:=Chg.refl _ _;have hsz:Placed.ty.size=3:=rfl;rw [hsz] at hH hput;have c0:wr.cell? ⟨g,o+j*3,none⟩=some (.int .i64 xs[j].At.X):=(by have:=hH.cell (j:=0) rfl;simpa using this);have f0:=hH.froz
      go_upto_region 6 with fail
      refine zC6 ?_;intro W1 hW;have hH2:=hH.set 0 (by omega) (.int .i64 (k+(zC5 Placed.cnE xs j:Nat)));have hH3:HoleAt W1 g 109 arr0 (o+j*3) 3 [.int .i64 (k+(zC5 Placed.cnE xs j:Nat)),.int .i64 xs[j].At.Y,.int .i64 xs[j].Tile]:=by rw [hW];simpa using hH2
      have hCG:Chg [g] wr W1:=(by rw [hW];exact (Chg.refl [g] _).set (by simp) _ _);have KC2:=KC.trans (hCG.mono (fun b hb=>by simp_all));clear c0 f0 hH hH2 hCG KC hW;have hH:=hH3;have KC:=KC2;clear hH3 KC2;have c1:W1.cell? ⟨g,o+j*3+1,none⟩=some (.int .i64 xs[j].At.Y):=(by have:=hH.cell (j:=1) rfl;simpa using this);have f1:=hH.froz
      go_upto_region 8 with fail
      refine zC6 ?_;intro W2 hW;have hH2:=hH.set 1 (by omega) (.int .i64 ((k+(zC5 Placed.cnE xs j:Nat))+1));have hH3:HoleAt W2 g 109 arr0 (o+j*3) 3 [.int .i64 (k+(zC5 Placed.cnE xs j:Nat)),.int .i64 ((k+(zC5 Placed.cnE xs j:Nat))+1),.int .i64 xs[j].Tile]:=by rw [hW];simpa using hH2
      have hCG:Chg [g] W1 W2:=(by rw [hW];exact (Chg.refl [g] _).set (by simp) _ _);have KC2:=KC.trans (hCG.mono (fun b hb=>by simp_all));clear c1 f1 hH hH2 hCG KC hW;have hH:=hH3;have KC:=KC2;clear hH3 KC2;have c2:W2.cell? ⟨g,o+j*3+2,none⟩=some (.int .i64 xs[j].Tile):=(by have:=hH.cell (j:=2) rfl;simpa using this);have f2:=hH.froz
      go_upto_region 3 with fail
      refine zC6 ?_;intro W3 hW;have hH2:=hH.set 2 (by omega) (.int .i64 (((k+(zC5 Placed.cnE xs j:Nat))+1)+1));have hH3:HoleAt W3 g 109 arr0 (o+j*3) 3 [.int .i64 (k+(zC5 Placed.cnE xs j:Nat)),.int .i64 ((k+(zC5 Placed.cnE xs j:Nat))+1),.int .i64 (((k+(zC5 Placed.cnE xs j:Nat))+1)+1)]:=by rw [hW];simpa using hH2
      have hCG:Chg [g] W2 W3:=(by rw [hW];exact (Chg.refl [g] _).set (by simp) _ _);have KC2:=KC.trans (hCG.mono (fun b hb=>by simp_all));clear c2 f2 hH hH2 hCG KC hW;have hH:=hH3;have KC:=KC2;clear hH3 KC2;have h3:=hput _ _ _ hH (Placed.own_make (x:=Placed.mkE xs[j] (k+(zC5 Placed.cnE xs j:Nat))) (show InK .i64 (k+(zC5 Placed.cnE xs j:Nat)) from ⟨by omega,by omega⟩) (show InK .i64 ((k+(zC5 Placed.cnE xs j:Nat))+1) from ⟨by omega,by omega⟩) (show InK .i64 (((k+(zC5 Placed.cnE xs j:Nat))+1)+1) from ⟨by omega,by omega⟩)) (fun b hb h1 h2=>KC.keep b (HFW.out b hb) (by simp only [List.mem_cons,not_or];exact ⟨h1,h2⟩));rw [← zFv Placed.mkE Placed.cnE xs k j hlt] at h3;have h4:=HC.out.trans (KC.mono (fun b hb=>by rcases List.mem_cons.1 hb with rfl | hb;exact hg;exact hsub b hb));have H3:=Lib.hid h3;have H4:=Lib.hid h4;clear h3 h4 hput hH KC;go_wp2_with fail
      go_roundw
      case rel=>refine ⟨j+1,by omega,by go_num,by rw [hb2];rw [hcn];simp only [Int.natCast_add,Int.natCast_one,Int.add_assoc],H3.out,H4.out⟩
      case measure=>simp [intOf];omega
    · obtain rfl:j=xs.length:=(by omega);have HC:=Lib.hid hc;have HW:=Lib.hid ho;clear hc ho;go_wp2_with fail;go_ret;refine ⟨by rw [zEd];rfl,?_,HC.out⟩;have:=HW.out;rw [zHm] at this;exact this
set_option maxRecDepth 10000 in
set_option maxHeartbeats 1000000 in
theorem zM5 (v:Value) (xs:List Placed) (k:Int) (w:World) (B:Nat) (hB:B≤w.heap.size) (h:(Ty.slice 109 Placed.ty).rep w B [v] (mkL Placed.mkE Placed.cnE xs k)) (h0:0≤k) (hk:k+(cnS Placed.cnE xs:Nat)≤4611686018427387904) :
    Calls Tryz.prog 71 #[v,.int .i64 k] w fun e w'=>e=.returned (.int .i64 (k+(cnS Placed.cnE xs:Nat)))∧Below w.heap.size w w':=by
  obtain ⟨a,c,hv,_,hm⟩:=Ty.form h;rw [zCg] at hv;subst hv;have hlen:xs.length≤9223372036854775807:=(by have:=Ty.form h;obtain ⟨_,_,_,hh1,hh2⟩:=this;rw [zCg] at hh1;unfold maxLen at hh2;omega);clear hm;have HR:=Lib.hid h;clear h;refine zE2 ?_;intro x;go_enter Tryz.func71,Tryz.ntmps71;go_wp2
  go_loopw [1,5] (fun n i wr=>∃ j:Nat,j≤xs.length∧i=.int .i64 j∧n=.int .i64 (k+(zC5 Placed.cnE xs j:Nat))∧∃ z:Ext w,wr=w.to z) (fun _ i _=>xs.length - (intOf i).toNat)
  case atStart=>exact ⟨0,Nat.zero_le _,rfl,by simp [zC4],x,rfl⟩
  case round =>
    obtain ⟨j,hj,rfl,rfl,z,rfl⟩:=hrel;by_cases hlt:j < xs.length
    · have hb1:=zC8 Placed.cnE xs j hlt;have hb2:=zCs Placed.cnE xs j hlt;have HB2:=Lib.hid hb2;clear hb2;obtain ⟨b,o,cs,rfl,hb,gg,ee⟩:=Ty.elem HR.out hB j (by rw [zCg];exact hlt);rw [zKd _ _ _ _ _ hlt] at ee;obtain ⟨rfl,r0,r1,r2⟩:=Placed.cells ee;have d0:∀ z:Ext w,(w.to z).cell? ⟨b,o+j*3,none⟩=some (.int .i64 (k+(zC5 Placed.cnE xs j:Nat))):=gg 0 _ rfl;have d1:∀ z:Ext w,(w.to z).cell? ⟨b,o+j*3+1,none⟩=some (.int .i64 ((k+(zC5 Placed.cnE xs j:Nat))+1)):=gg 1 _ rfl;have d2:∀ z:Ext w,(w.to z).cell? ⟨b,o+j*3+2,none⟩=some (.int .i64 (((k+(zC5 Placed.cnE xs j:Nat))+1)+1)):=gg 2 _ rfl;clear gg ee;have hcn:Placed.cnE xs[j]=1+1+1:=rfl;go_wp2_with fail
      go_roundw
      case rel=>have hb2:=HB2.out;refine ⟨j+1,by omega,by go_num,by rw [hb2];rw [hcn];simp only [Int.natCast_add,Int.natCast_one,Int.add_assoc],z,rfl⟩
      case measure=>simp [intOf];omega
    · obtain rfl:j=xs.length:=(by omega);go_wp2_with fail;go_ret;exact ⟨by rw [zEd];rfl,z.below⟩
def Assembly.cnE (x:Assembly):Nat:=cnS Placed.cnE x.Tiles
def Assembly.mkE (x:Assembly) (k:Int):Assembly:=⟨mkL Placed.mkE Placed.cnE x.Tiles k⟩
def Assembly.cnT (x:Assembly):Nat:=cnS Placed.cnE x.Tiles
def Assembly.mkT (x:Assembly) (k:Int):Assembly:=⟨mkL Placed.mkE Placed.cnE x.Tiles k⟩
theorem Assembly.cnE_le (x:Assembly):Assembly.cnE x≤3*(1+Assembly.cnt x):=by have h0:=zEb (K:=3) Placed.cnE_le x.Tiles;have:Assembly.cnt x=x.Tiles.length:=rfl;have:Assembly.cnE x=cnS Placed.cnE x.Tiles:=rfl;omega
theorem Assembly.cnT_le (x:Assembly):Assembly.cnT x≤3*Assembly.cnt x:=by have h0:=zEb (K:=3) Placed.cnE_le x.Tiles;have:Assembly.cnt x=x.Tiles.length:=rfl;have:Assembly.cnT x=cnS Placed.cnE x.Tiles:=rfl;omega
theorem Assembly.own_cells {w:World} {cs:List Value} {x:Assembly} {F:List Nat} (h:Assembly.ty.own w cs x F):∃ v0:Value,∃ F0:List Nat,cs=[v0]∧F=F0∧(Ty.slice 109 Placed.ty).own w [v0] x.Tiles F0:=by have h_0:(Ty.slice 109 Placed.ty).own w _ _ _:=h;obtain ⟨h_0_v,h_0_e⟩:=Ty.slice_one (Ty.own_lt _ h_0);subst h_0_e;exact ⟨h_0_v,_,rfl,rfl,h_0⟩
theorem Assembly.own_make {w:World} {v0:Value} {F0:List Nat} {x:Assembly} (h0:(Ty.slice 109 Placed.ty).own w [v0] x.Tiles F0):Assembly.ty.own w [v0] x F0 :=
  h0
set_option maxRecDepth 10000 in
set_option maxHeartbeats 1000000 in
theorem zLa (v0:Value) (x:Assembly) (k:Int) (F:List Nat) (w:World) (h:Assembly.ty.own w [v0] x F) (hn:F.Nodup) (hF:∀ b,b∈F→b < w.heap.size) (h0:0≤k) (hk:k+(Assembly.cnT x:Nat)≤4611686018427387904) :
    Calls Tryz.prog 34 #[.agg #[v0],.int .i64 k] w fun e w'=>e=.returned (.int .i64 (k+(Assembly.cnT x:Nat)))∧Assembly.ty.own w' [v0] (Assembly.mkT x k) F∧Chg F w w':=by
  obtain ⟨u0,F0,hcs,hFe,o0⟩:=Assembly.own_cells h;rw [hFe] at hn hF ⊢;clear h hFe;simp only [List.cons.injEq,and_true,true_and] at hcs;subst hcs;obtain ⟨a0,c0_,hv0,_,_⟩:=Ty.form (Ty.own_lt _ o0);subst hv0;have hnd:=hn
  try simp only [List.nil_append,List.append_nil,List.nodup_append,List.mem_append] at hnd
  have hsb:∀ b,b∈F0→b < w.heap.size:=hF
  try simp only [List.nil_append,List.append_nil,List.mem_append] at hsb
  have hcn:Assembly.cnT x=cnS Placed.cnE x.Tiles:=rfl;have HND:=Lib.hid hnd;have HSB:=Lib.hid hsb;clear hnd hsb hn hF;go_enter Tryz.func34,Tryz.ntmps34
  go_upto_region 1 with fail
  refine zC6 ?_;intro w1 hW;have hz:Below w.heap.size w w1:=by rw [hW];go_grown
  have HB:=Lib.hid (zD3 hW (zFl _ _));have o0_:=(Chg.of_below (F:=[]) hz).own o0 (by simp) (fun b hb=>HSB.out b (by simp_all));clear o0;have o0:=o0_;clear o0_;have KC:Chg F0 w w1:=Chg.of_below hz;have hbw:w.heap.size < w1.heap.size:=zVt HB.out;clear hW hz;have c:=yWl HB.out;go_wp2_with fail;have hnd:=HND.out;have hsb:=HSB.out;refine (zMt (.slice a0 x.Tiles.length c0_) x.Tiles k (F0) w1 o0 (by simp_all [List.nodup_append]) (fun b hb=>Nat.lt_of_lt_of_le (HSB.out b (by simp_all)) KC.size) (by omega) (by omega)).mono ?_;rintro e w2 ⟨rfl,oo,hCG⟩;have HB2:=Lib.hid ((hCG.keep _ hbw (fun hb=>absurd (HSB.out _ (by simp_all)) (Nat.lt_irrefl _))).trans HB.out);have KC2:=KC.trans (hCG.mono (fun b hb=>by simp_all));have hbw2:=Nat.lt_of_lt_of_le hbw hCG.size;clear hnd hsb c HB hCG KC hbw o0;have KC:=KC2;have HB:=HB2;have hbw:=hbw2;clear KC2 HB2 hbw2;have o0:=oo;clear oo;go_wp2_with fail;go_ret;exact ⟨by rw [hcn];first | rfl | (simp only [Int.natCast_add,Int.add_assoc];done) | (simp only [Int.natCast_add,Int.add_assoc];rfl),Assembly.own_make (x:=Assembly.mkT x k) o0,KC⟩
set_option maxRecDepth 10000 in
set_option maxHeartbeats 1000000 in
theorem zLm (v0:Value) (x:Assembly) (k:Int) (w:World) (B:Nat) (hB:B≤w.heap.size) (h:Assembly.ty.rep w B [v0] (Assembly.mkT x k)) (h0:0≤k) (hk:k+(Assembly.cnT x:Nat)≤4611686018427387904) :
    Calls Tryz.prog 36 #[.agg #[v0],.int .i64 k] w fun e w'=>e=.returned (.int .i64 (k+(Assembly.cnT x:Nat)))∧Below w.heap.size w w':=by
  have hh:=Assembly.parts (x:=Assembly.mkT x k) h;have r0:=hh;obtain ⟨a0,c0_,hv0,_,_⟩:=Ty.form r0;rw [show (Assembly.mkT x k).Tiles.length=x.Tiles.length from zCg _ _ _ _] at hv0;subst hv0;have R0:=Lib.hid r0;have hcn:Assembly.cnT x=cnS Placed.cnE x.Tiles:=rfl;clear h r0;go_enter Tryz.func36,Tryz.ntmps36
  go_upto_region 1 with fail
  refine zE3 ?_;intro W1 hW _;have hz:Below w.heap.size w W1:=by rw [hW];go_grown
  have hb0:=zD3 hW (zFl _ _);have c0:=yVd hb0;have f0:=zL3 hb0;have B0:=Lib.hid hb0;clear hb0;have HW:=Lib.hid hW;clear hW;have hs0:=fun z:Ext W1=>zM5 (.slice a0 x.Tiles.length c0_) x.Tiles k (W1.to z) B (Nat.le_trans hB (zAz z hz).size) (Ty.rep_below _ R0.out ((zAz z hz).mono hB)) (by omega) (by omega);have HS0:=Lib.hid hs0;clear hs0;go_wp2_with fail;refine zB3 (HS0.out _) ?_;intro y0;go_wp2_with fail;go_ret;exact ⟨by rw [hcn];first | rfl | (simp only [Int.natCast_add,Int.add_assoc];done) | (simp only [Int.natCast_add,Int.add_assoc];rfl),zAz _ hz⟩
structure Cube where
  Care:Int
  Valu:Int
  deriving DecidableEq
def Cube.ty:Ty Cube:=Ty.via (Ty.prod (Ty.int .i64) (Ty.int .i64)) (fun x=>(x.Care,x.Valu))
theorem Cube.cells {w:World} {B:Nat} {cs:List Value} {x:Cube} (h:Cube.ty.rep w B cs x):cs=[.int .i64 x.Care,.int .i64 x.Valu]∧InK .i64 x.Care∧InK .i64 x.Valu:=by obtain ⟨_,_,rfl,h0,h1⟩:=h;obtain ⟨rfl,i0⟩:=h0;obtain ⟨rfl,i1⟩:=h1;exact ⟨rfl,i0,i1⟩
theorem Cube.parts {w:World} {B:Nat} {x:Cube} (h:Cube.ty.rep w B [.int .i64 x.Care,.int .i64 x.Valu] x):InK .i64 x.Care∧InK .i64 x.Valu:=by obtain ⟨hh,r0,r1⟩:=Cube.cells h;exact ⟨r0,r1⟩
theorem Cube.rep_mk {w:World} {B:Nat} {x:Cube} (h0:InK .i64 x.Care) (h1:InK .i64 x.Valu):Cube.ty.rep w B [.int .i64 x.Care,.int .i64 x.Valu] x :=
  ⟨_,_,rfl,⟨rfl,h0⟩,⟨rfl,h1⟩⟩
set_option maxRecDepth 100000 in
theorem Cube.reads:Reads Tryz.prog 90 Cube.ty :=
  zQ8 (t:=(Ty.prod (Ty.int .i64) (Ty.int .i64))) (fun x:Cube=>(x.Care,x.Valu)) (fun y=>⟨y.1,y.2⟩) (fun _=>rfl) (zKx Tryz.underlying90 (by kernel_rfl) (zP7 rfl (zGz Tryz.underlying2 (by kernel_rfl)) (yB2 rfl (zGz Tryz.underlying2 (by kernel_rfl)))))
set_option maxRecDepth 10000 in
set_option maxHeartbeats 1000000 in
theorem zXy (x:Cube) (w:World) :
    Calls Tryz.prog 65 #[.agg #[.int .i64 x.Care,.int .i64 x.Valu],.agg #[.int .i64 x.Care,.int .i64 x.Valu]] w fun e w'=>e=.returned (.bool true)∧Below w.heap.size w w':=by
  go_enter Tryz.func65,Tryz.ntmps65
  go_upto_region 1 with fail
  refine zE3 ?_;intro W1 hW _;have hz:Below w.heap.size w W1:=by rw [hW];go_grown
  have hb0:=zD3 hW (zGb _ _ _);have c0:=yCm hb0;have f0:=zL3 hb0;have B0:=Lib.hid hb0;clear hb0;have hb1:=zD3 hW (zGa _ _ _);have c1:=yCm hb1;have f1:=zL3 hb1;have B1:=Lib.hid hb1;clear hb1;have HW:=Lib.hid hW;clear hW;go_wp2_with fail;go_ret;exact ⟨rfl,zAz _ hz⟩
set_option maxRecDepth 10000 in
set_option maxHeartbeats 1000000 in
theorem zT1 (v1 v2:Value) (xs:List Cube) (w:World) (B:Nat) (hB:B≤w.heap.size) (h1:(Ty.slice 88 Cube.ty).rep w B [v1] xs) (h2:(Ty.slice 88 Cube.ty).rep w B [v2] xs) :
    Calls Tryz.prog 29 #[v1,v2] w fun e w'=>e=.returned (.bool true)∧Below w.heap.size w w':=by
  obtain ⟨a1,c1,rfl,_,hm1⟩:=Ty.form h1;obtain ⟨a2,c2,rfl,_,hm2⟩:=Ty.form h2;have hn:xs.length≤9223372036854775807:=(by unfold maxLen at hm1;omega);clear hm1 hm2;refine zE2 ?_;intro x;go_enter Tryz.func29,Tryz.ntmps29;go_wp2
  go_loopw [5] (fun i wr=>∃ k:Nat,k≤xs.length∧i=.int .i64 k∧∃ z:Ext w,wr=w.to z) (fun i _=>xs.length - (intOf i).toNat)
  case atStart=>exact ⟨0,Nat.zero_le _,rfl,x,rfl⟩
  case round =>
    obtain ⟨k,hk,rfl,z,rfl⟩:=hrel;by_cases hlt:k < xs.length
    · obtain ⟨b1,o1,cs1,rfl,hb1,g1,e1⟩:=Ty.elem h1 hB k hlt;obtain ⟨rfl,_,_⟩:=Cube.cells e1;have d1_0:∀ z:Ext w,(w.to z).cell? ⟨b1,o1+k*2,none⟩=some (.int .i64 xs[k].Care):=g1 0 _ rfl;have d1_1:∀ z:Ext w,(w.to z).cell? ⟨b1,o1+k*2+1,none⟩=some (.int .i64 xs[k].Valu):=g1 1 _ rfl;clear g1;obtain ⟨b2,o2,cs2,rfl,hb2,g2,e2⟩:=Ty.elem h2 hB k hlt;obtain ⟨rfl,_,_⟩:=Cube.cells e2;have d2_0:∀ z:Ext w,(w.to z).cell? ⟨b2,o2+k*2,none⟩=some (.int .i64 xs[k].Care):=g2 0 _ rfl;have d2_1:∀ z:Ext w,(w.to z).cell? ⟨b2,o2+k*2+1,none⟩=some (.int .i64 xs[k].Valu):=g2 1 _ rfl;clear g2;have hs:=fun z:Ext w=>zXy xs[k] (w.to z);have HS:=Lib.hid hs;clear hs;go_wp2_with fail;refine zBb (by kernel_rfl) (by kernel_rfl) ?_
      repeat (go_big_quiet_step ((go_at_call 65;exact zCq (HS.out _))))
      refine wpQuiet_nil ?_;rintro _ ⟨y,rfl⟩;go_wp2_with fail
      go_roundw
      case rel=>exact ⟨k+1,by omega,by go_num,y,rfl⟩
      case measure=>simp [intOf];omega
    · go_wp2_with fail
      go_ret;exact ⟨rfl,z.below⟩
set_option maxRecDepth 10000 in
set_option maxHeartbeats 1000000 in
theorem zHz (v:Value) (xs:List Cube) (l:Int) (hl0:0≤l) (hl1:l≤1048576) (w:World) (B:Nat) (hB:B≤w.heap.size) (h:(Ty.slice 88 Cube.ty).rep w B [v] xs) :
    Calls Tryz.prog 16 #[v,.int .i64 l] w fun e w'=>e=.returned (.int .i64 (szR l (xs.length)))∧Below w.heap.size w w':=by
  have _:=hB;obtain ⟨a,c,rfl,hc,hm⟩:=Ty.form h;have hn:xs.length≤9223372036854775807:=(by unfold maxLen at hm;omega);clear hm;by_cases g:(xs.length:Int)≤l
  · rw [zIt g];go_enter Tryz.func16,Tryz.ntmps16;go_wp2;go_ret;exact ⟨rfl,by go_grown⟩
  · rw [zHv g];go_enter Tryz.func16,Tryz.ntmps16;go_wp2;go_ret;exact ⟨rfl,by go_grown⟩
structure Form where
  Inputs:Int
  Cubes:List Cube
  Sums:List (List Int)
  deriving DecidableEq
def Form.ty:Ty Form:=Ty.via (Ty.prod (Ty.int .i64) (Ty.prod (Ty.slice 88 Cube.ty) (Ty.slice 26 (Ty.slice 2 (Ty.int .i64))))) (fun x=>(x.Inputs,x.Cubes,x.Sums))
def Form.cnt (x:Form):Nat:=x.Cubes.length+zJ3 (fun x:List Int=>x.length) x.Sums
theorem Form.cells {w:World} {B:Nat} {cs:List Value} {x:Form} (h:Form.ty.rep w B cs x):∃ v0 v1:Value,cs=[.int .i64 x.Inputs,v0,v1]∧InK .i64 x.Inputs∧(Ty.slice 88 Cube.ty).rep w B [v0] x.Cubes∧(Ty.slice 26 (Ty.slice 2 (Ty.int .i64))).rep w B [v1] x.Sums:=by obtain ⟨_,_,rfl,h0,_,_,rfl,h1,h2⟩:=h;obtain ⟨rfl,i0⟩:=h0;obtain ⟨u1,rfl⟩:=Ty.slice_one h1;obtain ⟨u2,rfl⟩:=Ty.slice_one h2;exact ⟨_,_,rfl,i0,h1,h2⟩
theorem Form.parts {w:World} {B:Nat} {v0 v1:Value} {x:Form} (h:Form.ty.rep w B [.int .i64 x.Inputs,v0,v1] x):InK .i64 x.Inputs∧(Ty.slice 88 Cube.ty).rep w B [v0] x.Cubes∧(Ty.slice 26 (Ty.slice 2 (Ty.int .i64))).rep w B [v1] x.Sums:=by obtain ⟨e0,e1,hh,r0,r1,r2⟩:=Form.cells h;simp only [List.cons.injEq,and_true,true_and] at hh;obtain ⟨rfl,rfl⟩:=hh;exact ⟨r0,r1,r2⟩
theorem Form.rep_mk {w:World} {B:Nat} {v0 v1:Value} {x:Form} (h0:InK .i64 x.Inputs) (h1:(Ty.slice 88 Cube.ty).rep w B [v0] x.Cubes) (h2:(Ty.slice 26 (Ty.slice 2 (Ty.int .i64))).rep w B [v1] x.Sums):Form.ty.rep w B [.int .i64 x.Inputs,v0,v1] x :=
  ⟨_,_,rfl,⟨rfl,h0⟩,_,_,rfl,h1,h2⟩
set_option maxRecDepth 100000 in
theorem Form.reads:Reads Tryz.prog 25 Form.ty :=
  zQ8 (t:=(Ty.prod (Ty.int .i64) (Ty.prod (Ty.slice 88 Cube.ty) (Ty.slice 26 (Ty.slice 2 (Ty.int .i64)))))) (fun x:Form=>(x.Inputs,x.Cubes,x.Sums)) (fun y=>⟨y.1,y.2.1,y.2.2⟩) (fun _=>rfl) (zKx Tryz.underlying25 (by kernel_rfl) (zP7 rfl (zGz Tryz.underlying2 (by kernel_rfl)) (zP7 rfl (zF9 Tryz.underlying22 (by kernel_rfl) (by decide) (Cube.reads)) (yB2 rfl (zF9 Tryz.underlying23 (by kernel_rfl) (by decide) (zF9 Tryz.underlying26 (by kernel_rfl) (by decide) (zGz Tryz.underlying2 (by kernel_rfl))))))))
set_option maxRecDepth 10000 in
set_option maxHeartbeats 1000000 in
theorem zXx (v0 v1 u0 u1:Value) (x:Form) (w:World) (B:Nat) (hB:B≤w.heap.size) (h0:(Ty.slice 88 Cube.ty).rep w B [v0] x.Cubes) (h1:(Ty.slice 26 (Ty.slice 2 (Ty.int .i64))).rep w B [v1] x.Sums) (k0:(Ty.slice 88 Cube.ty).rep w B [u0] x.Cubes) (k1:(Ty.slice 26 (Ty.slice 2 (Ty.int .i64))).rep w B [u1] x.Sums) :
    Calls Tryz.prog 10 #[.agg #[.int .i64 x.Inputs,v0,v1],.agg #[.int .i64 x.Inputs,u0,u1]] w fun e w'=>e=.returned (.bool true)∧Below w.heap.size w w':=by
  go_enter Tryz.func10,Tryz.ntmps10
  go_upto_region 1 with fail
  refine zE3 ?_;intro W1 hW _;have hz:Below w.heap.size w W1:=by rw [hW];go_grown
  have hb0:=zD3 hW (zGb _ _ _);have c0:=yNz hb0;have f0:=zL3 hb0;have B0:=Lib.hid hb0;clear hb0;have hb1:=zD3 hW (zGa _ _ _);have c1:=yNz hb1;have f1:=zL3 hb1;have B1:=Lib.hid hb1;clear hb1;have HW:=Lib.hid hW;clear hW;have hs0:=fun z:Ext W1=>zT1 v0 u0 x.Cubes (W1.to z) B (Nat.le_trans hB (zAz z hz).size) (Ty.rep_below _ h0 ((zAz z hz).mono hB)) (Ty.rep_below _ k0 ((zAz z hz).mono hB));have HS0:=Lib.hid hs0;clear hs0;have hs1:=fun z:Ext W1=>zQc v1 u1 x.Sums (W1.to z) B (Nat.le_trans hB (zAz z hz).size) (Ty.rep_below _ h1 ((zAz z hz).mono hB)) (Ty.rep_below _ k1 ((zAz z hz).mono hB));have HS1:=Lib.hid hs1;clear hs1;go_wp2_with fail
  first
    | (refine zB3 (HS0.out _) ?_;intro y)
    | (refine zBb (by kernel_rfl) (by kernel_rfl) ?_;repeat (go_big_quiet_step ((go_at_call 29;exact zCq (HS0.out _))));refine wpQuiet_nil ?_;rintro _ ⟨y,rfl⟩)
  go_wp2_with fail
  first
    | (refine zB3 (HS1.out _) ?_;intro y)
    | (refine zBb (by kernel_rfl) (by kernel_rfl) ?_;repeat (go_big_quiet_step ((go_at_call 30;exact zCq (HS1.out _))));refine wpQuiet_nil ?_;rintro _ ⟨y,rfl⟩)
  go_wp2_with fail
  go_ret;exact ⟨rfl,zAz _ hz⟩
set_option maxRecDepth 10000 in
set_option maxHeartbeats 1000000 in
theorem zV7 (v0 v1:Value) (q:Form) (l:Int) (hl0:0≤l) (hl1:l≤1048576) (w:World) (B:Nat) (hB:B≤w.heap.size) (h0:(Ty.slice 88 Cube.ty).rep w B [v0] q.Cubes) (h1:(Ty.slice 26 (Ty.slice 2 (Ty.int .i64))).rep w B [v1] q.Sums) :
    Calls Tryz.prog 4 #[.agg #[.int .i64 q.Inputs,v0,v1],.int .i64 l] w fun e w'=>e=.returned (.int .i64 (szR l (Form.cnt q)))∧Below w.heap.size w w':=by
  by_cases g0:((q.Cubes.length:Nat):Int)≤l
  · by_cases g1:((zJ3 (fun x:List Int=>x.length) q.Sums:Nat):Int)≤l - (q.Cubes.length:Nat)
    · go_enter Tryz.func4,Tryz.ntmps4
      go_upto_region 1 with fail
      refine zE3 ?_;intro W1 hW _;have hz:Below w.heap.size w W1:=by rw [hW];go_grown
      have hb0:=zD3 hW (zFl _ _);have c0:=yNz hb0;have f0:=zL3 hb0;have B0:=Lib.hid hb0;clear hb0;have HW:=Lib.hid hW;clear hW;have hs0:=fun z:Ext W1=>zHz v0 q.Cubes (l) (by omega) (by omega) (W1.to z) B (Nat.le_trans hB (zAz z hz).size) (Ty.rep_below _ h0 ((zAz z hz).mono hB));simp only [zIt g0] at hs0;have HS0:=Lib.hid hs0;clear hs0;have hs1:=fun z:Ext W1=>zIu v1 q.Sums (l - (q.Cubes.length:Nat)) (by omega) (by omega) (W1.to z) B (Nat.le_trans hB (zAz z hz).size) (Ty.rep_below _ h1 ((zAz z hz).mono hB));simp only [zIt g1] at hs1;have HS1:=Lib.hid hs1;clear hs1;go_wp2_with fail;refine zB3 (HS0.out _) ?_;intro y;go_wp2_with fail;refine zB3 (HS1.out _) ?_;intro y;go_wp2_with fail;go_ret;exact ⟨by rw [zIt (by unfold Form.cnt;omega)];unfold Form.cnt;go_num,zAz _ hz⟩
    · go_enter Tryz.func4,Tryz.ntmps4
      go_upto_region 1 with fail
      refine zE3 ?_;intro W1 hW _;have hz:Below w.heap.size w W1:=by rw [hW];go_grown
      have hb0:=zD3 hW (zFl _ _);have c0:=yNz hb0;have f0:=zL3 hb0;have B0:=Lib.hid hb0;clear hb0;have HW:=Lib.hid hW;clear hW;have hs0:=fun z:Ext W1=>zHz v0 q.Cubes (l) (by omega) (by omega) (W1.to z) B (Nat.le_trans hB (zAz z hz).size) (Ty.rep_below _ h0 ((zAz z hz).mono hB));simp only [zIt g0] at hs0;have HS0:=Lib.hid hs0;clear hs0;have hs1:=fun z:Ext W1=>zIu v1 q.Sums (l - (q.Cubes.length:Nat)) (by omega) (by omega) (W1.to z) B (Nat.le_trans hB (zAz z hz).size) (Ty.rep_below _ h1 ((zAz z hz).mono hB));simp only [zHv g1] at hs1;have HS1:=Lib.hid hs1;clear hs1;go_wp2_with fail;refine zB3 (HS0.out _) ?_;intro y;go_wp2_with fail;refine zB3 (HS1.out _) ?_;intro y;go_wp2_with fail;go_ret;exact ⟨by rw [zHv (by unfold Form.cnt;omega)];rfl,zAz _ hz⟩
  · go_enter Tryz.func4,Tryz.ntmps4
    go_upto_region 1 with fail
    refine zE3 ?_;intro W1 hW _;have hz:Below w.heap.size w W1:=by rw [hW];go_grown
    have hb0:=zD3 hW (zFl _ _);have c0:=yNz hb0;have f0:=zL3 hb0;have B0:=Lib.hid hb0;clear hb0;have HW:=Lib.hid hW;clear hW;have hs0:=fun z:Ext W1=>zHz v0 q.Cubes (l) (by omega) (by omega) (W1.to z) B (Nat.le_trans hB (zAz z hz).size) (Ty.rep_below _ h0 ((zAz z hz).mono hB));simp only [zHv g0] at hs0;have HS0:=Lib.hid hs0;clear hs0;go_wp2_with fail;refine zB3 (HS0.out _) ?_;intro y;go_wp2_with fail;go_ret;exact ⟨by rw [zHv (by unfold Form.cnt;omega)];rfl,zAz _ hz⟩
def Cube.cnE (x:Cube):Nat:=1+1
def Cube.mkE (x:Cube) (k:Int):Cube:=⟨k,(k+1)⟩
def Cube.cnT (x:Cube):Nat:=0
def Cube.mkT (x:Cube) (k:Int):Cube:=⟨x.Care,x.Valu⟩
theorem Cube.cnE_le (x:Cube):Cube.cnE x≤2:=Nat.le_refl _
theorem Cube.own_cells {w:World} {cs:List Value} {x:Cube} {F:List Nat} (h:Cube.ty.own w cs x F):cs=[.int .i64 x.Care,.int .i64 x.Valu]∧F=(([]:List Nat)++([]:List Nat))∧InK .i64 x.Care∧InK .i64 x.Valu:=by obtain ⟨_,_,_,_,rfl,rfl,h_0,h_1⟩:=h;obtain ⟨rfl,h_0_i,rfl⟩:=h_0;obtain ⟨rfl,h_1_i,rfl⟩:=h_1;exact ⟨rfl,rfl,h_0_i,h_1_i⟩
theorem Cube.own_make {w:World} {x:Cube} (h0:InK .i64 x.Care) (h1:InK .i64 x.Valu):Cube.ty.own w [.int .i64 x.Care,.int .i64 x.Valu] x (([]:List Nat)++([]:List Nat)) :=
  ⟨_,_,_,_,rfl,rfl,⟨rfl,h0,rfl⟩,⟨rfl,h1,rfl⟩⟩
set_option maxRecDepth 10000 in
set_option maxHeartbeats 1000000 in
theorem zPn (v:Value) (xs:List Cube) (k:Int) (F:List Nat) (w:World) (h:(Ty.slice 88 Cube.ty).own w [v] xs F) (hn:F.Nodup) (hF:∀ b,b∈F→b < w.heap.size) (h0:0≤k) (hk:k+(cnS Cube.cnE xs:Nat)≤4611686018427387904) :
    Calls Tryz.prog 31 #[v,.int .i64 k] w fun e w'=>e=.returned (.int .i64 (k+(cnS Cube.cnE xs:Nat)))∧(Ty.slice 88 Cube.ty).own w' [v] (mkL Cube.mkE Cube.cnE xs k) F∧Chg F w w':=by
  obtain ⟨a,c,rfl,_,hm⟩:=Ty.form (Ty.own_lt _ h);have hlen:xs.length≤9223372036854775807:=(by unfold maxLen at hm;omega);clear hm;have HO:=Lib.hid h;have HN:=Lib.hid hn;have HF:=Lib.hid hF;clear h hn hF;go_enter Tryz.func31,Tryz.ntmps31;go_wp2
  go_loopw [1,5] (fun n i wr=>∃ j:Nat,j≤xs.length∧i=.int .i64 j∧n=.int .i64 (k+(zC5 Cube.cnE xs j:Nat))∧(Ty.slice 88 Cube.ty).own wr [.slice a xs.length c] (zPk Cube.mkE Cube.cnE xs k j) F∧Chg F w wr) (fun _ i _=>xs.length - (intOf i).toNat)
  case atStart=>exact ⟨0,Nat.zero_le _,rfl,by simp [zC4],by rw [zFu];exact HO.out,Chg.refl _ _⟩
  case round =>
    obtain ⟨j,hj,rfl,rfl,ho,hc⟩:=hrel;by_cases hlt:j < xs.length
    · obtain ⟨g,o,cs,Fk,arr0,rfl,-,hg,hgk,hnk,hsub,hx,hH,hput⟩:=zHj ho HN.out j (by rw [zFf];exact hlt);rw [zHl _ _ _ _ _ hlt] at hx;have hb1:=zC8 Cube.cnE xs j hlt;have hb2:=zCs Cube.cnE xs j hlt;have hFw:∀ b,b∈F→b < wr.heap.size:=fun b hb=>Nat.lt_of_lt_of_le (HF.out b hb) hc.size;have HFW:=Lib.hid hFw;have HC:=Lib.hid hc;clear ho hFw hc;obtain ⟨rfl,hFe,_,_⟩:=Cube.own_cells hx;rw [hFe] at hgk hnk hsub hput;clear hFe hx;have hcn:Cube.cnE xs[j]=1+1:=rfl;have KC:Chg (g::(([]:List Nat)++([]:List Nat))) wr wr:=Chg.refl _ _;have hsz:Cube.ty.size=2:=rfl;rw [hsz] at hH hput;have c0:wr.cell? ⟨g,o+j*2,none⟩=some (.int .i64 xs[j].Care):=(by have:=hH.cell (j:=0) rfl;simpa using this);have f0:=hH.froz
      go_upto_region 6 with fail
      refine zC6 ?_;intro W1 hW;have hH2:=hH.set 0 (by omega) (.int .i64 (k+(zC5 Cube.cnE xs j:Nat)));have hH3:HoleAt W1 g 88 arr0 (o+j*2) 2 [.int .i64 (k+(zC5 Cube.cnE xs j:Nat)),.int .i64 xs[j].Valu]:=by rw [hW];simpa using hH2
      have hCG:Chg [g] wr W1:=(by rw [hW];exact (Chg.refl [g] _).set (by simp) _ _);have KC2:=KC.trans (hCG.mono (fun b hb=>by simp_all));clear c0 f0 hH hH2 hCG KC hW;have hH:=hH3;have KC:=KC2;clear hH3 KC2;have c1:W1.cell? ⟨g,o+j*2+1,none⟩=some (.int .i64 xs[j].Valu):=(by have:=hH.cell (j:=1) rfl;simpa using this);have f1:=hH.froz
      go_upto_region 3 with fail
      refine zC6 ?_;intro W2 hW;have hH2:=hH.set 1 (by omega) (.int .i64 ((k+(zC5 Cube.cnE xs j:Nat))+1));have hH3:HoleAt W2 g 88 arr0 (o+j*2) 2 [.int .i64 (k+(zC5 Cube.cnE xs j:Nat)),.int .i64 ((k+(zC5 Cube.cnE xs j:Nat))+1)]:=by rw [hW];simpa using hH2
      have hCG:Chg [g] W1 W2:=(by rw [hW];exact (Chg.refl [g] _).set (by simp) _ _);have KC2:=KC.trans (hCG.mono (fun b hb=>by simp_all));clear c1 f1 hH hH2 hCG KC hW;have hH:=hH3;have KC:=KC2;clear hH3 KC2;have h3:=hput _ _ _ hH (Cube.own_make (x:=Cube.mkE xs[j] (k+(zC5 Cube.cnE xs j:Nat))) (show InK .i64 (k+(zC5 Cube.cnE xs j:Nat)) from ⟨by omega,by omega⟩) (show InK .i64 ((k+(zC5 Cube.cnE xs j:Nat))+1) from ⟨by omega,by omega⟩)) (fun b hb h1 h2=>KC.keep b (HFW.out b hb) (by simp only [List.mem_cons,not_or];exact ⟨h1,h2⟩));rw [← zFv Cube.mkE Cube.cnE xs k j hlt] at h3;have h4:=HC.out.trans (KC.mono (fun b hb=>by rcases List.mem_cons.1 hb with rfl | hb;exact hg;exact hsub b hb));have H3:=Lib.hid h3;have H4:=Lib.hid h4;clear h3 h4 hput hH KC;go_wp2_with fail
      go_roundw
      case rel=>refine ⟨j+1,by omega,by go_num,by rw [hb2];rw [hcn];simp only [Int.natCast_add,Int.natCast_one,Int.add_assoc],H3.out,H4.out⟩
      case measure=>simp [intOf];omega
    · obtain rfl:j=xs.length:=(by omega);have HC:=Lib.hid hc;have HW:=Lib.hid ho;clear hc ho;go_wp2_with fail;go_ret;refine ⟨by rw [zEd];rfl,?_,HC.out⟩;have:=HW.out;rw [zHm] at this;exact this
def Form.cnE (x:Form):Nat:=1+cnS Cube.cnE x.Cubes+cnS (cnS (fun _=>1)) x.Sums
def Form.mkE (x:Form) (k:Int):Form:=⟨k,mkL Cube.mkE Cube.cnE x.Cubes (k+1),mkL (mkL (fun _ n=>n) (fun _=>1)) (cnS (fun _=>1)) x.Sums ((k+1)+(cnS Cube.cnE x.Cubes:Nat))⟩
def Form.cnT (x:Form):Nat:=cnS Cube.cnE x.Cubes+cnS (cnS (fun _=>1)) x.Sums
def Form.mkT (x:Form) (k:Int):Form:=⟨x.Inputs,mkL Cube.mkE Cube.cnE x.Cubes k,mkL (mkL (fun _ n=>n) (fun _=>1)) (cnS (fun _=>1)) x.Sums (k+(cnS Cube.cnE x.Cubes:Nat))⟩
theorem Form.cnE_le (x:Form):Form.cnE x≤4*(1+Form.cnt x):=by have h0:=zEb (K:=2) Cube.cnE_le x.Cubes;have h1:=zD1 (g:=(fun x:List Int=>x.length)) (K:=1) (fun xs=>Nat.le_trans (zEb (fun _=>Nat.le_refl 1) xs) (by simp only [Nat.mul_add];omega)) x.Sums;have:Form.cnt x=x.Cubes.length+zJ3 (fun x:List Int=>x.length) x.Sums:=rfl;have:Form.cnE x=1+cnS Cube.cnE x.Cubes+cnS (cnS (fun _=>1)) x.Sums:=rfl;omega
theorem Form.cnT_le (x:Form):Form.cnT x≤4*Form.cnt x:=by have h0:=zEb (K:=2) Cube.cnE_le x.Cubes;have h1:=zD1 (g:=(fun x:List Int=>x.length)) (K:=1) (fun xs=>Nat.le_trans (zEb (fun _=>Nat.le_refl 1) xs) (by simp only [Nat.mul_add];omega)) x.Sums;have:Form.cnt x=x.Cubes.length+zJ3 (fun x:List Int=>x.length) x.Sums:=rfl;have:Form.cnT x=cnS Cube.cnE x.Cubes+cnS (cnS (fun _=>1)) x.Sums:=rfl;omega
theorem Form.own_cells {w:World} {cs:List Value} {x:Form} {F:List Nat} (h:Form.ty.own w cs x F):∃ v0 v1:Value,∃ F0 F1:List Nat,cs=[.int .i64 x.Inputs,v0,v1]∧F=(([]:List Nat)++(F0++F1))∧InK .i64 x.Inputs∧(Ty.slice 88 Cube.ty).own w [v0] x.Cubes F0∧(Ty.slice 26 (Ty.slice 2 (Ty.int .i64))).own w [v1] x.Sums F1:=by obtain ⟨_,_,_,_,rfl,rfl,h_0,_,_,_,_,rfl,rfl,h_1,h_2⟩:=h;obtain ⟨rfl,h_0_i,rfl⟩:=h_0;obtain ⟨h_1_v,h_1_e⟩:=Ty.slice_one (Ty.own_lt _ h_1);subst h_1_e;obtain ⟨h_2_v,h_2_e⟩:=Ty.slice_one (Ty.own_lt _ h_2);subst h_2_e;exact ⟨h_1_v,h_2_v,_,_,rfl,rfl,h_0_i,h_1,h_2⟩
theorem Form.own_make {w:World} {v0 v1:Value} {F0 F1:List Nat} {x:Form} (h0:InK .i64 x.Inputs) (h1:(Ty.slice 88 Cube.ty).own w [v0] x.Cubes F0) (h2:(Ty.slice 26 (Ty.slice 2 (Ty.int .i64))).own w [v1] x.Sums F1):Form.ty.own w [.int .i64 x.Inputs,v0,v1] x (([]:List Nat)++(F0++F1)) :=
  ⟨_,_,_,_,rfl,rfl,⟨rfl,h0,rfl⟩,⟨_,_,_,_,rfl,rfl,h1,h2⟩⟩
set_option maxRecDepth 10000 in
set_option maxHeartbeats 1000000 in
theorem zRj (v0 v1:Value) (x:Form) (k:Int) (F:List Nat) (w:World) (h:Form.ty.own w [.int .i64 x.Inputs,v0,v1] x F) (hn:F.Nodup) (hF:∀ b,b∈F→b < w.heap.size) (h0:0≤k) (hk:k+(Form.cnT x:Nat)≤4611686018427387904) :
    Calls Tryz.prog 12 #[.agg #[.int .i64 x.Inputs,v0,v1],.int .i64 k] w fun e w'=>e=.returned (.int .i64 (k+(Form.cnT x:Nat)))∧Form.ty.own w' [.int .i64 x.Inputs,v0,v1] (Form.mkT x k) F∧Chg F w w':=by
  obtain ⟨u0,u1,F0,F1,hcs,hFe,q0,o0,o1⟩:=Form.own_cells h;rw [hFe] at hn hF ⊢;clear h hFe;simp only [List.cons.injEq,and_true,true_and] at hcs;obtain ⟨rfl,rfl⟩:=hcs;obtain ⟨a0,c0_,hv0,_,_⟩:=Ty.form (Ty.own_lt _ o0);subst hv0;obtain ⟨a1,c1_,hv1,_,_⟩:=Ty.form (Ty.own_lt _ o1);subst hv1;have hnd:=hn
  try simp only [List.nil_append,List.append_nil,List.nodup_append,List.mem_append] at hnd
  have hsb:∀ b,b∈(([]:List Nat)++(F0++F1))→b < w.heap.size:=hF
  try simp only [List.nil_append,List.append_nil,List.mem_append] at hsb
  have hcn:Form.cnT x=cnS Cube.cnE x.Cubes+cnS (cnS (fun _=>1)) x.Sums:=rfl;have HND:=Lib.hid hnd;have HSB:=Lib.hid hsb;clear hnd hsb hn hF;go_enter Tryz.func12,Tryz.ntmps12
  go_upto_region 1 with fail
  refine zC6 ?_;intro w1 hW;have hz:Below w.heap.size w w1:=by rw [hW];go_grown
  have HB:=Lib.hid (zD3 hW (zFl _ _));have o0_:=(Chg.of_below (F:=[]) hz).own o0 (by simp) (fun b hb=>HSB.out b (by simp_all));clear o0;have o0:=o0_;clear o0_;have o1_:=(Chg.of_below (F:=[]) hz).own o1 (by simp) (fun b hb=>HSB.out b (by simp_all));clear o1;have o1:=o1_;clear o1_;have KC:Chg (([]:List Nat)++(F0++F1)) w w1:=Chg.of_below hz;have hbw:w.heap.size < w1.heap.size:=zVt HB.out;clear hW hz;have c:=yV6 HB.out;go_wp2_with fail;have hnd:=HND.out;have hsb:=HSB.out;refine (zPn (.slice a0 x.Cubes.length c0_) x.Cubes k (F0) w1 o0 (by simp_all [List.nodup_append]) (fun b hb=>Nat.lt_of_lt_of_le (HSB.out b (by simp_all)) KC.size) (by omega) (by omega)).mono ?_;rintro e w2 ⟨rfl,oo,hCG⟩;have HB2:=Lib.hid ((hCG.keep _ hbw (fun hb=>absurd (HSB.out _ (by simp_all)) (Nat.lt_irrefl _))).trans HB.out);have o1_:=hCG.own o1 (fun b hb hb2=>by (try simp only [List.nil_append,List.append_nil,List.mem_append] at hb2);grind) (fun b hb=>Nat.lt_of_lt_of_le (HSB.out b (by simp_all)) KC.size);have KC2:=KC.trans (hCG.mono (fun b hb=>by simp_all));have hbw2:=Nat.lt_of_lt_of_le hbw hCG.size;clear hnd hsb c HB hCG KC hbw o0 o1;have o1:=o1_;clear o1_;have KC:=KC2;have HB:=HB2;have hbw:=hbw2;clear KC2 HB2 hbw2;have o0:=oo;clear oo;have c:=yV6 HB.out;go_wp2_with fail;have hnd:=HND.out;have hsb:=HSB.out;refine (zMu (.slice a1 x.Sums.length c1_) x.Sums (k+(cnS Cube.cnE x.Cubes:Nat)) (F1) w2 o1 (by simp_all [List.nodup_append]) (fun b hb=>Nat.lt_of_lt_of_le (HSB.out b (by simp_all)) KC.size) (by omega) (by omega)).mono ?_;rintro e w3 ⟨rfl,oo,hCG⟩;have HB2:=Lib.hid ((hCG.keep _ hbw (fun hb=>absurd (HSB.out _ (by simp_all)) (Nat.lt_irrefl _))).trans HB.out);have o0_:=hCG.own o0 (fun b hb hb2=>by (try simp only [List.nil_append,List.append_nil,List.mem_append] at hb2);grind) (fun b hb=>Nat.lt_of_lt_of_le (HSB.out b (by simp_all)) KC.size);have KC2:=KC.trans (hCG.mono (fun b hb=>by simp_all));have hbw2:=Nat.lt_of_lt_of_le hbw hCG.size;clear hnd hsb c HB hCG KC hbw o0 o1;have o0:=o0_;clear o0_;have KC:=KC2;have HB:=HB2;have hbw:=hbw2;clear KC2 HB2 hbw2;have o1:=oo;clear oo;go_wp2_with fail;go_ret;exact ⟨by rw [hcn];first | rfl | (simp only [Int.natCast_add,Int.add_assoc];done) | (simp only [Int.natCast_add,Int.add_assoc];rfl),Form.own_make (x:=Form.mkT x k) q0 o0 o1,KC⟩
end Go.Proofs.YteaicicfbpehbaaGreatDoor
