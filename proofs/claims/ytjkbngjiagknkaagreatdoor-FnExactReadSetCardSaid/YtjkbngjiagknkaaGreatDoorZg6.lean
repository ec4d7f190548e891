/- Laws that the proof stands on. -/
import Derived.Test.YtjkbngjiagknkaaGreatDoorRows
import Derived.Test.YtjkbngjiagknkaaGreatDoorZLib
set_option linter.all false
namespace Go.Proofs.YtjkbngjiagknkaaGreatDoor
open Go.RowKit Go.ChangeShapes Go.WideShapes Go.ChangeAt
set_option maxRecDepth 10000 in
set_option maxHeartbeats 1000000 in
theorem eqInt64S_any (v1 v2:Value) (xs:List Int) (w:World) (B:Nat) (hB:B≤w.heap.size) (h1:(Ty.slice 2 (Ty.int .i64)).rep w B [v1] xs) (h2:(Ty.slice 2 (Ty.int .i64)).rep w B [v2] xs) :
    Calls Tryz.prog 36 #[v1,v2] w fun e w'=>e=.returned (.bool true)∧Below w.heap.size w w':=by
  obtain ⟨a1,c1,rfl,_,hm1⟩:=Ty.form h1;obtain ⟨a2,c2,rfl,_,hm2⟩:=Ty.form h2;have hn:xs.length≤9223372036854775807:=(by unfold maxLen at hm1;omega);clear hm1 hm2;refine rebaseC ?_;intro x;go_enter Tryz.func36,Tryz.ntmps36;go_wp2
  go_loopw [5] (fun i wr=>∃ k:Nat,k≤xs.length∧i=.int .i64 k∧∃ z:Ext w,wr=w.to z) (fun i _=>xs.length - (intOf i).toNat)
  case atStart=>exact ⟨0,Nat.zero_le _,rfl,x,rfl⟩
  case round =>
    obtain ⟨k,hk,rfl,z,rfl⟩:=hrel;by_cases hlt:k < xs.length
    · obtain ⟨b1,o1,rfl,hb1,g1,_⟩:=Ty.elemInt h1 k hlt;obtain ⟨b2,o2,rfl,hb2,g2,_⟩:=Ty.elemInt h2 k hlt;have d1:∀ z:Ext w,(w.to z).cell? ⟨b1,o1+k,none⟩=some _:=fun z=>(to_cell z (by omega)).trans g1;have d2:∀ z:Ext w,(w.to z).cell? ⟨b2,o2+k,none⟩=some _:=fun z=>(to_cell z (by omega)).trans g2;clear g1 g2;go_wp2_with fail;refine wp_region_ext (by kernel_rfl) (by kernel_rfl) ?_
      repeat (go_big_quiet_step ((fail)))
      refine wpQuiet_nil ?_;rintro _ ⟨y,rfl⟩;go_wp2_with fail
      go_roundw
      case rel=>exact ⟨k+1,by omega,by go_num,y,rfl⟩
      case measure=>simp [intOf];omega
    · go_wp2_with fail
      go_ret;exact ⟨rfl,z.below⟩
structure Glue where
  Name:ByteArray
  Strength:Int
  deriving DecidableEq
def Glue.ty:Ty Glue:=Ty.via (Ty.prod Ty.str (Ty.int .i64)) (fun x=>(x.Name,x.Strength))
def Glue.cnt (x:Glue):Nat:=x.Name.size
theorem Glue.cells {w:World} {B:Nat} {cs:List Value} {x:Glue} (h:Glue.ty.rep w B cs x):cs=[.string x.Name,.int .i64 x.Strength]∧x.Name.size≤maxLen∧InK .i64 x.Strength:=by obtain ⟨_,_,rfl,h0,h1⟩:=h;obtain ⟨rfl,i0⟩:=h0;obtain ⟨rfl,i1⟩:=h1;exact ⟨rfl,i0,i1⟩
theorem Glue.parts {w:World} {B:Nat} {x:Glue} (h:Glue.ty.rep w B [.string x.Name,.int .i64 x.Strength] x):x.Name.size≤maxLen∧InK .i64 x.Strength:=by obtain ⟨hh,r0,r1⟩:=Glue.cells h;exact ⟨r0,r1⟩
set_option maxRecDepth 10000 in
set_option maxHeartbeats 1000000 in
theorem eqGlue_any (x:Glue) (w:World) :
    Calls Tryz.prog 80 #[.agg #[.string x.Name,.int .i64 x.Strength],.agg #[.string x.Name,.int .i64 x.Strength]] w fun e w'=>e=.returned (.bool true)∧Below w.heap.size w w':=by
  go_enter Tryz.func80,Tryz.ntmps80
  go_upto_region 1 with fail
  refine rebase ?_;intro W1 hW _;have hz:Below w.heap.size w W1:=by rw [hW];go_grown
  have hb0:=at_of hW (push2_0 _ _ _);have c0:=box2 hb0;have f0:=boxf hb0;have B0:=Lib.hid hb0;clear hb0;have hb1:=at_of hW (push2_1 _ _ _);have c1:=box2 hb1;have f1:=boxf hb1;have B1:=Lib.hid hb1;clear hb1;have HW:=Lib.hid hW;clear hW;go_wp2_with fail;go_ret;exact ⟨rfl,ext_end _ hz⟩
set_option maxRecDepth 10000 in
set_option maxHeartbeats 1000000 in
theorem eqGlueS_any (v1 v2:Value) (xs:List Glue) (w:World) (B:Nat) (hB:B≤w.heap.size) (h1:(Ty.slice 120 Glue.ty).rep w B [v1] xs) (h2:(Ty.slice 120 Glue.ty).rep w B [v2] xs) :
    Calls Tryz.prog 47 #[v1,v2] w fun e w'=>e=.returned (.bool true)∧Below w.heap.size w w':=by
  obtain ⟨a1,c1,rfl,_,hm1⟩:=Ty.form h1;obtain ⟨a2,c2,rfl,_,hm2⟩:=Ty.form h2;have hn:xs.length≤9223372036854775807:=(by unfold maxLen at hm1;omega);clear hm1 hm2;refine rebaseC ?_;intro x;go_enter Tryz.func47,Tryz.ntmps47;go_wp2
  go_loopw [5] (fun i wr=>∃ k:Nat,k≤xs.length∧i=.int .i64 k∧∃ z:Ext w,wr=w.to z) (fun i _=>xs.length - (intOf i).toNat)
  case atStart=>exact ⟨0,Nat.zero_le _,rfl,x,rfl⟩
  case round =>
    obtain ⟨k,hk,rfl,z,rfl⟩:=hrel;by_cases hlt:k < xs.length
    · obtain ⟨b1,o1,cs1,rfl,hb1,g1,e1⟩:=Ty.elem h1 hB k hlt;obtain ⟨rfl,_,_⟩:=Glue.cells e1;have d1_0:∀ z:Ext w,(w.to z).cell? ⟨b1,o1+k*2,none⟩=some (.string xs[k].Name):=g1 0 _ rfl;have d1_1:∀ z:Ext w,(w.to z).cell? ⟨b1,o1+k*2+1,none⟩=some (.int .i64 xs[k].Strength):=g1 1 _ rfl;clear g1;obtain ⟨b2,o2,cs2,rfl,hb2,g2,e2⟩:=Ty.elem h2 hB k hlt;obtain ⟨rfl,_,_⟩:=Glue.cells e2;have d2_0:∀ z:Ext w,(w.to z).cell? ⟨b2,o2+k*2,none⟩=some (.string xs[k].Name):=g2 0 _ rfl;have d2_1:∀ z:Ext w,(w.to z).cell? ⟨b2,o2+k*2+1,none⟩=some (.int .i64 xs[k].Strength):=g2 1 _ rfl;clear g2;have hs:=fun z:Ext w=>eqGlue_any xs[k] (w.to z);have HS:=Lib.hid hs;clear hs;go_wp2_with fail;refine wp_region_ext (by kernel_rfl) (by kernel_rfl) ?_
      repeat (go_big_quiet_step ((go_at_call 80;exact ext_call (HS.out _))))
      refine wpQuiet_nil ?_;rintro _ ⟨y,rfl⟩;go_wp2_with fail
      go_roundw
      case rel=>exact ⟨k+1,by omega,by go_num,y,rfl⟩
      case measure=>simp [intOf];omega
    · go_wp2_with fail
      go_ret;exact ⟨rfl,z.below⟩
structure Tile where
  Name:ByteArray
  Sides:List Int
  deriving DecidableEq
def Tile.ty:Ty Tile:=Ty.via (Ty.prod Ty.str (Ty.slice 2 (Ty.int .i64))) (fun x=>(x.Name,x.Sides))
def Tile.cnt (x:Tile):Nat:=x.Name.size+x.Sides.length
theorem Tile.cells {w:World} {B:Nat} {cs:List Value} {x:Tile} (h:Tile.ty.rep w B cs x):∃ v0:Value,cs=[.string x.Name,v0]∧x.Name.size≤maxLen∧(Ty.slice 2 (Ty.int .i64)).rep w B [v0] x.Sides:=by obtain ⟨_,_,rfl,h0,h1⟩:=h;obtain ⟨rfl,i0⟩:=h0;obtain ⟨u1,rfl⟩:=Ty.slice_one h1;exact ⟨_,rfl,i0,h1⟩
theorem Tile.parts {w:World} {B:Nat} {v0:Value} {x:Tile} (h:Tile.ty.rep w B [.string x.Name,v0] x):x.Name.size≤maxLen∧(Ty.slice 2 (Ty.int .i64)).rep w B [v0] x.Sides:=by obtain ⟨e0,hh,r0,r1⟩:=Tile.cells h;simp only [List.cons.injEq,and_true,true_and] at hh;subst hh;exact ⟨r0,r1⟩
set_option maxRecDepth 10000 in
set_option maxHeartbeats 1000000 in
theorem eqTile_any (v0 u0:Value) (x:Tile) (w:World) (B:Nat) (hB:B≤w.heap.size) (h0:(Ty.slice 2 (Ty.int .i64)).rep w B [v0] x.Sides) (k0:(Ty.slice 2 (Ty.int .i64)).rep w B [u0] x.Sides) :
    Calls Tryz.prog 81 #[.agg #[.string x.Name,v0],.agg #[.string x.Name,u0]] w fun e w'=>e=.returned (.bool true)∧Below w.heap.size w w':=by
  go_enter Tryz.func81,Tryz.ntmps81
  go_upto_region 1 with fail
  refine rebase ?_;intro W1 hW _;have hz:Below w.heap.size w W1:=by rw [hW];go_grown
  have hb0:=at_of hW (push2_0 _ _ _);have c0:=box2 hb0;have f0:=boxf hb0;have B0:=Lib.hid hb0;clear hb0;have hb1:=at_of hW (push2_1 _ _ _);have c1:=box2 hb1;have f1:=boxf hb1;have B1:=Lib.hid hb1;clear hb1;have HW:=Lib.hid hW;clear hW;have hs0:=fun z:Ext W1=>eqInt64S_any v0 u0 x.Sides (W1.to z) B (Nat.le_trans hB (ext_end z hz).size) (Ty.rep_below _ h0 ((ext_end z hz).mono hB)) (Ty.rep_below _ k0 ((ext_end z hz).mono hB));have HS0:=Lib.hid hs0;clear hs0;go_wp2_with fail
  first
    | (refine call_ext (HS0.out _) ?_;intro y)
    | (refine wp_region_ext (by kernel_rfl) (by kernel_rfl) ?_;repeat (go_big_quiet_step ((go_at_call 36;exact ext_call (HS0.out _))));refine wpQuiet_nil ?_;rintro _ ⟨y,rfl⟩)
  go_wp2_with fail
  go_ret;exact ⟨rfl,ext_end _ hz⟩
set_option maxRecDepth 10000 in
set_option maxHeartbeats 1000000 in
theorem eqTileS_any (v1 v2:Value) (xs:List Tile) (w:World) (B:Nat) (hB:B≤w.heap.size) (h1:(Ty.slice 122 Tile.ty).rep w B [v1] xs) (h2:(Ty.slice 122 Tile.ty).rep w B [v2] xs) :
    Calls Tryz.prog 48 #[v1,v2] w fun e w'=>e=.returned (.bool true)∧Below w.heap.size w w':=by
  obtain ⟨a1,c1,rfl,_,hm1⟩:=Ty.form h1;obtain ⟨a2,c2,rfl,_,hm2⟩:=Ty.form h2;have hn:xs.length≤9223372036854775807:=(by unfold maxLen at hm1;omega);clear hm1 hm2;refine rebaseC ?_;intro x;go_enter Tryz.func48,Tryz.ntmps48;go_wp2
  go_loopw [5] (fun i wr=>∃ k:Nat,k≤xs.length∧i=.int .i64 k∧∃ z:Ext w,wr=w.to z) (fun i _=>xs.length - (intOf i).toNat)
  case atStart=>exact ⟨0,Nat.zero_le _,rfl,x,rfl⟩
  case round =>
    obtain ⟨k,hk,rfl,z,rfl⟩:=hrel;by_cases hlt:k < xs.length
    · obtain ⟨b1,o1,cs1,rfl,hb1,g1,e1⟩:=Ty.elem h1 hB k hlt;obtain ⟨p1_0,rfl,_,r1_1⟩:=Tile.cells e1;have d1_0:∀ z:Ext w,(w.to z).cell? ⟨b1,o1+k*2,none⟩=some (.string xs[k].Name):=g1 0 _ rfl;have d1_1:∀ z:Ext w,(w.to z).cell? ⟨b1,o1+k*2+1,none⟩=some (p1_0):=g1 1 _ rfl;clear g1;obtain ⟨b2,o2,cs2,rfl,hb2,g2,e2⟩:=Ty.elem h2 hB k hlt;obtain ⟨p2_0,rfl,_,r2_1⟩:=Tile.cells e2;have d2_0:∀ z:Ext w,(w.to z).cell? ⟨b2,o2+k*2,none⟩=some (.string xs[k].Name):=g2 0 _ rfl;have d2_1:∀ z:Ext w,(w.to z).cell? ⟨b2,o2+k*2+1,none⟩=some (p2_0):=g2 1 _ rfl;clear g2;have hs:=fun z:Ext w=>eqTile_any p1_0 p2_0 xs[k] (w.to z) B (Nat.le_trans hB z.below.size) (Ty.rep_to _ hB r1_1 z) (Ty.rep_to _ hB r2_1 z);have HS:=Lib.hid hs;clear hs;go_wp2_with fail;refine wp_region_ext (by kernel_rfl) (by kernel_rfl) ?_
      repeat (go_big_quiet_step ((go_at_call 81;exact ext_call (HS.out _))))
      refine wpQuiet_nil ?_;rintro _ ⟨y,rfl⟩;go_wp2_with fail
      go_roundw
      case rel=>exact ⟨k+1,by omega,by go_num,y,rfl⟩
      case measure=>simp [intOf];omega
    · go_wp2_with fail
      go_ret;exact ⟨rfl,z.below⟩
structure TileSet where
  Glues:List Glue
  Tiles:List Tile
  deriving DecidableEq
def TileSet.ty:Ty TileSet:=Ty.via (Ty.prod (Ty.slice 120 Glue.ty) (Ty.slice 122 Tile.ty)) (fun x=>(x.Glues,x.Tiles))
def TileSet.cnt (x:TileSet):Nat:=cntL Glue.cnt x.Glues+cntL Tile.cnt x.Tiles
theorem TileSet.cells {w:World} {B:Nat} {cs:List Value} {x:TileSet} (h:TileSet.ty.rep w B cs x):∃ v0 v1:Value,cs=[v0,v1]∧(Ty.slice 120 Glue.ty).rep w B [v0] x.Glues∧(Ty.slice 122 Tile.ty).rep w B [v1] x.Tiles:=by obtain ⟨_,_,rfl,h0,h1⟩:=h;obtain ⟨u0,rfl⟩:=Ty.slice_one h0;obtain ⟨u1,rfl⟩:=Ty.slice_one h1;exact ⟨_,_,rfl,h0,h1⟩
theorem TileSet.parts {w:World} {B:Nat} {v0 v1:Value} {x:TileSet} (h:TileSet.ty.rep w B [v0,v1] x):(Ty.slice 120 Glue.ty).rep w B [v0] x.Glues∧(Ty.slice 122 Tile.ty).rep w B [v1] x.Tiles:=by obtain ⟨e0,e1,hh,r0,r1⟩:=TileSet.cells h;simp only [List.cons.injEq,and_true,true_and] at hh;obtain ⟨rfl,rfl⟩:=hh;exact ⟨r0,r1⟩
set_option maxRecDepth 10000 in
set_option maxHeartbeats 1000000 in
theorem eqTileSet_any (v0 v1 u0 u1:Value) (x:TileSet) (w:World) (B:Nat) (hB:B≤w.heap.size) (h0:(Ty.slice 120 Glue.ty).rep w B [v0] x.Glues) (h1:(Ty.slice 122 Tile.ty).rep w B [v1] x.Tiles) (k0:(Ty.slice 120 Glue.ty).rep w B [u0] x.Glues) (k1:(Ty.slice 122 Tile.ty).rep w B [u1] x.Tiles) :
    Calls Tryz.prog 18 #[.agg #[v0,v1],.agg #[u0,u1]] w fun e w'=>e=.returned (.bool true)∧Below w.heap.size w w':=by
  go_enter Tryz.func18,Tryz.ntmps18
  go_upto_region 1 with fail
  refine rebase ?_;intro W1 hW _;have hz:Below w.heap.size w W1:=by rw [hW];go_grown
  have hb0:=at_of hW (push2_0 _ _ _);have c0:=box2 hb0;have f0:=boxf hb0;have B0:=Lib.hid hb0;clear hb0;have hb1:=at_of hW (push2_1 _ _ _);have c1:=box2 hb1;have f1:=boxf hb1;have B1:=Lib.hid hb1;clear hb1;have HW:=Lib.hid hW;clear hW;have hs0:=fun z:Ext W1=>eqGlueS_any v0 u0 x.Glues (W1.to z) B (Nat.le_trans hB (ext_end z hz).size) (Ty.rep_below _ h0 ((ext_end z hz).mono hB)) (Ty.rep_below _ k0 ((ext_end z hz).mono hB));have HS0:=Lib.hid hs0;clear hs0;have hs1:=fun z:Ext W1=>eqTileS_any v1 u1 x.Tiles (W1.to z) B (Nat.le_trans hB (ext_end z hz).size) (Ty.rep_below _ h1 ((ext_end z hz).mono hB)) (Ty.rep_below _ k1 ((ext_end z hz).mono hB));have HS1:=Lib.hid hs1;clear hs1;go_wp2_with fail
  first
    | (refine call_ext (HS0.out _) ?_;intro y)
    | (refine wp_region_ext (by kernel_rfl) (by kernel_rfl) ?_;repeat (go_big_quiet_step ((go_at_call 47;exact ext_call (HS0.out _))));refine wpQuiet_nil ?_;rintro _ ⟨y,rfl⟩)
  go_wp2_with fail
  first
    | (refine call_ext (HS1.out _) ?_;intro y)
    | (refine wp_region_ext (by kernel_rfl) (by kernel_rfl) ?_;repeat (go_big_quiet_step ((go_at_call 48;exact ext_call (HS1.out _))));refine wpQuiet_nil ?_;rintro _ ⟨y,rfl⟩)
  go_wp2_with fail
  go_ret;exact ⟨rfl,ext_end _ hz⟩
end Go.Proofs.YtjkbngjiagknkaaGreatDoor
