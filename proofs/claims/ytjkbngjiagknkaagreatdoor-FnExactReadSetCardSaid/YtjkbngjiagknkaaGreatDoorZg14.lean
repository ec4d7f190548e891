/- Laws that the proof stands on. -/
import Derived.Test.YtjkbngjiagknkaaGreatDoorZVB
import Derived.Test.YtjkbngjiagknkaaGreatDoorZVTab
import Derived.Test.YtjkbngjiagknkaaGreatDoorZg5
import Derived.Shelf.Strconv.Itoa4
import Derived.Test.YtjkbngjiagknkaaGreatDoorZg11
import Derived.Test.YtjkbngjiagknkaaGreatDoorProg
import Derived.Test.YtjkbngjiagknkaaGreatDoorZg12
import Derived.Test.YtjkbngjiagknkaaGreatDoorZMkBase
import Derived.Test.YtjkbngjiagknkaaGreatDoorZg6
import Derived.Test.YtjkbngjiagknkaaGreatDoorZg13
set_option linter.all false
namespace Go.Proofs.YtjkbngjiagknkaaGreatDoor
open Go.RowKit Go.V
set_option maxRecDepth 100000
theorem below_grow (w:World) (k:Nat) (os:Array Obj):Below w.heap.size w (Sort.grow (w.drewN k) os) :=
  ⟨rfl,rfl,rfl,by simp [Sort.grow],fun i hi=>by simp only [Sort.grow,World.heap_drewN];rw [Array.getElem?_append_left hi]⟩
def itoaS (n:Int):List UInt8:=Lib.itoa n
theorem v_FormatInt (n:Int) (hn:InK .i64 n):Contract Tryz.prog TabG 118 [.v (.int .i64 n),.v (.int .i64 10)] (.v (.string ⟨(itoaS n).toArray⟩)):=by
  refine ⟨fun us W=>by kernel_rfl,fun w I us hG hI hV=>?_⟩;obtain ⟨J,hJ,ht,_⟩:=hG;simp only [Vals,T] at hV;obtain ⟨_,_,_,_,rfl,_,⟨rfl,_⟩,_,_,_,_,rfl,_,⟨rfl,_⟩,rfl,_⟩:=hV;have h : -9223372036854775808≤n∧n≤9223372036854775807:=by have:=hn;unfold InK at this;omega
  refine (Any.strconv_FormatInt_10 Tryz.lays173 n (by omega) (by omega) w ht).mono ?_;rintro e w' ⟨rfl,k,os,rfl⟩;refine ⟨_,[],I,rfl,below_grow w k os,by simp only [T];exact ⟨rfl,trivial⟩,List.nodup_nil,(fun b h=>by cases h),fun b h=>h,fun b h=>⟨.inl h,?_⟩⟩;have:=hI b h;simp only [Sort.grow,World.heap_drewN,Array.size_append];omega
theorem mkL_ok {α:Type} {ok:α→Prop} {mk:α→Int→α} {cn:α→Nat} (h:∀ (x:α) (k:Int),0≤k→k+(cn x:Nat)≤4611686018427387904→ok (mk x k)):∀ (xs:List α) (k:Int),0≤k→k+(cnS cn xs:Nat)≤4611686018427387904→∀ y,y∈mkL mk cn xs k→ok y
  | [],k,_,_,y,hy=>by simp [mkL] at hy
  | x::xs,k,h0,hk,y,hy=>by
    have e:cnS cn (x::xs)=cn x+cnS cn xs:=(by unfold cnS;rw [List.map_cons,List.sum_cons]);unfold mkL at hy;rcases List.mem_cons.1 hy with rfl | hy
    · exact h x k h0 (by omega)
    · exact mkL_ok h xs _ (by omega) (by omega) y hy
theorem mkI_ok (x:Int) (k:Int) (h0:0≤k) (hk:k+(1:Nat)≤4611686018427387904):(TD.int .i64).ok k:=show InK .i64 _ from ⟨by omega,by omega⟩
theorem Glue.mkE_ok (x:Glue) (k:Int) (h0:0≤k) (hk:k+(Glue.cnE x:Nat)≤4611686018427387904):Glue.td.ok (Glue.mkE x k):=by have hc:Glue.cnE x=1+1:=rfl;rw [Glue.td_ok];exact ⟨(markT_size _),(show InK .i64 ((k+1)) from ⟨by omega,by omega⟩)⟩
theorem Tile.mkE_ok (x:Tile) (k:Int) (h0:0≤k) (hk:k+(Tile.cnE x:Nat)≤4611686018427387904):Tile.td.ok (Tile.mkE x k):=by have hc:Tile.cnE x=1+cnS (fun _=>1) x.Sides:=rfl;rw [Tile.td_ok];exact ⟨(markT_size _),(mkL_ok (ok:=(TD.int .i64).ok) mkI_ok _ (k+1) (by omega) (by omega))⟩
theorem TileSet.mkE_ok (x:TileSet) (k:Int) (h0:0≤k) (hk:k+(TileSet.cnE x:Nat)≤4611686018427387904):TileSet.td.ok (TileSet.mkE x k):=by have hc:TileSet.cnE x=cnS Glue.cnE x.Glues+cnS Tile.cnE x.Tiles:=rfl;rw [TileSet.td_ok];exact ⟨(mkL_ok (ok:=Glue.td.ok) Glue.mkE_ok _ k (by omega) (by omega)),(mkL_ok (ok:=Tile.td.ok) Tile.mkE_ok _ (k+(cnS Glue.cnE x.Glues:Nat)) (by omega) (by omega))⟩
theorem v_eqTileSet (q:TileSet) (hk:TileSet.td.ok q):Contract Tryz.prog TabG 18 [.agg (TileSet.td.d false q),.agg (TileSet.td.d false q)] (.v (.bool true)):=by refine contract_plain (fun us W=>by kernel_rfl) fun w I us hI hV=>?_;obtain ⟨u0,us,rfl,hT0,hV⟩:=vals_one hV;obtain ⟨u1,us,rfl,hT1,hV⟩:=vals_one hV;obtain rfl:=vals_none hV;obtain ⟨cs,rfl,hr⟩:=TD.agg_dn TileSet.td hk hI rfl hT0;obtain ⟨ds,rfl,hs⟩:=TD.agg_dn TileSet.td hk hI rfl hT1;obtain ⟨v0,v1,rfl,z0,z1⟩:=TileSet.cells hr;obtain ⟨x0,x1,rfl,y0,y1⟩:=TileSet.cells hs;exact eqTileSet_any v0 v1 x0 x1 q w w.heap.size (Nat.le_refl _) z0 z1 y0 y1
theorem TileSet.mkT_ok (x:TileSet) (hx:TileSet.td.ok x) (k:Int) (h0:0≤k) (hk:k+(TileSet.cnT x:Nat)≤4611686018427387904):TileSet.td.ok (TileSet.mkT x k):=by have hc:TileSet.cnT x=cnS Glue.cnE x.Glues+cnS Tile.cnE x.Tiles:=rfl;rw [TileSet.td_ok] at hx;rw [TileSet.td_ok];exact ⟨(mkL_ok (ok:=Glue.td.ok) Glue.mkE_ok _ k (by omega) (by omega)),(mkL_ok (ok:=Tile.td.ok) Tile.mkE_ok _ (k+(cnS Glue.cnE x.Glues:Nat)) (by omega) (by omega))⟩
theorem v_markTileSet (q:TileSet) (hk:TileSet.td.ok q) (k:Int) (h0:0≤k) (h1:k+(TileSet.cnT q:Nat)≤4611686018427387904):ContractL Tryz.prog TabG 19 0 [.undef,.v (.int .i64 k)] (.agg (TileSet.td.d true q)) (.v (.int .i64 (k+(TileSet.cnT q:Nat)))) (.agg (TileSet.td.d false (TileSet.mkT q k))):=by refine mark_agg TileSet.td (fun us W=>by kernel_rfl) hk fun w cs X ho hn hX=>?_;have hr:=Ty.own_lt _ ho;obtain ⟨v0,v1,rfl,z0,z1⟩:=TileSet.cells hr;exact markTileSet_any v0 v1 q k X w ho hn hX h0 h1
theorem v_heldTileSet (q:TileSet) (hk:TileSet.td.ok q) (k:Int) (h0:0≤k) (h1:k+(TileSet.cnT q:Nat)≤4611686018427387904):Contract Tryz.prog TabG 20 [.agg (TileSet.td.d false (TileSet.mkT q k)),.v (.int .i64 k)] (.v (.int .i64 (k+(TileSet.cnT q:Nat)))):=by refine contract_plain (fun us W=>by kernel_rfl) fun w I us hI hV=>?_;obtain ⟨u0,us,rfl,hT0,hV⟩:=vals_one hV;obtain ⟨u1,us,rfl,hT1,hV⟩:=vals_one hV;obtain rfl:=vals_none hV;obtain rfl:=T_v hT1;obtain ⟨cs,rfl,hr⟩:=TD.agg_dn TileSet.td (TileSet.mkT_ok q hk k h0 h1) hI rfl hT0;have hr0:=hr;obtain ⟨v0,v1,rfl,z0,z1⟩:=TileSet.cells hr;exact heldTileSet_any v0 v1 q k w w.heap.size (Nat.le_refl _) hr0 h0 h1
end Go.Proofs.YtjkbngjiagknkaaGreatDoor
