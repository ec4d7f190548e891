/- Laws that the proof stands on. -/
import Derived.Test.YtdlchnlpmofpmaaGreatDoorZg12
import Derived.Test.YtdlchnlpmofpmaaGreatDoorZg18
import Derived.Test.YtdlchnlpmofpmaaGreatDoorZg17
import Derived.Test.YtdlchnlpmofpmaaGreatDoorZVTab
set_option linter.all false
namespace Go.Proofs.YtdlchnlpmofpmaaGreatDoor
open Go.RowKit Go.V
set_option maxRecDepth 100000
theorem Glue.mkE_ok (x:Glue)(k:Int)(h0:0≤k)(hk:k+(Glue.cnE x:Nat)≤4611686018427387904):Glue.td.ok (Glue.mkE x k):=by have hc:Glue.cnE x=1+1:=rfl;rw [Glue.td_ok];exact ⟨(zGr _),(show InK .i64 ((k+1)) from ⟨by omega,by omega⟩)⟩
theorem Tile.mkE_ok (x:Tile)(k:Int)(h0:0≤k)(hk:k+(Tile.cnE x:Nat)≤4611686018427387904):Tile.td.ok (Tile.mkE x k):=by have hc:Tile.cnE x=1+cnS (fun _=>1) x.Sides:=rfl;rw [Tile.td_ok];exact ⟨(zGr _),(zKq (ok:=(TD.int .i64).ok) ySo _ (k+1) (by omega) (by omega))⟩
theorem TileSet.mkE_ok (x:TileSet)(k:Int)(h0:0≤k)(hk:k+(TileSet.cnE x:Nat)≤4611686018427387904):TileSet.td.ok (TileSet.mkE x k):=by have hc:TileSet.cnE x=cnS Glue.cnE x.Glues+cnS Tile.cnE x.Tiles:=rfl;rw [TileSet.td_ok];exact ⟨(zKq (ok:=Glue.td.ok) Glue.mkE_ok _ k (by omega) (by omega)),(zKq (ok:=Tile.td.ok) Tile.mkE_ok _ (k+(cnS Glue.cnE x.Glues:Nat)) (by omega) (by omega))⟩
theorem zL3 (q:TileSet)(hk:TileSet.td.ok q)(l:Int)(h0:0≤l)(h1:l≤1048576):Contract Tryz.prog zAr 4 [.agg (TileSet.td.d false q),.v (.int .i64 l)] (.v (.int .i64 (szR l (TileSet.cnt q)))):=by refine zDi (fun us W=>by kernel_rfl) fun w I us hI hV=>?_;obtain ⟨u0,us,rfl,hT0,hV⟩:=zDf hV;obtain ⟨u1,us,rfl,hT1,hV⟩:=zDf hV;obtain rfl:=zFz hV;obtain rfl:=T_v hT1;obtain ⟨cs,rfl,hr⟩:=TD.agg_dn TileSet.td hk hI rfl hT0;obtain ⟨v0,v1,rfl,z0,z1⟩:=TileSet.cells hr;exact zPo v0 v1 q l h0 h1 w w.heap.size (Nat.le_refl _) z0 z1
theorem zTa (q:TileSet)(hk:TileSet.td.ok q):Contract Tryz.prog zAr 9 [.agg (TileSet.td.d false q),.agg (TileSet.td.d false q)] (.v (.bool true)):=by refine zDi (fun us W=>by kernel_rfl) fun w I us hI hV=>?_;obtain ⟨u0,us,rfl,hT0,hV⟩:=zDf hV;obtain ⟨u1,us,rfl,hT1,hV⟩:=zDf hV;obtain rfl:=zFz hV;obtain ⟨cs,rfl,hr⟩:=TD.agg_dn TileSet.td hk hI rfl hT0;obtain ⟨ds,rfl,hs⟩:=TD.agg_dn TileSet.td hk hI rfl hT1;obtain ⟨v0,v1,rfl,z0,z1⟩:=TileSet.cells hr;obtain ⟨x0,x1,rfl,y0,y1⟩:=TileSet.cells hs;exact zQd v0 v1 x0 x1 q w w.heap.size (Nat.le_refl _) z0 z1 y0 y1
theorem TileSet.mkT_ok (x:TileSet)(hx:TileSet.td.ok x)(k:Int)(h0:0≤k)(hk:k+(TileSet.cnT x:Nat)≤4611686018427387904):TileSet.td.ok (TileSet.mkT x k):=by have hc:TileSet.cnT x=cnS Glue.cnE x.Glues+cnS Tile.cnE x.Tiles:=rfl;rw [TileSet.td_ok] at hx;rw [TileSet.td_ok];exact ⟨(zKq (ok:=Glue.td.ok) Glue.mkE_ok _ k (by omega) (by omega)),(zKq (ok:=Tile.td.ok) Tile.mkE_ok _ (k+(cnS Glue.cnE x.Glues:Nat)) (by omega) (by omega))⟩
theorem zPm (q:TileSet)(hk:TileSet.td.ok q)(k:Int)(h0:0≤k)(h1:k+(TileSet.cnT q:Nat)≤4611686018427387904):zBj Tryz.prog zAr 10 0 [.undef,.v (.int .i64 k)] (.agg (TileSet.td.d true q)) (.v (.int .i64 (k+(TileSet.cnT q:Nat)))) (.agg (TileSet.td.d false (TileSet.mkT q k))):=by refine zVr TileSet.td (fun us W=>by kernel_rfl) hk fun w cs X ho hn hX=>?_;have hr:=Ty.own_lt _ ho;obtain ⟨v0,v1,rfl,z0,z1⟩:=TileSet.cells hr;exact zMq v0 v1 q k X w ho hn hX h0 h1
end Go.Proofs.YtdlchnlpmofpmaaGreatDoor
