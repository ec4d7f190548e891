/- Laws that the proof stands on. -/
import Derived.Test.YteaicicfbpehbaaGreatDoorZVB
import Derived.Test.YteaicicfbpehbaaGreatDoorZVTab
import Derived.Test.YteaicicfbpehbaaGreatDoorZLay173
import Derived.Shelf.Strconv.Itoa4
import Derived.Test.YteaicicfbpehbaaGreatDoorZg12
import Derived.Test.YteaicicfbpehbaaGreatDoorZg6
import Derived.Test.YteaicicfbpehbaaGreatDoorZg11
import Derived.Test.YteaicicfbpehbaaGreatDoorZg7
set_option linter.all false
namespace Go.Proofs.YteaicicfbpehbaaGreatDoor
open Go.RowKit Go.V
set_option maxRecDepth 100000
theorem below_grow (w:World) (k:Nat) (os:Array Obj):Below w.heap.size w (Sort.grow (w.drewN k) os) :=
  ⟨rfl,rfl,rfl,by simp [Sort.grow],fun i hi=>by simp only [Sort.grow,World.heap_drewN];rw [Array.getElem?_append_left hi]⟩
def zM3 (n:Int):List UInt8:=Lib.itoa n
theorem zSt (n:Int) (hn:InK .i64 n):Contract Tryz.prog zA8 99 [.v (.int .i64 n),.v (.int .i64 10)] (.v (.string ⟨(zM3 n).toArray⟩)):=by
  refine ⟨fun us W=>by kernel_rfl,fun w I us hG hI hV=>?_⟩;obtain ⟨J,hJ,ht,_⟩:=hG;simp only [Vals,T] at hV;obtain ⟨_,_,_,_,rfl,_,⟨rfl,_⟩,_,_,_,_,rfl,_,⟨rfl,_⟩,rfl,_⟩:=hV;have h : -9223372036854775808≤n∧n≤9223372036854775807:=by have:=hn;unfold InK at this;omega
  refine (Any.strconv_FormatInt_10 Tryz.lays173 n (by omega) (by omega) w ht).mono ?_;rintro e w' ⟨rfl,k,os,rfl⟩;refine ⟨_,[],I,rfl,below_grow w k os,by simp only [T];exact ⟨rfl,trivial⟩,List.nodup_nil,(fun b h=>by cases h),fun b h=>h,fun b h=>⟨.inl h,?_⟩⟩;have:=hI b h;simp only [Sort.grow,World.heap_drewN,Array.size_append];omega
theorem zDz {α:Type} {ok:α→Prop} {mk:α→Int→α} {cn:α→Nat} (h:∀ (x:α) (k:Int),0≤k→k+(cn x:Nat)≤4611686018427387904→ok (mk x k)):∀ (xs:List α) (k:Int),0≤k→k+(cnS cn xs:Nat)≤4611686018427387904→∀ y,y∈mkL mk cn xs k→ok y
  | [],k,_,_,y,hy=>by simp [mkL] at hy
  | x::xs,k,h0,hk,y,hy=>by
    have e:cnS cn (x::xs)=cn x+cnS cn xs:=(by unfold cnS;rw [List.map_cons,List.sum_cons]);unfold mkL at hy;rcases List.mem_cons.1 hy with rfl | hy
    · exact h x k h0 (by omega)
    · exact zDz h xs _ (by omega) (by omega) y hy
theorem yA4 {α:Type} {ok:α→Prop} {mk:α→Int→α} {cn:α→Nat} (h:∀ (x:α) (k:Int),0≤k→k+(cn x:Nat)≤4611686018427387904→ok (mk x k)):∀ (xs:List α) (k:Int),0≤k→k+(cnS cn xs:Nat)≤4611686018427387904→∀ y,y∈mkL mk cn xs k→ok y:=zDz h
theorem yA5 (x:Int) (k:Int) (h0:0≤k) (hk:k+(1:Nat)≤4611686018427387904):(TD.int .i64).ok k:=show InK .i64 _ from ⟨by omega,by omega⟩
theorem zV4 (q:List Int) (hk:∀ x,x∈q→(TD.int .i64).ok x):Contract Tryz.prog zA8 11 [(.sl false 1 (q.map (rI))),(.sl false 1 (q.map (rI)))] (.v (.bool true)):=by refine zDm (fun us W=>by kernel_rfl) fun w I us hI hV=>?_;obtain ⟨u0,us,rfl,hT0,hV⟩:=zDo hV;obtain ⟨u1,us,rfl,hT1,hV⟩:=zDo hV;obtain rfl:=zFo hV;have hr:=TD.sl_dn (e:=2) (TD.int .i64) hk hI rfl hT0;have hs:=TD.sl_dn (e:=2) (TD.int .i64) hk hI rfl hT1;exact zHc _ _ q w w.heap.size (Nat.le_refl _) hr hs
theorem zQp (q:List Int) (hk:∀ x,x∈q→(TD.int .i64).ok x) (k:Int) (h0:0≤k) (h1:k+(cnS (fun _=>1) q:Nat)≤4611686018427387904):zB6 Tryz.prog zA8 13 0 [.undef,.v (.int .i64 k)] (.sl true 1 (q.map (rI))) (.v (.int .i64 (k+(cnS (fun _=>1) q:Nat)))) (.sl false 1 ((mkL (fun _ n=>n) (fun _=>1) q k).map (rI))):=by exact yLp (e:=2) (TD.int .i64) (fun us W=>by kernel_rfl) hk fun w u X ho hn hX=>zFm u q k X w ho hn hX h0 h1
theorem Point.mkE_ok (x:Point) (k:Int) (h0:0≤k) (hk:k+(Point.cnE x:Nat)≤4611686018427387904):Point.td.ok (Point.mkE x k):=by have hc:Point.cnE x=1+1:=rfl;rw [Point.td_ok];exact ⟨(show InK .i64 (k) from ⟨by omega,by omega⟩),(show InK .i64 ((k+1)) from ⟨by omega,by omega⟩)⟩
theorem Placed.mkE_ok (x:Placed) (k:Int) (h0:0≤k) (hk:k+(Placed.cnE x:Nat)≤4611686018427387904):Placed.td.ok (Placed.mkE x k):=by have hc:Placed.cnE x=1+1+1:=rfl;rw [Placed.td_ok];exact ⟨(by rw [Point.td_ok];exact ⟨(show InK .i64 (k) from ⟨by omega,by omega⟩),(show InK .i64 ((k+1)) from ⟨by omega,by omega⟩)⟩),(show InK .i64 (((k+1)+1)) from ⟨by omega,by omega⟩)⟩
theorem Assembly.mkE_ok (x:Assembly) (k:Int) (h0:0≤k) (hk:k+(Assembly.cnE x:Nat)≤4611686018427387904):Assembly.td.ok (Assembly.mkE x k):=by have hc:Assembly.cnE x=cnS Placed.cnE x.Tiles:=rfl;rw [Assembly.td_ok];exact (zDz (ok:=Placed.td.ok) Placed.mkE_ok _ k (by omega) (by omega))
theorem Assembly.mkT_ok (x:Assembly) (hx:Assembly.td.ok x) (k:Int) (h0:0≤k) (hk:k+(Assembly.cnT x:Nat)≤4611686018427387904):Assembly.td.ok (Assembly.mkT x k):=by have hc:Assembly.cnT x=cnS Placed.cnE x.Tiles:=rfl;rw [Assembly.td_ok] at hx;rw [Assembly.td_ok];exact (zDz (ok:=Placed.td.ok) Placed.mkE_ok _ k (by omega) (by omega))
theorem Cube.mkE_ok (x:Cube) (k:Int) (h0:0≤k) (hk:k+(Cube.cnE x:Nat)≤4611686018427387904):Cube.td.ok (Cube.mkE x k):=by have hc:Cube.cnE x=1+1:=rfl;rw [Cube.td_ok];exact ⟨(show InK .i64 (k) from ⟨by omega,by omega⟩),(show InK .i64 ((k+1)) from ⟨by omega,by omega⟩)⟩
theorem Form.mkE_ok (x:Form) (k:Int) (h0:0≤k) (hk:k+(Form.cnE x:Nat)≤4611686018427387904):Form.td.ok (Form.mkE x k):=by have hc:Form.cnE x=1+cnS Cube.cnE x.Cubes+cnS (cnS (fun _=>1)) x.Sums:=rfl;rw [Form.td_ok];exact ⟨(show InK .i64 (k) from ⟨by omega,by omega⟩),(zDz (ok:=Cube.td.ok) Cube.mkE_ok _ (k+1) (by omega) (by omega)),(zDz (ok:=(TD.slice 2 (TD.int .i64)).ok) (yA4 yA5) _ ((k+1)+(cnS Cube.cnE x.Cubes:Nat)) (by omega) (by omega))⟩
theorem zUg (q:Form) (hk:Form.td.ok q) (l:Int) (h0:0≤l) (h1:l≤1048576):Contract Tryz.prog zA8 4 [.agg (Form.td.d false q),.v (.int .i64 l)] (.v (.int .i64 (szR l (Form.cnt q)))):=by refine zDm (fun us W=>by kernel_rfl) fun w I us hI hV=>?_;obtain ⟨u0,us,rfl,hT0,hV⟩:=zDo hV;obtain ⟨u1,us,rfl,hT1,hV⟩:=zDo hV;obtain rfl:=zFo hV;obtain rfl:=T_v hT1;obtain ⟨cs,rfl,hr⟩:=TD.agg_dn Form.td hk hI rfl hT0;obtain ⟨v0,v1,rfl,z0,z1,z2⟩:=Form.cells hr;exact zV7 v0 v1 q l h0 h1 w w.heap.size (Nat.le_refl _) z1 z2
theorem yC5 (q:Form) (hk:Form.td.ok q):Contract Tryz.prog zA8 10 [.agg (Form.td.d false q),.agg (Form.td.d false q)] (.v (.bool true)):=by refine zDm (fun us W=>by kernel_rfl) fun w I us hI hV=>?_;obtain ⟨u0,us,rfl,hT0,hV⟩:=zDo hV;obtain ⟨u1,us,rfl,hT1,hV⟩:=zDo hV;obtain rfl:=zFo hV;obtain ⟨cs,rfl,hr⟩:=TD.agg_dn Form.td hk hI rfl hT0;obtain ⟨ds,rfl,hs⟩:=TD.agg_dn Form.td hk hI rfl hT1;obtain ⟨v0,v1,rfl,z0,z1,z2⟩:=Form.cells hr;obtain ⟨x0,x1,rfl,y0,y1,y2⟩:=Form.cells hs;exact zXx v0 v1 x0 x1 q w w.heap.size (Nat.le_refl _) z1 z2 y1 y2
theorem Form.mkT_ok (x:Form) (hx:Form.td.ok x) (k:Int) (h0:0≤k) (hk:k+(Form.cnT x:Nat)≤4611686018427387904):Form.td.ok (Form.mkT x k):=by have hc:Form.cnT x=cnS Cube.cnE x.Cubes+cnS (cnS (fun _=>1)) x.Sums:=rfl;rw [Form.td_ok] at hx;rw [Form.td_ok];exact ⟨hx.1,(zDz (ok:=Cube.td.ok) Cube.mkE_ok _ k (by omega) (by omega)),(zDz (ok:=(TD.slice 2 (TD.int .i64)).ok) (yA4 yA5) _ (k+(cnS Cube.cnE x.Cubes:Nat)) (by omega) (by omega))⟩
theorem zV0 (q:Form) (hk:Form.td.ok q) (k:Int) (h0:0≤k) (h1:k+(Form.cnT q:Nat)≤4611686018427387904):zB6 Tryz.prog zA8 12 0 [.undef,.v (.int .i64 k)] (.agg (Form.td.d true q)) (.v (.int .i64 (k+(Form.cnT q:Nat)))) (.agg (Form.td.d false (Form.mkT q k))):=by refine zU1 Form.td (fun us W=>by kernel_rfl) hk fun w cs X ho hn hX=>?_;have hr:=Ty.own_lt _ ho;obtain ⟨v0,v1,rfl,z0,z1,z2⟩:=Form.cells hr;exact zRj v0 v1 q k X w ho hn hX h0 h1
end Go.Proofs.YteaicicfbpehbaaGreatDoor
