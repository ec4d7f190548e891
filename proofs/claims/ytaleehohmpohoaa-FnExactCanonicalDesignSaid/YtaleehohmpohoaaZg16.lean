/- Laws that the proof stands on. -/
import Derived.Test.YtaleehohmpohoaaZVB
import Derived.Test.YtaleehohmpohoaaZg14
import Derived.Test.YtaleehohmpohoaaZg11
import Derived.Test.YtaleehohmpohoaaZg6
import Derived.Test.YtaleehohmpohoaaZg12
set_option linter.all false
namespace Go.Proofs.Ytaleehohmpohoaa
open Go.RowKit Go.V
set_option maxRecDepth 100000
theorem mkL_ok {α:Type}{ok:α→Prop}{mk:α→Int→α}{cn:α→Nat}(h:∀ (x:α) (k:Int),0≤k→k+(cn x:Nat)≤4611686018427387904→ok (mk x k)):∀ (xs:List α) (k:Int),0≤k→k+(cnS cn xs:Nat)≤4611686018427387904→∀ y,y∈mkL mk cn xs k→ok y
  | [],k,_,_,y,hy=>by simp [mkL] at hy
  | x::xs,k,h0,hk,y,hy=>by
    have e:cnS cn (x::xs)=cn x+cnS cn xs:=(by unfold cnS;rw [List.map_cons,List.sum_cons]);unfold mkL at hy;rcases List.mem_cons.1 hy with rfl | hy
    · exact h x k h0 (by omega)
    · exact mkL_ok h xs _ (by omega) (by omega) y hy
theorem mkI_ok (x:Int)(k:Int)(h0:0≤k)(hk:k+(1:Nat)≤4611686018427387904):(TD.int .i64).ok k:=show InK .i64 _ from ⟨by omega,by omega⟩
theorem Piece.mkE_ok (x:Piece)(k:Int)(h0:0≤k)(hk:k+(Piece.cnE x:Nat)≤4611686018427387904):Piece.td.ok (Piece.mkE x k):=by have hc:Piece.cnE x=1+1+1+1+1:=rfl;rw [Piece.td_ok];exact ⟨(show InK .i64 (k) from ⟨by omega,by omega⟩),(show InK .i64 ((k+1)) from ⟨by omega,by omega⟩),(show InK .i64 (((k+1)+1)) from ⟨by omega,by omega⟩),(show InK .i64 ((((k+1)+1)+1)) from ⟨by omega,by omega⟩),(show InK .i64 (((((k+1)+1)+1)+1)) from ⟨by omega,by omega⟩)⟩
theorem Design.mkE_ok (x:Design)(k:Int)(h0:0≤k)(hk:k+(Design.cnE x:Nat)≤4611686018427387904):Design.td.ok (Design.mkE x k):=by have hc:Design.cnE x=cnS (fun _=>1) x.Bottom+cnS (fun _=>1) x.Left+cnS Piece.cnE x.Pieces:=rfl;rw [Design.td_ok];exact ⟨(mkL_ok (ok:=(TD.int .i64).ok) mkI_ok _ k (by omega) (by omega)),(mkL_ok (ok:=(TD.int .i64).ok) mkI_ok _ (k+(cnS (fun _=>1) x.Bottom:Nat)) (by omega) (by omega)),(mkL_ok (ok:=Piece.td.ok) Piece.mkE_ok _ ((k+(cnS (fun _=>1) x.Bottom:Nat))+(cnS (fun _=>1) x.Left:Nat)) (by omega) (by omega))⟩
theorem v_szDesign (q:Design)(hk:Design.td.ok q)(l:Int)(h0:0≤l)(h1:l≤1048576):Contract Try.prog NoG 7 [.agg (Design.td.d false q),.v (.int .i64 l)] (.v (.int .i64 (szR l (Design.cnt q)))):=by refine contract_plain (fun us W=>by kernel_rfl) fun w I us hI hV=>?_;obtain ⟨u0,us,rfl,hT0,hV⟩:=vals_one hV;obtain ⟨u1,us,rfl,hT1,hV⟩:=vals_one hV;obtain rfl:=vals_none hV;obtain rfl:=T_v hT1;obtain ⟨cs,rfl,hr⟩:=TD.agg_dn Design.td hk hI rfl hT0;obtain ⟨v0,v1,v2,rfl,z0,z1,z2⟩:=Design.cells hr;exact szDesign_any v0 v1 v2 q l h0 h1 w w.heap.size (Nat.le_refl _) z0 z1 z2
theorem v_eqDesign (q:Design)(hk:Design.td.ok q):Contract Try.prog NoG 11 [.agg (Design.td.d false q),.agg (Design.td.d false q)] (.v (.bool true)):=by refine contract_plain (fun us W=>by kernel_rfl) fun w I us hI hV=>?_;obtain ⟨u0,us,rfl,hT0,hV⟩:=vals_one hV;obtain ⟨u1,us,rfl,hT1,hV⟩:=vals_one hV;obtain rfl:=vals_none hV;obtain ⟨cs,rfl,hr⟩:=TD.agg_dn Design.td hk hI rfl hT0;obtain ⟨ds,rfl,hs⟩:=TD.agg_dn Design.td hk hI rfl hT1;obtain ⟨v0,v1,v2,rfl,z0,z1,z2⟩:=Design.cells hr;obtain ⟨x0,x1,x2,rfl,y0,y1,y2⟩:=Design.cells hs;exact eqDesign_any v0 v1 v2 x0 x1 x2 q w w.heap.size (Nat.le_refl _) z0 z1 z2 y0 y1 y2
theorem Design.mkT_ok (x:Design)(hx:Design.td.ok x)(k:Int)(h0:0≤k)(hk:k+(Design.cnT x:Nat)≤4611686018427387904):Design.td.ok (Design.mkT x k):=by have hc:Design.cnT x=cnS (fun _=>1) x.Bottom+cnS (fun _=>1) x.Left+cnS Piece.cnE x.Pieces:=rfl;rw [Design.td_ok] at hx;rw [Design.td_ok];exact ⟨(mkL_ok (ok:=(TD.int .i64).ok) mkI_ok _ k (by omega) (by omega)),(mkL_ok (ok:=(TD.int .i64).ok) mkI_ok _ (k+(cnS (fun _=>1) x.Bottom:Nat)) (by omega) (by omega)),(mkL_ok (ok:=Piece.td.ok) Piece.mkE_ok _ ((k+(cnS (fun _=>1) x.Bottom:Nat))+(cnS (fun _=>1) x.Left:Nat)) (by omega) (by omega))⟩
theorem v_markDesign (q:Design)(hk:Design.td.ok q)(k:Int)(h0:0≤k)(h1:k+(Design.cnT q:Nat)≤4611686018427387904):ContractL Try.prog NoG 12 0 [.undef,.v (.int .i64 k)] (.agg (Design.td.d true q)) (.v (.int .i64 (k+(Design.cnT q:Nat)))) (.agg (Design.td.d false (Design.mkT q k))):=by refine mark_agg Design.td (fun us W=>by kernel_rfl) hk fun w cs X ho hn hX=>?_;have hr:=Ty.own_lt _ ho;obtain ⟨v0,v1,v2,rfl,z0,z1,z2⟩:=Design.cells hr;exact markDesign_any v0 v1 v2 q k X w ho hn hX h0 h1
theorem v_heldDesign (q:Design)(hk:Design.td.ok q)(k:Int)(h0:0≤k)(h1:k+(Design.cnT q:Nat)≤4611686018427387904):Contract Try.prog NoG 13 [.agg (Design.td.d false (Design.mkT q k)),.v (.int .i64 k)] (.v (.int .i64 (k+(Design.cnT q:Nat)))):=by refine contract_plain (fun us W=>by kernel_rfl) fun w I us hI hV=>?_;obtain ⟨u0,us,rfl,hT0,hV⟩:=vals_one hV;obtain ⟨u1,us,rfl,hT1,hV⟩:=vals_one hV;obtain rfl:=vals_none hV;obtain rfl:=T_v hT1;obtain ⟨cs,rfl,hr⟩:=TD.agg_dn Design.td (Design.mkT_ok q hk k h0 h1) hI rfl hT0;have hr0:=hr;obtain ⟨v0,v1,v2,rfl,z0,z1,z2⟩:=Design.cells hr;exact heldDesign_any v0 v1 v2 q k w w.heap.size (Nat.le_refl _) hr0 h0 h1
end Go.Proofs.Ytaleehohmpohoaa
