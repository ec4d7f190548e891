/- Laws that the proof stands on. -/
import Derived.Test.YtdjjffhlplchjaaGreatDoorZVB
import Derived.Test.YtdjjffhlplchjaaGreatDoorZVTab
import Derived.Test.YtdjjffhlplchjaaGreatDoorZLay173
import Derived.Shelf.Strconv.Itoa4
import Derived.Test.YtdjjffhlplchjaaGreatDoorZg14
import Derived.Test.YtdjjffhlplchjaaGreatDoorZMkBase
import Derived.Test.YtdjjffhlplchjaaGreatDoorZTyBase
import Derived.Test.YtdjjffhlplchjaaGreatDoorZg13
import Derived.Test.YtdjjffhlplchjaaGreatDoorZg10
import Derived.Test.YtdjjffhlplchjaaGreatDoorProg
set_option linter.all false
namespace Go.Proofs.YtdjjffhlplchjaaGreatDoor
open Go.RowKit Go.V
set_option maxRecDepth 100000
theorem below_grow (w : World) (k : Nat) (os : Array Obj) : Below w.heap.size w (Sort.grow (w.drewN k) os) :=
  ⟨rfl,rfl,rfl,by simp [Sort.grow],fun i hi => by simp only [Sort.grow,World.heap_drewN];rw [Array.getElem?_append_left hi]⟩
def zMi (n : Int) : List UInt8:=Lib.itoa n
theorem zR1 (n : Int) (hn : InK .i64 n) : Contract Tryz.prog zA6 115 [.v (.int .i64 n),.v (.int .i64 10)] (.v (.string ⟨(zMi n).toArray⟩)):=by
  refine ⟨fun us W => by kernel_rfl,fun w I us hG hI hV => ?_⟩;obtain ⟨J,hJ,ht,_⟩:=hG;simp only [Vals,T] at hV;obtain ⟨_,_,_,_,rfl,_,⟨rfl,_⟩,_,_,_,_,rfl,_,⟨rfl,_⟩,rfl,_⟩:=hV;have h : -9223372036854775808 ≤ n ∧ n ≤ 9223372036854775807:=by have:=hn;unfold InK at this;omega
  refine (Any.strconv_FormatInt_10 Tryz.lays173 n (by omega) (by omega) w ht).mono ?_;rintro e w' ⟨rfl,k,os,rfl⟩;refine ⟨_,[],I,rfl,below_grow w k os,by simp only [T];exact ⟨rfl,trivial⟩,List.nodup_nil,(fun b h => by cases h),fun b h => h,fun b h => ⟨.inl h,?_⟩⟩;have:=hI b h;simp only [Sort.grow,World.heap_drewN,Array.size_append];omega
theorem zDk {α : Type} {ok : α → Prop} {mk : α → Int → α} {cn : α → Nat} (h : ∀ (x : α) (k : Int),0 ≤ k → k + (cn x : Nat) ≤ 4611686018427387904 → ok (mk x k)) : ∀ (xs : List α) (k : Int),0 ≤ k → k + (cnS cn xs : Nat) ≤ 4611686018427387904 → ∀ y,y ∈ mkL mk cn xs k → ok y
  | [],k,_,_,y,hy => by simp [mkL] at hy
  | x :: xs,k,h0,hk,y,hy => by
    have e : cnS cn (x :: xs) = cn x + cnS cn xs:=(by unfold cnS;rw [List.map_cons,List.sum_cons]);unfold mkL at hy;rcases List.mem_cons.1 hy with rfl | hy
    · exact h x k h0 (by omega)
    · exact zDk h xs _ (by omega) (by omega) y hy
theorem zQr (x : Int) (k : Int) (h0 : 0 ≤ k) (hk : k + (1 : Nat) ≤ 4611686018427387904) : (TD.int .i64).ok k:=show InK .i64 _ from ⟨by omega,by omega⟩
theorem Point.mkE_ok (x : Point) (k : Int) (h0 : 0 ≤ k) (hk : k + (Point.cnE x : Nat) ≤ 4611686018427387904) : Point.td.ok (Point.mkE x k):=by have hc : Point.cnE x = 1 + 1:=rfl;rw [Point.td_ok];exact ⟨(show InK .i64 (k) from ⟨by omega,by omega⟩),(show InK .i64 ((k + 1)) from ⟨by omega,by omega⟩)⟩
theorem Placed.mkE_ok (x : Placed) (k : Int) (h0 : 0 ≤ k) (hk : k + (Placed.cnE x : Nat) ≤ 4611686018427387904) : Placed.td.ok (Placed.mkE x k):=by have hc : Placed.cnE x = 1 + 1 + 1:=rfl;rw [Placed.td_ok];exact ⟨(by rw [Point.td_ok];exact ⟨(show InK .i64 (k) from ⟨by omega,by omega⟩),(show InK .i64 ((k + 1)) from ⟨by omega,by omega⟩)⟩),(show InK .i64 (((k + 1) + 1)) from ⟨by omega,by omega⟩)⟩
theorem Assembly.mkE_ok (x : Assembly) (k : Int) (h0 : 0 ≤ k) (hk : k + (Assembly.cnE x : Nat) ≤ 4611686018427387904) : Assembly.td.ok (Assembly.mkE x k):=by have hc : Assembly.cnE x = cnS Placed.cnE x.Tiles:=rfl;rw [Assembly.td_ok];exact (zDk (ok:=Placed.td.ok) Placed.mkE_ok _ k (by omega) (by omega))
theorem Assembly.mkT_ok (x : Assembly) (hx : Assembly.td.ok x) (k : Int) (h0 : 0 ≤ k) (hk : k + (Assembly.cnT x : Nat) ≤ 4611686018427387904) : Assembly.td.ok (Assembly.mkT x k):=by have hc : Assembly.cnT x = cnS Placed.cnE x.Tiles:=rfl;rw [Assembly.td_ok] at hx;rw [Assembly.td_ok];exact (zDk (ok:=Placed.td.ok) Placed.mkE_ok _ k (by omega) (by omega))
theorem Piece.mkE_ok (x : Piece) (k : Int) (h0 : 0 ≤ k) (hk : k + (Piece.cnE x : Nat) ≤ 4611686018427387904) : Piece.td.ok (Piece.mkE x k):=by have hc : Piece.cnE x = 1 + 1 + 1 + 1 + 1:=rfl;rw [Piece.td_ok];exact ⟨(show InK .i64 (k) from ⟨by omega,by omega⟩),(show InK .i64 ((k + 1)) from ⟨by omega,by omega⟩),(show InK .i64 (((k + 1) + 1)) from ⟨by omega,by omega⟩),(show InK .i64 ((((k + 1) + 1) + 1)) from ⟨by omega,by omega⟩),(show InK .i64 (((((k + 1) + 1) + 1) + 1)) from ⟨by omega,by omega⟩)⟩
theorem Design.mkE_ok (x : Design) (k : Int) (h0 : 0 ≤ k) (hk : k + (Design.cnE x : Nat) ≤ 4611686018427387904) : Design.td.ok (Design.mkE x k):=by have hc : Design.cnE x = cnS (fun _ => 1) x.Bottom + cnS (fun _ => 1) x.Left + cnS Piece.cnE x.Pieces:=rfl;rw [Design.td_ok];exact ⟨(zDk (ok:=(TD.int .i64).ok) zQr _ k (by omega) (by omega)),(zDk (ok:=(TD.int .i64).ok) zQr _ (k + (cnS (fun _ => 1) x.Bottom : Nat)) (by omega) (by omega)),(zDk (ok:=Piece.td.ok) Piece.mkE_ok _ ((k + (cnS (fun _ => 1) x.Bottom : Nat)) + (cnS (fun _ => 1) x.Left : Nat)) (by omega) (by omega))⟩
theorem zNm (q : Design) (hk : Design.td.ok q) (l : Int) (h0 : 0 ≤ l) (h1 : l ≤ 1048576) : Contract Tryz.prog zA6 5 [.agg (Design.td.d false q),.v (.int .i64 l)] (.v (.int .i64 (szR l (Design.cnt q)))):=by refine zD3 (fun us W => by kernel_rfl) fun w I us hI hV => ?_;obtain ⟨u0,us,rfl,hT0,hV⟩:=zD1 hV;obtain ⟨u1,us,rfl,hT1,hV⟩:=zD1 hV;obtain rfl:=zGm hV;obtain rfl:=T_v hT1;obtain ⟨cs,rfl,hr⟩:=TD.agg_dn Design.td hk hI rfl hT0;obtain ⟨v0,v1,v2,rfl,z0,z1,z2⟩:=Design.cells hr;exact zP3 v0 v1 v2 q l h0 h1 w w.heap.size (Nat.le_refl _) z0 z1 z2
theorem zVg (q : Design) (hk : Design.td.ok q) : Contract Tryz.prog zA6 10 [.agg (Design.td.d false q),.agg (Design.td.d false q)] (.v (.bool true)):=by refine zD3 (fun us W => by kernel_rfl) fun w I us hI hV => ?_;obtain ⟨u0,us,rfl,hT0,hV⟩:=zD1 hV;obtain ⟨u1,us,rfl,hT1,hV⟩:=zD1 hV;obtain rfl:=zGm hV;obtain ⟨cs,rfl,hr⟩:=TD.agg_dn Design.td hk hI rfl hT0;obtain ⟨ds,rfl,hs⟩:=TD.agg_dn Design.td hk hI rfl hT1;obtain ⟨v0,v1,v2,rfl,z0,z1,z2⟩:=Design.cells hr;obtain ⟨x0,x1,x2,rfl,y0,y1,y2⟩:=Design.cells hs;exact zQ3 v0 v1 v2 x0 x1 x2 q w w.heap.size (Nat.le_refl _) z0 z1 z2 y0 y1 y2
theorem Design.mkT_ok (x : Design) (hx : Design.td.ok x) (k : Int) (h0 : 0 ≤ k) (hk : k + (Design.cnT x : Nat) ≤ 4611686018427387904) : Design.td.ok (Design.mkT x k):=by have hc : Design.cnT x = cnS (fun _ => 1) x.Bottom + cnS (fun _ => 1) x.Left + cnS Piece.cnE x.Pieces:=rfl;rw [Design.td_ok] at hx;rw [Design.td_ok];exact ⟨(zDk (ok:=(TD.int .i64).ok) zQr _ k (by omega) (by omega)),(zDk (ok:=(TD.int .i64).ok) zQr _ (k + (cnS (fun _ => 1) x.Bottom : Nat)) (by omega) (by omega)),(zDk (ok:=Piece.td.ok) Piece.mkE_ok _ ((k + (cnS (fun _ => 1) x.Bottom : Nat)) + (cnS (fun _ => 1) x.Left : Nat)) (by omega) (by omega))⟩
theorem zPx (q : Design) (hk : Design.td.ok q) (k : Int) (h0 : 0 ≤ k) (h1 : k + (Design.cnT q : Nat) ≤ 4611686018427387904) : zE2 Tryz.prog zA6 11 0 [.undef,.v (.int .i64 k)] (.agg (Design.td.d true q)) (.v (.int .i64 (k + (Design.cnT q : Nat)))) (.agg (Design.td.d false (Design.mkT q k))):=by refine zUd Design.td (fun us W => by kernel_rfl) hk fun w cs X ho hn hX => ?_;have hr:=Ty.own_lt _ ho;obtain ⟨v0,v1,v2,rfl,z0,z1,z2⟩:=Design.cells hr;exact zNc v0 v1 v2 q k X w ho hn hX h0 h1
end Go.Proofs.YtdjjffhlplchjaaGreatDoor
