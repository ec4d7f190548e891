/- Laws that the proof stands on. -/
import Derived.RangeFuncBox
import Derived.RangeFuncLeaves
import Derived.Shelf.Abstract
import Derived.WalkKit
import Derived.OwnWalkIn
import Derived.TacticsInMore
import Derived.LoopNIn
import Derived.LoopIn
import Derived.Test.YtaleehohmpohoaaZg16
set_option linter.all false
namespace Go.Proofs.Ytaleehohmpohoaa
open Go.V Go.RowKit
set_option maxRecDepth 100000
def p0:Piece:=⟨0,0,0,0,0⟩
def bkP (ps:List Piece)(k:Nat):List D:=[.v (.int .i64 ((ps.length-1-k:Nat):Int)),.agg (Piece.td.d false (ps.getD (ps.length-1-k) p0))]
def pcV (p:Piece):Value:=.agg #[.int .i64 p.Color,.int .i64 p.North,.int .i64 p.East,.int .i64 p.South,.int .i64 p.West]
theorem zQ0 (ps:List Piece):Contract Try.prog NoG 93 [.sl false 5 (ps.map (Piece.td.d false))] (.fn 109 [] [.iptr [.sl false 5 (ps.map (Piece.td.d false))] 0]):=by
  refine ⟨fun us W=>by kernel_rfl,fun w I us hG hI hV=>?_⟩;have hV0:=hV;simp only [Vals] at hV;obtain ⟨u,us',F1,F2,rfl,hF,hT,rfl,_⟩:=hV;have hF':=xD2.1 hF.symm;rw [hF'.1] at hT;have hT2:=hT;simp only [T] at hT;obtain ⟨a,c,rfl,_⟩:=hT;have hc:Calls Try.prog 93 #[.slice a (ps.map (Piece.td.d false)).length c] w fun e w'=>e=.returned (.func (.func 109) #[] #[.pointer (some ⟨w.heap.size,0,none⟩)])∧∃ ty,w'=w.alloc (.cells #[.slice a (ps.map (Piece.td.d false)).length c] ty):=by generalize (ps.map (Piece.td.d false)).length=len;go_enter Try.func93,Try.ntmps93;go_wp2;go_ret;exact ⟨rfl,_,rfl⟩
  refine hc.mono ?_;rintro e w' ⟨rfl,ty,rfl⟩;have hB:Below w.heap.size w (w.alloc (.cells #[.slice a (ps.map (Piece.td.d false)).length c] ty)):=(Below.refl _ w).alloc (xBj _) _;refine ⟨_,[],fun b=>I b∨b=w.heap.size,rfl,hB,?_,xC2,(fun _ h=>by cases h),(fun b hb=>.inl hb),(fun b hb=>?_)⟩
  · simp only [T,Vals,Cells];refine ⟨[],[.pointer (some ⟨w.heap.size,0,none⟩)],[],[],rfl,rfl,⟨rfl,rfl⟩,_,[],[],[],rfl,rfl,⟨rfl,w.heap.size,0,[.slice a (ps.map (Piece.td.d false)).length c],rfl,.inr rfl,?_,_,[],[],[],rfl,rfl,rfl,?_,rfl,rfl⟩,rfl,rfl⟩
    · intro j v hj;have hh:(w.alloc (.cells #[.slice a (ps.map (Piece.td.d false)).length c] ty)).heap[w.heap.size]?=some (.cells #[.slice a (ps.map (Piece.td.d false)).length c] ty):=World.alloc_heap_new w _;rw [zBh hh,xB2];simpa using hj
    · have:=T.keep (w':=w.alloc (.cells #[.slice a (ps.map (Piece.td.d false)).length c] ty)) _ hT2 (fun b hb=>hB.block b (by
        rcases hb with hb | hb
        · exact hI b hb
        · cases hb))
      have:=T.mono (I':=fun b=>I b∨b=w.heap.size) (fun b hb=>.inl hb) _ this;simpa only [T] using this
  · rcases hb with hb | rfl
    · exact ⟨.inl hb,by have:=hI b hb;simp;omega⟩
    · exact ⟨.inr (xBj _),by simp⟩
attribute [local go_sem] Oper.semAt_some
set_option maxHeartbeats 2000000 in
theorem zQc (ps:List Piece) (hn:ps.length≤1048576):yJh Try.prog NoG 109 [.iptr [.sl false 5 (ps.map (Piece.td.d false))] 0] ((List.range ps.length).map (bkP ps)):=by
  refine ⟨fun us W=>by kernel_rfl,fun w I us X hG hI hV hXn hX=>?_⟩;simp only [Vals] at hV;obtain ⟨u,us',F1,F2,rfl,hF,hT,rfl,hF2⟩:=hV;simp only [T,Cells] at hT;obtain ⟨hF1,b1,o1,raw1,rfl,hI1,hr1,sv,us2,G1,G2,rfl,hG12,_,⟨a,c,rfl,hc1,hc2,hsl⟩,rfl,rfl⟩:=hT;rw [xAw] at hc1;have hr1':w.cell? ⟨b1,o1,none⟩=some (.slice a (ps.map (Piece.td.d false)).length c):=hr1 0 _ rfl;rw [xAw] at hr1'
  -- the pieces' cells
  have hcell:∀ k,k<ps.length→∃ b o,a=some ⟨b,o,none⟩∧I b∧w.cell? ⟨b,o+k*5,none⟩=some (.int .i64 (ps.getD k p0).Color)∧w.cell? ⟨b,o+k*5+1,none⟩=some (.int .i64 (ps.getD k p0).North)∧w.cell? ⟨b,o+k*5+2,none⟩=some (.int .i64 (ps.getD k p0).East)∧w.cell? ⟨b,o+k*5+3,none⟩=some (.int .i64 (ps.getD k p0).South)∧w.cell? ⟨b,o+k*5+4,none⟩=some (.int .i64 (ps.getD k p0).West):=by
    intro k hk;rcases hsl with ⟨_,_,hsl⟩ | ⟨hno,_⟩
    case inr=>cases hno
    rcases hsl with hsl | ⟨b,o,raw,rfl,hIb,hr,hR⟩
    · rw [xEl] at hsl;rw [hsl] at hk;exact absurd hk qAh
    · obtain ⟨us,F',hC,_,hul,hat⟩:=Rows.at k hR (row:=Piece.td.d false (ps.getD k p0)) (by rw [xAy,xA1 hk,xA3,xA1 hk];rfl);rw [Piece.td_d] at hC;simp only [Cells,T] at hC;obtain ⟨u0,r0,A0,B0,rfl,_,_,⟨rfl,_⟩,u1,r1,A1,B1,rfl,_,_,⟨rfl,_⟩,u2,r2,A2,B2,rfl,_,_,⟨rfl,_⟩,u3,r3,A3,B3,rfl,_,_,⟨rfl,_⟩,u4,r4,A4,B4,rfl,_,_,⟨rfl,_⟩,rfl,_⟩:=hC;refine ⟨b,o,rfl,hIb,?_,?_,?_,?_,?_⟩
      · have:=hr _ _ (hat 0 _ rfl);simpa using this
      · have:=hr _ _ (hat 1 _ rfl);rw [← xDp] at this;exact this
      · have:=hr _ _ (hat 2 _ rfl);rw [← xDp] at this;exact this
      · have:=hr _ _ (hat 3 _ rfl);rw [← xDp] at this;exact this
      · have:=hr _ _ (hat 4 _ rfl);rw [← xDp] at this;exact this
  refine ⟨fun k=>[.int .i64 ((ps.length-1-k:Nat):Int),pcV (ps.getD (ps.length-1-k) p0)],fun k x hx=>?_,?_⟩
  · rw [xAy] at hx;cases hr:(List.range ps.length)[k]? with
    | none=>simp [hr] at hx
    | some j =>
      have hjk:j=k:=by
        have:=(xA4.1 hr)
        obtain ⟨h1,h2⟩:=this;simpa using h2.symm
      subst hjk;simp only [hr,xAx,xAv] at hx;subst hx;unfold bkP;rw [Piece.td_d];simp only [Vals,T,Cells,pcV];refine ⟨_,_,[],[],rfl,rfl,⟨rfl,rfl⟩,_,_,[],[],rfl,rfl,⟨_,rfl,?_⟩,rfl,rfl⟩;exact ⟨_,_,[],[],rfl,rfl,rfl,⟨rfl,rfl⟩,_,_,[],[],rfl,rfl,rfl,⟨rfl,rfl⟩,_,_,[],[],rfl,rfl,rfl,⟨rfl,rfl⟩,_,_,[],[],rfl,rfl,rfl,⟨rfl,rfl⟩,_,_,[],[],rfl,rfl,rfl,⟨rfl,rfl⟩,rfl,rfl⟩
  · rw [xAw,List.length_range];generalize hN:ps.length=N at *;intro l J Jx W M0 hW hM0X hM0 hU hJ hJa hJp hJx hY h0;have hM00:M0=[]:=by rw [hF,hF1,hF2] at hM0X;exact xEl.1 hM0X
    subst hM00;have hkeep0:yEk I w W:=fun b hb=>hW.block b (hI b hb);simp only [xGt] at *;refine callsIn_of_wp Try.func109 rfl trivial ?_ rfl;simp only [Try.ntmps109,xGf,xBk,xBy,Nat.reduceAdd,Nat.reduceSub,Array.replicate_succ,Array.replicate_zero,List.push_toArray,List.append_toArray,xBp,xBi];have hb1:W.cell? ⟨b1,o1,none⟩=some (.slice a N c):=(World.cell?_of_block (w:=w) (a:=⟨b1,o1,none⟩) (hkeep0 b1 hI1)).trans hr1';simp only [xEk];clear hr1 hF hG12 hsl hG hW hX hXn hM0X hM0 hU
    gi_wp2
    gi_loopw [3] (fun i wr=>∃ m:Nat,m≤N∧i=.int .i64 ((m:Int)-1)∧J (N-m) [] wr∧yEk I w wr) (fun i _=>(intOf i+1).toNat)
    case atStart=>exact ⟨N,xBj _,by simp,by rw [Nat.sub_self];exact h0,hkeep0⟩
    case round =>
      obtain ⟨m,hm,rfl,hJs,hk⟩:=hrel;have hb2:wr.cell? ⟨b1,o1,none⟩=some (.slice a N c):=(World.cell?_of_block (w:=w) (a:=⟨b1,o1,none⟩) (hk b1 hI1)).trans hr1';cases m with
      | zero =>
        gi_wp2
        go_end0
        exact ⟨⟨_,rfl⟩,.inl ⟨_,hJs⟩⟩
      | succ m =>
        obtain ⟨b,o,rfl,hIb,c0,c1,c2,c3,c4⟩:=hcell m qAc;have e1:(((m+1:Nat):Int)-1)=(m:Int):=qAc;rw [e1];have d0:=(World.cell?_of_block (w:=w) (a:=⟨b,o+m*5,none⟩) (hk b hIb)).trans c0;have d1:=(World.cell?_of_block (w:=w) (a:=⟨b,o+m*5+1,none⟩) (hk b hIb)).trans c1;have d2:=(World.cell?_of_block (w:=w) (a:=⟨b,o+m*5+2,none⟩) (hk b hIb)).trans c2;have d3:=(World.cell?_of_block (w:=w) (a:=⟨b,o+m*5+3,none⟩) (hk b hIb)).trans c3;have d4:=(World.cell?_of_block (w:=w) (a:=⟨b,o+m*5+4,none⟩) (hk b hIb)).trans c4;have hy0:=hY (N-(m+1)) [] wr qAc hJs;rw [show N-1-(N-(m+1))=m by omega,show N-(m+1)+1=N-m by omega] at hy0;obtain ⟨fn,tmps,assign,body,hy,hR⟩:=hy0;unfold pcV at hy;have hml:m<N:=qAc;clear hcell c0 c1 c2 c3 c4 hY;generalize ps.getD m p0=p at hy d0 d1 d2 d3 d4
        gi_wp2
        refine hR.mono ?_;rintro e W3 (⟨rfl,hJ3,hk3⟩ | ⟨rfl,hJx3⟩)
        · gi_wp2
          go_roundw
          case rel=>exact ⟨m,by omega,by simp,hJ3,fun b hb=>(hk3 b hb).trans (hk b hb)⟩
          case measure=>simp [intOf]
        · gi_wp2
          refine bodyPost_ret (results_none rfl _ _ _) rfl ?_;exact ⟨⟨_,rfl⟩,.inr hJx3⟩
end Go.Proofs.Ytaleehohmpohoaa
