/- Laws that the proof stands on. -/
import Derived.RangeFuncBox
import Derived.RangeFuncLeaves
import Derived.Shelf.Abstract
import Derived.Shelf.RegionOpen
import Derived.WalkKit
import Derived.OwnWalkIn
import Derived.TacticsInMore
import Derived.LoopNIn
import Derived.LoopIn
import Derived.RegionIn
import Derived.Test.YtaleehohmpohoaaZVB
import Derived.Test.YtaleehohmpohoaaProg
import Derived.Test.YtaleehohmpohoaaZg8
import Derived.Shelf.Slices.ReverseS
import Derived.Shelf.Strings.Builder1
import Derived.Shelf.Strings.OnBuilder
set_option linter.all false
namespace Go.Proofs.Ytaleehohmpohoaa
open Go.V Go.RowKit
set_option maxRecDepth 100000
def vJ (x:Int):Value:=.int .i64 x
theorem yOa {I:Nat→Prop}{w:World}:∀ (xs:List Int) {rw:List Value} {F:List Nat},Go.V.Rows I w 1 (xs.map rI) rw F→rw=xs.map vJ∧F=[]
  | [],rw,F,h=>by simpa [Go.V.Rows] using h
  | x::xs,rw,F,h=>by simp only [xA6,Go.V.Rows,rI,Cells,T] at h;obtain ⟨us,rw',F1,F2,rfl,rfl,_,⟨u,us',A,B,rfl,rfl,_,⟨rfl,rfl⟩,rfl,rfl⟩,hr⟩:=h;obtain ⟨rfl,rfl⟩:=yOa xs hr;exact ⟨rfl,rfl⟩
theorem yGe {I:Nat→Prop}{w:World}:∀ (xs:List Int),Go.V.Rows I w 1 (xs.map rI) (xs.map vJ) []
  | []=>by simp [Go.V.Rows]
  | x::xs=>by simp only [xA6,Go.V.Rows,rI,Cells,T];exact ⟨[vJ x],xs.map vJ,[],[],rfl,rfl,rfl,⟨vJ x,[],[],[],rfl,rfl,rfl,⟨rfl,rfl⟩,rfl,rfl⟩,yGe xs⟩
def yI3 (xs:List Int)(n k:Nat):List Int:=(xs.drop (k*n)).take n
theorem zWh {xs:List Int}{n m k:Nat}(hl:xs.length=m*n)(hk:k<m):(yI3 xs n k).length=n:=by unfold yI3;rw [xDh,xEh,hl];have:(k+1)*n≤m*n:=xD0 n hk;rw [xC8,xDs] at this;omega
theorem yPb (xs:List Int) (n:Nat) (hn:1≤n) (hn2:n≤1048576):Contract Try.prog NoG 87 [.sl false 1 (xs.map rI),.v (.int .i64 (n:Nat))] (.fn 105 [] [.iptr [.sl false 1 (xs.map rI)] 0,.iptr [.v (.int .i64 (n:Nat))] 0]):=by
  refine ⟨fun us W=>by kernel_rfl,fun w I us hG hI hV=>?_⟩;simp only [Vals] at hV;obtain ⟨u,us',F1,F2,rfl,hF,hT,u2,us2,F3,F4,rfl,hF2,hTv,rfl,hF4⟩:=hV;have hF':=xD2.1 hF.symm;rw [hF'.1] at hT;have hT2:=hT;simp only [T] at hTv;obtain ⟨rfl,rfl⟩:=hTv;simp only [T] at hT;obtain ⟨a,c,rfl,_⟩:=hT;have hc:Calls Try.prog 87 #[.slice a (xs.map rI).length c,.int .i64 (n:Nat)] w fun e w'=>e=.returned (.func (.func 105) #[] #[.pointer (some ⟨w.heap.size,0,none⟩),.pointer (some ⟨w.heap.size+1,0,none⟩)])∧∃ ty ty2,w'=(w.alloc (.cells #[.slice a (xs.map rI).length c] ty)).alloc (.cells #[.int .i64 (n:Nat)] ty2):=by generalize (xs.map rI).length=len;go_enter Try.func87,Try.ntmps87;go_wp2;go_ret;exact ⟨by simp,_,_,rfl⟩
  refine hc.mono ?_;rintro e w' ⟨rfl,ty,ty2,rfl⟩;generalize hw1:w.alloc (.cells #[.slice a (xs.map rI).length c] ty)=w1;have hs1:w1.heap.size=w.heap.size+1:=by rw [← hw1];simp
  have hB1:Below w.heap.size w w1:=(by rw [← hw1];exact (Below.refl _ w).alloc (xBj _) _);have hB:Below w.heap.size w (w1.alloc (.cells #[.int .i64 (n:Nat)] ty2)):=hB1.alloc qAc _;have k1:(w1.alloc (.cells #[.int .i64 (n:Nat)] ty2)).heap[w.heap.size]?=some (.cells #[.slice a (xs.map rI).length c] ty):=(by have h1:w1.heap[w.heap.size]?=some (.cells #[.slice a (xs.map rI).length c] ty):=(by rw [← hw1];exact World.alloc_heap_new w _);rw [zX4,if_neg qAc];exact h1);have k2:(w1.alloc (.cells #[.int .i64 (n:Nat)] ty2)).heap[w.heap.size+1]?=some (.cells #[.int .i64 (n:Nat)] ty2):=(by rw [← hs1];exact World.alloc_heap_new w1 _);refine ⟨_,[],fun b=>I b∨b=w.heap.size∨b=w.heap.size+1,rfl,hB,?_,xC2,(fun _ h=>by cases h),(fun b hb=>.inl hb),(fun b hb=>?_)⟩
  · simp only [T,Vals,Cells];refine ⟨[],[.pointer (some ⟨w.heap.size,0,none⟩),.pointer (some ⟨w.heap.size+1,0,none⟩)],[],[],rfl,rfl,⟨rfl,rfl⟩,_,[_],[],[],rfl,rfl,⟨rfl,w.heap.size,0,[.slice a (xs.map rI).length c],rfl,.inr (.inl rfl),?_,_,[],[],[],rfl,rfl,rfl,?_,rfl,rfl⟩,_,[],[],[],rfl,rfl,⟨rfl,w.heap.size+1,0,[.int .i64 (n:Nat)],rfl,.inr (.inr rfl),?_,_,[],[],[],rfl,rfl,rfl,⟨rfl,rfl⟩,rfl,rfl⟩,rfl,rfl⟩
    · intro j v hj;rw [zBh k1,xB2];simpa using hj
    · have:=T.keep (w':=w1.alloc (.cells #[.int .i64 (n:Nat)] ty2)) _ hT2 (fun b hb=>hB.block b (by
        rcases hb with hb | hb
        · exact hI b hb
        · cases hb))
      have:=T.mono (I':=fun b=>I b∨b=w.heap.size∨b=w.heap.size+1) (fun b hb=>.inl hb) _ this;simpa only [T] using this
    · intro j v hj;rw [zBh k2,xB2];simpa using hj
  · rcases hb with hb | rfl | rfl
    · exact ⟨.inl hb,by have:=hI b hb;simp;omega⟩
    · exact ⟨.inr (xBj _),by simp;omega⟩
    · exact ⟨.inr qAc,by simp;omega⟩
def shA (a:Option Addr)(k:Nat):Option Addr:=match a with
  | some ⟨b,o,x⟩=>some ⟨b,o+k,x⟩
  | none=>none
attribute [local go_sem] Oper.semAt_some
set_option maxHeartbeats 2000000 in
theorem yMi (xs:List Int) (n m:Nat) (hn:1≤n) (hl:xs.length=m*n) (hx:xs.length≤1048576):yJh Try.prog NoG 105 [.iptr [.sl false 1 (xs.map rI)] 0,.iptr [.v (.int .i64 (n:Nat))] 0] ((List.range m).map fun k=>[.sl false 1 ((yI3 xs n k).map rI)]):=by
  refine ⟨fun us W=>by kernel_rfl,fun w I us X hG hI hV hXn hX=>?_⟩;simp only [Vals] at hV;obtain ⟨u,us',F1,F2,rfl,hF,hT,u2,us2,F3,F4,rfl,hF2,hTv,rfl,hF4⟩:=hV;simp only [T,Cells] at hT hTv;obtain ⟨hF1,b1,o1,raw1,rfl,hI1,hr1,sv,us3,G1,G2,rfl,-,-,⟨a,c,rfl,hc1,hc2,hsl⟩,rfl,rfl⟩:=hT;obtain ⟨hF3,b2,o2,raw2,rfl,hI2,hr2,sv2,us4,G3,G4,rfl,-,-,⟨rfl,-⟩,rfl,-⟩:=hTv;rw [xAw] at hc1;have hr1':w.cell? ⟨b1,o1,none⟩=some (.slice a (xs.map rI).length c):=hr1 0 _ rfl;have hr2':w.cell? ⟨b2,o2,none⟩=some (.int .i64 (n:Nat)):=hr2 0 _ rfl;rw [xAw] at hr1';have hA:0<xs.length→∃ b o,a=some ⟨b,o,none⟩∧I b∧w.rangeAt b o (xs.map vJ):=by
    intro hpos;rcases hsl with ⟨_,_,hsl⟩ | ⟨hno,_⟩
    case inr=>cases hno
    rcases hsl with hsl | ⟨b,o,raw,rfl,hIb,hr,hR⟩
    · rw [xEl] at hsl;rw [hsl] at hpos;exact absurd hpos qAh
    · obtain ⟨rfl,_⟩:=yOa xs hR;exact ⟨b,o,rfl,hIb,hr⟩
  clear hsl;refine ⟨fun k=>[.slice (shA a (k*n)) n n],fun k x hx2=>?_,?_⟩
  · rw [xAy] at hx2;cases hr:(List.range m)[k]? with
    | none=>simp [hr] at hx2
    | some j =>
      have hkj:=xA4.1 hr;have hjk:j=k:=(by obtain ⟨h1,h2⟩:=hkj;simpa using h2.symm);have hkm:k<m:=(by obtain ⟨h1,_⟩:=hkj;simpa using h1);subst hjk;simp only [hr,xAx,xAv] at hx2;subst hx2;have hlen:=zWh hl hkm;have hmul:(j+1)*n≤m*n:=xD0 n hkm;rw [xC8,xDs] at hmul;obtain ⟨b,o,rfl,hIb,hr5⟩:=hA qAc;simp only [Vals,T,xAw,hlen];refine ⟨_,[],[],[],rfl,rfl,⟨_,_,rfl,xBj _,by unfold maxLen;omega,.inl ⟨by first | trivial | rfl,by first | trivial | rfl,.inr ⟨b,o+j*n,(yI3 xs n j).map vJ,rfl,hIb,fun q v hq=>?_,yGe _⟩⟩⟩,rfl,rfl⟩;have:(xs.map vJ)[j*n+q]?=some v:=by
        unfold yI3 at hq;rw [xAy,xDt] at hq;split at hq
        · rwa [xDb,← xAy] at hq
        · cases hq
      have:=hr5 _ _ this;rwa [← xDp] at this
  · rw [xAw,List.length_range];generalize hL:xs.length=L at *;intro l J Jx W M0 hW hM0X hM0 hU hJ hJa hJp hJx hY h0;have hM00:M0=[]:=by rw [hF,hF1,hF2,hF3,hF4] at hM0X;exact xEl.1 hM0X
    subst hM00;have hkeep0:yEk I w W:=fun b hb=>hW.block b (hI b hb);simp only [xGt] at *;refine callsIn_of_wp Try.func105 rfl trivial ?_ rfl;simp only [Try.ntmps105,xGf,xBk,xBy,Nat.reduceAdd,Nat.reduceSub,Array.replicate_succ,Array.replicate_zero,List.push_toArray,List.append_toArray,xBp,xBi];simp only [xEk];clear hr1 hr2 hF hF1 hF2 hF3 hF4 hG hW hX hXn hM0X hM0 hU
    gi_wp2
    gi_loopw [4] (fun i wr=>∃ k:Nat,k≤m∧i=.int .i64 ((k*n:Nat):Int)∧J k [] wr∧yEk I w wr) (fun i _=>L-(intOf i).toNat)
    case atStart=>exact ⟨0,xCs _,by simp,h0,hkeep0⟩
    case round =>
      obtain ⟨k,hk,rfl,hJs,hkp⟩:=hrel;have e1:wr.cell? ⟨b1,o1,none⟩=some (.slice a L c):=(World.cell?_of_block (w:=w) (a:=⟨b1,o1,none⟩) (hkp b1 hI1)).trans hr1';have e2:wr.cell? ⟨b2,o2,none⟩=some (.int .i64 (n:Nat)):=(World.cell?_of_block (w:=w) (a:=⟨b2,o2,none⟩) (hkp b2 hI2)).trans hr2';by_cases hlt:k<m
      · have hmul:(k+1)*n≤m*n:=xD0 n hlt;have hk1:(k+1)*n=k*n+n:=(by rw [xC8,xDs]);rw [hk1] at hmul;obtain ⟨b,o,rfl,hIb,-⟩:=hA qAc;have hJd:=hJ _ _ wr wr.drew hJs ((Below.refl _ _).drew);have hy0:=hY k [] wr.drew qAc hJd;generalize hi:k*n=i at *;have q1:i+n≤L:=qAc;have q2:(i:Int)<(L:Int):=qAc;have q3:IntKind.i64.wrap ((i:Int)+(n:Int))=(i:Int)+(n:Int):=wrI qAc qAc;have q4:i≤L:=qAc;have q5:min (n:Int) ((L-i:Nat):Int)=(n:Int):=qAc;have q6:min (n:Int) ((L:Int)-(i:Int))=(n:Int):=qAc;have HI:=Lib.hid hi;have HL:=Lib.hid hl;have HK1:=Lib.hid hk1;have HY:=Lib.hid hy0;have HJ:=Lib.hid hJs;have HD:=Lib.hid hJd;have HP:=Lib.hid hJp;have HJa:=Lib.hid hJa;have HJx:=Lib.hid hJx;have HJJ:=Lib.hid hJ;have HKP:=Lib.hid hkp;have HK0:=Lib.hid hkeep0;have hiL:decide ((i:Int)<(L:Int))=true:=decide_eq_true q2;clear hA hmul hi hl hk1 hy0 hY hJs hJd hJp hJa hJx hJ hkp hkeep0 h0;have mixed:Try.prog.follows .mixedOrders=true:=(by kernel_rfl);have hmin:¬ (L-i<n):=qAc;have hne:¬ (i+n=i):=by omega
        gi_wp2
        gi_region_with_o (fail)
        all_goals
          try simp only [if_neg hmin]
          try simp only [xA7,if_neg hmin]
          obtain ⟨fn,tmps,assign,body,hy,hR⟩:=HY.out;simp only [shA] at hy
          gi_wp2
          refine hR.mono ?_;rintro e W3 (⟨rfl,hJ3,hk3⟩ | ⟨rfl,hJx3⟩)
          · have e3:W3.cell? ⟨b2,o2,none⟩=some (.int .i64 (n:Nat)):=(World.cell?_of_block (w:=w) (a:=⟨b2,o2,none⟩) ((hk3 b2 hI2).trans (HKP.out b2 hI2))).trans hr2'
            gi_wp2
            go_roundw
            case rel=>exact ⟨k+1,hlt,by rw [HK1.out];go_num,hJ3,fun z hz=>(hk3 z hz).trans (HKP.out z hz)⟩
            case measure=>simp [intOf];omega
          · gi_wp2
            refine bodyPost_ret (results_none rfl _ _ _) rfl ?_;exact ⟨⟨_,rfl⟩,.inr hJx3⟩
      · obtain rfl:k=m:=qAc;have hnl:¬ ((L:Int)<(L:Int)):=qAc;have HL:=Lib.hid hl;have HJ:=Lib.hid hJs;rw [← hl];clear hY hJp hJa hJx hJ hkp hkeep0 h0 hl hJs hA
        gi_wp2
        go_end0
        exact ⟨⟨_,rfl⟩,.inl ⟨_,HJ.out⟩⟩
def bL (x:ByteArray):List UInt8:=x.data.toList
def eS (l:List UInt8):Value:=.string ⟨l.toArray⟩
theorem yZy (x:ByteArray):eS (bL x)=.string x:=by unfold eS bL;simp
theorem yN8 {I:Nat→Prop}{w:World}:∀ (xs:List ByteArray) {rw:List Value} {F:List Nat},Go.V.Rows I w 1 (xs.map rS) rw F→rw=xs.map Value.string∧F=[]
  | [],rw,F,h=>by simpa [Go.V.Rows] using h
  | x::xs,rw,F,h=>by simp only [xA6,Go.V.Rows,rS,Cells,T] at h;obtain ⟨us,rw',F1,F2,rfl,rfl,_,⟨u,us',A,B,rfl,rfl,_,⟨rfl,rfl⟩,rfl,rfl⟩,hr⟩:=h;obtain ⟨rfl,rfl⟩:=yN8 xs hr;exact ⟨rfl,rfl⟩
theorem yN2 (I:Nat→Prop)(w:World):∀ (xs:List ByteArray),Go.V.Rows I w 1 (xs.map rS) (xs.map Value.string) []
  | []=>by simp [Go.V.Rows]
  | x::xs=>by simp only [xA6,Go.V.Rows];exact ⟨[.string x],xs.map Value.string,[],[],rfl,rfl,rfl,by simp only [rS,Cells,T];exact ⟨.string x,[],[],[],rfl,rfl,rfl,⟨rfl,rfl⟩,rfl,rfl⟩,yN2 I w xs⟩
theorem yGt {w:World}{b o:Nat}{d:Array (List UInt8)}{cells:Array Value}{e:TypeId}{n:Nat}(hh:w.heap[b]?=some (.cells cells e (0,0))) :
    (Go.Sort.putRow eS (Go.Sort.ahead w n) b o d).heap[b]?=some (.cells (Go.Sort.putCells eS o d cells) e (0,0))∧(∀ j,j<w.heap.size→j≠b→(Go.Sort.putRow eS (Go.Sort.ahead w n) b o d).heap[j]?=w.heap[j]?)∧w.heap.size≤(Go.Sort.putRow eS (Go.Sort.ahead w n) b o d).heap.size:=by
  unfold Go.Sort.putRow Go.Sort.mapBlock Go.Sort.ahead;refine ⟨?_,fun j hj hne=>?_,by simp⟩
  · simp only;rw [xDv,if_pos rfl,hh];rfl
  · simp only;rw [xDv,if_neg (fun e=>hne e.symm)]
theorem yGu {w:World}{b o:Nat}{ys:List (List UInt8)}{cells:Array Value}{e:TypeId}{c:Nat}(hh:w.heap[b]?=some (.cells (Go.Sort.putCells eS o ys.toArray cells) e (0,0)))(hc:o+c*1≤cells.size)(hy:ys.length≤c)(t:Nat)(v:Value)(hv:(ys.map eS)[t]?=some v):w.cell? ⟨b,o+t,none⟩=some v:=by have hlt:t<ys.length:=(by have:=(xA4.1 hv).1;simpa using this);have hin:o+t<cells.size:=qAc;unfold World.cell?;simp only [hh];unfold Go.Sort.putCells;rw [xAy,xA1 hlt] at hv;simp only [xAx,xAv] at hv;subst hv;simp [hin,hlt]
theorem ySn {w:World}{b o:Nat}{xs:List (List UInt8)}{cells:Array Value}{e:TypeId}(hh:w.heap[b]?=some (.cells cells e (0,0)))(hr:w.rangeAt b o (xs.map eS)):Go.Sort.Holds eS w b o xs.toArray:=by
  intro j hj;have hj':j<xs.length:=by simpa using hj
  refine ⟨?_,?_⟩
  · have:=hr j (eS xs[j]) (by rw [xAy,xA1 hj'];rfl);rw [this,getElem!_pos xs.toArray j hj];simp
  · unfold World.frozen?;rw [hh];simp
theorem yOk (xs:List ByteArray):(xs.map bL).map eS=xs.map Value.string:=by rw [xDl];exact xD5 fun x _=>yZy x
theorem yE3 (xs:List ByteArray)(hl:xs.length≤1048576):ContractL Try.prog NoG 90 0 [.undef] (.sl true 1 (xs.map rS)) (.tup []) (.sl true 1 (xs.reverse.map rS)):=by
  refine ⟨fun us W=>by kernel_rfl,fun w I us u X hG hI hu0 hV hT hnd hX=>?_⟩;have hus:us=[u]:=by simp only [xA8,Vals,T] at hV;obtain ⟨u1,us',F1,F2,rfl,hF,_,rfl,_⟩:=hV;simp only [xBb,xAv] at hu0;rw [hu0]
  subst hus;simp only [T,xAw] at hT;obtain ⟨a,c,rfl,hlc,hcm,hT⟩:=hT;have hml:xs.reverse.length=xs.length:=xFj;rcases hT with ⟨hf,_⟩ | ⟨_,⟨rfl,rfl,rfl⟩ | ⟨b,o,cells,e,rw',F',rfl,hh,hcs,hr,rfl,hR⟩⟩
  · cases hf
  · have hx0:xs=[]:=xFq.1 qAc;subst hx0;refine (Any.slices_Reverse_string_empty Try.lays17 none 0 w).mono ?_;rintro e w' ⟨rfl,rfl⟩;refine ⟨.tuple #[],[],[],I,rfl,⟨rfl,rfl,rfl,xBj _,fun _ _=>rfl⟩,by simp [T,Vals],?_,by simp,qAh,fun _ h=>h,fun b hb'=>⟨.inl hb',hI b hb'⟩⟩;simp only [T,xAw,hml,xBy];exact ⟨none,0,rfl,xBj _,by unfold maxLen;omega,.inr ⟨trivial,.inl ⟨rfl,rfl,trivial⟩⟩⟩
  · obtain ⟨rfl,rfl⟩:=yN8 xs hR;have hbs:b<w.heap.size:=(xBg.1 hh).1;rw [← yOk] at hr;have hC:=Any.slices_Reverse_string Try.lays17 b o c (xs.map bL) w (ySn hh hr) (by rw [xAw];omega);rw [xAw] at hC;refine hC.mono ?_;rintro e' w' ⟨rfl,n,rfl⟩;obtain ⟨g1,g2,g3⟩:=yGt (o:=o) (d:=(xs.map bL).reverse.toArray) (n:=n) hh;refine ⟨.tuple #[],[],[b],I,rfl,⟨rfl,rfl,rfl,g3,fun j hj=>g2 j (xEg (fun hle=>hj (.inl hle))) (fun e=>hj (.inr (by simp [e])))⟩,by simp [T,Vals],?_,by simp,fun x hx=>?_,fun _ h=>h,fun b' hb'=>⟨.inl hb',xCj (hI b' hb') g3⟩⟩
    · simp only [T,xAw,hml];have hmr:xs.reverse.map Value.string=(xs.map bL).reverse.map eS:=by rw [← List.map_reverse,yOk]
      refine ⟨some ⟨b,o,none⟩,c,rfl,hlc,hcm,.inr ⟨trivial,.inr ⟨b,o,_,e,xs.reverse.map Value.string,[],rfl,g1,by simpa [Go.Sort.putCells] using hcs,fun t v hv=>?_,rfl,yN2 I _ _⟩⟩⟩;rw [hmr] at hv;exact yGu g1 hcs (by rw [xFj,xAw];exact hlc) t v hv
    · simp only [xBp,xCa] at hx;subst hx;exact ⟨.inr qAh,xCj hbs g3,(hX x qAh).2⟩
theorem bldX:Builder.Extra Try.prog Try.lays156_ren where
  sizeBuilder:=by kernel_rfl
  liesBuilder:=by kernel_rfl
  t5:=Try.underlying5
  a5:=Try.isAgg5
  z5:=Try.sizeOf5
  v5:=Try.zeroValue5
  infoByte:=by kernel_rfl
  cellsByte:=by kernel_rfl
  sizeByte:=by kernel_rfl
  neB5:=by decide
theorem yJg {P:Program}{w:World}{t u ty e:TypeId}{i:TypeInfo}(ht:P.underlying t=some (.slice e))(hu:P.underlying u=some .string)(hi:P.info? e=some i)(hz:i.zero=some (.int .u8 0))(h1:i.size=1)(h2:i.bytes=1)
    {v:Value} {n:Nat} {xs:List Value} (hx:xs.length=n)
    (hv:(v=.slice none 0 0∧n=0)∨∃ g cap cur,v=.slice (some ⟨g,0,none⟩) n cap∧w.heap[g]?=some (.cells cur e (0,0))∧n≤cap∧cap≤maxLen∧cur.size=cap∧cur.toList.take n=xs)
    (s:ByteArray) (hl:n+s.size≤1000000000) :
    ∃ v' w',(Builtin.append_ #[t,u] ty #[v,.string s]).run P w=.ok v' w'∧w'.os=w.os∧w'.tape=w.tape∧w'.output=w.output∧w.heap.size≤w'.heap.size ∧
      (∀ j,j<w.heap.size→(∀ g n' cap,v=.slice (some ⟨g,0,none⟩) n' cap→j≠g)→w'.heap[j]?=w.heap[j]?) ∧
      ((v'=.slice none 0 0∧n+s.size=0)∨∃ g cap cur,v'=.slice (some ⟨g,0,none⟩) (n+s.size) cap∧w'.heap[g]?=some (.cells cur e (0,0))∧n+s.size≤cap∧cap≤maxLen∧cur.size=cap∧cur.toList.take (n+s.size)=xs++zJf s∧g<w'.heap.size∧(w.heap.size≤g∨∃ n' cap',v=.slice (some ⟨g,0,none⟩) n' cap')):=by
  rw [show zJf s=Lib.strCells s from rfl];rcases hv with ⟨rfl,rfl⟩ | ⟨g,cap,cur,rfl,hg,hnc,hcm,hcs,htk⟩
  · have hown:w.ownsRow w.heap.size e 1 (.slice none 0 0) 0 xs:=⟨by simpa using hx,.inl ⟨rfl,rfl⟩⟩
    obtain ⟨v',w',hr,ho,hg,_⟩:=Lib.run_append_own_string (P:=P) w w.heap.size t u ty e i ht hu hi hz h1 h2 _ 0 xs hown s qB6 qAc (xBj _);refine ⟨v',w',hr,hg.os,hg.tape,hg.output,hg.size,fun j hj _=>hg.block j hj (by simp [Value.ownBlock]),?_⟩;rcases ho.2 with ⟨hv,hn⟩ | ⟨g,cap,cur,hv,hge,hh,k1,k2,k3,k4⟩
    · exact .inl ⟨hv,hn⟩
    · exact .inr ⟨g,cap,cur,hv,hh,k1,k2,by simpa using k3,by simpa using k4,(xBg.1 hh).1,.inl hge⟩
  · have hgl:g<w.heap.size:=(xBg.1 hg).1;have hown:w.ownsRow g e 1 (.slice (some ⟨g,0,none⟩) n cap) n xs:=⟨by simpa using hx,.inr ⟨g,cap,cur,rfl,xBj _,hg,hnc,hcm,by simpa using hcs,by simpa using htk⟩⟩
    obtain ⟨v',w',hr,ho,hgr,_⟩:=Lib.run_append_own_string (P:=P) w g t u ty e i ht hu hi hz h1 h2 _ n xs hown s qB6 qAc qAc;refine ⟨v',w',hr,hgr.os,hgr.tape,hgr.output,hgr.size,fun j hj hne=>hgr.block j hj (by
      have:=hne g n cap rfl;simp only [Value.ownBlock,ne_eq,xAv];exact this),?_⟩
    have hpos:w.heap.size≤0∨∃ cap',v'=.slice (some ⟨g,0,none⟩) (n+s.size) cap'∨v'=.slice (some ⟨w.heap.size,0,none⟩) (n+s.size) cap':=by
      by_cases hroom:n+s.size≤cap
      · have hr2:=Lib.run_append_room_string (P:=P) w t u ty e i ht hu hi h1 g n cap cur hg s hroom qAc;rw [hr2] at hr;simp only [Result.ok.injEq] at hr;exact .inr ⟨_,.inl hr.1.symm⟩
      · have holds:∀ j u,xs[j]?=some u→w.cell? ((⟨g,0,none⟩:Addr).add j)=some u:=hown.cells (g:=g) rfl;have hr2:=Lib.run_append_grow_string (P:=P) w t u ty e i (.int .u8 0) ht hu hi hz ⟨g,0,none⟩ n cap xs (by rw [h1];simpa using hx) holds s qAc qAc (by rw [h2];exact growslice_fits qAc qAc);rw [hr2] at hr;simp only [Result.ok.injEq] at hr;exact .inr ⟨_,.inr hr.1.symm⟩
    rcases hpos with hpos | ⟨cap',hpos⟩
    · omega
    rcases ho.2 with ⟨hv,hn⟩ | ⟨g2,cap2,cur2,hv,hge,hh,k1,k2,k3,k4⟩
    · exact .inl ⟨hv,hn⟩
    · refine .inr ⟨g2,cap2,cur2,hv,hh,k1,k2,by simpa using k3,by simpa using k4,(xBg.1 hh).1,?_⟩;rcases hpos with hpos | hpos
      · rw [hv] at hpos;simp only [Value.slice.injEq,xAv,Addr.mk.injEq,and_true,true_and] at hpos;exact .inr ⟨_,_,by rw [hpos.1]⟩
      · rw [hv] at hpos;simp only [Value.slice.injEq,xAv,Addr.mk.injEq,and_true,true_and] at hpos;exact .inl qAc
theorem yXu (b:Nat)(p v:Value)(w:World)(hh:w.heap[b]?=some (.cells #[p,v] 141 (0,0)))(hp:p=.pointer none∨p=.pointer (some ⟨b,0,none⟩)) :
    Calls Try.prog 106 #[.pointer (some ⟨b,0,none⟩)] w fun e w'=>e=.returned (.tuple #[])∧w'.heap[b]?=some (.cells #[.pointer (some ⟨b,0,none⟩),v] 141 (0,0))∧(∀ j,j≠b→w'.heap[j]?=w.heap[j]?)∧w'.os=w.os∧w'.tape=w.tape∧w'.output=w.output∧w'.heap.size=w.heap.size:=by
  have hc0:w.cell? ⟨b,0,none⟩=some p:=(by unfold World.cell?;simp only [hh];rfl);rcases hp with rfl | rfl
  · have hf:w.frozen? ⟨b,0,none⟩=false:=(by unfold World.frozen?;simp only [hh];rfl);have hs:w.shape? b=some (141,2):=(by simp [World.shape?,hh]);have hcc:Calls Try.prog 106 #[.pointer (some ⟨b,0,none⟩)] w fun e w'=>e=.returned (.tuple #[])∧w'=w.setCell ⟨b,0,none⟩ (.pointer (some ⟨b,0,none⟩)):=Any.Builder_copyCheck_fresh { Try.lays156 with } bldX.toX72 b w hc0 hs hf;refine hcc.mono ?_;rintro e w' ⟨rfl,rfl⟩;refine ⟨rfl,?_,fun j hj=>Below.heap_setCell _ _ _ _ hj,rfl,rfl,rfl,by simp⟩;obtain ⟨hlt,hk⟩:=xBg.1 hh;show (w.heap.modify b _)[b]?=_;rw [xBu (by rw [xGl];exact hlt),xFe,hk];rfl
  · have hcc:Calls Try.prog 106 #[.pointer (some ⟨b,0,none⟩)] w fun e w'=>e=.returned (.tuple #[])∧w'=w:=Any.Builder_copyCheck_used { Try.lays156 with } bldX.toX72 b w hc0;refine hcc.mono ?_;rintro e w' ⟨rfl,rfl⟩;exact ⟨rfl,hh,fun _ _=>rfl,rfl,rfl,rfl,rfl⟩
theorem yEs {P:Program}{w w':World}{ops:Array Oper}{rest:List Oper}{o:Oper}{a:Act}{Q:Exit→Act→World→Prop}(hgd:o.guard=none)(sl x:Operand)(t u:TypeId)(ho:o.op=.call { callee:=.builtin .append,args:=#[sl,x],argTypes:=#[t,u] }){v y v':Value}(hs:a.eval sl=v)(hx:a.eval x=y)
    (hr:(Builtin.append_ #[t,u] o.type #[v,y]).run P w=.ok v' w') (h:wpList P ops Q rest (a.put o.dst v') w'):wpList P ops Q (o::rest) a w:=by
  refine wpList_plain hgd fun K hK=>?_;unfold Oper.wp execOp;simp only [ho,resolve,invoke,builtin,Sem.run_bind,Sem.run_pure,Result.andThen_ok,xGt,xA6,xBl,hs,hx,hr];exact hK _ _ h
theorem yEh (a b:ByteArray):zJf (a++b)=zJf a++zJf b:=by simp [zJf]
theorem zQk (a:ByteArray):(zJf a).length=a.size:=by unfold zJf;rw [xAw,xD6];rfl
set_option maxHeartbeats 2000000 in
theorem yVc (b:Nat) (l:ByteArray) (w:World) (F:List Nat) (hB:mpB w (.bld 141 5) [(.string l,undef)] (.pointer (some ⟨b,0,none⟩)) F) (h0:0<l.size) (hl:l.size≤1000000000) :
    Calls Try.prog 89 #[.pointer (some ⟨b,0,none⟩)] w fun e w'=>e=.returned (.string l)∧w'.os=w.os∧w'.tape=w.tape∧w'.output=w.output∧w'.heap.size=w.heap.size∧∀ j,j∉F→w'.heap[j]?=w.heap[j]?:=by
  obtain ⟨b',p,v,l',hu,hh,hp,he,hc⟩:=hB;simp only [Value.pointer.injEq,xAv,Addr.mk.injEq,and_true] at hu;subst hu;simp only [xCo,xBd,Value.string.injEq,and_true] at he;subst he;rcases hc with ⟨_,hz,_⟩ | ⟨g,cap,cur,rfl,hg,k3,k4,k5,k6,k7,hF⟩
  · omega
  have hlen:l.data.toList.length=l.size:=(by rw [xD6];rfl);have hne:l.data.toList≠[]:=(by intro e;rw [e] at hlen;simp at hlen;omega);have c1:w.cell? ⟨b,1,none⟩=some (.slice (some ⟨g,0,none⟩) l.size cap):=(by unfold World.cell?;simp only [hh];rfl);have hSD:(Builtin.unsafeSliceData_ #[46] 162 #[.slice (some ⟨g,0,none⟩) l.size cap]).run Try.prog w.drew=.ok (.pointer (some ⟨g,0,none⟩)) w.drew:=Lib.run_unsafeSliceData_row _ _ _ _ _ _ qAc;have hUS:(Builtin.unsafeString_ #[162,3] 9 #[.pointer (some ⟨g,0,none⟩),.int .i64 l.size]).run Try.prog w.drew=.ok (.string l) (w.drew.freeze ⟨g,0,none⟩ l.size):=by
    have:=Lib.run_unsafeString_row (P:=Try.prog) w.drew 162 3 9 5 rfl bldX.cellsByte g cur.size (by have hg':w.drew.heap[g]?=some (.cells cur 5 (0,0)):=hg;simp [World.shape?,hg']) l.data.toList hne qAc qAc (by
      intro j x hx;have hj:j<l.size:=by have:=(xA4.1 hx).1;omega
      have h1:cur[j]?=some (.int .u8 x.toNat):=by
        rw [← xDa];have h2:(cur.toList.take l.size)[j]?=some (.int .u8 x.toNat):=by rw [k6];unfold zJf;rw [xAy,hx];rfl
        rwa [xGh hj] at h2
      have ha:(⟨g,0,none⟩:Addr).add j=⟨g,0+j,none⟩:=Addr.add_mid _ _ _;rw [ha];unfold World.cell?;have hg':w.drew.heap[g]?=some (.cells cur 5 (0,0)):=hg;simp only [hg',xB2];exact h1)
    rw [hlen] at this;simpa using this
  go_enter Try.func89,Try.ntmps89;go_wp2
  go_region
  all_goals
    go_wp2;go_ret;have hf:∀ W:World,(W.freeze ⟨g,0,none⟩ l.size).os=W.os∧(W.freeze ⟨g,0,none⟩ l.size).tape=W.tape∧(W.freeze ⟨g,0,none⟩ l.size).output=W.output∧(W.freeze ⟨g,0,none⟩ l.size).heap.size=W.heap.size∧∀ j,j≠g→(W.freeze ⟨g,0,none⟩ l.size).heap[j]?=W.heap[j]?:=by intro W;unfold World.freeze;rw [if_neg qAc];exact ⟨rfl,rfl,rfl,by simp,fun j hj=>by simp only [xDv];rw [if_neg qAc]⟩
    obtain ⟨f1,f2,f3,f4,f5⟩:=hf w.drew;exact ⟨rfl,f1,f2,f3,f4,fun j hj=>(f5 j (fun e=>hj (by rw [hF,e];simp))).trans rfl⟩
theorem zR7 (l:ByteArray)(h0:0<l.size)(hl:l.size≤1000000000):ContractL Try.prog NoG 89 0 [.undef] (.mp (.bld 141 5) [(.string l,undef)]) (.v (.string l)) .undef:=by
  refine ⟨fun us W=>by kernel_rfl,fun w I us u X hG hI hu0 hV hT hnd hX=>?_⟩;have hus:us=[u]:=by simp only [xA8,Vals,T] at hV;obtain ⟨u1,us',F1,F2,rfl,_,_,rfl,_⟩:=hV;simp only [xBb,xAv] at hu0;rw [hu0]
  subst hus;simp only [T] at hT;obtain ⟨b,rfl⟩:∃ b,u=.pointer (some ⟨b,0,none⟩):=by obtain ⟨b,_,_,_,hu,_⟩:=hT;exact ⟨b,hu⟩
  refine (yVc b l w X hT h0 hl).mono ?_;rintro e w' ⟨rfl,h2,h3,h4,h5,h6⟩;exact ⟨_,[],[],I,rfl,⟨h2,h3,h4,Nat.le_of_eq h5.symm,fun j hj=>h6 j (fun hm=>hj (.inr hm))⟩,by simp only [T];first | exact ⟨rfl,trivial⟩ | exact ⟨trivial,trivial⟩ | trivial,by simp only [T],by simp,(fun z hz=>by simp at hz),fun _ h=>h,fun z hz=>⟨.inl hz,by rw [h5];exact hI z hz⟩⟩
def zV3 (xs:List ByteArray)(sep:ByteArray):ByteArray:=⟨(Lib.join (xs.map (·.data.toList)) sep.data.toList).toArray⟩
theorem yN9 {I:Nat→Prop}{w:World}:∀ (xs:List ByteArray) {rw:List Value} {F:List Nat},Go.V.Rows I w 1 (xs.map rS) rw F→rw=xs.map Value.string∧F=[]
  | [],rw,F,h=>by simpa [Go.V.Rows] using h
  | x::xs,rw,F,h=>by simp only [xA6,Go.V.Rows,rS,Cells,T] at h;obtain ⟨us,rw',F1,F2,rfl,rfl,_,⟨u,us',A,B,rfl,rfl,_,⟨rfl,rfl⟩,rfl,rfl⟩,hr⟩:=h;obtain ⟨rfl,rfl⟩:=yN9 xs hr;exact ⟨rfl,rfl⟩
theorem yU0 (xs:List ByteArray)(sep:ByteArray)(hx:xs.length≤100000000)(hl:(zV3 xs sep).size≤1000000000):Contract Try.prog NoG 91 [.sl false 1 (xs.map rS),.v (.string sep)] (.v (.string (zV3 xs sep))):=by
  refine ⟨fun us W=>by kernel_rfl,fun w I us hG hI hV=>?_⟩;simp only [Vals,T,xAw] at hV;obtain ⟨u1,us1,F1,F2,rfl,hF,⟨a,c,rfl,hc1,hc2,hs⟩,u2,us2,F3,F4,rfl,hF2,⟨rfl,_⟩,rfl,_⟩:=hV;have hl':(Lib.join (xs.map (·.data.toList)) sep.data.toList).length≤140737488355328:=by have e:(zV3 xs sep).size=(Lib.join (xs.map (·.data.toList)) sep.data.toList).length:=(by unfold zV3;simp [ByteArray.size]);omega
  have hc:Calls Try.prog 91 #[.slice a xs.length c,.string sep] w fun e w'=>e=.returned (.string (zV3 xs sep))∧Below w.heap.size w w':=by
    rcases hs with ⟨_,_,hs⟩ | ⟨hno,_⟩
    case inr=>cases hno
    rcases hs with hs | ⟨b,o,rw',rfl,hIb,hr,hR⟩
    · rw [xEl] at hs;subst hs;refine Calls.mono (Any.strings_Join_none Try.lays156 bldX a c sep w) ?_;rintro e w' ⟨he,hw⟩;exact ⟨by rw [he];rfl,hw▸Below.refl _ _⟩
    · obtain ⟨rfl,_⟩:=yN9 xs hR;refine Calls.mono (Any.strings_Join Try.lays156 bldX b o c xs sep w (fun j x hj=>hr j _ (by rw [xAy,hj];rfl)) (hI b hIb) qAc hc1 hl') ?_;rintro e w' ⟨he,hw⟩;exact ⟨he,hw⟩
  refine Calls.mono hc ?_;rintro e w' ⟨rfl,hB⟩;exact ⟨_,[],I,rfl,hB,by simp only [T];first | exact ⟨rfl,trivial⟩ | exact ⟨trivial,trivial⟩ | trivial,xC2,(fun z hz=>by simp at hz),fun _ h=>h,fun z hz=>⟨.inl hz,xCj (hI z hz) hB.size⟩⟩
def yEm (c:UInt8):ByteArray:=⟨#[c]⟩
theorem yNu {P:Program}{t u ty e:TypeId}{i:TypeInfo}(ht:P.underlying t=some (.slice e))(hu:P.underlying u=some .string)(hi:P.info? e=some i)(h1:i.size=1)(h2:i.bytes=1)(base:Option Addr)(n cp:Nat)(w:World)(olds:Array Value)(hold:(Builtin.firstCells 1 n (.slice base n cp)).run P w.drew=.ok olds w.drew)(hsm:cp<n+1→Builtin.nextslicecap (n+1) cp*1≤281474976710656)(hn63:n+1≤1000000000)(a cap:Nat)(c:UInt8)(hc:w.cell? ⟨a,0,none⟩=some (.int .u8 c.toNat)) :
    (Builtin.append_ #[t,t] ty #[.slice base n cp,.slice (some ⟨a,0,none⟩) 1 cap]).run P w=(Builtin.append_ #[t,u] ty #[.slice base n cp,.string (yEm c)]).run P w:=by
  have f1:∀ W:World,W.cell? ⟨a,0,none⟩=some (.int .u8 c.toNat)→(Builtin.firstCells 1 1 (.slice (some ⟨a,0,none⟩) 1 cap)).run P W=.ok #[.int .u8 c.toNat] W:=fun W hW=>by
    have:=run_firstCells_some (P:=P) W 1 1 ⟨a,0,none⟩ 1 cap [.int .u8 c.toNat] rfl (fun j x hj=>by
      cases j with
      | zero=>simp at hj;subst hj;exact hW
      | succ j=>simp at hj)
    simpa using this
  have f2:∀ W:World,(Builtin.firstCells 1 1 (.string (yEm c))).run P W=.ok #[.int .u8 c.toNat] W:=fun W=>by have:=Lib.run_firstCells_string (P:=P) W 1 (yEm c);exact this
  have g1:=f1 w hc;have g2:=f1 w.drew hc;have l1:(yEm c).size=1:=rfl;have hs3:¬ ((9223372036854775807:Int)<(n:Int)+1):=qAc;by_cases hr:n+1≤cp
  · simp [Builtin.append_,run_underlying ht,run_underlying hu,sizeOf,typeInfo,hi,h1,Builtin.lenOf,l1,hr,g1,f2]
  · have hs2:¬ (281474976710656<Builtin.nextslicecap (n+1) cp):=(by have:=hsm qAc;omega);simp [Builtin.append_,run_underlying ht,run_underlying hu,sizeOf,typeInfo,hi,h1,h2,Builtin.lenOf,l1,hr,g2,f2,hold,hs2,hs3,Question.forced,newRow]
set_option maxHeartbeats 2000000 in
theorem yYp (b:Nat)(l:ByteArray)(c:UInt8)(w:World)(F:List Nat)(hB:mpB w (.bld 141 5) [(.string l,undef)] (.pointer (some ⟨b,0,none⟩)) F)(hl:l.size+1≤1000000000) :
    Calls Try.prog 88 #[.pointer (some ⟨b,0,none⟩),.int .u8 c.toNat] w fun e w'=>e=.returned .nilIface∧∃ F',mpB w' (.bld 141 5) [(.string (l++yEm c),undef)] (.pointer (some ⟨b,0,none⟩)) F' ∧
      w'.os=w.os∧w'.tape=w.tape∧w'.output=w.output∧w.heap.size≤w'.heap.size∧(∀ j,j<w.heap.size→j∉F→w'.heap[j]?=w.heap[j]?)∧(∀ x,x∈F'→(x∈F∨w.heap.size≤x)∧x<w'.heap.size)∧F'.Nodup:=by
  obtain ⟨i0,hi,hz0,hz1,hz2⟩:=info_parts bldX.infoByte;obtain ⟨b',p,v,l',hu,hh,hp,he,hc⟩:=hB;simp only [Value.pointer.injEq,xAv,Addr.mk.injEq,and_true] at hu;subst hu;simp only [xCo,xBd,Value.string.injEq,and_true] at he;subst he;have hblt:b<w.heap.size:=(xBg.1 hh).1;have hbF:b∈F:=(by rcases hc with ⟨_,_,hF⟩ | ⟨g,cap,cur,_,_,_,_,_,_,_,hF⟩<;>rw [hF]<;>simp);have hvv:∀ w1:World,(∀ j,j≠b→j<w.heap.size→w1.heap[j]?=w.heap[j]?)→(v=.slice none 0 0∧l.size=0)∨∃ g cap cur,v=.slice (some ⟨g,0,none⟩) l.size cap∧w1.heap[g]?=some (.cells cur 5 (0,0))∧l.size≤cap∧cap≤maxLen∧cur.size=cap∧cur.toList.take l.size=zJf l:=by
    intro w1 h1;rcases hc with ⟨k1,k2,_⟩ | ⟨g,cap,cur,k1,k2,k3,k4,k5,k6,k7,_⟩
    · exact .inl ⟨k1,k2⟩
    · exact .inr ⟨g,cap,cur,k1,(h1 g (Ne.symm k7) (xBg.1 k2).1).trans k2,k3,k4,k5,k6⟩
  have hown:∀ g n' cap,v=.slice (some ⟨g,0,none⟩) n' cap→g≠b∧g∈F:=by
    intro g n' cap hv;rcases hc with ⟨k1,_,_⟩ | ⟨g',cap',cur,k1,k2,k3,k4,k5,k6,k7,k8⟩
    · rw [k1] at hv;simp at hv
    · rw [k1] at hv;simp only [Value.slice.injEq,xAv,Addr.mk.injEq,and_true] at hv;rw [← hv.1,k8];exact ⟨Ne.symm k7,by simp⟩
  obtain ⟨ao,cp,rfl⟩:∃ ao cp,v=.slice ao l.size cp:=by
    rcases hc with ⟨k1,k2,_⟩ | ⟨g,cap,cur,k1,_⟩
    · exact ⟨none,0,by rw [k1,k2]⟩
    · exact ⟨_,_,k1⟩
  clear hc
  -- the bytes that are there
  have holds:∀ w1:World,(∀ j,j≠b→j<w.heap.size→w1.heap[j]?=w.heap[j]?)→∃ olds,(Builtin.firstCells 1 l.size (.slice ao l.size cp)).run Try.prog w1.drew=.ok olds w1.drew:=by
    intro w1 h1;rcases hvv w1 h1 with ⟨k1,k2⟩ | ⟨g,cap,cur,k1,k2,k3,k4,k5,k6⟩
    · simp only [Value.slice.injEq] at k1;rw [k1.1];exact ⟨#[],rfl⟩
    · simp only [Value.slice.injEq] at k1;rw [k1.1,k1.2.2];refine ⟨_,run_firstCells_some (P:=Try.prog) w1.drew 1 l.size ⟨g,0,none⟩ l.size cap (zJf l) (by rw [zQk,Nat.mul_one]) (fun j x hj=>?_)⟩;have hjl:j<l.size:=by have:=(xA4.1 hj).1;rwa [zQk] at this
      rw [← k6,xGh hjl,xDa] at hj;rw [Addr.add_mid,xB2];unfold World.cell?;have:w1.drew.heap[g]?=some (.cells cur 5 (0,0)):=k2;simp only [this];exact hj
  have hcap:cp≤maxLen:=by
    rcases hvv w (fun _ _ _=>rfl) with ⟨k1,_⟩ | ⟨g,cap,cur,k1,_,_,k4,_⟩
    · simp only [Value.slice.injEq] at k1;rw [k1.2.2];exact xCs _
    · simp only [Value.slice.injEq] at k1;rw [k1.2.2];exact k4
  have HV:=Lib.hid hvv;have HO:=Lib.hid holds;have HW:=Lib.hid hown;clear hvv holds hown;go_enter Try.func88,Try.ntmps88;go_wp2_with fail;refine (yXu b p _ w hh hp).mono ?_;rintro e w1 ⟨rfl,hb1,hoth,ho1,ho2,ho3,hsz⟩;have c1:w1.cell? ⟨b,1,none⟩=some (.slice ao l.size cp):=by (unfold World.cell?;simp only [hb1];rfl)
  obtain ⟨W2,hW2⟩:∃ W2,W2=w1.alloc (.cells #[.int .u8 c.toNat] 5):=⟨_,rfl⟩
  have hW2s:W2.heap.size=w.heap.size+1:=by (rw [hW2,← hsz];simp)
  have hW2o:∀ j,j<w.heap.size→W2.heap[j]?=w1.heap[j]?:=fun j hj=>by (rw [hW2,zX4,if_neg qAc])
  have hW2k:∀ j,j≠b→j<w.heap.size→W2.heap[j]?=w.heap[j]?:=fun j h1 h2=>(hW2o j h2).trans (hoth j h1);have hW2c:W2.cell? ⟨w.heap.size,0,none⟩=some (.int .u8 c.toNat):=by (rw [hW2,← hsz];unfold World.cell?;rw [show (w1.alloc (.cells #[.int .u8 c.toNat] 5)).heap[w1.heap.size]?=some (.cells #[.int .u8 c.toNat] 5) from World.alloc_heap_new w1 _];rfl)
  have hW2p:W2.os=w1.os∧W2.tape=w1.tape∧W2.output=w1.output:=by (rw [hW2];exact ⟨rfl,rfl,rfl⟩)
  obtain ⟨olds,hold⟩:=HO.out W2 hW2k;have hap:=yNu (P:=Try.prog) (t:=46) (u:=9) (ty:=46) rfl rfl hi hz1 hz2 ao l.size cp W2 olds hold (fun hlt=>growslice_fits qAc qAc) hl w.heap.size 1 c hW2c;obtain ⟨v',w2,hr,q1,q2,q3,q4,q5,q6⟩:=yJg (P:=Try.prog) (w:=W2) (t:=46) (u:=9) (ty:=46) rfl rfl hi hz0 hz1 hz2 (zQk l) (HV.out W2 hW2k) (yEm c) hl;rw [← hap] at hr;obtain ⟨ao',n',cp',rfl⟩:∃ ao' n' cp',v'=.slice ao' n' cp':=by (rcases q6 with ⟨k1,_⟩ | ⟨g,cap,cur,k1,_⟩;exact ⟨_,_,_,k1⟩;exact ⟨_,_,_,k1⟩)
  have hb2:w2.heap[b]?=some (.cells #[.pointer (some ⟨b,0,none⟩),.slice ao l.size cp] 141 (0,0)):=((q5 b qAc (fun g n' cap hv=>Ne.symm (HW.out g n' cap hv).1)).trans (hW2o b hblt)).trans hb1;have d1:w2.cell? ⟨b,1,none⟩=some (.slice ao l.size cp):=by (unfold World.cell?;simp only [hb2];rfl)
  have f1:w2.frozen? ⟨b,1,none⟩=false:=by (unfold World.frozen?;simp only [hb2];rfl)
  rw [hW2] at hr;have HW2:=Lib.hid hW2;have HOld:=Lib.hid hold;clear hW2 hap hold;go_wp2_with (at_builtin;refine yEs rfl _ _ _ _ rfl rfl rfl hr ?_)
  go_ret;refine ⟨rfl,?_⟩;have hb3:(w2.setCell ⟨b,1,none⟩ (.slice ao' n' cp')).heap[b]?=some (.cells #[.pointer (some ⟨b,0,none⟩),.slice ao' n' cp'] 141 (0,0)):=by obtain ⟨hlt,hk⟩:=xBg.1 hb2;show (w2.heap.modify b _)[b]?=_;rw [xBu (by rw [xGl];exact hlt),xFe,hk];rfl
  have hot:∀ j,j≠b→(w2.setCell ⟨b,1,none⟩ (.slice ao' n' cp')).heap[j]?=w2.heap[j]?:=fun j hj=>Below.heap_setCell _ _ _ _ hj;have hsz2:(w2.setCell ⟨b,1,none⟩ (.slice ao' n' cp')).heap.size=w2.heap.size:=qAh;have hfr:∀ j,j<w.heap.size→j∉F→(w2.setCell ⟨b,1,none⟩ (.slice ao' n' cp')).heap[j]?=w.heap[j]?:=(by intro j hj hjF;have hjb:j≠b:=fun e=>hjF (e▸hbF);rw [hot j hjb,q5 j qAc (fun g n' cap hv e=>hjF (e▸(HW.out g n' cap hv).2)),hW2o j hj,hoth j hjb]);have hss:(l++yEm c).size=l.size+1:=(by simp;rfl);have q6':(Value.slice ao' n' cp'=.slice none 0 0∧l.size+1=0)∨_:=q6;rcases q6' with ⟨k1,k2⟩ | ⟨g,cap,cur,k1,k2,k3,k4,k5,k6,k7,k8⟩
  · omega
  · have l1:(yEm c).size=1:=rfl;have hgb:g≠b:=by
      rcases k8 with k8 | ⟨n',cap',k8⟩
      · omega
      · exact (HW.out g n' cap' k8).1
    refine ⟨[b,g],⟨b,_,_,_,rfl,hb3,.inr rfl,rfl,.inr ⟨g,cap,cur,by rw [hss];exact k1,(hot g hgb).trans k2,by rw [hss];exact k3,k4,k5,by rw [hss,yEh];exact k6,Ne.symm hgb,rfl⟩⟩,by rw [← ho1,← hW2p.1,← q1];rfl,by rw [← ho2,← hW2p.2.1,← q2];rfl,by rw [← ho3,← hW2p.2.2,← q3];rfl,by omega,hfr,fun z hz=>?_,by simp [Ne.symm hgb]⟩;rcases xBs.1 hz with rfl | hz
    · exact ⟨.inl hbF,by omega⟩
    · rw [xCa] at hz;subst hz;refine ⟨?_,by omega⟩;rcases k8 with k8 | ⟨n',cap',k8⟩
      · exact .inr qAc
      · exact .inl (HW.out z n' cap' k8).2
theorem zYs (l:ByteArray)(c:UInt8)(hl:l.size+1≤1000000000):ContractL Try.prog NoG 88 0 [.undef,.v (.int .u8 c.toNat)] (.mp (.bld 141 5) [(.string l,undef)]) (.v .nilIface) (.mp (.bld 141 5) [(.string (l++yEm c),undef)]):=by
  refine ⟨fun us W=>by kernel_rfl,fun w I us u X hG hI hu0 hV hT hnd hX=>?_⟩;have hus:us=[u,.int .u8 c.toNat]:=by simp only [xA8,Vals,T] at hV;obtain ⟨u1,us',F1,F2,rfl,_,_,u2,us2,F3,F4,rfl,_,⟨rfl,_⟩,rfl,_⟩:=hV;simp only [xBb,xAv] at hu0;rw [hu0]
  subst hus;simp only [T] at hT;obtain ⟨b,rfl⟩:∃ b,u=.pointer (some ⟨b,0,none⟩):=by obtain ⟨b,_,_,_,hu,_⟩:=hT;exact ⟨b,hu⟩
  refine (yYp b l c w X hT hl).mono ?_;rintro e w' ⟨rfl,F',h1,h2,h3,h4,h5,h6,h7,h8⟩;refine ⟨_,[],F',I,rfl,⟨h2,h3,h4,h5,fun j hj=>h6 j (xEg fun hle=>hj (.inl hle)) (fun hm=>hj (.inr hm))⟩,?_,by simp only [T];exact h1,by simpa using h8,fun z hz=>?_,fun _ h=>h,fun z hz=>⟨.inl hz,xCj (hI z hz) h5⟩⟩
  · simp only [T];first | exact ⟨rfl,trivial⟩ | exact ⟨trivial,trivial⟩ | trivial
  · have:=h7 z (by simpa using hz);refine ⟨this.1.symm,this.2,fun hIz=>?_⟩;rcases this.1 with hm | hm
    · exact (hX z hm).2 hIz
    · have:=hI z hIz;omega
end Go.Proofs.Ytaleehohmpohoaa
