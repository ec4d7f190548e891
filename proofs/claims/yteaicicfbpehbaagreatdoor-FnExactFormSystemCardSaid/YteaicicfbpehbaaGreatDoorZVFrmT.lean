/- Laws that the proof stands on. -/
import Derived.Test.YteaicicfbpehbaaGreatDoorZg19
import Derived.Test.YteaicicfbpehbaaGreatDoorZg12
set_option linter.all false
namespace Go.Proofs.YteaicicfbpehbaaGreatDoor
open Go.RowKit Go.V
set_option maxRecDepth 100000
theorem yT1 {G:List Glue} (h:G.length≤10000) (a b c:ByteArray):[zAy G a,zAy G b,0,zAy G c].length≤4∧∀ y,y∈[zAy G a,zAy G b,0,zAy G c]→0≤y∧y≤1000000:=by refine ⟨by simp,fun y hy=>?_⟩;have h1:=zDp G a;have h2:=zDp G b;have h3:=zDp G c;simp only [List.mem_cons,List.not_mem_nil,or_false] at hy;rcases hy with rfl | rfl | rfl | rfl <;> omega
theorem yT2 {G:List Glue} (h:G.length≤10000) (a b c:ByteArray):[zAy G a,zAy G b,zAy G c,0].length≤4∧∀ y,y∈[zAy G a,zAy G b,zAy G c,0]→0≤y∧y≤1000000:=by refine ⟨by simp,fun y hy=>?_⟩;have h1:=zDp G a;have h2:=zDp G b;have h3:=zDp G c;simp only [List.mem_cons,List.not_mem_nil,or_false] at hy;rcases hy with rfl | rfl | rfl | rfl <;> omega
def yCv (x:Int) (c:Nat):Int:=yCw (x.fdiv (2 ^ min c 64)) 1
def uxN (q:Cube) (c v d:Nat):Nat:=if decide (yCv q.Care c=1)&&!decide (yCv q.Valu c=(d:Int)) then 0 else v
def uoN (l:List Int) (k v d:Nat):Nat:=if decide (v=1)&&yBv l (k:Int) then 1 else d
def xN (k c v d:Nat):ByteArray:=nm [([120],k),([95],c),([95],v),([],d)] []
def zH3:ByteArray:=⟨⟨[99,111,114,110,101,114]⟩⟩
def fIn (f:Form):Nat:=f.Inputs.toNat
def fCo (f:Form):Nat:=f.Inputs.toNat+f.Sums.length
def fRo (f:Form):Nat:=f.Cubes.length
def fmX (f:Form) (H:List Glue) (k c v d:Nat):Tile :=
  if c < fIn f then ⟨xN k c v d,[zAy H (nm1 [98] d),zAy H (pr k (c+1) (uxN (f.Cubes.getD k yB9) c v d)),zAy H (nm1 [98] d),zAy H (pr k c v)]⟩
  else ⟨xN k c v d,[zAy H (nm1 [111] (uoN (f.Sums.getD (c - fIn f) []) k v d)),zAy H (pr k (c+1) v),zAy H (nm1 [111] d),zAy H (pr k c v)]⟩
theorem zU9 (f:Form) (H:List Glue) (k c v d:Nat):(fmX f H k c v d).Name=xN k c v d:=by unfold fmX;split <;> rfl
def yU4 (H:List Glue):Tile:=⟨zH3,[zAy H (nm1 [119] 0),zAy H (nm1 [101] 0),0,0]⟩
def yRh (H:List Glue) (k:Nat):Tile:=⟨nm1 [119] k,[zAy H (nm1 [119] (k+1)),zAy H (pr k 0 1),zAy H (nm1 [119] k),0]⟩
def yNi (f:Form) (ds:List Nat) (c:Nat):ByteArray:=if c < fIn f then nm1 [98] (ds.getD c 0) else nm1 [111] 0
def yIg (f:Form) (ds:List Nat) (H:List Glue) (c:Nat):Tile:=⟨nm1 [101] c,[zAy H (yNi f ds c),zAy H (nm1 [101] (c+1)),0,zAy H (nm1 [101] c)]⟩
def zNx (H:List Glue) (i:Nat):List Tile:=[yU4 H]++(List.range i).map (yRh H)
def zLn (f:Form) (ds:List Nat) (H:List Glue) (i:Nat):List Tile:=zNx H (fRo f)++(List.range i).map (yIg f ds H)
def yRj (f:Form) (H:List Glue) (k c v:Nat):List Tile:=(List.range v).flatMap (fun j=>(List.range 2).map (fmX f H k c j))
def yRk (f:Form) (H:List Glue) (k c:Nat):List Tile:=(List.range c).flatMap (fun j=>yRj f H k j 2)
def zXr (f:Form) (ds:List Nat) (H:List Glue) (k:Nat):List Tile:=zLn f ds H (fCo f)++(List.range k).flatMap (fun j=>yRk f H j (fCo f))
def zTt (f:Form) (ds:List Nat) (H:List Glue) (k c:Nat):List Tile:=zXr f ds H k++yRk f H k c
def zYe (f:Form) (ds:List Nat) (H:List Glue) (k c v:Nat):List Tile:=zTt f ds H k c++yRj f H k c v
def zTs (f:Form) (ds:List Nat) (H:List Glue) (k c v d:Nat):List Tile:=zYe f ds H k c v++(List.range d).map (fmX f H k c v)
section
variable (f:Form) (ds:List Nat) (H:List Glue)
theorem zRt (i:Nat):zNx H (i+1)=zNx H i++[yRh H i]:=zHi _ _ _
theorem zRw:zLn f ds H 0=zNx H (fRo f):=List.append_nil _
theorem zJj (i:Nat):zLn f ds H (i+1)=zLn f ds H i++[yIg f ds H i]:=zHi _ _ _
theorem zM7:zXr f ds H 0=zLn f ds H (fCo f):=List.append_nil _
theorem zM8 (k:Nat):zTt f ds H k (fCo f)=zXr f ds H (k+1):=by unfold zTt zXr;rw [List.range_succ,List.flatMap_append,List.append_assoc];simp
theorem zRy (k:Nat):zTt f ds H k 0=zXr f ds H k:=List.append_nil _
theorem zRz (k c:Nat):zYe f ds H k c 2=zTt f ds H k (c+1):=by unfold zYe zTt yRk;rw [List.range_succ,List.flatMap_append,List.append_assoc];simp
theorem zRu (k c:Nat):zYe f ds H k c 0=zTt f ds H k c:=List.append_nil _
theorem zRv (k c v:Nat):zTs f ds H k c v 2=zYe f ds H k c (v+1):=by unfold zTs zYe yRj;rw [List.range_succ (n:=v),List.flatMap_append,List.append_assoc];simp
theorem zRx (k c v:Nat):zTs f ds H k c v 0=zYe f ds H k c v:=List.append_nil _
theorem zM9 (k c v d:Nat):zTs f ds H k c v (d+1)=zTs f ds H k c v d++[fmX f H k c v d]:=zHi _ _ _
theorem zP0 (i:Nat):(zNx H i).length=1+i:=by simp [zNx];omega
theorem zJk (i:Nat):(zLn f ds H i).length=1+fRo f+i:=by simp [zLn,zP0]
theorem zP2 (k c:Nat):∀ v,(yRj f H k c v).length=2*v
  | 0=>rfl
  | v+1=>by have:=zP2 k c v;unfold yRj at this ⊢;rw [List.range_succ (n:=v),List.flatMap_append,List.length_append,this];simp;omega
theorem zP3 (k:Nat):∀ c,(yRk f H k c).length=4*c
  | 0=>rfl
  | c+1=>by have:=zP3 k c;unfold yRk at this ⊢;rw [List.range_succ (n:=c),List.flatMap_append,List.length_append,this];simp [zP2];omega
theorem zP1:∀ k,(zXr f ds H k).length=1+fRo f+fCo f+4*(fCo f*k)
  | 0=>by rw [zM7,zJk];simp
  | k+1=>by rw [← zM8];unfold zTt;rw [List.length_append,zP1 k,zP3,Nat.mul_add];omega
theorem yGr (k c:Nat):(zTt f ds H k c).length=1+fRo f+fCo f+4*(fCo f*k)+4*c:=by unfold zTt;rw [List.length_append,zP1,zP3]
theorem yGq (k c v:Nat):(zYe f ds H k c v).length=1+fRo f+fCo f+4*(fCo f*k)+4*c+2*v:=by unfold zYe;rw [List.length_append,yGr,zP2]
theorem zVa (k c v d:Nat):(zTs f ds H k c v d).length=1+fRo f+fCo f+4*(fCo f*k)+4*c+2*v+d:=by unfold zTs;rw [List.length_append,yGq];simp
end
/-! Names. -/
theorem yV4 {d:Nat} (h:d < 2):Lib.decDigits d=[UInt8.ofNat (48+d)]:=by have:d=0∨d=1:=(by omega);rcases this with rfl | rfl <;> (rw [Lib.decDigits];rfl)
theorem yAs:∀ (a b:List (List UInt8 × Nat)) (t:List UInt8),nmL (a++b) t=nmL a []++nmL b t
  | [],b,t=>by cases b <;> simp [nmL]
  | x::a,b,t=>by simp only [List.cons_append,nmL,yAs a b t,List.append_assoc]
theorem yIw (k c v d:Nat):(xN k c v d).data.toList=nmL [([120],k),([95],c),([95],v)] []++Lib.decDigits d:=by show nmL ([([120],k),([95],c),([95],v)]++[([],d)]) []=_;rw [yAs];simp [nmL]
theorem yO2 {k c v d k' c' v' d':Nat} (hd:d < 2) (hd':d' < 2) (h:xN k c v d=xN k' c' v' d'):k=k'∧c=c'∧v=v'∧d=d':=by have h1:=congrArg (fun x:ByteArray=>x.data.toList) h;simp only [yIw,yV4 hd,yV4 hd'] at h1;obtain ⟨h2,h3⟩:=List.append_inj' h1 rfl;simp only [List.cons.injEq,and_true] at h3;have h4:=zTc true [([120],k),([95],c),([95],v)] [([120],k'),([95],c'),([95],v')] [] [] (by rfl) (by rfl) h2;have h5:=zT4 (by omega) (by omega) h3;simp at h4;exact ⟨h4.1,h4.2.1,h4.2.2,h5⟩
theorem zYg (k c v d:Nat):(xN k c v d).data.toList.head?=some 120:=rfl
theorem yVj {k c v d:Nat} {p:List UInt8} {j:Nat} (hp:p.head?≠some 120) (h0:p≠[]):nm1 p j≠xN k c v d:=fun e=>by
  have h1:=congrArg (fun x:ByteArray=>x.data.toList.head?) e;rw [zYg] at h1;apply hp;rw [← h1];cases p with
  | nil=>exact absurd rfl h0
  | cons a p=>rfl
theorem yWc {k c v d:Nat}:zH3≠xN k c v d:=fun e=>by have h1:=congrArg (fun x:ByteArray=>x.data.toList.head?) e;rw [zYg] at h1;simp [zH3] at h1
section
variable (f:Form) (ds:List Nat) (H:List Glue)
theorem frW (i:Nat):zJi (zNx H i) (nm1 [119] i):=by unfold zNx yRh;refine zF2 (f:=fun j=>nm1 [119] j) (s:=fun j=>[zAy H (nm1 [119] (j+1)),zAy H (pr j 0 1),zAy H (nm1 [119] j),0]) ?_ (fun j hj=>zDe (by rfl) (by rfl) (by simp;omega));intro t ht;rw [List.mem_singleton] at ht;rw [ht];exact zDe (a:=[]) (t:=[99,111,114,110,101,114]) (by rfl) (by rfl) (by simp)
theorem frE (i:Nat):zJi (zLn f ds H i) (nm1 [101] i):=by unfold zLn yIg zNx yRh;refine zF2 (f:=fun j=>nm1 [101] j) (s:=fun j=>[zAy H (yNi f ds j),zAy H (nm1 [101] (j+1)),0,zAy H (nm1 [101] j)]) ?_ (fun j hj=>zDe (by rfl) (by rfl) (by simp;omega));refine zF2 (f:=fun j=>nm1 [119] j) (s:=fun j=>[zAy H (nm1 [119] (j+1)),zAy H (pr j 0 1),zAy H (nm1 [119] j),0]) ?_ (fun j hj=>zDe (by rfl) (by rfl) (by simp));intro t ht;rw [List.mem_singleton] at ht;rw [ht];exact zDe (a:=[]) (t:=[99,111,114,110,101,114]) (by rfl) (by rfl) (by simp)
theorem yU3 (i k c v d:Nat):zJi (zLn f ds H i) (xN k c v d):=by unfold zLn yIg zNx yRh;refine zF2 (f:=fun j=>nm1 [101] j) (s:=fun j=>[zAy H (yNi f ds j),zAy H (nm1 [101] (j+1)),0,zAy H (nm1 [101] j)]) ?_ (fun j hj=>yVj (by simp) (by simp));refine zF2 (f:=fun j=>nm1 [119] j) (s:=fun j=>[zAy H (nm1 [119] (j+1)),zAy H (pr j 0 1),zAy H (nm1 [119] j),0]) ?_ (fun j hj=>yVj (by simp) (by simp));intro t ht;rw [List.mem_singleton] at ht;rw [ht];exact yWc
theorem frX (k c v d:Nat) (hd:d < 2):zJi (zTs f ds H k c v d) (xN k c v d):=by
  have key:∀ k' c' v' d',d' < 2→¬ (k'=k∧c'=c∧v'=v∧d'=d)→(fmX f H k' c' v' d').Name≠xN k c v d:=fun k' c' v' d' h1 h2 e=>by rw [zU9] at e;exact h2 (yO2 h1 hd e)
  intro t ht;unfold zTs at ht;rcases List.mem_append.1 ht with ht | ht
  · unfold zYe at ht;rcases List.mem_append.1 ht with ht | ht
    · unfold zTt at ht;rcases List.mem_append.1 ht with ht | ht
      · unfold zXr at ht;rcases List.mem_append.1 ht with ht | ht
        · exact yU3 f ds H _ k c v d t ht
        · obtain ⟨k',hk,ht⟩:=List.mem_flatMap.1 ht;obtain ⟨c',hc,ht⟩:=List.mem_flatMap.1 ht;obtain ⟨v',hv,ht⟩:=List.mem_flatMap.1 ht;obtain ⟨d',hd',rfl⟩:=List.mem_map.1 ht;have:=List.mem_range.1 hk;exact key _ _ _ _ (List.mem_range.1 hd') (by omega)
      · obtain ⟨c',hc,ht⟩:=List.mem_flatMap.1 ht;obtain ⟨v',hv,ht⟩:=List.mem_flatMap.1 ht;obtain ⟨d',hd',rfl⟩:=List.mem_map.1 ht;have:=List.mem_range.1 hc;exact key _ _ _ _ (List.mem_range.1 hd') (by omega)
    · obtain ⟨v',hv,ht⟩:=List.mem_flatMap.1 ht;obtain ⟨d',hd',rfl⟩:=List.mem_map.1 ht;have:=List.mem_range.1 hv;exact key _ _ _ _ (List.mem_range.1 hd') (by omega)
  · obtain ⟨d',hd',rfl⟩:=List.mem_map.1 ht;have:=List.mem_range.1 hd';exact key _ _ _ _ (by omega) (by omega)
end
/-! The system. -/
def zOa (f:Form) (ds:List Nat):System:=⟨⟨fmG (fRo f) (fCo f),zXr f ds (fmG (fRo f) (fCo f)) (fRo f)⟩,⟨[⟨⟨0,0⟩,0⟩]⟩,2⟩
def zA6 (f:Form) (l:List Int):System:=if zEs f l=0 then zOa f (l.map Int.toNat) else sys0
theorem bits_nat {n:Int} {l:List Int} (h:zIi n l=true):∃ ds:List Nat,l=ds.map (fun x:Nat=>(x:Int))∧l.map Int.toNat=ds∧(ds.length:Int)=n∧∀ x,x∈ds→x < 2:=by
  unfold zIi at h;rw [Bool.and_eq_true,decide_eq_true_eq,List.all_eq_true] at h;obtain ⟨h1,h2⟩:=h;refine ⟨l.map Int.toNat,?_,rfl,by rw [List.length_map];exact h1,fun x hx=>?_⟩
  · rw [List.map_map]
    conv=>lhs;rw [← List.map_id l]
    refine List.map_congr_left fun x hx=>?_;have:=inR_iff.1 (h2 x hx);show x=((x.toNat:Nat):Int)
    omega
  · obtain ⟨y,hy,rfl⟩:=List.mem_map.1 hx;have:=inR_iff.1 (h2 y hy);omega
theorem zOt {f:Form} {l:List Int} (h:zEs f l=0):zDj f=true∧zIi f.Inputs l=true∧frT f≤160∧frG f≤200:=by
  unfold zEs at h;split at h
  · split at h
    · split at h
      · omega
      · rename_i h1 h2 h3;exact ⟨h1,h2,by omega,by omega⟩
    · omega
  · omega
theorem zTr {f:Form} (h:zDj f=true) (h2:frT f≤160):(1≤fIn f∧fIn f≤4)∧f.Inputs=(fIn f:Int)∧(1≤f.Sums.length∧f.Sums.length≤3)∧fCo f=fIn f+f.Sums.length∧fRo f≤81∧1+fRo f+fCo f+4*(fCo f*fRo f)≤160:=by
  obtain ⟨h1,h3,h4⟩:=zHq h;have e:f.Inputs=(fIn f:Int):=(by unfold fIn;omega);refine ⟨by unfold fIn;omega,e,by omega,rfl,h4,?_⟩;unfold frT at h2;rw [e] at h2;have e2:4*(f.Cubes.length:Int)*((fIn f:Int)+(f.Sums.length:Int))=((4*(fCo f*fRo f):Nat):Int):=by
    unfold fCo fRo;rw [Int.mul_assoc]
    push_cast
    rw [Int.mul_comm (f.Cubes.length:Int)];rfl
  rw [e2] at h2;unfold fCo fRo at *;unfold fIn at *;omega
theorem yFj {p q r:List UInt8} {a b c:Nat} (hp:p.length≤100) (hq:q.length≤100) (hr:r.length≤100) (ha:a≤1000000) (hb:b≤1000000) (hc:c≤1000000):(nm [(p,a),(q,b),(r,c)] []).size≤1000:=by have h1:=zCv a (by omega);have h2:=zCv b (by omega);have h3:=zCv c (by omega);rw [zG2];simp only [nmL,List.length_append,List.length_nil];omega
theorem yIv {a b c d:Nat} (ha:a≤1000000) (hb:b≤1000000) (hc:c≤1000000) (hd:d≤1000000):(xN a b c d).size≤1000:=by have h1:=zCv a (by omega);have h2:=zCv b (by omega);have h3:=zCv c (by omega);have h4:=zCv d (by omega);unfold xN;rw [zG2];simp only [nmL,List.length_append,List.length_nil,List.length_cons];omega
theorem yRl {R C:Nat} (hR:R≤100) (hC:C≤100):smG (fmG R C):=by
  have g0s:smG g0:=fun g hg=>by simp only [g0,List.mem_cons,List.not_mem_nil,or_false] at hg;rcases hg with rfl | rfl | rfl | rfl <;> exact ⟨by decide,by decide,by decide⟩
  refine zSz (zSz (zSz g0s ?_) ?_) ?_
  · intro g hg;obtain ⟨k,hk,hg⟩:=List.mem_flatMap.1 hg;obtain ⟨j,v,hj,hv,e⟩:=zJl hg;have:=List.mem_range.1 hk;refine ⟨by rw [e];exact yFj (by simp) (by simp) (by simp) (by omega) (by omega) (by omega),?_⟩;unfold zOb at hg;obtain ⟨j',_,hg⟩:=List.mem_flatMap.1 hg;simp only [List.mem_cons,List.not_mem_nil,or_false] at hg;rcases hg with rfl | rfl <;> exact ⟨Int.zero_le_ofNat 1,by show (1:Int)≤1000;omega⟩
  · exact zY4 (f:=fun j=>nm1 [119] j) (k:=fun _=>2) (fun j hj=>zLs (by simp) (by omega)) (fun _=>by decide)
  · exact zY4 (f:=fun j=>nm1 [101] j) (k:=fun _=>2) (fun j hj=>zLs (by simp) (by omega)) (fun _=>by decide)
theorem yRi {f:Form} {ds:List Nat} {H:List Glue} (hH:H.length≤10000) (hR:fRo f≤100) (hC:fCo f≤100) (i:Nat) (hi:i≤fRo f):smT (zXr f ds H i):=by
  refine zSy (zSy (zSy ?_ ?_) ?_) ?_
  · intro t ht;rw [List.mem_singleton] at ht;rw [ht];have h1:=zDp H (nm1 [119] 0);have h2:=zDp H (nm1 [101] 0);refine ⟨yF3 (by simp),by simp [yU4],fun y hy=>?_⟩;simp only [yU4,List.mem_cons,List.not_mem_nil,or_false] at hy;rcases hy with rfl | rfl | rfl | rfl <;> omega
  · intro t ht;obtain ⟨k,hk,rfl⟩:=List.mem_map.1 ht;have:=List.mem_range.1 hk;exact ⟨zLs (by simp) (by omega),yT2 hH _ _ _⟩
  · intro t ht;obtain ⟨k,hk,rfl⟩:=List.mem_map.1 ht;have:=List.mem_range.1 hk;exact ⟨zLs (by simp) (by omega),yT1 hH _ _ _⟩
  · intro t ht;obtain ⟨k,hk,ht⟩:=List.mem_flatMap.1 ht;obtain ⟨c,hc,ht⟩:=List.mem_flatMap.1 ht;obtain ⟨v,hv,ht⟩:=List.mem_flatMap.1 ht;obtain ⟨d,hd,rfl⟩:=List.mem_map.1 ht;have:=List.mem_range.1 hk;have:=List.mem_range.1 hc;have:=List.mem_range.1 hv;have:=List.mem_range.1 hd;refine ⟨by rw [zU9];exact yIv (by omega) (by omega) (by omega) (by omega),?_⟩;unfold fmX;split <;> exact sm4 hH _ _ _ _
theorem zHy (f:Form) (l:List Int):smS (zA6 f l):=by
  unfold zA6;split
  · rename_i h;obtain ⟨h1,h2,h3,h4⟩:=zOt h;obtain ⟨s1,s2,s3,s4,s5,s6⟩:=zTr h1 h3;have hg:(fmG (fRo f) (fCo f)).length≤10000:=by have:=Nat.mul_comm (fRo f) (fCo f);unfold fmG;rw [zGi];omega
    exact ⟨yRl (by omega) (by omega),yRi hg (by omega) (by omega) _ (Nat.le_refl _),(fun p hp=>by
      simp only [zOa,List.mem_singleton] at hp;rw [hp];exact ⟨by decide,by decide,by decide,by decide⟩),by show (fmG _ _).length≤_;omega,by show (zXr _ _ _ _).length≤_;rw [zP1];omega,by simp [zOa],by simp [zOa]⟩
  · exact yJl
end Go.Proofs.YteaicicfbpehbaaGreatDoor
