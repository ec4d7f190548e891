/- Laws that the proof stands on. -/
import Derived.Test.YteaicicfbpehbaaGreatDoorZg18
import Derived.Test.YteaicicfbpehbaaGreatDoorZg15
import Derived.Test.YteaicicfbpehbaaGreatDoorZg12
set_option linter.all false
namespace Go.Proofs.YteaicicfbpehbaaGreatDoor
open Go.RowKit Go.V
set_option maxRecDepth 100000
def smG (G:List Glue):Prop:=∀ g,g∈G→g.Name.size≤1000∧0≤g.Strength∧g.Strength≤1000
def smT (T:List Tile):Prop:=∀ t,t∈T→t.Name.size≤1000∧t.Sides.length≤4∧∀ y,y∈t.Sides→0≤y∧y≤1000000
def smP (P:List Placed):Prop:=∀ p,p∈P→(-1000000≤p.At.X∧p.At.X≤1000000)∧(-1000000≤p.At.Y∧p.At.Y≤1000000) ∧ -1000000≤p.Tile∧p.Tile≤1000000
structure smS (s:System):Prop where
  g:smG s.Set.Glues
  t:smT s.Set.Tiles
  p:smP s.Seed.Tiles
  gl:s.Set.Glues.length≤10000
  tl:s.Set.Tiles.length≤10000
  pl:s.Seed.Tiles.length≤10000
  tm:0≤s.Temperature∧s.Temperature≤1000
theorem yJr:smG []:=fun _ h=>by cases h
theorem yJp:smT []:=fun _ h=>by cases h
theorem yJq:smP []:=fun _ h=>by cases h
theorem zSz {A B:List Glue} (h:smG A) (h2:smG B):smG (A++B):=fun g hg=>by
  rcases List.mem_append.1 hg with hg | hg
  · exact h g hg
  · exact h2 g hg
theorem zSy {A B:List Tile} (h:smT A) (h2:smT B):smT (A++B):=fun g hg=>by
  rcases List.mem_append.1 hg with hg | hg
  · exact h g hg
  · exact h2 g hg
theorem zY4 {f:Nat→ByteArray} {k:Nat→Int} {i:Nat} (h:∀ j,j < i→(f j).size≤1000) (hk:∀ j,0≤k j∧k j≤1000):smG ((List.range i).map (fun j=>⟨f j,k j⟩)):=fun g hg=>by obtain ⟨j,hj,rfl⟩:=List.mem_map.1 hg;exact ⟨h j (by simpa using hj),hk j⟩
theorem sm4 {G:List Glue} (h:G.length≤10000) (a b c d:ByteArray):[zAy G a,zAy G b,zAy G c,zAy G d].length≤4∧∀ y,y∈[zAy G a,zAy G b,zAy G c,zAy G d]→0≤y∧y≤1000000:=by refine ⟨by simp,fun y hy=>?_⟩;have h1:=zDp G a;have h2:=zDp G b;have h3:=zDp G c;have h4:=zDp G d;simp only [List.mem_cons,List.not_mem_nil,or_false] at hy;rcases hy with rfl | rfl | rfl | rfl <;> omega
theorem zLs {p:List UInt8} {n:Nat} (hp:p.length≤100) (hn:n≤1000000):(nm1 p n).size≤1000:=by have:=zCv n (by omega);have h2:=yQa (p:=p) (n:=n) (t:=[]);rw [h2];simp only [List.length_nil];omega
theorem yF3 {l:List UInt8} (h:l.length≤1000):(⟨⟨l⟩⟩:ByteArray).size≤1000:=h
theorem zVl {α:Type} {f:α→Nat} {K:Nat}:∀ xs:List α,(∀ x,x∈xs→f x≤K)→cnS f xs≤K*xs.length
  | [],_=>by simp [cnS]
  | x::xs,h=>by have h1:=zVl xs (fun y hy=>h y (List.mem_cons_of_mem _ hy));have h2:=h x (by simp);simp only [cnS,List.map_cons,List.sum_cons,List.length_cons,Nat.mul_add,Nat.mul_one] at *;omega
theorem zOq {x:Int} (h : -1000000≤x∧x≤1000000):InK .i64 x:=by unfold InK;omega
theorem yPh {s:System} (h:smS s):System.td.ok s:=by
  rw [System.td_ok,TileSet.td_ok,Assembly.td_ok];refine ⟨⟨fun g hg=>?_,fun t ht=>?_⟩,fun p hp=>?_,zOq (by have:=h.tm;omega)⟩
  · have:=h.g g hg;rw [Glue.td_ok];exact ⟨Nat.le_trans this.1 (by unfold maxLen;omega),zOq (by omega)⟩
  · have:=h.t t ht;rw [Tile.td_ok];exact ⟨Nat.le_trans this.1 (by unfold maxLen;omega),fun y hy=>zOq (by have:=this.2.2 y hy;omega)⟩
  · have:=h.p p hp;rw [Placed.td_ok,Point.td_ok];exact ⟨⟨zOq this.1,zOq this.2.1⟩,zOq this.2.2⟩
theorem yPi {s:System} (h:smS s):s.cnT≤1000000000000:=by
  have e:System.cnT s=cnS Glue.cnE s.Set.Glues+cnS Tile.cnE s.Set.Tiles+cnS Placed.cnE s.Seed.Tiles:=rfl;have h1:=zVl (f:=Glue.cnE) (K:=2) s.Set.Glues (fun _ _=>Nat.le_refl 2);have h2:=zVl (f:=Tile.cnE) (K:=5) s.Set.Tiles (fun t ht=>by
    have e:Tile.cnE t=1+cnS (fun _=>1) t.Sides:=rfl;have:=zEb (K:=1) (f:=fun _:Int=>1) (fun _=>Nat.le_refl 1) t.Sides;have:=(h.t t ht).2.1;omega)
  have h3:=zVl (f:=Placed.cnE) (K:=3) s.Seed.Tiles (fun _ _=>Nat.le_refl 3);have:=h.gl;have:=h.tl;have:=h.pl;rw [e];omega
def sys0:System:=⟨⟨[],[]⟩,⟨[]⟩,0⟩
theorem yJl:smS sys0:=⟨yJr,yJp,yJq,by simp [sys0],by simp [sys0],by simp [sys0],by simp [sys0]⟩
abbrev pr (k c v:Nat):ByteArray:=nm [([112],k),([95],c),([95],v)] []
def g0:List Glue:=[⟨⟨⟨[98,48]⟩⟩,1⟩,⟨⟨⟨[98,49]⟩⟩,1⟩,⟨⟨⟨[111,48]⟩⟩,1⟩,⟨⟨⟨[111,49]⟩⟩,1⟩]
def zOb (k c:Nat):List Glue:=(List.range c).flatMap (fun j=>[⟨pr k j 0,1⟩,⟨pr k j 1,1⟩])
def zOc (C k:Nat):List Glue:=g0++(List.range k).flatMap (fun i=>zOb i C)
def zP4 (C k c:Nat):List Glue:=zOc C k++zOb k c
def zTu (R C i:Nat):List Glue:=zOc C R++(List.range i).map (fun j=>⟨nm1 [119] j,2⟩)
def zVd (R C i:Nat):List Glue:=zTu R C R++(List.range i).map (fun j=>⟨nm1 [101] j,2⟩)
def fmG (R C:Nat):List Glue:=zVd R C C
theorem zOu (k c:Nat):zOb k (c+1)=zOb k c++[⟨pr k c 0,1⟩]++[⟨pr k c 1,1⟩]:=by unfold zOb;rw [List.range_succ,List.flatMap_append];simp
theorem zJn (C k:Nat):zOc C (k+1)=zP4 C k C:=by unfold zP4 zOc;rw [List.range_succ,List.flatMap_append];simp
theorem zNb (C k:Nat):zP4 C k 0=zOc C k:=by simp [zP4,zOb]
theorem zNc (C k c:Nat):zP4 C k (c+1)=zP4 C k c++[⟨pr k c 0,1⟩]++[⟨pr k c 1,1⟩]:=by unfold zP4;rw [zOu];simp
theorem zNd (C:Nat):zOc C 0=g0:=by simp [zOc]
theorem zR4 (R C i:Nat):zTu R C (i+1)=zTu R C i++[⟨nm1 [119] i,2⟩]:=zHi _ _ _
theorem zR2 (R C i:Nat):zVd R C (i+1)=zVd R C i++[⟨nm1 [101] i,2⟩]:=zHi _ _ _
theorem zR3 (R C:Nat):zTu R C 0=zOc C R:=by simp [zTu]
theorem zR1 (R C:Nat):zVd R C 0=zTu R C R:=by simp [zVd]
theorem zR0 (k c:Nat):(zOb k c).length=2*c:=by
  induction c with
  | zero=>rfl
  | succ c ih=>rw [zOu];simp only [List.length_append,List.length_cons,List.length_nil,ih];omega
theorem zVe (C k:Nat):(zOc C k).length=4+2*(k*C):=by
  induction k with
  | zero=>simp [zOc,g0]
  | succ k ih=>rw [zJn];unfold zP4;rw [List.length_append,ih,zR0,Nat.add_mul,Nat.one_mul];omega
theorem zL0 (C k c:Nat):(zP4 C k c).length=4+2*(k*C)+2*c:=by unfold zP4;rw [List.length_append,zVe,zR0]
theorem zP6 (R C i:Nat):(zTu R C i).length=4+2*(R*C)+i:=by unfold zTu;rw [List.length_append,zVe,List.length_map,List.length_range]
theorem zGi (R C i:Nat):(zVd R C i).length=4+2*(R*C)+R+i:=by unfold zVd;rw [List.length_append,zP6,List.length_map,List.length_range]
theorem zJl {k c:Nat} {g:Glue} (h:g∈zOb k c):∃ j v,j < c∧v < 2∧g.Name=pr k j v:=by
  unfold zOb at h;obtain ⟨j,hj,h⟩:=List.mem_flatMap.1 h;have hj:j < c:=by simpa using hj
  simp only [List.mem_cons,List.not_mem_nil,or_false] at h;rcases h with rfl | rfl
  · exact ⟨j,0,hj,by omega,rfl⟩
  · exact ⟨j,1,hj,by omega,rfl⟩
theorem zWt {a b c a' b' c':Nat} (h:¬ (a=a'∧b=b'∧c=c')):pr a b c≠pr a' b' c':=zDe (by rfl) (by rfl) (by simp;omega)
theorem yQt:(⟨⟨[98,48]⟩⟩:ByteArray)=nm1 [98] 0:=by
  show _=(⟨⟨[98]++Lib.decDigits 0++[]⟩⟩:ByteArray)
  rw [Lib.decDigits];rfl
theorem yQs:(⟨⟨[98,49]⟩⟩:ByteArray)=nm1 [98] 1:=by
  show _=(⟨⟨[98]++Lib.decDigits 1++[]⟩⟩:ByteArray)
  rw [Lib.decDigits];rfl
theorem yBb:(⟨⟨[111,48]⟩⟩:ByteArray)=nm1 [111] 0:=by
  show _=(⟨⟨[111]++Lib.decDigits 0++[]⟩⟩:ByteArray)
  rw [Lib.decDigits];rfl
theorem yQq:(⟨⟨[111,49]⟩⟩:ByteArray)=nm1 [111] 1:=by
  show _=(⟨⟨[111]++Lib.decDigits 1++[]⟩⟩:ByteArray)
  rw [Lib.decDigits];rfl
theorem zPy {n:ByteArray} (h1:nm1 [98] 0≠n) (h2:nm1 [98] 1≠n) (h3:nm1 [111] 0≠n) (h4:nm1 [111] 1≠n):fresh g0 n:=fun g hg=>by
  simp only [g0,List.mem_cons,List.not_mem_nil,or_false] at hg;rcases hg with rfl | rfl | rfl | rfl
  · exact yQt ▸ h1
  · exact yQs ▸ h2
  · exact yBb ▸ h3
  · exact yQq ▸ h4
theorem zKn {C k:Nat} {n:ByteArray} (h0:fresh g0 n) (h:∀ a b c,a < k→pr a b c≠n):fresh (zOc C k) n:=fun g hg=>by
  unfold zOc at hg;rcases List.mem_append.1 hg with hg | hg
  · exact h0 g hg
  · obtain ⟨i,hi,hg⟩:=List.mem_flatMap.1 hg;obtain ⟨j,v,_,_,e⟩:=zJl hg;rw [e];exact h _ _ _ (by simpa using hi)
theorem yRe (a b c:Nat):fresh g0 (pr a b c):=zPy (zDe (by rfl) (by rfl) (by simp)) (zDe (by rfl) (by rfl) (by simp)) (zDe (by rfl) (by rfl) (by simp)) (zDe (by rfl) (by rfl) (by simp))
theorem zEu {C k c:Nat} (v:Nat):fresh (zP4 C k c) (pr k c v):=fun g hg=>by
  unfold zP4 at hg;rcases List.mem_append.1 hg with hg | hg
  · exact zKn (yRe _ _ _) (fun a b c ha=>zWt (by omega)) g hg
  · obtain ⟨j,v,hj,_,e⟩:=zJl hg;rw [e];exact zWt (by omega)
theorem zPg (a b c:Nat):pr a b c≠zQf:=zDe (b:=[]) (u:=[45]) (by rfl) (by rfl) (by simp)
theorem yAe (a b c:Nat):pr a b c≠zG1:=zDe (b:=[]) (u:=[]) (by rfl) (by rfl) (by simp)
theorem yU2:okM g0:=by have n1:∀ (x y:UInt8),nm [] [x,y]=⟨⟨[x,y]⟩⟩:=fun _ _=>rfl;refine zGc (zGc (zGc (zGc yK4 (zC7 _) ?_ ?_) (zBl (zC7 _) ?_) ?_ ?_) (zBl (zBl (zC7 _) ?_) ?_) ?_ ?_) (zBl (zBl (zBl (zC7 _) ?_) ?_) ?_) ?_ ?_ <;> decide
theorem zVb {C k:Nat} (h:okM (zOc C k)):∀ c,okM (zP4 C k c)
  | 0=>by rw [zNb];exact h
  | c+1=>by rw [zNc];exact zGc (zGc (zVb h c) (zEu 0) (zPg _ _ _) (yAe _ _ _)) (zBl (zEu 1) (zWt (by omega))) (zPg _ _ _) (yAe _ _ _)
theorem yB1 (C:Nat):∀ k,okM (zOc C k)
  | 0=>by rw [zNd];exact yU2
  | k+1=>by rw [zJn];exact zVb (yB1 C k) C
theorem yIf (C k i:Nat):fresh (zOc C k) (nm1 [119] i):=zKn (zPy (zDe (by rfl) (by rfl) (by simp)) (zDe (by rfl) (by rfl) (by simp)) (zDe (by rfl) (by rfl) (by simp)) (zDe (by rfl) (by rfl) (by simp))) (fun a b c _=>zDe (by rfl) (by rfl) (by simp))
theorem yRm (C k i:Nat):fresh (zOc C k) (nm1 [101] i):=zKn (zPy (zDe (by rfl) (by rfl) (by simp)) (zDe (by rfl) (by rfl) (by simp)) (zDe (by rfl) (by rfl) (by simp)) (zDe (by rfl) (by rfl) (by simp))) (fun a b c _=>zDe (by rfl) (by rfl) (by simp))
theorem yId (R C i:Nat):fresh (zTu R C i) (nm1 [119] i):=zF1 (yIf _ _ _) (fun j hj=>zDe (by rfl) (by rfl) (by simp;omega))
theorem yIe (R C i j:Nat):fresh (zTu R C i) (nm1 [101] j):=zF1 (yRm _ _ _) (fun _ _=>zDe (by rfl) (by rfl) (by simp))
theorem yIc (R C i:Nat):fresh (zVd R C i) (nm1 [101] i):=zF1 (yIe _ _ _ _) (fun j hj=>zDe (by rfl) (by rfl) (by simp;omega))
theorem yMp (R C i:Nat):okM (zTu R C i):=zTb (yB1 _ _) (fun j=>yIf _ _ _) (fun i j hj=>zDe (by rfl) (by rfl) (by simp;omega)) (fun j=>zDe (b:=[]) (u:=[45]) (by rfl) (by rfl) (by simp)) (fun j=>zDe (b:=[]) (u:=[]) (by rfl) (by rfl) (by simp)) i
theorem zP5 (R C i:Nat):okM (zVd R C i):=zTb (yMp _ _ _) (fun j=>yIe _ _ _ _) (fun i j hj=>zDe (by rfl) (by rfl) (by simp;omega)) (fun j=>zDe (b:=[]) (u:=[45]) (by rfl) (by rfl) (by simp)) (fun j=>zDe (b:=[]) (u:=[]) (by rfl) (by rfl) (by simp)) i
theorem zVc (R C k v:Nat):fresh (fmG R C) (pr k C v):=by
  have h1:fresh (zOc C R) (pr k C v):=fun g hg=>by
    unfold zOc at hg;rcases List.mem_append.1 hg with hg | hg
    · exact yRe _ _ _ g hg
    · obtain ⟨i,hi,hg⟩:=List.mem_flatMap.1 hg;obtain ⟨j,v',hj,_,e⟩:=zJl hg;rw [e];exact zWt (by omega)
  exact zF1 (zF1 h1 (fun _ _=>zDe (by rfl) (by rfl) (by simp))) (fun _ _=>zDe (by rfl) (by rfl) (by simp))
end Go.Proofs.YteaicicfbpehbaaGreatDoor
