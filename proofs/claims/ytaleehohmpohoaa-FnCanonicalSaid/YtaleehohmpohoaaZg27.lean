/- Laws that the proof stands on. -/
import Derived.Test.YtaleehohmpohoaaZg26
import Derived.Test.YtaleehohmpohoaaZVPat
import Derived.Test.YtaleehohmpohoaaZg24
import Derived.Test.YtaleehohmpohoaaZVCanR
import Derived.Test.YtaleehohmpohoaaZg13
import Derived.Test.YtaleehohmpohoaaZg16
set_option linter.all false
namespace Go.Proofs.Ytaleehohmpohoaa
open Go.RowKit Go.V
theorem yQ7 {d:Design}(h0:zA7 d=0):PatB (zPs d) d.Bottom.length d.Left.length:=by obtain ⟨hok,hall,hres⟩:=zF4 h0;obtain ⟨⟨w1,w2⟩,⟨l1,l2⟩,_,hpc,_⟩:=zA1 hok;have hin:=zF3 h0;obtain ⟨hl,_⟩:=zLy qAc hall;rw [← hres] at hl;have hp:zPs d=⟨d.Bottom.length,d.Left.length,yEc d (zBl d)⟩:=(by unfold zPs;rw [if_pos h0]);rw [hp];refine ⟨rfl,rfl,⟨w1,w2⟩,⟨l1,l2⟩,by show (yEc d (zBl d)).length=_;unfold yEc;rw [xAw,hl],fun x hx=>?_⟩;obtain ⟨k,hk,rfl⟩:=xB1.1 hx;obtain ⟨k0,k1⟩:=hin k hk;rw [zLv k0 k1];have:=hpc _ (xB3 (show k.toNat<d.Pieces.length by omega));unfold zTy at this;simp only [xA2,zDq] at this;omega
theorem yCd {L:List Int}{t:Int}(h:0≤t∧t<L.length)(i:Nat):(zPp L t).getD i 0=if t=(i:Int) then L.getD i 0+1 else L.getD i 0:=by
  obtain ⟨k,rfl⟩:∃ k:Nat,t=(k:Int):=⟨t.toNat,by omega⟩
  unfold zPp;rw [xAz,xA3];by_cases e:k=i
  · subst e;rw [xBq qAc,if_pos rfl];rfl
  · rw [xA9 e,if_neg qAc,xA3]
theorem yNr (L:List Int)(t:Int):(zPp L t).length=L.length:=by unfold zPp;rw [xD9]
theorem zZ5:∀ (ks L:List Int),(∀ k,k∈ks→0≤k∧k<L.length)→(∀ i,0≤L.getD i 0)→∀ i:Nat,(0<(ks.foldl zPp L).getD i 0↔(0<L.getD i 0∨(i:Int)∈ks))
  | [],L,_,_,i=>by simp
  | t :: ks,L,hk,hL,i=>by
    have ht:=hk t xD1;rw [xDm,zZ5 ks (zPp L t) (fun k h=>by rw [yNr];exact hk k (xCc _ h)) (fun j=>by rw [yCd ht];have:=hL j;split<;>omega) i,yCd ht,xBs];have:=hL i;split
    · rename_i e;constructor
      · intro _;exact .inr (.inl e.symm)
      · intro _;left;omega
    · rename_i e;constructor
      · rintro (h | h)
        · exact .inl h
        · exact .inr (.inr h)
      · rintro (h | h | h)
        · exact .inl h
        · exact absurd h.symm e
        · exact .inr h
def yEl (L:List Int)(n:Nat):List Nat:=(List.range n).filter fun i=>decide (0<L.getD i 0)
theorem yG0 (L:List Int)(n:Nat):(yEl L (n+1)).length=(yEl L n).length+(if 0<L.getD n 0 then 1 else 0):=by
  unfold yEl;rw [xEd,List.filter_append,xC4];by_cases h:0<L.getD n 0
  · rw [if_pos h,List.filter_cons,if_pos (decide_eq_true h)];rfl
  · rw [if_neg h,List.filter_cons,if_neg qBp];rfl
theorem yQ5 (L:List Int)(n:Nat):(yEl L n).length≤n:=by unfold yEl;have:=List.length_filter_le (fun i=>decide (0<L.getD i 0)) (List.range n);simpa using this
theorem yGz {n:Nat}{ks S:List Int}(hk:∀ k,k∈ks→0≤k∧k<n)(hS:S.Nodup)(hm:∀ k,k∈S↔k∈ks):(yEl (zHi n ks) n).length=S.length:=by
  have key:∀ i:Nat,(0<(zHi n ks).getD i 0↔(i:Int)∈ks):=fun i=>by
    unfold zHi;rw [zZ5 ks (List.replicate n 0) (fun k h=>by rw [xE5];exact hk k h) (fun j=>by
      rw [xA3,xEs];split<;>simp) i]
    constructor
    · rintro (h | h)
      · rw [xA3,xEs] at h;split at h<;>simp at h
      · exact h
    · exact .inr
  have hA:((yEl (zHi n ks) n).map fun (i:Nat)=>(i:Int)).Nodup:=(by refine xFu.2 (List.Pairwise.imp (fun h e=>h qAc) (List.Nodup.sublist List.filter_sublist xGr)));have h1:∀ x,x∈((yEl (zHi n ks) n).map fun (i:Nat)=>(i:Int))→x∈S:=fun x hx=>by obtain ⟨i,hi,rfl⟩:=xB1.1 hx;have:=(xEo.1 hi).2;exact (hm _).2 ((key i).1 (of_decide_eq_true this))
  have h2:∀ x,x∈S→x∈((yEl (zHi n ks) n).map fun (i:Nat)=>(i:Int)):=fun x hx=>by have hxk:=(hm x).1 hx;have hb:=hk x hxk;refine xB1.2 ⟨x.toNat,xEo.2 ⟨xDe.2 qAc,decide_eq_true ((key x.toNat).2 ?_)⟩,by omega⟩;rw [show ((x.toNat:Nat):Int)=x by omega];exact hxk
  have a:=zXw hA h1;have b:=zXw hS h2;rw [xAw] at a b;omega
/-! Names: the least number that is equal. -/
def gN (N:List Int)(a:Int):Int:=N.getD a.toNat 0
def zGf (x y k:Int):Int:=if k=max x y then min x y else k
def zBg (N:List Int)(a b:Int):List Int:=N.map (zGf (gN N a) (gN N b))
theorem zS5 (x k:Int):zGf x x k=k:=by unfold zGf;split<;>omega
theorem zFk (x y k:Int):zGf x y k=zGf y x k:=by unfold zGf;rw [Int.max_comm,Int.min_comm]
theorem zIu {x y:Int}(h:x≤y)(k:Int):zGf x y k=if k=y then x else k:=by unfold zGf;rw [xGv h,Int.min_eq_left h]
theorem zLd {x y u v:Int} (h1:x≤y) (h2:u≤v) (k:Int):zGf (zGf x y u) (zGf x y v) (zGf x y k)=zGf (zGf u v x) (zGf u v y) (zGf u v k):=by
  simp only [zIu h1,zIu h2];by_cases a1:u=y
  · subst a1;rw [if_pos rfl];by_cases a2:v=u
    · subst a2;simp only [if_true];have e:(if x=v then v else x)=x:=by split<;>omega
      rw [e];by_cases a3:k=v
      · subst a3;simp only [if_true];unfold zGf;(repeat' split)<;>omega
      · simp only [if_neg a3,zS5,zIu h1]
    · have a2':¬ u=v:=fun h=>a2 h.symm;have a4:¬ x=v:=qAc;rw [if_neg a2,if_neg a2',if_neg a4,zIu (show x≤v by omega),zIu h1];by_cases a3:k=u
      · subst a3;rw [if_pos rfl,if_neg a2',if_neg a4,if_pos rfl]
      · rw [if_neg a3];by_cases a5:k=v
        · rw [if_pos a5,if_pos a5,if_pos rfl]
        · rw [if_neg a5,if_neg a5,if_neg a3]
  · rw [if_neg a1];by_cases a2:v=y
    · subst a2;rw [if_pos rfl,if_pos rfl];by_cases a3:x=v
      · subst a3;rw [if_pos rfl];rw [zS5,zIu h2];by_cases a5:k=x
        · rw [if_pos a5,if_pos a5,if_pos rfl]
        · simp only [if_neg a5]
      · rw [if_neg a3,zFk x u];by_cases a5:k=v
        · rw [if_pos a5,if_pos a5];unfold zGf;(repeat' split)<;>omega
        · rw [if_neg a5,if_neg a5]
    · have a2':¬ y=v:=fun h=>a2 h.symm;rw [if_neg a2,if_neg a2',zIu h2];by_cases a3:x=v
      · subst a3;rw [if_pos rfl,zIu (show u≤y by omega)];by_cases a5:k=y
        · have:¬ k=x:=qAc;rw [if_pos a5,if_pos rfl,if_neg this,if_pos a5]
        · rw [if_neg a5];by_cases a6:k=x
          · rw [if_pos a6,if_neg qAc]
          · rw [if_neg a6,if_neg a5]
      · rw [if_neg a3,zIu h1];by_cases a5:k=y
        · have:¬ k=v:=qAc;rw [if_pos a5,if_neg a3,if_neg this,if_pos a5]
        · rw [if_neg a5];by_cases a6:k=v
          · rw [if_pos a6,if_neg qAc]
          · rw [if_neg a6,if_neg a5]
theorem yHp (x y u v k:Int):zGf (zGf x y u) (zGf x y v) (zGf x y k)=zGf (zGf u v x) (zGf u v y) (zGf u v k):=by
  rcases Int.le_total x y with h1 | h1<;>rcases Int.le_total u v with h2 | h2
  · exact zLd h1 h2 k
  · have:=zLd h1 h2 k;rw [zFk (zGf x y v)] at this;rw [this];simp only [zFk v u]
  · have:=zLd h1 h2 k;rw [zFk (zGf u v y)] at this;rw [← this];simp only [zFk y x]
  · have:=zLd h1 h2 k;rw [zFk (zGf y x v),zFk (zGf v u y)] at this;simp only [zFk y x,zFk v u] at this;exact this
theorem zTb (N:List Int)(a b:Int):(zBg N a b).length=N.length:=by unfold zBg;rw [xAw]
theorem zGc {N:List Int}{a b c:Int}(h:c.toNat<N.length):gN (zBg N a b) c=zGf (gN N a) (gN N b) (gN N c):=by unfold zBg gN;rw [xA3 (l:=N.map _),xAy,xA3 (i:=c.toNat),xA1 h];rfl
theorem zUp {N:List Int}{a b c d:Int}(ha:a.toNat<N.length)(hb:b.toNat<N.length)(hc:c.toNat<N.length)(hd:d.toNat<N.length):zBg (zBg N a b) c d=zBg (zBg N c d) a b:=by have e1:zBg (zBg N a b) c d=(zBg N a b).map (zGf (gN (zBg N a b) c) (gN (zBg N a b) d)):=rfl;have e2:zBg (zBg N c d) a b=(zBg N c d).map (zGf (gN (zBg N c d) a) (gN (zBg N c d) b)):=rfl;rw [e1,e2,zGc hc,zGc hd,zGc ha,zGc hb];unfold zBg;rw [xDl,xDl];exact xD5 fun k _=>yHp _ _ _ _ k
theorem zFy {N:List Int}{a b:Int}(h:gN N a=gN N b):zBg N a b=N:=by unfold zBg;rw [h];exact (xD5 fun k _=>zS5 _ k).trans (List.map_id _)
structure OkN (N:List Int):Prop where
  len:N.length=120
  inn:∀ x,x∈N→inG x
theorem OkN.at {N:List Int}(h:OkN N){a:Int}(ha:inG a):gN N a∈N∧inG (gN N a)∧a.toNat<N.length:=by
  unfold inG at ha;have hl:a.toNat<N.length:=by rw [h.len];omega
  have hm:gN N a∈N:=zIv hl;exact ⟨hm,h.inn _ hm,hl⟩
theorem yRu {x y k:Int}(hx:inG x)(hy:inG y)(hk:inG k):inG (zGf x y k):=by unfold zGf inG at *;split<;>omega
theorem OkN.join {N:List Int}(h:OkN N){a b:Int}(ha:inG a)(hb:inG b):OkN (zBg N a b):=by refine ⟨by rw [zTb,h.len],fun x hx=>?_⟩;unfold zBg at hx;obtain ⟨k,hk,rfl⟩:=xB1.1 hx;exact yRu (h.at ha).2.1 (h.at hb).2.1 (h.inn k hk)
def idN:List Int:=zHm 120
theorem idN_ok:OkN idN:=⟨zLh 120,fun x hx=>by have:=mem_iota.1 hx;unfold inG;omega⟩
/-! How much there is left to merge. -/
def muN (N:List Int):Nat:=(N.map Int.toNat).sum
theorem yRo {f:Int→Int}:∀ {N:List Int},(∀ k,k∈N→(f k).toNat≤k.toNat)→muN (N.map f)≤muN N
  | [],_=>xBj _
  | k::N,h=>by have h1:=yRo (f:=f) (N:=N) fun k hk=>h k (xCc _ hk);have h2:=h k xD1;unfold muN at h1 ⊢;simp only [xA6,xGm] at h1 ⊢;omega
theorem yV6 {f:Int→Int}:∀ {N:List Int},(∀ k,k∈N→(f k).toNat≤k.toNat)→∀ {k},k∈N→(f k).toNat<k.toNat→muN (N.map f)<muN N
  | [],_,_,hk,_=>by cases hk
  | j::N,h,k,hk,hlt=>by
    have h2:=h j xD1;rcases xBs.1 hk with rfl | hk
    · have h1:=yRo (f:=f) (N:=N) fun k hk=>h k (xCc _ hk);unfold muN at h1 ⊢;simp only [xA6,xGm] at h1 ⊢;omega
    · have h1:=yV6 (f:=f) (N:=N) (fun k hk=>h k (xCc _ hk)) hk hlt;unfold muN at h1 ⊢;simp only [xA6,xGm] at h1 ⊢;omega
theorem zUm (x y k:Int):(zGf x y k).toNat≤k.toNat:=by unfold zGf;split<;>omega
theorem yH7 {N:List Int}(h:OkN N){a b:Int}(ha:inG a)(hb:inG b)(hne:gN N a≠gN N b):muN (zBg N a b)<muN N:=by
  have h1:=h.at ha;have h2:=h.at hb;unfold zBg;have hm:max (gN N a) (gN N b)∈N:=by
    rcases Int.le_total (gN N a) (gN N b) with hl | hl
    · rw [xGv hl];exact h2.1
    · rw [Int.max_eq_left hl];exact h1.1
  refine yV6 (fun k _=>zUm _ _ k) hm ?_;have h3:=h1.2.1;have h4:=h2.2.1;unfold inG at h3 h4;unfold zGf;rw [if_pos rfl];omega
theorem zUo (N:List Int)(a b:Int):muN (zBg N a b)≤muN N:=yRo fun k _=>zUm _ _ k
/-! The state of a merging: the names of both kinds, and whether something was not equal. -/
structure MS where
  R:List Int
  C:List Int
  g:Bool
structure OkM (st:MS):Prop where
  R:OkN st.R
  C:OkN st.C
def mu (st:MS):Nat:=muN st.R+muN st.C
def inB (st:MS)(p q:Piece):Bool:=decide (gN st.R p.South=gN st.R q.South)&&decide (gN st.C p.West=gN st.C q.West)
def yEo (st:MS)(p q:Piece):Bool:=!decide (gN st.R p.North=gN st.R q.North)||!decide (gN st.C p.East=gN st.C q.East)
def zKd (p:Piece)(st:MS)(q:Piece):MS:=if inB st p q then ⟨zBg st.R p.North q.North,zBg st.C p.East q.East,st.g||yEo st p q⟩ else st
def zVs (ps:List Piece)(i:Nat)(st:MS)(j:Nat):MS:=(ps.take j).foldl (zKd (gP ps (i:Nat))) st
def zD5 (ps:List Piece)(st:MS)(n:Nat):MS:=(List.range n).foldl (fun st i=>zVs ps i st i) st
def pass (ps:List Piece)(st:MS):MS:=zD5 ps { st with g:=false } ps.length
theorem zSn {ps:List Piece}{i j:Nat}{st:MS}(h:j<ps.length):zVs ps i st (j+1)=zKd (gP ps (i:Nat)) (zVs ps i st j) ps[j]:=by unfold zVs;rw [xCd h,xDx];rfl
theorem zLa (ps:List Piece)(st:MS)(n:Nat):zD5 ps st (n+1)=zVs ps n (zD5 ps st n) n:=by unfold zD5;rw [xEd,xDx];rfl
structure Goes (a b:MS):Prop where
  ok:OkM a→OkM b
  eqR:∀ x y,inG x→inG y→OkM a→gN a.R x=gN a.R y→gN b.R x=gN b.R y
  eqC:∀ x y,inG x→inG y→OkM a→gN a.C x=gN a.C y→gN b.C x=gN b.C y
  mu:OkM a→b=a∨(b.g=true∧mu b<mu a)
theorem Goes.refl (a:MS):Goes a a:=⟨id,fun _ _ _ _ _ h=>h,fun _ _ _ _ _ h=>h,fun _=>.inl rfl⟩
theorem Goes.trans {a b c:MS}(h:Goes a b)(k:Goes b c):Goes a c :=
  ⟨fun ho=>k.ok (h.ok ho),fun x y hx hy ho e=>k.eqR x y hx hy (h.ok ho) (h.eqR x y hx hy ho e),fun x y hx hy ho e=>k.eqC x y hx hy (h.ok ho) (h.eqC x y hx hy ho e),fun ho=>by
    rcases k.mu (h.ok ho) with e | ⟨e1,e2⟩
    · rw [e];exact h.mu ho
    · rcases h.mu ho with e3 | ⟨_,e4⟩
      · rw [← e3];exact .inr ⟨e1,e2⟩
      · exact .inr ⟨e1,by omega⟩⟩
structure InP (p:Piece):Prop where
  N:inG p.North
  E:inG p.East
  S:inG p.South
  W:inG p.West
theorem yIh {p:Piece}(h:zTy p=true):InP p:=by unfold zTy at h;simp only [xA2,zDq] at h;exact ⟨h.2.1,h.2.2.1,h.2.2.2.1,h.2.2.2.2⟩
theorem zW8 {p q:Piece} (hp:InP p) (hq:InP q) (st:MS):Goes st (zKd p st q):=by
  unfold zKd;split
  · refine ⟨fun ho=>⟨ho.R.join hp.N hq.N,ho.C.join hp.E hq.E⟩,fun x y hx hy ho e=>?_,fun x y hx hy ho e=>?_,fun ho=>?_⟩
    · show gN (zBg st.R p.North q.North) x=gN (zBg st.R p.North q.North) y;rw [zGc (ho.R.at hx).2.2,zGc (ho.R.at hy).2.2,e]
    · show gN (zBg st.C p.East q.East) x=gN (zBg st.C p.East q.East) y;rw [zGc (ho.C.at hx).2.2,zGc (ho.C.at hy).2.2,e]
    · by_cases h1:gN st.R p.North=gN st.R q.North
      · by_cases h2:gN st.C p.East=gN st.C q.East
        · left;have:yEo st p q=false:=by unfold yEo;rw [decide_eq_true h1,decide_eq_true h2];rfl
          rw [zFy h1,zFy h2,this,xCv]
        · right;have:yEo st p q=true:=by unfold yEo;rw [decide_eq_false h2];simp
          refine ⟨by simp only [this,xCx],?_⟩;have:=yH7 ho.C hp.E hq.E h2;have:=zUo st.R p.North q.North;unfold Go.Proofs.Ytaleehohmpohoaa.mu;simp only;omega
      · right;have:yEo st p q=true:=by unfold yEo;rw [decide_eq_false h1];simp
        refine ⟨by simp only [this,xCx],?_⟩;have:=yH7 ho.R hp.N hq.N h1;have:=zUo st.C p.East q.East;unfold Go.Proofs.Ytaleehohmpohoaa.mu;simp only;omega
  · exact .refl st
theorem zKq {ps:List Piece}{i:Nat}(h:i<ps.length):gP ps (i:Nat)=ps[i]:=by rw [zLv qAc qAc];simp
theorem yMy {ps:List Piece}(hp:∀ p,p∈ps→InP p){i:Nat}(h:i<ps.length):InP (gP ps (i:Nat)):=by rw [zKq h];exact hp _ (xB3 h)
theorem zOg {ps:List Piece}(hp:∀ p,p∈ps→InP p){i:Nat}(hi:i<ps.length)(st:MS):∀ j,j≤ps.length→Goes st (zVs ps i st j)
  | 0,_=>.refl st
  | j+1,h=>by rw [zSn qAc];exact (zOg hp hi st j qAc).trans (zW8 (yMy hp hi) (hp _ (xB3 _)) _)
theorem yAy {ps:List Piece}(hp:∀ p,p∈ps→InP p){i:Nat}(hi:i<ps.length)(st:MS)(j:Nat):∀ n,j+n≤ps.length→Goes (zVs ps i st j) (zVs ps i st (j+n))
  | 0,_=>.refl _
  | n+1,h=>by rw [← xDp,zSn qAc];exact (yAy hp hi st j n qAc).trans (zW8 (yMy hp hi) (hp _ (xB3 _)) _)
theorem zKj {ps:List Piece}(hp:∀ p,p∈ps→InP p)(st:MS):∀ n,n≤ps.length→Goes st (zD5 ps st n)
  | 0,_=>.refl st
  | n+1,h=>by rw [zLa];exact (zKj hp st n qAc).trans (zOg hp qAc _ n qAc)
theorem zXr {ps:List Piece}(hp:∀ p,p∈ps→InP p)(st:MS)(j:Nat):∀ n,j+n≤ps.length→Goes (zD5 ps st j) (zD5 ps st (j+n))
  | 0,_=>.refl _
  | n+1,h=>by rw [← xDp,zLa];exact (zXr hp st j n qAc).trans (zOg hp qAc _ (j+n) qAc)
theorem zGl {ps:List Piece}(hp:∀ p,p∈ps→InP p){st:MS}(ho:OkM st):OkM (pass ps st)∧((pass ps st={ st with g:=false })∨((pass ps st).g=true∧mu (pass ps st)<mu st)):=by
  have h:=zKj hp { st with g:=false } ps.length (xBj _);have ho':OkM { st with g:=false }:=⟨ho.R,ho.C⟩
  exact ⟨h.ok ho',h.mu ho'⟩
def settle (ps:List Piece):Nat→MS→MS
  | 0,st=>st
  | f+1,st=>if (pass ps st).g then settle ps f (pass ps st) else pass ps st
theorem zSh {ps:List Piece}(hp:∀ p,p∈ps→InP p):∀ (f f':Nat) {st:MS},OkM st→mu st<f→mu st<f'→settle ps f st=settle ps f' st
  | 0,_,_,_,h,_=>by omega
  | _+1,0,_,_,_,h=>by omega
  | f + 1,f'+1,st,ho,h1,h2=>by
    obtain ⟨ho',hc⟩:=zGl hp ho;unfold settle;cases hg:(pass ps st).g with
    | false=>rfl
    | true =>
      rcases hc with e | ⟨_,e⟩
      · rw [e] at hg;cases hg
      · rw [if_pos rfl,if_pos rfl];exact zSh hp f f' ho' qAc qAc
def fin (ps:List Piece)(st:MS):MS:=settle ps (mu st+1) st
theorem zWb {ps:List Piece}(hp:∀ p,p∈ps→InP p){st:MS}(ho:OkM st)(hg:(pass ps st).g=true):fin ps st=fin ps (pass ps st):=by
  obtain ⟨ho',hc⟩:=zGl hp ho;rcases hc with e | ⟨_,e⟩
  · rw [e] at hg;cases hg
  · unfold fin;rw [settle,if_pos hg];exact zSh hp _ _ ho' qAc qAc
theorem zWc {ps:List Piece}{st:MS}(hg:(pass ps st).g=false):fin ps st=pass ps st:=by unfold fin;rw [settle,hg];rfl
theorem zZs {ps:List Piece}(hp:∀ p,p∈ps→InP p):∀ (n:Nat) {st:MS},mu st<n→OkM st→∃ s,OkM s∧Goes { st with g:=true } { s with g:=true }∧pass ps s={ s with g:=false }∧fin ps st={ s with g:=false }
  | 0,_,h,_=>by omega
  | n+1,st,h,ho=>by
    obtain ⟨ho',hc⟩:=zGl hp ho;rcases hc with e | ⟨hg,e⟩
    · exact ⟨st,ho,.refl _,e,by rw [zWc (by rw [e]),e]⟩
    · obtain ⟨s,k1,k2,k3,k4⟩:=zZs hp n qAc ho';refine ⟨s,k1,?_,k3,by rw [zWb hp ho hg,k4]⟩;have hgo:=zKj hp { st with g:=false } ps.length (xBj _);refine Goes.trans (b:={ pass ps st with g:=true }) ⟨fun ho2=>⟨ho'.R,ho'.C⟩,fun x y hx hy ho2 e2=>hgo.eqR x y hx hy ⟨ho2.R,ho2.C⟩ e2,fun x y hx hy ho2 e2=>hgo.eqC x y hx hy ⟨ho2.R,ho2.C⟩ e2,fun ho2=>?_⟩ k2;exact .inr ⟨rfl,e⟩
def yJm (st:MS)(p:Piece):Piece:=⟨p.Color,gN st.R p.North,gN st.C p.East,gN st.R p.South,gN st.C p.West⟩
def zTt (out:List Piece)(y:Piece):List Piece:=if kkP y∈out.map kkP then out else out++[y]
def yUu (st:MS)(ps:List Piece):List Piece:=(ps.map (yJm st)).foldl zTt []
theorem yUl {out:List Piece}{y:Piece}(h:(out.map kkP).Nodup):((zTt out y).map kkP).Nodup:=by
  unfold zTt;split
  · exact h
  · rename_i hn;rw [xBo,xA5];exact ⟨h,by simp,fun a ha b hb e=>by simp at hb;subst hb;subst e;exact hn ha⟩
theorem yNx {out:List Piece}{x y:Piece}(h:x∈out):x∈zTt out y:=by
  unfold zTt;split
  · exact h
  · exact xCt _ h
theorem yUm (out:List Piece)(y:Piece):kkP y∈(zTt out y).map kkP:=by
  unfold zTt;split
  · assumption
  · simp
theorem yNy {out:List Piece}{x y:Piece}(h:x∈zTt out y):x∈out∨x=y:=by
  unfold zTt at h;split at h
  · exact .inl h
  · rcases xBf.1 h with h | h
    · exact .inl h
    · exact .inr (xCa.1 h)
theorem yBq:∀ (ys out:List Piece),(out.map kkP).Nodup→((ys.foldl zTt out).map kkP).Nodup
  | [],_,h=>h
  | _::ys,_,h=>yBq ys _ (yUl h)
theorem zX6:∀ (ys:List Piece) {out:List Piece} {x:Piece},x∈out→x∈ys.foldl zTt out
  | [],_,_,h=>h
  | _::ys,_,_,h=>zX6 ys (yNx h)
theorem zX7:∀ (ys:List Piece) {out:List Piece} {x:Piece},x∈ys.foldl zTt out→x∈out∨x∈ys
  | [],_,_,h=>.inl h
  | y :: ys,_,_,h=>by
    rcases zX7 ys h with h | h
    · rcases yNy h with h | h
      · exact .inl h
      · exact .inr (by rw [h];exact xD1)
    · exact .inr (xCc _ h)
theorem yBr:∀ (ys:List Piece) {out:List Piece} {y:Piece},y∈ys→kkP y∈(ys.foldl zTt out).map kkP
  | [],_,_,h=>by cases h
  | y::ys,out,x,h=>by
    rcases xBs.1 h with rfl | h
    · obtain ⟨z,hz,e⟩:=xB1.1 (yUm out x);exact xB1.2 ⟨z,zX6 ys hz,e⟩
    · exact yBr ys h
theorem zTf:∀ (ys out:List Piece),(ys.foldl zTt out).length≤out.length+ys.length
  | [],_=>xBj _
  | y::ys,out=>by have h1:=zTf ys (zTt out y);have h2:(zTt out y).length≤out.length+1:=(by unfold zTt;split<;>simp);rw [xDm,xBk];omega
theorem yLo (st:MS)(ps:List Piece):(yUu st ps).length≤ps.length:=by have:=zTf (ps.map (yJm st)) [];simpa [yUu] using this
/-! Colors that clash. -/
def clash (st:MS)(ps:List Piece):Bool:=(List.range ps.length).any fun i=>(List.range i).any fun j=>inB st (gP ps (i:Nat)) (gP ps (j:Nat))&&!decide ((gP ps (i:Nat)).Color=(gP ps (j:Nat)).Color)
theorem yMm (st:MS)(p q:Piece):inB st p q=inB st q p:=by unfold inB;rw [show decide (gN st.R p.South=gN st.R q.South)=decide (gN st.R q.South=gN st.R p.South) from decide_eq_decide.2 eq_comm,show decide (gN st.C p.West=gN st.C q.West)=decide (gN st.C q.West=gN st.C p.West) from decide_eq_decide.2 eq_comm]
theorem difB_iff {st:MS}{p q:Piece}:yEo st p q=false↔gN st.R p.North=gN st.R q.North∧gN st.C p.East=gN st.C q.East:=by unfold yEo;rw [xEi];simp
/-! The start: two pieces made equal. -/
def m0 (p q:Piece):MS:=⟨zBg (zBg idN p.South q.South) p.North q.North,zBg (zBg idN p.West q.West) p.East q.East,true⟩
theorem yWa {p q:Piece}(hp:InP p)(hq:InP q):OkM (m0 p q):=⟨(idN_ok.join hp.S hq.S).join hp.N hq.N,(idN_ok.join hp.W hq.W).join hp.E hq.E⟩
theorem yRv {p q:Piece}(hp:InP p)(hq:InP q):m0 p q=⟨zBg (zBg idN p.North q.North) p.South q.South,zBg (zBg idN p.East q.East) p.West q.West,true⟩:=by unfold m0;rw [zUp (idN_ok.at hp.S).2.2 (idN_ok.at hq.S).2.2 (idN_ok.at hp.N).2.2 (idN_ok.at hq.N).2.2,zUp (idN_ok.at hp.W).2.2 (idN_ok.at hq.W).2.2 (idN_ok.at hp.E).2.2 (idN_ok.at hq.E).2.2]
theorem yRt (x y:Int):zGf x y x=zGf x y y:=by unfold zGf;(repeat' split)<;>omega
theorem yH8 {N:List Int}(h:OkN N){a b:Int}(ha:inG a)(hb:inG b):gN (zBg N a b) a=gN (zBg N a b) b:=by rw [zGc (h.at ha).2.2,zGc (h.at hb).2.2,yRt]
theorem zOz {N:List Int}(h:OkN N){a b x y:Int}(hx:inG x)(hy:inG y)(e:gN N x=gN N y):gN (zBg N a b) x=gN (zBg N a b) y:=by rw [zGc (h.at hx).2.2,zGc (h.at hy).2.2,e]
theorem yZa {p q:Piece}(hp:InP p)(hq:InP q):inB (m0 p q) p q=true:=by unfold inB m0;rw [xA2];exact ⟨decide_eq_true (zOz (idN_ok.join hp.S hq.S) hp.S hq.S (yH8 idN_ok hp.S hq.S)),decide_eq_true (zOz (idN_ok.join hp.W hq.W) hp.W hq.W (yH8 idN_ok hp.W hq.W))⟩
/-! Merging. -/
def mgD (d:Design)(i k:Int):MS:=fin d.Pieces (m0 (gP d.Pieces i) (gP d.Pieces k))
def zZf (d:Design)(st:MS):Design:=⟨d.Bottom.map (gN st.R),d.Left.map (gN st.C),yUu st d.Pieces⟩
theorem yHn {d:Design}{i k:Int}(hok:zC1 d=true)(hi:0≤i∧i<d.Pieces.length)(hk:0≤k∧k<d.Pieces.length):OkM (mgD d i k)∧(pass d.Pieces (mgD d i k)).g=false∧inB (mgD d i k) (gP d.Pieces i) (gP d.Pieces k)=true∧(mgD d i k).g=false:=by
  have hp:∀ p,p∈d.Pieces→InP p:=fun p h=>yIh ((zA1 hok).2.2.2.1 p h);have hpi:InP (gP d.Pieces i):=(by rw [zLv hi.1 hi.2];exact hp _ (xB3 _));have hpk:InP (gP d.Pieces k):=(by rw [zLv hk.1 hk.2];exact hp _ (xB3 _));have h0:=yWa hpi hpk;obtain ⟨s,k1,k2,k3,k4⟩:=zZs hp _ (Nat.lt_succ_self (mu (m0 (gP d.Pieces i) (gP d.Pieces k)))) h0;have he:mgD d i k={ s with g:=false }:=k4;rw [he];refine ⟨⟨k1.R,k1.C⟩,?_,?_,rfl⟩
  · have:pass d.Pieces { s with g:=false }=pass d.Pieces s:=rfl;rw [this,k3]
  · have hb:=yZa hpi hpk;unfold inB at hb ⊢;simp only [xA2,decide_eq_true_eq] at hb ⊢;exact ⟨k2.eqR _ _ hpi.S hpk.S ⟨h0.R,h0.C⟩ hb.1,k2.eqC _ _ hpi.W hpk.W ⟨h0.R,h0.C⟩ hb.2⟩
theorem zUu {N:List Int}(h:OkN N){x:Int}(hx:inG x):inR 0 119 (gN N x)=true:=by have:=(h.at hx).2.1;unfold inG at this;rw [zDq];omega
theorem yL7 {d:Design}{st:MS}(hok:zC1 d=true)(ho:OkM st):zC1 (zZf d st)=true:=by
  obtain ⟨⟨w1,w2⟩,⟨l1,l2⟩,p1,p2,p3,hb,hl⟩:=zA1 hok;unfold zC1 zFv zZf;simp only [xA2,decide_eq_true_eq,xBx];refine ⟨⟨?_,?_⟩,⟨?_,?_⟩,?_,?_,?_⟩
  · rw [xAw,zDq];omega
  · intro x hx;obtain ⟨y,hy,rfl⟩:=xB1.1 hx;exact zUu ho.R (hb y hy)
  · rw [xAw,zDq];omega
  · intro x hx;obtain ⟨y,hy,rfl⟩:=xB1.1 hx;exact zUu ho.C (hl y hy)
  · have:=yLo st d.Pieces;omega
  · intro x hx;rcases zX7 _ hx with h | h
    · cases h
    · obtain ⟨q,hq,rfl⟩:=xB1.1 h;have h1:=p2 q hq;have h2:=yIh h1;unfold zTy at h1 ⊢;simp only [xA2] at h1 ⊢;exact ⟨h1.1,zUu ho.R h2.N,zUu ho.C h2.E,zUu ho.R h2.S,zUu ho.C h2.W⟩
  · exact yBq _ _ qAh
theorem yOp {a b:MS}(hR:a.R=b.R)(hC:a.C=b.C)(p q:Piece):inB a p q=inB b p q:=by unfold inB;rw [hR,hC]
theorem yBn {a b:MS}(h:Goes a b)(ho:OkM a){p q:Piece}(hp:InP p)(hq:InP q)(hb:inB a p q=true):inB b p q=true:=by unfold inB at hb ⊢;simp only [xA2,decide_eq_true_eq] at hb ⊢;exact ⟨h.eqR _ _ hp.S hq.S ho hb.1,h.eqC _ _ hp.W hq.W ho hb.2⟩
theorem ySw {ps:List Piece}(hp:∀ p,p∈ps→InP p){st:MS}(ho:OkM st){p q:Piece}(pp:InP p)(qq:InP q)(hb:inB st p q=true):inB (fin ps st) p q=true:=by obtain ⟨s,k1,k2,k3,k4⟩:=zZs hp _ (Nat.lt_succ_self (mu st)) ho;rw [k4];have h1:inB { st with g:=true } p q=true:=(yOp rfl rfl p q).trans hb;exact (yOp rfl rfl p q).trans (yBn k2 ⟨ho.R,ho.C⟩ pp qq h1)
theorem yRr {ps:List Piece}(hp:∀ p,p∈ps→InP p){st s0:MS}(ho:OkM s0)(hs:pass ps st=zD5 ps s0 ps.length)(hR:s0.R=st.R)(hC:s0.C=st.C){i j:Nat}(hi:i<ps.length)(hj:j<i){p q:Piece}(pp:InP p)(qq:InP q)(hb:inB (zVs ps i (zD5 ps s0 i) j) p q=true):inB (fin ps st) p q=true:=by
  have ho':OkM st:=⟨hR▸ho.R,hC▸ho.C⟩
  have g1:=zKj hp s0 i qAc;have g2:=zOg hp hi (zD5 ps s0 i) j qAc;have g3:=yAy hp hi (zD5 ps s0 i) j (i-j) qAc;rw [show j+(i-j)=i by omega,← zLa] at g3;have g4:=zXr hp s0 (i+1) (ps.length-(i+1)) qAc;rw [show i+1+(ps.length-(i+1))=ps.length by omega,← hs] at g4;have hcur:=(g1.trans g2).ok ho;have hend:=yBn (g3.trans g4) hcur pp qq hb;have hok:=(zGl hp ho').1;cases hg:(pass ps st).g with
  | false=>rw [zWc hg];exact hend
  | true=>rw [zWb hp ho' hg];exact ySw hp hok pp qq hend
def NoC (st:MS)(ps:List Piece)(i j:Nat):Prop:=∀ a b,a<ps.length→b<a→(a<i∨(a=i∧b<j))→inB st (gP ps (a:Nat)) (gP ps (b:Nat))=true→(gP ps (a:Nat)).Color=(gP ps (b:Nat)).Color
theorem yY5 (st:MS)(ps:List Piece):NoC st ps 0 0:=fun a b _ _ h=>by omega
theorem yRc {st:MS}{ps:List Piece}{i:Nat}(h:NoC st ps i i):NoC st ps (i+1) 0:=fun a b ha hb hc=>h a b ha hb qAc
theorem yLx {st:MS}{ps:List Piece}{i j:Nat}(h:NoC st ps i j)(hk:inB st (gP ps (i:Nat)) (gP ps (j:Nat))=true→(gP ps (i:Nat)).Color=(gP ps (j:Nat)).Color):NoC st ps i (j+1):=fun a b ha hb hc=>by
  by_cases e:a=i∧b=j
  · obtain ⟨rfl,rfl⟩:=e;exact hk
  · exact h a b ha hb qAc
theorem yRd {st:MS}{ps:List Piece}(h:NoC st ps ps.length 0):clash st ps=false:=by
  unfold clash;rw [List.any_eq_false];intro i hi;have hi:=xDe.1 hi;rw [xB9,List.any_eq_false];intro j hj;have hj:=xDe.1 hj;rw [xB9];cases hb:inB st (gP ps (i:Nat)) (gP ps (j:Nat)) with
  | false=>rfl
  | true=>rw [h i j hi hj (.inl hi) hb];simp
theorem yI0 {ps:List Piece}(hp:∀ p,p∈ps→InP p){st s0:MS}(ho:OkM s0)(hs:pass ps st=zD5 ps s0 ps.length)(hR:s0.R=st.R)(hC:s0.C=st.C){i j:Nat}(hi:i<ps.length)(hj:j<i)(hb:inB (zVs ps i (zD5 ps s0 i) j) (gP ps (i:Nat)) (gP ps (j:Nat))=true)(hc:(gP ps (i:Nat)).Color≠(gP ps (j:Nat)).Color):clash (fin ps st) ps=true:=by have h:=yRr hp ho hs hR hC hi hj (yMy hp hi) (yMy hp (show j<ps.length by omega)) hb;unfold clash;rw [xDr];refine ⟨i,xDe.2 hi,?_⟩;rw [xDr];refine ⟨j,xDe.2 hj,?_⟩;rw [h];simp [hc]
theorem zZw {d:Design}{i k:Int}(hok:zC1 d=true)(hi:0≤i∧i<d.Pieces.length)(hk:0≤k∧k<d.Pieces.length)(hc:(gP d.Pieces i).Color≠(gP d.Pieces k).Color):clash (mgD d i k) d.Pieces=true:=by
  have h:=(yHn hok hi hk).2.2.1;obtain ⟨i,rfl⟩:∃ n:Nat,i=(n:Int):=⟨i.toNat,by omega⟩
  obtain ⟨k,rfl⟩:∃ n:Nat,k=(n:Int):=⟨k.toNat,by omega⟩
  unfold clash;rw [xDr];rcases Nat.lt_trichotomy i k with h2 | h2 | h2
  · refine ⟨k,xDe.2 qAc,?_⟩;rw [xDr];refine ⟨i,xDe.2 h2,?_⟩;rw [yMm,h];have:=Ne.symm hc;simp [this]
  · subst h2;exact absurd rfl hc
  · refine ⟨i,xDe.2 qAc,?_⟩;rw [xDr];refine ⟨k,xDe.2 h2,?_⟩;rw [h];simp [hc]
def eqM (st:MS)(p q:Piece):MS:=⟨zBg (zBg st.R p.North q.North) p.South q.South,zBg (zBg st.C p.East q.East) p.West q.West,st.g⟩
def eqB (st:MS)(p q:Piece):Bool:=!decide (gN st.R p.North=gN st.R q.North)||(!decide (gN (zBg st.R p.North q.North) p.South=gN (zBg st.R p.North q.North) q.South)||(!decide (gN st.C p.East=gN st.C q.East)||!decide (gN (zBg st.C p.East q.East) p.West=gN (zBg st.C p.East q.East) q.West)))
theorem yOt {st:MS}{p q:Piece}(ho:OkM st)(hp:InP p)(hq:InP q)(hb:inB st p q=true):eqM st p q=⟨zBg st.R p.North q.North,zBg st.C p.East q.East,st.g⟩∧eqB st p q=yEo st p q:=by unfold inB at hb;simp only [xA2,decide_eq_true_eq] at hb;have h1:gN (zBg st.R p.North q.North) p.South=gN (zBg st.R p.North q.North) q.South:=zOz ho.R hp.S hq.S hb.1;have h2:gN (zBg st.C p.East q.East) p.West=gN (zBg st.C p.East q.East) q.West:=zOz ho.C hp.W hq.W hb.2;unfold eqM eqB yEo;rw [zFy h1,zFy h2,decide_eq_true h1,decide_eq_true h2];simp
theorem yFc {p q:Piece}{st:MS}(hd:yEo st p q=false):zKd p st q=st:=by obtain ⟨h1,h2⟩:=difB_iff.1 hd;unfold zKd;rw [zFy h1,zFy h2,hd,xCv];split<;>rfl
theorem yPw {p q:Piece}{st:MS}(ho:OkM st)(hp:InP p)(hq:InP q)(hb:inB st p q=true):zKd p st q=⟨(eqM st p q).R,(eqM st p q).C,st.g||eqB st p q⟩:=by obtain ⟨h1,h2⟩:=yOt ho hp hq hb;unfold zKd;rw [if_pos hb,h1,h2]
/-! Patterns. -/
structure OkPat (p:Pattern):Prop where
  w:1≤p.Width∧p.Width≤4
  h:1≤p.Height∧p.Height≤4
  n:(p.Cells.length:Int)=p.Width*p.Height
  c:∀ x,x∈p.Cells→0≤x∧x≤5
theorem yEt {W H:Int}(w:1≤W∧W≤4)(h:1≤H∧H≤4):1≤W*H∧W*H≤16:=by obtain ⟨w1,w2⟩:=w;have:W=1∨W=2∨W=3∨W=4:=qAc;rcases this with e | e | e | e<;>subst e<;>omega
theorem OkPat.len {p:Pattern}(h:OkPat p):1≤p.Cells.length∧p.Cells.length≤16:=by have:=yEt h.w h.h;have:=h.n;omega
def yX5 (x y:Int):Int:=IntKind.i64.wrap ((BitVec.ofInt IntKind.i64.bits x &&& BitVec.ofInt IntKind.i64.bits y).toNat)
theorem yUk {x y:Int}(hx:0≤x∧x≤3)(hy:0≤y∧y≤3):0≤yX5 x y∧yX5 x y≤3:=by have h1:x=0∨x=1∨x=2∨x=3:=qAc;have h2:y=0∨y=1∨y=2∨y=3:=qAc;rcases h1 with e | e | e | e<;>rcases h2 with f | f | f | f<;>subst e<;>subst f<;>decide
def cellV (W kind:Int)(i:Nat)(s:Src):Int:=if kind=0 then ((i:Int).tmod W+(i:Int).tdiv W).tmod 2 else if kind=1 then (yX5 ((i:Int).tmod W) ((i:Int).tdiv W)).tmod 2 else if kind=2 then ((i:Int).tmod W).tmod 2 else zCu s (2+kind.tmod 2)
def zRe (kind:Int)(s:Src):Src:=if kind=0 then s else if kind=1 then s else if kind=2 then s else zCc s (2+kind.tmod 2)
def zE8 (W kind:Int)(s:Src):Nat→List Int×Src
  | 0=>([],s)
  | n+1=>((zE8 W kind s n).1++[cellV W kind n (zE8 W kind s n).2],zRe kind (zE8 W kind s n).2)
theorem zQi (W kind:Int)(s:Src):∀ n,(zE8 W kind s n).1.length=n
  | 0=>rfl
  | n+1=>by show ((zE8 W kind s n).1++[_]).length=_;rw [xC4,zQi W kind s n];rfl
theorem yTq {k:Nat}{kind:Int}{s:Src}(h:SrcB (k+2) s):SrcB k (zRe kind s):=by
  unfold zRe
  (repeat' split)<;>first | exact h.mono qAc | exact h.pick _
theorem zRz (W kind:Int){k:Nat}{s:Src}:∀ n,SrcB (k+2*n) s→SrcB k (zE8 W kind s n).2
  | 0,h=>h.mono qAc
  | n+1,h=>yTq (zRz W kind (k:=k+2) n (h.mono qAc))
theorem zS4 {x n:Int}(hx:0≤x)(hn:1≤n):0≤x.tmod n∧x.tmod n<n:=by rw [xF3 hx];exact ⟨Int.emod_nonneg _ qAc,Int.emod_lt_of_pos _ qAc⟩
theorem yBy {x n:Int}(hx:0≤x)(hn:1≤n):0≤x.tdiv n∧x.tdiv n≤x:=by rw [xF4 hx];exact ⟨Int.ediv_nonneg hx qAc,Int.ediv_le_self _ hx⟩
theorem div_lt {x W H:Int}(hx:0≤x)(hW:1≤W)(h:x<W*H):x.tdiv W<H:=by rw [xF4 hx];exact Int.ediv_lt_of_lt_mul qAc (by rw [Int.mul_comm];exact h)
theorem yNi {W H kind:Int}{i:Nat}{s:Src}{k:Nat}(hB:SrcB (k+2) s)(w:1≤W∧W≤4)(h:1≤H∧H≤4)(hi:(i:Int)<W*H)(hk:0≤kind):0≤cellV W kind i s∧cellV W kind i s≤5:=by
  have a:=zS4 (x:=(i:Int)) (n:=W) qAc w.1;have b:=yBy (x:=(i:Int)) (n:=W) qAc w.1;have c:=div_lt (x:=(i:Int)) qAc w.1 hi;have kk:=zS4 (x:=kind) (n:=2) hk qAc;unfold cellV;split
  · have:=zS4 (x:=(i:Int).tmod W+(i:Int).tdiv W) (n:=2) qAc qAc;omega
  · split
    · have h1:=yUk (x:=(i:Int).tmod W) (y:=(i:Int).tdiv W) qAc qAc;have:=zS4 (n:=2) h1.1 qAc;omega
    · split
      · have:=zS4 (x:=(i:Int).tmod W) (n:=2) qAc qAc;omega
      · have:=zHa hB (n:=2+kind.tmod 2) qAc;omega
theorem zYf {W H kind:Int}{k:Nat}{s:Src}(w:1≤W∧W≤4)(h:1≤H∧H≤4)(hk:0≤kind):∀ n:Nat,(n:Int)≤W*H→SrcB (k+2*n) s→∀ x,x∈(zE8 W kind s n).1→0≤x∧x≤5
  | 0,_,_,x,hx=>by cases hx
  | n+1,hn,hB,x,hx=>by
    rcases xBf.1 hx with hx | hx
    · exact zYf (k:=k) w h hk n qAc (hB.mono qAc) x hx
    · rw [xCa] at hx;subst hx;exact yNi (k:=k) (zRz W kind (k:=k+2) n (hB.mono qAc)) w h qAc hk
def zYo (s:Src):Int:=1+zCu s 4
def yDh (s:Src):Int:=1+zCu (zCc s 4) 4
def yOf (s:Src):Int:=zCu (zCc (zCc s 4) 4) 5
def yUs (s:Src):Src:=zCc (zCc (zCc s 4) 4) 5
def yYf (s:Src):List Int×Src:=zE8 (zYo s) (yOf s) (yUs s) (zYo s*yDh s).toNat
def yJn (s:Src):Pattern:=⟨zYo s,yDh s,(yYf s).1⟩
def zY6 (s:Src):Src:=(yYf s).2
structure PatF (k:Nat) (s:Src):Prop where
  w:1≤zYo s∧zYo s≤4
  h:1≤yDh s∧yDh s≤4
  kd:0≤yOf s∧yOf s<5
  b0:SrcB (k+36) (zCc s 4)
  b1:SrcB (k+34) (zCc (zCc s 4) 4)
  b2:SrcB (k+32) (yUs s)
theorem yVz {k:Nat}{s:Src}(hB:SrcB (k+38) s):PatF k s:=by have a1:=zHa (k:=k+36) hB (n:=4) qAc;have b1:SrcB (k+36) _:=SrcB.pick (k:=k+36) hB 4;have a2:=zHa (k:=k+34) b1 (n:=4) qAc;have b2:SrcB (k+34) _:=SrcB.pick (k:=k+34) b1 4;have a3:=zHa (k:=k+32) b2 (n:=5) qAc;have b3:SrcB (k+32) _:=SrcB.pick (k:=k+32) b2 5;exact ⟨by unfold zYo;omega,by unfold yDh;omega,by unfold yOf;omega,b1,b2,b3⟩
theorem yVy {k:Nat}{s:Src}(hB:SrcB (k+38) s):OkPat (yJn s)∧SrcB k (zY6 s):=by
  have f:=yVz hB;have wh:=yEt f.w f.h;refine ⟨⟨f.w,f.h,?_,?_⟩,?_⟩
  · show ((yYf s).1.length:Int)=_;unfold yYf;rw [zQi];show _=zYo s*yDh s;omega
  · exact zYf (k:=k) f.w f.h f.kd.1 _ qAc (f.b2.mono qAc)
  · exact zRz _ _ _ (f.b2.mono qAc)
/-! The design with one piece for each cell. -/
def yCp (p:Pattern)(i:Nat):Piece:=⟨p.Cells.getD i 0,(i:Int)+p.Width,(i:Int)+(i:Int).tdiv p.Width+1,i,(i:Int)+(i:Int).tdiv p.Width⟩
def zVj (p:Pattern)(n:Nat):List Piece:=(List.range n).map (yCp p)
def zVk (n:Nat):List Int:=(List.range n).map fun (x:Nat)=>(x:Int)
def zWv (W:Int)(n:Nat):List Int:=(List.range n).map fun (y:Nat)=>(y:Int)*(W+1)
def zTx (p:Pattern):Design:=⟨zVk p.Width.toNat,zWv p.Width p.Height.toNat,zVj p (p.Width*p.Height).toNat⟩
theorem yCq (p:Pattern)(n:Nat):zVj p (n+1)=zVj p n++[yCp p n]:=by unfold zVj;rw [xEd,xBo];rfl
theorem yCs (n:Nat):zVk (n+1)=zVk n++[(n:Int)]:=by unfold zVk;rw [xEd,xBo];rfl
theorem yCr (W:Int)(n:Nat):zWv W (n+1)=zWv W n++[(n:Int)*(W+1)]:=by unfold zWv;rw [xEd,xBo];rfl
theorem zSa (p:Pattern)(n:Nat):(zVj p n).length=n:=by simp [zVj]
theorem zWw (n:Nat):(zVk n).length=n:=by simp [zVk]
theorem zWu (W:Int)(n:Nat):(zWv W n).length=n:=by simp [zWv]
theorem yOj {a b:Int}(ha:0≤a∧a≤3)(hb:0≤b∧b≤5):0≤a*b∧a*b≤15:=by have:a=0∨a=1∨a=2∨a=3:=qAc;rcases this with e | e | e | e<;>subst e<;>omega
theorem yE4 {p:Pattern}(h:OkPat p):zC1 (zTx p)=true∧1≤(zTx p).Pieces.length:=by
  obtain ⟨hw,hh,hn,hc⟩:=h;have wh:=yEt hw hh;refine ⟨?_,by show 1≤(zVj p _).length;rw [zSa];omega⟩;unfold zC1 zFv zTx;simp only [xA2,decide_eq_true_eq,xBx,zSa,zWw,zWu,zDq];refine ⟨⟨by omega,?_⟩,⟨by omega,?_⟩,by omega,?_,?_⟩
  · intro x hx;obtain ⟨i,hi,rfl⟩:=xB1.1 hx;have:=xDe.1 hi;omega
  · intro x hx;obtain ⟨i,hi,rfl⟩:=xB1.1 hx;have:=xDe.1 hi;have:=yOj (a:=(i:Int)) (b:=p.Width+1) qAc qAc;omega
  · intro x hx;obtain ⟨i,hi,rfl⟩:=xB1.1 hx;have hi:=xDe.1 hi;have hd:=yBy (x:=(i:Int)) (n:=p.Width) qAc hw.1;have hlt:i<p.Cells.length:=by omega
    have hcc:=hc _ (xB3 hlt);unfold zTy yCp;simp only [xA2,zDq];rw [xA3,xA1 hlt];simp only [xDd];omega
  · unfold zVj;rw [xDl];show List.Pairwise _ _;rw [xFu];refine List.Pairwise.imp ?_ xGr;intro a b hab e;simp only [Function.comp,kkP,yCp,xBd] at e;omega
/-! Merging, some times. -/
def zHj (d:Design)(s:Src):Int:=1+zCu s ((d.Pieces.length:Int)-1)
def zIk (d:Design)(s:Src):Int:=zCu (zCc s ((d.Pieces.length:Int)-1)) (zHj d s)
def yFe (d:Design)(s:Src):Src:=zCc (zCc s ((d.Pieces.length:Int)-1)) (zHj d s)
def yCv (d:Design)(s:Src):Design:=if clash (mgD d (zHj d s) (zIk d s)) d.Pieces then d else zZf d (mgD d (zHj d s) (zIk d s))
def mergeD:Nat→Design→Src→Design×Src
  | 0,d,s=>(d,s)
  | k+1,d,s=>if 1<d.Pieces.length then mergeD k (yCv d s) (yFe d s) else (d,s)
theorem yLn {st:MS}{ps:List Piece}(h:1≤ps.length):1≤(yUu st ps).length:=by
  cases ps with
  | nil=>simp at h
  | cons p ps=>have:=yBr (((p::ps)).map (yJm st)) (out:=[]) (y:=yJm st p) qAh;obtain ⟨x,hx,_⟩:=xB1.1 this;exact xGx hx
structure DsF (d:Design):Prop where
  ok:zC1 d=true
  n:1≤d.Pieces.length
theorem yFd {k:Nat}{d:Design}{s:Src}(h:DsF d)(hB:SrcB (k+4) s)(hl:1<d.Pieces.length):(1≤zHj d s∧zHj d s<d.Pieces.length)∧(0≤zIk d s∧zIk d s<zHj d s)∧SrcB (k+2) (zCc s ((d.Pieces.length:Int)-1))∧SrcB k (yFe d s):=by have a1:=zHa (k:=k+2) hB (n:=(d.Pieces.length:Int)-1) qAc;have b1:SrcB (k+2) _:=SrcB.pick (k:=k+2) hB ((d.Pieces.length:Int)-1);have hi:1≤zHj d s∧zHj d s<d.Pieces.length:=(by unfold zHj;omega);have a2:=zHa (k:=k) b1 (n:=zHj d s) qAc;exact ⟨hi,a2,b1,SrcB.pick (k:=k) b1 _⟩
theorem yFf {k:Nat}{d:Design}{s:Src}(h:DsF d)(hB:SrcB (k+4) s)(hl:1<d.Pieces.length):DsF (yCv d s):=by
  obtain ⟨h1,h2,_⟩:=yFd h hB hl;unfold yCv;split
  · exact h
  · exact ⟨yL7 h.ok (yHn h.ok qAc qAc).1,yLn h.n⟩
theorem yBb:∀ (n:Nat) {k:Nat} {d:Design} {s:Src},DsF d→SrcB (k+4*n) s→DsF (mergeD n d s).1∧SrcB k (mergeD n d s).2
  | 0,k,d,s,h,hB=>⟨h,hB.mono qAc⟩
  | n+1,k,d,s,h,hB=>by
    unfold mergeD;split
    · rename_i hl;have hB':SrcB (k+4*n+4) s:=hB.mono qAc;exact yBb n (yFf h hB' hl) (yFd h hB' hl).2.2.2
    · exact ⟨h,hB.mono qAc⟩
/-! A change at the end, now and then. -/
def edN (s:Src):Src:=if zCu s 20=0 then zCc (zCc s 20) 4 else if zCu s 20=3 then zCc (zCc s 20) 4 else zCc s 20
def yC7 (p:Piece)(c:Int):Piece:=⟨c,p.North,p.East,p.South,p.West⟩
def edD (d:Design)(s:Src):Design :=
  if zCu s 20=0 then ⟨d.Bottom++[[(-1:Int),0,119,120].getD (zCu (zCc s 20) 4).toNat 0],d.Left,d.Pieces⟩
  else if zCu s 20=1 then ⟨d.Bottom,d.Left,d.Pieces++[d.Pieces.getD 0 p0]⟩
  else if zCu s 20=2 then ⟨d.Bottom,d.Left,d.Pieces.drop 1⟩
  else if zCu s 20=3 then ⟨d.Bottom,d.Left,d.Pieces.set 0 (yC7 (d.Pieces.getD 0 p0) ([(-1:Int),0,5,6].getD (zCu (zCc s 20) 4).toNat 0))⟩
  else if zCu s 20=4 then ⟨d.Bottom,[],d.Pieces⟩
  else d
theorem yZw {k:Nat}{s:Src}(h:SrcB (k+4) s):SrcB k (edN s):=by
  have b1:SrcB (k+2) _:=SrcB.pick (k:=k+2) h 20;unfold edN
  (repeat' split)<;>first | exact b1.mono qAc | exact b1.pick _
structure DrF (d:Design):Prop where
  ok:Design.td.ok d
  b:d.Bottom.length≤11
  l:d.Left.length≤10
  p:d.Pieces.length≤101
theorem zV7 {x:Int}(h : -1≤x∧x≤200):InK .i64 x:=⟨by omega,by omega⟩
theorem yVx {p:Piece}(h:zTy p=true):Piece.td.ok p:=by unfold zTy at h;simp only [xA2,zDq] at h;rw [Piece.td_ok];exact ⟨zV7 qAc,zV7 qAc,zV7 qAc,zV7 qAc,zV7 qAc⟩
theorem yO3 {xs:List Int}(h:∀ x,x∈xs → -1≤x∧x≤200)(k:Nat) : -1≤xs.getD k 0∧xs.getD k 0≤200:=by
  rw [xA3];cases hk:xs[k]? with
  | none=>simp
  | some y=>exact h y (xDi hk)
theorem yTd {d:Design}(h:DsF d):DrF d:=by obtain ⟨⟨w1,w2⟩,⟨l1,l2⟩,p1,p2,_,hb,hl⟩:=zA1 h.ok;refine ⟨?_,by omega,by omega,by omega⟩;rw [Design.td_ok];exact ⟨fun x hx=>by have:=hb x hx;unfold inG at this;exact zV7 qAc,fun x hx=>by have:=hl x hx;unfold inG at this;exact zV7 qAc,fun x hx=>yVx (p2 x hx)⟩
theorem yZx {d:Design} (h:DsF d) (s:Src):DrF (edD d s):=by
  have h0:=yTd h;obtain ⟨⟨w1,w2⟩,⟨l1,l2⟩,p1,p2,_,hb,hl⟩:=zA1 h.ok;have hn:=h.n;obtain ⟨o1,o2,o3⟩:=h0.ok;have hg:d.Pieces.getD 0 p0=d.Pieces[0]:=(by rw [xA3,xA1 (show 0<d.Pieces.length by omega)];rfl);have hg0:=o3 _ (xB3 (show 0<d.Pieces.length by omega));rw [← hg] at hg0;unfold edD;split
  · refine ⟨⟨fun x hx=>?_,o2,o3⟩,by simp;omega,by simp;omega,by simp;omega⟩;rcases xBf.1 hx with hx | hx
    · exact o1 x hx
    · rw [xCa] at hx;subst hx;exact zV7 (yO3 qAx _)
  · split
    · refine ⟨⟨o1,o2,fun x hx=>?_⟩,by simp;omega,by simp;omega,by simp;omega⟩;rcases xBf.1 hx with hx | hx
      · exact o3 x hx
      · rw [xCa] at hx;subst hx;exact hg0
    · split
      · exact ⟨⟨o1,o2,fun x hx=>o3 x (List.mem_of_mem_drop hx)⟩,by simp;omega,by simp;omega,by simp;omega⟩
      · split
        · refine ⟨⟨o1,o2,fun x hx=>?_⟩,by simp;omega,by simp;omega,by simp;omega⟩;rcases xFc hx with hx | rfl
          · exact o3 x hx
          · obtain ⟨_,h2,h3,h4,h5⟩:=hg0;exact ⟨zV7 (yO3 qAx _),h2,h3,h4,h5⟩
        · split
          · exact ⟨⟨o1,(fun x hx=>by cases hx),o3⟩,by simp;omega,by simp,by simp;omega⟩
          · exact h0
def yJo (s:Src):Design×Src:=mergeD (zCu (zY6 s) 5).toNat (zTx (yJn s)) (zCc (zY6 s) 5)
def yYl (s:Src):Design:=edD (yJo s).1 (yJo s).2
def yYk (s:Src):Src:=edN (yJo s).2
structure DrwF (k:Nat) (s:Src):Prop where
  p:OkPat (yJn s)
  u:DsF (zTx (yJn s))
  b1:SrcB (k+22) (zY6 s)
  n:0≤zCu (zY6 s) 5∧zCu (zY6 s) 5<5
  b2:SrcB (k+20) (zCc (zY6 s) 5)
  m:DsF (yJo s).1
  b3:SrcB (k+4) (yJo s).2
  d:DrF (yYl s)
  b4:SrcB k (yYk s)
theorem yXl {k:Nat}{s:Src}(hB:SrcB (k+60) s):DrwF k s:=by
  obtain ⟨hp,b1⟩:=yVy (k:=k+22) hB;have hn:=zHa (k:=k+20) b1 (n:=5) qAc;have b2:SrcB (k+20) _:=SrcB.pick (k:=k+20) b1 5;have hu:DsF (zTx (yJn s)):=⟨(yE4 hp).1,(yE4 hp).2⟩
  obtain ⟨hm,b3⟩:=yBb (zCu (zY6 s) 5).toNat (k:=k+4) hu (b2.mono qAc);exact ⟨hp,hu,b1,hn,b2,hm,b3,yZx hm _,yZw b3⟩
end Go.Proofs.Ytaleehohmpohoaa
