/- Laws that the proof stands on. -/
import Derived.Test.YtaleehohmpohoaaZVCanR
import Derived.Test.YtaleehohmpohoaaZg12
import Derived.Test.YtaleehohmpohoaaZg14
set_option linter.all false
namespace Go.Proofs.Ytaleehohmpohoaa
open Go.RowKit Go.V
/-! Names: the least number that is equal. -/
def gN (N:List Int)(a:Int):Int:=N.getD a.toNat 0
def zFm (x y k:Int):Int:=if k=max x y then min x y else k
def zA7 (N:List Int)(a b:Int):List Int:=N.map (zFm (gN N a) (gN N b))
theorem zRb (x k:Int):zFm x x k=k:=by unfold zFm;split<;>omega
theorem zD5 (x y k:Int):zFm x y k=zFm y x k:=by unfold zFm;rw [Int.max_comm,Int.min_comm]
theorem zH6 {x y:Int}(h:x≤y)(k:Int):zFm x y k=if k=y then x else k:=by unfold zFm;rw [xI7 h,Int.min_eq_left h]
theorem zJl {x y u v:Int} (h1:x≤y) (h2:u≤v) (k:Int):zFm (zFm x y u) (zFm x y v) (zFm x y k)=zFm (zFm u v x) (zFm u v y) (zFm u v k):=by
  simp only [zH6 h1,zH6 h2];by_cases a1:u=y
  · subst a1;rw [if_pos rfl];by_cases a2:v=u
    · subst a2;simp only [if_true];have e:(if x=v then v else x)=x:=by split<;>omega
      rw [e];by_cases a3:k=v
      · subst a3;simp only [if_true];unfold zFm;(repeat' split)<;>omega
      · simp only [if_neg a3,zRb,zH6 h1]
    · have a2':¬ u=v:=fun h=>a2 h.symm;have a4:¬ x=v:=(by omega);rw [if_neg a2,if_neg a2',if_neg a4,zH6 (show x≤v by omega),zH6 h1];by_cases a3:k=u
      · subst a3;rw [if_pos rfl,if_neg a2',if_neg a4,if_pos rfl]
      · rw [if_neg a3];by_cases a5:k=v
        · rw [if_pos a5,if_pos a5,if_pos rfl]
        · rw [if_neg a5,if_neg a5,if_neg a3]
  · rw [if_neg a1];by_cases a2:v=y
    · subst a2;rw [if_pos rfl,if_pos rfl];by_cases a3:x=v
      · subst a3;rw [if_pos rfl];rw [zRb,zH6 h2];by_cases a5:k=x
        · rw [if_pos a5,if_pos a5,if_pos rfl]
        · simp only [if_neg a5]
      · rw [if_neg a3,zD5 x u];by_cases a5:k=v
        · rw [if_pos a5,if_pos a5];unfold zFm;(repeat' split)<;>omega
        · rw [if_neg a5,if_neg a5]
    · have a2':¬ y=v:=fun h=>a2 h.symm;rw [if_neg a2,if_neg a2',zH6 h2];by_cases a3:x=v
      · subst a3;rw [if_pos rfl,zH6 (show u≤y by omega)];by_cases a5:k=y
        · have:¬ k=x:=(by omega);rw [if_pos a5,if_pos rfl,if_neg this,if_pos a5]
        · rw [if_neg a5];by_cases a6:k=x
          · rw [if_pos a6,if_neg (by omega)]
          · rw [if_neg a6,if_neg a5]
      · rw [if_neg a3,zH6 h1];by_cases a5:k=y
        · have:¬ k=v:=(by omega);rw [if_pos a5,if_neg a3,if_neg this,if_pos a5]
        · rw [if_neg a5];by_cases a6:k=v
          · rw [if_pos a6,if_neg (by omega)]
          · rw [if_neg a6,if_neg a5]
theorem yF9 (x y u v k:Int):zFm (zFm x y u) (zFm x y v) (zFm x y k)=zFm (zFm u v x) (zFm u v y) (zFm u v k):=by
  rcases Int.le_total x y with h1 | h1<;>rcases Int.le_total u v with h2 | h2
  · exact zJl h1 h2 k
  · have:=zJl h1 h2 k;rw [zD5 (zFm x y v)] at this;rw [this];simp only [zD5 v u]
  · have:=zJl h1 h2 k;rw [zD5 (zFm u v y)] at this;rw [← this];simp only [zD5 y x]
  · have:=zJl h1 h2 k;rw [zD5 (zFm y x v),zD5 (zFm v u y)] at this;simp only [zD5 y x,zD5 v u] at this;exact this
theorem zJo (N:List Int)(a b:Int):zA7 N a b=zA7 N b a:=by unfold zA7;exact xG5 fun k _=>zD5 _ _ k
theorem zRg (N:List Int)(a b:Int):(zA7 N a b).length=N.length:=by unfold zA7;rw [xDj]
theorem zFz {N:List Int}{a b c:Int}(h:c.toNat<N.length):gN (zA7 N a b) c=zFm (gN N a) (gN N b) (gN N c):=by unfold zA7 gN;rw [xDt (l:=N.map _),xDm,xDt (i:=c.toNat),xDl h];rfl
theorem zSt {N:List Int}{a b c d:Int}(ha:a.toNat<N.length)(hb:b.toNat<N.length)(hc:c.toNat<N.length)(hd:d.toNat<N.length):zA7 (zA7 N a b) c d=zA7 (zA7 N c d) a b:=by have e1:zA7 (zA7 N a b) c d=(zA7 N a b).map (zFm (gN (zA7 N a b) c) (gN (zA7 N a b) d)):=rfl;have e2:zA7 (zA7 N c d) a b=(zA7 N c d).map (zFm (gN (zA7 N c d) a) (gN (zA7 N c d) b)):=rfl;rw [e1,e2,zFz hc,zFz hd,zFz ha,zFz hb];unfold zA7;rw [xFw,xFw];exact xG5 fun k _=>yF9 _ _ _ _ k
theorem zEv {N:List Int}{a b:Int}(h:gN N a=gN N b):zA7 N a b=N:=by unfold zA7;rw [h];exact (xG5 fun k _=>zRb _ k).trans (List.map_id _)
structure OkN (N:List Int):Prop where
  len:N.length=120
  inn:∀ x,x∈N→inG x
theorem OkN.at {N:List Int}(h:OkN N){a:Int}(ha:inG a):gN N a∈N∧inG (gN N a)∧a.toNat<N.length:=by
  unfold inG at ha;have hl:a.toNat<N.length:=by rw [h.len];omega
  have hm:gN N a∈N:=zNb hl;exact ⟨hm,h.inn _ hm,hl⟩
theorem ySa {x y k:Int}(hx:inG x)(hy:inG y)(hk:inG k):inG (zFm x y k):=by unfold zFm inG at *;split<;>omega
theorem OkN.join {N:List Int}(h:OkN N){a b:Int}(ha:inG a)(hb:inG b):OkN (zA7 N a b):=by refine ⟨by rw [zRg,h.len],fun x hx=>?_⟩;unfold zA7 at hx;obtain ⟨k,hk,rfl⟩:=xEg.1 hx;exact ySa (h.at ha).2.1 (h.at hb).2.1 (h.inn k hk)
def idN:List Int:=zY9 120
theorem idN_ok:OkN idN:=⟨zUe 120,fun x hx=>by have:=mem_iota.1 hx;unfold inG;omega⟩
/-! How much there is left to merge. -/
def muN (N:List Int):Nat:=(N.map Int.toNat).sum
theorem yR0 {f:Int→Int}:∀ {N:List Int},(∀ k,k∈N→(f k).toNat≤k.toNat)→muN (N.map f)≤muN N
  | [],_=>xD8 _
  | k::N,h=>by have h1:=yR0 (f:=f) (N:=N) fun k hk=>h k (xE7 _ hk);have h2:=h k xG9;unfold muN at h1 ⊢;simp only [xDu,xIy] at h1 ⊢;omega
theorem yXo {f:Int→Int}:∀ {N:List Int},(∀ k,k∈N→(f k).toNat≤k.toNat)→∀ {k},k∈N→(f k).toNat<k.toNat→muN (N.map f)<muN N
  | [],_,_,hk,_=>by cases hk
  | j::N,h,k,hk,hlt=>by
    have h2:=h j xG9;rcases xEf.1 hk with rfl | hk
    · have h1:=yR0 (f:=f) (N:=N) fun k hk=>h k (xE7 _ hk);unfold muN at h1 ⊢;simp only [xDu,xIy] at h1 ⊢;omega
    · have h1:=yXo (f:=f) (N:=N) (fun k hk=>h k (xE7 _ hk)) hk hlt;unfold muN at h1 ⊢;simp only [xDu,xIy] at h1 ⊢;omega
theorem zSq (x y k:Int):(zFm x y k).toNat≤k.toNat:=by unfold zFm;split<;>omega
theorem yGr {N:List Int}(h:OkN N){a b:Int}(ha:inG a)(hb:inG b)(hne:gN N a≠gN N b):muN (zA7 N a b)<muN N:=by
  have h1:=h.at ha;have h2:=h.at hb;unfold zA7;have hm:max (gN N a) (gN N b)∈N:=by
    rcases Int.le_total (gN N a) (gN N b) with hl | hl
    · rw [xI7 hl];exact h2.1
    · rw [Int.max_eq_left hl];exact h1.1
  refine yXo (fun k _=>zSq _ _ k) hm ?_;have h3:=h1.2.1;have h4:=h2.2.1;unfold inG at h3 h4;unfold zFm;rw [if_pos rfl];omega
theorem zSs (N:List Int)(a b:Int):muN (zA7 N a b)≤muN N:=yR0 fun k _=>zSq _ _ k
/-! The state of a merging: the names of both kinds, and whether something was not equal. -/
structure MS where
  R:List Int
  C:List Int
  g:Bool
structure OkM (st:MS):Prop where
  R:OkN st.R
  C:OkN st.C
def mu (st:MS):Nat:=muN st.R+muN st.C
def inB (st:MS)(p q:Piece):Bool:=decide (gN st.R p.South=gN st.R q.South)&&decide (gN st.C p.West=gN st.C q.West)
def zUy (st:MS)(p q:Piece):Bool:=!decide (gN st.R p.North=gN st.R q.North)||!decide (gN st.C p.East=gN st.C q.East)
def zF8 (p:Piece)(st:MS)(q:Piece):MS:=if inB st p q then ⟨zA7 st.R p.North q.North,zA7 st.C p.East q.East,st.g||zUy st p q⟩ else st
def zMu (ps:List Piece)(i:Nat)(st:MS)(j:Nat):MS:=(ps.take j).foldl (zF8 (gP ps (i:Nat))) st
def zCo (ps:List Piece)(st:MS)(n:Nat):MS:=(List.range n).foldl (fun st i=>zMu ps i st i) st
def pass (ps:List Piece)(st:MS):MS:=zCo ps { st with g:=false } ps.length
theorem zG6 {ps:List Piece}{i j:Nat}{st:MS}(h:j<ps.length):zMu ps i st (j+1)=zF8 (gP ps (i:Nat)) (zMu ps i st j) ps[j]:=by unfold zMu;rw [xFb h,xG3];rfl
theorem zGb (ps:List Piece)(st:MS)(n:Nat):zCo ps st (n+1)=zMu ps n (zCo ps st n) n:=by unfold zCo;rw [xHb,xG3];rfl
structure Goes (a b:MS):Prop where
  ok:OkM a→OkM b
  eqR:∀ x y,inG x→inG y→OkM a→gN a.R x=gN a.R y→gN b.R x=gN b.R y
  eqC:∀ x y,inG x→inG y→OkM a→gN a.C x=gN a.C y→gN b.C x=gN b.C y
  mu:OkM a→b=a∨(b.g=true∧mu b<mu a)
theorem Goes.refl (a:MS):Goes a a:=⟨id,fun _ _ _ _ _ h=>h,fun _ _ _ _ _ h=>h,fun _=>.inl rfl⟩
theorem Goes.trans {a b c:MS}(h:Goes a b)(k:Goes b c):Goes a c :=
  ⟨fun ho=>k.ok (h.ok ho),fun x y hx hy ho e=>k.eqR x y hx hy (h.ok ho) (h.eqR x y hx hy ho e),fun x y hx hy ho e=>k.eqC x y hx hy (h.ok ho) (h.eqC x y hx hy ho e),fun ho=>by
    rcases k.mu (h.ok ho) with e | ⟨e1,e2⟩
    · rw [e];exact h.mu ho
    · rcases h.mu ho with e3 | ⟨_,e4⟩
      · rw [← e3];exact .inr ⟨e1,e2⟩
      · exact .inr ⟨e1,by omega⟩⟩
structure InP (p:Piece):Prop where
  N:inG p.North
  E:inG p.East
  S:inG p.South
  W:inG p.West
theorem zSx {p:Piece}(h:zUx p=true):InP p:=by unfold zUx at h;simp only [xDn,inR_iff] at h;exact ⟨h.2.1,h.2.2.1,h.2.2.2.1,h.2.2.2.2⟩
theorem zQo {p q:Piece} (hp:InP p) (hq:InP q) (st:MS):Goes st (zF8 p st q):=by
  unfold zF8;split
  · refine ⟨fun ho=>⟨ho.R.join hp.N hq.N,ho.C.join hp.E hq.E⟩,fun x y hx hy ho e=>?_,fun x y hx hy ho e=>?_,fun ho=>?_⟩
    · show gN (zA7 st.R p.North q.North) x=gN (zA7 st.R p.North q.North) y;rw [zFz (ho.R.at hx).2.2,zFz (ho.R.at hy).2.2,e]
    · show gN (zA7 st.C p.East q.East) x=gN (zA7 st.C p.East q.East) y;rw [zFz (ho.C.at hx).2.2,zFz (ho.C.at hy).2.2,e]
    · by_cases h1:gN st.R p.North=gN st.R q.North
      · by_cases h2:gN st.C p.East=gN st.C q.East
        · left;have:zUy st p q=false:=by unfold zUy;rw [decide_eq_true h1,decide_eq_true h2];rfl
          rw [zEv h1,zEv h2,this,xFh]
        · right;have:zUy st p q=true:=by unfold zUy;rw [decide_eq_false h2];simp
          refine ⟨by simp only [this,xFi],?_⟩;have:=yGr ho.C hp.E hq.E h2;have:=zSs st.R p.North q.North;unfold Go.Proofs.Ytaleehohmpohoaa.mu;simp only;omega
      · right;have:zUy st p q=true:=by unfold zUy;rw [decide_eq_false h1];simp
        refine ⟨by simp only [this,xFi],?_⟩;have:=yGr ho.R hp.N hq.N h1;have:=zSs st.C p.East q.East;unfold Go.Proofs.Ytaleehohmpohoaa.mu;simp only;omega
  · exact .refl st
theorem zDx {ps:List Piece}{i:Nat}(h:i<ps.length):gP ps (i:Nat)=ps[i]:=by rw [zNc (by omega) (by omega)];simp
theorem yHa {ps:List Piece}(hp:∀ p,p∈ps→InP p){i:Nat}(h:i<ps.length):InP (gP ps (i:Nat)):=by rw [zDx h];exact hp _ (xEo h)
theorem zH0 {ps:List Piece}(hp:∀ p,p∈ps→InP p){i:Nat}(hi:i<ps.length)(st:MS):∀ j,j≤ps.length→Goes st (zMu ps i st j)
  | 0,_=>.refl st
  | j+1,h=>by rw [zG6 (by omega)];exact (zH0 hp hi st j (by omega)).trans (zQo (yHa hp hi) (hp _ (xEo _)) _)
theorem zTz {ps:List Piece}(hp:∀ p,p∈ps→InP p){i:Nat}(hi:i<ps.length)(st:MS)(j:Nat):∀ n,j+n≤ps.length→Goes (zMu ps i st j) (zMu ps i st (j+n))
  | 0,_=>.refl _
  | n+1,h=>by rw [← xGe,zG6 (by omega)];exact (zTz hp hi st j n (by omega)).trans (zQo (yHa hp hi) (hp _ (xEo _)) _)
theorem zGi {ps:List Piece}(hp:∀ p,p∈ps→InP p)(st:MS):∀ n,n≤ps.length→Goes st (zCo ps st n)
  | 0,_=>.refl st
  | n+1,h=>by rw [zGb];exact (zGi hp st n (by omega)).trans (zH0 hp (by omega) _ n (by omega))
theorem zQ2 {ps:List Piece}(hp:∀ p,p∈ps→InP p)(st:MS)(j:Nat):∀ n,j+n≤ps.length→Goes (zCo ps st j) (zCo ps st (j+n))
  | 0,_=>.refl _
  | n+1,h=>by rw [← xGe,zGb];exact (zQ2 hp st j n (by omega)).trans (zH0 hp (by omega) _ (j+n) (by omega))
theorem zFl {ps:List Piece}(hp:∀ p,p∈ps→InP p){st:MS}(ho:OkM st):OkM (pass ps st)∧((pass ps st={ st with g:=false })∨((pass ps st).g=true∧mu (pass ps st)<mu st)):=by
  have h:=zGi hp { st with g:=false } ps.length (xD8 _);have ho':OkM { st with g:=false }:=⟨ho.R,ho.C⟩
  exact ⟨h.ok ho',h.mu ho'⟩
theorem yK6 {ps:List Piece}(hp:∀ p,p∈ps→InP p){st:MS}(ho:OkM st)(hg:(pass ps st).g=false){i j:Nat}(hi:i<ps.length)(hj:j<i)(hb:inB st (gP ps (i:Nat)) (gP ps (j:Nat))=true):zUy st (gP ps (i:Nat)) (gP ps (j:Nat))=false:=by
  have ho':OkM { st with g:=false }:=⟨ho.R,ho.C⟩
  generalize hs0:({ st with g:=false }:MS)=s0 at ho';have hr:s0.R=st.R∧s0.C=st.C∧s0.g=false:=by rw [← hs0];exact ⟨rfl,rfl,rfl⟩
  have g1:=zGi hp s0 i (by omega);have g2:=zH0 hp hi (zCo ps s0 i) j (by omega);have g3:=zTz hp hi (zCo ps s0 i) (j+1) (i-(j+1)) (by omega);rw [show j+1+(i-(j+1))=i by omega,← zGb] at g3;have g4:=zQ2 hp s0 (i+1) (ps.length-(i+1)) (by omega);rw [show i+1+(ps.length-(i+1))=ps.length by omega] at g4;have e:pass ps st=zCo ps s0 ps.length:=(by unfold pass;rw [hs0]);rw [e] at hg;have gA:=g1.trans g2;have gS:=zQo (yHa hp hi) (hp _ (xEo (show j<ps.length by omega))) (zMu ps i (zCo ps s0 i) j);rw [← zG6 (by omega)] at gS;have gE:=g3.trans g4;have k1:(zMu ps i (zCo ps s0 i) (j+1)).g=false:=by
    rcases gE.mu (gS.ok (gA.ok ho')) with h | ⟨h,_⟩
    · rw [← h];exact hg
    · rw [h] at hg;cases hg
  have k2:(zMu ps i (zCo ps s0 i) j).g=false:=by
    rcases gS.mu (gA.ok ho') with h | ⟨h,_⟩
    · rw [← h];exact k1
    · rw [h] at k1;cases k1
  have k3:zMu ps i (zCo ps s0 i) j=s0:=by
    rcases gA.mu ho' with h | ⟨h,_⟩
    · exact h
    · rw [h] at k2;cases k2
  rw [zG6 (by omega),k3] at k1;unfold zF8 at k1;have hb':inB s0 (gP ps (i:Nat)) ps[j]=true:=by rw [← zDx (show j<ps.length by omega)];unfold inB at hb ⊢;rw [hr.1,hr.2.1];exact hb
  rw [if_pos hb'] at k1;simp only [xGt] at k1;have:=k1.2;rw [← zDx (show j<ps.length by omega)] at this;unfold zUy at this ⊢;rw [hr.1,hr.2.1] at this;exact this
def settle (ps:List Piece):Nat→MS→MS
  | 0,st=>st
  | f+1,st=>if (pass ps st).g then settle ps f (pass ps st) else pass ps st
theorem zQr {ps:List Piece}(hp:∀ p,p∈ps→InP p):∀ (f f':Nat) {st:MS},OkM st→mu st<f→mu st<f'→settle ps f st=settle ps f' st
  | 0,_,_,_,h,_=>by omega
  | _+1,0,_,_,_,h=>by omega
  | f + 1,f'+1,st,ho,h1,h2=>by
    obtain ⟨ho',hc⟩:=zFl hp ho;unfold settle;cases hg:(pass ps st).g with
    | false=>rfl
    | true =>
      rcases hc with e | ⟨_,e⟩
      · rw [e] at hg;cases hg
      · rw [if_pos rfl,if_pos rfl];exact zQr hp f f' ho' (by omega) (by omega)
def fin (ps:List Piece)(st:MS):MS:=settle ps (mu st+1) st
theorem zUk {ps:List Piece}(hp:∀ p,p∈ps→InP p){st:MS}(ho:OkM st)(hg:(pass ps st).g=true):fin ps st=fin ps (pass ps st):=by
  obtain ⟨ho',hc⟩:=zFl hp ho;rcases hc with e | ⟨_,e⟩
  · rw [e] at hg;cases hg
  · unfold fin;rw [settle,if_pos hg];exact zQr hp _ _ ho' (by omega) (by omega)
theorem zUl {ps:List Piece}{st:MS}(hg:(pass ps st).g=false):fin ps st=pass ps st:=by unfold fin;rw [settle,hg];rfl
theorem zXw {ps:List Piece}(hp:∀ p,p∈ps→InP p):∀ (n:Nat) {st:MS},mu st<n→OkM st→∃ s,OkM s∧Goes { st with g:=true } { s with g:=true }∧pass ps s={ s with g:=false }∧fin ps st={ s with g:=false }
  | 0,_,h,_=>by omega
  | n+1,st,h,ho=>by
    obtain ⟨ho',hc⟩:=zFl hp ho;rcases hc with e | ⟨hg,e⟩
    · exact ⟨st,ho,.refl _,e,by rw [zUl (by rw [e]),e]⟩
    · obtain ⟨s,k1,k2,k3,k4⟩:=zXw hp n (by omega) ho';refine ⟨s,k1,?_,k3,by rw [zUk hp ho hg,k4]⟩;have hgo:=zGi hp { st with g:=false } ps.length (xD8 _);refine Goes.trans (b:={ pass ps st with g:=true }) ⟨fun ho2=>⟨ho'.R,ho'.C⟩,fun x y hx hy ho2 e2=>hgo.eqR x y hx hy ⟨ho2.R,ho2.C⟩ e2,fun x y hx hy ho2 e2=>hgo.eqC x y hx hy ⟨ho2.R,ho2.C⟩ e2,fun ho2=>?_⟩ k2;exact .inr ⟨rfl,e⟩
def zF3 (st:MS)(p:Piece):Piece:=⟨p.Color,gN st.R p.North,gN st.C p.East,gN st.R p.South,gN st.C p.West⟩
def zN9 (out:List Piece)(y:Piece):List Piece:=if kkP y∈out.map kkP then out else out++[y]
def zVt (st:MS)(ps:List Piece):List Piece:=(ps.map (zF3 st)).foldl zN9 []
theorem yVr {out:List Piece}{y:Piece}(h:(out.map kkP).Nodup):((zN9 out y).map kkP).Nodup:=by
  unfold zN9;split
  · exact h
  · rename_i hn;rw [xEz,xDs];exact ⟨h,by simp,fun a ha b hb e=>by simp at hb;subst hb;subst e;exact hn ha⟩
theorem zUu {out:List Piece}{x y:Piece}(h:x∈out):x∈zN9 out y:=by
  unfold zN9;split
  · exact h
  · exact xE8 _ h
theorem yVs (out:List Piece)(y:Piece):kkP y∈(zN9 out y).map kkP:=by
  unfold zN9;split
  · assumption
  · simp
theorem yNy {out:List Piece}{x y:Piece}(h:x∈zN9 out y):x∈out∨x=y:=by
  unfold zN9 at h;split at h
  · exact .inl h
  · rcases xD6.1 h with h | h
    · exact .inl h
    · exact .inr (xFp.1 h)
theorem zP9:∀ (ys out:List Piece),(out.map kkP).Nodup→((ys.foldl zN9 out).map kkP).Nodup
  | [],_,h=>h
  | _::ys,_,h=>zP9 ys _ (yVr h)
theorem zV8:∀ (ys:List Piece) {out:List Piece} {x:Piece},x∈out→x∈ys.foldl zN9 out
  | [],_,_,h=>h
  | _::ys,_,_,h=>zV8 ys (zUu h)
theorem zI8:∀ (ys:List Piece) {out:List Piece} {x:Piece},x∈ys.foldl zN9 out→x∈out∨x∈ys
  | [],_,_,h=>.inl h
  | y :: ys,_,_,h=>by
    rcases zI8 ys h with h | h
    · rcases yNy h with h | h
      · exact .inl h
      · exact .inr (by rw [h];exact xG9)
    · exact .inr (xE7 _ h)
theorem zUi:∀ (ys:List Piece) {out:List Piece} {y:Piece},y∈ys→kkP y∈(ys.foldl zN9 out).map kkP
  | [],_,_,h=>by cases h
  | y::ys,out,x,h=>by
    rcases xEf.1 h with rfl | h
    · obtain ⟨z,hz,e⟩:=xEg.1 (yVs out x);exact xEg.2 ⟨z,zV8 ys hz,e⟩
    · exact zUi ys h
theorem zRk:∀ (ys out:List Piece),(ys.foldl zN9 out).length≤out.length+ys.length
  | [],_=>xD8 _
  | y::ys,out=>by have h1:=zRk ys (zN9 out y);have h2:(zN9 out y).length≤out.length+1:=(by unfold zN9;split<;>simp);rw [xGf,xD9];omega
theorem yLc (st:MS)(ps:List Piece):(zVt st ps).length≤ps.length:=by have:=zRk (ps.map (zF3 st)) [];simpa [zVt] using this
/-! Colors that clash. -/
def clash (st:MS)(ps:List Piece):Bool:=(List.range ps.length).any fun i=>(List.range i).any fun j=>inB st (gP ps (i:Nat)) (gP ps (j:Nat))&&!decide ((gP ps (i:Nat)).Color=(gP ps (j:Nat)).Color)
theorem zZe (st:MS)(p q:Piece):inB st p q=inB st q p:=by unfold inB;rw [show decide (gN st.R p.South=gN st.R q.South)=decide (gN st.R q.South=gN st.R p.South) from decide_eq_decide.2 eq_comm,show decide (gN st.C p.West=gN st.C q.West)=decide (gN st.C q.West=gN st.C p.West) from decide_eq_decide.2 eq_comm]
theorem inB_kk {st:MS}{p q:Piece}:inB st p q=true↔kkP (zF3 st p)=kkP (zF3 st q):=by unfold inB kkP zF3;simp only [xDn,decide_eq_true_eq,xD0]
theorem difB_iff {st:MS}{p q:Piece}:zUy st p q=false↔gN st.R p.North=gN st.R q.North∧gN st.C p.East=gN st.C q.East:=by unfold zUy;rw [xGt];simp
def xCj (st:MS)(ps:List Piece):Prop:=∀ p q,p∈ps→q∈ps→inB st p q=true→zF3 st p=zF3 st q
theorem yTk {ps:List Piece}(hp:∀ p,p∈ps→InP p){st:MS}(ho:OkM st)(hg:(pass ps st).g=false)(hc:clash st ps=false):xCj st ps:=by
  have key:∀ i j,i<ps.length→j<i→inB st (gP ps (i:Nat)) (gP ps (j:Nat))=true→zF3 st (gP ps (i:Nat))=zF3 st (gP ps (j:Nat)):=by
    intro i j hi hj hb;have h1:=difB_iff.1 (yK6 hp ho hg hi hj hb);have h2:=inB_kk.1 hb;have h3:(gP ps (i:Nat)).Color=(gP ps (j:Nat)).Color:=by unfold clash at hc;rw [xHd] at hc;have:=hc i (xFs.2 hi);simp only [xEs] at this;rw [xHd] at this;have:=this j (xFs.2 hj);rw [hb] at this;simpa using this
    unfold kkP zF3 at h2;simp only [xD0] at h2;unfold zF3;rw [h1.1,h1.2,h2.1,h2.2,h3]
  intro p q hpp hqq hb;obtain ⟨i,hi,rfl⟩:=xF6 hpp;obtain ⟨j,hj,rfl⟩:=xF6 hqq;rw [← zDx hi,← zDx hj] at hb ⊢;rcases xIs i j with h | h | h
  · rw [zZe] at hb;exact (key j i hj h hb).symm
  · subst h;rfl
  · exact key i j hi h hb
theorem yKg {st:MS}{ps:List Piece}(hf:xCj st ps){p:Piece}(h:p∈ps):zF3 st p∈zVt st ps:=by
  obtain ⟨z,hz,e⟩:=xEg.1 (zUi (ps.map (zF3 st)) (out:=[]) (xHi h));rcases zI8 _ hz with h2 | h2
  · cases h2
  · obtain ⟨q,hq,rfl⟩:=xEg.1 h2;rw [hf p q h hq (inB_kk.2 e.symm)];exact hz
/-! The start: two pieces made equal. -/
def m0 (p q:Piece):MS:=⟨zA7 (zA7 idN p.South q.South) p.North q.North,zA7 (zA7 idN p.West q.West) p.East q.East,true⟩
theorem ySc {p q:Piece}(hp:InP p)(hq:InP q):OkM (m0 p q):=⟨(idN_ok.join hp.S hq.S).join hp.N hq.N,(idN_ok.join hp.W hq.W).join hp.E hq.E⟩
theorem ySd (p q:Piece):m0 p q=m0 q p:=by unfold m0;rw [zJo idN p.South,zJo idN p.West,zJo _ p.North,zJo _ p.East]
theorem ySb {p q:Piece}(hp:InP p)(hq:InP q):m0 p q=⟨zA7 (zA7 idN p.North q.North) p.South q.South,zA7 (zA7 idN p.East q.East) p.West q.West,true⟩:=by unfold m0;rw [zSt (idN_ok.at hp.S).2.2 (idN_ok.at hq.S).2.2 (idN_ok.at hp.N).2.2 (idN_ok.at hq.N).2.2,zSt (idN_ok.at hp.W).2.2 (idN_ok.at hq.W).2.2 (idN_ok.at hp.E).2.2 (idN_ok.at hq.E).2.2]
theorem yR9 (x y:Int):zFm x y x=zFm x y y:=by unfold zFm;(repeat' split)<;>omega
theorem yGs {N:List Int}(h:OkN N){a b:Int}(ha:inG a)(hb:inG b):gN (zA7 N a b) a=gN (zA7 N a b) b:=by rw [zFz (h.at ha).2.2,zFz (h.at hb).2.2,yR9]
theorem zM7 {N:List Int}(h:OkN N){a b x y:Int}(hx:inG x)(hy:inG y)(e:gN N x=gN N y):gN (zA7 N a b) x=gN (zA7 N a b) y:=by rw [zFz (h.at hx).2.2,zFz (h.at hy).2.2,e]
theorem xBi {p q:Piece}(hp:InP p)(hq:InP q):inB (m0 p q) p q=true:=by unfold inB m0;rw [xDn];exact ⟨decide_eq_true (zM7 (idN_ok.join hp.S hq.S) hp.S hq.S (yGs idN_ok hp.S hq.S)),decide_eq_true (zM7 (idN_ok.join hp.W hq.W) hp.W hq.W (yGs idN_ok hp.W hq.W))⟩
/-! Merging. -/
def mgD (d:Design)(i k:Int):MS:=fin d.Pieces (m0 (gP d.Pieces i) (gP d.Pieces k))
def zFw (d:Design)(st:MS):Design:=⟨d.Bottom.map (gN st.R),d.Left.map (gN st.C),zVt st d.Pieces⟩
def yXw (d:Design)(i k:Int):Bool:=inR 0 (d.Pieces.length-1:Int) i&&(inR 0 (d.Pieces.length-1:Int) k&&!decide (i=k))
def zBf (d:Design)(i k:Int):Int:=if zC2 d then (if yXw d i k then (if clash (mgD d i k) d.Pieces then 7 else 0) else 2) else 1
def zAx (d:Design)(i k:Int):Design:=if zBf d i k=0 then zFw d (mgD d i k) else ⟨[],[],[]⟩
theorem zY3 (d:Design)(i k:Int):mgD d i k=mgD d k i:=by unfold mgD;rw [ySd]
theorem zHw (d:Design)(i k:Int):zBf d i k=zBf d k i:=by unfold zBf yXw;rw [zY3,show decide (i=k)=decide (k=i) from decide_eq_decide.2 eq_comm,← xIq,← xIq,xIz (inR 0 _ i)]
theorem zO2 (d:Design)(i k:Int):zAx d i k=zAx d k i:=by unfold zAx;rw [zHw,zY3]
theorem zT5 {d:Design}{i k:Int}(hok:zC2 d=true)(hi:0≤i∧i<d.Pieces.length)(hk:0≤k∧k<d.Pieces.length):OkM (mgD d i k)∧(pass d.Pieces (mgD d i k)).g=false∧inB (mgD d i k) (gP d.Pieces i) (gP d.Pieces k)=true∧(mgD d i k).g=false:=by
  have hp:∀ p,p∈d.Pieces→InP p:=fun p h=>zSx ((zA8 hok).2.2.2.1 p h);have hpi:InP (gP d.Pieces i):=(by rw [zNc hi.1 hi.2];exact hp _ (xEo _));have hpk:InP (gP d.Pieces k):=(by rw [zNc hk.1 hk.2];exact hp _ (xEo _));have h0:=ySc hpi hpk;obtain ⟨s,k1,k2,k3,k4⟩:=zXw hp _ (Nat.lt_succ_self (mu (m0 (gP d.Pieces i) (gP d.Pieces k)))) h0;have he:mgD d i k={ s with g:=false }:=k4;rw [he];refine ⟨⟨k1.R,k1.C⟩,?_,?_,rfl⟩
  · have:pass d.Pieces { s with g:=false }=pass d.Pieces s:=rfl;rw [this,k3]
  · have hb:=xBi hpi hpk;unfold inB at hb ⊢;simp only [xDn,decide_eq_true_eq] at hb ⊢;exact ⟨k2.eqR _ _ hpi.S hpk.S ⟨h0.R,h0.C⟩ hb.1,k2.eqC _ _ hpi.W hpk.W ⟨h0.R,h0.C⟩ hb.2⟩
theorem zS1 {N:List Int}(h:OkN N){x:Int}(hx:inG x):inR 0 119 (gN N x)=true:=by have:=(h.at hx).2.1;unfold inG at this;rw [inR_iff];omega
theorem zP4 {d:Design}{st:MS}(hok:zC2 d=true)(ho:OkM st):zC2 (zFw d st)=true:=by
  obtain ⟨⟨w1,w2⟩,⟨l1,l2⟩,p1,p2,p3,hb,hl⟩:=zA8 hok;unfold zC2 zFi zFw;simp only [xDn,decide_eq_true_eq,xEh];refine ⟨⟨?_,?_⟩,⟨?_,?_⟩,?_,?_,?_⟩
  · rw [xDj,inR_iff];omega
  · intro x hx;obtain ⟨y,hy,rfl⟩:=xEg.1 hx;exact zS1 ho.R (hb y hy)
  · rw [xDj,inR_iff];omega
  · intro x hx;obtain ⟨y,hy,rfl⟩:=xEg.1 hx;exact zS1 ho.C (hl y hy)
  · have:=yLc st d.Pieces;omega
  · intro x hx;rcases zI8 _ hx with h | h
    · cases h
    · obtain ⟨q,hq,rfl⟩:=xEg.1 h;have h1:=p2 q hq;have h2:=zSx h1;unfold zUx at h1 ⊢;simp only [xDn] at h1 ⊢;exact ⟨h1.1,zS1 ho.R h2.N,zS1 ho.C h2.E,zS1 ho.R h2.S,zS1 ho.C h2.W⟩
  · exact zP9 _ _ (by simp)
theorem yF6 {d:Design}{st:MS}(h0:zCt d=0)(ho:OkM st)(hf:xCj st d.Pieces):zCt (zFw d st)=0∧(zC1 (zFw d st)).map (fun k=>(gP (zFw d st).Pieces k).Color)=(zC1 d).map (fun k=>(gP d.Pieces k).Color):=by
  obtain ⟨hok,hall,hres⟩:=zQu h0;have hin:=zQt h0;obtain ⟨⟨hW,_⟩,⟨hH,_⟩,_⟩:=zA8 hok;obtain ⟨hl,hfit⟩:=yEd (by omega) hall;rw [← hres] at hl hfit;have hok2:=zP4 hok ho
  let f:Int→Int:=fun k=>(((zVt st d.Pieces).idxOf (zF3 st (gP d.Pieces k)):Nat):Int)
  have hmem:∀ k,k∈zC1 d→zF3 st (gP d.Pieces k)∈zVt st d.Pieces:=fun k hk=>by obtain ⟨g0,g1⟩:=hin k hk;rw [zNc g0 g1];exact yKg hf (xEo _)
  have hget:∀ k,k∈zC1 d→gP (zFw d st).Pieces (f k)=zF3 st (gP d.Pieces k):=fun k hk=>by have hlt:=xGs (hmem k hk);show gP (zVt st d.Pieces) (((zVt st d.Pieces).idxOf (zF3 st (gP d.Pieces k)):Nat):Int)=_;rw [zDx hlt];exact xH8 hlt
  have hat:∀ i,i<(zC1 d).length→gP (zFw d st).Pieces (((zC1 d).map f).getD i 0)=zF3 st (gP d.Pieces ((zC1 d).getD i 0)):=fun i hi=>by rw [getD_map hi];exact hget _ (zNb hi)
  have hBl:(zFw d st).Bottom.length=d.Bottom.length:=xDj _;have hrun:=zSi (d:=zFw d st) (ks:=(zC1 d).map f) hok2 (by rw [xDj,hl];show _=(d.Left.map _).length*(d.Bottom.map _).length;rw [xDj,xDj]) (fun i hi=>by
    rw [xDj] at hi;rw [getD_map hi];have hlt:=xGs (hmem _ (zNb hi));show 0≤(((zVt st d.Pieces).idxOf _:Nat):Int)∧(((zVt st d.Pieces).idxOf _:Nat):Int)<((zVt st d.Pieces).length:Int);omega) (fun i hi=>by
    rw [xDj] at hi;obtain ⟨f1,f2⟩:=hfit i hi;unfold zXu;rw [hBl,hat i hi];refine ⟨?_,?_⟩
    · show gN st.R (gP d.Pieces ((zC1 d).getD i 0)).South=_;rw [f1];by_cases hb:i<d.Bottom.length
      · rw [if_pos hb,if_pos hb];exact (getD_map hb).symm
      · rw [if_neg hb,if_neg hb,hat _ (by omega)];rfl
    · show gN st.C (gP d.Pieces ((zC1 d).getD i 0)).West=_;rw [f2];by_cases hb:i % d.Bottom.length=0
      · rw [if_pos hb,if_pos hb];exact (getD_map ((Nat.div_lt_iff_lt_mul (by omega)).2 (by omega))).symm
      · rw [if_neg hb,if_neg hb,hat _ (by omega)];rfl)
  refine ⟨hrun.1,?_⟩;rw [hrun.2,xFw];refine xG5 fun k hk=>?_;show (gP (zFw d st).Pieces (f k)).Color=_;rw [hget k hk];rfl
theorem yFk {st:MS}{ps:List Piece}{i k:Nat}(hi:i<ps.length)(hk:k<ps.length)(hne:i≠k)(hb:inB st (gP ps (i:Nat)) (gP ps (k:Nat))=true):(zVt st ps).length<ps.length:=by
  have hn:((zVt st ps).map kkP).Nodup:=zP9 _ _ (by simp);have hs:∀ x,x∈(zVt st ps).map kkP→x∈(ps.map (fun p=>kkP (zF3 st p))).eraseIdx k:=by
    intro x hx;obtain ⟨z,hz,rfl⟩:=xEg.1 hx;rcases zI8 _ hz with h | h
    · cases h
    · obtain ⟨q,hq,rfl⟩:=xEg.1 h;obtain ⟨j,hj,rfl⟩:=xF6 hq;rw [List.mem_eraseIdx_iff_getElem];by_cases hjk:j=k
      · subst hjk;refine ⟨i,by simpa using hi,hne,?_⟩;rw [xGo];rw [zDx hi,zDx hj] at hb;exact inB_kk.1 hb
      · exact ⟨j,by simpa using hj,hjk,by rw [xGo]⟩
  have:=yFu hn hs;rw [xDj,List.length_eraseIdx,xDj,if_pos hk] at this;omega
theorem yOs {a b:MS}(hR:a.R=b.R)(hC:a.C=b.C)(p q:Piece):inB a p q=inB b p q:=by unfold inB;rw [hR,hC]
theorem zZd {a b:MS}(h:Goes a b)(ho:OkM a){p q:Piece}(hp:InP p)(hq:InP q)(hb:inB a p q=true):inB b p q=true:=by unfold inB at hb ⊢;simp only [xDn,decide_eq_true_eq] at hb ⊢;exact ⟨h.eqR _ _ hp.S hq.S ho hb.1,h.eqC _ _ hp.W hq.W ho hb.2⟩
theorem yTm {ps:List Piece}(hp:∀ p,p∈ps→InP p){st:MS}(ho:OkM st){p q:Piece}(pp:InP p)(qq:InP q)(hb:inB st p q=true):inB (fin ps st) p q=true:=by obtain ⟨s,k1,k2,k3,k4⟩:=zXw hp _ (Nat.lt_succ_self (mu st)) ho;rw [k4];have h1:inB { st with g:=true } p q=true:=(yOs rfl rfl p q).trans hb;exact (yOs rfl rfl p q).trans (zZd k2 ⟨ho.R,ho.C⟩ pp qq h1)
theorem yR4 {ps:List Piece}(hp:∀ p,p∈ps→InP p){st s0:MS}(ho:OkM s0)(hs:pass ps st=zCo ps s0 ps.length)(hR:s0.R=st.R)(hC:s0.C=st.C){i j:Nat}(hi:i<ps.length)(hj:j<i){p q:Piece}(pp:InP p)(qq:InP q)(hb:inB (zMu ps i (zCo ps s0 i) j) p q=true):inB (fin ps st) p q=true:=by
  have ho':OkM st:=⟨hR▸ho.R,hC▸ho.C⟩
  have g1:=zGi hp s0 i (by omega);have g2:=zH0 hp hi (zCo ps s0 i) j (by omega);have g3:=zTz hp hi (zCo ps s0 i) j (i-j) (by omega);rw [show j+(i-j)=i by omega,← zGb] at g3;have g4:=zQ2 hp s0 (i+1) (ps.length-(i+1)) (by omega);rw [show i+1+(ps.length-(i+1))=ps.length by omega,← hs] at g4;have hcur:=(g1.trans g2).ok ho;have hend:=zZd (g3.trans g4) hcur pp qq hb;have hok:=(zFl hp ho').1;cases hg:(pass ps st).g with
  | false=>rw [zUl hg];exact hend
  | true=>rw [zUk hp ho' hg];exact yTm hp hok pp qq hend
def NoC (st:MS)(ps:List Piece)(i j:Nat):Prop:=∀ a b,a<ps.length→b<a→(a<i∨(a=i∧b<j))→inB st (gP ps (a:Nat)) (gP ps (b:Nat))=true→(gP ps (a:Nat)).Color=(gP ps (b:Nat)).Color
theorem xBc (st:MS)(ps:List Piece):NoC st ps 0 0:=fun a b _ _ h=>by omega
theorem yRl {st:MS}{ps:List Piece}{i:Nat}(h:NoC st ps i i):NoC st ps (i+1) 0:=fun a b ha hb hc=>h a b ha hb (by omega)
theorem yLl {st:MS}{ps:List Piece}{i j:Nat}(h:NoC st ps i j)(hk:inB st (gP ps (i:Nat)) (gP ps (j:Nat))=true→(gP ps (i:Nat)).Color=(gP ps (j:Nat)).Color):NoC st ps i (j+1):=fun a b ha hb hc=>by
  by_cases e:a=i∧b=j
  · obtain ⟨rfl,rfl⟩:=e;exact hk
  · exact h a b ha hb (by omega)
theorem yRm {st:MS}{ps:List Piece}(h:NoC st ps ps.length 0):clash st ps=false:=by
  unfold clash;rw [xHd];intro i hi;have hi:=xFs.1 hi;rw [xEs,xHd];intro j hj;have hj:=xFs.1 hj;rw [xEs];cases hb:inB st (gP ps (i:Nat)) (gP ps (j:Nat)) with
  | false=>rfl
  | true=>rw [h i j hi hj (.inl hi) hb];simp
theorem yHp {ps:List Piece}(hp:∀ p,p∈ps→InP p){st s0:MS}(ho:OkM s0)(hs:pass ps st=zCo ps s0 ps.length)(hR:s0.R=st.R)(hC:s0.C=st.C){i j:Nat}(hi:i<ps.length)(hj:j<i)(hb:inB (zMu ps i (zCo ps s0 i) j) (gP ps (i:Nat)) (gP ps (j:Nat))=true)(hc:(gP ps (i:Nat)).Color≠(gP ps (j:Nat)).Color):clash (fin ps st) ps=true:=by have h:=yR4 hp ho hs hR hC hi hj (yHa hp hi) (yHa hp (show j<ps.length by omega)) hb;unfold clash;rw [xF5];refine ⟨i,xFs.2 hi,?_⟩;rw [xF5];refine ⟨j,xFs.2 hj,?_⟩;rw [h];simp [hc]
theorem zX0 {d:Design}{i k:Int}(hok:zC2 d=true)(hi:0≤i∧i<d.Pieces.length)(hk:0≤k∧k<d.Pieces.length)(hc:(gP d.Pieces i).Color≠(gP d.Pieces k).Color):clash (mgD d i k) d.Pieces=true:=by
  have h:=(zT5 hok hi hk).2.2.1;obtain ⟨i,rfl⟩:∃ n:Nat,i=(n:Int):=⟨i.toNat,by omega⟩
  obtain ⟨k,rfl⟩:∃ n:Nat,k=(n:Int):=⟨k.toNat,by omega⟩
  unfold clash;rw [xF5];rcases xIs i k with h2 | h2 | h2
  · refine ⟨k,xFs.2 (by omega),?_⟩;rw [xF5];refine ⟨i,xFs.2 h2,?_⟩;rw [zZe,h];have:=Ne.symm hc;simp [this]
  · subst h2;exact absurd rfl hc
  · refine ⟨i,xFs.2 (by omega),?_⟩;rw [xF5];refine ⟨k,xFs.2 h2,?_⟩;rw [h];simp [hc]
def eqM (st:MS)(p q:Piece):MS:=⟨zA7 (zA7 st.R p.North q.North) p.South q.South,zA7 (zA7 st.C p.East q.East) p.West q.West,st.g⟩
def eqB (st:MS)(p q:Piece):Bool:=!decide (gN st.R p.North=gN st.R q.North)||(!decide (gN (zA7 st.R p.North q.North) p.South=gN (zA7 st.R p.North q.North) q.South)||(!decide (gN st.C p.East=gN st.C q.East)||!decide (gN (zA7 st.C p.East q.East) p.West=gN (zA7 st.C p.East q.East) q.West)))
theorem yOw {st:MS}{p q:Piece}(ho:OkM st)(hp:InP p)(hq:InP q)(hb:inB st p q=true):eqM st p q=⟨zA7 st.R p.North q.North,zA7 st.C p.East q.East,st.g⟩∧eqB st p q=zUy st p q:=by unfold inB at hb;simp only [xDn,decide_eq_true_eq] at hb;have h1:gN (zA7 st.R p.North q.North) p.South=gN (zA7 st.R p.North q.North) q.South:=zM7 ho.R hp.S hq.S hb.1;have h2:gN (zA7 st.C p.East q.East) p.West=gN (zA7 st.C p.East q.East) q.West:=zM7 ho.C hp.W hq.W hb.2;unfold eqM eqB zUy;rw [zEv h1,zEv h2,decide_eq_true h1,decide_eq_true h2];simp
theorem yDh {p q:Piece}{st:MS}(hd:zUy st p q=false):zF8 p st q=st:=by obtain ⟨h1,h2⟩:=difB_iff.1 hd;unfold zF8;rw [zEv h1,zEv h2,hd,xFh];split<;>rfl
theorem yPz {p q:Piece}{st:MS}(ho:OkM st)(hp:InP p)(hq:InP q)(hb:inB st p q=true):zF8 p st q=⟨(eqM st p q).R,(eqM st p q).C,st.g||eqB st p q⟩:=by obtain ⟨h1,h2⟩:=yOw ho hp hq hb;unfold zF8;rw [if_pos hb,h1,h2]
/-! Patterns. -/
structure OkPat (p:Pattern):Prop where
  w:1≤p.Width∧p.Width≤4
  h:1≤p.Height∧p.Height≤4
  n:(p.Cells.length:Int)=p.Width*p.Height
  c:∀ x,x∈p.Cells→0≤x∧x≤5
theorem yCu {W H:Int}(w:1≤W∧W≤4)(h:1≤H∧H≤4):1≤W*H∧W*H≤16:=by obtain ⟨w1,w2⟩:=w;have:W=1∨W=2∨W=3∨W=4:=(by omega);rcases this with e | e | e | e<;>subst e<;>omega
theorem OkPat.len {p:Pattern}(h:OkPat p):1≤p.Cells.length∧p.Cells.length≤16:=by have:=yCu h.w h.h;have:=h.n;omega
def yZ9 (x y:Int):Int:=IntKind.i64.wrap ((BitVec.ofInt IntKind.i64.bits x &&& BitVec.ofInt IntKind.i64.bits y).toNat)
theorem yVq {x y:Int}(hx:0≤x∧x≤3)(hy:0≤y∧y≤3):0≤yZ9 x y∧yZ9 x y≤3:=by have h1:x=0∨x=1∨x=2∨x=3:=(by omega);have h2:y=0∨y=1∨y=2∨y=3:=(by omega);rcases h1 with e | e | e | e<;>rcases h2 with f | f | f | f<;>subst e<;>subst f<;>decide
def cellV (W kind:Int)(i:Nat)(s:Src):Int:=if kind=0 then ((i:Int).tmod W+(i:Int).tdiv W).tmod 2 else if kind=1 then (yZ9 ((i:Int).tmod W) ((i:Int).tdiv W)).tmod 2 else if kind=2 then ((i:Int).tmod W).tmod 2 else zCq s (2+kind.tmod 2)
def zPu (kind:Int)(s:Src):Src:=if kind=0 then s else if kind=1 then s else if kind=2 then s else zBq s (2+kind.tmod 2)
def zEw (W kind:Int)(s:Src):Nat→List Int×Src
  | 0=>([],s)
  | n+1=>((zEw W kind s n).1++[cellV W kind n (zEw W kind s n).2],zPu kind (zEw W kind s n).2)
theorem zOw (W kind:Int)(s:Src):∀ n,(zEw W kind s n).1.length=n
  | 0=>rfl
  | n+1=>by show ((zEw W kind s n).1++[_]).length=_;rw [xFx,zOw W kind s n];rfl
theorem yUr {k:Nat}{kind:Int}{s:Src}(h:SrcB (k+2) s):SrcB k (zPu kind s):=by
  unfold zPu
  (repeat' split)<;>first | exact h.mono (by omega) | exact h.pick _
theorem zQb (W kind:Int){k:Nat}{s:Src}:∀ n,SrcB (k+2*n) s→SrcB k (zEw W kind s n).2
  | 0,h=>h.mono (by omega)
  | n+1,h=>yUr (zQb W kind (k:=k+2) n (h.mono (by omega)))
theorem zRa {x n:Int}(hx:0≤x)(hn:1≤n):0≤x.tmod n∧x.tmod n<n:=by rw [xIk hx];exact ⟨Int.emod_nonneg _ (by omega),Int.emod_lt_of_pos _ (by omega)⟩
theorem zZl {x n:Int}(hx:0≤x)(hn:1≤n):0≤x.tdiv n∧x.tdiv n≤x:=by rw [xIl hx];exact ⟨Int.ediv_nonneg hx (by omega),Int.ediv_le_self _ hx⟩
theorem div_lt {x W H:Int}(hx:0≤x)(hW:1≤W)(h:x<W*H):x.tdiv W<H:=by rw [xIl hx];exact Int.ediv_lt_of_lt_mul (by omega) (by rw [Int.mul_comm];exact h)
theorem yNk {W H kind:Int}{i:Nat}{s:Src}{k:Nat}(hB:SrcB (k+2) s)(w:1≤W∧W≤4)(h:1≤H∧H≤4)(hi:(i:Int)<W*H)(hk:0≤kind):0≤cellV W kind i s∧cellV W kind i s≤5:=by
  have a:=zRa (x:=(i:Int)) (n:=W) (by omega) w.1;have b:=zZl (x:=(i:Int)) (n:=W) (by omega) w.1;have c:=div_lt (x:=(i:Int)) (by omega) w.1 hi;have kk:=zRa (x:=kind) (n:=2) hk (by omega);unfold cellV;split
  · have:=zRa (x:=(i:Int).tmod W+(i:Int).tdiv W) (n:=2) (by omega) (by omega);omega
  · split
    · have h1:=yVq (x:=(i:Int).tmod W) (y:=(i:Int).tdiv W) (by omega) (by omega);have:=zRa (n:=2) h1.1 (by omega);omega
    · split
      · have:=zRa (x:=(i:Int).tmod W) (n:=2) (by omega) (by omega);omega
      · have:=zGu hB (n:=2+kind.tmod 2) (by omega);omega
theorem zWf {W H kind:Int}{k:Nat}{s:Src}(w:1≤W∧W≤4)(h:1≤H∧H≤4)(hk:0≤kind):∀ n:Nat,(n:Int)≤W*H→SrcB (k+2*n) s→∀ x,x∈(zEw W kind s n).1→0≤x∧x≤5
  | 0,_,_,x,hx=>by cases hx
  | n+1,hn,hB,x,hx=>by
    rcases xD6.1 hx with hx | hx
    · exact zWf (k:=k) w h hk n (by omega) (hB.mono (by omega)) x hx
    · rw [xFp] at hx;subst hx;exact yNk (k:=k) (zQb W kind (k:=k+2) n (hB.mono (by omega))) w h (by omega) hk
def zWo (s:Src):Int:=1+zCq s 4
def yA7 (s:Src):Int:=1+zCq (zBq s 4) 4
def yOk (s:Src):Int:=zCq (zBq (zBq s 4) 4) 5
def yVx (s:Src):Src:=zBq (zBq (zBq s 4) 4) 5
def xAi (s:Src):List Int×Src:=zEw (zWo s) (yOk s) (yVx s) (zWo s*yA7 s).toNat
def yIf (s:Src):Pattern:=⟨zWo s,yA7 s,(xAi s).1⟩
def zW9 (s:Src):Src:=(xAi s).2
structure PatF (k:Nat) (s:Src):Prop where
  w:1≤zWo s∧zWo s≤4
  h:1≤yA7 s∧yA7 s≤4
  kd:0≤yOk s∧yOk s<5
  b0:SrcB (k+36) (zBq s 4)
  b1:SrcB (k+34) (zBq (zBq s 4) 4)
  b2:SrcB (k+32) (yVx s)
theorem yXg {k:Nat}{s:Src}(hB:SrcB (k+38) s):PatF k s:=by have a1:=zGu (k:=k+36) hB (n:=4) (by omega);have b1:SrcB (k+36) _:=SrcB.pick (k:=k+36) hB 4;have a2:=zGu (k:=k+34) b1 (n:=4) (by omega);have b2:SrcB (k+34) _:=SrcB.pick (k:=k+34) b1 4;have a3:=zGu (k:=k+32) b2 (n:=5) (by omega);have b3:SrcB (k+32) _:=SrcB.pick (k:=k+32) b2 5;exact ⟨by unfold zWo;omega,by unfold yA7;omega,by unfold yOk;omega,b1,b2,b3⟩
theorem yXf {k:Nat}{s:Src}(hB:SrcB (k+38) s):OkPat (yIf s)∧SrcB k (zW9 s):=by
  have f:=yXg hB;have wh:=yCu f.w f.h;refine ⟨⟨f.w,f.h,?_,?_⟩,?_⟩
  · show ((xAi s).1.length:Int)=_;unfold xAi;rw [zOw];show _=zWo s*yA7 s;omega
  · exact zWf (k:=k) f.w f.h f.kd.1 _ (by omega) (f.b2.mono (by omega))
  · exact zQb _ _ _ (f.b2.mono (by omega))
/-! The design with one piece for each cell. -/
def zZ5 (p:Pattern)(i:Nat):Piece:=⟨p.Cells.getD i 0,(i:Int)+p.Width,(i:Int)+(i:Int).tdiv p.Width+1,i,(i:Int)+(i:Int).tdiv p.Width⟩
def zTr (p:Pattern)(n:Nat):List Piece:=(List.range n).map (zZ5 p)
def zTs (n:Nat):List Int:=(List.range n).map fun (x:Nat)=>(x:Int)
def zU6 (W:Int)(n:Nat):List Int:=(List.range n).map fun (y:Nat)=>(y:Int)*(W+1)
def zR3 (p:Pattern):Design:=⟨zTs p.Width.toNat,zU6 p.Width p.Height.toNat,zTr p (p.Width*p.Height).toNat⟩
theorem zZ6 (p:Pattern)(n:Nat):zTr p (n+1)=zTr p n++[zZ5 p n]:=by unfold zTr;rw [xHb,xEz];rfl
theorem zZ8 (n:Nat):zTs (n+1)=zTs n++[(n:Int)]:=by unfold zTs;rw [xHb,xEz];rfl
theorem zZ7 (W:Int)(n:Nat):zU6 W (n+1)=zU6 W n++[(n:Int)*(W+1)]:=by unfold zU6;rw [xHb,xEz];rfl
theorem zQl (p:Pattern)(n:Nat):(zTr p n).length=n:=by simp [zTr]
theorem zU7 (n:Nat):(zTs n).length=n:=by simp [zTs]
theorem zU5 (W:Int)(n:Nat):(zU6 W n).length=n:=by simp [zU6]
theorem yOm {a b:Int}(ha:0≤a∧a≤3)(hb:0≤b∧b≤5):0≤a*b∧a*b≤15:=by have:a=0∨a=1∨a=2∨a=3:=(by omega);rcases this with e | e | e | e<;>subst e<;>omega
theorem yC5 {p:Pattern}(h:OkPat p):zC2 (zR3 p)=true∧1≤(zR3 p).Pieces.length:=by
  obtain ⟨hw,hh,hn,hc⟩:=h;have wh:=yCu hw hh;refine ⟨?_,by show 1≤(zTr p _).length;rw [zQl];omega⟩;unfold zC2 zFi zR3;simp only [xDn,decide_eq_true_eq,xEh,zQl,zU7,zU5,inR_iff];refine ⟨⟨by omega,?_⟩,⟨by omega,?_⟩,by omega,?_,?_⟩
  · intro x hx;obtain ⟨i,hi,rfl⟩:=xEg.1 hx;have:=xFs.1 hi;omega
  · intro x hx;obtain ⟨i,hi,rfl⟩:=xEg.1 hx;have:=xFs.1 hi;have:=yOm (a:=(i:Int)) (b:=p.Width+1) (by omega) (by omega);omega
  · intro x hx;obtain ⟨i,hi,rfl⟩:=xEg.1 hx;have hi:=xFs.1 hi;have hd:=zZl (x:=(i:Int)) (n:=p.Width) (by omega) hw.1;have hlt:i<p.Cells.length:=by omega
    have hcc:=hc _ (xEo hlt);unfold zUx zZ5;simp only [xDn,inR_iff];rw [xDt,xDl hlt];simp only [xF7];omega
  · unfold zTr;rw [xFw];show List.Pairwise _ _;rw [List.pairwise_map];refine List.Pairwise.imp ?_ List.nodup_range;intro a b hab e;simp only [Function.comp,kkP,zZ5,xD0] at e;omega
/-! Merging, some times. -/
def zG2 (d:Design)(s:Src):Int:=1+zCq s ((d.Pieces.length:Int)-1)
def zIq (d:Design)(s:Src):Int:=zCq (zBq s ((d.Pieces.length:Int)-1)) (zG2 d s)
def yDj (d:Design)(s:Src):Src:=zBq (zBq s ((d.Pieces.length:Int)-1)) (zG2 d s)
def yAb (d:Design)(s:Src):Design:=if clash (mgD d (zG2 d s) (zIq d s)) d.Pieces then d else zFw d (mgD d (zG2 d s) (zIq d s))
def mergeD:Nat→Design→Src→Design×Src
  | 0,d,s=>(d,s)
  | k+1,d,s=>if 1<d.Pieces.length then mergeD k (yAb d s) (yDj d s) else (d,s)
theorem yLb {st:MS}{ps:List Piece}(h:1≤ps.length):1≤(zVt st ps).length:=by
  cases ps with
  | nil=>simp at h
  | cons p ps=>have:=zUi (((p::ps)).map (zF3 st)) (out:=[]) (y:=zF3 st p) (by simp);obtain ⟨x,hx,_⟩:=xEg.1 this;exact xI8 hx
structure DsF (d:Design):Prop where
  ok:zC2 d=true
  n:1≤d.Pieces.length
theorem yDi {k:Nat}{d:Design}{s:Src}(h:DsF d)(hB:SrcB (k+4) s)(hl:1<d.Pieces.length):(1≤zG2 d s∧zG2 d s<d.Pieces.length)∧(0≤zIq d s∧zIq d s<zG2 d s)∧SrcB (k+2) (zBq s ((d.Pieces.length:Int)-1))∧SrcB k (yDj d s):=by have a1:=zGu (k:=k+2) hB (n:=(d.Pieces.length:Int)-1) (by omega);have b1:SrcB (k+2) _:=SrcB.pick (k:=k+2) hB ((d.Pieces.length:Int)-1);have hi:1≤zG2 d s∧zG2 d s<d.Pieces.length:=(by unfold zG2;omega);have a2:=zGu (k:=k) b1 (n:=zG2 d s) (by omega);exact ⟨hi,a2,b1,SrcB.pick (k:=k) b1 _⟩
theorem yDk {k:Nat}{d:Design}{s:Src}(h:DsF d)(hB:SrcB (k+4) s)(hl:1<d.Pieces.length):DsF (yAb d s):=by
  obtain ⟨h1,h2,_⟩:=yDi h hB hl;unfold yAb;split
  · exact h
  · exact ⟨zP4 h.ok (zT5 h.ok (by omega) (by omega)).1,yLb h.n⟩
theorem zY4:∀ (n:Nat) {k:Nat} {d:Design} {s:Src},DsF d→SrcB (k+4*n) s→DsF (mergeD n d s).1∧SrcB k (mergeD n d s).2
  | 0,k,d,s,h,hB=>⟨h,hB.mono (by omega)⟩
  | n+1,k,d,s,h,hB=>by
    unfold mergeD;split
    · rename_i hl;have hB':SrcB (k+4*n+4) s:=hB.mono (by omega);exact zY4 n (yDk h hB' hl) (yDi h hB' hl).2.2.2
    · exact ⟨h,hB.mono (by omega)⟩
/-! A change at the end, now and then. -/
def edN (s:Src):Src:=if zCq s 20=0 then zBq (zBq s 20) 4 else if zCq s 20=3 then zBq (zBq s 20) 4 else zBq s 20
def yAp (p:Piece)(c:Int):Piece:=⟨c,p.North,p.East,p.South,p.West⟩
def edD (d:Design)(s:Src):Design :=
  if zCq s 20=0 then ⟨d.Bottom++[[(-1:Int),0,119,120].getD (zCq (zBq s 20) 4).toNat 0],d.Left,d.Pieces⟩
  else if zCq s 20=1 then ⟨d.Bottom,d.Left,d.Pieces++[d.Pieces.getD 0 p0]⟩
  else if zCq s 20=2 then ⟨d.Bottom,d.Left,d.Pieces.drop 1⟩
  else if zCq s 20=3 then ⟨d.Bottom,d.Left,d.Pieces.set 0 (yAp (d.Pieces.getD 0 p0) ([(-1:Int),0,5,6].getD (zCq (zBq s 20) 4).toNat 0))⟩
  else if zCq s 20=4 then ⟨d.Bottom,[],d.Pieces⟩
  else d
theorem xCb {k:Nat}{s:Src}(h:SrcB (k+4) s):SrcB k (edN s):=by
  have b1:SrcB (k+2) _:=SrcB.pick (k:=k+2) h 20;unfold edN
  (repeat' split)<;>first | exact b1.mono (by omega) | exact b1.pick _
structure DrF (d:Design):Prop where
  ok:Design.td.ok d
  b:d.Bottom.length≤11
  l:d.Left.length≤10
  p:d.Pieces.length≤101
theorem zUg {x:Int}(h : -1≤x∧x≤200):InK .i64 x:=⟨by omega,by omega⟩
theorem yXe {p:Piece}(h:zUx p=true):Piece.td.ok p:=by unfold zUx at h;simp only [xDn,inR_iff] at h;rw [Piece.td_ok];exact ⟨zUg (by omega),zUg (by omega),zUg (by omega),zUg (by omega),zUg (by omega)⟩
theorem yO5 {xs:List Int}(h:∀ x,x∈xs → -1≤x∧x≤200)(k:Nat) : -1≤xs.getD k 0∧xs.getD k 0≤200:=by
  rw [xDt];cases hk:xs[k]? with
  | none=>simp
  | some y=>exact h y (xG1 hk)
theorem yUe {d:Design}(h:DsF d):DrF d:=by obtain ⟨⟨w1,w2⟩,⟨l1,l2⟩,p1,p2,_,hb,hl⟩:=zA8 h.ok;refine ⟨?_,by omega,by omega,by omega⟩;rw [Design.td_ok];exact ⟨fun x hx=>by have:=hb x hx;unfold inG at this;exact zUg (by omega),fun x hx=>by have:=hl x hx;unfold inG at this;exact zUg (by omega),fun x hx=>yXe (p2 x hx)⟩
theorem xCc {d:Design} (h:DsF d) (s:Src):DrF (edD d s):=by
  have h0:=yUe h;obtain ⟨⟨w1,w2⟩,⟨l1,l2⟩,p1,p2,_,hb,hl⟩:=zA8 h.ok;have hn:=h.n;obtain ⟨o1,o2,o3⟩:=h0.ok;have hg:d.Pieces.getD 0 p0=d.Pieces[0]:=(by rw [xDt,xDl (show 0<d.Pieces.length by omega)];rfl);have hg0:=o3 _ (xEo (show 0<d.Pieces.length by omega));rw [← hg] at hg0;unfold edD;split
  · refine ⟨⟨fun x hx=>?_,o2,o3⟩,by simp;omega,by simp;omega,by simp;omega⟩;rcases xD6.1 hx with hx | hx
    · exact o1 x hx
    · rw [xFp] at hx;subst hx;exact zUg (yO5 (by decide) _)
  · split
    · refine ⟨⟨o1,o2,fun x hx=>?_⟩,by simp;omega,by simp;omega,by simp;omega⟩;rcases xD6.1 hx with hx | hx
      · exact o3 x hx
      · rw [xFp] at hx;subst hx;exact hg0
    · split
      · exact ⟨⟨o1,o2,fun x hx=>o3 x (List.mem_of_mem_drop hx)⟩,by simp;omega,by simp;omega,by simp;omega⟩
      · split
        · refine ⟨⟨o1,o2,fun x hx=>?_⟩,by simp;omega,by simp;omega,by simp;omega⟩;rcases xIp hx with hx | rfl
          · exact o3 x hx
          · obtain ⟨_,h2,h3,h4,h5⟩:=hg0;exact ⟨zUg (yO5 (by decide) _),h2,h3,h4,h5⟩
        · split
          · exact ⟨⟨o1,(fun x hx=>by cases hx),o3⟩,by simp;omega,by simp,by simp;omega⟩
          · exact h0
def yIg (s:Src):Design×Src:=mergeD (zCq (zW9 s) 5).toNat (zR3 (yIf s)) (zBq (zW9 s) 5)
def yV3 (s:Src):Design:=edD (yIg s).1 (yIg s).2
def yB6 (s:Src):Src:=edN (yIg s).2
structure DrwF (k:Nat) (s:Src):Prop where
  p:OkPat (yIf s)
  u:DsF (zR3 (yIf s))
  b1:SrcB (k+22) (zW9 s)
  n:0≤zCq (zW9 s) 5∧zCq (zW9 s) 5<5
  b2:SrcB (k+20) (zBq (zW9 s) 5)
  m:DsF (yIg s).1
  b3:SrcB (k+4) (yIg s).2
  d:DrF (yV3 s)
  b4:SrcB k (yB6 s)
theorem yUf {k:Nat}{s:Src}(hB:SrcB (k+60) s):DrwF k s:=by
  obtain ⟨hp,b1⟩:=yXf (k:=k+22) hB;have hn:=zGu (k:=k+20) b1 (n:=5) (by omega);have b2:SrcB (k+20) _:=SrcB.pick (k:=k+20) b1 5;have hu:DsF (zR3 (yIf s)):=⟨(yC5 hp).1,(yC5 hp).2⟩
  obtain ⟨hm,b3⟩:=zY4 (zCq (zW9 s) 5).toNat (k:=k+4) hu (b2.mono (by omega));exact ⟨hp,hu,b1,hn,b2,hm,b3,xCc hm _,xCb b3⟩
end Go.Proofs.Ytaleehohmpohoaa
