/- Laws that the proof stands on. -/
import Derived.Test.YtaleehohmpohoaaZVMeet
import Derived.Test.YtaleehohmpohoaaZg20
import Derived.Test.YtaleehohmpohoaaZVDsnP
set_option linter.all false
namespace Go.Proofs.Ytaleehohmpohoaa
open Go.RowKit Go.V
def gP (ps:List Piece)(k:Int):Piece:=ps.getD k.toNat p0
/-! What a run's pieces fit on. -/
def zXu (d:Design)(out:List Int)(i:Nat):Prop :=
  (gP d.Pieces (out.getD i 0)).South=(if i<d.Bottom.length then d.Bottom.getD i 0 else (gP d.Pieces (out.getD (i-d.Bottom.length) 0)).North) ∧
  (gP d.Pieces (out.getD i 0)).West=(if i % d.Bottom.length=0 then d.Left.getD (i / d.Bottom.length) 0 else (gP d.Pieces (out.getD (i-1) 0)).East)
structure InvR (d:Design) (st:RunS) (n:Nat):Prop where
  len:st.out.length=n
  bl:st.bel.length=d.Bottom.length
  bel:∀ m,n≤m→m<n+d.Bottom.length→st.bel.getD (m % d.Bottom.length) 0=(if m<d.Bottom.length then d.Bottom.getD m 0 else (gP d.Pieces (st.out.getD (m-d.Bottom.length) 0)).North)
  fit:∀ i,i<n→zXu d st.out i
theorem zJq {l:List Int}{x:Int}{i:Nat}(h:i<l.length):(l++[x]).getD i 0=l.getD i 0:=by rw [xDt,xDt,xFj h]
theorem yMu {l:List Int}{x:Int}:(l++[x]).getD l.length 0=x:=by rw [xDt,xFq (xD8 _)];simp
theorem getD_set_ne {l:List Int}{x:Int}{i j:Nat}(h:i≠j):(l.set i x).getD j 0=l.getD j 0:=by rw [xDt,xDt,xDx h]
theorem zUh {l:List Int}{x:Int}{i:Nat}(h:i<l.length):(l.set i x).getD i 0=x:=by rw [xDt,xEj h];rfl
theorem yMx {d:Design}{out:List Int}{x:Int}{i:Nat}(h:i<out.length)(hf:zXu d out i):zXu d (out++[x]) i:=by unfold zXu at hf ⊢;rw [zJq h,zJq (i:=i-d.Bottom.length) (by omega),zJq (i:=i-1) (by omega)];exact hf
theorem zZa {d:Design} {st:RunS} {n:Nat} (hW:0<d.Bottom.length) (h:InvR d st n) (hw:st.west=(if n % d.Bottom.length=0 then d.Left.getD (n / d.Bottom.length) 0 else (gP d.Pieces (st.out.getD (n-1) 0)).East)) (hok:zJv d.Pieces st (n % d.Bottom.length)=true) :
    InvR d (zWn d.Pieces st (n % d.Bottom.length)) (n+1)∧(zWn d.Pieces st (n % d.Bottom.length)).west=(gP d.Pieces ((zWn d.Pieces st (n % d.Bottom.length)).out.getD n 0)).East:=by
  have hb:=h.bel n (xD8 _) (by omega);have hmod:n % d.Bottom.length<d.Bottom.length:=Nat.mod_lt _ hW;unfold zJv at hok;have hok:=of_decide_eq_true hok;rcases zJr d.Pieces (st.bel.getD (n % d.Bottom.length) 0) st.west with ⟨e,_⟩ | ⟨k,hk,e,hkk⟩
  · omega
  have hc:zWn d.Pieces st (n % d.Bottom.length)=⟨st.out++[(k:Int)],st.bel.set (n % d.Bottom.length) d.Pieces[k].North,d.Pieces[k].East⟩:=(by unfold zWn;rw [e,xDo,xDl hk]);have hg:gP d.Pieces (k:Int)=d.Pieces[k]:=(by unfold gP;rw [xDo,xDt,xDl hk];rfl);have hkk':d.Pieces[k].South=st.bel.getD (n % d.Bottom.length) 0∧d.Pieces[k].West=st.west:=(by unfold kkP at hkk;exact ⟨congrArg Prod.fst hkk,congrArg Prod.snd hkk⟩);have hnew:(st.out++[(k:Int)]).getD n 0=(k:Int):=(by rw [← h.len];exact yMu);rw [hc];refine ⟨⟨by simp [h.len],by simp [h.bl],fun m hm1 hm2=>?_,fun i hi=>?_⟩,?_⟩
  · show (st.bel.set (n % d.Bottom.length) d.Pieces[k].North).getD (m % d.Bottom.length) 0=_;by_cases hmn:m=n+d.Bottom.length
    · subst hmn;rw [Nat.add_mod_right,zUh (by rw [h.bl];exact hmod),if_neg (by omega),Nat.add_sub_cancel];show _=(gP d.Pieces ((st.out++[(k:Int)]).getD n 0)).North;rw [hnew,hg]
    · have hne:n % d.Bottom.length≠m % d.Bottom.length:=by
        intro e2;have h1:m=n+(m-n):=by omega
        have h2:(m-n) % d.Bottom.length=0:=(by have:=Nat.sub_mod_eq_zero_of_mod_eq e2.symm;exact this);have h3:m-n<d.Bottom.length:=(by omega);rw [xGz h3] at h2;omega
      rw [getD_set_ne hne,h.bel m (by omega) (by omega)];by_cases hmw:m<d.Bottom.length
      · rw [if_pos hmw,if_pos hmw]
      · rw [if_neg hmw,if_neg hmw];show _=(gP d.Pieces ((st.out++[(k:Int)]).getD (m-d.Bottom.length) 0)).North;rw [zJq (by rw [h.len];omega)]
  · by_cases hin:i<n
    · exact yMx (by rw [h.len];exact hin) (h.fit i hin)
    · obtain rfl:i=n:=(by omega);unfold zXu;show (gP d.Pieces ((st.out++[(k:Int)]).getD i 0)).South=_∧(gP d.Pieces ((st.out++[(k:Int)]).getD i 0)).West=(if i % d.Bottom.length=0 then d.Left.getD (i / d.Bottom.length) 0 else (gP d.Pieces ((st.out++[(k:Int)]).getD (i-1) 0)).East)
      rw [hnew,hg,hkk'.1,hkk'.2,hb,hw];refine ⟨?_,?_⟩
      · by_cases hiw:i<d.Bottom.length
        · rw [if_pos hiw,if_pos hiw]
        · rw [if_neg hiw,if_neg hiw];show _=(gP d.Pieces ((st.out++[(k:Int)]).getD (i-d.Bottom.length) 0)).North;rw [zJq (by rw [h.len];omega)]
      · by_cases hiz:i % d.Bottom.length=0
        · rw [if_pos hiz,if_pos hiz]
        · rw [if_neg hiz,if_neg hiz];have:0<i:=Nat.pos_of_ne_zero (fun e=>hiz (by rw [e];simp));rw [zJq (by rw [h.len];omega)]
  · show d.Pieces[k].East=(gP d.Pieces ((st.out++[(k:Int)]).getD n 0)).East;rw [hnew,hg]
theorem yGy {d:Design}{y:Nat}(hW:0<d.Bottom.length)(hy:y<d.Left.length)(h:InvR d (zG5 d y) (y*d.Bottom.length))(hr:zQx d.Pieces (zCk d y) d.Bottom.length=true) :
    ∀ x,x≤d.Bottom.length→InvR d (zIl d.Pieces (zCk d y) x) (y*d.Bottom.length+x)∧(x<d.Bottom.length→(zIl d.Pieces (zCk d y) x).west=(if (y*d.Bottom.length+x) % d.Bottom.length=0 then d.Left.getD ((y*d.Bottom.length+x) / d.Bottom.length) 0 else (gP d.Pieces ((zIl d.Pieces (zCk d y) x).out.getD (y*d.Bottom.length+x-1) 0)).East))
  | 0,_=>by refine ⟨⟨h.len,h.bl,h.bel,h.fit⟩,fun _=>?_⟩;rw [if_pos (by rw [xHp,Nat.mul_mod_left]),xHp,Nat.mul_div_cancel _ hW];rfl
  | x+1,hx=>by obtain ⟨hi,hw⟩:=yGy hW hy h hr x (by omega);have hxm:(y*d.Bottom.length+x) % d.Bottom.length=x:=(by rw [xIe,xIi,xGz (by omega)]);have hok:zJv d.Pieces (zIl d.Pieces (zCk d y) x) x=true:=(by unfold zQx at hr;exact xEh.1 hr x (xFs.2 (by omega)));have:=zZa hW hi (hw (by omega)) (by rw [hxm];exact hok);rw [hxm,← zGe] at this;refine ⟨this.1,fun hx2=>?_⟩;rw [this.2,if_neg (by rw [xIe,xIi,xGz hx2];omega)];rfl
theorem zZb {d:Design}(hW:0<d.Bottom.length)(hr:zF2 d=true):∀ y,y≤d.Left.length→InvR d (zG5 d y) (y*d.Bottom.length)
  | 0,_=>⟨by simp [zG5,yEe,yQt],rfl,fun m h1 h2=>by
      rw [xId] at h2;rw [if_pos (by omega),xGz (by omega)];rfl,fun i hi=>by rw [xId] at hi;omega⟩
  | y+1,hy=>by have hrow:zQx d.Pieces (zCk d y) d.Bottom.length=true:=(by unfold zF2 at hr;exact xEh.1 hr y (xFs.2 (by omega)));have:=(yGy hW (by omega) (zZb hW hr y (by omega)) hrow d.Bottom.length (xD8 _)).1;rw [zJi (by omega),xFn,xGc];exact this
theorem yEd {d:Design}(hW:0<d.Bottom.length)(hr:zF2 d=true):(zJ7 d).length=d.Left.length*d.Bottom.length∧∀ i,i<(zJ7 d).length→zXu d (zJ7 d) i:=by have:=zZb hW hr d.Left.length (xD8 _);exact ⟨this.len,fun i hi=>this.fit i (by rw [← this.len];exact hi)⟩
/-! The numbers met. -/
structure CanS where
  R:List Int
  C:List Int
  S:List Int
  out:Design
structure InvC (d:Design) (ks:List Int) (i:Nat) (st:CanS):Prop where
  rn:st.R.Nodup
  cn:st.C.Nodup
  rl:st.R.length≤2*i
  cl:st.C.length≤2*i
  sl:st.S.length≤i
  sn:st.S.Nodup
  ll:st.out.Left.length≤i
  bl:st.out.Bottom.length≤i
  pl:st.out.Pieces.length≤i
  sm:∀ k,k∈st.S→(gP d.Pieces k).North∈st.R∧(gP d.Pieces k).East∈st.C
  si:∀ k,k∈st.S→k∈ks
  me:∀ j,j<i→ks.getD j 0∈st.S
theorem zQu {d:Design}(h:zCt d=0):zC2 d=true∧zF2 d=true∧zC1 d=zJ7 d:=by
  unfold zCt at h;unfold zC1;cases h1:zC2 d with
  | false=>rw [h1] at h;simp at h
  | true =>
    cases h2:zF2 d with
    | false=>rw [h1,h2] at h;simp at h
    | true=>exact ⟨rfl,rfl,rfl⟩
theorem yAt (d:Design):(zC1 d).length≤100:=by
  unfold zC1;split
  · rename_i h;split
    · exact zVf h
    · simp
  · simp
theorem zQt {d:Design}(h:zCt d=0):∀ k,k∈zC1 d→0≤k∧k<d.Pieces.length:=by obtain ⟨_,h2,h3⟩:=zQu h;rw [h3];exact yEh h2
theorem zSz {l:List Int}{i n:Nat}(h:i<n):(l.take n).getD i 0=l.getD i 0:=by rw [xDt,xDt,xGa,if_pos h]
theorem zY0 {α:Type}{l:List α}(h:l.Nodup){i j:Nat}{hi:i<l.length}{hj:j<l.length}(e:l[i]=l[j]):i=j:=by
  have hp:=xHw.1 h;rcases xIs i j with hl | hl | hl
  · exact absurd e (hp i j hi hj hl)
  · exact hl
  · exact absurd e.symm (hp j i hj hi hl)
theorem zNc {ps:List Piece}{k:Int}(h0:0≤k)(h:k<ps.length):gP ps k=ps[k.toNat]'(by omega):=by unfold gP;rw [xDt,xDl (by omega:k.toNat<ps.length)];rfl
theorem yTl {ps:List Piece}(hnd:(ps.map kkP).Nodup){k s w:Int}(h0:0≤k)(h:k<ps.length)(hs:(gP ps k).South=s)(hw:(gP ps k).West=w):yB0 ps s w=k:=by
  rw [zNc h0 h] at hs hw;have hk:kkP (ps[k.toNat]'(by omega))=(s,w):=by unfold kkP;rw [hs,hw]
  rcases zJr ps s w with ⟨_,hno⟩ | ⟨j,hj,e,hjk⟩
  · exact absurd hk (hno _ (xEo _))
  · rw [e];have hjj:j=k.toNat:=by have h1:(ps.map kkP)[j]'(by simpa using hj)=(ps.map kkP)[k.toNat]'(by simp;omega):=(by simp only [xGo];rw [hjk,hk]);exact zY0 hnd h1
    omega
theorem yMw {ps:List Piece}(hnd:(ps.map kkP).Nodup){k:Int}{st:RunS}{x:Nat}(h0:0≤k)(h:k<ps.length)(hs:(gP ps k).South=st.bel.getD x 0)(hw:(gP ps k).West=st.west):zJv ps st x=true∧(zWn ps st x).out=st.out++[k]:=by have e:=yTl hnd h0 h hs hw;unfold zJv zWn;rw [e];refine ⟨decide_eq_true h0,?_⟩;rw [xDl (by omega:k.toNat<ps.length)]
theorem yHe {d:Design}{ks:List Int}{n:Nat}(h:n<ks.length)(hf:zXu d ks n){out:List Int}(ho:out=ks.take n)(hW:0<d.Bottom.length) :
    (gP d.Pieces (ks.getD n 0)).South=(if n<d.Bottom.length then d.Bottom.getD n 0 else (gP d.Pieces (out.getD (n-d.Bottom.length) 0)).North) ∧
    (gP d.Pieces (ks.getD n 0)).West=(if n % d.Bottom.length=0 then d.Left.getD (n / d.Bottom.length) 0 else (gP d.Pieces (out.getD (n-1) 0)).East):=by
  obtain ⟨h1,h2⟩:=hf;rw [ho];refine ⟨?_,?_⟩
  · rw [h1];by_cases hb:n<d.Bottom.length
    · rw [if_pos hb,if_pos hb]
    · rw [if_neg hb,if_neg hb,zSz (by omega)]
  · rw [h2];by_cases hb:n % d.Bottom.length=0
    · rw [if_pos hb,if_pos hb]
    · have:0<n:=Nat.pos_of_ne_zero (fun e=>hb (by rw [e];simp));rw [if_neg hb,if_neg hb,zSz (by omega)]
theorem yHd {d:Design}{ks:List Int}{y:Nat}(hnd:(d.Pieces.map kkP).Nodup)(hW:0<d.Bottom.length)(hy:y<d.Left.length)(hl:ks.length=d.Left.length*d.Bottom.length)(hin:∀ i,i<ks.length→0≤ks.getD i 0∧ks.getD i 0<d.Pieces.length)(hf:∀ i,i<ks.length→zXu d ks i)
    (h:InvR d (zG5 d y) (y*d.Bottom.length)) (ho:(zG5 d y).out=ks.take (y*d.Bottom.length)) :
    ∀ x,x≤d.Bottom.length→InvR d (zIl d.Pieces (zCk d y) x) (y*d.Bottom.length+x)∧(zIl d.Pieces (zCk d y) x).out=ks.take (y*d.Bottom.length+x)∧(∀ j,j<x→zJv d.Pieces (zIl d.Pieces (zCk d y) j) j=true) ∧
      (x<d.Bottom.length→(zIl d.Pieces (zCk d y) x).west=(if (y*d.Bottom.length+x) % d.Bottom.length=0 then d.Left.getD ((y*d.Bottom.length+x) / d.Bottom.length) 0 else (gP d.Pieces ((zIl d.Pieces (zCk d y) x).out.getD (y*d.Bottom.length+x-1) 0)).East))
  | 0,_=>by refine ⟨⟨h.len,h.bl,h.bel,h.fit⟩,ho,fun j hj=>by omega,fun _=>?_⟩;rw [if_pos (by rw [xHp,Nat.mul_mod_left]),xHp,Nat.mul_div_cancel _ hW];rfl
  | x + 1,hx=>by
    obtain ⟨hi,hoo,hok,hw⟩:=yHd hnd hW hy hl hin hf h ho x (by omega);have hxm:(y*d.Bottom.length+x) % d.Bottom.length=x:=(by rw [xIe,xIi,xGz (by omega)]);have hlt:y*d.Bottom.length+x<ks.length:=(by have:=xGk d.Bottom.length (show y+1≤d.Left.length from hy);rw [xFn,xGc] at this;omega);obtain ⟨f1,f2⟩:=yHe hlt (hf _ hlt) hoo hW;have hb:=hi.bel (y*d.Bottom.length+x) (xD8 _) (by omega);rw [hxm] at hb;obtain ⟨g0,g1⟩:=hin _ hlt;obtain ⟨c1,c2⟩:=yMw (st:=zIl d.Pieces (zCk d y) x) (x:=x) hnd g0 g1 (f1.trans hb.symm) (f2.trans (hw (by omega)).symm);have:=zZa hW hi (hw (by omega)) (by rw [hxm];exact c1);rw [hxm,← zGe] at this;refine ⟨this.1,?_,fun j hj=>?_,fun hx2=>?_⟩
    · rw [zGe,c2,hoo,← xGe,xFb hlt];congr 2;rw [xDt,xDl hlt];rfl
    · by_cases hjx:j=x
      · subst hjx;exact c1
      · exact hok j (by omega)
    · rw [this.2,if_neg (by rw [xIe,xIi,xGz hx2];omega)];rfl
theorem zZi {d:Design}{ks:List Int}(hnd:(d.Pieces.map kkP).Nodup)(hW:0<d.Bottom.length)(hl:ks.length=d.Left.length*d.Bottom.length)(hin:∀ i,i<ks.length→0≤ks.getD i 0∧ks.getD i 0<d.Pieces.length)(hf:∀ i,i<ks.length→zXu d ks i) :
    ∀ y,y≤d.Left.length→InvR d (zG5 d y) (y*d.Bottom.length)∧(zG5 d y).out=ks.take (y*d.Bottom.length)∧∀ j,j<y→zQx d.Pieces (zCk d j) d.Bottom.length=true
  | 0,_=>⟨⟨by simp [zG5,yEe,yQt],rfl,fun m h1 h2=>by
      rw [xId] at h2;rw [if_pos (by omega),xGz (by omega)];rfl,fun i hi=>by rw [xId] at hi;omega⟩,by simp [zG5,yEe,yQt],fun j hj=>by omega⟩
  | y+1,hy=>by
    obtain ⟨hi,ho,hr⟩:=zZi hnd hW hl hin hf y (by omega);obtain ⟨k1,k2,k3,_⟩:=yHd hnd hW (show y<d.Left.length by omega) hl hin hf hi ho d.Bottom.length (xD8 _);rw [zJi (by omega),xFn,xGc];refine ⟨k1,k2,fun j hj=>?_⟩;by_cases hjy:j=y
    · subst hjy;unfold zQx;rw [xEh];intro x hx;exact k3 x (xFs.1 hx)
    · exact hr j (by omega)
theorem zSi {d:Design}{ks:List Int}(hok:zC2 d=true)(hl:ks.length=d.Left.length*d.Bottom.length)(hin:∀ i,i<ks.length→0≤ks.getD i 0∧ks.getD i 0<d.Pieces.length)(hf:∀ i,i<ks.length→zXu d ks i):zCt d=0∧zC1 d=ks:=by obtain ⟨⟨hW,_⟩,_,_,_,hnd,_⟩:=zA8 hok;obtain ⟨_,ho,hr⟩:=zZi hnd (by omega) hl hin hf d.Left.length (xD8 _);have ha:zF2 d=true:=(by unfold zF2;rw [xEh];intro y hy;exact hr y (xFs.1 hy));have ho':zJ7 d=ks:=(by unfold zJ7;rw [ho,← hl,xF8]);unfold zCt zC1;rw [hok,ha];exact ⟨rfl,ho'⟩
def nmF (N:List Int)(x:Int):Int:=((xAk N x:Nat):Int)
def ren (R C:List Int)(p:Piece):Piece:=⟨p.Color,nmF R p.North,nmF C p.East,nmF R p.South,nmF C p.West⟩
theorem yOl {N:List Int}{x:Int}(h:x∈N):0≤nmF N x∧nmF N x<N.length:=by have:=yFp h;unfold nmF;omega
theorem yFq {N:List Int}{x y:Int}(hx:x∈N)(hy:y∈N)(h:nmF N x=nmF N y):x=y:=by
  unfold nmF xAk at h;have h1:N.idxOf x=N.idxOf y:=by omega
  have h2:N[N.idxOf x]'(xGs hx)=x:=xH8 _;have h3:N[N.idxOf y]'(xGs hy)=y:=xH8 _;rw [← h2,← h3];congr 1
structure InvF (d:Design) (a b:Nat) (st:CanS):Prop where
  L:st.out.Left=(d.Left.take a).map (nmF st.C)
  Lm:∀ x,x∈d.Left.take a→x∈st.C
  B:st.out.Bottom=(d.Bottom.take b).map (nmF st.R)
  Bm:∀ x,x∈d.Bottom.take b→x∈st.R
  Q:st.out.Pieces=st.S.map (fun k=>ren st.R st.C (gP d.Pieces k))
  Qm:∀ k,k∈st.S→(gP d.Pieces k).North∈st.R∧(gP d.Pieces k).East∈st.C∧(gP d.Pieces k).South∈st.R∧(gP d.Pieces k).West∈st.C
theorem zNb {l:List Int}{i:Nat}(h:i<l.length):l.getD i 0∈l:=by rw [xDt,xDl h];exact xEo h
/-! How the numbers met grow. -/
structure PreS (s t:CanS):Prop where
  R:s.R <+: t.R
  C:s.C <+: t.C
  S:s.S <+: t.S
theorem PreS.refl (s:CanS):PreS s s:=⟨xI2 _,xI2 _,xI2 _⟩
theorem PreS.trans {s t u:CanS}(h:PreS s t)(k:PreS t u):PreS s u:=⟨h.R.trans k.R,h.C.trans k.C,h.S.trans k.S⟩
/-! The numbers met are numbers of glues. -/
def inG (x:Int):Prop:=0≤x∧x≤119
theorem yFu {α:Type} [DecidableEq α]:∀ {a b:List α},a.Nodup→(∀ x,x∈a→x∈b)→a.length≤b.length
  | [],b,_,_=>xE9 _
  | x::a,b,hn,h=>by have hx:=h x xG9;obtain ⟨h1,h2⟩:=xEq.1 hn;have:=yFu (b:=b.erase x) h2 (fun y hy=>(xHv (fun (e:y=x)=>h1 (by rw [← e];exact hy))).2 (h y (xE7 _ hy)));rw [xH4 hx] at this;have:=xI8 hx;rw [xD9];omega
end Go.Proofs.Ytaleehohmpohoaa
