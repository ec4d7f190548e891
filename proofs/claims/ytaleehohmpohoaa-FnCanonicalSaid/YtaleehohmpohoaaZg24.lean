/- Laws that the proof stands on. -/
import Derived.Test.YtaleehohmpohoaaZVMeet
import Derived.Test.YtaleehohmpohoaaZg23
import Derived.Test.YtaleehohmpohoaaZVDsnP
import Derived.Test.YtaleehohmpohoaaZg15
set_option linter.all false
namespace Go.Proofs.Ytaleehohmpohoaa
open Go.RowKit Go.V
def gP (ps:List Piece)(k:Int):Piece:=ps.getD k.toNat p0
/-! What a run's pieces fit on. -/
def zWp (d:Design)(out:List Int)(i:Nat):Prop :=
  (gP d.Pieces (out.getD i 0)).South=(if i<d.Bottom.length then d.Bottom.getD i 0 else (gP d.Pieces (out.getD (i-d.Bottom.length) 0)).North) ∧
  (gP d.Pieces (out.getD i 0)).West=(if i % d.Bottom.length=0 then d.Left.getD (i / d.Bottom.length) 0 else (gP d.Pieces (out.getD (i-1) 0)).East)
structure InvR (d:Design) (st:RunS) (n:Nat):Prop where
  len:st.out.length=n
  bl:st.bel.length=d.Bottom.length
  bel:∀ m,n≤m→m<n+d.Bottom.length→st.bel.getD (m % d.Bottom.length) 0=(if m<d.Bottom.length then d.Bottom.getD m 0 else (gP d.Pieces (st.out.getD (m-d.Bottom.length) 0)).North)
  fit:∀ i,i<n→zWp d st.out i
theorem zLi {l:List Int}{x:Int}{i:Nat}(h:i<l.length):(l++[x]).getD i 0=l.getD i 0:=by rw [xA3,xA3,xCh h]
theorem yMw {l:List Int}{x:Int}:(l++[x]).getD l.length 0=x:=by rw [xA3,xCz (xBj _)];simp
theorem getD_set_ne {l:List Int}{x:Int}{i j:Nat}(h:i≠j):(l.set i x).getD j 0=l.getD j 0:=by rw [xA3,xA3,xA9 h]
theorem zV9 {l:List Int}{x:Int}{i:Nat}(h:i<l.length):(l.set i x).getD i 0=x:=by rw [xA3,xBq h];rfl
theorem yM0 {d:Design}{out:List Int}{x:Int}{i:Nat}(h:i<out.length)(hf:zWp d out i):zWp d (out++[x]) i:=by unfold zWp at hf ⊢;rw [zLi h,zLi (i:=i-d.Bottom.length) qAc,zLi (i:=i-1) qAc];exact hf
theorem yBk {d:Design} {st:RunS} {n:Nat} (hW:0<d.Bottom.length) (h:InvR d st n) (hw:st.west=(if n % d.Bottom.length=0 then d.Left.getD (n / d.Bottom.length) 0 else (gP d.Pieces (st.out.getD (n-1) 0)).East)) (hok:zJh d.Pieces st (n % d.Bottom.length)=true) :
    InvR d (zYn d.Pieces st (n % d.Bottom.length)) (n+1)∧(zYn d.Pieces st (n % d.Bottom.length)).west=(gP d.Pieces ((zYn d.Pieces st (n % d.Bottom.length)).out.getD n 0)).East:=by
  have hb:=h.bel n (xBj _) qAc;have hmod:n % d.Bottom.length<d.Bottom.length:=Nat.mod_lt _ hW;unfold zJh at hok;have hok:=of_decide_eq_true hok;rcases zHw d.Pieces (st.bel.getD (n % d.Bottom.length) 0) st.west with ⟨e,_⟩ | ⟨k,hk,e,hkk⟩
  · omega
  have hc:zYn d.Pieces st (n % d.Bottom.length)=⟨st.out++[(k:Int)],st.bel.set (n % d.Bottom.length) d.Pieces[k].North,d.Pieces[k].East⟩:=(by unfold zYn;rw [e,xAz,xA1 hk]);have hg:gP d.Pieces (k:Int)=d.Pieces[k]:=(by unfold gP;rw [xAz,xA3,xA1 hk];rfl);have hkk':d.Pieces[k].South=st.bel.getD (n % d.Bottom.length) 0∧d.Pieces[k].West=st.west:=(by unfold kkP at hkk;exact ⟨congrArg Prod.fst hkk,congrArg Prod.snd hkk⟩);have hnew:(st.out++[(k:Int)]).getD n 0=(k:Int):=(by rw [← h.len];exact yMw);rw [hc];refine ⟨⟨by simp [h.len],by simp [h.bl],fun m hm1 hm2=>?_,fun i hi=>?_⟩,?_⟩
  · show (st.bel.set (n % d.Bottom.length) d.Pieces[k].North).getD (m % d.Bottom.length) 0=_;by_cases hmn:m=n+d.Bottom.length
    · subst hmn;rw [Nat.add_mod_right,zV9 (by rw [h.bl];exact hmod),if_neg qAc,Nat.add_sub_cancel];show _=(gP d.Pieces ((st.out++[(k:Int)]).getD n 0)).North;rw [hnew,hg]
    · have hne:n % d.Bottom.length≠m % d.Bottom.length:=by
        intro e2;have h1:m=n+(m-n):=by omega
        have h2:(m-n) % d.Bottom.length=0:=(by have:=Nat.sub_mod_eq_zero_of_mod_eq e2.symm;exact this);have h3:m-n<d.Bottom.length:=qAc;rw [xEf h3] at h2;omega
      rw [getD_set_ne hne,h.bel m qAc qAc];by_cases hmw:m<d.Bottom.length
      · rw [if_pos hmw,if_pos hmw]
      · rw [if_neg hmw,if_neg hmw];show _=(gP d.Pieces ((st.out++[(k:Int)]).getD (m-d.Bottom.length) 0)).North;rw [zLi qCk]
  · by_cases hin:i<n
    · exact yM0 (by rw [h.len];exact hin) (h.fit i hin)
    · obtain rfl:i=n:=qAc;unfold zWp;show (gP d.Pieces ((st.out++[(k:Int)]).getD i 0)).South=_∧(gP d.Pieces ((st.out++[(k:Int)]).getD i 0)).West=(if i % d.Bottom.length=0 then d.Left.getD (i / d.Bottom.length) 0 else (gP d.Pieces ((st.out++[(k:Int)]).getD (i-1) 0)).East)
      rw [hnew,hg,hkk'.1,hkk'.2,hb,hw];refine ⟨?_,?_⟩
      · by_cases hiw:i<d.Bottom.length
        · rw [if_pos hiw,if_pos hiw]
        · rw [if_neg hiw,if_neg hiw];show _=(gP d.Pieces ((st.out++[(k:Int)]).getD (i-d.Bottom.length) 0)).North;rw [zLi qCk]
      · by_cases hiz:i % d.Bottom.length=0
        · rw [if_pos hiz,if_pos hiz]
        · rw [if_neg hiz,if_neg hiz];have:0<i:=xF5 (fun e=>hiz (by rw [e];simp));rw [zLi qCk]
  · show d.Pieces[k].East=(gP d.Pieces ((st.out++[(k:Int)]).getD n 0)).East;rw [hnew,hg]
theorem yIe {d:Design}{y:Nat}(hW:0<d.Bottom.length)(hy:y<d.Left.length)(h:InvR d (zG4 d y) (y*d.Bottom.length))(hr:zOh d.Pieces (zBk d y) d.Bottom.length=true) :
    ∀ x,x≤d.Bottom.length→InvR d (zG9 d.Pieces (zBk d y) x) (y*d.Bottom.length+x)∧(x<d.Bottom.length→(zG9 d.Pieces (zBk d y) x).west=(if (y*d.Bottom.length+x) % d.Bottom.length=0 then d.Left.getD ((y*d.Bottom.length+x) / d.Bottom.length) 0 else (gP d.Pieces ((zG9 d.Pieces (zBk d y) x).out.getD (y*d.Bottom.length+x-1) 0)).East))
  | 0,_=>by refine ⟨⟨h.len,h.bl,h.bel,h.fit⟩,fun _=>?_⟩;rw [if_pos (by rw [xEk,xGo]),xEk,xF6 _ hW];rfl
  | x+1,hx=>by obtain ⟨hi,hw⟩:=yIe hW hy h hr x qAc;have hxm:(y*d.Bottom.length+x) % d.Bottom.length=x:=(by rw [xEz,xF1,xEf qAc]);have hok:zJh d.Pieces (zG9 d.Pieces (zBk d y) x) x=true:=(by unfold zOh at hr;exact xBx.1 hr x (xDe.2 qAc));have:=yBk hW hi (hw qAc) (by rw [hxm];exact hok);rw [hxm,← zGq] at this;refine ⟨this.1,fun hx2=>?_⟩;rw [this.2,if_neg (by rw [xEz,xF1,xEf hx2];omega)];rfl
theorem yBl {d:Design}(hW:0<d.Bottom.length)(hr:zE6 d=true):∀ y,y≤d.Left.length→InvR d (zG4 d y) (y*d.Bottom.length)
  | 0,_=>⟨by simp [zG4,yF9,yQq],rfl,fun m h1 h2=>by
      rw [xFx] at h2;rw [if_pos qAc,xEf qAc];rfl,fun i hi=>by rw [xFx] at hi;omega⟩
  | y+1,hy=>by have hrow:zOh d.Pieces (zBk d y) d.Bottom.length=true:=(by unfold zE6 at hr;exact xBx.1 hr y (xDe.2 qAc));have:=(yIe hW qAc (yBl hW hr y qAc) hrow d.Bottom.length (xBj _)).1;rw [zHo qAc,xC8,xDs];exact this
theorem zLy {d:Design}(hW:0<d.Bottom.length)(hr:zE6 d=true):(zJa d).length=d.Left.length*d.Bottom.length∧∀ i,i<(zJa d).length→zWp d (zJa d) i:=by have:=yBl hW hr d.Left.length (xBj _);exact ⟨this.len,fun i hi=>this.fit i (by rw [← this.len];exact hi)⟩
/-! The numbers met. -/
structure CanS where
  R:List Int
  C:List Int
  S:List Int
  out:Design
def yB9:CanS:=⟨[],[],[],⟨[],[],[]⟩⟩
def zI8 (d:Design)(i:Nat)(st:CanS):CanS:=if i % d.Bottom.length=0 then { st with C:=zA6 st.C (d.Left.getD (i / d.Bottom.length) 0),out:={ st.out with Left:=st.out.Left++[((zE9 (zA6 st.C (d.Left.getD (i / d.Bottom.length) 0)) (d.Left.getD (i / d.Bottom.length) 0):Nat):Int)] } } else st
def zLj (d:Design)(i:Nat)(st:CanS):CanS:=if i<d.Bottom.length then { st with R:=zA6 st.R (d.Bottom.getD i 0),out:={ st.out with Bottom:=st.out.Bottom++[((zE9 (zA6 st.R (d.Bottom.getD i 0)) (d.Bottom.getD i 0):Nat):Int)] } } else st
def zWi (R C:List Int)(p:Piece):Piece:=⟨p.Color,(zE9 (zA6 R p.North) p.North:Nat),(zE9 (zA6 C p.East) p.East:Nat),(zE9 R p.South:Nat),(zE9 C p.West:Nat)⟩
def yNj (d:Design)(k:Int)(st:CanS):CanS:=if k∈st.S then st else ⟨zA6 st.R (gP d.Pieces k).North,zA6 st.C (gP d.Pieces k).East,st.S++[k],{ st.out with Pieces:=st.out.Pieces++[zWi st.R st.C (gP d.Pieces k)] }⟩
def yEp (d:Design)(ks:List Int)(st:CanS)(i:Nat):CanS:=yNj d (ks.getD i 0) (zLj d i (zI8 d i st))
def zDu (d:Design)(ks:List Int)(i:Nat):CanS:=(List.range i).foldl (yEp d ks) yB9
theorem zEb (d:Design)(ks:List Int)(i:Nat):zDu d ks (i+1)=yEp d ks (zDu d ks i) i:=by unfold zDu;rw [xEd,xDx];rfl
structure InvC (d:Design) (ks:List Int) (i:Nat) (st:CanS):Prop where
  rn:st.R.Nodup
  cn:st.C.Nodup
  rl:st.R.length≤2*i
  cl:st.C.length≤2*i
  sl:st.S.length≤i
  sn:st.S.Nodup
  ll:st.out.Left.length≤i
  bl:st.out.Bottom.length≤i
  pl:st.out.Pieces.length≤i
  sm:∀ k,k∈st.S→(gP d.Pieces k).North∈st.R∧(gP d.Pieces k).East∈st.C
  si:∀ k,k∈st.S→k∈ks
  me:∀ j,j<i→ks.getD j 0∈st.S
theorem yWr (d:Design)(ks:List Int):InvC d ks 0 yB9:=⟨xC2,xC2,by simp [yB9],by simp [yB9],by simp [yB9],xC2,by simp [yB9],by simp [yB9],by simp [yB9],(fun k h=>by cases h),(fun k h=>by cases h),(fun j h=>by omega)⟩
theorem zO1 {d:Design} {ks:List Int} {i:Nat} {st:CanS} (hW:0<d.Bottom.length) (h:InvC d ks i st) (hi:i<ks.length) (hf:zWp d ks i) :
    InvC d ks (i+1) (yEp d ks st i)∧(gP d.Pieces (ks.getD i 0)).South∈(zLj d i (zI8 d i st)).R∧(gP d.Pieces (ks.getD i 0)).West∈(zLj d i (zI8 d i st)).C:=by
  obtain ⟨R,C,S,out⟩:=st;obtain ⟨rn,cn,rl,cl,sl,sn,ll,bl,pl,sm,si,me⟩:=h;simp only at rn cn rl cl sl sn ll bl pl sm si me;have hA:∃ C1 l1,zI8 d i ⟨R,C,S,out⟩=⟨R,C1,S,{ out with Left:=l1 }⟩∧C1.Nodup∧C1.length≤C.length+1∧(∀ x,x∈C→x∈C1)∧l1.length≤i+1∧(i % d.Bottom.length=0→d.Left.getD (i / d.Bottom.length) 0∈C1):=by
    unfold zI8;split
    · exact ⟨_,_,rfl,zD7 cn,zB4 _ _,fun x hx=>zEd hx,by simp;omega,fun _=>zFz _ _⟩
    · exact ⟨C,out.Left,rfl,cn,by omega,fun x hx=>hx,by omega,fun hz=>by contradiction⟩
  obtain ⟨C1,l1,eA,c1n,c1l,c1s,l1l,c1m⟩:=hA;have hB:∃ R1 b1,zLj d i ⟨R,C1,S,{ out with Left:=l1 }⟩=⟨R1,C1,S,{ out with Left:=l1,Bottom:=b1 }⟩∧R1.Nodup∧R1.length≤R.length+1∧(∀ x,x∈R→x∈R1)∧b1.length≤i+1∧(i<d.Bottom.length→d.Bottom.getD i 0∈R1):=by
    unfold zLj;split
    · exact ⟨_,_,rfl,zD7 rn,zB4 _ _,fun x hx=>zEd hx,by simp;omega,fun _=>zFz _ _⟩
    · exact ⟨R,out.Bottom,rfl,rn,by omega,fun x hx=>hx,by omega,fun hz=>by contradiction⟩
  obtain ⟨R1,b1,eB,r1n,r1l,r1s,b1l,r1m⟩:=hB;unfold yEp;rw [eA,eB];obtain ⟨f1,f2⟩:=hf;refine ⟨?_,?_,?_⟩
  · unfold yNj;simp only;split
    · rename_i hk;exact ⟨r1n,c1n,by simp only;omega,by simp only;omega,by simp only;omega,sn,l1l,b1l,by simp only;omega,fun k hk=>⟨r1s _ (sm k hk).1,c1s _ (sm k hk).2⟩,si,fun j hj=>by
        by_cases hji:j=i
        · subst hji;exact hk
        · exact me j qAc⟩
    · rename_i hk;refine ⟨zD7 r1n,zD7 c1n,by have:=zB4 R1 (gP d.Pieces (ks.getD i 0)).North;simp only;omega,by have:=zB4 C1 (gP d.Pieces (ks.getD i 0)).East;simp only;omega,by simp;omega,?_,l1l,b1l,by simp;omega,fun k hk=>?_,fun k hk=>?_,fun j hj=>?_⟩
      · exact xA5.2 ⟨sn,by simp,fun x hx y hy e=>by simp at hy;subst hy;subst e;exact hk hx⟩
      · rcases xBf.1 hk with hk | hk
        · exact ⟨zEd (r1s _ (sm k hk).1),zEd (c1s _ (sm k hk).2)⟩
        · rw [xCa] at hk;subst hk;exact ⟨zFz _ _,zFz _ _⟩
      · rcases xBf.1 hk with hk | hk
        · exact si k hk
        · rw [xCa] at hk;subst hk;rw [xA3,xA1 hi];exact xB3 hi
      · by_cases hji:j=i
        · subst hji;exact xC3 _ (xCa.2 rfl)
        · exact xCt _ (me j qAc)
  · show _∈R1;rw [f1];split
    · rename_i hb;exact r1m hb
    · exact r1s _ (sm _ (me _ qAc)).1
  · show _∈C1;rw [f2];split
    · rename_i hb;exact c1m hb
    · rename_i hb;have:0<i:=xF5 (fun e=>hb (by rw [e];simp));exact c1s _ (sm _ (me _ qAc)).2
theorem zQd {d:Design}{ks:List Int}(hW:0<d.Bottom.length)(hf:∀ i,i<ks.length→zWp d ks i):∀ i,i≤ks.length→InvC d ks i (zDu d ks i)
  | 0,_=>yWr d ks
  | i+1,h=>by rw [zEb];exact (zO1 hW (zQd hW hf i qAc) qAc (hf i qAc)).1
def zAn (d:Design):Design:=if zA7 d=0 then (zDu d (zBl d) (zBl d).length).out else ⟨[],[],[]⟩
def zCs (d:Design):Int:=zA7 d
theorem zF4 {d:Design}(h:zA7 d=0):zC1 d=true∧zE6 d=true∧zBl d=zJa d:=by
  unfold zA7 at h;unfold zBl;cases h1:zC1 d with
  | false=>rw [h1] at h;simp at h
  | true =>
    cases h2:zE6 d with
    | false=>rw [h1,h2] at h;simp at h
    | true=>exact ⟨rfl,rfl,rfl⟩
theorem zHp (d:Design):(zBl d).length≤100:=by
  unfold zBl;split
  · rename_i h;split
    · exact zXh h
    · simp
  · simp
theorem zF3 {d:Design}(h:zA7 d=0):∀ k,k∈zBl d→0≤k∧k<d.Pieces.length:=by obtain ⟨_,h2,h3⟩:=zF4 h;rw [h3];exact yGb h2
def smO (x:Int):Prop:=0≤x∧x≤1000
def yRa (o:Design):Prop:=(∀ x,x∈o.Bottom→smO x)∧(∀ x,x∈o.Left→smO x)∧∀ p,p∈o.Pieces→smO p.Color∧smO p.North∧smO p.East∧smO p.South∧smO p.West
theorem yHb (N:List Int)(k:Int):zE9 N k≤N.length:=List.idxOf_le_length
theorem yA7 {N:List Int}{k:Int}(h:N.length≤900):smO ((zE9 (zA6 N k) k:Nat):Int):=by have h1:=yHb (zA6 N k) k;have h2:=zB4 N k;unfold smO;omega
theorem yHa {N:List Int}{k:Int}(h:N.length≤900):smO ((zE9 N k:Nat):Int):=by have h1:=yHb N k;unfold smO;omega
theorem yG5 {l:List Int}{x:Int}(h:∀ y,y∈l→smO y)(hx:smO x):∀ y,y∈l++[x]→smO y:=fun y hy=>by
  rcases xBf.1 hy with hy | hy
  · exact h y hy
  · rw [xCa] at hy;subst hy;exact hx
theorem yTs {d:Design}{ks:List Int}{i:Nat}{st:CanS}(h:yRa st.out)(hR:st.R.length≤800)(hC:st.C.length≤800)(hc:smO (gP d.Pieces (ks.getD i 0)).Color):yRa (yEp d ks st i).out:=by
  obtain ⟨R,C,S,out⟩:=st;simp only at h hR hC;have hA:∃ C1 l1,zI8 d i ⟨R,C,S,out⟩=⟨R,C1,S,{ out with Left:=l1 }⟩∧C1.length≤801∧∀ x,x∈l1→smO x:=by
    unfold zI8;split
    · exact ⟨_,_,rfl,xEc (zB4 _ _) (show C.length+1≤801 by omega),yG5 h.2.1 (yA7 (N:=C) qAc)⟩
    · exact ⟨C,out.Left,rfl,by omega,h.2.1⟩
  obtain ⟨C1,l1,eA,c1l,l1m⟩:=hA;have hB:∃ R1 b1,zLj d i ⟨R,C1,S,{ out with Left:=l1 }⟩=⟨R1,C1,S,{ out with Left:=l1,Bottom:=b1 }⟩∧R1.length≤801∧∀ x,x∈b1→smO x:=by
    unfold zLj;split
    · exact ⟨_,_,rfl,xEc (zB4 _ _) (show R.length+1≤801 by omega),yG5 h.1 (yA7 (N:=R) qAc)⟩
    · exact ⟨R,out.Bottom,rfl,by omega,h.1⟩
  obtain ⟨R1,b1,eB,r1l,b1m⟩:=hB;unfold yEp;rw [eA,eB];unfold yNj;simp only;split
  · exact ⟨b1m,l1m,h.2.2⟩
  · refine ⟨b1m,l1m,fun p hp=>?_⟩;rcases xBf.1 hp with hp | hp
    · exact h.2.2 p hp
    · rw [xCa] at hp;subst hp;exact ⟨hc,yA7 qAc,yA7 qAc,yHa qAc,yHa qAc⟩
theorem yXv {d:Design}(h0:zA7 d=0):∀ i,i≤(zBl d).length→yRa (zDu d (zBl d) i).out:=by
  obtain ⟨hok,hall,hres⟩:=zF4 h0;have hpts:=zA1 hok;have hW:=hpts.1.1;have hfit:=(zLy qAc hall).2;rw [← hres] at hfit;have hl:=zHp d;have hin:=zF3 h0;intro i;induction i with
  | zero=>intro _;exact ⟨fun x hx=>(by cases hx),fun x hx=>(by cases hx),fun x hx=>(by cases hx)⟩
  | succ i ih =>
    intro hi;have hI:=zQd qAc hfit i qAc;rw [zEb];refine yTs (ih qAc) (by have:=hI.rl;omega) (by have:=hI.cl;omega) ?_;have e1:=xA1 (show i<(zBl d).length by omega);have hk:=hin _ (xDi e1);rw [xA3,e1];unfold gP;have hkl:(zBl d)[i].toNat<d.Pieces.length:=by omega
    rw [xA3,xDd,xA1 hkl,xDd];have:=hpts.2.2.2.1 _ (xB3 hkl);unfold zTy at this;simp only [xA2,zDq] at this;exact ⟨by omega,by omega⟩
theorem zN1 (d:Design)(_:Design.td.ok d)(_:Design.cnt d≤1048576):Design.td.ok (zAn d):=by
  rw [Design.td_ok];by_cases h0:zA7 d=0
  · have h:=yXv h0 _ (xBj _);unfold zAn;rw [if_pos h0];have hs:∀ x,smO x→InK .i64 x:=fun x hx=>⟨by have:=hx.1;omega,by have:=hx.2;omega⟩
    refine ⟨fun x hx=>hs x (h.1 x hx),fun x hx=>hs x (h.2.1 x hx),fun p hp=>?_⟩;obtain ⟨p1,p2,p3,p4,p5⟩:=h.2.2 p hp;exact ⟨hs _ p1,hs _ p2,hs _ p3,hs _ p4,hs _ p5⟩
  · unfold zAn;rw [if_neg h0];exact ⟨fun x hx=>(by cases hx),fun x hx=>(by cases hx),fun x hx=>(by cases hx)⟩
theorem zUs {l:List Int}{i n:Nat}(h:i<n):(l.take n).getD i 0=l.getD i 0:=by rw [xA3,xA3,xDt,if_pos h]
theorem yOh {α:Type}{l:List α}(h:l.Nodup){i j:Nat}{hi:i<l.length}{hj:j<l.length}(e:l[i]=l[j]):i=j:=by
  have hp:=xFb.1 h;rcases Nat.lt_trichotomy i j with hl | hl | hl
  · exact absurd e (hp i j hi hj hl)
  · exact hl
  · exact absurd e.symm (hp j i hj hi hl)
theorem zLv {ps:List Piece}{k:Int}(h0:0≤k)(h:k<ps.length):gP ps k=ps[k.toNat]'qAc:=by unfold gP;rw [xA3,xA1 (by omega:k.toNat<ps.length)];rfl
theorem ySv {ps:List Piece}(hnd:(ps.map kkP).Nodup){k s w:Int}(h0:0≤k)(h:k<ps.length)(hs:(gP ps k).South=s)(hw:(gP ps k).West=w):yD3 ps s w=k:=by
  rw [zLv h0 h] at hs hw;have hk:kkP (ps[k.toNat]'qAc)=(s,w):=by unfold kkP;rw [hs,hw]
  rcases zHw ps s w with ⟨_,hno⟩ | ⟨j,hj,e,hjk⟩
  · exact absurd hk (hno _ (xB3 _))
  · rw [e];have hjj:j=k.toNat:=by have h1:(ps.map kkP)[j]'qBk=(ps.map kkP)[k.toNat]'qAw:=(by simp only [xFg];rw [hjk,hk]);exact yOh hnd h1
    omega
theorem yMz {ps:List Piece}(hnd:(ps.map kkP).Nodup){k:Int}{st:RunS}{x:Nat}(h0:0≤k)(h:k<ps.length)(hs:(gP ps k).South=st.bel.getD x 0)(hw:(gP ps k).West=st.west):zJh ps st x=true∧(zYn ps st x).out=st.out++[k]:=by have e:=ySv hnd h0 h hs hw;unfold zJh zYn;rw [e];refine ⟨decide_eq_true h0,?_⟩;rw [xA1 (by omega:k.toNat<ps.length)]
theorem yIs {d:Design}{ks:List Int}{n:Nat}(h:n<ks.length)(hf:zWp d ks n){out:List Int}(ho:out=ks.take n)(hW:0<d.Bottom.length) :
    (gP d.Pieces (ks.getD n 0)).South=(if n<d.Bottom.length then d.Bottom.getD n 0 else (gP d.Pieces (out.getD (n-d.Bottom.length) 0)).North) ∧
    (gP d.Pieces (ks.getD n 0)).West=(if n % d.Bottom.length=0 then d.Left.getD (n / d.Bottom.length) 0 else (gP d.Pieces (out.getD (n-1) 0)).East):=by
  obtain ⟨h1,h2⟩:=hf;rw [ho];refine ⟨?_,?_⟩
  · rw [h1];by_cases hb:n<d.Bottom.length
    · rw [if_pos hb,if_pos hb]
    · rw [if_neg hb,if_neg hb,zUs qAc]
  · rw [h2];by_cases hb:n % d.Bottom.length=0
    · rw [if_pos hb,if_pos hb]
    · have:0<n:=xF5 (fun e=>hb (by rw [e];simp));rw [if_neg hb,if_neg hb,zUs qAc]
theorem yIr {d:Design}{ks:List Int}{y:Nat}(hnd:(d.Pieces.map kkP).Nodup)(hW:0<d.Bottom.length)(hy:y<d.Left.length)(hl:ks.length=d.Left.length*d.Bottom.length)(hin:∀ i,i<ks.length→0≤ks.getD i 0∧ks.getD i 0<d.Pieces.length)(hf:∀ i,i<ks.length→zWp d ks i)
    (h:InvR d (zG4 d y) (y*d.Bottom.length)) (ho:(zG4 d y).out=ks.take (y*d.Bottom.length)) :
    ∀ x,x≤d.Bottom.length→InvR d (zG9 d.Pieces (zBk d y) x) (y*d.Bottom.length+x)∧(zG9 d.Pieces (zBk d y) x).out=ks.take (y*d.Bottom.length+x)∧(∀ j,j<x→zJh d.Pieces (zG9 d.Pieces (zBk d y) j) j=true) ∧
      (x<d.Bottom.length→(zG9 d.Pieces (zBk d y) x).west=(if (y*d.Bottom.length+x) % d.Bottom.length=0 then d.Left.getD ((y*d.Bottom.length+x) / d.Bottom.length) 0 else (gP d.Pieces ((zG9 d.Pieces (zBk d y) x).out.getD (y*d.Bottom.length+x-1) 0)).East))
  | 0,_=>by refine ⟨⟨h.len,h.bl,h.bel,h.fit⟩,ho,fun j hj=>by omega,fun _=>?_⟩;rw [if_pos (by rw [xEk,xGo]),xEk,xF6 _ hW];rfl
  | x + 1,hx=>by
    obtain ⟨hi,hoo,hok,hw⟩:=yIr hnd hW hy hl hin hf h ho x qAc;have hxm:(y*d.Bottom.length+x) % d.Bottom.length=x:=(by rw [xEz,xF1,xEf qAc]);have hlt:y*d.Bottom.length+x<ks.length:=(by have:=xD0 d.Bottom.length (show y+1≤d.Left.length from hy);rw [xC8,xDs] at this;omega);obtain ⟨f1,f2⟩:=yIs hlt (hf _ hlt) hoo hW;have hb:=hi.bel (y*d.Bottom.length+x) (xBj _) qAc;rw [hxm] at hb;obtain ⟨g0,g1⟩:=hin _ hlt;obtain ⟨c1,c2⟩:=yMz (st:=zG9 d.Pieces (zBk d y) x) (x:=x) hnd g0 g1 (f1.trans hb.symm) (f2.trans (hw qAc).symm);have:=yBk hW hi (hw qAc) (by rw [hxm];exact c1);rw [hxm,← zGq] at this;refine ⟨this.1,?_,fun j hj=>?_,fun hx2=>?_⟩
    · rw [zGq,c2,hoo,← xDp,xCd hlt];congr 2;rw [xA3,xA1 hlt];rfl
    · by_cases hjx:j=x
      · subst hjx;exact c1
      · exact hok j qAc
    · rw [this.2,if_neg (by rw [xEz,xF1,xEf hx2];omega)];rfl
theorem yBs {d:Design}{ks:List Int}(hnd:(d.Pieces.map kkP).Nodup)(hW:0<d.Bottom.length)(hl:ks.length=d.Left.length*d.Bottom.length)(hin:∀ i,i<ks.length→0≤ks.getD i 0∧ks.getD i 0<d.Pieces.length)(hf:∀ i,i<ks.length→zWp d ks i) :
    ∀ y,y≤d.Left.length→InvR d (zG4 d y) (y*d.Bottom.length)∧(zG4 d y).out=ks.take (y*d.Bottom.length)∧∀ j,j<y→zOh d.Pieces (zBk d j) d.Bottom.length=true
  | 0,_=>⟨⟨by simp [zG4,yF9,yQq],rfl,fun m h1 h2=>by
      rw [xFx] at h2;rw [if_pos qAc,xEf qAc];rfl,fun i hi=>by rw [xFx] at hi;omega⟩,by simp [zG4,yF9,yQq],fun j hj=>by omega⟩
  | y+1,hy=>by
    obtain ⟨hi,ho,hr⟩:=yBs hnd hW hl hin hf y qAc;obtain ⟨k1,k2,k3,_⟩:=yIr hnd hW (show y<d.Left.length by omega) hl hin hf hi ho d.Bottom.length (xBj _);rw [zHo qAc,xC8,xDs];refine ⟨k1,k2,fun j hj=>?_⟩;by_cases hjy:j=y
    · subst hjy;unfold zOh;rw [xBx];intro x hx;exact k3 x (xDe.1 hx)
    · exact hr j qAc
theorem yDb {d:Design}{ks:List Int}(hok:zC1 d=true)(hl:ks.length=d.Left.length*d.Bottom.length)(hin:∀ i,i<ks.length→0≤ks.getD i 0∧ks.getD i 0<d.Pieces.length)(hf:∀ i,i<ks.length→zWp d ks i):zA7 d=0∧zBl d=ks:=by obtain ⟨⟨hW,_⟩,_,_,_,hnd,_⟩:=zA1 hok;obtain ⟨_,ho,hr⟩:=yBs hnd qAc hl hin hf d.Left.length (xBj _);have ha:zE6 d=true:=(by unfold zE6;rw [xBx];intro y hy;exact hr y (xDe.1 hy));have ho':zJa d=ks:=(by unfold zJa;rw [ho,← hl,xDj]);unfold zA7 zBl;rw [hok,ha];exact ⟨rfl,ho'⟩
def nmF (N:List Int)(x:Int):Int:=((zE9 N x:Nat):Int)
def ren (R C:List Int)(p:Piece):Piece:=⟨p.Color,nmF R p.North,nmF C p.East,nmF R p.South,nmF C p.West⟩
theorem zHc (N:List Int)(k:Int):N <+: zA6 N k:=by
  unfold zA6;split
  · exact xD4 _
  · exact xF8 _ _
theorem zGv {N M:List Int}(h:N <+: M){x:Int}(hx:x∈N):nmF M x=nmF N x:=by obtain ⟨t,rfl⟩:=h;unfold nmF zE9;rw [xE8,if_pos hx]
theorem yBc {N M:List Int}(h:N <+: M){xs:List Int}(hx:∀ x,x∈xs→x∈N):xs.map (nmF M)=xs.map (nmF N) :=
  xD5 fun x hm=>zGv h (hx x hm)
theorem yA8 {N:List Int}{x:Int}(h:x∈N):0≤nmF N x∧nmF N x<N.length:=by have:=zY9 h;unfold nmF;omega
theorem yHc {N:List Int}{x y:Int}(hx:x∈N)(hy:y∈N)(h:nmF N x=nmF N y):x=y:=by
  unfold nmF zE9 at h;have h1:N.idxOf x=N.idxOf y:=by omega
  have h2:N[N.idxOf x]'(xE6 hx)=x:=xFr _;have h3:N[N.idxOf y]'(xE6 hy)=y:=xFr _;rw [← h2,← h3];congr 1
structure InvF (d:Design) (a b:Nat) (st:CanS):Prop where
  L:st.out.Left=(d.Left.take a).map (nmF st.C)
  Lm:∀ x,x∈d.Left.take a→x∈st.C
  B:st.out.Bottom=(d.Bottom.take b).map (nmF st.R)
  Bm:∀ x,x∈d.Bottom.take b→x∈st.R
  Q:st.out.Pieces=st.S.map (fun k=>ren st.R st.C (gP d.Pieces k))
  Qm:∀ k,k∈st.S→(gP d.Pieces k).North∈st.R∧(gP d.Pieces k).East∈st.C∧(gP d.Pieces k).South∈st.R∧(gP d.Pieces k).West∈st.C
theorem yQx {R R' C C':List Int}(hR:R <+: R')(hC:C <+: C'){p:Piece}(h:p.North∈R∧p.East∈C∧p.South∈R∧p.West∈C):ren R' C' p=ren R C p:=by obtain ⟨h1,h2,h3,h4⟩:=h;unfold ren;rw [zGv hR h1,zGv hC h2,zGv hR h3,zGv hC h4]
theorem yY9 {d:Design}{R R' C C' S:List Int}(hR:R <+: R')(hC:C <+: C')(h:∀ k,k∈S→(gP d.Pieces k).North∈R∧(gP d.Pieces k).East∈C∧(gP d.Pieces k).South∈R∧(gP d.Pieces k).West∈C):S.map (fun k=>ren R' C' (gP d.Pieces k))=S.map (fun k=>ren R C (gP d.Pieces k)) :=
  xD5 fun k hk=>yQx hR hC (h k hk)
theorem zFb {N M:List Int}(h:N <+: M){x:Int}(hx:x∈N):x∈M:=h.subset hx
theorem zIv {l:List Int}{i:Nat}(h:i<l.length):l.getD i 0∈l:=by rw [xA3,xA1 h];exact xB3 h
theorem yAi {l:List Int}{i:Nat}(h:i<l.length):l.take (i+1)=l.take i++[l.getD i 0]:=by rw [xCd h,xA3,xA1 h];rfl
theorem yWp {d:Design}{a b i:Nat}{st:CanS}(h:InvF d a b st)(hi:i / d.Bottom.length=a)(hz:i % d.Bottom.length=0)(ha:a<d.Left.length):InvF d (a+1) b (zI8 d i st):=by
  have e:zI8 d i st={ st with C:=zA6 st.C (d.Left.getD a 0),out:={ st.out with Left:=st.out.Left++[nmF (zA6 st.C (d.Left.getD a 0)) (d.Left.getD a 0)] } }:=(by unfold zI8;rw [if_pos hz,hi];rfl);rw [e];have hp:=zHc st.C (d.Left.getD a 0);refine ⟨?_,?_,h.B,h.Bm,?_,fun k hk=>?_⟩
  · show st.out.Left++_=_;rw [h.L,yAi ha,xBo,yBc hp h.Lm];rfl
  · intro x hx;rw [yAi ha] at hx;rcases xBf.1 hx with hx | hx
    · exact zFb hp (h.Lm x hx)
    · rw [xCa] at hx;subst hx;exact zFz _ _
  · show st.out.Pieces=_;rw [h.Q];exact (yY9 (xD4 _) hp h.Qm).symm
  · obtain ⟨k1,k2,k3,k4⟩:=h.Qm k hk;exact ⟨k1,zFb hp k2,k3,zFb hp k4⟩
theorem ySl {d:Design}{a b i:Nat}{st:CanS}(h:InvF d a b st)(hz:¬ i % d.Bottom.length=0):InvF d a b (zI8 d i st):=by unfold zI8;rw [if_neg hz];exact h
theorem yWq {d:Design}{a i:Nat}{st:CanS}(h:InvF d a i st):InvF d a (i+1) (zLj d i st):=by
  by_cases hb:i<d.Bottom.length
  · have e:zLj d i st={ st with R:=zA6 st.R (d.Bottom.getD i 0),out:={ st.out with Bottom:=st.out.Bottom++[nmF (zA6 st.R (d.Bottom.getD i 0)) (d.Bottom.getD i 0)] } }:=(by unfold zLj;rw [if_pos hb];rfl);rw [e];have hp:=zHc st.R (d.Bottom.getD i 0);refine ⟨h.L,h.Lm,?_,?_,?_,fun k hk=>?_⟩
    · show st.out.Bottom++_=_;rw [h.B,yAi hb,xBo,yBc hp h.Bm];rfl
    · intro x hx;rw [yAi hb] at hx;rcases xBf.1 hx with hx | hx
      · exact zFb hp (h.Bm x hx)
      · rw [xCa] at hx;subst hx;exact zFz _ _
    · show st.out.Pieces=_;rw [h.Q];exact (yY9 hp (xD4 _) h.Qm).symm
    · obtain ⟨k1,k2,k3,k4⟩:=h.Qm k hk;exact ⟨zFb hp k1,k2,zFb hp k3,k4⟩
  · have e:zLj d i st=st:=qBt;have e2:d.Bottom.take (i+1)=d.Bottom.take i:=(by rw [xDg qAc,xDg qAc]);rw [e];exact ⟨h.L,h.Lm,by rw [e2];exact h.B,by rw [e2];exact h.Bm,h.Q,h.Qm⟩
theorem yWo {d:Design}{a b:Nat}{k:Int}{st:CanS}(h:InvF d a b st)(hs:(gP d.Pieces k).South∈st.R)(hw:(gP d.Pieces k).West∈st.C):InvF d a b (yNj d k st):=by
  unfold yNj;split
  · exact h
  · have hR:=zHc st.R (gP d.Pieces k).North;have hC:=zHc st.C (gP d.Pieces k).East;refine ⟨?_,fun x hx=>zFb hC (h.Lm x hx),?_,fun x hx=>zFb hR (h.Bm x hx),?_,fun j hj=>?_⟩
    · show st.out.Left=_;rw [yBc hC h.Lm];exact h.L
    · show st.out.Bottom=_;rw [yBc hR h.Bm];exact h.B
    · show st.out.Pieces++[zWi st.R st.C (gP d.Pieces k)]=_;rw [h.Q,xBo,yY9 hR hC h.Qm];congr 1;show _=[ren (zA6 st.R (gP d.Pieces k).North) (zA6 st.C (gP d.Pieces k).East) (gP d.Pieces k)]
      unfold ren zWi;rw [zGv hR hs,zGv hC hw];rfl
    · rcases xBf.1 hj with hj | hj
      · obtain ⟨k1,k2,k3,k4⟩:=h.Qm j hj;exact ⟨zFb hR k1,zFb hC k2,zFb hR k3,zFb hC k4⟩
      · rw [xCa] at hj;subst hj;exact ⟨zFz _ _,zFz _ _,zFb hR hs,zFb hC hw⟩
def aN (W i:Nat):Nat:=(i+W-1) / W
theorem yZ3 {W i:Nat}(hW:0<W)(hz:i % W=0):aN W i=i / W∧aN W (i+1)=i / W+1:=by
  have h:=Nat.div_add_mod i W;rw [hz,xEk] at h;unfold aN;refine ⟨?_,?_⟩
  · generalize i / W=q at h;subst h;rw [Nat.add_sub_assoc qAc,xE0 hW,xFf (by omega:W-1<W),xEk]
  · generalize i / W=q at h;subst h;rw [show W*q+1+W-1=W*q+W by omega,xE0 hW,Nat.div_self hW]
theorem xAu {W i:Nat}(hW:0<W)(hz:¬ i % W=0):aN W (i+1)=aN W i:=by have h:=Nat.div_add_mod i W;have hl:=Nat.mod_lt i hW;unfold aN;generalize i / W=q at h;generalize i % W=r at h hz hl;subst h;rw [show W*q+r+1+W-1=W*q+(r+W) by omega,show W*q+r+W-1=W*q+(r+(W-1)) by omega,xE0 hW,xE0 hW];congr 1;rw [show r+W=r+W*1 by omega,Nat.add_mul_div_left _ _ hW,xFf hl,show r+(W-1)=(r-1)+W*1 by omega,Nat.add_mul_div_left _ _ hW,xFf qAc]
theorem yO6 {W H:Nat}(hW:0<W):aN W (H*W)=H:=by rw [(yZ3 hW (xGo _ _)).1,xF6 _ hW]
theorem yWn {d:Design}{ks:List Int}{i:Nat}{st:CanS}(hW:0<d.Bottom.length)(h:InvF d (aN d.Bottom.length i) i st)(hi:i<d.Left.length*d.Bottom.length)
    (hs:(gP d.Pieces (ks.getD i 0)).South∈(zLj d i (zI8 d i st)).R) (hw:(gP d.Pieces (ks.getD i 0)).West∈(zLj d i (zI8 d i st)).C):InvF d (aN d.Bottom.length (i+1)) (i+1) (yEp d ks st i):=by
  unfold yEp;refine yWo ?_ hs hw;refine yWq ?_;by_cases hz:i % d.Bottom.length=0
  · obtain ⟨a1,a2⟩:=yZ3 hW hz;rw [a1] at h;rw [a2];exact yWp h rfl hz ((xE1 hW).2 hi)
  · rw [xAu hW hz];exact ySl h hz
theorem zZm {d:Design}{ks:List Int}(hW:0<d.Bottom.length)(hl:ks.length=d.Left.length*d.Bottom.length)(hf:∀ i,i<ks.length→zWp d ks i):∀ i,i≤ks.length→InvF d (aN d.Bottom.length i) i (zDu d ks i)
  | 0,_=>by have:aN d.Bottom.length 0=0:=(by rw [(yZ3 hW (Nat.zero_mod _)).1,Nat.zero_div]);rw [this];exact ⟨by simp [zDu,yB9],by simp,by simp [zDu,yB9],by simp,by simp [zDu,yB9],by simp [zDu,yB9]⟩
  | i+1,h=>by obtain ⟨_,hs,hw⟩:=zO1 hW (zQd hW hf i qAc) (show i<ks.length by omega) (hf i qAc);rw [zEb];exact yWn hW (zZm hW hl hf i qAc) qAc hs hw
/-! How the numbers met grow. -/
structure PreS (s t:CanS):Prop where
  R:s.R <+: t.R
  C:s.C <+: t.C
  S:s.S <+: t.S
theorem PreS.refl (s:CanS):PreS s s:=⟨xD4 _,xD4 _,xD4 _⟩
theorem PreS.trans {s t u:CanS}(h:PreS s t)(k:PreS t u):PreS s u:=⟨h.R.trans k.R,h.C.trans k.C,h.S.trans k.S⟩
theorem yNk (d:Design)(i:Nat)(s:CanS):PreS s (zI8 d i s):=by
  unfold zI8;split
  · exact ⟨xD4 _,zHc _ _,xD4 _⟩
  · exact .refl s
theorem yB8 (d:Design)(i:Nat)(s:CanS):PreS s (zLj d i s):=by
  unfold zLj;split
  · exact ⟨zHc _ _,xD4 _,xD4 _⟩
  · exact .refl s
theorem yB5 (d:Design)(k:Int)(s:CanS):PreS s (yNj d k s):=by
  unfold yNj;split
  · exact .refl s
  · exact ⟨zHc _ _,zHc _ _,xF8 _ _⟩
theorem yB7 (d:Design)(ks:List Int)(i:Nat):∀ n,PreS (zDu d ks i) (zDu d ks (i+n))
  | 0=>.refl _
  | n+1=>by rw [← xDp,zEb];exact (yB7 d ks i n).trans ((yNk d _ _).trans ((yB8 d _ _).trans (yB5 d _ _)))
/-! The numbers met are numbers of glues. -/
def inG (x:Int):Prop:=0≤x∧x≤119
theorem zVz {N:List Int}{k:Int}(h:∀ x,x∈N→inG x)(hk:inG k):∀ x,x∈zA6 N k→inG x:=by
  unfold zA6;split
  · exact h
  · intro x hx;rcases xBf.1 hx with hx | hx
    · exact h x hx
    · rw [xCa] at hx;subst hx;exact hk
theorem zXw {α:Type} [DecidableEq α]:∀ {a b:List α},a.Nodup→(∀ x,x∈a→x∈b)→a.length≤b.length
  | [],b,_,_=>xCs _
  | x::a,b,hn,h=>by have hx:=h x xD1;obtain ⟨h1,h2⟩:=xB8.1 hn;have:=zXw (b:=b.erase x) h2 (fun y hy=>(xFa (fun (e:y=x)=>h1 (by rw [← e];exact hy))).2 (h y (xCc _ hy)));rw [xFo hx] at this;have:=xGx hx;rw [xBk];omega
theorem yOi {N:List Int}(hn:N.Nodup)(h:∀ x,x∈N→inG x):N.length≤120:=by have h1:(N.map Int.toNat).Nodup:=(by rw [List.Nodup,xFu];refine xGk ?_ hn;intro a b ha hb hab e;have:=h a ha;have:=h b hb;unfold inG at *;exact hab qAc);have h2:∀ x,x∈N.map Int.toNat→x∈List.range 120:=(by intro x hx;obtain ⟨y,hy,rfl⟩:=xB1.1 hx;have:=h y hy;unfold inG at this;exact xDe.2 qAc);have:=zXw h1 h2;simpa using this
theorem yI5 {d:Design}{ks:List Int}(hok:zC1 d=true)(hl:ks.length=d.Left.length*d.Bottom.length)(hin:∀ i,i<ks.length→0≤ks.getD i 0∧ks.getD i 0<d.Pieces.length):∀ i,i≤ks.length→(∀ x,x∈(zDu d ks i).R→inG x)∧(∀ x,x∈(zDu d ks i).C→inG x)
  | 0,_=>⟨fun x hx=>by simp [zDu,yB9] at hx,fun x hx=>by simp [zDu,yB9] at hx⟩
  | i + 1,h=>by
    obtain ⟨⟨hW,_⟩,_,_,hp,_,hb,hle⟩:=zA1 hok;obtain ⟨h1,h2⟩:=yI5 hok hl hin i qAc;obtain ⟨k0,k1⟩:=hin i qAc;have hpk:=hp _ (xB3 (show (ks.getD i 0).toNat<d.Pieces.length by omega));rw [← zLv k0 k1] at hpk;unfold zTy at hpk;simp only [xA2,zDq] at hpk;rw [zEb];generalize zDu d ks i=st at h1 h2;have a1:(∀ x,x∈(zI8 d i st).R→inG x)∧(∀ x,x∈(zI8 d i st).C→inG x):=by
      unfold zI8;split
      · rename_i hz;refine ⟨h1,zVz h2 ?_⟩;exact hle _ (zIv ((xE1 qAc).2 qAc))
      · exact ⟨h1,h2⟩
    have a2:(∀ x,x∈(zLj d i (zI8 d i st)).R→inG x)∧(∀ x,x∈(zLj d i (zI8 d i st)).C→inG x):=by
      generalize zI8 d i st=s2 at a1;unfold zLj;split
      · rename_i hz;exact ⟨zVz a1.1 (hb _ (zIv hz)),a1.2⟩
      · exact a1
    unfold yEp;generalize zLj d i (zI8 d i st)=s3 at a2;unfold yNj;split
    · exact a2
    · exact ⟨zVz a2.1 ⟨hpk.2.1.1,hpk.2.1.2⟩,zVz a2.2 ⟨hpk.2.2.1.1,hpk.2.2.1.2⟩⟩
end Go.Proofs.Ytaleehohmpohoaa
