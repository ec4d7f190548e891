/- Laws that the proof stands on. -/
import Derived.Test.YtaleehohmpohoaaZg24
set_option linter.all false
namespace Go.Proofs.Ytaleehohmpohoaa
open Go.RowKit Go.V
def zHm (n:Nat):List Int:=(List.range n).map fun k=>((k:Nat):Int)
theorem zLh (n:Nat):(zHm n).length=n:=by simp [zHm]
theorem mem_iota {n:Nat}{x:Int}:x∈zHm n↔0≤x∧x<n:=by
  unfold zHm;rw [xB1];constructor
  · rintro ⟨k,hk,rfl⟩;have:=xDe.1 hk;omega
  · intro h;exact ⟨x.toNat,xDe.2 qAc,by omega⟩
theorem zKn (n:Nat):zHm (n+1)=zHm n++[(n:Int)]:=by unfold zHm;rw [xEd,xBo];rfl
theorem zLg {n:Nat}:∀ {x:Int},x∈zHm n→nmF (zHm n) x=x:=by
  induction n with
  | zero=>intro x hx;simp [zHm] at hx
  | succ n ih =>
    intro x hx;by_cases h:x∈zHm n
    · rw [zKn,zGv (xF8 _ _) h];exact ih h
    · have h1:=mem_iota.1 hx;have h2:x=(n:Int):=(by have h3:¬ (0≤x∧x<n):=fun e=>h (mem_iota.2 e);omega);subst h2;rw [zKn];unfold nmF zE9;rw [xE8,if_neg h,zLh];simp
theorem zRs {Ni N:List Int}{x:Int}(hp:zA6 Ni x <+: N):zA6 (zHm Ni.length) (nmF N x)=zHm (zA6 Ni x).length:=by
  rw [zGv hp (zFz Ni x)];by_cases h:x∈Ni
  · rw [zDo h];exact zDo (mem_iota.2 (yA8 h))
  · have e:nmF (Ni++[x]) x=(Ni.length:Int):=(by unfold nmF;rw [zVv h]);rw [zOs h,e,xC4];show _=zHm (Ni.length+1);rw [zKn];exact zOs (fun hm=>by have:=mem_iota.1 hm;omega)
theorem getD_map {l:List Int}{f:Int→Int}{i:Nat}(h:i<l.length):(l.map f).getD i 0=f (l.getD i 0):=by rw [xA3,xA3,xAy,xA1 h];rfl
structure CanM (d:Design) (ks R C S:List Int) (m:Design):Prop where
  L:m.Left=d.Left.map (nmF C)
  Lm:∀ x,x∈d.Left→x∈C
  B:m.Bottom=d.Bottom.map (nmF R)
  Bm:∀ x,x∈d.Bottom→x∈R
  Q:m.Pieces=S.map (fun k=>ren R C (gP d.Pieces k))
  Qm:∀ k,k∈S→(gP d.Pieces k).North∈R∧(gP d.Pieces k).East∈C∧(gP d.Pieces k).South∈R∧(gP d.Pieces k).West∈C
  Sn:S.Nodup
  Rl:R.length≤120
  Cl:C.length≤120
  Si:∀ k,k∈S→k∈ks
  Sk:∀ k,k∈ks→k∈S
theorem yTt {d:Design}{ks:List Int}(hok:zC1 d=true)(hl:ks.length=d.Left.length*d.Bottom.length)(hin:∀ i,i<ks.length→0≤ks.getD i 0∧ks.getD i 0<d.Pieces.length)(hf:∀ i,i<ks.length→zWp d ks i) :
    CanM d ks (zDu d ks ks.length).R (zDu d ks ks.length).C (zDu d ks ks.length).S (zDu d ks ks.length).out:=by
  obtain ⟨⟨hW,_⟩,⟨hH,_⟩,_⟩:=zA1 hok;have h1:=zZm qAc hl hf ks.length (xBj _);have h2:=zQd qAc hf ks.length (xBj _);have h3:=yI5 hok hl hin ks.length (xBj _);have ea:aN d.Bottom.length ks.length=d.Left.length:=(by rw [hl,yO6 qAc]);have eb:d.Bottom.take ks.length=d.Bottom:=xDg (by
    rw [hl];exact xGw _ qAc)
  rw [ea] at h1;generalize zDu d ks ks.length=st at h1 h2 h3;obtain ⟨a1,a2,a3,a4,a5,a6⟩:=h1;rw [xDj] at a1 a2;rw [eb] at a3 a4;refine ⟨a1,a2,a3,a4,a5,a6,h2.sn,yOi h2.rn h3.1,yOi h2.cn h3.2,h2.si,fun k hk=>?_⟩;obtain ⟨i,hi,rfl⟩:=xFk hk;have:=h2.me i hi;rwa [xA3,xA1 hi] at this
section
variable {d m:Design} {ks R C S:List Int}
theorem CanM.sub (h:CanM d ks R C S m)(hin:∀ k,k∈ks→0≤k∧k<d.Pieces.length):S.length≤d.Pieces.length:=by have h1:(∀ x,x∈S→x∈zHm d.Pieces.length):=fun x hx=>mem_iota.2 (hin x (h.Si x hx));have:=zXw h.Sn h1;rwa [zLh] at this
theorem CanM.get (h:CanM d ks R C S m){k:Int}(hk:k∈S):gP m.Pieces (nmF S k)=ren R C (gP d.Pieces k):=by have h1:=zY9 hk;have h2:S[zE9 S k]'h1=k:=xFr h1;unfold gP nmF;rw [xAz,xA3,h.Q,xAy,xA1 h1,h2];rfl
theorem zQe {N:List Int}(hN:N.length≤120){x:Int}(h:x∈N):inR 0 119 (nmF N x)=true:=by have:=yA8 h;rw [zDq];omega
theorem CanM.ok (h:CanM d ks R C S m)(hok:zC1 d=true)(hin:∀ k,k∈ks→0≤k∧k<d.Pieces.length):zC1 m=true:=by
  have hs:=h.sub hin;obtain ⟨⟨w1,w2⟩,⟨l1,l2⟩,p1,p2,p3,_,_⟩:=zA1 hok;unfold zC1 zFv;simp only [xA2,decide_eq_true_eq,xBx];refine ⟨⟨?_,?_⟩,⟨?_,?_⟩,?_,?_,?_⟩
  · rw [h.B,xAw,zDq];omega
  · intro x hx;rw [h.B] at hx;obtain ⟨y,hy,rfl⟩:=xB1.1 hx;exact zQe h.Rl (h.Bm y hy)
  · rw [h.L,xAw,zDq];omega
  · intro x hx;rw [h.L] at hx;obtain ⟨y,hy,rfl⟩:=xB1.1 hx;exact zQe h.Cl (h.Lm y hy)
  · rw [h.Q,xAw];omega
  · intro x hx;rw [h.Q] at hx;obtain ⟨k,hk,rfl⟩:=xB1.1 hx;obtain ⟨k1,k2,k3,k4⟩:=h.Qm k hk;obtain ⟨g0,g1⟩:=hin k (h.Si k hk);have hp:=p2 _ (xB3 (show k.toNat<d.Pieces.length by omega));rw [← zLv g0 g1] at hp;unfold zTy at hp ⊢;simp only [xA2] at hp ⊢;exact ⟨hp.1,zQe h.Rl k1,zQe h.Cl k2,zQe h.Rl k3,zQe h.Cl k4⟩
  · rw [h.Q,xDl,List.Nodup,xFu];refine xGk ?_ h.Sn;intro a b ha hb hab e;obtain ⟨a1,a2,a3,a4⟩:=h.Qm a ha;obtain ⟨b1,b2,b3,b4⟩:=h.Qm b hb;simp only [Function.comp,kkP,ren,xBd] at e;have e1:=yHc a3 b3 e.1;have e2:=yHc a4 b4 e.2;obtain ⟨ga0,ga1⟩:=hin a (h.Si a ha);obtain ⟨gb0,gb1⟩:=hin b (h.Si b hb);rw [zLv ga0 ga1,zLv gb0 gb1] at e1 e2;have h1:(d.Pieces.map kkP)[a.toNat]'qAw=(d.Pieces.map kkP)[b.toNat]'qAw:=by simp only [xFg,kkP,e1,e2]
    have:=yOh p3 h1;omega
theorem CanM.at (h:CanM d ks R C S m){i:Nat}(hi:i<ks.length):gP m.Pieces ((ks.map (nmF S)).getD i 0)=ren R C (gP d.Pieces (ks.getD i 0)):=by rw [getD_map hi];exact h.get (h.Sk _ (zIv hi))
theorem CanM.fit (h:CanM d ks R C S m)(hl:ks.length=d.Left.length*d.Bottom.length)(hf:∀ i,i<ks.length→zWp d ks i)(hW:0<d.Bottom.length):∀ i,i<(ks.map (nmF S)).length→zWp m (ks.map (nmF S)) i:=by
  intro i hi;rw [xAw] at hi;have hBl:m.Bottom.length=d.Bottom.length:=by rw [h.B,xAw]
  obtain ⟨f1,f2⟩:=hf i hi;unfold zWp;rw [hBl,h.at hi];refine ⟨?_,?_⟩
  · show nmF R (gP d.Pieces (ks.getD i 0)).South=_;rw [f1];by_cases hb:i<d.Bottom.length
    · rw [if_pos hb,if_pos hb,h.B,getD_map hb]
    · rw [if_neg hb,if_neg hb,h.at qAc];rfl
  · show nmF C (gP d.Pieces (ks.getD i 0)).West=_;rw [f2];by_cases hb:i % d.Bottom.length=0
    · rw [if_pos hb,if_pos hb,h.L,getD_map ((xE1 hW).2 qAc)]
    · rw [if_neg hb,if_neg hb,h.at qAc];rfl
theorem CanM.run (h:CanM d ks R C S m)(hok:zC1 d=true)(hl:ks.length=d.Left.length*d.Bottom.length)(hin:∀ k,k∈ks→0≤k∧k<d.Pieces.length)(hf:∀ i,i<ks.length→zWp d ks i):zA7 m=0∧zBl m=ks.map (nmF S):=by
  obtain ⟨⟨hW,_⟩,_⟩:=zA1 hok;refine yDb (h.ok hok hin) ?_ (fun i hi=>?_) (h.fit hl hf qAc)
  · rw [xAw,h.L,h.B,xAw,xAw,hl]
  · rw [xAw] at hi;rw [getD_map hi,h.Q,xAw];exact yA8 (h.Sk _ (zIv hi))
theorem CanM.paint (h:CanM d ks R C S m):(ks.map (nmF S)).map (fun k=>(gP m.Pieces k).Color)=ks.map (fun k=>(gP d.Pieces k).Color):=by rw [xDl];refine xD5 fun k hk=>?_;show (gP m.Pieces (nmF S k)).Color=_;rw [h.get (h.Sk k hk)];rfl
theorem CanM.lock (h:CanM d ks R C S m)(hR:R=(zDu d ks ks.length).R)(hC:C=(zDu d ks ks.length).C)(hS:S=(zDu d ks ks.length).S)(hl:ks.length=d.Left.length*d.Bottom.length)(hW:0<d.Bottom.length):∀ i,i≤ks.length →
    (zDu m (ks.map (nmF S)) i).R=zHm (zDu d ks i).R.length∧(zDu m (ks.map (nmF S)) i).C=zHm (zDu d ks i).C.length∧(zDu m (ks.map (nmF S)) i).S=zHm (zDu d ks i).S.length
  | 0,_=>⟨rfl,rfl,rfl⟩
  | i + 1,hi=>by
    obtain ⟨l1,l2,l3⟩:=CanM.lock h hR hC hS hl hW i qAc;have hBl:m.Bottom.length=d.Bottom.length:=(by rw [h.B,xAw]);have hpre:=yB7 d ks (i+1) (ks.length-(i+1));rw [show i+1+(ks.length-(i+1))=ks.length by omega] at hpre;have hpr:PreS (zDu d ks (i+1)) ⟨R,C,S,m⟩:=⟨by rw [hR];exact hpre.R,by rw [hC];exact hpre.C,by rw [hS];exact hpre.S⟩
    rw [zEb] at hpr;rw [zEb,zEb];generalize zDu d ks i=st at l1 l2 l3 hpr;generalize zDu m (ks.map (nmF S)) i=st' at l1 l2 l3;obtain ⟨r',c',s',o'⟩:=st';simp only at l1 l2 l3;subst l1;subst l2;subst l3;unfold yEp at hpr ⊢;have q3:=yB5 d (ks.getD i 0) (zLj d i (zI8 d i st));have q2:=yB8 d i (zI8 d i st);have eL:∀ o,∃ o2,zI8 m i ⟨zHm st.R.length,zHm st.C.length,zHm st.S.length,o⟩=⟨zHm (zI8 d i st).R.length,zHm (zI8 d i st).C.length,zHm (zI8 d i st).S.length,o2⟩:=by
      intro o;have hp:=(q2.trans (q3.trans hpr)).C;unfold zI8 at hp ⊢;rw [hBl];by_cases hz:i % d.Bottom.length=0
      · rw [if_pos hz] at hp;rw [if_pos hz,if_pos hz,h.L,getD_map ((xE1 hW).2 qAc)];simp only at hp;rw [zRs hp];exact ⟨_,rfl⟩
      · rw [if_neg hz,if_neg hz];exact ⟨o,rfl⟩
    obtain ⟨o2,e2⟩:=eL o';rw [e2];generalize zI8 d i st=st1 at *;have eB:∀ o,∃ o2,zLj m i ⟨zHm st1.R.length,zHm st1.C.length,zHm st1.S.length,o⟩=⟨zHm (zLj d i st1).R.length,zHm (zLj d i st1).C.length,zHm (zLj d i st1).S.length,o2⟩:=by
      intro o;have hp:=(q3.trans hpr).R;unfold zLj at hp ⊢;rw [hBl];by_cases hz:i<d.Bottom.length
      · rw [if_pos hz] at hp;rw [if_pos hz,if_pos hz,h.B,getD_map hz];simp only at hp;rw [zRs hp];exact ⟨_,rfl⟩
      · rw [if_neg hz,if_neg hz];exact ⟨o,rfl⟩
    obtain ⟨o3,e3⟩:=eB o2;rw [e3];generalize zLj d i st1=st2 at *;have hk:=h.Sk _ (zIv (show i<ks.length by omega));rw [getD_map (show i<ks.length by omega)];have hg:=h.get hk;unfold yNj at hpr ⊢;by_cases hm:ks.getD i 0∈st2.S
    · rw [if_pos hm] at hpr;have hx:nmF S (ks.getD i 0)∈zHm st2.S.length:=by rw [zGv hpr.S hm];exact mem_iota.2 (yA8 hm)
      rw [if_pos hm,if_pos hx];exact ⟨rfl,rfl,rfl⟩
    · rw [if_neg hm] at hpr;have e:nmF S (ks.getD i 0)=(st2.S.length:Int):=by rw [zGv hpr.S (xC3 _ (xCa.2 rfl))];unfold nmF;rw [zVv hm]
      have hx:¬ nmF S (ks.getD i 0)∈zHm st2.S.length:=(by rw [e];intro hm2;have:=mem_iota.1 hm2;omega);rw [if_neg hm,if_neg hx,hg];refine ⟨?_,?_,?_⟩
      · exact zRs hpr.R
      · exact zRs hpr.C
      · show zHm st2.S.length++[nmF S (ks.getD i 0)]=zHm (st2.S++[ks.getD i 0]).length;rw [e,xC4];exact (zKn _).symm
end
theorem yTr {d:Design}(h0:zA7 d=0):let m:=zAn d;let S:=(zDu d (zBl d) (zBl d).length).S
    zA7 m=0∧zAn m=m∧m.Bottom.length=d.Bottom.length∧m.Left.length=d.Left.length∧(zBl m).map (fun k=>(gP m.Pieces k).Color)=(zBl d).map (fun k=>(gP d.Pieces k).Color) ∧
    m.Pieces.length=S.length∧S.Nodup∧(∀ k,k∈S↔k∈zBl d)∧zC1 m=true:=by
  obtain ⟨hok,hall,hres⟩:=zF4 h0;have hin:=zF3 h0;obtain ⟨⟨hW,_⟩,⟨hH,_⟩,_⟩:=zA1 hok;obtain ⟨hl,hf⟩:=zLy qAc hall;rw [← hres] at hl hf;have hR:zAn d=(zDu d (zBl d) (zBl d).length).out:=(by unfold zAn;rw [if_pos h0]);simp only;generalize zBl d=ks at *;have hin':∀ i,i<ks.length→0≤ks.getD i 0∧ks.getD i 0<d.Pieces.length:=fun i hi=>hin _ (zIv hi);have hM:=yTt hok hl hin' hf;rw [hR];obtain ⟨r0,r1⟩:=hM.run hok hl hin hf;have hmok:=hM.ok hok hin;have hlock:=hM.lock rfl rfl rfl hl qAc ks.length (xBj _);have hpaint:=hM.paint;refine ⟨r0,?_,by rw [hM.B,xAw],by rw [hM.L,xAw],by rw [r1];exact hpaint,by rw [hM.Q,xAw],hM.Sn,fun k=>⟨hM.Si k,hM.Sk k⟩,hmok⟩;unfold zAn;rw [if_pos r0,r1,xAw];generalize zDu d ks ks.length=st at *;generalize hm:st.out=m at *;have hl2:(ks.map (nmF st.S)).length=m.Left.length*m.Bottom.length:=(by rw [xAw,hM.L,hM.B,xAw,xAw,hl]);have hf2:=hM.fit hl hf qAc;have hBl:m.Bottom.length=d.Bottom.length:=(by rw [hM.B,xAw]);have h1:=zZm (d:=m) qAc hl2 hf2 ks.length (by rw [xAw];exact xBj _);have ea:aN m.Bottom.length ks.length=m.Left.length:=(by rw [xAw] at hl2;rw [hl2,yO6 qAc]);have eb:m.Bottom.take ks.length=m.Bottom:=xDg (by
    rw [xAw] at hl2;rw [hl2];exact xGw _ (by rw [hM.L,xAw];omega))
  rw [ea] at h1;obtain ⟨k1,k2,k3⟩:=hlock;generalize zDu m (ks.map (nmF st.S)) ks.length=st' at k1 k2 k3 h1;obtain ⟨r',c',s',⟨ob,ol,op⟩⟩:=st';simp only at k1 k2 k3;subst k1;subst k2;subst k3;obtain ⟨a1,a2,a3,a4,a5,a6⟩:=h1;rw [xDj] at a1 a2;rw [eb] at a3 a4;simp only at a1 a2 a3 a4 a5 a6;have b1:ol=m.Left:=by rw [a1];refine (xD5 fun x hx=>?_).trans (List.map_id _);exact zLg (a2 x hx)
  have b2:ob=m.Bottom:=(by rw [a3];refine (xD5 fun x hx=>?_).trans (List.map_id _);exact zLg (a4 x hx));have b3:op=m.Pieces:=by
    rw [a5];have hPl:m.Pieces.length=st.S.length:=by rw [hM.Q,xAw]
    refine List.ext_getElem (by rw [xAw,zLh,hPl]) fun i h1 h2=>?_;have hi:((i:Nat):Int)∈zHm st.S.length:=mem_iota.2 qAc;have hii:(zHm st.S.length)[i]'(by rw [zLh];omega)=(i:Int):=by unfold zHm;simp
    have hg:gP m.Pieces ((i:Nat):Int)=m.Pieces[i]:=(by rw [zLv qAc qAc];simp);rw [xFg,hii];obtain ⟨q1,q2,q3,q4⟩:=a6 _ hi;rw [hg] at q1 q2 q3 q4 ⊢;unfold ren;rw [zLg q1,zLg q2,zLg q3,zLg q4]
  show (⟨ob,ol,op⟩:Design)=m;rw [b1,b2,b3]
end Go.Proofs.Ytaleehohmpohoaa
