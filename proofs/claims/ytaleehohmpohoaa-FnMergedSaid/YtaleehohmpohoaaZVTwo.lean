/- Laws that the proof stands on. -/
import Derived.Test.YtaleehohmpohoaaZVFlat
set_option linter.all false
namespace Go.V
open Go.RowKit
def xCq (cells':List D)(s:List D):Prop:=∃ (r:Nat) (tg:Option Nat) (cs:List D),s[r]?=some (.box tg cs)∧leL (zAh (fun _=>false) cs) cells'
def le2 (d:D)(cells':List D):List D→List D→Prop:=fun ds s=>(one ds).le d∧xCq cells' s
def xAp (rvs:List RV)(d:D)(cells':List D):VExit→List D→Prop:=yMy rvs (le2 d cells')
theorem zUm {rvs:List RV}{d:D}{c s:List D}:xAp rvs d c .ret s=zR4 s rvs (le2 d c):=rfl
theorem zXl {d:D}{c ds s:List D}:le2 d c ds s=((one ds).le d∧xCq c s):=rfl
theorem zPb {pt:Nat} {P:Program} {G:World→(Nat→Prop)→Prop} {f:FuncId} {fn:Func} {c:Code} {ms ms':List (List Bool)} {vc:VCode} {rvs:List RV} {args:List D} {d:D} {i:Nat} {c1 c2 c1' c2':List D} (hcl:yV6 G) (hf:P.funcs[f]?=some fn) (hen:∀ (us:Array Value) (W:World),(callFunc f us).run P W=.ok (.enter f us) W) (hb:fn.body=some c)
    (hc:zAr P pt c ms=some (vc,ms')) (hr:zRs P fn.results.toList=some rvs) (hi:i<args.length) (hk:∀ b1 b2,vc.wp (CT P G) (xAp rvs d [.box (some b1) c1',.box (some b2) c2']) (args.set i (.agg [.box (some b1) c1,.box (some b2) c2])++List.replicate (fn.ntmps-args.length) .undef)):ContractL P G f i args (.agg [.box none c1,.box none c2]) d (.agg [.box none c1',.box none c2']):=by
  refine ⟨hen,fun w I us u X hG hI hu hV hT hXn hX=>?_⟩;have hlen:us.length=args.length:=by have:=hV.len;simpa using this
  simp only [T,Cells] at hT;obtain ⟨uu,heu,u1,us',F1,F2,rfl,hF12,ho1,⟨b1,cs1,et1,F1',hub1,_,hh1,hFb1,hcs1⟩,u2,us2,G1,G2,rfl,hG12,ho2,⟨b2,cs2,et2,F2',hub2,_,hh2,hFb2,hcs2⟩,rfl,rfl⟩:=hT;rw [xEk] at hG12;subst hG12;have hTb:T I w (.agg [.box (some b1) c1,.box (some b2) c2]) nil u X:=by rw [heu];simp only [T,Cells];exact ⟨_,rfl,u1,_,F1,F2,rfl,hF12,ho1,⟨b1,cs1,et1,F1',hub1,(fun k hk=>by cases hk;rfl),hh1,hFb1,hcs1⟩,u2,[],F2,[],rfl,by simp,ho2,⟨b2,cs2,et2,F2',hub2,(fun k hk=>by cases hk;rfl),hh2,hFb2,hcs2⟩,rfl,rfl⟩
  refine (zRv (I:=I) (X:=X) (us:=us) (Fs0:=fun r=>if r=i then X else []) (fun w' hb'=>hG.keep hcl fun b hb=>hb'.block b (fun hn=>hn.elim (fun h=>absurd (hI b hb) (by omega)) (fun h=>(hX b h).2 hb))) hf hb hc hr ?_ (hk b1 b2)).mono ?_
  · exact {
      below:=Base.Below.refl
      len:=by simp [hlen]
      slot:=by
        intro r d' v h1 h2;by_cases hri:r=i
        · subst hri;rw [xFj (by simpa using hi),xEj hi] at h1;cases h1;have:us[r]?=some v:=by rw [xG6 (by simp;omega)] at h2;simpa using h2
          rw [hu] at this;cases this;simp only [if_true];exact hTb.res (fun _ _ h=>h.elim)
        · simp only [hri,if_false];rw [zMs hri] at h1;exact zHy hV (by simpa using h1) h2
      nd:=fun r=>by split;exact hXn;exact xFr
      disj:=fun r r' x h h'=>by
        split at h
        · split at h'
          · omega
          · cases h'
        · cases h
      own:=fun r x h=>by
        split at h
        · exact ⟨.inr h,(hX x h).1,(hX x h).2⟩
        · cases h
      imm:=hI
      imm0:=fun _ h=>h
      immN:=fun _ h=>.inl h }
  · rintro e w' ⟨v,ds,F,s2,Fs2,I',tm,he,⟨hle,r,tg,cs,hs,hlc⟩,hbel,hT,hnd,hF,hR,hFo⟩;obtain ⟨F',k1,k2⟩:=T.leF _ _ hT hle;obtain ⟨u3,hu3,hT3⟩:=hR.slot0 hs;simp only [T] at hT3;obtain ⟨b3,cs3,et3,F3,hub3,htg,hh3,hF3,hcs3⟩:=hT3;obtain ⟨F5,hc5,hs5⟩:=Cells.leF _ _ (Cells.turn (ρ':=nil) (fun x v hq _=>by cases hq) cs hcs3) hlc;have hsub:∀ x,x∈F5→x∈Fs2 r:=fun x hx=>by rw [hF3];exact xE7 _ (hs5.subset hx)
    have hnr:=hR.nd r;rw [hF3] at hnr;simp only [Cells,T] at hc5;obtain ⟨v1,vs,H1,H2,hvs,hH12,hv1o,⟨d1,dc1,dt1,dF1,hd1,htd1,hdh1,hdF1,hdc1⟩,v2,vs2,J1,J2,hvs2,hJ12,hv2o,⟨d2,dc2,dt2,dF2,hd2,htd2,hdh2,hdF2,hdc2⟩,hvs3,hJ2⟩:=hc5;have e1:=htd1 _ rfl;have e2:=htd2 _ rfl;subst e1;subst e2;subst hJ2;refine ⟨v,F',F5,I',he,hbel,k1,?_,?_,fun x hx=>?_,hR.imm0,fun x hx=>⟨?_,hR.imm x hx⟩⟩
    · rw [heu];simp only [T,Cells];exact ⟨_,rfl,u1,_,H1,H2,rfl,hH12,ho1,⟨d1,dc1,dt1,dF1,hub1,(fun k hk=>by cases hk),hdh1,hdF1,hdc1⟩,u2,[],J1,[],rfl,hJ12,ho2,⟨d2,dc2,dt2,dF2,hub2,(fun k hk=>by cases hk),hdh2,hdF2,hdc2⟩,rfl,rfl⟩
    · refine xDs.2 ⟨k2.nodup hnd,hs5.nodup (xEq.1 hnr).2,fun x hx y hy hxy=>?_⟩;subst hxy;exact hFo x (k2.subset hx) r (hsub x hy)
    · rcases xD6.1 hx with hx | hx
      · exact hF x (k2.subset hx)
      · exact hR.own r x (hsub x hx)
    · exact (hR.immN x hx)
theorem ContractL.tag2 {P:Program}{G:World→(Nat→Prop)→Prop}{f:FuncId}{i:Nat}{args c1 c2 c1' c2':List D}{d:D}(h:ContractL P G f i args (.agg [.box none c1,.box none c2]) d (.agg [.box none c1',.box none c2']))(t1 t2:Option Nat):ContractL P G f i args (.agg [.box t1 c1,.box t2 c2]) d (.agg [.box t1 c1',.box t2 c2']):=by
  refine ⟨h.1,fun w I us u X hG hI hu hV hT hXn hX=>?_⟩;have hT':=hT;simp only [T,Cells] at hT';obtain ⟨uu,heu,u1,us',F1,F2,rfl,hF12,ho1,⟨b1,cs1,et1,F1',hub1,ht1,hh1,hFb1,hcs1⟩,u2,us2,G1,G2,rfl,hG12,ho2,⟨b2,cs2,et2,F2',hub2,ht2,hh2,hFb2,hcs2⟩,rfl,rfl⟩:=hT';refine (h.2 w I us u X hG hI hu hV (by
    rw [heu];simp only [T,Cells];exact ⟨_,rfl,u1,_,F1,F2,rfl,hF12,ho1,⟨b1,cs1,et1,F1',hub1,(fun k hk=>by cases hk),hh1,hFb1,hcs1⟩,u2,[],G1,[],rfl,hG12,ho2,⟨b2,cs2,et2,F2',hub2,(fun k hk=>by cases hk),hh2,hFb2,hcs2⟩,rfl,rfl⟩) hXn hX).mono ?_
  rintro e w' ⟨v,F,X',I',he,hb,hTd,hTx,hnd,hF,hI1,hI2⟩;refine ⟨v,F,X',I',he,hb,hTd,?_,hnd,hF,hI1,hI2⟩;rw [heu] at hTx ⊢;simp only [T.eq_5,Cells] at hTx ⊢;obtain ⟨us3,he3,w1,ws,H1,H2,rfl,hH,hw1,hB1,w2,ws2,J1,J2,rfl,hJ,hw2,hB2,rfl,hJ2⟩:=hTx;have he4:=congrArg Array.toList (Value.agg.inj he3);simp only [xE6] at he4;obtain ⟨rfl,rfl,_⟩:=he4;refine ⟨_,rfl,u1,_,H1,H2,rfl,hH,hw1,?_,u2,[],J1,J2,rfl,hJ,hw2,?_,rfl,hJ2⟩
  · simp only [T] at hB1 ⊢;obtain ⟨bb,k1,k2,k3,k4,_,k6,k7,k8⟩:=hB1;rw [hub1] at k4;simp only [Value.pointer.injEq,xDi,Addr.mk.injEq,and_true] at k4;subst k4;exact ⟨b1,k1,k2,k3,hub1,ht1,k6,k7,k8⟩
  · simp only [T] at hB2 ⊢;obtain ⟨bb,k1,k2,k3,k4,_,k6,k7,k8⟩:=hB2;rw [hub2] at k4;simp only [Value.pointer.injEq,xDi,Addr.mk.injEq,and_true] at k4;subst k4;exact ⟨b2,k1,k2,k3,hub2,ht2,k6,k7,k8⟩
theorem zZt {P:Program}{G:World→(Nat→Prop)→Prop}{s:List D}{K:D→List D→Prop}{f:FuncId}{r:Nat}{x:Operand}{xs:List Operand}{tag t1 t2:Option Nat}{c1 c2 c1' c2' args' A:List D}{res:D}(hC:ContractL P G f 0 args' (.agg [.box none c1,.box none c2]) res (.agg [.box none c1',.box none c2']))(hs:s[r]?=some (.box tag [.box t1 c1,.box t2 c2]))(hx:lk s x=.agg [.ptr r [(0,0)] 0 0,.ptr r [(0,1)] 0 0])(hp:c1.all D.plain=true∧c2.all D.plain=true)
    (hA:(((((x::xs).map fun x=>raw s x).set 0 .undef).map (D.prune (zAi r))).map (deep ((zAh (zAi r) s).set r .undef) 8))=A) (hle:leL A args') (hn:res.noImm=true∧zBc c1'=true∧zBc c2'=true) (hK:K res ((zAh (zFh r) s).set r (.box tag [.box t1 c1',.box t2 c2']))):zAn (CT P G) s (.callX f (x::xs)) K:=by
  refine .inr (.inr (.inl ⟨0,r,x,false,.agg [.box t1 c1,.box t2 c2],.agg [.box t1 c1',.box t2 c2'],.box tag [.box t1 c1',.box t2 c2'],.agg [.box t1 c1',.box t2 c2'],res,args',rfl,?_,.inl ⟨_,hs,rfl⟩,hA▸hle,hC.tag2 t1 t2,.inl ⟨rfl,hn.1,by simp [D.noImm,zBc,hn.2.1,hn.2.2]⟩,.inr ⟨⟨_,hs,rfl⟩,rfl,hK⟩⟩));unfold zT9;rw [hs];exact .inr (.inl ⟨rfl,tag,_,_,rfl,hx,by simp [zD6,hp.1,hp.2],rfl,rfl,rfl⟩)
theorem yHu {P:Program}{G:World→(Nat→Prop)→Prop}{s:List D}{K:D→List D→Prop}{f:FuncId}(r1 r2 r3:Nat){x:Operand}{xs:List Operand}{t1 t2 t3:Option Nat}{c1 c2 c1' c2' args' A:List D}{res:D}(hC:ContractL P G f 0 (.undef::args') (.agg [.box none c1,.box none c2]) res (.agg [.box none c1',.box none c2']))(hne:r1≠r2)(hs1:s[r1]?=some (.box t1 c1))(hs2:s[r2]?=some (.box t2 c2))(hx:lk s x=.agg [.ptr r1 [] 0 0,.ptr r2 [] 0 0])(hp:c1.all D.plain=true∧c2.all D.plain=true)
    (hno:(xs.map (raw s)).all D.noRef=true) (hA:(xs.map (raw s)).map (deep s 8)=A) (hle:leL A args') (hs3:s[r3]?=some (.box t3 [.ptr r1 [] 0 0,.ptr r2 [] 0 0])) (hne3:r3≠r1∧r3≠r2) (hK:K res ((zAh (zAi r3) ((zAh (zAi r2) ((zAh (zAi r1) s).set r1 .undef)).set r2 .undef)).set r3 (.box t3 [.box none c1',.box none c2']))):zAn (CT P G) s (.callX f (x::xs)) K :=
  .inr (.inr (.inr (.inr (.inr (.inr (.inl ⟨x,xs,r1,r2,t1,t2,c1,c2,c1',c2',res,args',rfl,hne,hs1,hs2,hx,hp,hno,hA▸hle,hC,.inr ⟨r3,t3,hs3,hne3.1,hne3.2,hK⟩⟩))))))
end Go.V
