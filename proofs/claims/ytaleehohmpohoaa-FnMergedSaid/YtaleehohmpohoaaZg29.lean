/- Laws that the proof stands on. -/
import Derived.Test.YtaleehohmpohoaaZVMgR
import Derived.Test.YtaleehohmpohoaaZg27
import Derived.Test.YtaleehohmpohoaaZg20
import Derived.Test.YtaleehohmpohoaaZg12
set_option linter.all false
namespace Go.Proofs.Ytaleehohmpohoaa
open Go.RowKit Go.V
attribute [local go_sem] xD4 xDy xDz xDv xDu xEb xD9 xEn xEa xFu xEi xE3 xEc xFd xEv xE2 xD7 xEd xEk xFg Value.oneCell' xFf xEy xFh xFl xFm xDw xD5 and_true true_and beq_self_eq_true xDr if_true if_false xEm Nat.reduceAdd Nat.reduceMul Nat.reduceLeDiff xD8 xEu xEt not_true_eq_false not_false_eq_true ne_eq reduceCtorEq xE1 bne_self_eq_false Nat.reduceEqDiff List.isPrefixOf xEs xFe xE0 xFt xFi decide_true decide_false Nat.reduceBEq Nat.reduceBNe xEl xEr exists_eq_left' exists_eq_left xDi or_false or_true true_or false_or xDk xFa mB Nat.reduceMod Nat.reduceDiv
set_option maxRecDepth 100000
theorem yIh {N:List Int}(h:OkN N){x:Int}(hx:inG x):N[x.toNat]?=some (gN N x):=by have:=(h.at hx).2.2;unfold gN;rw [xDt,xDl this];rfl
theorem zSa {x:Int}(hx:inG x):0≤x∧x<((120:Nat):Int):=by unfold inG at hx;omega
theorem yYd:zY9 0=[]:=rfl
theorem yQ8 (xs:List Int)(x:Int):(xs++[x]).map rI=xs.map rI++[[.v (.int .i64 x)]]:=by rw [xEz];rfl
set_option maxHeartbeats 8000000 in
theorem zSe (d:Design) (i k:Int) (hok:zC2 d=true) (hi:0≤i∧i<d.Pieces.length) (hk:0≤k∧k<d.Pieces.length):Contract Try.prog NoG 58 [.iptr (Design.td.d false d) 0,.v (.int .i64 i),.v (.int .i64 k)] (.tup [.agg (Design.td.d true (if clash (mgD d i k) d.Pieces then ⟨[],[],[]⟩ else zFw d (mgD d i k))),.v (.bool (!clash (mgD d i k) d.Pieces))]):=by
  have hp:∀ p,p∈d.Pieces→InP p:=fun p h=>zSx ((zA8 hok).2.2.2.1 p h);have hpl:=(zA8 hok).2.2.1;have hcf:=zX0 hok hi hk;obtain ⟨i,rfl⟩:∃ n:Nat,i=(n:Int):=⟨i.toNat,by omega⟩
  obtain ⟨k,rfl⟩:∃ n:Nat,k=(n:Int):=⟨k.toNat,by omega⟩
  have hil:i<d.Pieces.length:=(by omega);have hkl:k<d.Pieces.length:=(by omega);have ei:=xDl hil;have ek:=xDl hkl;have hpi:=hp _ (xEo hil);have hpk:=hp _ (xEo hkl);have hm0:mgD d (i:Nat) (k:Nat)=fin d.Pieces (m0 d.Pieces[i] d.Pieces[k]):=(by unfold mgD;rw [zDx hil,zDx hkl]);have hE:=zX9 d ⟨idN,idN,true⟩ i k ⟨idN_ok,idN_ok⟩ hp hil hkl;have h00:=ySc hpi hpk;have hms:=ySb hpi hpk;have hmg:(m0 d.Pieces[i] d.Pieces[k]).g=true:=rfl;have hq:eqM ⟨idN,idN,true⟩ (gP d.Pieces (i:Nat)) (gP d.Pieces (k:Nat))=m0 d.Pieces[i] d.Pieces[k]:=(by rw [zDx hil,zDx hkl,hms];rfl);rw [hq] at hE;rw [zDx hil,zDx hkl] at hcf;generalize m0 d.Pieces[i] d.Pieces[k]=m at *;generalize mgD d (i:Nat) (k:Nat)=F at *;generalize eqB ⟨idN,idN,true⟩ (gP d.Pieces (i:Nat)) (gP d.Pieces (k:Nat))=eb at *;clear hq hms hi hk hpi hpk;generalize d.Pieces[i]=pi at *;generalize d.Pieces[k]=pk at *;rw [Design.td_d];refine zOn ?_;unfold code_spec_l24Merge;simp -implicitDefEqProofs (disch:=omega) only [go_sem,↓reduceIte ,zFe];refine zB5 (by simp -implicitDefEqProofs (disch:=omega) only [go_sem,↓reduceIte];exact rfl) (fun n:Nat=>[(25,.box none [.sl false 1 (d.Bottom.map rI),.sl false 1 (d.Left.map rI),.sl false 5 (d.Pieces.map (Piece.td.d false)),.sl true 1 ((zY9 n).map rI),.sl true 1 ((zY9 n).map rI)]),(9,.v (.int .i64 (n:Nat)))]) (fun _=>by simp only [zB0,zBe,xDv,xDz];exact rfl) (fun n:Nat=>n≤120) (fun n:Nat=>120-n) (0) (by rw [yYd,xEb];(try simp -implicitDefEqProofs only [zCz,zCy,zB6,zB8,zB9,zB7,and_self,and_true,true_and])<;>repeat' (first | exact zBr rfl | exact zCu | apply And.intro | apply zD3 | apply zBb | apply zBl | exact zB1 | exact zBs | apply zCv | apply zCw)) (?_) ?_
  · exact xE9 _
  intro n hn;simp -implicitDefEqProofs (disch:=omega) only [go_sem,↓reduceIte];refine zAu ?_ ?_<;>intro hlt
  · have hlt:n<120:=(by have:=of_decide_eq_true hlt;omega);have hs:=yGx n;have hl:=zUe n;simp -implicitDefEqProofs (disch:=omega) only [go_sem,↓reduceIte ,xDj,hl,wrN,zFd,zFc,zFb];refine ⟨by omega,by omega,n+1,by omega,hlt,?_⟩;rw [hs,yQ8];exact zEx
  · obtain rfl:n=120:=(by have:=of_decide_eq_false hlt;omega);rw [show zY9 120=idN from rfl];simp -implicitDefEqProofs (disch:=omega) only [go_sem,↓reduceIte ,xDj,xDo,xD3,xDp,xDm,xDk,hil,hkl,ei,ek,Piece.td_d,zFa];refine zAu ?_ ?_<;>intro hcc
    · have hne:pi.Color≠pk.Color:=(by have:decide (pi.Color=pk.Color)=false:=(by simpa using hcc);exact of_decide_eq_false this);rw [hcf hne];simp only [if_true];rw [Design.td_d];simp -implicitDefEqProofs (disch:=omega) only [go_sem,↓reduceIte ,zEt,xDw]
    · clear hcf hcc;simp -implicitDefEqProofs (disch:=omega) only [go_sem,↓reduceIte ,zEs];refine zCx (i:=0) (r:=25) (hE) rfl rfl (by simp -implicitDefEqProofs (disch:=omega) only [go_sem,↓reduceIte,deep,TD.rows,zAf,zAc,zAg,zAb,zAd,zAa];exact rfl) ?_;simp -implicitDefEqProofs (disch:=omega) only [go_sem,↓reduceIte];refine zB5 (by simp -implicitDefEqProofs (disch:=omega) only [go_sem,↓reduceIte];exact rfl) (fun st:MS=>[(25,.box none [.sl false 1 (d.Bottom.map rI),.sl false 1 (d.Left.map rI),.sl false 5 (d.Pieces.map (Piece.td.d false)),.sl true 1 ((st).R.map rI),.sl true 1 ((st).C.map rI)]),(10,.v (.bool st.g))]) (fun _=>by simp only [zB0,zBe,xDv,xDz];exact rfl) (fun st:MS=>yFt d.Pieces F st∧(st.g=false→clash F d.Pieces=false)) (fun st:MS=>(if st.g then mu st+1 else 0)) (m) (by rw [hmg];(try simp -implicitDefEqProofs only [zCz,zCy,zB6,zB8,zB9,zB7,and_self,and_true,true_and])<;>repeat' (first | exact zBr rfl | exact zCu | apply And.intro | apply zD3 | apply zBb | apply zBl | exact zB1 | exact zBs | apply zCv | apply zCw)) (?_) ?_
      · exact ⟨⟨h00,fun _=>hm0.symm,fun h=>by rw [hmg] at h;cases h⟩,fun h=>by rw [hmg] at h;cases h⟩
      rintro st ⟨hst,hsc⟩;simp -implicitDefEqProofs (disch:=omega) only [go_sem,↓reduceIte];refine zAu ?_ ?_<;>intro hg
      · simp -implicitDefEqProofs (disch:=omega) only [go_sem,↓reduceIte];generalize hs0:({ st with g:=false }:MS)=s0;have e0:s0.R=st.R∧s0.C=st.C∧s0.g=false:=by rw [← hs0];exact ⟨rfl,rfl,rfl⟩
        have ho0:OkM s0:=⟨by rw [e0.1];exact hst.1.R,by rw [e0.2.1];exact hst.1.C⟩
        have hps:pass d.Pieces st=zCo d.Pieces s0 d.Pieces.length:=(by unfold pass;rw [hs0]);refine zB5 (by simp -implicitDefEqProofs (disch:=omega) only [go_sem,↓reduceIte];exact rfl) (fun a:Nat=>[(25,.box none [.sl false 1 (d.Bottom.map rI),.sl false 1 (d.Left.map rI),.sl false 5 (d.Pieces.map (Piece.td.d false)),.sl true 1 ((zCo d.Pieces s0 a).R.map rI),.sl true 1 ((zCo d.Pieces s0 a).C.map rI)]),(10,.v (.bool (zCo d.Pieces s0 a).g)),(11,.v (.int .i64 (a:Nat)))]) (fun _=>by simp only [zB0,zBe,xDv,xDz];exact rfl) (fun a:Nat=>a≤d.Pieces.length∧((zCo d.Pieces s0 a).g=false→zCo d.Pieces s0 a=s0∧NoC s0 d.Pieces a 0)) (fun a:Nat=>d.Pieces.length-a) (0) (by rw [show zCo d.Pieces s0 0=s0 from rfl,e0.1,e0.2.1,e0.2.2];(try simp -implicitDefEqProofs only [zCz,zCy,zB6,zB8,zB9,zB7,and_self,and_true,true_and])<;>repeat' (first | exact zBr rfl | exact zCu | apply And.intro | apply zD3 | apply zBb | apply zBl | exact zB1 | exact zBs | apply zCv | apply zCw)) (?_) ?_
        · exact ⟨xE9 _,fun _=>⟨rfl,xBc _ _⟩⟩
        rintro a ⟨ha,haJ⟩;simp -implicitDefEqProofs (disch:=omega) only [go_sem,↓reduceIte ,xDj,xDo,xD3,xDp,xDm,xDk,zEr];refine zAu ?_ ?_<;>intro hlt
        · have hlt:a<d.Pieces.length:=(by simpa using hlt);have ea:=xDl hlt;have hpa:=hp _ (xEo hlt);have hga:=zDx hlt;have ho1:OkM (zCo d.Pieces s0 a):=(zGi hp s0 a (by omega)).ok ho0;have hnx:=zGb d.Pieces s0 a;have hrg:=fun j hj=>(zH0 hp hlt (zCo d.Pieces s0 a) j hj).ok ho1;have hrn:∀ j (hj:j<d.Pieces.length),zMu d.Pieces a (zCo d.Pieces s0 a) (j+1)=_:=fun j hj=>zG6 (i:=a) (st:=zCo d.Pieces s0 a) hj;have hmid:=fun j (hj:j<a)=>yHp hp ho0 hps e0.1 e0.2.1 hlt hj;rw [hst.2.1 hg] at hmid;simp -implicitDefEqProofs (disch:=omega) only [go_sem,↓reduceIte];refine zB5 (by simp -implicitDefEqProofs (disch:=omega) only [go_sem,↓reduceIte];exact rfl) (fun b:Nat=>[(25,.box none [.sl false 1 (d.Bottom.map rI),.sl false 1 (d.Left.map rI),.sl false 5 (d.Pieces.map (Piece.td.d false)),.sl true 1 ((zMu d.Pieces a (zCo d.Pieces s0 a) b).R.map rI),.sl true 1 ((zMu d.Pieces a (zCo d.Pieces s0 a) b).C.map rI)]),(10,.v (.bool (zMu d.Pieces a (zCo d.Pieces s0 a) b).g)),(12,.v (.int .i64 (b:Nat)))]) (fun _=>by simp only [zB0,zBe,xDv,xDz];exact rfl) (fun b:Nat=>b≤a∧((zMu d.Pieces a (zCo d.Pieces s0 a) b).g=false→zMu d.Pieces a (zCo d.Pieces s0 a) b=s0∧NoC s0 d.Pieces a b)) (fun b:Nat=>a-b) (0) (by rw [show zMu d.Pieces a (zCo d.Pieces s0 a) 0=zCo d.Pieces s0 a from rfl];(try simp -implicitDefEqProofs only [zCz,zCy,zB6,zB8,zB9,zB7,and_self,and_true,true_and])<;>repeat' (first | exact zBr rfl | exact zCu | apply And.intro | apply zD3 | apply zBb | apply zBl | exact zB1 | exact zBs | apply zCv | apply zCw)) (?_) ?_
          · exact ⟨xE9 _,haJ⟩
          rintro b ⟨hb,hbJ⟩;simp -implicitDefEqProofs (disch:=omega) only [go_sem,↓reduceIte ,zEq];refine zAu ?_ ?_<;>intro hlb
          · have hlb:b<a:=(by have:=of_decide_eq_true hlb;omega);have hbl:b<d.Pieces.length:=(by omega);have eb2:=xDl hbl;have hpb:=hp _ (xEo hbl);have hgb:=zDx hbl;have ho2:=hrg b (by omega);have hn2:=hrn b hbl;have hmd:=hmid b hlb;have hE2:=zX9 d (zMu d.Pieces a (zCo d.Pieces s0 a) b) a b ho2 hp hlt hbl;clear hmid hrn hrg;generalize zMu d.Pieces a (zCo d.Pieces s0 a) b=s2 at *;have hnc:=fun (h:NoC s0 d.Pieces a b)=>yLl h;rw [hga,hgb] at hnc hmd hE2;rw [hga] at hn2;generalize d.Pieces[a]=pa at *;generalize d.Pieces[b]=pb at *;have lR:=ho2.R.len;have lC:=ho2.C.len;have r1:=yIh ho2.R hpa.S;have r2:=yIh ho2.R hpb.S;have r3:=yIh ho2.C hpa.W;have r4:=yIh ho2.C hpb.W;have b1:=zSa hpa.S;have b2:=zSa hpb.S;have b3:=zSa hpa.W;have b4:=zSa hpb.W;have hib:inB s2 pa pb=(decide (gN s2.R pa.South=gN s2.R pb.South)&&decide (gN s2.C pa.West=gN s2.C pb.West)):=rfl;cases q1:decide (gN s2.R pa.South=gN s2.R pb.South) with
            | false =>
              rw [q1,xE0] at hib;simp -implicitDefEqProofs (disch:=omega) only [go_sem,↓reduceIte ,xDj,xDo,xD3,xDp,xDm,xDk,hlt,hbl,ea,eb2,Piece.td_d,zCh,zCg];simp (maxSteps:=4000000) -implicitDefEqProofs (disch:=omega) only [go_sem,↓reduceIte ,xDj,xDo,xD3,xDp,xDm,xDk,lR,lC,r1,r2,b1.1,b1.2,b2.1,b2.2,q1,xD5,rI,zCf,zBn,wrN];refine ⟨b+1,by omega,⟨by omega,?_⟩,?_⟩
              · rw [hn2,show zF8 pa s2 pb=s2 by unfold zF8;rw [hib];rfl];refine fun h=>⟨(hbJ h).1,hnc (hbJ h).2 (fun h2=>?_)⟩
                rw [← (hbJ h).1,hib] at h2;cases h2
              · rw [hn2,show zF8 pa s2 pb=s2 by unfold zF8;rw [hib];rfl];exact zEx
            | true =>
            cases q2:decide (gN s2.C pa.West=gN s2.C pb.West) with
            | false =>
              rw [q1,q2,xEy] at hib;simp -implicitDefEqProofs (disch:=omega) only [go_sem,↓reduceIte ,xDj,xDo,xD3,xDp,xDm,xDk,hlt,hbl,ea,eb2,Piece.td_d,zCh,zCg];simp (maxSteps:=4000000) -implicitDefEqProofs (disch:=omega) only [go_sem,↓reduceIte ,xDj,xDo,xD3,xDp,xDm,xDk,lR,lC,r1,r2,r3,r4,b1.1,b1.2,b2.1,b2.2,b3.1,b3.2,b4.1,b4.2,q1,q2,xD5,xDw,rI,zCf,zBn,wrN];refine ⟨b+1,by omega,⟨by omega,?_⟩,?_⟩
              · rw [hn2,show zF8 pa s2 pb=s2 by unfold zF8;rw [hib];rfl];refine fun h=>⟨(hbJ h).1,hnc (hbJ h).2 (fun h2=>?_)⟩
                rw [← (hbJ h).1,hib] at h2;cases h2
              · rw [hn2,show zF8 pa s2 pb=s2 by unfold zF8;rw [hib];rfl];exact zEx
            | true =>
            rw [q1,q2,xEy] at hib;cases q3:decide (pa.Color=pb.Color) with
            | false=>have hcf:=hmd hib (of_decide_eq_false q3);rw [hcf];simp only [if_true];rw [Design.td_d];simp -implicitDefEqProofs (disch:=omega) only [go_sem,↓reduceIte ,xDj,xDo,xD3,xDp,xDm,xDk,hlt,hbl,ea,eb2,Piece.td_d,zCh,zCg];simp (maxSteps:=4000000) -implicitDefEqProofs (disch:=omega) only [go_sem,↓reduceIte ,xDj,xDo,xD3,xDp,xDm,xDk,lR,lC,r1,r2,r3,r4,b1.1,b1.2,b2.1,b2.2,b3.1,b3.2,b4.1,b4.2,q1,q2,xD5,xDw,rI,zCf];simp -implicitDefEqProofs (disch:=omega) only [go_sem,↓reduceIte ,q3,xD5,xDw,zDn,zEp]
            | true =>
            have hcc:=of_decide_eq_true q3;have hsi:=yPz ho2 hpa hpb hib;have hem:=(yOw ho2 hpa hpb hib).2;rw [hsi] at hn2;simp -implicitDefEqProofs (disch:=omega) only [go_sem,↓reduceIte ,xDj,xDo,xD3,xDp,xDm,xDk,hlt,hbl,ea,eb2,Piece.td_d,zCh,zCg];simp (maxSteps:=4000000) -implicitDefEqProofs (disch:=omega) only [go_sem,↓reduceIte ,xDj,xDo,xD3,xDp,xDm,xDk,lR,lC,r1,r2,r3,r4,b1.1,b1.2,b2.1,b2.2,b3.1,b3.2,b4.1,b4.2,q1,q2,xD5,xDw,rI,zCf];simp -implicitDefEqProofs (disch:=omega) only [go_sem,↓reduceIte ,q3,xD5,xDw,zDn,zEo];cases hd:eqB s2 pa pb with
            | false =>
              rw [hd] at hE2 hn2 hem hsi;rw [xFh] at hn2 hsi;refine zCx (i:=0) (r:=25) (hE2) rfl rfl (by simp -implicitDefEqProofs (disch:=omega) only [go_sem,↓reduceIte,deep,TD.rows,zAf,zAc,zAg,zAb,zAd,zAa,zBn,wrN];exact rfl) ?_;simp -implicitDefEqProofs (disch:=omega) only [go_sem,↓reduceIte ,zBn,wrN];have hss:zF8 pa s2 pb=s2:=yDh hem.symm;rw [hss] at hsi;refine ⟨b+1,by omega,⟨by omega,?_⟩,?_⟩
              · rw [hn2,← hsi];exact fun h=>⟨(hbJ h).1,hnc (hbJ h).2 (fun _=>hcc)⟩
              · rw [hn2];exact zEx
            | true =>
              rw [hd] at hE2 hn2;rw [xFi] at hn2;refine zCx (i:=0) (r:=25) (hE2) rfl rfl (by simp -implicitDefEqProofs (disch:=omega) only [go_sem,↓reduceIte,deep,TD.rows,zAf,zAc,zAg,zAb,zAd,zAa,zBn,wrN];exact rfl) ?_;simp -implicitDefEqProofs (disch:=omega) only [go_sem,↓reduceIte ,zBn,wrN];refine ⟨b+1,by omega,⟨by omega,?_⟩,?_⟩
              · rw [hn2];exact fun h=>by cases h
              · rw [hn2];exact zEx
          · obtain rfl:b=a:=(by have:=of_decide_eq_false hlb;omega);simp -implicitDefEqProofs (disch:=omega) only [go_sem,↓reduceIte ,zEn,wrN];refine ⟨b+1,by omega,⟨hlt,?_⟩,?_⟩
            · rw [hnx];exact fun h=>⟨(hbJ h).1,yRl (hbJ h).2⟩
            · rw [hnx];exact zEx
        · obtain rfl:a=d.Pieces.length:=(by have:¬ a<d.Pieces.length:=(by simpa using hlt);omega);have hnext:=zYz hp hst hg;rw [hps] at hnext;simp -implicitDefEqProofs (disch:=omega) only [go_sem,↓reduceIte];refine ⟨zCo d.Pieces s0 d.Pieces.length,?_,⟨hnext,fun h=>?_⟩,zEx⟩
          · rw [if_pos hg,← hps];rcases (zFl hp hst.1).2 with e | ⟨_,e⟩
            · rw [e];exact Nat.succ_pos _
            · split<;>omega
          · rw [← hnext.2.2 h,(haJ h).1];exact yRm (haJ h).2
      · have hsF:st=F:=hst.2.2 hg;have hoF:=hst.1;have hcl:=hsc hg;clear hst hsc;subst hsF;obtain ⟨dB,dL⟩:=(zA8 hok).2.2.2.2.2;have dBl:=(zA8 hok).1.2;have dLl:=(zA8 hok).2.1.2;have lR:=hoF.R.len;have lC:=hoF.C.len;rw [hcl];simp only [xDr,if_false];rw [Design.td_d];unfold zFw;simp -implicitDefEqProofs (disch:=omega) only [go_sem,↓reduceIte ,zEm];refine zB5 (by simp -implicitDefEqProofs (disch:=omega) only [go_sem,↓reduceIte];exact rfl) (fun n:Nat=>[(15,.box none [.sl true 1 (((d.Bottom.take n).map (gN st.R)).map rI),.nils,.nils]),(16,.v (.int .i64 (n:Nat)))]) (fun _=>by simp only [zB0,zBe,xDv,xDz];exact rfl) (fun n:Nat=>n≤d.Bottom.length) (fun n:Nat=>d.Bottom.length-n) (0) (zEx) (?_) ?_
        · exact xE9 _
        intro n hn;simp -implicitDefEqProofs (disch:=omega) only [go_sem,↓reduceIte ,xDj,xDo,xD3,xDp,xDm,xDk,zEl];refine zAu ?_ ?_<;>intro hlt
        · have hlt:n<d.Bottom.length:=(by simpa using hlt);have en:=xDl hlt;have hin:=dB _ (xEo hlt);have hin:inG d.Bottom[n]:=hin;have r1:=yIh hoF.R hin;have b1:=zSa hin;have hnx:=zOd hlt;simp (maxSteps:=4000000) -implicitDefEqProofs (disch:=omega) only [go_sem,↓reduceIte ,xDj,xDo,xD3,xDp,xDm,xDk,hlt,en,rI,lR,r1,b1.1,b1.2,xFy,xDj,wrN,zEk,zEj];refine ⟨by omega,n+1,by omega,hlt,?_⟩;rw [hnx]
          try simp only [xEz,xDu,xEb,rI]
          exact zEx
        · obtain rfl:n=d.Bottom.length:=(by have:¬ n<d.Bottom.length:=(by simpa using hlt);omega);simp -implicitDefEqProofs (disch:=omega) only [go_sem,↓reduceIte ,xF8];refine zB5 (by simp -implicitDefEqProofs (disch:=omega) only [go_sem,↓reduceIte];exact rfl) (fun n:Nat=>[(15,.box none [.sl true 1 ((d.Bottom.map (gN st.R)).map rI),.sl true 1 (((d.Left.take n).map (gN st.C)).map rI),.nils]),(17,.v (.int .i64 (n:Nat)))]) (fun _=>by simp only [zB0,zBe,xDv,xDz];exact rfl) (fun n:Nat=>n≤d.Left.length) (fun n:Nat=>d.Left.length-n) (0) (zEx) (?_) ?_
          · exact xE9 _
          intro n hn;simp -implicitDefEqProofs (disch:=omega) only [go_sem,↓reduceIte ,xDj,xDo,xD3,xDp,xDm,xDk,zEi];refine zAu ?_ ?_<;>intro hlt
          · have hlt:n<d.Left.length:=(by simpa using hlt);have en:=xDl hlt;have hin:=dL _ (xEo hlt);have hin:inG d.Left[n]:=hin;have r1:=yIh hoF.C hin;have b1:=zSa hin;have hnx:=zOd hlt;simp (maxSteps:=4000000) -implicitDefEqProofs (disch:=omega) only [go_sem,↓reduceIte ,xDj,xDo,xD3,xDp,xDm,xDk,hlt,en,rI,lC,r1,b1.1,b1.2,xFy,xDj,wrN,zEh,zEg];refine ⟨by omega,n+1,by omega,hlt,?_⟩;rw [hnx]
            try simp only [xEz,xDu,xEb,rI]
            exact zEx
          · obtain rfl:n=d.Left.length:=(by have:¬ n<d.Left.length:=(by simpa using hlt);omega);simp -implicitDefEqProofs (disch:=omega) only [go_sem,↓reduceIte ,xF8];refine zB5 (by simp -implicitDefEqProofs (disch:=omega) only [go_sem,↓reduceIte];exact rfl) (fun n:Nat=>[(15,.box none [.sl true 1 ((d.Bottom.map (gN st.R)).map rI),.sl true 1 ((d.Left.map (gN st.C)).map rI),.sl true 5 ((zKc st d.Pieces n).map (Piece.td.d true))]),(18,.v (.int .i64 (n:Nat)))]) (fun _=>by simp only [zB0,zBe,xDv,xDz];exact rfl) (fun n:Nat=>n≤d.Pieces.length) (fun n:Nat=>d.Pieces.length-n) (0) (zEx) (?_) ?_
            · exact xE9 _
            intro n hn;simp -implicitDefEqProofs (disch:=omega) only [go_sem,↓reduceIte ,xDj,xDo,xD3,xDp,xDm,xDk,zEf];refine zAu ?_ ?_<;>intro hlt
            · have hlt:n<d.Pieces.length:=(by simpa using hlt);have en:=xDl hlt;have hpn:=hp _ (xEo hlt);have r1:=yIh hoF.R hpn.N;have r2:=yIh hoF.C hpn.E;have r3:=yIh hoF.R hpn.S;have r4:=yIh hoF.C hpn.W;have b1:=zSa hpn.N;have b2:=zSa hpn.E;have b3:=zSa hpn.S;have b4:=zSa hpn.W;have hnx:=zQ4 (st:=st) hlt;have hln:=zYw st d.Pieces n;generalize d.Pieces[n]=pn at *;simp -implicitDefEqProofs (disch:=omega) only [go_sem,↓reduceIte ,xDj,xDo,xD3,xDp,xDm,xDk,hlt,en,Piece.td_d,zEe];simp (maxSteps:=4000000) -implicitDefEqProofs (disch:=omega) only [go_sem,↓reduceIte ,xDj,xDo,xD3,xDp,xDm,xDk,lR,lC,r1,r2,r3,r4,b1.1,b1.2,b2.1,b2.2,b3.1,b3.2,b4.1,b4.2,rI,zEd,zEc];have hF:=yIp ⟨d.Bottom.map (gN st.R),d.Left.map (gN st.C),zKc st d.Pieces n⟩ (gN st.R pn.South) (gN st.C pn.West) (by show (zKc st d.Pieces n).length≤1048576;omega);rw [Design.td_d] at hF;simp only at hF;rcases zJr (zKc st d.Pieces n) (gN st.R pn.South) (gN st.C pn.West) with ⟨hf,hall⟩ | ⟨j,hj,hf,hkk⟩
              · have hadd:zN9 (zKc st d.Pieces n) (zF3 st pn)=zKc st d.Pieces n++[zF3 st pn]:=(by unfold zN9;rw [if_neg];intro hm;obtain ⟨y,hy,e⟩:=xEg.1 hm;exact hall y hy e);rw [hf] at hF;refine zAs (hF) (by simp -implicitDefEqProofs (disch:=omega) only [go_sem,↓reduceIte,deep,TD.rows,zAf,zAc,zAg,zAb,zAd,zAa,xDj,xDo,xD3,xDp,xDm,xDk,Int.reduceLT,Int.reduceNeg,decide_true,xDj,wrN,zDm,zCe];exact rfl) ?_;simp -implicitDefEqProofs (disch:=omega) only [go_sem,↓reduceIte ,xDj,xDo,xD3,xDp,xDm,xDk,Int.reduceLT,Int.reduceNeg,decide_true,xDj,wrN,zDm,zCe];refine ⟨by omega,n+1,by omega,hlt,?_⟩;rw [hnx,hadd]
                try simp only [xEz,xDu,xEb,Piece.td_d]
                exact zEx
              · have hadd:zN9 (zKc st d.Pieces n) (zF3 st pn)=zKc st d.Pieces n:=(by unfold zN9;rw [if_pos];exact xEg.2 ⟨_,xEo hj,hkk⟩);have hj0:decide ((j:Int)<0)=false:=decide_eq_false (by omega);rw [hf] at hF;refine zAs (hF) (by simp -implicitDefEqProofs (disch:=omega) only [go_sem,↓reduceIte,deep,TD.rows,zAf,zAc,zAg,zAb,zAd,zAa,xDj,xDo,xD3,xDp,xDm,xDk,hj0,wrN,zCe];exact rfl) ?_;simp -implicitDefEqProofs (disch:=omega) only [go_sem,↓reduceIte ,xDj,xDo,xD3,xDp,xDm,xDk,hj0,wrN,zCe];refine ⟨n+1,by omega,hlt,?_⟩;rw [hnx,hadd];exact zEx
            · obtain rfl:n=d.Pieces.length:=(by have:¬ n<d.Pieces.length:=(by simpa using hlt);omega);rw [zYx];simp -implicitDefEqProofs (disch:=omega) only [go_sem,↓reduceIte ,zEb,xD5]
def code_spec_MergePieces:VCode:=(.seq (.ops [
  ⟨some 3,none,.box (.tmp 0)⟩,
  ⟨some 6,none,.alloc [(.slice none 0 0),(.slice none 0 0),(.slice none 0 0)]⟩,
  ⟨some 7,none,.asg (.const (.int .i64 0))⟩]) (.seq (.seq (.ops [
  ⟨some 11,none,.callX 57 [(.tmp 3)]⟩,
  ⟨some 12,none,.un .not (.tmp 11)⟩]) (.cond (.tmp 12) (.seq (.ops [
  ⟨some 13,none,.build [(.slice none 0 0),(.slice none 0 0),(.slice none 0 0)] []⟩,
  ⟨none,none,.store 3 (.tmp 6) (.tmp 13)⟩,
  ⟨some 7,none,.asg (.const (.int .i64 1))⟩]) .ret) .skip)) (.seq (.ops [
  ⟨some 14,none,.fa 2 (.tmp 3)⟩,
  ⟨some 15,none,.load 1 false (.tmp 14)⟩,
  ⟨some 16,none,.len (.tmp 15)⟩,
  ⟨some 17,none,.bin .sub (.tmp 16) (.const (.int .i64 1))⟩,
  ⟨some 8,none,.asg (.tmp 17)⟩]) (.seq (.seq (.ops [
  ⟨some 18,none,.mv (.tmp 1)⟩,
  ⟨some 19,none,.mv (.tmp 8)⟩,
  ⟨some 20,none,.callX 45 [(.tmp 18),(.const (.int .i64 0)),(.tmp 19)]⟩,
  ⟨some 21,none,.un .not (.tmp 20)⟩,
  ⟨some 22,none,.mv (.tmp 21)⟩,
  ⟨some 23,some (22,false),.mv (.tmp 2)⟩,
  ⟨some 24,some (22,false),.mv (.tmp 8)⟩,
  ⟨some 25,some (22,false),.callX 45 [(.tmp 23),(.const (.int .i64 0)),(.tmp 24)]⟩,
  ⟨some 26,some (22,false),.un .not (.tmp 25)⟩,
  ⟨some 27,none,.pick (.tmp 22) (.const (.bool true)) (.tmp 26)⟩,
  ⟨some 28,none,.mv (.tmp 27)⟩,
  ⟨some 29,some (28,false),.mv (.tmp 1)⟩,
  ⟨some 30,some (28,false),.mv (.tmp 2)⟩,
  ⟨some 31,some (28,false),.bin .eql (.tmp 29) (.tmp 30)⟩,
  ⟨some 32,none,.pick (.tmp 28) (.const (.bool true)) (.tmp 31)⟩]) (.cond (.tmp 32) (.seq (.ops [
  ⟨some 33,none,.build [(.slice none 0 0),(.slice none 0 0),(.slice none 0 0)] []⟩,
  ⟨none,none,.store 3 (.tmp 6) (.tmp 33)⟩,
  ⟨some 7,none,.asg (.const (.int .i64 2))⟩]) .ret) .skip)) (.seq (.ops [
  ⟨some 35,none,.mv (.tmp 1)⟩,
  ⟨some 36,none,.mv (.tmp 2)⟩,
  ⟨some 37,none,.callX 58 [(.tmp 3),(.tmp 35),(.tmp 36)]⟩,
  ⟨some 34,none,.mv (.tmp 37)⟩,
  ⟨some 38,none,.ext (.tmp 34) 0⟩,
  ⟨some 39,none,.ext (.tmp 34) 1⟩,
  ⟨some 9,none,.alloc [(.slice none 0 0),(.slice none 0 0),(.slice none 0 0)]⟩,
  ⟨none,none,.store 3 (.tmp 9) (.tmp 38)⟩,
  ⟨some 10,none,.asg (.tmp 39)⟩]) (.seq (.seq (.ops [
  ⟨some 40,none,.mv (.tmp 10)⟩,
  ⟨some 41,none,.un .not (.tmp 40)⟩]) (.cond (.tmp 41) (.seq (.ops [
  ⟨some 42,none,.build [(.slice none 0 0),(.slice none 0 0),(.slice none 0 0)] []⟩,
  ⟨none,none,.store 3 (.tmp 6) (.tmp 42)⟩,
  ⟨some 7,none,.asg (.const (.int .i64 7))⟩]) .ret) .skip)) (.seq (.ops [
  ⟨some 43,none,.load 3 true (.tmp 9)⟩,
  ⟨none,none,.store 3 (.tmp 6) (.tmp 43)⟩,
  ⟨some 7,none,.asg (.const (.int .i64 0))⟩]) .ret)))))))
theorem zJz {a0 a1 a2 d:D}(h:code_spec_MergePieces.wp (CT Try.prog NoG) (zG3 [(.c 6 3 true),(.t 7)] d) [a0,a1,a2,.undef,.undef,.undef,.undef,.undef,.undef,.undef,.undef,.undef,.undef,.undef,.undef,.undef,.undef,.undef,.undef,.undef,.undef,.undef,.undef,.undef,.undef,.undef,.undef,.undef,.undef,.undef,.undef,.undef,.undef,.undef,.undef,.undef,.undef,.undef,.undef,.undef,.undef,.undef,.undef,.undef]):Contract Try.prog NoG 23 [a0,a1,a2] d :=
  zAt (pt:=0) noG Try.func23 (fun us W=>by kernel_rfl) (c:=Try.f23.body.getD .skip) (ms:=[]) (ms':=[]) (by kernel_rfl) (by kernel_rfl) (by kernel_rfl) h
set_option maxHeartbeats 4000000 in
theorem zMn (d:Design)(i k:Int)(hd:dsnB d):Contract Try.prog NoG 23 [.agg (Design.td.d false d),.v (.int .i64 i),.v (.int .i64 k)] (.tup [.agg (Design.td.d true (zAx d i k)),.v (.int .i64 (zBf d i k))]):=by
  have hV:=zWr d hd;have hp:=hd.p;have w1:IntKind.i64.wrap ((d.Pieces.length:Int)-1)=(d.Pieces.length:Int)-1:=wrI (by omega) (by omega);have hX1:=zD7 i 0 ((d.Pieces.length:Int)-1);have hX2:=zD7 k 0 ((d.Pieces.length:Int)-1);unfold zAx zBf yXw;rw [Design.td_d] at hV;refine (show Contract _ _ _ [.agg [.sl false 1 (d.Bottom.map rI),.sl false 1 (d.Left.map rI),.sl false 5 (d.Pieces.map (Piece.td.d false))],_,_] _ from ?_);refine zJz ?_;unfold code_spec_MergePieces;simp -implicitDefEqProofs (disch:=omega) only [go_sem,↓reduceIte];cases h0:zC2 d with
  | false=>rw [h0] at hV;simp only [xDr,if_false,Int.reduceEq,Design.td_d,xEb];refine zAs (hV) (by simp -implicitDefEqProofs (disch:=omega) only [go_sem,↓reduceIte,deep,TD.rows,zAf,zAc,zAg,zAb,zAd,zAa,xD5];exact rfl) ?_;simp -implicitDefEqProofs (disch:=omega) only [go_sem,↓reduceIte ,xD5]
  | true =>
    rw [h0] at hV;simp only [if_true];refine zAs (hV) (by simp -implicitDefEqProofs (disch:=omega) only [go_sem,↓reduceIte,deep,TD.rows,zAf,zAc,zAg,zAb,zAd,zAa,xDw,xDj,w1];exact rfl) ?_;simp -implicitDefEqProofs (disch:=omega) only [go_sem,↓reduceIte ,xDw,xDj,w1];cases h1:inR 0 (d.Pieces.length-1:Int) i with
    | false=>rw [h1] at hX1;simp only [xE0,xDr,if_false,Int.reduceEq,Design.td_d,xEb];refine zAs (hX1) (by simp -implicitDefEqProofs (disch:=omega) only [go_sem,↓reduceIte,deep,TD.rows,zAf,zAc,zAg,zAb,zAd,zAa,xD5];exact rfl) ?_;simp -implicitDefEqProofs (disch:=omega) only [go_sem,↓reduceIte ,xD5]
    | true =>
    rw [h1] at hX1;cases h2:inR 0 (d.Pieces.length-1:Int) k with
    | false=>rw [h2] at hX2;simp only [xEy,xE0,xDr,if_false,Int.reduceEq,Design.td_d,xEb];refine zAs (hX1) (by simp -implicitDefEqProofs (disch:=omega) only [go_sem,↓reduceIte,deep,TD.rows,zAf,zAc,zAg,zAb,zAd,zAa,xDw,xDj];exact rfl) ?_;simp -implicitDefEqProofs (disch:=omega) only [go_sem,↓reduceIte ,xDw,xDj];refine zAs (hX2) (by simp -implicitDefEqProofs (disch:=omega) only [go_sem,↓reduceIte,deep,TD.rows,zAf,zAc,zAg,zAb,zAd,zAa,xD5];exact rfl) ?_;simp -implicitDefEqProofs (disch:=omega) only [go_sem,↓reduceIte ,xD5]
    | true =>
    rw [h2] at hX2;cases h3:decide (i=k) with
    | true=>simp only [xEy,xDw,xDr,if_false,Int.reduceEq,Design.td_d,xEb];refine zAs (hX1) (by simp -implicitDefEqProofs (disch:=omega) only [go_sem,↓reduceIte,deep,TD.rows,zAf,zAc,zAg,zAb,zAd,zAa,xDw,xDj];exact rfl) ?_;simp -implicitDefEqProofs (disch:=omega) only [go_sem,↓reduceIte ,xDw,xDj];refine zAs (hX2) (by simp -implicitDefEqProofs (disch:=omega) only [go_sem,↓reduceIte,deep,TD.rows,zAf,zAc,zAg,zAb,zAd,zAa,xDw,h3];exact rfl) ?_;simp -implicitDefEqProofs (disch:=omega) only [go_sem,↓reduceIte ,xDw,h3]
    | false =>
    have hi:0≤i∧i<d.Pieces.length:=(by have:=inR_iff.1 h1;omega);have hk:0≤k∧k<d.Pieces.length:=(by have:=inR_iff.1 h2;omega);have hM:=zSe d i k h0 hi hk;rw [Design.td_d] at hM;simp only [xEy,xD5,if_true];cases h4:clash (mgD d i k) d.Pieces with
    | true=>rw [h4] at hM;simp only [if_true,Int.reduceEq,if_false,Design.td_d,xEb] at hM ⊢;refine zAs (hX1) (by simp -implicitDefEqProofs (disch:=omega) only [go_sem,↓reduceIte,deep,TD.rows,zAf,zAc,zAg,zAb,zAd,zAa,xDw,xDj];exact rfl) ?_;simp -implicitDefEqProofs (disch:=omega) only [go_sem,↓reduceIte ,xDw,xDj];refine zAs (hX2) (by simp -implicitDefEqProofs (disch:=omega) only [go_sem,↓reduceIte,deep,TD.rows,zAf,zAc,zAg,zAb,zAd,zAa,xDw,h3];exact rfl) ?_;simp -implicitDefEqProofs (disch:=omega) only [go_sem,↓reduceIte ,xDw,h3];refine zAs (hM) (by simp -implicitDefEqProofs (disch:=omega) only [go_sem,↓reduceIte,deep,TD.rows,zAf,zAc,zAg,zAb,zAd,zAa,xDw,xD5];exact rfl) ?_;simp -implicitDefEqProofs (disch:=omega) only [go_sem,↓reduceIte ,xDw,xD5]
    | false=>rw [h4] at hM;simp only [xDr,if_true,if_false,Design.td_d] at hM ⊢;refine zAs (hX1) (by simp -implicitDefEqProofs (disch:=omega) only [go_sem,↓reduceIte,deep,TD.rows,zAf,zAc,zAg,zAb,zAd,zAa,xDw,xDj];exact rfl) ?_;simp -implicitDefEqProofs (disch:=omega) only [go_sem,↓reduceIte ,xDw,xDj];refine zAs (hX2) (by simp -implicitDefEqProofs (disch:=omega) only [go_sem,↓reduceIte,deep,TD.rows,zAf,zAc,zAg,zAb,zAd,zAa,xDw,h3];exact rfl) ?_;simp -implicitDefEqProofs (disch:=omega) only [go_sem,↓reduceIte ,xDw,h3];refine zAs (hM) (by simp -implicitDefEqProofs (disch:=omega) only [go_sem,↓reduceIte,deep,TD.rows,zAf,zAc,zAg,zAb,zAd,zAa,xDw,xD5];exact rfl) ?_;simp -implicitDefEqProofs (disch:=omega) only [go_sem,↓reduceIte ,xDw,xD5]
end Go.Proofs.Ytaleehohmpohoaa
