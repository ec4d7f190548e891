/- Laws that the proof stands on. -/
import Derived.Test.YtaleehohmpohoaaZVMgR
import Derived.Test.YtaleehohmpohoaaZg30
import Derived.Test.YtaleehohmpohoaaZg23
import Derived.Test.YtaleehohmpohoaaZg13
set_option linter.all false
namespace Go.Proofs.Ytaleehohmpohoaa
open Go.RowKit Go.V
attribute [local go_sem] xBh xBb xBc xA8 xA6 xBl xBk xBy xBm xC7 xBt xCi xBn xCl xB6 xCg xBi xBp xBw xCn Value.oneCell' xCp xCu xCv xC0 xC1 xBr xB7 and_true true_and beq_self_eq_true xBa if_true if_false xB2 Nat.reduceAdd Nat.reduceMul Nat.reduceLeDiff xBj xB5 xB0 not_true_eq_false not_false_eq_true ne_eq reduceCtorEq xCf bne_self_eq_false Nat.reduceEqDiff List.isPrefixOf xB9 xCm xCq xC5 xCx decide_true decide_false Nat.reduceBEq Nat.reduceBNe xBv xBz exists_eq_left' exists_eq_left xAv or_false or_true true_or false_or xAx xCk mB Nat.reduceMod Nat.reduceDiv
set_option maxRecDepth 100000
theorem yJp {N:List Int}(h:OkN N){x:Int}(hx:inG x):N[x.toNat]?=some (gN N x):=by have:=(h.at hx).2.2;unfold gN;rw [xA3,xA1 this];rfl
theorem zT4 {x:Int}(hx:inG x):0≤x∧x<((120:Nat):Int):=by unfold inG at hx;omega
theorem yWm:zHm 0=[]:=rfl
theorem yQ3 (xs:List Int)(x:Int):(xs++[x]).map rI=xs.map rI++[[.v (.int .i64 x)]]:=by rw [xBo];rfl
set_option maxHeartbeats 8000000 in
theorem yCn (d:Design) (i k:Int) (hok:zC1 d=true) (hi:0≤i∧i<d.Pieces.length) (hk:0≤k∧k<d.Pieces.length):Contract Try.prog NoG 58 [.iptr (Design.td.d false d) 0,.v (.int .i64 i),.v (.int .i64 k)] (.tup [.agg (Design.td.d true (if clash (mgD d i k) d.Pieces then ⟨[],[],[]⟩ else zZf d (mgD d i k))),.v (.bool (!clash (mgD d i k) d.Pieces))]):=by
  have hp:∀ p,p∈d.Pieces→InP p:=fun p h=>yIh ((zA1 hok).2.2.2.1 p h);have hpl:=(zA1 hok).2.2.1;have hcf:=zZw hok hi hk;obtain ⟨i,rfl⟩:∃ n:Nat,i=(n:Int):=⟨i.toNat,by omega⟩
  obtain ⟨k,rfl⟩:∃ n:Nat,k=(n:Int):=⟨k.toNat,by omega⟩
  have hil:i<d.Pieces.length:=qAc;have hkl:k<d.Pieces.length:=qAc;have ei:=xA1 hil;have ek:=xA1 hkl;have hpi:=hp _ (xB3 hil);have hpk:=hp _ (xB3 hkl);have hm0:mgD d (i:Nat) (k:Nat)=fin d.Pieces (m0 d.Pieces[i] d.Pieces[k]):=(by unfold mgD;rw [zKq hil,zKq hkl]);have hE:=zZ2 d ⟨idN,idN,true⟩ i k ⟨idN_ok,idN_ok⟩ hp hil hkl;have h00:=yWa hpi hpk;have hms:=yRv hpi hpk;have hmg:(m0 d.Pieces[i] d.Pieces[k]).g=true:=rfl;have hq:eqM ⟨idN,idN,true⟩ (gP d.Pieces (i:Nat)) (gP d.Pieces (k:Nat))=m0 d.Pieces[i] d.Pieces[k]:=(by rw [zKq hil,zKq hkl,hms];rfl);rw [hq] at hE;rw [zKq hil,zKq hkl] at hcf;generalize m0 d.Pieces[i] d.Pieces[k]=m at *;generalize mgD d (i:Nat) (k:Nat)=F at *;generalize eqB ⟨idN,idN,true⟩ (gP d.Pieces (i:Nat)) (gP d.Pieces (k:Nat))=eb at *;clear hq hms hi hk hpi hpk;generalize d.Pieces[i]=pi at *;generalize d.Pieces[k]=pk at *;rw [Design.td_d];refine zQb ?_;unfold code_spec_l24Merge;simp -implicitDefEqProofs (disch:=omega) only [go_sem,↓reduceIte ,zFq];refine zBv qAd (fun n:Nat=>[(25,.box none [.sl false 1 (d.Bottom.map rI),.sl false 1 (d.Left.map rI),.sl false 5 (d.Pieces.map (Piece.td.d false)),.sl true 1 ((zHm n).map rI),.sl true 1 ((zHm n).map rI)]),(9,.v (.int .i64 (n:Nat)))]) (fun _=>by simp only [zBq,zBb,xA8,xBc];exact rfl) (fun n:Nat=>n≤120) (fun n:Nat=>120-n) (0) (by rw [yWm,xBl];exact qAa) (?_) ?_
  · exact xCs _
  intro n hn;simp -implicitDefEqProofs (disch:=omega) only [go_sem,↓reduceIte];refine zAp ?_ ?_<;>intro hlt
  · have hlt:n<120:=(by have:=of_decide_eq_true hlt;omega);have hs:=zKn n;have hl:=zLh n;simp -implicitDefEqProofs (disch:=omega) only [go_sem,↓reduceIte ,xAw,hl,wrN,zFp,zFo,zFn];refine ⟨by omega,by omega,n+1,by omega,hlt,?_⟩;rw [hs,yQ3];exact zD2
  · obtain rfl:n=120:=(by have:=of_decide_eq_false hlt;omega);rw [show zHm 120=idN from rfl];simp -implicitDefEqProofs (disch:=omega) only [go_sem,↓reduceIte ,xAw,xAz,xA7,xA0,xAy,xAx,hil,hkl,ei,ek,Piece.td_d,zFm];refine zAp ?_ ?_<;>intro hcc
    · have hne:pi.Color≠pk.Color:=(by have:decide (pi.Color=pk.Color)=false:=(by simpa using hcc);exact of_decide_eq_false this);rw [hcf hne];simp only [if_true];rw [Design.td_d];simp -implicitDefEqProofs (disch:=omega) only [go_sem,↓reduceIte ,zE1,xBr]
    · clear hcf hcc;simp -implicitDefEqProofs (disch:=omega) only [go_sem,↓reduceIte ,zE0];refine zD1 (i:=0) (r:=25) (hE) rfl rfl qAb ?_;simp -implicitDefEqProofs (disch:=omega) only [go_sem,↓reduceIte];refine zBv qAd (fun st:MS=>[(25,.box none [.sl false 1 (d.Bottom.map rI),.sl false 1 (d.Left.map rI),.sl false 5 (d.Pieces.map (Piece.td.d false)),.sl true 1 ((st).R.map rI),.sl true 1 ((st).C.map rI)]),(10,.v (.bool st.g))]) (fun _=>by simp only [zBq,zBb,xA8,xBc];exact rfl) (fun st:MS=>yRf d.Pieces F st∧(st.g=false→clash F d.Pieces=false)) (fun st:MS=>(if st.g then mu st+1 else 0)) (m) (by rw [hmg];exact qAa) (?_) ?_
      · exact ⟨⟨h00,fun _=>hm0.symm,fun h=>by rw [hmg] at h;cases h⟩,fun h=>by rw [hmg] at h;cases h⟩
      rintro st ⟨hst,hsc⟩;simp -implicitDefEqProofs (disch:=omega) only [go_sem,↓reduceIte];refine zAp ?_ ?_<;>intro hg
      · simp -implicitDefEqProofs (disch:=omega) only [go_sem,↓reduceIte];generalize hs0:({ st with g:=false }:MS)=s0;have e0:s0.R=st.R∧s0.C=st.C∧s0.g=false:=by rw [← hs0];exact ⟨rfl,rfl,rfl⟩
        have ho0:OkM s0:=⟨by rw [e0.1];exact hst.1.R,by rw [e0.2.1];exact hst.1.C⟩
        have hps:pass d.Pieces st=zD5 d.Pieces s0 d.Pieces.length:=(by unfold pass;rw [hs0]);refine zBv qAd (fun a:Nat=>[(25,.box none [.sl false 1 (d.Bottom.map rI),.sl false 1 (d.Left.map rI),.sl false 5 (d.Pieces.map (Piece.td.d false)),.sl true 1 ((zD5 d.Pieces s0 a).R.map rI),.sl true 1 ((zD5 d.Pieces s0 a).C.map rI)]),(10,.v (.bool (zD5 d.Pieces s0 a).g)),(11,.v (.int .i64 (a:Nat)))]) (fun _=>by simp only [zBq,zBb,xA8,xBc];exact rfl) (fun a:Nat=>a≤d.Pieces.length∧((zD5 d.Pieces s0 a).g=false→zD5 d.Pieces s0 a=s0∧NoC s0 d.Pieces a 0)) (fun a:Nat=>d.Pieces.length-a) (0) (by rw [show zD5 d.Pieces s0 0=s0 from rfl,e0.1,e0.2.1,e0.2.2];exact qAa) (?_) ?_
        · exact ⟨xCs _,fun _=>⟨rfl,yY5 _ _⟩⟩
        rintro a ⟨ha,haJ⟩;simp -implicitDefEqProofs (disch:=omega) only [go_sem,↓reduceIte ,xAw,xAz,xA7,xA0,xAy,xAx,zEz];refine zAp ?_ ?_<;>intro hlt
        · have hlt:a<d.Pieces.length:=qAg;have ea:=xA1 hlt;have hpa:=hp _ (xB3 hlt);have hga:=zKq hlt;have ho1:OkM (zD5 d.Pieces s0 a):=(zKj hp s0 a qAc).ok ho0;have hnx:=zLa d.Pieces s0 a;have hrg:=fun j hj=>(zOg hp hlt (zD5 d.Pieces s0 a) j hj).ok ho1;have hrn:∀ j (hj:j<d.Pieces.length),zVs d.Pieces a (zD5 d.Pieces s0 a) (j+1)=_:=fun j hj=>zSn (i:=a) (st:=zD5 d.Pieces s0 a) hj;have hmid:=fun j (hj:j<a)=>yI0 hp ho0 hps e0.1 e0.2.1 hlt hj;rw [hst.2.1 hg] at hmid;simp -implicitDefEqProofs (disch:=omega) only [go_sem,↓reduceIte];refine zBv qAd (fun b:Nat=>[(25,.box none [.sl false 1 (d.Bottom.map rI),.sl false 1 (d.Left.map rI),.sl false 5 (d.Pieces.map (Piece.td.d false)),.sl true 1 ((zVs d.Pieces a (zD5 d.Pieces s0 a) b).R.map rI),.sl true 1 ((zVs d.Pieces a (zD5 d.Pieces s0 a) b).C.map rI)]),(10,.v (.bool (zVs d.Pieces a (zD5 d.Pieces s0 a) b).g)),(12,.v (.int .i64 (b:Nat)))]) (fun _=>by simp only [zBq,zBb,xA8,xBc];exact rfl) (fun b:Nat=>b≤a∧((zVs d.Pieces a (zD5 d.Pieces s0 a) b).g=false→zVs d.Pieces a (zD5 d.Pieces s0 a) b=s0∧NoC s0 d.Pieces a b)) (fun b:Nat=>a-b) (0) (by rw [show zVs d.Pieces a (zD5 d.Pieces s0 a) 0=zD5 d.Pieces s0 a from rfl];exact qAa) (?_) ?_
          · exact ⟨xCs _,haJ⟩
          rintro b ⟨hb,hbJ⟩;simp -implicitDefEqProofs (disch:=omega) only [go_sem,↓reduceIte ,zEy];refine zAp ?_ ?_<;>intro hlb
          · have hlb:b<a:=(by have:=of_decide_eq_true hlb;omega);have hbl:b<d.Pieces.length:=qAc;have eb2:=xA1 hbl;have hpb:=hp _ (xB3 hbl);have hgb:=zKq hbl;have ho2:=hrg b qAc;have hn2:=hrn b hbl;have hmd:=hmid b hlb;have hE2:=zZ2 d (zVs d.Pieces a (zD5 d.Pieces s0 a) b) a b ho2 hp hlt hbl;clear hmid hrn hrg;generalize zVs d.Pieces a (zD5 d.Pieces s0 a) b=s2 at *;have hnc:=fun (h:NoC s0 d.Pieces a b)=>yLx h;rw [hga,hgb] at hnc hmd hE2;rw [hga] at hn2;generalize d.Pieces[a]=pa at *;generalize d.Pieces[b]=pb at *;have lR:=ho2.R.len;have lC:=ho2.C.len;have r1:=yJp ho2.R hpa.S;have r2:=yJp ho2.R hpb.S;have r3:=yJp ho2.C hpa.W;have r4:=yJp ho2.C hpb.W;have b1:=zT4 hpa.S;have b2:=zT4 hpb.S;have b3:=zT4 hpa.W;have b4:=zT4 hpb.W;have hib:inB s2 pa pb=(decide (gN s2.R pa.South=gN s2.R pb.South)&&decide (gN s2.C pa.West=gN s2.C pb.West)):=rfl;cases q1:decide (gN s2.R pa.South=gN s2.R pb.South) with
            | false =>
              rw [q1,xCq] at hib;simp -implicitDefEqProofs (disch:=omega) only [go_sem,↓reduceIte ,xAw,xAz,xA7,xA0,xAy,xAx,hlt,hbl,ea,eb2,Piece.td_d,zB3,zB2];simp (maxSteps:=4000000) -implicitDefEqProofs (disch:=omega) only [go_sem,↓reduceIte ,xAw,xAz,xA7,xA0,xAy,xAx,lR,lC,r1,r2,b1.1,b1.2,b2.1,b2.2,q1,xB7,rI,zB1,zB0,wrN];refine ⟨b+1,by omega,⟨by omega,?_⟩,?_⟩
              · rw [hn2,show zKd pa s2 pb=s2 by unfold zKd;rw [hib];rfl];refine fun h=>⟨(hbJ h).1,hnc (hbJ h).2 (fun h2=>?_)⟩
                rw [← (hbJ h).1,hib] at h2;cases h2
              · rw [hn2,show zKd pa s2 pb=s2 by unfold zKd;rw [hib];rfl];exact zD2
            | true =>
            cases q2:decide (gN s2.C pa.West=gN s2.C pb.West) with
            | false =>
              rw [q1,q2,xCu] at hib;simp -implicitDefEqProofs (disch:=omega) only [go_sem,↓reduceIte ,xAw,xAz,xA7,xA0,xAy,xAx,hlt,hbl,ea,eb2,Piece.td_d,zB3,zB2];simp (maxSteps:=4000000) -implicitDefEqProofs (disch:=omega) only [go_sem,↓reduceIte ,xAw,xAz,xA7,xA0,xAy,xAx,lR,lC,r1,r2,r3,r4,b1.1,b1.2,b2.1,b2.2,b3.1,b3.2,b4.1,b4.2,q1,q2,xB7,xBr,rI,zB1,zB0,wrN];refine ⟨b+1,by omega,⟨by omega,?_⟩,?_⟩
              · rw [hn2,show zKd pa s2 pb=s2 by unfold zKd;rw [hib];rfl];refine fun h=>⟨(hbJ h).1,hnc (hbJ h).2 (fun h2=>?_)⟩
                rw [← (hbJ h).1,hib] at h2;cases h2
              · rw [hn2,show zKd pa s2 pb=s2 by unfold zKd;rw [hib];rfl];exact zD2
            | true =>
            rw [q1,q2,xCu] at hib;cases q3:decide (pa.Color=pb.Color) with
            | false=>have hcf:=hmd hib (of_decide_eq_false q3);rw [hcf];simp only [if_true];rw [Design.td_d];simp -implicitDefEqProofs (disch:=omega) only [go_sem,↓reduceIte ,xAw,xAz,xA7,xA0,xAy,xAx,hlt,hbl,ea,eb2,Piece.td_d,zB3,zB2];simp (maxSteps:=4000000) -implicitDefEqProofs (disch:=omega) only [go_sem,↓reduceIte ,xAw,xAz,xA7,xA0,xAy,xAx,lR,lC,r1,r2,r3,r4,b1.1,b1.2,b2.1,b2.2,b3.1,b3.2,b4.1,b4.2,q1,q2,xB7,xBr,rI,zB1];simp -implicitDefEqProofs (disch:=omega) only [go_sem,↓reduceIte ,q3,xB7,xBr,zDi,zEx]
            | true =>
            have hcc:=of_decide_eq_true q3;have hsi:=yPw ho2 hpa hpb hib;have hem:=(yOt ho2 hpa hpb hib).2;rw [hsi] at hn2;simp -implicitDefEqProofs (disch:=omega) only [go_sem,↓reduceIte ,xAw,xAz,xA7,xA0,xAy,xAx,hlt,hbl,ea,eb2,Piece.td_d,zB3,zB2];simp (maxSteps:=4000000) -implicitDefEqProofs (disch:=omega) only [go_sem,↓reduceIte ,xAw,xAz,xA7,xA0,xAy,xAx,lR,lC,r1,r2,r3,r4,b1.1,b1.2,b2.1,b2.2,b3.1,b3.2,b4.1,b4.2,q1,q2,xB7,xBr,rI,zB1];simp -implicitDefEqProofs (disch:=omega) only [go_sem,↓reduceIte ,q3,xB7,xBr,zDi,zEw];cases hd:eqB s2 pa pb with
            | false =>
              rw [hd] at hE2 hn2 hem hsi;rw [xCv] at hn2 hsi;refine zD1 (i:=0) (r:=25) (hE2) rfl rfl qA2 ?_;simp -implicitDefEqProofs (disch:=omega) only [go_sem,↓reduceIte ,zB0,wrN];have hss:zKd pa s2 pb=s2:=yFc hem.symm;rw [hss] at hsi;refine ⟨b+1,by omega,⟨by omega,?_⟩,?_⟩
              · rw [hn2,← hsi];exact fun h=>⟨(hbJ h).1,hnc (hbJ h).2 (fun _=>hcc)⟩
              · rw [hn2];exact zD2
            | true =>
              rw [hd] at hE2 hn2;rw [xCx] at hn2;refine zD1 (i:=0) (r:=25) (hE2) rfl rfl qA2 ?_;simp -implicitDefEqProofs (disch:=omega) only [go_sem,↓reduceIte ,zB0,wrN];refine ⟨b+1,by omega,⟨by omega,?_⟩,?_⟩
              · rw [hn2];exact fun h=>by cases h
              · rw [hn2];exact zD2
          · obtain rfl:b=a:=(by have:=of_decide_eq_false hlb;omega);simp -implicitDefEqProofs (disch:=omega) only [go_sem,↓reduceIte ,zEv,wrN];refine ⟨b+1,by omega,⟨hlt,?_⟩,?_⟩
            · rw [hnx];exact fun h=>⟨(hbJ h).1,yRc (hbJ h).2⟩
            · rw [hnx];exact zD2
        · obtain rfl:a=d.Pieces.length:=(by have:¬ a<d.Pieces.length:=qAg;omega);have hnext:=yLz hp hst hg;rw [hps] at hnext;simp -implicitDefEqProofs (disch:=omega) only [go_sem,↓reduceIte];refine ⟨zD5 d.Pieces s0 d.Pieces.length,?_,⟨hnext,fun h=>?_⟩,zD2⟩
          · rw [if_pos hg,← hps];rcases (zGl hp hst.1).2 with e | ⟨_,e⟩
            · rw [e];exact Nat.succ_pos _
            · split<;>omega
          · rw [← hnext.2.2 h,(haJ h).1];exact yRd (haJ h).2
      · have hsF:st=F:=hst.2.2 hg;have hoF:=hst.1;have hcl:=hsc hg;clear hst hsc;subst hsF;obtain ⟨dB,dL⟩:=(zA1 hok).2.2.2.2.2;have dBl:=(zA1 hok).1.2;have dLl:=(zA1 hok).2.1.2;have lR:=hoF.R.len;have lC:=hoF.C.len;rw [hcl];simp only [xBa,if_false];rw [Design.td_d];unfold zZf;simp -implicitDefEqProofs (disch:=omega) only [go_sem,↓reduceIte ,zEu];refine zBv qAd (fun n:Nat=>[(15,.box none [.sl true 1 (((d.Bottom.take n).map (gN st.R)).map rI),.nils,.nils]),(16,.v (.int .i64 (n:Nat)))]) (fun _=>by simp only [zBq,zBb,xA8,xBc];exact rfl) (fun n:Nat=>n≤d.Bottom.length) (fun n:Nat=>d.Bottom.length-n) (0) (zD2) (?_) ?_
        · exact xCs _
        intro n hn;simp -implicitDefEqProofs (disch:=omega) only [go_sem,↓reduceIte ,xAw,xAz,xA7,xA0,xAy,xAx,zEt];refine zAp ?_ ?_<;>intro hlt
        · have hlt:n<d.Bottom.length:=qAg;have en:=xA1 hlt;have hin:=dB _ (xB3 hlt);have hin:inG d.Bottom[n]:=hin;have r1:=yJp hoF.R hin;have b1:=zT4 hin;have hnx:=zSf hlt;simp (maxSteps:=4000000) -implicitDefEqProofs (disch:=omega) only [go_sem,↓reduceIte ,xAw,xAz,xA7,xA0,xAy,xAx,hlt,en,rI,lR,r1,b1.1,b1.2,xDh,xAw,wrN,zEs,zEr];refine ⟨by omega,n+1,by omega,hlt,?_⟩;rw [hnx]
          try simp only [xBo,xA6,xBl,rI]
          exact zD2
        · obtain rfl:n=d.Bottom.length:=(by have:¬ n<d.Bottom.length:=qAg;omega);simp -implicitDefEqProofs (disch:=omega) only [go_sem,↓reduceIte ,xDj];refine zBv qAd (fun n:Nat=>[(15,.box none [.sl true 1 ((d.Bottom.map (gN st.R)).map rI),.sl true 1 (((d.Left.take n).map (gN st.C)).map rI),.nils]),(17,.v (.int .i64 (n:Nat)))]) (fun _=>by simp only [zBq,zBb,xA8,xBc];exact rfl) (fun n:Nat=>n≤d.Left.length) (fun n:Nat=>d.Left.length-n) (0) (zD2) (?_) ?_
          · exact xCs _
          intro n hn;simp -implicitDefEqProofs (disch:=omega) only [go_sem,↓reduceIte ,xAw,xAz,xA7,xA0,xAy,xAx,zEq];refine zAp ?_ ?_<;>intro hlt
          · have hlt:n<d.Left.length:=qAg;have en:=xA1 hlt;have hin:=dL _ (xB3 hlt);have hin:inG d.Left[n]:=hin;have r1:=yJp hoF.C hin;have b1:=zT4 hin;have hnx:=zSf hlt;simp (maxSteps:=4000000) -implicitDefEqProofs (disch:=omega) only [go_sem,↓reduceIte ,xAw,xAz,xA7,xA0,xAy,xAx,hlt,en,rI,lC,r1,b1.1,b1.2,xDh,xAw,wrN,zEp,zEo];refine ⟨by omega,n+1,by omega,hlt,?_⟩;rw [hnx]
            try simp only [xBo,xA6,xBl,rI]
            exact zD2
          · obtain rfl:n=d.Left.length:=(by have:¬ n<d.Left.length:=qAg;omega);simp -implicitDefEqProofs (disch:=omega) only [go_sem,↓reduceIte ,xDj];refine zBv qAd (fun n:Nat=>[(15,.box none [.sl true 1 ((d.Bottom.map (gN st.R)).map rI),.sl true 1 ((d.Left.map (gN st.C)).map rI),.sl true 5 ((zY8 st d.Pieces n).map (Piece.td.d true))]),(18,.v (.int .i64 (n:Nat)))]) (fun _=>by simp only [zBq,zBb,xA8,xBc];exact rfl) (fun n:Nat=>n≤d.Pieces.length) (fun n:Nat=>d.Pieces.length-n) (0) (zD2) (?_) ?_
            · exact xCs _
            intro n hn;simp -implicitDefEqProofs (disch:=omega) only [go_sem,↓reduceIte ,xAw,xAz,xA7,xA0,xAy,xAx,zEn];refine zAp ?_ ?_<;>intro hlt
            · have hlt:n<d.Pieces.length:=qAg;have en:=xA1 hlt;have hpn:=hp _ (xB3 hlt);have r1:=yJp hoF.R hpn.N;have r2:=yJp hoF.C hpn.E;have r3:=yJp hoF.R hpn.S;have r4:=yJp hoF.C hpn.W;have b1:=zT4 hpn.N;have b2:=zT4 hpn.E;have b3:=zT4 hpn.S;have b4:=zT4 hpn.W;have hnx:=yG6 (st:=st) hlt;have hln:=yLp st d.Pieces n;generalize d.Pieces[n]=pn at *;simp -implicitDefEqProofs (disch:=omega) only [go_sem,↓reduceIte ,xAw,xAz,xA7,xA0,xAy,xAx,hlt,en,Piece.td_d,zEm];simp (maxSteps:=4000000) -implicitDefEqProofs (disch:=omega) only [go_sem,↓reduceIte ,xAw,xAz,xA7,xA0,xAy,xAx,lR,lC,r1,r2,r3,r4,b1.1,b1.2,b2.1,b2.2,b3.1,b3.2,b4.1,b4.2,rI,zEl,zEk];have hF:=zVf ⟨d.Bottom.map (gN st.R),d.Left.map (gN st.C),zY8 st d.Pieces n⟩ (gN st.R pn.South) (gN st.C pn.West) (by show (zY8 st d.Pieces n).length≤1048576;omega);rw [Design.td_d] at hF;simp only at hF;rcases zHw (zY8 st d.Pieces n) (gN st.R pn.South) (gN st.C pn.West) with ⟨hf,hall⟩ | ⟨j,hj,hf,hkk⟩
              · have hadd:zTt (zY8 st d.Pieces n) (yJm st pn)=zY8 st d.Pieces n++[yJm st pn]:=(by unfold zTt;rw [if_neg];intro hm;obtain ⟨y,hy,e⟩:=xB1.1 hm;exact hall y hy e);rw [hf] at hF;refine zAr (hF) (by simp -implicitDefEqProofs (disch:=omega) only [go_sem,↓reduceIte,deep,TD.rows,zAw,zAt,zA0,zAs,zAv,zAq,xAw,xAz,xA7,xA0,xAy,xAx,Int.reduceLT,Int.reduceNeg,decide_true,xAw,wrN,zDh,zBz];exact rfl) ?_;simp -implicitDefEqProofs (disch:=omega) only [go_sem,↓reduceIte ,xAw,xAz,xA7,xA0,xAy,xAx,Int.reduceLT,Int.reduceNeg,decide_true,xAw,wrN,zDh,zBz];refine ⟨by omega,n+1,by omega,hlt,?_⟩;rw [hnx,hadd]
                try simp only [xBo,xA6,xBl,Piece.td_d]
                exact zD2
              · have hadd:zTt (zY8 st d.Pieces n) (yJm st pn)=zY8 st d.Pieces n:=(by unfold zTt;rw [if_pos];exact xB1.2 ⟨_,xB3 hj,hkk⟩);have hj0:decide ((j:Int)<0)=false:=decide_eq_false qAc;rw [hf] at hF;refine zAr (hF) (by simp -implicitDefEqProofs (disch:=omega) only [go_sem,↓reduceIte,deep,TD.rows,zAw,zAt,zA0,zAs,zAv,zAq,xAw,xAz,xA7,xA0,xAy,xAx,hj0,wrN,zBz];exact rfl) ?_;simp -implicitDefEqProofs (disch:=omega) only [go_sem,↓reduceIte ,xAw,xAz,xA7,xA0,xAy,xAx,hj0,wrN,zBz];refine ⟨n+1,by omega,hlt,?_⟩;rw [hnx,hadd];exact zD2
            · obtain rfl:n=d.Pieces.length:=(by have:¬ n<d.Pieces.length:=qAg;omega);rw [yLq];simp -implicitDefEqProofs (disch:=omega) only [go_sem,↓reduceIte ,zEj,xB7]
end Go.Proofs.Ytaleehohmpohoaa
