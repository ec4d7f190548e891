/- Laws that the proof stands on. -/
import Derived.Test.YtaleehohmpohoaaZg24
import Derived.Test.YtaleehohmpohoaaZg23
import Derived.Test.YtaleehohmpohoaaZg15
import Derived.Test.YtaleehohmpohoaaZVCanT
import Derived.Test.YtaleehohmpohoaaZg13
import Derived.Test.YtaleehohmpohoaaZg16
set_option linter.all false
namespace Go.Proofs.Ytaleehohmpohoaa
open Go.RowKit Go.V
attribute [local go_sem] xBh xBb xBc xA8 xA6 xBl xBk xBy xBm xC7 xBt xCi xBn xCl xB6 xCg xBi xBp xBw xCn Value.oneCell' xCp xCu xCv xC0 xC1 xBr xB7 and_true true_and beq_self_eq_true xBa if_true if_false xB2 Nat.reduceAdd Nat.reduceMul Nat.reduceLeDiff xBj xB5 xB0 not_true_eq_false not_false_eq_true ne_eq reduceCtorEq xCf bne_self_eq_false Nat.reduceEqDiff List.isPrefixOf xB9 xCm xCq xC5 xCx decide_true decide_false Nat.reduceBEq Nat.reduceBNe xBv xBz exists_eq_left' exists_eq_left xAv or_false or_true true_or false_or xAx xCk mB Nat.reduceMod Nat.reduceDiv
set_option maxRecDepth 100000
def ySh (k:Int):Value:=.int .i64 k
def yYq (_:Int):Value:=.bool true
def yUx (S:List Int):List (Value×Value):=tbG ySh yYq S
theorem yZg (k:Int)(b:Int):keq (.int .i64 k) (ySh b)=decide (b=k):=by simp only [ySh,keq,zZj];rw [Bool.beq_eq_decide_eq];exact decide_eq_decide.2 eq_comm
theorem yOo:KeyG (fun p:Int=>p) ySh:=⟨fun a b=>by show keq (.int .i64 a) (ySh b)=_;rw [yZg]⟩
theorem zRy {S:List Int}(h:S.Nodup){k:Int}(hk:k∈S):zXx (yUx S) (.int .i64 k)=some (.bool true) :=
  zV8 (kk:=fun p:Int=>p) (key:=ySh) (val:=yYq) yOo qBp (fun b=>yZg k b) hk rfl
theorem zPa {S:List Int}(h:S.Nodup){k:Int}(hk:k∉S):zXx (yUx S) (.int .i64 k)=none :=
  zTd (kk:=fun p:Int=>p) (key:=ySh) (val:=yYq) yOo qBp (fun b=>yZg k b) (fun x hx e=>hk (e▸hx))
theorem zRx (S:List Int)(k:Int):zQ2 (yUx S) (.int .i64 k) (.bool true)=yUx (S++[k]):=by unfold yUx tbG;rw [xDx];rfl
theorem gK {C:CtrT}{s:List D}{op:VOp}{K:D→List D→Prop}(h:∀ K':D→List D→Prop,K=K'→zAh C s op K'):zAh C s op K:=h K rfl
set_option maxHeartbeats 16000000 in
theorem zF2 (q_aD:Design) (q_aD_ok:Design.td.ok q_aD) (q_aD_n:Design.cnt q_aD≤1048576):Contract Try.prog NoG 10 [.agg (Design.td.d false q_aD)] (.tup [.agg (Design.td.d true (zAn q_aD)),.v (.int .i64 (zCs q_aD))]):=by
  have hd:=zWe q_aD_n;have hp:=hd.p;rw [Design.td_d,Design.td_d];refine zHu ?_;unfold code_impl_CanonicalDesign zAn zCs;simp -implicitDefEqProofs (disch:=omega) only [go_sem,↓reduceIte];cases hc:decide (zA7 q_aD=0) with
  | false=>have h0:¬ zA7 q_aD=0:=qBl;rw [if_neg h0];refine zAr (zCq q_aD hd) qAk ?_;simp -implicitDefEqProofs (disch:=omega) only [go_sem,↓reduceIte ,hc]
  | true =>
    have h0:zA7 q_aD=0:=qBl;rw [if_pos h0];have hin:=zF3 h0;have hl:=zHp q_aD;obtain ⟨hok,hall,hres⟩:=zF4 h0;have hp1:=(zA1 hok).2.2.1;have hW:=(zA1 hok).1.1;have hW2:=(zA1 hok).1.2;have hLn:=(zA1 hok).2.1;have hfit:=(zLy qAc hall).2;have hlen:=(zLy qAc hall).1;rw [← hres] at hfit hlen;have hC:=zCq q_aD hd;generalize zBl q_aD=ks at hin hl hC hfit hlen;refine zAr (hC) qAo ?_;simp -implicitDefEqProofs (disch:=omega) only [go_sem,↓reduceIte ,hc,xAw,xAz];refine zBv qAd (fun i:Nat=>[(33,.v (.int .i64 (i:Nat))),(7,.mp (.int .i64) (yIy (zDu q_aD ks i).R)),(8,.mp (.int .i64) (yIy (zDu q_aD ks i).C)),(9,.box none [.sl true 1 ((zDu q_aD ks i).out.Bottom.map rI),.sl true 1 ((zDu q_aD ks i).out.Left.map rI),.sl true 5 ((zDu q_aD ks i).out.Pieces.map (Piece.td.d true))]),(10,.mp (.int .i64) (yUx (zDu q_aD ks i).S))]) (fun _=>by simp only [zBq,zBb,xA8,xBc];exact rfl) (fun i:Nat=>i≤ks.length) (fun i:Nat=>ks.length-i) (0) (zD2) (xCs _) ?_;intro i hi;simp -implicitDefEqProofs (disch:=omega) only [go_sem,↓reduceIte ,xAw,xAz,xA7,xA0,xAy,xAx];refine zAp ?_ ?_<;>intro hlt
    · have hlt:i<ks.length:=qAg;have e1:=xA1 hlt;have hI:=zQd qAc hfit i qAc;obtain ⟨hI2,hs,hw⟩:=zO1 qAc hI hlt (hfit i hlt);have hnx:=zEb q_aD ks i;have hkd:ks.getD i 0=ks[i]:=(by rw [xA3,e1];rfl);have hki:=hin _ (xB3 hlt);rw [hkd] at hs hw;have hm:(i:Int).tmod (q_aD.Bottom.length:Int)=((i % q_aD.Bottom.length:Nat):Int):=(Int.ofNat_tmod _ _).symm;have hq:(i:Int).tdiv (q_aD.Bottom.length:Int)=((i / q_aD.Bottom.length:Nat):Int):=(Int.ofNat_tdiv _ _).symm;have hlq:i / q_aD.Bottom.length<q_aD.Left.length:=Nat.div_lt_of_lt_mul (by rw [xEz,← hlen];exact hlt);have hW0:decide ((q_aD.Bottom.length:Int)=0)=false:=(by simpa using (by omega:¬ q_aD.Bottom.length=0));obtain ⟨n,hkn',hnl⟩:∃ n:Nat,ks[i]=(n:Int)∧n<q_aD.Pieces.length:=⟨ks[i].toNat,by omega,by omega⟩
      have hkn:ks.getD i 0=(n:Int):=(by rw [hkd,hkn']);rw [hkn'] at e1;rw [hkn'] at hs hw;have epn:=xA1 hnl;have hgp:gP q_aD.Pieces (n:Int)=q_aD.Pieces[n]:=(by unfold gP;rw [xAz,xA3,epn];rfl);rw [hgp] at hs hw;obtain ⟨rn,cn,rl,cl,sl,hsn,ll,bl,pl,sm,si,me⟩:=hI;unfold yEp at hnx;generalize zDu q_aD ks i=st at hs hw hnx rn cn rl cl sl hsn ll bl pl sm si me hI2;obtain ⟨R,C,S,⟨bo,le,pc⟩⟩:=st;clear hI2 sm si me;simp only at rn cn rl cl sl hsn ll bl pl;generalize q_aD.Pieces[n]=pn at hs hw hgp epn;have elf:q_aD.Left[i / q_aD.Bottom.length]?=some (q_aD.Left.getD (i / q_aD.Bottom.length) 0):=getD_at hlq;generalize hlf:q_aD.Left.getD (i / q_aD.Bottom.length) 0=lf at elf;simp -implicitDefEqProofs (disch:=omega) only [go_sem,↓reduceIte ,xAw,xAz,xA7,xA0,xAy,xAx,hlt,e1,rI,hm,hW0];refine ⟨by omega,?_⟩;have wi:IntKind.i64.wrap ((i:Int)+1)=((i+1:Nat):Int):=wrI qAc qAc;have hWn:¬ (q_aD.Bottom.length:Int)=0:=qAc;by_cases hz:i % q_aD.Bottom.length=0
      · have hz':decide (((i % q_aD.Bottom.length:Nat):Int)=0)=true:=decide_eq_true qAc;have eL:zI8 q_aD i ⟨R,C,S,⟨bo,le,pc⟩⟩=⟨R,zA6 C lf,S,⟨bo,le++[((zE9 (zA6 C lf) lf:Nat):Int)],pc⟩⟩:=(by unfold zI8;rw [if_pos hz];simp only [hlf]);have hC1n:(zA6 C lf).Nodup:=zD7 cn;have hC1l:=zB4 C lf;have hMa:=zFa C lf cn qAc;have hqw:IntKind.i64.wrap ((i / q_aD.Bottom.length:Nat):Int)=((i / q_aD.Bottom.length:Nat):Int):=(fun (q:Nat) (h:q<11)=>(wrI qAc qAc:IntKind.i64.wrap (q:Int)=(q:Int))) _ (xCj hlq qAc);have hlqi:((i / q_aD.Bottom.length:Nat):Int)<(q_aD.Left.length:Int):=qAc;simp -implicitDefEqProofs (disch:=omega) only [go_sem,↓reduceIte ,xAw,xAz,xA7,xA0,xAy,xAx,hz',hq,hqw,hW0,hlqi,elf,rI,hlq];apply zDg
        case h =>
          intro K hK;unfold zD9;simp -implicitDefEqProofs (disch:=omega) only [go_sem,↓reduceIte ,xAw,xAz,xA7,xA0,xAy,xAx,hz',hq,hqw,hW0,hlqi,elf,rI,hlq]
          repeat' (first | with_reducible exact hK | with_reducible refine And.intro ?_ ?_ | exact hWn | ((with_reducible refine zD8 ?_);refine zB5 (r:=8) (hMa) rfl rfl rfl rfl ?_;simp -implicitDefEqProofs (disch:=omega) only [go_sem,↓reduceIte,rI]))
        simp -implicitDefEqProofs (disch:=omega) only [go_sem,↓reduceIte ,zCh,xAw];refine ⟨by omega,?_⟩;by_cases hb:i<q_aD.Bottom.length
        · have ebf:q_aD.Bottom[i]?=some (q_aD.Bottom.getD i 0):=getD_at hb;generalize hbf:q_aD.Bottom.getD i 0=bf at ebf;have hb':decide ((i:Int)<(q_aD.Bottom.length:Int))=true:=decide_eq_true qAc;have hbi:(i:Int)<(q_aD.Bottom.length:Int):=qAc;have eB:zLj q_aD i ⟨R,zA6 C lf,S,⟨bo,le++[((zE9 (zA6 C lf) lf:Nat):Int)],pc⟩⟩=⟨zA6 R bf,zA6 C lf,S,⟨bo++[((zE9 (zA6 R bf) bf:Nat):Int)],le++[((zE9 (zA6 C lf) lf:Nat):Int)],pc⟩⟩:=qBh;rw [eL,eB] at hs hw;have hR1n:(zA6 R bf).Nodup:=zD7 rn;have hR1l:=zB4 R bf;have hMb:=zFa R bf rn qAc;simp -implicitDefEqProofs (disch:=omega) only [go_sem,↓reduceIte ,xAw,xAz,xA7,xA0,xAy,xAx,rI,hb',hbi,ebf,hb];apply zDg
          case h =>
            intro K hK;unfold zC0;simp -implicitDefEqProofs (disch:=omega) only [go_sem,↓reduceIte ,xAw,xAz,xA7,xA0,xAy,xAx,rI,hb',hbi,ebf,hb]
            repeat' (first | with_reducible exact hK | with_reducible refine And.intro ?_ ?_ | ((with_reducible refine zD8 ?_);refine zB5 (r:=7) (hMb) rfl rfl rfl rfl ?_;simp -implicitDefEqProofs (disch:=omega) only [go_sem,↓reduceIte,rI]))
          simp -implicitDefEqProofs (disch:=omega) only [go_sem,↓reduceIte ,zCh,xAw];refine ⟨by omega,?_⟩

          by_cases hk:((n:Nat):Int)∈S
          · have hn:zDu q_aD ks (i+1)=⟨zA6 R bf,zA6 C lf,S,⟨bo++[((zE9 (zA6 R bf) bf:Nat):Int)],le++[((zE9 (zA6 C lf) lf:Nat):Int)],pc⟩⟩:=qAl;have hmk:=zRy hsn hk;simp -implicitDefEqProofs (disch:=omega) only [go_sem,↓reduceIte ,xAw,xAz,xA7,xA0,xAy,xAx,hlt,e1,rI,hkn,hmk,wi];refine ⟨i+1,by omega,hlt,?_⟩;rw [hn]
            try simp only [xBo,xA6,xBl,rI]
            exact zD2
          · have hn:zDu q_aD ks (i+1)=⟨zA6 (zA6 R bf) pn.North,zA6 (zA6 C lf) pn.East,S++[(n:Int)],⟨bo++[((zE9 (zA6 R bf) bf:Nat):Int)],le++[((zE9 (zA6 C lf) lf:Nat):Int)],pc++[zWi (zA6 R bf) (zA6 C lf) pn]⟩⟩:=qAj;have hmk:=zPa hsn hk;have hnew:=zRx S (n:Int);have hM1:=zFa (zA6 R bf) pn.North hR1n qAc;have hM2:=zFa (zA6 C lf) pn.East hC1n qAc;have hM3:=zFa (zA6 (zA6 R bf) pn.North) pn.South (zD7 hR1n) (by have:=zB4 (zA6 R bf) pn.North;omega);have hM4:=zFa (zA6 (zA6 C lf) pn.East) pn.West (zD7 hC1n) (by have:=zB4 (zA6 C lf) pn.East;omega);rw [zDo (zEd hs),zHd hs] at hM3;rw [zDo (zEd hw),zHd hw] at hM4;simp -implicitDefEqProofs (disch:=omega) only [go_sem,↓reduceIte ,xAw,xAz,xA7,xA0,xAy,xAx,hlt,e1,rI,hkn,hmk,hnew,hnl,epn,Piece.td_d];apply zDg
            case h =>
              intro K hK;unfold zBj;simp -implicitDefEqProofs (disch:=omega) only [go_sem,↓reduceIte]
              repeat' (first | with_reducible exact hK | with_reducible refine And.intro ?_ ?_ | ((with_reducible refine zD8 ?_);refine zB5 (r:=7) (hM1) rfl rfl rfl rfl ?_;simp -implicitDefEqProofs (disch:=omega) only [go_sem,↓reduceIte,rI]) | ((with_reducible refine zD8 ?_);refine zB5 (r:=8) (hM2) rfl rfl rfl rfl ?_;simp -implicitDefEqProofs (disch:=omega) only [go_sem,↓reduceIte,rI]))
            simp -implicitDefEqProofs (disch:=omega) only [go_sem,↓reduceIte ,zCh];apply gK;intro K' hK';refine zB5 (r:=8) hM2 rfl rfl rfl rfl ?_;subst hK';simp -implicitDefEqProofs (disch:=omega) only [go_sem,↓reduceIte]
            with_reducible refine yB6 hM3 hM4 ?_
            simp -implicitDefEqProofs (disch:=omega) only [go_sem,↓reduceIte ,zCh,xAw,wi];refine ⟨by omega,?_⟩;refine ⟨i+1,by omega,hlt,?_⟩;rw [hn]
            try simp only [xBo,xA6,xBl,rI,Piece.td_d,zWi]
            exact zD2
        · have hb':decide ((i:Int)<(q_aD.Bottom.length:Int))=false:=decide_eq_false qAc;have hbn:decide (i<q_aD.Bottom.length)=false:=decide_eq_false hb;have eB:zLj q_aD i ⟨R,zA6 C lf,S,⟨bo,le++[((zE9 (zA6 C lf) lf:Nat):Int)],pc⟩⟩=⟨R,zA6 C lf,S,⟨bo,le++[((zE9 (zA6 C lf) lf:Nat):Int)],pc⟩⟩:=qBt;rw [eL,eB] at hs hw;have hR1n:=rn;simp -implicitDefEqProofs (disch:=omega) only [go_sem,↓reduceIte ,xAw,xAz,xA7,xA0,xAy,xAx,rI,hb',hbn]

          by_cases hk:((n:Nat):Int)∈S
          · have hn:zDu q_aD ks (i+1)=⟨R,zA6 C lf,S,⟨bo,le++[((zE9 (zA6 C lf) lf:Nat):Int)],pc⟩⟩:=qAl;have hmk:=zRy hsn hk;simp -implicitDefEqProofs (disch:=omega) only [go_sem,↓reduceIte ,xAw,xAz,xA7,xA0,xAy,xAx,hlt,e1,rI,hkn,hmk,wi];refine ⟨i+1,by omega,hlt,?_⟩;rw [hn]
            try simp only [xBo,xA6,xBl,rI]
            exact zD2
          · have hn:zDu q_aD ks (i+1)=⟨zA6 (R) pn.North,zA6 (zA6 C lf) pn.East,S++[(n:Int)],⟨bo,le++[((zE9 (zA6 C lf) lf:Nat):Int)],pc++[zWi (R) (zA6 C lf) pn]⟩⟩:=qAj;have hmk:=zPa hsn hk;have hnew:=zRx S (n:Int);have hM1:=zFa (R) pn.North hR1n qAc;have hM2:=zFa (zA6 C lf) pn.East hC1n qAc;have hM3:=zFa (zA6 (R) pn.North) pn.South (zD7 hR1n) (by have:=zB4 (R) pn.North;omega);have hM4:=zFa (zA6 (zA6 C lf) pn.East) pn.West (zD7 hC1n) (by have:=zB4 (zA6 C lf) pn.East;omega);rw [zDo (zEd hs),zHd hs] at hM3;rw [zDo (zEd hw),zHd hw] at hM4;simp -implicitDefEqProofs (disch:=omega) only [go_sem,↓reduceIte ,xAw,xAz,xA7,xA0,xAy,xAx,hlt,e1,rI,hkn,hmk,hnew,hnl,epn,Piece.td_d];apply zDg
            case h =>
              intro K hK;unfold zBj;simp -implicitDefEqProofs (disch:=omega) only [go_sem,↓reduceIte]
              repeat' (first | with_reducible exact hK | with_reducible refine And.intro ?_ ?_ | ((with_reducible refine zD8 ?_);refine zB5 (r:=7) (hM1) rfl rfl rfl rfl ?_;simp -implicitDefEqProofs (disch:=omega) only [go_sem,↓reduceIte,rI]) | ((with_reducible refine zD8 ?_);refine zB5 (r:=8) (hM2) rfl rfl rfl rfl ?_;simp -implicitDefEqProofs (disch:=omega) only [go_sem,↓reduceIte,rI]))
            simp -implicitDefEqProofs (disch:=omega) only [go_sem,↓reduceIte ,zCh];apply gK;intro K' hK';refine zB5 (r:=8) hM2 rfl rfl rfl rfl ?_;subst hK';simp -implicitDefEqProofs (disch:=omega) only [go_sem,↓reduceIte]
            with_reducible refine yB6 hM3 hM4 ?_
            simp -implicitDefEqProofs (disch:=omega) only [go_sem,↓reduceIte ,zCh,xAw,wi];refine ⟨by omega,?_⟩;refine ⟨i+1,by omega,hlt,?_⟩;rw [hn]
            try simp only [xBo,xA6,xBl,rI,Piece.td_d,zWi]
            exact zD2
      · have hz':decide (((i % q_aD.Bottom.length:Nat):Int)=0)=false:=decide_eq_false qAc;have eL:zI8 q_aD i ⟨R,C,S,⟨bo,le,pc⟩⟩=⟨R,C,S,⟨bo,le,pc⟩⟩:=(by unfold zI8;rw [if_neg hz]);have hC1n:=cn;simp -implicitDefEqProofs (disch:=omega) only [go_sem,↓reduceIte ,xAw,xAz,xA7,xA0,xAy,xAx,hz',rI];by_cases hb:i<q_aD.Bottom.length
        · have ebf:q_aD.Bottom[i]?=some (q_aD.Bottom.getD i 0):=getD_at hb;generalize hbf:q_aD.Bottom.getD i 0=bf at ebf;have hb':decide ((i:Int)<(q_aD.Bottom.length:Int))=true:=decide_eq_true qAc;have hbi:(i:Int)<(q_aD.Bottom.length:Int):=qAc;have eB:zLj q_aD i ⟨R,C,S,⟨bo,le,pc⟩⟩=⟨zA6 R bf,C,S,⟨bo++[((zE9 (zA6 R bf) bf:Nat):Int)],le,pc⟩⟩:=qBh;rw [eL,eB] at hs hw;have hR1n:(zA6 R bf).Nodup:=zD7 rn;have hR1l:=zB4 R bf;have hMb:=zFa R bf rn qAc;simp -implicitDefEqProofs (disch:=omega) only [go_sem,↓reduceIte ,xAw,xAz,xA7,xA0,xAy,xAx,rI,hb',hbi,ebf,hb];apply zDg
          case h =>
            intro K hK;unfold zC0;simp -implicitDefEqProofs (disch:=omega) only [go_sem,↓reduceIte ,xAw,xAz,xA7,xA0,xAy,xAx,rI,hb',hbi,ebf,hb]
            repeat' (first | with_reducible exact hK | with_reducible refine And.intro ?_ ?_ | ((with_reducible refine zD8 ?_);refine zB5 (r:=7) (hMb) rfl rfl rfl rfl ?_;simp -implicitDefEqProofs (disch:=omega) only [go_sem,↓reduceIte,rI]))
          simp -implicitDefEqProofs (disch:=omega) only [go_sem,↓reduceIte ,zCh,xAw];refine ⟨by omega,?_⟩

          by_cases hk:((n:Nat):Int)∈S
          · have hn:zDu q_aD ks (i+1)=⟨zA6 R bf,C,S,⟨bo++[((zE9 (zA6 R bf) bf:Nat):Int)],le,pc⟩⟩:=qAl;have hmk:=zRy hsn hk;simp -implicitDefEqProofs (disch:=omega) only [go_sem,↓reduceIte ,xAw,xAz,xA7,xA0,xAy,xAx,hlt,e1,rI,hkn,hmk,wi];refine ⟨i+1,by omega,hlt,?_⟩;rw [hn]
            try simp only [xBo,xA6,xBl,rI]
            exact zD2
          · have hn:zDu q_aD ks (i+1)=⟨zA6 (zA6 R bf) pn.North,zA6 (C) pn.East,S++[(n:Int)],⟨bo++[((zE9 (zA6 R bf) bf:Nat):Int)],le,pc++[zWi (zA6 R bf) (C) pn]⟩⟩:=qAj;have hmk:=zPa hsn hk;have hnew:=zRx S (n:Int);have hM1:=zFa (zA6 R bf) pn.North hR1n qAc;have hM2:=zFa (C) pn.East hC1n qAc;have hM3:=zFa (zA6 (zA6 R bf) pn.North) pn.South (zD7 hR1n) (by have:=zB4 (zA6 R bf) pn.North;omega);have hM4:=zFa (zA6 (C) pn.East) pn.West (zD7 hC1n) (by have:=zB4 (C) pn.East;omega);rw [zDo (zEd hs),zHd hs] at hM3;rw [zDo (zEd hw),zHd hw] at hM4;simp -implicitDefEqProofs (disch:=omega) only [go_sem,↓reduceIte ,xAw,xAz,xA7,xA0,xAy,xAx,hlt,e1,rI,hkn,hmk,hnew,hnl,epn,Piece.td_d];apply zDg
            case h =>
              intro K hK;unfold zBj;simp -implicitDefEqProofs (disch:=omega) only [go_sem,↓reduceIte]
              repeat' (first | with_reducible exact hK | with_reducible refine And.intro ?_ ?_ | ((with_reducible refine zD8 ?_);refine zB5 (r:=7) (hM1) rfl rfl rfl rfl ?_;simp -implicitDefEqProofs (disch:=omega) only [go_sem,↓reduceIte,rI]) | ((with_reducible refine zD8 ?_);refine zB5 (r:=8) (hM2) rfl rfl rfl rfl ?_;simp -implicitDefEqProofs (disch:=omega) only [go_sem,↓reduceIte,rI]))
            simp -implicitDefEqProofs (disch:=omega) only [go_sem,↓reduceIte ,zCh];apply gK;intro K' hK';refine zB5 (r:=8) hM2 rfl rfl rfl rfl ?_;subst hK';simp -implicitDefEqProofs (disch:=omega) only [go_sem,↓reduceIte]
            with_reducible refine yB6 hM3 hM4 ?_
            simp -implicitDefEqProofs (disch:=omega) only [go_sem,↓reduceIte ,zCh,xAw,wi];refine ⟨by omega,?_⟩;refine ⟨i+1,by omega,hlt,?_⟩;rw [hn]
            try simp only [xBo,xA6,xBl,rI,Piece.td_d,zWi]
            exact zD2
        · have hb':decide ((i:Int)<(q_aD.Bottom.length:Int))=false:=decide_eq_false qAc;have hbn:decide (i<q_aD.Bottom.length)=false:=decide_eq_false hb;have eB:zLj q_aD i ⟨R,C,S,⟨bo,le,pc⟩⟩=⟨R,C,S,⟨bo,le,pc⟩⟩:=qBt;rw [eL,eB] at hs hw;have hR1n:=rn;simp -implicitDefEqProofs (disch:=omega) only [go_sem,↓reduceIte ,xAw,xAz,xA7,xA0,xAy,xAx,rI,hb',hbn]

          by_cases hk:((n:Nat):Int)∈S
          · have hn:zDu q_aD ks (i+1)=⟨R,C,S,⟨bo,le,pc⟩⟩:=qAl;have hmk:=zRy hsn hk;simp -implicitDefEqProofs (disch:=omega) only [go_sem,↓reduceIte ,xAw,xAz,xA7,xA0,xAy,xAx,hlt,e1,rI,hkn,hmk,wi];refine ⟨i+1,by omega,hlt,?_⟩;rw [hn]
            try simp only [xBo,xA6,xBl,rI]
            exact zD2
          · have hn:zDu q_aD ks (i+1)=⟨zA6 (R) pn.North,zA6 (C) pn.East,S++[(n:Int)],⟨bo,le,pc++[zWi (R) (C) pn]⟩⟩:=qAj;have hmk:=zPa hsn hk;have hnew:=zRx S (n:Int);have hM1:=zFa (R) pn.North hR1n qAc;have hM2:=zFa (C) pn.East hC1n qAc;have hM3:=zFa (zA6 (R) pn.North) pn.South (zD7 hR1n) (by have:=zB4 (R) pn.North;omega);have hM4:=zFa (zA6 (C) pn.East) pn.West (zD7 hC1n) (by have:=zB4 (C) pn.East;omega);rw [zDo (zEd hs),zHd hs] at hM3;rw [zDo (zEd hw),zHd hw] at hM4;simp -implicitDefEqProofs (disch:=omega) only [go_sem,↓reduceIte ,xAw,xAz,xA7,xA0,xAy,xAx,hlt,e1,rI,hkn,hmk,hnew,hnl,epn,Piece.td_d];apply zDg
            case h =>
              intro K hK;unfold zBj;simp -implicitDefEqProofs (disch:=omega) only [go_sem,↓reduceIte]
              repeat' (first | with_reducible exact hK | with_reducible refine And.intro ?_ ?_ | ((with_reducible refine zD8 ?_);refine zB5 (r:=7) (hM1) rfl rfl rfl rfl ?_;simp -implicitDefEqProofs (disch:=omega) only [go_sem,↓reduceIte,rI]) | ((with_reducible refine zD8 ?_);refine zB5 (r:=8) (hM2) rfl rfl rfl rfl ?_;simp -implicitDefEqProofs (disch:=omega) only [go_sem,↓reduceIte,rI]))
            simp -implicitDefEqProofs (disch:=omega) only [go_sem,↓reduceIte ,zCh];apply gK;intro K' hK';refine zB5 (r:=8) hM2 rfl rfl rfl rfl ?_;subst hK';simp -implicitDefEqProofs (disch:=omega) only [go_sem,↓reduceIte]
            with_reducible refine yB6 hM3 hM4 ?_
            simp -implicitDefEqProofs (disch:=omega) only [go_sem,↓reduceIte ,zCh,xAw,wi];refine ⟨by omega,?_⟩;refine ⟨i+1,by omega,hlt,?_⟩;rw [hn]
            try simp only [xBo,xA6,xBl,rI,Piece.td_d,zWi]
            exact zD2
    · obtain rfl:i=ks.length:=qCt;simp -implicitDefEqProofs (disch:=omega) only [go_sem,↓reduceIte ,h0]
theorem zGm (N:List Int)(x:Int)(h0:0≤x)(h1:x≤119)(hN:N.length<1000):zG2 Try.prog NoG 33 0 2 [.undef,.v (.int .i64 x),.undef] [.sl true 1 ((zW7 N).map rI),.box none [.v (.int .i64 (N.length:Nat))]] (.v (.int .i64 (zE9 (zA6 N x) x:Nat))) [.sl true 1 ((zW7 (zA6 N x)).map rI),.box none [.v (.int .i64 ((zA6 N x).length:Nat))]]:=by
  obtain ⟨k,rfl⟩:∃ k:Nat,x=(k:Int):=⟨x.toNat,by omega⟩
  exact yUz N k qAc hN
def zJg (S:List Int)(n:Nat):List Bool:=(List.range n).map fun k=>decide (((k:Nat):Int)∈S)
theorem zKf (S:List Int)(n:Nat):(zJg S n).length=n:=by simp [zJg]
theorem zDx {S:List Int}{n k:Nat}(h:k<n):(zJg S n)[k]?=some (decide (((k:Nat):Int)∈S)):=by unfold zJg;rw [xAy,xEt h];rfl
theorem yVj {S:List Int}{n k:Nat}(h:k<n):(zJg S n).set k true=zJg (S++[(k:Int)]) n:=by
  apply xDc;intro j;by_cases hj:j<n
  · rw [zDx hj];by_cases hjk:k=j
    · subst hjk;rw [xBq (by rw [zKf];exact h)];simp
    · rw [xA9 hjk,zDx hj];have hne:¬ ((j:Nat):Int)=(k:Int):=by omega
      simp [hne]
  · rw [xCy (by rw [xD9,zKf];omega),xCy (by rw [zKf];omega)]
theorem yAj:zW7 []=List.replicate 120 (-1):=by rfl
theorem yF7 (n:Nat):zJg [] n=List.replicate n false:=by
  apply xDc;intro j;by_cases hj:j<n
  · rw [zDx hj,xEs,if_pos hj];simp
  · rw [xCy (by rw [zKf];omega),xCy (by rw [xE5];omega)]
theorem yDa (n:Nat):(zJg [] n).map rBo=List.replicate n [.v (.bool false)]:=by rw [yF7,xGb]
set_option maxHeartbeats 16000000 in
theorem zKc (q_aD:Design) (q_aD_ok:Design.td.ok q_aD) (q_aD_n:Design.cnt q_aD≤1048576):Contract Try.prog NoG 8 [.agg (Design.td.d false q_aD)] (.tup [.agg (Design.td.d true (zAn q_aD)),.v (.int .i64 (zCs q_aD))]):=by
  have hd:=zWe q_aD_n;have hp:=hd.p;rw [Design.td_d,Design.td_d];refine zHt ?_;unfold code_spec_CanonicalDesign zAn zCs;simp -implicitDefEqProofs (disch:=omega) only [go_sem,↓reduceIte];cases hc:decide (zA7 q_aD=0) with
  | false=>have h0:¬ zA7 q_aD=0:=qBl;rw [if_neg h0];refine zAr (zI9 q_aD hd) qAk ?_;simp -implicitDefEqProofs (disch:=omega) only [go_sem,↓reduceIte ,hc]
  | true =>
    have h0:zA7 q_aD=0:=qBl;rw [if_pos h0];have hin:=zF3 h0;have hl:=zHp q_aD;obtain ⟨hok,hall,hres⟩:=zF4 h0;have hpts:=zA1 hok;have hp1:=hpts.2.2.1;have hW:=hpts.1.1;have hW2:=hpts.1.2;have hLn:=hpts.2.1;have hfit:=(zLy qAc hall).2;have hlen:=(zLy qAc hall).1;rw [← hres] at hfit hlen;have hC:=zI9 q_aD hd;generalize zBl q_aD=ks at hin hl hC hfit hlen;refine zAr (hC) qAo ?_;simp -implicitDefEqProofs (disch:=omega) only [go_sem,↓reduceIte ,hc,xAw,xAz];refine zBv qAd (fun i:Nat=>[(8,.v (.int .i64 (i:Nat))),(6,.sl true 1 ((List.replicate i (-1:Int)).map rI)),(7,.sl true 1 ((List.replicate i (-1:Int)).map rI))]) (fun _=>by simp only [zBq,zBb,xA8,xBc];exact rfl) (fun i:Nat=>i≤120) (fun i:Nat=>120-i) (0) (zD2) (xCs _) ?_
    · intro i hi;simp -implicitDefEqProofs (disch:=omega) only [go_sem,↓reduceIte ,xAw,xAz,xA7,xA0,xAy,xAx];have hcv:decide ((i:Int)≤119)=decide (i<120):=decide_eq_decide.2 qAc;rw [hcv];refine zAp ?_ ?_<;>intro hlt
      · have hlt:i<120:=qAg;have wi:IntKind.i64.wrap ((i:Int)+1)=((i+1:Nat):Int):=wrI qAc qAc;have hrep:List.replicate (i+1) (-1:Int)=List.replicate i (-1:Int)++[-1]:=List.replicate_succ';simp -implicitDefEqProofs (disch:=omega) only [go_sem,↓reduceIte ,xAw,xAz,xA7,xA0,xAy,xAx,hlt,wi,xE5];refine ⟨by omega,by omega,i+1,by omega,by omega,?_⟩;rw [hrep,xBo];exact zD2
      · obtain rfl:i=120:=(by have:¬ i<120:=qAg;omega);simp -implicitDefEqProofs (disch:=omega) only [go_sem,↓reduceIte ,xAw,xAz]
        repeat (refine And.intro qAc ?_)
        refine zBv qAd (fun i:Nat=>[(14,.v (.int .i64 (i:Nat))),(6,.sl true 1 ((zW7 (zDu q_aD ks i).R).map rI)),(7,.sl true 1 ((zW7 (zDu q_aD ks i).C).map rI)),(9,.box none [.v (.int .i64 ((zDu q_aD ks i).R.length:Nat))]),(10,.box none [.v (.int .i64 ((zDu q_aD ks i).C.length:Nat))]),(11,.box none [.sl true 1 ((zDu q_aD ks i).out.Bottom.map rI),.sl true 1 ((zDu q_aD ks i).out.Left.map rI),.sl true 5 ((zDu q_aD ks i).out.Pieces.map (Piece.td.d true))]),(12,.sl true 1 ((zJg (zDu q_aD ks i).S q_aD.Pieces.length).map rBo))]) (fun _=>by simp only [zBq,zBb,xA8,xBc];exact rfl) (fun i:Nat=>i≤ks.length) (fun i:Nat=>ks.length-i) (0) (by rw [show zW7 (zDu q_aD ks 0).R=List.replicate 120 (-1) from yAj,show zW7 (zDu q_aD ks 0).C=List.replicate 120 (-1) from yAj,show (zJg (zDu q_aD ks 0).S q_aD.Pieces.length).map rBo=List.replicate q_aD.Pieces.length [.v (.bool false)] from yDa _,xGb];exact qAa) (xCs _) ?_;intro i hi;simp -implicitDefEqProofs (disch:=omega) only [go_sem,↓reduceIte ,xAw,xAz,xA7,xA0,xAy,xAx];refine zAp ?_ ?_<;>intro hlt
        · have hlt:i<ks.length:=qAg;have e1:=xA1 hlt;have hI:=zQd qAc hfit i qAc;obtain ⟨hI2,hs,hw⟩:=zO1 qAc hI hlt (hfit i hlt);have hnx:=zEb q_aD ks i;have hkd:ks.getD i 0=ks[i]:=(by rw [xA3,e1];rfl);have hki:=hin _ (xB3 hlt);rw [hkd] at hs hw;have hm:(i:Int).tmod (q_aD.Bottom.length:Int)=((i % q_aD.Bottom.length:Nat):Int):=(Int.ofNat_tmod _ _).symm;have hq:(i:Int).tdiv (q_aD.Bottom.length:Int)=((i / q_aD.Bottom.length:Nat):Int):=(Int.ofNat_tdiv _ _).symm;have hlq:i / q_aD.Bottom.length<q_aD.Left.length:=Nat.div_lt_of_lt_mul (by rw [xEz,← hlen];exact hlt);have hW0:decide ((q_aD.Bottom.length:Int)=0)=false:=decide_eq_false qAc;obtain ⟨n,hkn',hnl⟩:∃ n:Nat,ks[i]=(n:Int)∧n<q_aD.Pieces.length:=⟨ks[i].toNat,by omega,by omega⟩
          have hkn:ks.getD i 0=(n:Int):=(by rw [hkd,hkn']);rw [hkn'] at e1;rw [hkn'] at hs hw;have epn:=xA1 hnl;have hgp:gP q_aD.Pieces (n:Int)=q_aD.Pieces[n]:=(by unfold gP;rw [xAz,xA3,epn];rfl);have hpc:=hpts.2.2.2.1 _ (xB3 hnl);rw [hgp] at hs hw;obtain ⟨rn,cn,rl,cl,sl,hsn,ll,bl,pl,sm,si,me⟩:=hI;unfold yEp at hnx;generalize zDu q_aD ks i=st at hs hw hnx rn cn rl cl sl hsn ll bl pl sm si me hI2;obtain ⟨R,C,S,⟨bo,le,pc⟩⟩:=st;clear hI2 sm si me;simp only at rn cn rl cl sl hsn ll bl pl;generalize q_aD.Pieces[n]=pn at hs hw hgp epn hpc;obtain ⟨co,no,ea,so,we⟩:=pn;unfold zTy at hpc;simp only [xA2,zDq] at hpc;obtain ⟨_,hno,hea,hso,hwe⟩:=hpc;obtain ⟨so,rfl⟩:∃ k:Nat,so=(k:Int):=⟨so.toNat,by omega⟩
          obtain ⟨we,rfl⟩:∃ k:Nat,we=(k:Int):=⟨we.toNat,by omega⟩
          have hso:so<120:=qAc;have hwe:we<120:=qAc;simp only at hs hw;have hsl:=zKf S q_aD.Pieces.length;have elf:q_aD.Left[i / q_aD.Bottom.length]?=some (q_aD.Left.getD (i / q_aD.Bottom.length) 0):=getD_at hlq;have hlr:=hpts.2.2.2.2.2.2 _ (xDi elf);generalize hlf:q_aD.Left.getD (i / q_aD.Bottom.length) 0=lf at elf hlr;have wi:IntKind.i64.wrap ((i:Int)+1)=((i+1:Nat):Int):=wrI qAc qAc;simp -implicitDefEqProofs (disch:=omega) only [go_sem,↓reduceIte ,xAw,xAz,xA7,xA0,xAy,xAx,hlt,e1,rI,hm,hW0];refine ⟨by omega,?_⟩;have hWn:¬ (q_aD.Bottom.length:Int)=0:=qAc;by_cases hz:i % q_aD.Bottom.length=0
          · have hz':decide (((i % q_aD.Bottom.length:Nat):Int)=0)=true:=decide_eq_true qAc;have eL:zI8 q_aD i ⟨R,C,S,⟨bo,le,pc⟩⟩=⟨R,zA6 C lf,S,⟨bo,le++[((zE9 (zA6 C lf) lf:Nat):Int)],pc⟩⟩:=(by unfold zI8;rw [if_pos hz];simp only [hlf]);have hC1l:=zB4 C lf;have hMa:=zGm C lf hlr.1 hlr.2 qAc;have hqw:IntKind.i64.wrap ((i / q_aD.Bottom.length:Nat):Int)=((i / q_aD.Bottom.length:Nat):Int):=(fun (q:Nat) (h:q<11)=>(wrI qAc qAc:IntKind.i64.wrap (q:Int)=(q:Int))) _ (xCj hlq qAc);have hlqi:((i / q_aD.Bottom.length:Nat):Int)<(q_aD.Left.length:Int):=qAc;simp -implicitDefEqProofs (disch:=omega) only [go_sem,↓reduceIte ,xAw,xAz,xA7,xA0,xAy,xAx,hz',hq,hqw,hW0,hlqi,elf,rI,hlq];apply zDg
            case h =>
              intro K hK;simp -implicitDefEqProofs (disch:=omega) only [go_sem,↓reduceIte ,xAw,xAz,xA7,xA0,xAy,xAx,hz',hq,hqw,hW0,hlqi,elf,rI,hlq]
              repeat' (first | with_reducible exact hK | with_reducible refine And.intro ?_ ?_ | exact hWn | ((with_reducible refine zD8 ?_);refine zD0 (r1:=7) (r2:=10) (hMa) qAx rfl rfl rfl rfl rfl rfl rfl ?_;simp -implicitDefEqProofs (disch:=omega) only [go_sem,↓reduceIte,rI]))
            simp -implicitDefEqProofs (disch:=omega) only [go_sem,↓reduceIte ,zCh,xAw];refine ⟨by omega,?_⟩;by_cases hb:i<q_aD.Bottom.length
            · have ebf:q_aD.Bottom[i]?=some (q_aD.Bottom.getD i 0):=getD_at hb;have hbr:=hpts.2.2.2.2.2.1 _ (xDi ebf);generalize hbf:q_aD.Bottom.getD i 0=bf at ebf hbr;have hb':decide ((i:Int)<(q_aD.Bottom.length:Int))=true:=decide_eq_true qAc;have hbi:(i:Int)<(q_aD.Bottom.length:Int):=qAc;have eB:zLj q_aD i ⟨R,zA6 C lf,S,⟨bo,le++[((zE9 (zA6 C lf) lf:Nat):Int)],pc⟩⟩=⟨zA6 R bf,zA6 C lf,S,⟨bo++[((zE9 (zA6 R bf) bf:Nat):Int)],le++[((zE9 (zA6 C lf) lf:Nat):Int)],pc⟩⟩:=qBh;rw [eL,eB] at hs hw;have hR1l:=zB4 R bf;have hMb:=zGm R bf hbr.1 hbr.2 qAc;simp -implicitDefEqProofs (disch:=omega) only [go_sem,↓reduceIte ,xAw,xAz,xA7,xA0,xAy,xAx,rI,hb',hbi,ebf,hb];apply zDg
              case h =>
                intro K hK;simp -implicitDefEqProofs (disch:=omega) only [go_sem,↓reduceIte ,xAw,xAz,xA7,xA0,xAy,xAx,rI,hb',hbi,ebf,hb]
                repeat' (first | with_reducible exact hK | with_reducible refine And.intro ?_ ?_ | ((with_reducible refine zD8 ?_);refine zD0 (r1:=6) (r2:=9) (hMb) qAx rfl rfl rfl rfl rfl rfl rfl ?_;simp -implicitDefEqProofs (disch:=omega) only [go_sem,↓reduceIte,rI]))
              simp -implicitDefEqProofs (disch:=omega) only [go_sem,↓reduceIte ,zCh,xAw];refine ⟨by omega,?_⟩

              simp -implicitDefEqProofs (disch:=omega) only [go_sem,↓reduceIte ,xAw,xAz,xA7,xA0,xAy,xAx,hlt,e1,rI,hkn,hnl,epn,Piece.td_d];by_cases hk:((n:Nat):Int)∈S
              · have hn:zDu q_aD ks (i+1)=⟨zA6 R bf,zA6 C lf,S,⟨bo++[((zE9 (zA6 R bf) bf:Nat):Int)],le++[((zE9 (zA6 C lf) lf:Nat):Int)],pc⟩⟩:=qAl;have hsg:=zDx (S:=S) hnl;rw [decide_eq_true hk] at hsg;simp -implicitDefEqProofs (disch:=omega) only [go_sem,↓reduceIte ,xAw,xAz,xA7,xA0,xAy,xAx,hlt,e1,rI,rBo,hkn,hsg,hsl,hnl,wi];refine ⟨i+1,by omega,hlt,?_⟩;rw [hn]
                try simp only [xBo,xA6,xBl,rI]
                exact zD2
              · have hn:zDu q_aD ks (i+1)=⟨zA6 (zA6 R bf) no,zA6 (zA6 C lf) ea,S++[(n:Int)],⟨bo++[((zE9 (zA6 R bf) bf:Nat):Int)],le++[((zE9 (zA6 C lf) lf:Nat):Int)],pc++[zWi (zA6 R bf) (zA6 C lf) ⟨co,no,ea,so,we⟩]⟩⟩:=qAj;have hsg:=zDx (S:=S) hnl;rw [decide_eq_false hk] at hsg;have hss:((zJg S q_aD.Pieces.length).map rBo).set n [.v (.bool true)]=(zJg (S++[(n:Int)]) q_aD.Pieces.length).map rBo:=qBw;have hM1:=zGm (zA6 R bf) no hno.1 hno.2 qAc;have hM2:=zGm (zA6 C lf) ea hea.1 hea.2 qAc;have htS:=zEc (N:=zA6 R bf) hso;have htW:=zEc (N:=zA6 C lf) hwe;rw [if_pos hs] at htS;rw [if_pos hw] at htW;have hlS:=zD3 (zA6 R bf);have hlW:=zD3 (zA6 C lf);simp -implicitDefEqProofs (disch:=omega) only [go_sem,↓reduceIte ,xAw,xAz,xA7,xA0,xAy,xAx,hlt,e1,rI,rBo,hkn,hsg,hsl,hss,hnl,htS,htW,hlS,hlW,hso,hwe];refine zD0 (r1:=6) (r2:=9) hM1 qAx rfl rfl rfl rfl rfl rfl rfl ?_;simp -implicitDefEqProofs (disch:=omega) only [go_sem,↓reduceIte];refine zD0 (r1:=7) (r2:=10) hM2 qAx rfl rfl rfl rfl rfl rfl rfl ?_;simp -implicitDefEqProofs (disch:=omega) only [go_sem,↓reduceIte ,xAw,wi];refine ⟨by omega,?_⟩;refine ⟨i+1,by omega,hlt,?_⟩;rw [hn]
                try simp only [xBo,xA6,xBl,rI,Piece.td_d,zWi]
                exact zD2
            · have hb':decide ((i:Int)<(q_aD.Bottom.length:Int))=false:=decide_eq_false qAc;have hbn:decide (i<q_aD.Bottom.length)=false:=decide_eq_false hb;have eB:zLj q_aD i ⟨R,zA6 C lf,S,⟨bo,le++[((zE9 (zA6 C lf) lf:Nat):Int)],pc⟩⟩=⟨R,zA6 C lf,S,⟨bo,le++[((zE9 (zA6 C lf) lf:Nat):Int)],pc⟩⟩:=qBt;rw [eL,eB] at hs hw;simp -implicitDefEqProofs (disch:=omega) only [go_sem,↓reduceIte ,xAw,xAz,xA7,xA0,xAy,xAx,rI,hb',hbn]

              simp -implicitDefEqProofs (disch:=omega) only [go_sem,↓reduceIte ,xAw,xAz,xA7,xA0,xAy,xAx,hlt,e1,rI,hkn,hnl,epn,Piece.td_d];by_cases hk:((n:Nat):Int)∈S
              · have hn:zDu q_aD ks (i+1)=⟨R,zA6 C lf,S,⟨bo,le++[((zE9 (zA6 C lf) lf:Nat):Int)],pc⟩⟩:=qAl;have hsg:=zDx (S:=S) hnl;rw [decide_eq_true hk] at hsg;simp -implicitDefEqProofs (disch:=omega) only [go_sem,↓reduceIte ,xAw,xAz,xA7,xA0,xAy,xAx,hlt,e1,rI,rBo,hkn,hsg,hsl,hnl,wi];refine ⟨i+1,by omega,hlt,?_⟩;rw [hn]
                try simp only [xBo,xA6,xBl,rI]
                exact zD2
              · have hn:zDu q_aD ks (i+1)=⟨zA6 (R) no,zA6 (zA6 C lf) ea,S++[(n:Int)],⟨bo,le++[((zE9 (zA6 C lf) lf:Nat):Int)],pc++[zWi (R) (zA6 C lf) ⟨co,no,ea,so,we⟩]⟩⟩:=qAj;have hsg:=zDx (S:=S) hnl;rw [decide_eq_false hk] at hsg;have hss:((zJg S q_aD.Pieces.length).map rBo).set n [.v (.bool true)]=(zJg (S++[(n:Int)]) q_aD.Pieces.length).map rBo:=qBw;have hM1:=zGm (R) no hno.1 hno.2 qAc;have hM2:=zGm (zA6 C lf) ea hea.1 hea.2 qAc;have htS:=zEc (N:=R) hso;have htW:=zEc (N:=zA6 C lf) hwe;rw [if_pos hs] at htS;rw [if_pos hw] at htW;have hlS:=zD3 (R);have hlW:=zD3 (zA6 C lf);simp -implicitDefEqProofs (disch:=omega) only [go_sem,↓reduceIte ,xAw,xAz,xA7,xA0,xAy,xAx,hlt,e1,rI,rBo,hkn,hsg,hsl,hss,hnl,htS,htW,hlS,hlW,hso,hwe];refine zD0 (r1:=6) (r2:=9) hM1 qAx rfl rfl rfl rfl rfl rfl rfl ?_;simp -implicitDefEqProofs (disch:=omega) only [go_sem,↓reduceIte];refine zD0 (r1:=7) (r2:=10) hM2 qAx rfl rfl rfl rfl rfl rfl rfl ?_;simp -implicitDefEqProofs (disch:=omega) only [go_sem,↓reduceIte ,xAw,wi];refine ⟨by omega,?_⟩;refine ⟨i+1,by omega,hlt,?_⟩;rw [hn]
                try simp only [xBo,xA6,xBl,rI,Piece.td_d,zWi]
                exact zD2
          · have hz':decide (((i % q_aD.Bottom.length:Nat):Int)=0)=false:=decide_eq_false qAc;have eL:zI8 q_aD i ⟨R,C,S,⟨bo,le,pc⟩⟩=⟨R,C,S,⟨bo,le,pc⟩⟩:=(by unfold zI8;rw [if_neg hz]);simp -implicitDefEqProofs (disch:=omega) only [go_sem,↓reduceIte ,xAw,xAz,xA7,xA0,xAy,xAx,hz',rI];by_cases hb:i<q_aD.Bottom.length
            · have ebf:q_aD.Bottom[i]?=some (q_aD.Bottom.getD i 0):=getD_at hb;have hbr:=hpts.2.2.2.2.2.1 _ (xDi ebf);generalize hbf:q_aD.Bottom.getD i 0=bf at ebf hbr;have hb':decide ((i:Int)<(q_aD.Bottom.length:Int))=true:=decide_eq_true qAc;have hbi:(i:Int)<(q_aD.Bottom.length:Int):=qAc;have eB:zLj q_aD i ⟨R,C,S,⟨bo,le,pc⟩⟩=⟨zA6 R bf,C,S,⟨bo++[((zE9 (zA6 R bf) bf:Nat):Int)],le,pc⟩⟩:=qBh;rw [eL,eB] at hs hw;have hR1l:=zB4 R bf;have hMb:=zGm R bf hbr.1 hbr.2 qAc;simp -implicitDefEqProofs (disch:=omega) only [go_sem,↓reduceIte ,xAw,xAz,xA7,xA0,xAy,xAx,rI,hb',hbi,ebf,hb];apply zDg
              case h =>
                intro K hK;simp -implicitDefEqProofs (disch:=omega) only [go_sem,↓reduceIte ,xAw,xAz,xA7,xA0,xAy,xAx,rI,hb',hbi,ebf,hb]
                repeat' (first | with_reducible exact hK | with_reducible refine And.intro ?_ ?_ | ((with_reducible refine zD8 ?_);refine zD0 (r1:=6) (r2:=9) (hMb) qAx rfl rfl rfl rfl rfl rfl rfl ?_;simp -implicitDefEqProofs (disch:=omega) only [go_sem,↓reduceIte,rI]))
              simp -implicitDefEqProofs (disch:=omega) only [go_sem,↓reduceIte ,zCh,xAw];refine ⟨by omega,?_⟩

              simp -implicitDefEqProofs (disch:=omega) only [go_sem,↓reduceIte ,xAw,xAz,xA7,xA0,xAy,xAx,hlt,e1,rI,hkn,hnl,epn,Piece.td_d];by_cases hk:((n:Nat):Int)∈S
              · have hn:zDu q_aD ks (i+1)=⟨zA6 R bf,C,S,⟨bo++[((zE9 (zA6 R bf) bf:Nat):Int)],le,pc⟩⟩:=qAl;have hsg:=zDx (S:=S) hnl;rw [decide_eq_true hk] at hsg;simp -implicitDefEqProofs (disch:=omega) only [go_sem,↓reduceIte ,xAw,xAz,xA7,xA0,xAy,xAx,hlt,e1,rI,rBo,hkn,hsg,hsl,hnl,wi];refine ⟨i+1,by omega,hlt,?_⟩;rw [hn]
                try simp only [xBo,xA6,xBl,rI]
                exact zD2
              · have hn:zDu q_aD ks (i+1)=⟨zA6 (zA6 R bf) no,zA6 (C) ea,S++[(n:Int)],⟨bo++[((zE9 (zA6 R bf) bf:Nat):Int)],le,pc++[zWi (zA6 R bf) (C) ⟨co,no,ea,so,we⟩]⟩⟩:=qAj;have hsg:=zDx (S:=S) hnl;rw [decide_eq_false hk] at hsg;have hss:((zJg S q_aD.Pieces.length).map rBo).set n [.v (.bool true)]=(zJg (S++[(n:Int)]) q_aD.Pieces.length).map rBo:=qBw;have hM1:=zGm (zA6 R bf) no hno.1 hno.2 qAc;have hM2:=zGm (C) ea hea.1 hea.2 qAc;have htS:=zEc (N:=zA6 R bf) hso;have htW:=zEc (N:=C) hwe;rw [if_pos hs] at htS;rw [if_pos hw] at htW;have hlS:=zD3 (zA6 R bf);have hlW:=zD3 (C);simp -implicitDefEqProofs (disch:=omega) only [go_sem,↓reduceIte ,xAw,xAz,xA7,xA0,xAy,xAx,hlt,e1,rI,rBo,hkn,hsg,hsl,hss,hnl,htS,htW,hlS,hlW,hso,hwe];refine zD0 (r1:=6) (r2:=9) hM1 qAx rfl rfl rfl rfl rfl rfl rfl ?_;simp -implicitDefEqProofs (disch:=omega) only [go_sem,↓reduceIte];refine zD0 (r1:=7) (r2:=10) hM2 qAx rfl rfl rfl rfl rfl rfl rfl ?_;simp -implicitDefEqProofs (disch:=omega) only [go_sem,↓reduceIte ,xAw,wi];refine ⟨by omega,?_⟩;refine ⟨i+1,by omega,hlt,?_⟩;rw [hn]
                try simp only [xBo,xA6,xBl,rI,Piece.td_d,zWi]
                exact zD2
            · have hb':decide ((i:Int)<(q_aD.Bottom.length:Int))=false:=decide_eq_false qAc;have hbn:decide (i<q_aD.Bottom.length)=false:=decide_eq_false hb;have eB:zLj q_aD i ⟨R,C,S,⟨bo,le,pc⟩⟩=⟨R,C,S,⟨bo,le,pc⟩⟩:=qBt;rw [eL,eB] at hs hw;simp -implicitDefEqProofs (disch:=omega) only [go_sem,↓reduceIte ,xAw,xAz,xA7,xA0,xAy,xAx,rI,hb',hbn]

              simp -implicitDefEqProofs (disch:=omega) only [go_sem,↓reduceIte ,xAw,xAz,xA7,xA0,xAy,xAx,hlt,e1,rI,hkn,hnl,epn,Piece.td_d];by_cases hk:((n:Nat):Int)∈S
              · have hn:zDu q_aD ks (i+1)=⟨R,C,S,⟨bo,le,pc⟩⟩:=qAl;have hsg:=zDx (S:=S) hnl;rw [decide_eq_true hk] at hsg;simp -implicitDefEqProofs (disch:=omega) only [go_sem,↓reduceIte ,xAw,xAz,xA7,xA0,xAy,xAx,hlt,e1,rI,rBo,hkn,hsg,hsl,hnl,wi];refine ⟨i+1,by omega,hlt,?_⟩;rw [hn]
                try simp only [xBo,xA6,xBl,rI]
                exact zD2
              · have hn:zDu q_aD ks (i+1)=⟨zA6 (R) no,zA6 (C) ea,S++[(n:Int)],⟨bo,le,pc++[zWi (R) (C) ⟨co,no,ea,so,we⟩]⟩⟩:=qAj;have hsg:=zDx (S:=S) hnl;rw [decide_eq_false hk] at hsg;have hss:((zJg S q_aD.Pieces.length).map rBo).set n [.v (.bool true)]=(zJg (S++[(n:Int)]) q_aD.Pieces.length).map rBo:=qBw;have hM1:=zGm (R) no hno.1 hno.2 qAc;have hM2:=zGm (C) ea hea.1 hea.2 qAc;have htS:=zEc (N:=R) hso;have htW:=zEc (N:=C) hwe;rw [if_pos hs] at htS;rw [if_pos hw] at htW;have hlS:=zD3 (R);have hlW:=zD3 (C);simp -implicitDefEqProofs (disch:=omega) only [go_sem,↓reduceIte ,xAw,xAz,xA7,xA0,xAy,xAx,hlt,e1,rI,rBo,hkn,hsg,hsl,hss,hnl,htS,htW,hlS,hlW,hso,hwe];refine zD0 (r1:=6) (r2:=9) hM1 qAx rfl rfl rfl rfl rfl rfl rfl ?_;simp -implicitDefEqProofs (disch:=omega) only [go_sem,↓reduceIte];refine zD0 (r1:=7) (r2:=10) hM2 qAx rfl rfl rfl rfl rfl rfl rfl ?_;simp -implicitDefEqProofs (disch:=omega) only [go_sem,↓reduceIte ,xAw,wi];refine ⟨by omega,?_⟩;refine ⟨i+1,by omega,hlt,?_⟩;rw [hn]
                try simp only [xBo,xA6,xBl,rI,Piece.td_d,zWi]
                exact zD2
        · obtain rfl:i=ks.length:=qCt;simp -implicitDefEqProofs (disch:=omega) only [go_sem,↓reduceIte ,h0]
def zPp (L:List Int)(k:Int):List Int:=L.set k.toNat (L.getD k.toNat 0+1)
def zHi (n:Nat)(ks:List Int):List Int:=ks.foldl zPp (List.replicate n 0)
theorem yCo (n:Nat){ks:List Int}{i:Nat}(h:i<ks.length):zHi n (ks.take (i+1))=zPp (zHi n (ks.take i)) ks[i]:=by unfold zHi;rw [xCd h,xDx];rfl
theorem zR9:∀ (ks:List Int) (L:List Int) (k:Nat),(∀ x,x∈L→0≤x∧x≤k)→(ks.foldl zPp L).length=L.length∧∀ x,x∈ks.foldl zPp L→0≤x∧x≤((k+ks.length:Nat):Int)
  | [],L,k,h=>⟨rfl,fun x hx=>by have:=h x hx;simpa using this⟩
  | t :: ks,L,k,h=>by
    obtain ⟨h1,h2⟩:=zR9 ks (zPp L t) (k+1) (fun x hx=>by
      unfold zPp at hx;rcases xFc hx with hx | rfl
      · have:=h x hx;omega
      · rw [xA3];cases hs:L[t.toNat]? with
        | none=>simp only [Option.getD_none];omega
        | some v=>have:=h v (xDi hs);simp only [xDd];omega)
    refine ⟨by rw [xDm,h1];unfold zPp;rw [xD9],fun x hx=>?_⟩;have:=h2 x hx;rw [xBk];omega
theorem zWt (n:Nat)(ks:List Int):(zHi n ks).length=n:=by have:=(zR9 ks (List.replicate n 0) 0 (fun x hx=>by rw [xGj hx];omega)).1;rwa [xE5] at this
theorem zZ6 (n:Nat)(ks:List Int):∀ x,x∈zHi n ks→0≤x∧x≤(ks.length:Int):=by have:=(zR9 ks (List.replicate n 0) 0 (fun x hx=>by rw [xGj hx];omega)).2;intro x hx;have:=this x hx;omega
def zNz (d:Design):List Int:=if zA7 d=0 then zHi d.Pieces.length (zBl d) else []
def zN0 (d:Design):Int:=zA7 d
def code_impl_PiecesUsed:VCode:=(.seq (.ops [
  ⟨some 1,none,.box (.tmp 0)⟩,
  ⟨some 2,none,.asg (.const (.slice none 0 0))⟩,
  ⟨some 3,none,.asg (.const (.int .i64 0))⟩]) (.seq (.ops [
  ⟨some 10,none,.load 3 true (.tmp 1)⟩,
  ⟨some 11,none,.callX 36 [(.tmp 10)]⟩,
  ⟨some 9,none,.mv (.tmp 11)⟩,
  ⟨some 12,none,.ext (.tmp 9) 0⟩,
  ⟨some 13,none,.ext (.tmp 9) 1⟩,
  ⟨some 4,none,.asg (.tmp 12)⟩,
  ⟨some 5,none,.asg (.tmp 13)⟩]) (.seq (.seq (.ops [
  ⟨some 14,none,.mv (.tmp 5)⟩,
  ⟨some 15,none,.bin .neq (.tmp 14) (.const (.int .i64 0))⟩]) (.cond (.tmp 15) (.seq (.ops [
  ⟨some 16,none,.mv (.tmp 5)⟩,
  ⟨some 2,none,.asg (.const (.slice none 0 0))⟩,
  ⟨some 3,none,.asg (.tmp 16)⟩]) .ret) .skip)) (.seq (.ops [
  ⟨some 17,none,.fa 2 (.tmp 1)⟩,
  ⟨some 18,none,.load 1 false (.tmp 17)⟩,
  ⟨some 19,none,.len (.tmp 18)⟩,
  ⟨some 20,none,.mks 1 8 [(.int .i64 0)] (.tmp 19) (.tmp 19)⟩,
  ⟨some 6,none,.asg (.tmp 20)⟩]) (.seq (.seq (.ops [
  ⟨some 21,none,.mv (.tmp 4)⟩,
  ⟨some 22,none,.len (.tmp 21)⟩,
  ⟨some 23,none,.mv (.const (.int .i64 0))⟩]) (.block 0 (.loop (mB 35 34344001965) (.seq (.ops [
  ⟨some 24,none,.bin .lss (.tmp 23) (.tmp 22)⟩]) (.seq (.cond (.tmp 24) .skip (.exit 0)) (.seq (.block 1 (.seq (.ops [
  ⟨some 25,none,.ia 1 (.tmp 21) (.tmp 23)⟩,
  ⟨some 26,none,.load 1 false (.tmp 25)⟩,
  ⟨some 8,none,.asg (.tmp 26)⟩]) (.ops [
  ⟨some 27,none,.mv (.tmp 6)⟩,
  ⟨some 28,none,.mv (.tmp 8)⟩,
  ⟨some 29,none,.ia 1 (.tmp 27) (.tmp 28)⟩,
  ⟨some 30,none,.load 1 false (.tmp 29)⟩,
  ⟨some 31,none,.bin .add (.tmp 30) (.const (.int .i64 1))⟩,
  ⟨some 32,none,.ia 1 (.tmp 27) (.tmp 28)⟩,
  ⟨none,none,.store 1 (.tmp 32) (.tmp 31)⟩]))) (.ops [
  ⟨some 33,none,.bin .add (.tmp 23) (.const (.int .i64 1))⟩,
  ⟨some 23,none,.mv (.tmp 33)⟩]))))))) (.seq (.ops [
  ⟨some 34,none,.mv (.tmp 6)⟩,
  ⟨some 2,none,.asg (.tmp 34)⟩,
  ⟨some 3,none,.asg (.const (.int .i64 0))⟩]) .ret))))))
theorem zL5 {a0 d:D}(h:code_impl_PiecesUsed.wp (CT Try.prog NoG) (zHy [(.t 2),(.t 3)] d) [a0,.undef,.undef,.undef,.undef,.undef,.undef,.undef,.undef,.undef,.undef,.undef,.undef,.undef,.undef,.undef,.undef,.undef,.undef,.undef,.undef,.undef,.undef,.undef,.undef,.undef,.undef,.undef,.undef,.undef,.undef,.undef,.undef,.undef,.undef]):Contract Try.prog NoG 29 [a0] d :=
  zAo (pt:=0) noG Try.func29 (fun us W=>by kernel_rfl) (c:=Try.f29.body.getD .skip) (ms:=[(mB 35 34344001965)]) (ms':=[]) (by kernel_rfl) (by kernel_rfl) (by kernel_rfl) h
set_option maxHeartbeats 1000000 in
theorem zQ1 (q_aD:Design)(q_aD_ok:Design.td.ok q_aD)(q_aD_n:Design.cnt q_aD≤1048576):Contract Try.prog NoG 29 [.agg (Design.td.d false q_aD)] (.tup [.sl true 1 ((zNz q_aD).map rI),.v (.int .i64 (zN0 q_aD))]):=by
  have hd:=zWe q_aD_n;have hp:=hd.p;rw [Design.td_d];refine zL5 ?_;unfold code_impl_PiecesUsed zNz zN0;simp -implicitDefEqProofs (disch:=omega) only [go_sem,↓reduceIte];cases hc:decide (zA7 q_aD=0) with
  | false=>have h0:¬ zA7 q_aD=0:=qBl;rw [if_neg h0];refine zAr (zCq q_aD hd) qAk ?_;simp -implicitDefEqProofs (disch:=omega) only [go_sem,↓reduceIte ,hc]
  | true =>
    have h0:zA7 q_aD=0:=qBl;rw [if_pos h0];have hin:=zF3 h0;have hl:=zHp q_aD;obtain ⟨hok,_,_⟩:=zF4 h0;have hp1:=(zA1 hok).2.2.1;have hC:=zCq q_aD hd;generalize zBl q_aD=ks at hin hl hC;refine zAr (hC) qAo ?_;simp -implicitDefEqProofs (disch:=omega) only [go_sem,↓reduceIte ,hc,xAw,xAz]
    repeat (refine And.intro qAc ?_)
    refine zBv qAd (fun i:Nat=>[(23,.v (.int .i64 (i:Nat))),(6,.sl true 1 ((zHi q_aD.Pieces.length (ks.take i)).map rI))]) (fun _=>by simp only [zBq,zBb,xA8,xBc];exact rfl) (fun i:Nat=>i≤ks.length) (fun i:Nat=>ks.length-i) (0) (by rw [show zHi q_aD.Pieces.length (ks.take 0)=List.replicate q_aD.Pieces.length 0 from rfl,xGb];exact qAa) (xCs _) ?_;intro i hi;simp -implicitDefEqProofs (disch:=omega) only [go_sem,↓reduceIte ,xAw,xAz,xA7,xA0,xAy,xAx];refine zAp ?_ ?_<;>intro hlt
    · have hlt:i<ks.length:=qAg;have e1:=xA1 hlt;obtain ⟨n,hn',hnl⟩:∃ n:Nat,ks[i]=(n:Int)∧n<q_aD.Pieces.length:=⟨ks[i].toNat,by have:=hin _ (xB3 hlt);omega,by have:=hin _ (xB3 hlt);omega⟩
      have hcl:=zWt q_aD.Pieces.length (ks.take i);have e2:=getD_at (xs:=zHi q_aD.Pieces.length (ks.take i)) (k:=n) (by rw [hcl];exact hnl)
      have hci:=zZ6 q_aD.Pieces.length (ks.take i) _ (xDi e2);rw [xDh] at hci;have hw:IntKind.i64.wrap ((zHi q_aD.Pieces.length (ks.take i)).getD n 0+1)=(zHi q_aD.Pieces.length (ks.take i)).getD n 0+1:=wrI qAc qAc;have hnx:=yCo q_aD.Pieces.length hlt;unfold zPp at hnx;rw [hn',xAz] at hnx;have hset:((zHi q_aD.Pieces.length (ks.take i)).map rI).set n [.v (.int .i64 ((zHi q_aD.Pieces.length (ks.take i)).getD n 0+1))]=(zHi q_aD.Pieces.length (ks.take (i+1))).map rI:=(by rw [hnx,xGa]);simp -implicitDefEqProofs (disch:=omega) only [go_sem,↓reduceIte ,xAw,xAz,xA7,xA0,xAy,xAx,hlt,e1,rI,hn',hcl,hnl,e2,hw,hset,wrN];exact ⟨i+1,by omega,hlt,zD2⟩
    · obtain rfl:i=ks.length:=qCt;simp -implicitDefEqProofs (disch:=omega) only [go_sem,↓reduceIte ,xDj,h0]
def yEc (d:Design)(ks:List Int):List Int:=ks.map fun k=>(gP d.Pieces k).Color
def zPs (d:Design):Pattern:=if zA7 d=0 then ⟨d.Bottom.length,d.Left.length,yEc d (zBl d)⟩ else ⟨0,0,[]⟩
theorem yZp {ps:List Piece}{i:Nat}(h:i<ps.length):gP ps (i:Int)=ps[i]:=by unfold gP;rw [xAz,xA3,xA1 h];rfl
def code_impl_PaintOf:VCode:=(.seq (.ops [
  ⟨some 1,none,.box (.tmp 0)⟩,
  ⟨some 2,none,.alloc [(.int .i64 0),(.int .i64 0),(.slice none 0 0)]⟩,
  ⟨some 3,none,.asg (.const (.int .i64 0))⟩]) (.seq (.ops [
  ⟨some 10,none,.load 3 true (.tmp 1)⟩,
  ⟨some 11,none,.callX 36 [(.tmp 10)]⟩,
  ⟨some 9,none,.mv (.tmp 11)⟩,
  ⟨some 12,none,.ext (.tmp 9) 0⟩,
  ⟨some 13,none,.ext (.tmp 9) 1⟩,
  ⟨some 4,none,.asg (.tmp 12)⟩,
  ⟨some 5,none,.asg (.tmp 13)⟩]) (.seq (.seq (.ops [
  ⟨some 14,none,.mv (.tmp 5)⟩,
  ⟨some 15,none,.bin .neq (.tmp 14) (.const (.int .i64 0))⟩]) (.cond (.tmp 15) (.seq (.ops [
  ⟨some 16,none,.build [(.int .i64 0),(.int .i64 0),(.slice none 0 0)] []⟩,
  ⟨some 17,none,.mv (.tmp 5)⟩,
  ⟨none,none,.store 3 (.tmp 2) (.tmp 16)⟩,
  ⟨some 3,none,.asg (.tmp 17)⟩]) .ret) .skip)) (.seq (.ops [
  ⟨some 18,none,.fa 0 (.tmp 1)⟩,
  ⟨some 19,none,.load 1 false (.tmp 18)⟩,
  ⟨some 20,none,.len (.tmp 19)⟩,
  ⟨some 21,none,.fa 1 (.tmp 1)⟩,
  ⟨some 22,none,.load 1 false (.tmp 21)⟩,
  ⟨some 23,none,.len (.tmp 22)⟩,
  ⟨some 24,none,.build [(.int .i64 0),(.int .i64 0),(.slice none 0 0)] [(0,1,(.tmp 20)),(1,1,(.tmp 23))]⟩,
  ⟨some 6,none,.alloc [(.int .i64 0),(.int .i64 0),(.slice none 0 0)]⟩,
  ⟨none,none,.store 3 (.tmp 6) (.tmp 24)⟩]) (.seq (.seq (.ops [
  ⟨some 25,none,.mv (.tmp 4)⟩,
  ⟨some 26,none,.len (.tmp 25)⟩,
  ⟨some 27,none,.mv (.const (.int .i64 0))⟩]) (.block 0 (.loop (mB 44 17591951155625) (.seq (.ops [
  ⟨some 28,none,.bin .lss (.tmp 27) (.tmp 26)⟩]) (.seq (.cond (.tmp 28) .skip (.exit 0)) (.seq (.block 1 (.seq (.ops [
  ⟨some 29,none,.ia 1 (.tmp 25) (.tmp 27)⟩,
  ⟨some 30,none,.load 1 false (.tmp 29)⟩,
  ⟨some 8,none,.asg (.tmp 30)⟩]) (.draw (mB 40 1097364144128) (mB 39 274877906944) [⟨0,mB 40 1097364144128,[],⟨some 31,none,.fa 2 (.tmp 6)⟩⟩,⟨1,mB 40 1095216660480,[],⟨some 32,none,.load 1 false (.tmp 31)⟩⟩,⟨2,mB 40 1097364144128,[],⟨some 33,none,.fa 2 (.tmp 1)⟩⟩,⟨3,mB 40 1088774209536,[],⟨some 34,none,.load 1 false (.tmp 33)⟩⟩,⟨4,mB 40 1097364144128,[],⟨some 35,none,.mv (.tmp 8)⟩⟩,⟨5,mB 40 1037234601984,[],⟨some 36,none,.ia 5 (.tmp 34) (.tmp 35)⟩⟩,⟨6,mB 40 968515125248,[],⟨some 37,none,.fa 0 (.tmp 36)⟩⟩,⟨7,mB 40 831076171776,[],⟨some 38,none,.load 1 false (.tmp 37)⟩⟩,⟨8,mB 40 556198264832,(mB 39 274877906944),⟨some 39,none,.bslN 1 [(.tmp 38)]⟩⟩] [⟨some 40,none,.app 1 8 (.tmp 32) (.tmp 39)⟩,⟨some 41,none,.fa 2 (.tmp 6)⟩,⟨none,none,.store 1 (.tmp 41) (.tmp 40)⟩]))) (.ops [
  ⟨some 42,none,.bin .add (.tmp 27) (.const (.int .i64 1))⟩,
  ⟨some 27,none,.mv (.tmp 42)⟩]))))))) (.seq (.ops [
  ⟨some 43,none,.load 3 true (.tmp 6)⟩,
  ⟨none,none,.store 3 (.tmp 2) (.tmp 43)⟩,
  ⟨some 3,none,.asg (.const (.int .i64 0))⟩]) .ret))))))
theorem zRb {a0 d:D}(h:code_impl_PaintOf.wp (CT Try.prog NoG) (zHy [(.c 2 3 true),(.t 3)] d) [a0,.undef,.undef,.undef,.undef,.undef,.undef,.undef,.undef,.undef,.undef,.undef,.undef,.undef,.undef,.undef,.undef,.undef,.undef,.undef,.undef,.undef,.undef,.undef,.undef,.undef,.undef,.undef,.undef,.undef,.undef,.undef,.undef,.undef,.undef,.undef,.undef,.undef,.undef,.undef,.undef,.undef,.undef,.undef]):Contract Try.prog NoG 25 [a0] d :=
  zAo (pt:=0) noG Try.func25 (fun us W=>by kernel_rfl) (c:=Try.f25.body.getD .skip) (ms:=[(mB 44 17591951155625)]) (ms':=[]) (by kernel_rfl) (by kernel_rfl) (by kernel_rfl) h
def code_spec_l00Same:VCode:=(.seq (.ops [
  ⟨some 4,none,.asg (.const (.bool false))⟩]) (.seq (.seq (.ops [
  ⟨some 6,none,.mv (.tmp 0)⟩,
  ⟨some 7,none,.len (.tmp 6)⟩,
  ⟨some 8,none,.mv (.tmp 1)⟩,
  ⟨some 9,none,.len (.tmp 8)⟩,
  ⟨some 10,none,.bin .neq (.tmp 7) (.tmp 9)⟩]) (.cond (.tmp 10) (.seq (.ops [
  ⟨some 4,none,.asg (.const (.bool false))⟩]) .ret) .skip)) (.seq (.seq (.ops [
  ⟨some 5,none,.asg (.const (.int .i64 0))⟩]) (.block 0 (.loop (mB 26 67108828) (.seq (.seq (.ops [
  ⟨some 11,none,.mv (.tmp 5)⟩,
  ⟨some 12,none,.mv (.tmp 0)⟩,
  ⟨some 13,none,.len (.tmp 12)⟩,
  ⟨some 14,none,.bin .lss (.tmp 11) (.tmp 13)⟩]) (.cond (.tmp 14) .skip (.exit 0))) (.seq (.block 1 (.seq (.draw (mB 25 33423360) [] [⟨0,mB 25 33423360,[],⟨some 17,none,.mv (.tmp 0)⟩⟩,⟨1,mB 25 33423360,[],⟨some 18,none,.mv (.tmp 5)⟩⟩,⟨2,mB 25 33030144,[],⟨some 19,none,.ia 1 (.tmp 17) (.tmp 18)⟩⟩,⟨3,mB 25 32505856,[],⟨some 20,none,.load 1 false (.tmp 19)⟩⟩,⟨4,mB 25 33423360,[],⟨some 21,none,.mv (.tmp 1)⟩⟩,⟨5,mB 25 33423360,[],⟨some 22,none,.mv (.tmp 5)⟩⟩,⟨6,mB 25 27131904,[],⟨some 23,none,.ia 1 (.tmp 21) (.tmp 22)⟩⟩,⟨7,mB 25 18743296,[],⟨some 24,none,.load 1 false (.tmp 23)⟩⟩] [⟨some 25,none,.bin .neq (.tmp 20) (.tmp 24)⟩]) (.cond (.tmp 25) (.seq (.ops [
  ⟨some 4,none,.asg (.const (.bool false))⟩]) .ret) .skip))) (.ops [
  ⟨some 15,none,.mv (.tmp 5)⟩,
  ⟨some 16,none,.bin .add (.tmp 15) (.const (.int .i64 1))⟩,
  ⟨some 5,none,.asg (.tmp 16)⟩])))))) (.seq (.ops [
  ⟨some 4,none,.asg (.const (.bool true))⟩]) .ret))))
theorem zQ6 {a0 a1 d:D}(h:code_spec_l00Same.wp (CT Try.prog NoG) (zHy [(.t 4)] d) [a0,a1,.undef,.undef,.undef,.undef,.undef,.undef,.undef,.undef,.undef,.undef,.undef,.undef,.undef,.undef,.undef,.undef,.undef,.undef,.undef,.undef,.undef,.undef,.undef,.undef]):Contract Try.prog NoG 85 [a0,a1] d :=
  zAo (pt:=0) noG Try.func85 (fun us W=>by kernel_rfl) (c:=Try.f85.body.getD .skip) (ms:=[(mB 26 67108828)]) (ms':=[]) (by kernel_rfl) (by kernel_rfl) (by kernel_rfl) h
def code_spec_l33Same:VCode:=(.seq (.ops [
  ⟨some 4,none,.asg (.const (.bool false))⟩]) (.seq (.seq (.draw (mB 39 549755813824) [] [⟨0,mB 39 549755813824,[],⟨some 6,none,.mv (.tmp 0)⟩⟩,⟨1,mB 39 549755813760,[],⟨some 7,none,.nilc (.tmp 6)⟩⟩,⟨2,mB 39 549755813632,[],⟨some 8,none,.fa 0 (.tmp 7)⟩⟩,⟨3,mB 39 549755813376,[],⟨some 9,none,.load 1 false (.tmp 8)⟩⟩,⟨4,mB 39 549755813824,[],⟨some 10,none,.mv (.tmp 1)⟩⟩,⟨5,mB 39 549755812800,[],⟨some 11,none,.nilc (.tmp 10)⟩⟩,⟨6,mB 39 549755810752,[],⟨some 12,none,.fa 0 (.tmp 11)⟩⟩,⟨7,mB 39 549755806656,[],⟨some 13,none,.load 1 false (.tmp 12)⟩⟩,⟨8,mB 39 549755797504,[],⟨some 14,none,.call 85 [(.tmp 9),(.tmp 13)]⟩⟩,⟨9,mB 39 549755781120,[],⟨some 15,none,.un .not (.tmp 14)⟩⟩,⟨10,mB 39 549755748352,[],⟨some 16,none,.mv (.tmp 15)⟩⟩,⟨11,mB 39 549755682816,[],⟨some 17,some (16,false),.mv (.tmp 0)⟩⟩,⟨12,mB 39 549755551744,[],⟨some 18,some (16,false),.nilc (.tmp 17)⟩⟩,⟨13,mB 39 549755289600,[],⟨some 19,some (16,false),.fa 1 (.tmp 18)⟩⟩,⟨14,mB 39 549754765312,[],⟨some 20,some (16,false),.load 1 false (.tmp 19)⟩⟩,⟨15,mB 39 549755682816,[],⟨some 21,some (16,false),.mv (.tmp 1)⟩⟩,⟨16,mB 39 549753585664,[],⟨some 22,some (16,false),.nilc (.tmp 21)⟩⟩,⟨17,mB 39 549749391360,[],⟨some 23,some (16,false),.fa 1 (.tmp 22)⟩⟩,⟨18,mB 39 549741002752,[],⟨some 24,some (16,false),.load 1 false (.tmp 23)⟩⟩,⟨19,mB 39 549722259456,[],⟨some 25,some (16,false),.call 85 [(.tmp 20),(.tmp 24)]⟩⟩,⟨20,mB 39 549688705024,[],⟨some 26,some (16,false),.un .not (.tmp 25)⟩⟩,⟨21,mB 39 549621596160,[],⟨some 27,none,.pick (.tmp 16) (.const (.bool true)) (.tmp 26)⟩⟩,⟨22,mB 39 549487378432,[],⟨some 28,none,.mv (.tmp 27)⟩⟩,⟨23,mB 39 549218942976,[],⟨some 29,some (28,false),.mv (.tmp 0)⟩⟩,⟨24,mB 39 548682072064,[],⟨some 30,some (28,false),.nilc (.tmp 29)⟩⟩,⟨25,mB 39 547608330240,[],⟨some 31,some (28,false),.fa 2 (.tmp 30)⟩⟩,⟨26,mB 39 545460846592,[],⟨some 32,some (28,false),.load 1 false (.tmp 31)⟩⟩,⟨27,mB 39 541165879296,[],⟨some 33,some (28,false),.len (.tmp 32)⟩⟩,⟨28,mB 39 549218942976,[],⟨some 34,some (28,false),.mv (.tmp 1)⟩⟩,⟨29,mB 39 532039073792,[],⟨some 35,some (28,false),.nilc (.tmp 34)⟩⟩,⟨30,mB 39 497679335424,[],⟨some 36,some (28,false),.fa 2 (.tmp 35)⟩⟩,⟨31,mB 39 428959858688,[],⟨some 37,some (28,false),.load 1 false (.tmp 36)⟩⟩,⟨32,mB 39 291520905216,[],⟨some 38,some (28,false),.len (.tmp 37)⟩⟩] [⟨some 39,some (28,false),.bin .neq (.tmp 33) (.tmp 38)⟩,⟨some 40,none,.pick (.tmp 28) (.const (.bool true)) (.tmp 39)⟩]) (.cond (.tmp 40) (.seq (.ops [
  ⟨some 4,none,.asg (.const (.bool false))⟩]) .ret) .skip)) (.seq (.seq (.ops [
  ⟨some 5,none,.asg (.const (.int .i64 0))⟩]) (.block 0 (.loop (mB 65 0x1ffffffffffffffdc) (.seq (.seq (.ops [
  ⟨some 41,none,.mv (.tmp 5)⟩,
  ⟨some 42,none,.mv (.tmp 0)⟩,
  ⟨some 43,none,.nilc (.tmp 42)⟩,
  ⟨some 44,none,.fa 2 (.tmp 43)⟩,
  ⟨some 45,none,.load 1 false (.tmp 44)⟩,
  ⟨some 46,none,.len (.tmp 45)⟩,
  ⟨some 47,none,.bin .lss (.tmp 41) (.tmp 46)⟩]) (.cond (.tmp 47) .skip (.exit 0))) (.seq (.block 1 (.seq (.draw (mB 64 0xfffc000000000000) [] [⟨0,mB 64 0xfffc000000000000,[],⟨some 50,none,.mv (.tmp 0)⟩⟩,⟨1,mB 64 0xfff8000000000000,[],⟨some 51,none,.nilc (.tmp 50)⟩⟩,⟨2,mB 64 0xfff0000000000000,[],⟨some 52,none,.fa 2 (.tmp 51)⟩⟩,⟨3,mB 64 0xffe0000000000000,[],⟨some 53,none,.load 1 false (.tmp 52)⟩⟩,⟨4,mB 64 0xfffc000000000000,[],⟨some 54,none,.mv (.tmp 5)⟩⟩,⟨5,mB 64 0xff80000000000000,[],⟨some 55,none,.ia 5 (.tmp 53) (.tmp 54)⟩⟩,⟨6,mB 64 0xff00000000000000,[],⟨some 56,none,.load 5 true (.tmp 55)⟩⟩,⟨7,mB 64 0xfffc000000000000,[],⟨some 57,none,.mv (.tmp 1)⟩⟩,⟨8,mB 64 0xfdfc000000000000,[],⟨some 58,none,.nilc (.tmp 57)⟩⟩,⟨9,mB 64 0xf9fc000000000000,[],⟨some 59,none,.fa 2 (.tmp 58)⟩⟩,⟨10,mB 64 0xf1fc000000000000,[],⟨some 60,none,.load 1 false (.tmp 59)⟩⟩,⟨11,mB 64 0xfffc000000000000,[],⟨some 61,none,.mv (.tmp 5)⟩⟩,⟨12,mB 64 0xc1fc000000000000,[],⟨some 62,none,.ia 5 (.tmp 60) (.tmp 61)⟩⟩,⟨13,mB 64 0x81fc000000000000,[],⟨some 63,none,.load 5 true (.tmp 62)⟩⟩] [⟨some 64,none,.eqs true [1,1,1,1,1] (.tmp 56) (.tmp 63)⟩]) (.cond (.tmp 64) (.seq (.ops [
  ⟨some 4,none,.asg (.const (.bool false))⟩]) .ret) .skip))) (.ops [
  ⟨some 48,none,.mv (.tmp 5)⟩,
  ⟨some 49,none,.bin .add (.tmp 48) (.const (.int .i64 1))⟩,
  ⟨some 5,none,.asg (.tmp 49)⟩])))))) (.seq (.ops [
  ⟨some 4,none,.asg (.const (.bool true))⟩]) .ret))))
theorem zQ3 {a0 a1 d:D}(h:code_spec_l33Same.wp (CT Try.prog NoG) (zHy [(.t 4)] d) [a0,a1,.undef,.undef,.undef,.undef,.undef,.undef,.undef,.undef,.undef,.undef,.undef,.undef,.undef,.undef,.undef,.undef,.undef,.undef,.undef,.undef,.undef,.undef,.undef,.undef,.undef,.undef,.undef,.undef,.undef,.undef,.undef,.undef,.undef,.undef,.undef,.undef,.undef,.undef,.undef,.undef,.undef,.undef,.undef,.undef,.undef,.undef,.undef,.undef,.undef,.undef,.undef,.undef,.undef,.undef,.undef,.undef,.undef,.undef,.undef,.undef,.undef,.undef,.undef]):Contract Try.prog NoG 59 [a0,a1] d :=
  zAo (pt:=0) noG Try.func59 (fun us W=>by kernel_rfl) (c:=Try.f59.body.getD .skip) (ms:=[(mB 65 0x1ffffffffffffffdc)]) (ms':=[]) (by kernel_rfl) (by kernel_rfl) (by kernel_rfl) h
def code_spec_SameDesign:VCode:=(.seq (.ops [
  ⟨some 2,none,.box (.tmp 0)⟩,
  ⟨some 3,none,.box (.tmp 1)⟩,
  ⟨some 4,none,.asg (.const (.bool false))⟩]) (.seq (.ops [
  ⟨some 5,none,.callX 59 [(.tmp 2),(.tmp 3)]⟩,
  ⟨some 4,none,.asg (.tmp 5)⟩]) .ret))
theorem zL4 {a0 a1 d:D}(h:code_spec_SameDesign.wp (CT Try.prog NoG) (zHy [(.t 4)] d) [a0,a1,.undef,.undef,.undef,.undef]):Contract Try.prog NoG 24 [a0,a1] d :=
  zAo (pt:=0) noG Try.func24 (fun us W=>by kernel_rfl) (c:=Try.f24.body.getD .skip) (ms:=[]) (ms':=[]) (by kernel_rfl) (by kernel_rfl) (by kernel_rfl) h
set_option maxHeartbeats 2000000 in
theorem zWs (d:Design)(hd:dsnB d):Contract Try.prog NoG 25 [.agg (Design.td.d false d)] (.tup [.agg (Pattern.td.d true (zPs d)),.v (.int .i64 (zA7 d))]):=by
  rw [Design.td_d,Pattern.td_d];refine zRb ?_;unfold code_impl_PaintOf zPs;simp -implicitDefEqProofs (disch:=omega) only [go_sem,↓reduceIte];cases hc:decide (zA7 d=0) with
  | false=>have h0:¬ zA7 d=0:=qBl;simp only [if_neg h0];refine zAr (zCq d hd) qAk ?_;simp -implicitDefEqProofs (disch:=omega) only [go_sem,↓reduceIte ,hc]
  | true =>
    have h0:zA7 d=0:=qBl;simp only [if_pos h0];have hin:=zF3 h0;have hl:=zHp d;have hC:=zCq d hd;generalize zBl d=ks at hin hl hC;refine zAr (hC) (by simp -implicitDefEqProofs (disch:=omega) only [go_sem,↓reduceIte,deep,TD.rows,zAw,zAt,zA0,zAs,zAv,zAq,hc,xAw];exact rfl) ?_;simp -implicitDefEqProofs (disch:=omega) only [go_sem,↓reduceIte ,hc,xAw];refine zBv qAd (fun i:Nat=>[(27,.v (.int .i64 (i:Nat))),(6,.box none [.v (.int .i64 (d.Bottom.length:Nat)),.v (.int .i64 (d.Left.length:Nat)),.sl true 1 ((yEc d (ks.take i)).map rI)])]) (fun _=>by simp only [zBq,zBb,xA8,xBc];exact rfl) (fun i:Nat=>i≤ks.length) (fun i:Nat=>ks.length-i) (0) (by rw [show yEc d (ks.take 0)=[] from rfl,xBl];exact qAa) (xCs _) ?_;intro i hi;simp -implicitDefEqProofs (disch:=omega) only [go_sem,↓reduceIte ,xAw,xAz,xA7,xA0,xAy,xAx];refine zAp ?_ ?_<;>intro hlt
    · have hlt:i<ks.length:=qAg;have e1:=xA1 hlt;obtain ⟨n,hn',hnl⟩:∃ n:Nat,ks[i]=(n:Int)∧n<d.Pieces.length:=⟨ks[i].toNat,by have:=hin _ (xB3 hlt);omega,by have:=hin _ (xB3 hlt);omega⟩
      have e2:=xA1 hnl;have hnx:yEc d (ks.take (i+1))=yEc d (ks.take i)++[d.Pieces[n].Color]:=(by unfold yEc;rw [xCd hlt,xBo,xA6,xBl,hn',yZp hnl]);have hll:(yEc d (ks.take i)).length≤100:=(by unfold yEc;rw [xAw,xDh];omega);simp -implicitDefEqProofs (disch:=omega) only [go_sem,↓reduceIte ,xAw,xAz,xA7,xA0,xAy,xAx,hlt,e1,rI,hn',hnl,e2,Piece.td_d,xAw,wrN]
      trace_state
      refine ⟨by omega,i+1,by omega,hlt,?_⟩;rw [hnx]
      try simp only [xBo,xA6,xBl,rI]
      exact zD2
    · obtain rfl:i=ks.length:=qCt;simp -implicitDefEqProofs (disch:=omega) only [go_sem,↓reduceIte ,xDj,h0]
theorem yEy (xs ys:List Int) (hl:xs.length≤1048576):Contract Try.prog NoG 85 [.sl false 1 (xs.map rI),.sl false 1 (ys.map rI)] (.v (.bool (decide (xs=ys)))):=by
  refine zQ6 ?_;unfold code_spec_l00Same;simp -implicitDefEqProofs (disch:=omega) only [go_sem,↓reduceIte ,xAw];refine zAp ?_ ?_<;>intro h
  · simp -implicitDefEqProofs (disch:=omega) only [go_sem,↓reduceIte];have:xs≠ys:=fun e=>by subst e;simp at h
    simp [this]
  · have hl:xs.length=ys.length:=(by simp at h;omega);simp -implicitDefEqProofs (disch:=omega) only [go_sem,↓reduceIte];refine zV2 (fun i:Nat=>[.sl false 1 (xs.map rI),.sl false 1 (ys.map rI),.undef,.undef,.undef,.v (.int .i64 i),.undef,.undef,.undef,.undef,.undef,.undef,.undef,.undef,.undef,.undef,.undef,.undef,.undef,.undef,.undef,.undef,.undef,.undef,.undef,.undef]) (fun i=>i≤xs.length∧xs.take i=ys.take i) (fun i=>xs.length-i) 0 (zD2) ⟨xCs _,rfl⟩ ?_;rintro i ⟨hi,ht⟩;simp -implicitDefEqProofs (disch:=omega) only [go_sem,↓reduceIte ,xAw,xAz,xA7,xA0,xAy,xAx];refine zAp ?_ ?_<;>intro hlt
    · have h1:i<xs.length:=qAg;have h2:i<ys.length:=qAc;have e1:=xA1 h1;have e2:=xA1 h2;simp -implicitDefEqProofs (disch:=omega) only [go_sem,↓reduceIte ,xAw,xAz,xA7,xA0,xAy,xAx,h1,h2,e1,e2];refine zAp ?_ ?_<;>intro hc
      · simp -implicitDefEqProofs (disch:=omega) only [go_sem,↓reduceIte];have hne:xs[i]≠ys[i]:=by simpa using hc
        have:xs≠ys:=fun e=>hne (by subst e;rfl);simp [this]
      · simp -implicitDefEqProofs (disch:=omega) only [go_sem,↓reduceIte ,wrN];have heq:xs[i]=ys[i]:=by simpa using hc
        refine ⟨i+1,by omega,⟨h1,?_⟩,zD2⟩;rw [xCd h1,xCd h2,ht,heq]
    · have hge:¬ i<xs.length:=qAg;simp -implicitDefEqProofs (disch:=omega) only [go_sem,↓reduceIte];have:xs=ys:=(by rw [xDg qAc,xDg qAc] at ht;exact ht);simp [this]
theorem zR4 (xs:List Int)(hl:xs.length≤1048576):Contract Try.prog NoG 85 [.sl false 1 (xs.map rI),.sl false 1 (xs.map rI)] (.v (.bool true)):=by have:=yEy xs xs hl;rwa [decide_eq_true rfl] at this
set_option maxHeartbeats 2000000 in
theorem yEw (d:Design)(hd:dsnB d):Contract Try.prog NoG 59 [.iptr (Design.td.d false d) 0,.iptr (Design.td.d false d) 0] (.v (.bool true)):=by
  have hb:=zR4 d.Bottom hd.b;have hl:=zR4 d.Left hd.l;have hp:=hd.p;rw [Design.td_d];refine zQ3 ?_;unfold code_spec_l33Same;simp -implicitDefEqProofs (disch:=omega) only [go_sem,↓reduceIte];refine zK5 (hb) qAb ?_;simp -implicitDefEqProofs (disch:=omega) only [go_sem,↓reduceIte];refine zK5 (hl) qA6 ?_;simp -implicitDefEqProofs (disch:=omega) only [go_sem,↓reduceIte ,xAw];refine zBv qAd (fun i:Nat=>[(5,.v (.int .i64 (i:Nat)))]) (fun _=>by simp only [zBq,zBb,xA8,xBc];exact rfl) (fun i:Nat=>i≤d.Pieces.length) (fun i:Nat=>d.Pieces.length-i) (0) (zD2) (?_) ?_
  · exact xCs _
  intro i hi;simp -implicitDefEqProofs (disch:=omega) only [go_sem,↓reduceIte ,xAw,xAz,xA7,xA0,xAy,xAx];refine zAp ?_ ?_<;>intro hlt
  · have hlt:i<d.Pieces.length:=qAg;have e1:=xA1 hlt;simp -implicitDefEqProofs (disch:=omega) only [go_sem,↓reduceIte ,xAw,xAz,xA7,xA0,xAy,xAx,hlt,e1,Piece.td_d,decide_true,xBr,xCp,xC1,xCu,wrN]
    trace_state
    exact ⟨i+1,by omega,hlt,zD2⟩
  · obtain rfl:i=d.Pieces.length:=qCs;simp -implicitDefEqProofs (disch:=omega) only [go_sem,↓reduceIte]
theorem zQo (d:Design)(hd:dsnB d):Contract Try.prog NoG 24 [.agg (Design.td.d false d),.agg (Design.td.d false d)] (.v (.bool true)):=by have hS:=yEw d hd;rw [Design.td_d] at hS ⊢;refine zL4 ?_;unfold code_spec_SameDesign;simp -implicitDefEqProofs (disch:=omega) only [go_sem,↓reduceIte];refine zAr (hS) qAb ?_;simp -implicitDefEqProofs (disch:=omega) only [go_sem,↓reduceIte]
end Go.Proofs.Ytaleehohmpohoaa
