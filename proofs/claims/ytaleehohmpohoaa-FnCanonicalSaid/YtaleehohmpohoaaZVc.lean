/- Laws that the proof stands on. -/
import Derived.Test.YtaleehohmpohoaaZVb
set_option linter.all false
namespace Go.V
open Go.RowKit
section
variable (P:Program)
def yZz (P:Program) (t:TypeId):Option TypeId:=match P.underlying t with
  | some (.struct fs)=>match fs.toList with
    | [f0,f1]=>match P.underlying f0.type,P.underlying f1.type with
      | some (.pointer t'),some (.slice e)=>if t'=t then some e else none
      | _,_=>none
    | _=>none
  | _=>none
def yO4 (P:Program)(t:TypeId)(zs:List Value):VOp:=match yZz P t,zs with
  | some e,[.pointer none,.slice none 0 0]=>.mkm (.bld t e)
  | _,_=>.alloc zs
def yA6 (z:Value):Bool:=z.cells.toList.all (·.oneCell')
def cOp (n:Bool):Op→Option VOp
  | .move x=>some (.mv x)
  | .assign x=>some (.asg x)
  | .pick c a b=>some (.pick c a b)
  | .nilCheck x=>some (.nilc x)
  | .binOp op xt x y _=>match P.underlying xt with
    | some .bool=>match op with
      | .eql=>some (.binB false x y)
      | .neq=>some (.binB true x y)
      | _=>none
    | some (.int _)=>some (.bin op x y)
    | some .string=>some (.bin op x y)
    | some (.struct fs)=>match zL8 P fs.toList 0 with
      | some ks=>if P.stoodInHeld xt=false∧P.eqGuardType P.depth xt=false then match op with
          | .eql=>some (.eqs false ks x y)
          | .neq=>some (.eqs true ks x y)
          | _=>none
        else none
      | none=>none
    | some (.slice _)=>match y with
      | .const (.slice none 0 0)=>match op with
        | .eql=>some (.isnil false x)
        | .neq=>some (.isnil true x)
        | _=>none
      | _=>none
    | _=>none
  | .unOp op _ x=>some (.un op x)
  | .convert src dst x=>match P.underlying src,P.underlying dst with
    | some _,some (.int k)=>some (.conv k x)
    | some (.slice e),some .string=>match P.underlying e with
      | some (.int .u8)=>some (.b2s x)
      | _=>none
    | _,_=>none
  | .alloc t=>match P.info? t with
    | some i=>match i.zero with
      | some z=>if yA6 z then some (yO4 P t z.cells.toList) else none
      | none=>none
    | none=>none
  | .box _ x=>some (.box x)
  | .build t ps=>match P.info? t,P.underlying t with
    | some it,some (.struct fs)=>match it.zero,fs.toList.mapM (fun f=>(P.info? f.type).map fun i=>(f.offset,i.size)) with
      | some z,some places=>if yA6 z then (ps.toList.mapM fun p=>(places[p.1]?).map fun q=>(q.1,q.2,p.2)).map fun l=>.build z.cells.toList l else none
      | _,_=>none
    | some it,some (.array _ e)=>match it.zero,P.info? e with
      | some z,some ie=>if yA6 z then some (.build z.cells.toList (ps.toList.map fun p=>(p.1*ie.size,ie.size,p.2))) else none
      | _,_=>none
    | _,_=>none
  | .buildSlice t m ps=>match P.underlying t with
    | some (.slice e)=>match P.info? e with
      | some ie=>if ie.zero.isSome∧0<ie.size∧m*ie.size≤2 ^ 24∧ps.toList.map (·.1)=List.range m then some (if n then .bslN ie.size (ps.toList.map (·.2)) else .bsl ie.size (ps.toList.map (·.2))) else none
      | none=>none
    | _=>none
  | .load t a=>match P.underlying t,P.info? t with
    | some d,some i=>if d.isRow then some (.load i.size true a) else if i.size=1 then some (.load 1 false a) else none
    | _,_=>none
  | .store t a x=>match P.info? t with
    | some i=>some (.store i.size a x)
    | none=>none
  | .fieldAddr st x f=>match P.underlying st with
    | some (.struct fs)=>match fs[f]? with
      | some fd=>match P.info? fd.type with
        | some i=>if 0<i.size then some (.fa fd.offset x) else none
        | none=>none
      | none=>none
    | _=>none
  | .field st x f=>match P.underlying st with
    | some (.struct fs)=>match fs[f]? with
      | some fd=>match P.info? fd.type,P.underlying fd.type with
        | some i,some d=>if d.isRow then some (.fld fd.offset i.size true x) else if i.size=1 then some (.fld fd.offset 1 false x) else none
        | _,_=>none
      | none=>none
    | _=>none
  | .indexAddr t x i=>match P.underlying t with
    | some (.slice e)=>match P.info? e with
      | some ie=>some (.ia ie.size x i)
      | none=>none
    | some (.array m e)=>match P.info? e with
      | some ie=>some (.iaa m ie.size x i)
      | none=>none
    | _=>none
  | .index t x i=>match P.underlying t with
    | some .string=>some (.ixs x i)
    | some (.array m e)=>match P.info? e,P.underlying e with
      | some ie,some d=>if d.isRow then some (.ixa m ie.size true x i) else if ie.size=1 then some (.ixa m 1 false x i) else none
      | _,_=>none
    | _=>none
  | .slice t x lo hi mx=>match P.underlying t with
    | some .string=>if mx.isNone then some (.slcS x lo hi) else none
    | some (.slice e)=>match P.info? e with
      | some ie=>if mx.isSome=true→hi.isSome=true then some (.slc ie.size x lo hi mx) else none
      | none=>none
    | _=>none
  | .extract x i=>some (if n then .extN x i else .ext x i)
  | .makeInterface t x=>match P.underlying t with
    | some (.pointer _)=>some (.mkif t x)
    | _=>none
  | .makeFunc fn first caps=>match fn with
    | .func f=>some (.mkf f first.toList caps.toList)
    | _=>none
  | .makeSlice t l c=>match P.underlying t with
    | some (.slice e)=>match P.info? e with
      | some ie=>match ie.zero with
        | some z=>if yA6 z∧z.cells.size=ie.size then some (.mks ie.size ie.bytes z.cells.toList l c) else none
        | none=>none
      | none=>none
    | _=>none
  | .makeMap t none=>match P.underlying t with
    | some (.map kt _)=>(zT2 P kt).map .mkm
    | _=>none
  | .mapUpdate t m i x=>match P.underlying t with
    | some (.map kt _)=>(zT2 P kt).map fun k=>.mupd k m i x
    | _=>none
  | .insert t m i x=>match P.underlying t with
    | some (.map kt _)=>(zT2 P kt).map fun k=>.mupd k m i x
    | _=>none
  | .lookup t m i ok=>match P.underlying t with
    | some (.map kt et)=>match zT2 P kt,P.info? et with
      | some k,some ie=>ie.zero.map fun z=>.mlk k z ok m i
      | _,_=>none
    | _=>none
  | .call c => match c.callee with
    | .value (.func f)=>some (if n then .call f c.args.toList else .callX f c.args.toList)
    | .value x=>some (if n then .callv x c.args.toList else .callvX x c.args.toList)
    | .builtin .len=>match c.args.toList,c.argTypes[0]? with
      | [x],some t=>match P.underlying t with
        | some .string=>some (.lenS x)
        | some (.slice _)=>some (.len x)
        | some (.map _ _)=>some (.mlen x)
        | _=>none
      | _,_=>none
    | .builtin .delete=>match c.args.toList,c.argTypes[0]? with
      | [m,i],some t=>match P.underlying t with
        | some (.map kt _)=>(zT2 P kt).map fun k=>.mdel k m i
        | _=>none
      | _,_=>none
    | .builtin .min=>match c.args.toList with
      | [x,y]=>some (.mm false [x,y])
      | _=>none
    | .builtin .max=>match c.args.toList with
      | [x,y]=>some (.mm true [x,y])
      | _=>none
    | .builtin .append=>match c.args.toList,c.argTypes.toList with
      | [x, y],[t,tx]=>match P.underlying t,P.underlying tx with
        | some (.slice e),some (.slice _)=>match P.info? e with
          | some ie=>match ie.zero with
            | some z=>if z.cells.size=ie.size then some (if n then .appN ie.size ie.bytes x y else .app ie.size ie.bytes x y) else none
            | none=>none
          | none=>none
        | some (.slice e),some .string=>match P.info? e,P.underlying e with
          | some ie,some (.int .u8)=>match ie.zero with
            | some z=>if z.cells.size=1∧ie.size=1∧n=false then some (.appS ie.bytes x y) else none
            | none=>none
          | _,_=>none
        | _,_=>none
      | _,_=>none
    | _=>none
  | _=>none
end
section
variable {P:Program} {w0:Base} {I0:Nat→Prop} {s:List D} {a:Act} {w:World} {I:Nat→Prop} {Fs:Nat→List Nat} {K:D→List D→Prop} {nn:Bool}
theorem yYo {α:Type}{xs:Array α}{x:α}(h:xs.toList=[x]):xs=#[x]:=by apply xF0;simpa using h
theorem yUi {α:Type}{xs:Array α}{x y:α}(h:xs.toList=[x,y]):xs=#[x,y]:=by apply xF0;simpa using h
theorem zKa {α:Type}:∀ (l:List (Nat×α)) (k:Nat),l.map (·.1)=List.range' k l.length→l=((l.map (·.2)).zipIdx k).map fun x=>(x.2,x.1)
  | [],k,_=>rfl
  | (i,x)::l,k,h=>by simp only [xA6,xBk,List.range'_succ,xCo] at h;obtain ⟨rfl,h⟩:=h;simp only [xA6,List.zipIdx_cons,xCo,true_and];exact zKa l (i+1) h
theorem zUn {places:List (Nat×Nat)}:∀ (l:List (Nat×Operand)) (parts:List (Nat×Nat×Operand)),(l.mapM fun p=>(places[p.1]?).map fun q=>(q.1,q.2,p.2))=some parts→l.map (fun p=>(places[p.1]?,p.2))=parts.map fun p=>(some (p.1,p.2.1),p.2.2)
  | [],parts,h=>by simp at h;subst h;rfl
  | p :: l,parts,h=>by
    simp only [List.mapM_cons,Option.bind_eq_bind,Option.pure_def] at h;cases hp:places[p.1]? with
    | none=>simp [hp] at h
    | some q =>
      cases hr:l.mapM (fun p=>(places[p.1]?).map fun q=>(q.1,q.2,p.2)) with
      | none=>simp [hp,hr] at h
      | some rest=>simp [hp,hr] at h;subst h;simp [hp,zUn l rest hr]
def VOp.framed:VOp→Bool
  | .store _ _ _=>false
  | .mkif _ _=>false
  | .app _ _ _ _=>false
  | .appS _ _ _=>false
  | .bsl _ _=>false
  | .ext _ _=>false
  | .isnil _ _=>false
  | .mupd _ _ _ _=>false
  | .mdel _ _ _=>false
  | .callX _ _=>false
  | .callvX _ _=>false
  | _=>true
theorem zQq {G : World→(Nat→Prop)→Prop} (hG:GI G w I0) (h:RelI w0 I0 s a.tmps w I Fs) {o:Oper} {v:VOp} {nv:Bool} (hnn:nn=true→v.framed=true) (hc:cOp P nv o.op=some v) (hk:zAh (CT P G) s v K):RunsTo P (execOp a.eval o) w (OutOK nn Fs I w w0 I0 a.tmps K):=by
  cases hop:o.op with
  | move x=>rw [hop] at hc;simp only [cOp,xAv] at hc;subst hc;have:=yVg (nn:=nn) (P:=P) h hk;simpa only [execOp,hop] using this
  | assign x=>rw [hop] at hc;simp only [cOp,xAv] at hc;subst hc;have:=yF2 (nn:=nn) (P:=P) h hk;simpa only [execOp,hop] using this
  | pick c x y=>rw [hop] at hc;simp only [cOp,xAv] at hc;subst hc;exact yKk h hop hk
  | nilCheck x=>rw [hop] at hc;simp only [cOp,xAv] at hc;subst hc;exact yKl h hop hk
  | unOp op t x=>rw [hop] at hc;simp only [cOp,xAv] at hc;subst hc;exact yVf h hop hk
  | box t x=>rw [hop] at hc;simp only [cOp,xAv] at hc;subst hc;exact yQc h hop hk
  | extract x i =>
    rw [hop] at hc;simp only [cOp,xAv] at hc;subst hc;cases nv with
    | true=>exact yKq h hop hk
    | false =>
      have hnf:nn=false:=by cases nn with | false=>rfl | true=>exact absurd (hnn rfl) qAu
      subst hnf;exact yQa h hop hk
  | binOp op xt x y yt =>
    rw [hop] at hc;simp only [cOp] at hc;split at hc
    · rename_i hu;cases op<;>simp only [xAv,reduceCtorEq] at hc
      · subst hc;exact yAr h hop (.inl ⟨rfl,rfl⟩) hu hk
      · subst hc;exact yAr h hop (.inr ⟨rfl,rfl⟩) hu hk
    · simp only [xAv] at hc;subst hc;exact yF1 h hop hk
    · simp only [xAv] at hc;subst hc;exact yF1 h hop hk
    · rename_i fs hu;split at hc
      · rename_i ks hks;split at hc
        · rename_i hcond;cases op<;>simp only [xAv,reduceCtorEq] at hc
          · subst hc;exact yFv h hop (.inl ⟨rfl,rfl⟩) hu hcond.1 hcond.2 hks hk
          · subst hc;exact yFv h hop (.inr ⟨rfl,rfl⟩) hu hcond.1 hcond.2 hks hk
        · cases hc
      · cases hc
    · rename_i e hu;split at hc
      · cases op<;>simp only [xAv,reduceCtorEq] at hc
        · subst hc;have hnf:nn=false:=by cases nn with | false=>rfl | true=>exact absurd (hnn rfl) qAu
          subst hnf;exact zXa h hop (.inl ⟨rfl,rfl⟩) hu hk
        · subst hc;have hnf:nn=false:=by cases nn with | false=>rfl | true=>exact absurd (hnn rfl) qAu
          subst hnf;exact zXa h hop (.inr ⟨rfl,rfl⟩) hu hk
      · cases hc
    · cases hc
  | convert src dst x =>
    rw [hop] at hc;simp only [cOp] at hc;split at hc
    · rename_i hs hd;simp only [xAv] at hc;subst hc;exact yKs h hop hs hd hk
    · rename_i e hs hd;split at hc
      · rename_i he;simp only [xAv] at hc;subst hc;exact yQd h hop hs he hd hk
      · cases hc
    · cases hc
  | alloc t =>
    rw [hop] at hc;simp only [cOp] at hc;split at hc
    · rename_i i hi;split at hc
      · rename_i z hz;split at hc
        · rename_i ho;simp only [xAv] at hc;subst hc;unfold yO4 at hk;split at hk
          · rename_i hzz;exact yP6 h hop hi hz hzz hk
          · exact yF3 h hop hi hz rfl ho hk
        · cases hc
      · cases hc
    · cases hc
  | build t ps =>
    rw [hop] at hc;simp only [cOp] at hc;split at hc
    · rename_i it fs hi hu;split at hc
      · rename_i z places hz hp;split at hc
        · rename_i ho;simp only [xC9] at hc;obtain ⟨l,hl,rfl⟩:=hc;exact yF0 h hop hi hu hz rfl ho hp (zUn _ _ hl) hk
        · cases hc
      · cases hc
    · rename_i it len e hi hu;split at hc
      · rename_i z ie hz hie;split at hc
        · rename_i ho;simp only [xAv] at hc;subst hc;exact yC2 h hop hi hu hie hz rfl ho (by simp [xDl,Function.comp_def]) hk
        · cases hc
      · cases hc
    · cases hc
  | buildSlice t n ps =>
    rw [hop] at hc;simp only [cOp] at hc;split at hc
    · rename_i e hu;split at hc
      · rename_i ie hi;split at hc
        · rename_i hcond;simp only [xAv] at hc;subst hc;obtain ⟨hz,hpos,hsm,hr⟩:=hcond;obtain ⟨z,hz⟩:=xFm.1 hz;have hlen:(ps.toList.map (·.2)).length=n:=by have:=congrArg List.length hr;simpa using this
          have hn:ps.toList.length=n:=(by simpa using hlen);cases nv with
          | true=>refine yKt h (xs:=ps.toList.map (·.2)) (by rw [hlen];exact hop) ?_ hu hi hz rfl hpos (by rw [hlen];exact hsm) hk;exact zKa ps.toList 0 (by rw [hr,hn,List.range_eq_range'])
          | false =>
            have hnf:nn=false:=by cases nn with | false=>rfl | true=>exact absurd (hnn rfl) qAu
            subst hnf;refine yQb h (xs:=ps.toList.map (·.2)) (by rw [hlen];exact hop) ?_ hu hi hz rfl hpos (by rw [hlen];exact hsm) hk;exact zKa ps.toList 0 (by rw [hr,hn,List.range_eq_range'])
        · cases hc
      · cases hc
    · cases hc
  | load t x =>
    rw [hop] at hc;simp only [cOp] at hc;split at hc
    · rename_i d i hu hi;split at hc
      · rename_i hd;simp only [xAv] at hc;subst hc;exact yAp h hop hu hd qCd (fun h=>by cases h) hk
      · rename_i hd;split at hc
        · rename_i h1;simp only [xAv] at hc;subst hc;exact yAp h hop hu (by simpa using hd) (by rw [hi];simp [h1]) (fun _=>rfl) hk
        · cases hc
    · cases hc
  | store t x y =>
    rw [hop] at hc;simp only [cOp] at hc;split at hc
    · rename_i i hi;simp only [xAv] at hc;subst hc;have hnf:nn=false:=by cases nn with | false=>rfl | true=>exact absurd (hnn rfl) qAu
      subst hnf;exact yFs h hop qCd hk
    · cases hc
  | fieldAddr st x f =>
    rw [hop] at hc;simp only [cOp] at hc;split at hc
    · rename_i fs hu;split at hc
      · rename_i fd hf;split at hc
        · rename_i i hi;split at hc
          · rename_i hpos;simp only [xAv] at hc;subst hc;exact yVi (n:=i.size-1) h hop hu hf rfl (by rw [hi];simp;omega) hk
          · cases hc
        · cases hc
      · cases hc
    · cases hc
  | field st x f =>
    rw [hop] at hc;simp only [cOp] at hc;split at hc
    · rename_i fs hu;split at hc
      · rename_i fd hf;split at hc
        · rename_i i d hi hud;split at hc
          · rename_i hd;simp only [xAv] at hc;subst hc;exact yFu h hop hu hf rfl hud hd qCd (fun h=>by cases h) hk
          · rename_i hd;split at hc
            · rename_i h1;simp only [xAv] at hc;subst hc;exact yFu h hop hu hf rfl hud (by simpa using hd) (by rw [hi];simp [h1]) (fun _=>rfl) hk
            · cases hc
        · cases hc
      · cases hc
    · cases hc
  | indexAddr t x i =>
    rw [hop] at hc;simp only [cOp] at hc;split at hc
    · rename_i e hu;split at hc
      · rename_i ie hi;simp only [xAv] at hc;subst hc;exact yVh h hop hu qCd hk
      · cases hc
    · rename_i n e hu;split at hc
      · rename_i ie hi;simp only [xAv] at hc;subst hc;exact yP9 h hop hu qCd hk
      · cases hc
    · cases hc
  | index t x i =>
    rw [hop] at hc;simp only [cOp] at hc;split at hc
    · rename_i hu;simp only [xAv] at hc;subst hc;exact yP8 h hop hu hk
    · rename_i n e hu;split at hc
      · rename_i ie d hi hud;split at hc
        · rename_i hd;simp only [xAv] at hc;subst hc;exact yFt h hop hu hud hd qCd (fun h=>by cases h) hk
        · rename_i hd;split at hc
          · rename_i h1;simp only [xAv] at hc;subst hc;exact yFt h hop hu hud (by simpa using hd) (by rw [hi];simp [h1]) (fun _=>rfl) hk
          · cases hc
      · cases hc
    · cases hc
  | slice t x lo hi mx =>
    rw [hop] at hc;simp only [cOp] at hc;split at hc
    · rename_i hu;split at hc
      · rename_i hm;simp only [xAv] at hc;subst hc;have:mx=none:=by cases mx<;>simp at hm;rfl
        subst this;exact yKj h hop hu hk
      · cases hc
    · rename_i e hu;split at hc
      · rename_i ie hi';split at hc
        · rename_i hm;simp only [xAv] at hc;subst hc;exact yP1 h hop hu (by rw [hi'];rfl) hm hk
        · cases hc
      · cases hc
    · cases hc
  | makeInterface t x =>
    rw [hop] at hc;simp only [cOp] at hc;split at hc
    · rename_i tp hu;simp only [xAv] at hc;subst hc;have hnf:nn=false:=by cases nn with | false=>rfl | true=>exact absurd (hnn rfl) qAu
      subst hnf;exact yKn h hop hu hk
    · cases hc
  | makeFunc fn first caps =>
    rw [hop] at hc;simp only [cOp] at hc;split at hc
    · simp only [xAv] at hc;subst hc;exact yP5 h hop hk
    · cases hc
  | makeMap t r =>
    rw [hop] at hc;cases r with
    | some r=>simp [cOp] at hc
    | none =>
      simp only [cOp] at hc;split at hc
      · simp only [xC9] at hc;obtain ⟨k,hkk,rfl⟩:=hc;exact yP4 h (zRt hkk) hop hk
      · cases hc
  | mapUpdate t m i x =>
    rw [hop] at hc;simp only [cOp] at hc;split at hc
    · rename_i kt et hu;simp only [xC9] at hc;obtain ⟨k,hkk,rfl⟩:=hc;have hnf:nn=false:=by cases nn with | false=>rfl | true=>exact absurd (hnn rfl) qAu
      subst hnf;exact yAo h (.inl hop) hu hkk hk
    · cases hc
  | insert t m i x =>
    rw [hop] at hc;simp only [cOp] at hc;split at hc
    · rename_i kt et hu;simp only [xC9] at hc;obtain ⟨k,hkk,rfl⟩:=hc;have hnf:nn=false:=by cases nn with | false=>rfl | true=>exact absurd (hnn rfl) qAu
      subst hnf;exact yAo h (.inr hop) hu hkk hk
    · cases hc
  | lookup t m i ok =>
    rw [hop] at hc;simp only [cOp] at hc;split at hc
    · rename_i kt et hu;split at hc
      · rename_i k ie hkk hie;simp only [xC9] at hc;obtain ⟨z,hz,rfl⟩:=hc;exact yP2 h hop hu hkk hie hz hk
      · cases hc
    · cases hc
  | makeSlice t l c =>
    rw [hop] at hc;simp only [cOp] at hc;split at hc
    · rename_i e hu;split at hc
      · rename_i ie hi;split at hc
        · rename_i z hz;split at hc
          · rename_i hcond;simp only [xAv] at hc;subst hc;exact yP3 h hop hu hi hz rfl rfl rfl (by simp [hcond.2]) hcond.1 hk
          · cases hc
        · cases hc
      · cases hc
    · cases hc
  | call c =>
    rw [hop] at hc;simp only [cOp] at hc;obtain ⟨cal,args,ts⟩:=c;simp only at hc;split at hc
    · simp only [xAv] at hc;subst hc;cases nv with
      | true=>exact yAq hG h hop hk
      | false =>
        have hnf:nn=false:=by cases nn with | false=>rfl | true=>exact absurd (hnn rfl) qAu
        subst hnf;exact yFy hG h hop hk
    · simp only [xAv] at hc;subst hc;cases nv with
      | true=>exact zXc hG h hop hk
      | false =>
        have hnf:nn=false:=by cases nn with | false=>rfl | true=>exact absurd (hnn rfl) qAu
        subst hnf;exact yCz hG h hop hk
    · split at hc
      · rename_i x t ha ht;split at hc
        · rename_i hu;simp only [xAv] at hc;subst hc;rw [yYo ha] at hop;exact yKp h hop ht hu hk
        · rename_i e hu;simp only [xAv] at hc;subst hc;rw [yYo ha] at hop;exact yP7 h hop ht hu hk
        · rename_i kt et hu;simp only [xAv] at hc;subst hc;rw [yYo ha] at hop;exact yKm h hop ht hu hk
        · cases hc
      · cases hc
    · split at hc
      · rename_i m i t ha ht;split at hc
        · rename_i kt et hu;simp only [xC9] at hc;obtain ⟨k,hkk,rfl⟩:=hc;have hnf:nn=false:=by cases nn with | false=>rfl | true=>exact absurd (hnn rfl) qAu
          subst hnf;rw [yUi ha] at hop;exact yKo h hop ht hu hkk hk
        · cases hc
      · cases hc
    · split at hc
      · rename_i x y ha;simp only [xAv] at hc;subst hc;rw [yUi ha] at hop;exact yN4 (mx:=false) h hop hk
      · cases hc
    · split at hc
      · rename_i x y ha;simp only [xAv] at hc;subst hc;rw [yUi ha] at hop;exact yN4 (mx:=true) h hop hk
      · cases hc
    · split at hc
      · rename_i x y t tx ha hts;split at hc
        · rename_i e e2 hu hux;split at hc
          · rename_i ie hi;split at hc
            · rename_i z hz;split at hc
              · rename_i hsz;simp only [xAv] at hc;subst hc;rw [yUi ha,yUi hts] at hop;cases nv with
                | true=>exact yKv h hop hu hux hi hz rfl hsz rfl hk
                | false =>
                  have hnf:nn=false:=by cases nn with | false=>rfl | true=>exact absurd (hnn rfl) qAu
                  subst hnf;exact yQe h hop hu hux hi hz rfl hsz rfl hk
              · cases hc
            · cases hc
          · cases hc
        · rename_i e hu hux;split at hc
          · rename_i ie hi _;split at hc
            · rename_i z hz;split at hc
              · rename_i hsz;obtain ⟨hz1,hsz,hn⟩:=hsz;simp only [xAv] at hc;subst hc;rw [yUi ha,yUi hts] at hop;have hnf:nn=false:=by cases nn with | false=>rfl | true=>exact absurd (hnn rfl) qAu
                subst hnf;exact yKu h hop hu hux hi hz hsz hz1 rfl hk
              · cases hc
            · cases hc
          · cases hc
        · cases hc
      · cases hc
    · cases hc
  | _=>rw [hop] at hc;simp [cOp] at hc
end
end Go.V
namespace Go.V
open Go.RowKit
section
variable (P:Program)
def zFr (ops:Array Oper):Option (Nat×Bool)→Option (Option (Nat×Bool))
  | none=>some none
  | some (j,want)=>match (ops[j]?).bind (·.dst) with
    | some t=>some (some (t,want))
    | none=>none
def cVO (n:Bool)(ops:Array Oper)(o:Oper):Option VO :=
  match zFr ops o.guard,cOp P n o.op with
  | some g,some v=>some ⟨o.dst,g,v⟩
  | _,_=>none
def zR0 (ops:Array Oper):List Oper→Option (List VO)
  | []=>some []
  | o::os=>match cVO P false ops o,zR0 ops os with
    | some v,some vs=>some (v::vs)
    | _,_=>none
end
def RegAny (P:Program)(ops:Array Oper)(Q:Exit→Act→World→Prop)(a:Act)(w:World):Prop :=
  P.follows .mixedOrders=true∧wpAny P .any ops Q ops.size (Array.replicate ops.size false) a { w with drawn:=w.drawn+1 }
theorem RegAny.wp {P:Program}{ops:Array Oper}{Q:Exit→Act→World→Prop}{a:Act}{w:World}{id:Nat}(h:RegAny P ops Q a w):(Code.region id ops true).wp P Q a w:=wp_region_any h.1 h.2
def VExit.to:VExit→Exit
  | .normal=>.normal
  | .exit id=>.exit id
  | .ret=>.ret
section
variable {P:Program} {G:World→(Nat→Prop)→Prop} {w0:Base} {I0:Nat→Prop}
def Rel (w0:Base)(I0:Nat→Prop)(s:List D)(a:Act)(w:World):Prop:=a.defers=[]∧∃ I Fs,RelI w0 I0 s a.tmps w I Fs
theorem zE2 {o:Oper}{a:Act}{w:World}{R:Value→World→Prop}{next:Act→World→Prop}{Q:Exit→Act→World→Prop}(h:RunsTo P (execOp a.eval o) w R)(hn:∀ v w',R v w'→next (a.put o.dst v) w'):o.wp P a w next Q:=by
  unfold Oper.wp;unfold RunsTo at h;cases hr:(execOp a.eval o).run P w with
  | halt x w'=>rw [hr] at h;exact h.elim
  | ok n w' =>
    rw [hr] at h;cases n with
    | value v=>exact hn _ _ h
    | skip=>exact hn _ _ h
    | enter f args=>simp only [Oper.upon];refine Calls.mono h ?_;rintro e w'' ⟨v,rfl,hR⟩;exact hn _ _ hR
    | _=>exact h.elim
theorem zIn {a:Act}{w:World}{s:List D}{dst:Option Nat}{d:D}{v:Value}{I:Nat→Prop}{Fs:Nat→List Nat}{F:List Nat}(hd:a.defers=[])(h:RelI w0 I0 s a.tmps w I Fs)(hT:T I w d (ρS s a.tmps w) v F)(hF:Fresh w0 w I Fs F):Rel w0 I0 (match dst with | some t=>zN2 s t d | none=>s) (a.put dst v) w:=by
  cases dst with
  | none=>exact ⟨hd,I,Fs,h⟩
  | some t=>obtain ⟨Fs',h'⟩:=yOd h t hT hF;exact ⟨hd,I,Fs',h'⟩
theorem zKe (hcl:∀ w',w0.Below w'→GI G w' I0) (ops:Array Oper) {Q:Exit→Act→World→Prop} {KK:List D→Prop} (hQ:∀ s a w,KK s→Rel w0 I0 s a w→Q .normal a w):∀ (l:List Oper) (vs:List VO) (s:List D) (a:Act) (w:World),zR0 P ops l=some vs→zLz (CT P G) s vs KK→Rel w0 I0 s a w→wpList P ops Q l a w
  | [],vs,s,a,w,hc,hk,h=>by simp only [zR0,xAv] at hc;subst hc;exact hQ s a w hk h
  | o :: l, vs,s,a,w,hc,hk,h=>by
    simp only [zR0] at hc;cases hv:cVO P false ops o with
    | none=>simp [hv] at hc
    | some v =>
    cases hvs:zR0 P ops l with
    | none=>simp [hv,hvs] at hc
    | some vs' =>
    simp only [hv,hvs,xAv] at hc;subst hc;simp only [zLz] at hk;obtain ⟨hd,I,Fs,hR⟩:=h;have hGw:GI G w I0:=hcl _ hR.below;simp only [cVO] at hv;cases hg:zFr ops o.guard with
    | none=>simp [hg] at hv
    | some g =>
    cases hop:cOp P false o.op with
    | none=>simp [hg,hop] at hv
    | some vop =>
    simp only [hg,hop,xAv] at hv;subst hv;have run:zAh (CT P G) s vop (fun d s'=>zLz (CT P G) (match o.dst with | some t=>zN2 s' t d | none=>s') vs' KK)→o.wp P a w (wpList P ops Q l) Q:=by intro hk;refine zE2 (zQq (nn:=false) hGw hR (fun h=>by cases h) hop hk) ?_;rintro v w' ⟨d,s',I',Fs',F,hK,hR',hT,hF,_⟩;exact zKe hcl ops hQ l vs' _ _ _ hvs hK (zIn hd hR' hT hF)
    have skip:zLz (CT P G) (match o.dst with | some t=>zN2 s t (.v (.tuple #[])) | none=>s) vs' KK→wpList P ops Q l (a.put o.dst undef) w:=(by intro hk;exact zKe hcl ops hQ l vs' _ _ _ hvs hk (zIn (d:=.v (.tuple #[])) (v:=undef) hd hR qCm Fresh.nil));unfold wpList;simp only [zIk] at hk;cases hgo:o.guard with
    | none=>rw [hgo] at hg;simp only [zFr,xAv] at hg;subst hg;rw [if_pos qBx];exact .inl (run hk)
    | some jw =>
      obtain ⟨j,want⟩:=jw;rw [hgo] at hg;simp only [zFr] at hg;cases hj:(ops[j]?).bind (·.dst) with
      | none=>simp [hj] at hg
      | some t =>
        simp only [hj,xAv] at hg;subst hg;simp only at hk;have hTt:=zXy hR t;have hyv:∀ x:Value,lkT s t=.v x→a.tmps[t]?=some x∨(a.tmps[t]?=none∧x=undef):=by
          intro x e;rw [e] at hTt;have:=(T_v hTt).1;cases ht:a.tmps[t]? with
          | none=>simp [ht] at this;exact .inr ⟨rfl,this.symm⟩
          | some y=>simp [ht] at this;exact .inl (by rw [this])
        split at hk
        · rename_i b e;have hy:yielded ops a.tmps j=some b:=by
            unfold yielded;rw [hj];rcases hyv _ e with h1 | ⟨_,h1⟩
            · simp [h1]
            · cases h1
          by_cases hbw:b=want
          · rw [if_pos qAs];exact .inl (run (hk.1 hbw))
          · rw [if_neg qAs];exact skip (hk.2 hbw)
        · rename_i x hne e;have hy:yielded ops a.tmps j=none:=by
            unfold yielded;rw [hj];rcases hyv _ e with h1 | ⟨h1,_⟩
            · simp only [xDq,h1];split
              · rename_i b hb;cases hb;exact absurd rfl (hne b)
              · rfl
            · simp [h1]
          rw [if_neg qBs];exact skip hk
        · exact hk.elim
end
end Go.V
namespace Go.V
open Go.RowKit
theorem zD6 (q:D→Bool):∀ (m:List Bool) (s:List D) (r:Nat),(zQx q m s)[r]?=(s[r]?).map fun d=>if m.getD r false then .undef else d.prune q
  | m,[],r=>by simp [zQx]
  | true::m,d::s,0=>by simp [zQx]
  | false::m,d::s,0=>by simp [zQx]
  | [],d::s,0=>by simp [zQx]
  | true::m,d::s,r+1=>by simp [zQx,zD6 q m s r]
  | false::m,d::s,r+1=>by simp [zQx,zD6 q m s r]
  | [],d::s,r+1=>by have:=zD6 q [] s r;simp only [zQx,xBh,this];simp
theorem zPd (q:D→Bool):∀ (m:List Bool) (s:List D),(zQx q m s).length=s.length
  | m,[]=>by simp [zQx]
  | true::m,d::s=>by simp [zQx,zPd q m s]
  | false::m,d::s=>by simp [zQx,zPd q m s]
  | [],d::s=>by simp [zQx,zPd q [] s]
theorem RelI.clr {w0 I0 s tm w I Fs} (h:RelI w0 I0 s tm w I Fs) (m:List Bool):RelI w0 I0 (clr m s) tm w I (fun r=>if m.getD r false then [] else Fs r) where
  below:=h.below
  len:=by unfold V.clr;rw [zPd];exact h.len
  slot:=by
    intro r d u h1 h2;unfold V.clr at h1;rw [zD6] at h1;cases hs:s[r]? with
    | none=>simp [hs] at h1
    | some d' =>
      simp only [hs,xAx,xAv] at h1;by_cases hm:m.getD r false=true
      · rw [if_pos hm] at h1;subst h1;rw [if_pos hm];simp [T]
      · rw [if_neg hm] at h1;subst h1;rw [if_neg hm];refine T.turn (fun x v hq hx=>?_) d' (h.slot r d' u hs h2);cases x with
        | ref r' p=>obtain ⟨d1,u0,t1,k1,k2,k3,ko,k4⟩:=hx;have hm':m.getD r' false=false:=qBq;obtain ⟨q',hq'⟩:=zBi p d1 (zBn m) k3;refine ⟨d1.prune (zBn m),u0,t1,?_,k2,by rw [zHq ko] at hq';exact hq',ko,by rw [zBo p d1 _ k3];exact k4⟩;unfold V.clr;rw [zD6,k1];simp only [xAx,hm',xBa,if_false]
        | ptr r' p i j=>obtain ⟨d1,u0,t',sz,rows,u1,b,o,k1,k2,k3,k4,k5,k6,k7⟩:=hx;have hm':m.getD r' false=false:=qBq;obtain ⟨q',hq'⟩:=zBi p d1 (zBn m) k3;obtain ⟨rows',hr'⟩:=(zCf k4 q').cont k4;refine ⟨d1.prune (zBn m),u0,t'.prune q',sz,rows',u1,b,o,?_,k2,hq',hr',by rw [zBo p d1 _ k3];exact k5,k6,k7⟩;unfold V.clr;rw [zD6,k1];simp only [xAx,hm',xBa,if_false]
        | sub r' p i n=>obtain ⟨d1,u0,t',sz,rows,u1,b,o,cc,k1,k2,k3,k4,k5,k6,k7⟩:=hx;have hm':m.getD r' false=false:=qBq;obtain ⟨q',hq'⟩:=zBi p d1 (zBn m) k3;obtain ⟨rows',hr'⟩:=(zCf k4 q').cont k4;refine ⟨d1.prune (zBn m),u0,t'.prune q',sz,rows',u1,b,o,cc,?_,k2,hq',hr',by rw [zBo p d1 _ k3];exact k5,k6,k7⟩;unfold V.clr;rw [zD6,k1];simp only [xAx,hm',xBa,if_false]
        | _=>exact hx.elim
  nd:=by intro r;split;exact xC2;exact h.nd r
  disj:=by intro r r' b hb hb';split at hb<;>split at hb' <;> first | (cases hb;done) | (cases hb';done) | exact h.disj r r' b hb hb'
  own:=by
    intro r b hb;split at hb
    · cases hb
    · exact h.own r b hb
  imm:=h.imm
  imm0:=h.imm0
  immN:=h.immN
/-! ### What a function gives back -/
inductive RV where
  | t (t:Nat)
  | c (t n:Nat) (agg:Bool)
def zHk:D→List D→D
  | .agg _,cs=>.agg cs
  | _,cs=>cs.headD .undef
def zOj (r:Nat):D→Bool
  | .ref r' _=>r' != r
  | _=>false
def zDb (s:List D) (d:D) (K:D→List D→Prop):Prop:=match d with
  | .ptr r [] 0 0=>match s[r]? with
    | some (.box _ cells)=>zCt (zAc (zOj r) cells)=true∧zFx ((zAc (zAd r) s).set r .undef) (zAc (zOj r) cells) (fun cs s'=>K (.box none cs) s')
    | _=>False
  | d=>zCt d.cells=true∧zFx s d.cells (fun cs s'=>K (zHk d cs) s')
def rvK (s:List D):RV→(D→List D→Prop)→Prop
  | .t t,K=>(tkT s t).1.okCells=true∧zDb (tkT s t).2 (tkT s t).1 K
  | .c t n agg,K=>match s[t]? with
    | some (.box _ cells)=>cells.length=n∧(zG6 agg (zAc (zAd t) cells)).okCells=true∧zDb ((zAc (zAd t) s).set t .undef) (zG6 agg (zAc (zAd t) cells)) K
    | _=>False
def zXg:List D→List RV→(List D→List D→Prop)→Prop
  | s,[],K=>K [] s
  | s,r::rs,K=>rvK s r fun d s'=>zXg s' rs fun ds s''=>K (d::ds) s''
def one:List D→D
  | [d]=>d
  | ds=>.tup ds
def zRf (P:Program):List ResultVar→Option (List RV)
  | []=>some []
  | .tmp t::rs=>(zRf P rs).map (.t t::·)
  | .cell a t::rs=>match P.underlying t,P.info? t with
    | some d,some i=>if d.isRow then (zRf P rs).map (.c a i.size true::·) else if i.size=1 then (zRf P rs).map (.c a 1 false::·) else none
    | _,_=>none
end Go.V
namespace Go.V
open Go.RowKit
theorem zZn {s:List D}{sz:Nat}{x:Operand}{K:List (List D)→List D→Prop}(h:zO6 s sz x K):∃ r s',K r s'∧zO6 s sz x (fun r' s''=>r'=r∧s''=s'):=by
  unfold zO6 at h ⊢;split at h
  · exact ⟨_,_,h.2,h.1,rfl,rfl⟩
  · exact ⟨_,_,h,rfl,rfl⟩
  · exact h.elim
theorem zZo {s:List D}{sz:Nat}{x:Operand}{K K':List (List D)→List D→Prop}(hm:∀ r s,K r s→K' r s)(h:zO6 s sz x K):zO6 s sz x K':=by
  unfold zO6 at h ⊢;split at h
  · exact ⟨h.1,hm _ _ h.2⟩
  · exact hm _ _ h
  · exact h.elim
theorem zYm {s:List D}{sz:Nat}{x:Operand}{K:List (List D)→List D→Prop}(h:zWn s sz x K):∃ r s',K r s'∧zWn s sz x (fun r' s''=>r'=r∧s''=s'):=by
  unfold zWn at h ⊢;split at h
  · exact ⟨_,_,h.2,h.1,rfl,rfl⟩
  · exact ⟨_,_,h.2,h.1,rfl,rfl⟩
  · exact ⟨_,_,h,rfl,rfl⟩
  · rename_i r q e
    (try simp only [e])
    split at h
    · rename_i e1
      (try simp only [e1])
      exact ⟨_,_,h.2.2,h.1,h.2.1,rfl,rfl⟩
    · exact h.elim
  · rename_i r q i n e
    (try simp only [e])
    split at h
    · rename_i e1
      (try simp only [e1])
      exact ⟨_,_,h.2.2,h.1,h.2.1,rfl,rfl⟩
    · exact h.elim
  · exact h.elim
theorem zTu {s:List D}{sz:Nat}{x:Operand}{K K':List (List D)→List D→Prop}(hm:∀ r s,K r s→K' r s)(h:zWn s sz x K):zWn s sz x K':=by
  unfold zWn at h ⊢;split at h
  · exact ⟨h.1,hm _ _ h.2⟩
  · exact ⟨h.1,hm _ _ h.2⟩
  · exact hm _ _ h
  · rename_i r q e
    (try simp only [e])
    split at h
    · rename_i e1
      (try simp only [e1])
      exact ⟨h.1,h.2.1,hm _ _ h.2.2⟩
    · exact h.elim
  · rename_i r q i n e
    (try simp only [e])
    split at h
    · rename_i e1
      (try simp only [e1])
      exact ⟨h.1,h.2.1,hm _ _ h.2.2⟩
    · exact h.elim
  · exact h.elim
theorem yDg {c a b:D}{s:List D}{K:D→List D→Prop}(h:zSt c a b s K):∃ d s',K d s'∧zSt c a b s (fun d' s''=>d'=d∧s''=s'):=by
  unfold zSt at h ⊢;split at h
  · rename_i t;split at h
    · exact ⟨_,_,h,rfl,rfl⟩
    · rename_i hn;cases t with
      | true=>exact ⟨_,_,h.1 rfl,by simp⟩
      | false=>exact ⟨_,_,h.2 rfl,by simp⟩
  · exact h.elim
theorem yIf {op:BinOp}{k k':IntKind}{x y:Int}{s:List D}{K:D→List D→Prop}(h:zUq op k x k' y (fun v=>K (.v v) s)):∃ d s',K d s'∧zUq op k x k' y (fun v=>(.v v:D)=d∧s=s'):=by unfold zUq at h ⊢;split at h<;>first | exact ⟨_,_,h.2.2,h.1,h.2.1,rfl,rfl⟩ | exact ⟨_,_,h.2,h.1,rfl,rfl⟩
theorem yE9 {op:BinOp}{x y:ByteArray}{s:List D}{K:D→List D→Prop}(h:yPv op x y (fun v=>K (.v v) s)):∃ d s',K d s'∧yPv op x y (fun v=>(.v v:D)=d∧s=s'):=by unfold yPv at h ⊢;split at h<;>first | exact ⟨_,_,h.2,h.1,rfl,rfl⟩ | exact ⟨_,_,h,rfl,rfl⟩ | exact h.elim
theorem yCw {x l h:D}{s:List D}{K:D→List D→Prop}(hk:yFl x l h s K):∃ d s',K d s'∧yFl x l h s (fun d' s''=>d'=d∧s''=s'):=by
  unfold yFl at hk ⊢;split at hk
  · exact ⟨_,_,hk.2.2.2,hk.1,hk.2.1,hk.2.2.1,rfl,rfl⟩
  · exact hk.elim
theorem yFn {sz:Nat}{x l h m:D}{s:List D}{K:D→List D→Prop}(hk:yPz sz x l h m s K):∃ d s',K d s'∧yPz sz x l h m s (fun d' s''=>d'=d∧s''=s'):=by
  unfold yPz at hk ⊢;split at hk
  · obtain ⟨h1,h2,h3,h4,h5,h6,h7⟩:=hk;exact ⟨_,_,h7,h1,h2,h3,h4,h5,h6,rfl,rfl⟩
  · split at hk
    · rename_i e1
      (try simp only [e1])
      obtain ⟨h1,h2,h3,h4,h5,h6,h7⟩:=hk;exact ⟨_,_,h7,h1,h2,h3,h4,h5,h6,rfl,rfl⟩
    · exact hk.elim
  · split at hk
    · rename_i e1
      (try simp only [e1])
      obtain ⟨h1,h2,h3,h4,h5,h6,h7⟩:=hk;exact ⟨_,_,h7,h1,h2,h3,h4,h5,h6,rfl,rfl⟩
    · exact hk.elim
  · exact hk.elim
theorem yD4 {Ctr:CtrT} {s:List D}:∀ {v:VOp} {K:D→List D→Prop},v.framed=true→zAh Ctr s v K→∃ d s',K d s'∧zAh Ctr s v (fun d' s''=>d'=d∧s''=s'):=by
  intro v K hv h;cases v with
  | mv x =>
    simp only [zAh] at h ⊢;unfold mvE at h ⊢;cases x with
    | tmp t=>simp only at h ⊢;split at h<;>(rename_i e;(try simp only [e]);exact ⟨_,_,h,rfl,rfl⟩)
    | _=>exact ⟨_,_,h,rfl,rfl⟩
  | asg x=>exact ⟨_,_,h,rfl,rfl⟩
  | nilc x=>simp only [zAh] at h ⊢;split at h<;>first | exact h.elim | (rename_i e;skip;(try simp only [e]);exact ⟨_,_,h,rfl,rfl⟩)
  | pick c a b=>exact yDg h
  | bin op x y =>
    simp only [zAh] at h ⊢;split at h
    · exact yIf h
    · exact yE9 h
    · exact h.elim
  | binB neg x y =>
    simp only [zAh] at h ⊢;split at h
    · exact ⟨_,_,h,rfl,rfl⟩
    · exact h.elim
  | eqs neg ks x y =>
    simp only [zAh] at h ⊢;split at h
    · obtain ⟨h0,h⟩:=h;split at h
      · rename_i e3
        try simp only [e3]
        exact ⟨_,_,h,h0,rfl,rfl⟩
      · exact h.elim
    · exact h.elim
  | un op x =>
    simp only [zAh] at h ⊢;split at h
    · exact ⟨_,_,h,rfl,rfl⟩
    · exact ⟨_,_,h,rfl,rfl⟩
    · exact h.elim
  | conv k x =>
    simp only [zAh] at h ⊢;split at h
    · exact ⟨_,_,h,rfl,rfl⟩
    · exact h.elim
  | alloc z=>exact ⟨_,_,h,rfl,rfl⟩
  | box x=>exact ⟨_,_,h.2,h.1,rfl,rfl⟩
  | build z ps =>
    simp only [zAh] at h ⊢;obtain ⟨h1,h2⟩:=h;split at h2
    · rename_i e
      (try simp only [e])
      exact ⟨_,_,h2,h1,rfl,rfl⟩
    · exact h2.elim
  | bslN sz ps=>exact ⟨_,_,h.2.2,h.1,h.2.1,rfl,rfl⟩
  | load n agg x =>
    simp only [zAh] at h ⊢;split at h
    · rename_i e
      (try simp only [e])
      split at h
      · rename_i e2
        (try simp only [e2])
        exact ⟨_,_,h.2,h.1,rfl,rfl⟩
      · exact h.elim
    · exact ⟨_,_,h.2,h.1,rfl,rfl⟩
    · exact h.elim
  | fa off x=>simp only [zAh] at h ⊢;split at h<;>first | exact h.elim | (rename_i e;skip;(try simp only [e]);exact ⟨_,_,h,rfl,rfl⟩)
  | fld off n agg x =>
    simp only [zAh] at h ⊢;split at h
    · exact ⟨_,_,h.2,h.1,rfl,rfl⟩
    · exact h.elim
  | ia sz x i =>
    simp only [zAh] at h ⊢;split at h
    · rename_i e1 e2
      (try simp only [e1,e2])
      split at h
      · rename_i e3
        (try simp only [e3])
        exact ⟨_,_,h.2.2.2,h.1,h.2.1,h.2.2.1,rfl,rfl⟩
      · exact h.elim
    · obtain ⟨h1,h2,h3,row,h4,h5⟩:=h;exact ⟨_,_,h5,h1,h2,h3,row,h4,rfl,rfl⟩
    · exact h.elim
  | iaa len sz x i =>
    simp only [zAh] at h ⊢;split at h
    · exact ⟨_,_,h.2.2,h.1,h.2.1,rfl,rfl⟩
    · exact ⟨_,_,h.2.2,h.1,h.2.1,rfl,rfl⟩
    · exact h.elim
  | ixs x i =>
    simp only [zAh] at h ⊢;split at h
    · obtain ⟨h1,c,h2,h3⟩:=h;exact ⟨_,_,h3,h1,c,h2,rfl,rfl⟩
    · exact h.elim
  | ixa len sz agg x i =>
    simp only [zAh] at h ⊢;split at h
    · exact ⟨_,_,h.2.2.2,h.1,h.2.1,h.2.2.1,rfl,rfl⟩
    · exact h.elim
  | slcS x lo hi=>exact yCw h
  | slc sz x lo hi mx=>exact yFn h
  | extN x i =>
    simp only [zAh] at h ⊢;split at h
    · rename_i t;split at h
      · rename_i vs hs
        try simp only [hs]
        split at h
        · rename_i d hi
          try simp only [hi]
          exact ⟨_,_,h.2,h.1,rfl,rfl⟩
        · exact h.elim
      · exact h.elim
    · exact h.elim
  | len x =>
    simp only [zAh] at h ⊢;split at h
    · rename_i e
      (try simp only [e])
      exact ⟨_,_,h,rfl,rfl⟩
    · exact h.elim
  | lenS x =>
    simp only [zAh] at h ⊢;split at h
    · exact ⟨_,_,h,rfl,rfl⟩
    · exact h.elim
  | mm mx xs =>
    simp only [zAh] at h ⊢;split at h
    · exact ⟨_,_,h.2,h.1,rfl,rfl⟩
    · exact h.elim
  | appN sz bytes x y=>simp only [zAh] at h ⊢;obtain ⟨r,s1,hk,h1⟩:=zZn h;obtain ⟨m,s2,hk2,h2⟩:=zYm hk;refine ⟨_,_,hk2.2,zZo ?_ h1⟩;rintro r' s' ⟨rfl,rfl⟩;refine zTu ?_ h2;rintro m' s' ⟨rfl,rfl⟩;exact ⟨hk2.1,rfl,rfl⟩
  | mkf f first caps=>exact ⟨_,_,h,rfl,rfl⟩
  | mks sz bytes z l c =>
    simp only [zAh] at h ⊢;split at h
    · exact ⟨_,_,h.2.2.2,h.1,h.2.1,h.2.2.1,rfl,rfl⟩
    · exact h.elim
  | call f args =>
    simp only [zAh] at h ⊢;rcases h with ⟨args',d,h1,h2,h3,h4⟩ | ⟨x,sz,r,q,rows,row,h1,h2,h3,h4,h5,h6,h7⟩ | ⟨args',d,h1,h2,h3,h4⟩
    · exact ⟨_,_,h4,.inl ⟨args',d,h1,h2,h3,rfl,rfl⟩⟩
    · exact ⟨_,_,h7,.inr (.inl ⟨x,sz,r,q,rows,row,h1,h2,h3,h4,h5,h6,rfl,rfl⟩)⟩
    · exact ⟨_,_,h4,.inr (.inr ⟨args',d,h1,h2,h3,rfl,rfl⟩)⟩
  | callv f args =>
    simp only [zAh] at h ⊢;split at h
    · obtain ⟨args',d,h1,h2,h3,h4⟩:=h;exact ⟨_,_,h4,args',d,h1,h2,h3,rfl,rfl⟩
    · exact h.elim
  | store _ _ _=>simp [VOp.framed] at hv
  | mkif _ _=>simp [VOp.framed] at hv
  | app _ _ _ _=>simp [VOp.framed] at hv
  | bsl _ _=>simp [VOp.framed] at hv
  | ext _ _=>simp [VOp.framed] at hv
  | b2s x =>
    simp only [zAh,yZ0] at h ⊢;split at h
    · obtain ⟨xs,h1,h2⟩:=h;exact ⟨_,_,h2,xs,h1,rfl,rfl⟩
    · exact h.elim
  | isnil _ _=>simp [VOp.framed] at hv
  | s2b x=>exact h.elim
  | appS _ _ _=>simp [VOp.framed] at hv
  | mupd _ _ _ _=>simp [VOp.framed] at hv
  | mdel _ _ _=>simp [VOp.framed] at hv
  | callX _ _=>simp [VOp.framed] at hv
  | callvX _ _=>simp [VOp.framed] at hv
  | mkm k=>exact ⟨_,_,h,rfl,rfl⟩
  | mlk k z ok m i =>
    simp only [zAh] at h ⊢;split at h
    · obtain ⟨h0,h⟩:=h;unfold yRp at h ⊢;split at h
      · obtain ⟨h1,h⟩:=h;split at h
        · rename_i e1;exact ⟨_,_,h,h0,h1,rfl,rfl⟩
        · rename_i e1;exact ⟨_,_,h,h0,h1,rfl,rfl⟩
      · split at h
        · exact ⟨_,_,h,h0,rfl,rfl⟩
        · exact h.elim
    · exact h.elim
  | mlen m =>
    simp only [zAh] at h ⊢;split at h
    · rename_i k e _;cases k<;>first | exact ⟨_,_,h,rfl,rfl⟩ | exact h.elim
    · split at h
      · exact ⟨_,_,h,rfl,rfl⟩
      · exact h.elim
end Go.V
namespace Go.V
open Go.RowKit
mutual
theorem D.prune_prune (q1 q2:D→Bool):∀ d:D,(d.prune q2).prune q1=d.prune (fun x=>q2 x&&q1 x)
  | .undef=>by simp [D.prune]
  | .nils=>by simp [D.prune]
  | .v _=>by simp [D.prune]
  | .sl _ _ _=>by simp [D.prune]
  | .agg cs=>by simp only [D.prune,zD4 q1 q2 cs]
  | .tup cs=>by simp only [D.prune,zD4 q1 q2 cs]
  | .ref r p=>by cases h:q2 (.ref r p)<;>simp [D.prune,h]
  | .ptr r p i j=>by cases h:q2 (.ptr r p i j)<;>simp [D.prune,h]
  | .sub r p i n=>by cases h:q2 (.sub r p i n)<;>simp [D.prune,h]
  | .iptr _ _=>by simp [D.prune]
  | .box _ cs=>by simp only [D.prune,zD4 q1 q2 cs]
  | .mp _ _=>by simp [D.prune]
  | .imp _ _=>by simp [D.prune]
  | .fn _ a b=>by simp only [D.prune,zD4 q1 q2 a,zD4 q1 q2 b]
theorem zD4 (q1 q2:D→Bool):∀ ds:List D,zAc q1 (zAc q2 ds)=zAc (fun x=>q2 x&&q1 x) ds
  | []=>rfl
  | d::ds=>by simp only [zAc,D.prune_prune q1 q2 d,zD4 q1 q2 ds]
end
theorem zDc {q q':D→Bool}(h:∀ x,q x=q' x)(d:D):d.prune q=d.prune q':=by rw [show q=q' from funext h]
theorem zEa {d:D}{q:D→Bool}{sz:Nat}{rows':List (List D)}(hd:(d.prune q).cont=some (sz,rows')):∃ rows,d.cont=some (sz,rows) ∧
    ∀ (i:Nat) (row':List D),rows'[i]?=some row'→∃ row:List D,rows[i]?=some row∧∀ (j:Nat) (x':D),row'[j]?=some x'→∃ (x:D) (q':D→Bool),row[j]?=some x∧x'=x.prune q':=by
  cases d with
  | sl own sz0 rows=>cases own with
    | false=>simp [D.prune,D.cont] at hd
    | true=>simp only [D.prune,D.cont,xAv,xBd] at hd;obtain ⟨rfl,rfl⟩:=hd;exact ⟨rows,rfl,fun i row' hi=>⟨row',hi,fun j x' hj=>⟨x',fun _=>true,hj,(D.prune_yes x').symm⟩⟩⟩
  | mp k e=>simp only [D.prune,D.cont,xAv,xBd] at hd;obtain ⟨rfl,rfl⟩:=hd;exact ⟨[],rfl,fun i row' hi=>by simp at hi⟩
  | box tag cells =>
    simp only [D.prune,D.cont,xAv,xBd] at hd;obtain ⟨rfl,rfl⟩:=hd;refine ⟨[cells],by simp [D.cont,zAx],fun i row' hi=>?_⟩;cases i with
    | succ i=>simp at hi
    | zero =>
      obtain rfl:zAc q cells=row':=qAp;refine ⟨cells,rfl,fun j x' hj=>?_⟩;rw [zA3] at hj;cases hc:cells[j]? with
      | none=>simp [hc] at hj
      | some x=>exact ⟨x,q,rfl,by simpa [hc,eq_comm] using hj⟩
  | ref r p=>simp only [D.prune] at hd;split at hd<;>simp [D.cont] at hd
  | ptr r p i j=>simp only [D.prune] at hd;split at hd<;>simp [D.cont] at hd
  | sub r p i n=>simp only [D.prune] at hd;split at hd<;>simp [D.cont] at hd
  | _=>simp [D.prune,D.cont] at hd
theorem zCe:∀ (p:zBr) (d:D) (q:D→Bool) {t':D},zAf (d.prune q) p=some t'→∃ t q',zAf d p=some t∧t'=t.prune q'
  | [],d,q,t',h=>⟨d,q,rfl,by simpa [zAf,eq_comm] using h⟩
  | (i,j)::p,d,q,t',h=>by
    simp only [zAf] at h;cases hd:(d.prune q).cont with
    | none=>simp [hd] at h
    | some x =>
    obtain ⟨sz,rows'⟩:=x;simp only [hd] at h;cases hi:rows'[i]? with
    | none=>simp [hi] at h
    | some row' =>
    cases hj:row'[j]? with
    | none=>simp [hi,hj] at h
    | some c' =>
    simp only [hi,hj] at h;obtain ⟨rows,h1,h2⟩:=zEa hd;obtain ⟨row,h3,h4⟩:=h2 i row' hi;obtain ⟨c,q',h5,rfl⟩:=h4 j c' hj;obtain ⟨t,q'',h6,h7⟩:=zCe p c q' h;exact ⟨t,q'',by simp only [zAf,h1,h3,h5,h6],h7⟩
theorem ρS.unclr {s:List D}{tm:Array Value}{w:World}{m:List Bool}{x:D}{v:Value}(h:ρS (clr m s) tm w x v):ρS s tm w x v:=by
  have key:∀ (r:Nat) (d':D),(clr m s)[r]?=some d'→d'=.undef∨∃ d q,s[r]?=some d∧d'=d.prune q:=by
    intro r d' h;unfold V.clr at h;rw [zD6] at h;cases hs:s[r]? with
    | none=>simp [hs] at h
    | some d =>
      simp only [hs,xAx,xAv] at h;split at h
      · exact .inl h.symm
      · exact .inr ⟨d,_,rfl,h.symm⟩
  have nou:∀ (p:zBr) (t:D) (y:Nat×List (List D)),zAf .undef p=some t→t.cont=some y→False:=by
    intro p t y h1 h2;cases p with
    | nil=>simp only [zAf,xAv] at h1;subst h1;simp [D.cont] at h2
    | cons z p=>obtain ⟨i,j⟩:=z;simp [zAf,D.cont] at h1
  cases x with
  | ref r p =>
    obtain ⟨d',u0,t1,k1,k2,k3,ko,k4⟩:=h;rcases key r d' k1 with rfl | ⟨d,q,hs,rfl⟩
    · obtain ⟨sz,rows,hcc⟩:=zHr ko;exact (nou p _ _ k3 hcc).elim
    · obtain ⟨t,q',h1,h2⟩:=zCe p d q k3;exact ⟨d,u0,t,hs,k2,h1,zQr (q:=q') (by rw [← h2];exact ko),by rw [← zBo p d q h1];exact k4⟩
  | ptr r p i j =>
    obtain ⟨d',u0,t',sz,rows,u1,b,o,k1,k2,k3,k4,k5,k6⟩:=h;rcases key r d' k1 with rfl | ⟨d,q,hs,rfl⟩
    · exact (nou p _ _ k3 k4).elim
    · obtain ⟨t,q',h1,rfl⟩:=zCe p d q k3;obtain ⟨rows2,h3,_⟩:=zEa k4;exact ⟨d,u0,t,sz,rows2,u1,b,o,hs,k2,h1,h3,by rw [← zBo p d q h1];exact k5,k6⟩
  | sub r p i n =>
    obtain ⟨d',u0,t',sz,rows,u1,b,o,cc,k1,k2,k3,k4,k5,k6⟩:=h;rcases key r d' k1 with rfl | ⟨d,q,hs,rfl⟩
    · exact (nou p _ _ k3 k4).elim
    · obtain ⟨t,q',h1,rfl⟩:=zCe p d q k3;obtain ⟨rows2,h3,_⟩:=zEa k4;exact ⟨d,u0,t,sz,rows2,u1,b,o,cc,hs,k2,h1,h3,by rw [← zBo p d q h1];exact k5,k6⟩
  | _=>exact h.elim
theorem ρS.clr {s:List D}{tm:Array Value}{w:World}{m:List Bool}{x:D}{v:Value}(hq:zBn m x=true)(hx:ρS s tm w x v):ρS (clr m s) tm w x v:=by
  cases x with
  | ref r' p=>obtain ⟨d1,u0,t1,k1,k2,k3,ko,k4⟩:=hx;have hm':m.getD r' false=false:=qBq;obtain ⟨q',hq'⟩:=zBi p d1 (zBn m) k3;refine ⟨d1.prune (zBn m),u0,t1,?_,k2,by rw [zHq ko] at hq';exact hq',ko,by rw [zBo p d1 _ k3];exact k4⟩;unfold V.clr;rw [zD6,k1];simp only [xAx,hm',xBa,if_false]
  | ptr r' p i j=>obtain ⟨d1,u0,t',sz,rows,u1,b,o,k1,k2,k3,k4,k5,k6,k7⟩:=hx;have hm':m.getD r' false=false:=qBq;obtain ⟨q',hq'⟩:=zBi p d1 (zBn m) k3;obtain ⟨rows',hr'⟩:=(zCf k4 q').cont k4;refine ⟨d1.prune (zBn m),u0,t'.prune q',sz,rows',u1,b,o,?_,k2,hq',hr',by rw [zBo p d1 _ k3];exact k5,k6,k7⟩;unfold V.clr;rw [zD6,k1];simp only [xAx,hm',xBa,if_false]
  | sub r' p i n=>obtain ⟨d1,u0,t',sz,rows,u1,b,o,cc,k1,k2,k3,k4,k5,k6,k7⟩:=hx;have hm':m.getD r' false=false:=qBq;obtain ⟨q',hq'⟩:=zBi p d1 (zBn m) k3;obtain ⟨rows',hr'⟩:=(zCf k4 q').cont k4;refine ⟨d1.prune (zBn m),u0,t'.prune q',sz,rows',u1,b,o,cc,?_,k2,hq',hr',by rw [zBo p d1 _ k3];exact k5,k6,k7⟩;unfold V.clr;rw [zD6,k1];simp only [xAx,hm',xBa,if_false]
  | _=>exact hx.elim
theorem zBf (m:List Bool)(s:List D)(r:Nat):(clr m s)[r]?=(s[r]?).map fun d=>if m.getD r false then .undef else d.prune (zBn m):=zD6 _ _ _ _
theorem zTh (m:List Bool)(s:List D):(clr m s).length=s.length:=zPd _ _ _
theorem yB4 (m1 m2:List Bool)(s:List D):clr m1 (clr m2 s)=clr m2 (clr m1 s):=by
  apply xDc;intro r;simp only [zBf,xD7];cases s[r]? with
  | none=>rfl
  | some d=>simp only [xAx,Function.comp_def];cases m1.getD r false<;>cases m2.getD r false<;>simp [D.prune,D.prune_prune];apply zDc;intro x;exact xG2 _ _
theorem zSq {d:D}{q:D→Bool}(h:d.prune q=.undef):d.owny=false:=by
  cases d with
  | undef=>rfl
  | ref r p=>rfl
  | ptr r p i j=>rfl
  | sub r p i n=>rfl
  | _=>simp [D.prune] at h
end Go.V
namespace Go.V
open Go.RowKit
theorem zUk (q:D→Bool):∀ (l:List D) (j:Nat) (x:D),zAc q (l.set j x)=(zAc q l).set j (x.prune q)
  | [],j,x=>rfl
  | d::l,0,x=>rfl
  | d::l,j+1,x=>by simp only [xBc,zAc,zUk q l j x]
theorem zSi (k:D→Bool):∀ (p:zBr) (d:D),(setAt d p .undef).prune k=setAt (d.prune k) p .undef
  | [],d=>by cases d<;>simp [setAt,D.prune]
  | (i, j)::p,d=>by
    cases d with
    | sl own sz rows=>cases own with
      | false=>simp [setAt,D.cont,D.prune]
      | true =>
        simp only [setAt,D.cont,D.prune,D.withCont];cases rows[i]? with
        | none=>rfl
        | some row=>cases hx:row[j]? with
          | none=>simp only [hx,D.prune]
          | some x=>simp only [hx,D.prune]
    | box tag cells =>
      simp only [setAt,D.cont,D.prune];cases i with
      | succ i=>simp [D.prune]
      | zero =>
        simp only [xBb,zA3];cases hc:cells[j]? with
        | none=>simp [D.prune]
        | some x=>simp [D.withCont,D.prune,zUk,zSi k p x]
    | ref r p=>simp only [setAt,D.cont,D.prune];split<;>simp [setAt,D.cont]
    | ptr r p i j=>simp only [setAt,D.cont,D.prune];split<;>simp [setAt,D.cont]
    | sub r p i n=>simp only [setAt,D.cont,D.prune];split<;>simp [setAt,D.cont]
    | _=>simp [setAt,D.cont,D.prune]
theorem zQp (p:zBr)(t:D)(y:Nat×List (List D))(h1:zAf .undef p=some t)(h2:t.cont=some y):False:=by
  cases p with
  | nil=>simp only [zAf,xAv] at h1;subst h1;simp [D.cont] at h2
  | cons z p=>obtain ⟨i,j⟩:=z;simp [zAf,D.cont] at h1
def zV4 (t:D)(_:Nat):Prop:=t.ownv=true
theorem zSe {w:World}:∀ (q p:zBr) (d:D) {t':D} {sz:Nat} {rows':List (List D)},zAf (setAt d q .undef) p=some t'→t'.cont=some (sz,rows') →
    ∃ t,zAf d p=some t∧(∃ rows,t.cont=some (sz,rows))∧(zV4 t' sz→zV4 t sz)∧∀ u,zA8 w u (setAt d q .undef) p=zA8 w u d p
  | [],p,d,t',sz,rows',h,hc=>by simp only [setAt] at h;exact (zQp p t' _ h hc).elim
  | (i, j) :: q,p,d,t',sz,rows',h,hc=>by
    have same:setAt d ((i,j)::q) .undef=d→∃ t,zAf d p=some t∧(∃ rows,t.cont=some (sz,rows))∧(zV4 t' sz→zV4 t sz)∧∀ u,zA8 w u (setAt d ((i,j)::q) .undef) p=zA8 w u d p:=fun e=>by rw [e] at h ⊢;exact ⟨t',h,⟨rows',hc⟩,id,fun _=>rfl⟩
    cases hd:d.cont with
    | none=>exact same (by simp only [setAt,hd])
    | some x =>
      obtain ⟨sz0,rows0⟩:=x;cases hi:rows0[i]? with
      | none=>exact same (by simp only [setAt,hd,hi])
      | some row=>cases hj:row[j]? with
        | none=>exact same (by simp only [setAt,hd,hi,hj])
        | some x =>
          have hset:setAt d ((i,j)::q) .undef=d.withCont (rows0.set i (row.set j (setAt x q .undef))):=(by simp only [setAt,hd,hi,hj]);have hcont:=zIi hd i j row (setAt x q .undef) hi;have hil:=(xA4.1 hi).1;have hjl:=(xA4.1 hj).1;rw [hset] at h ⊢;cases p with
          | nil =>
            simp only [zAf,xAv] at h;subst h;rw [hcont] at hc;simp only [xAv,xBd] at hc;obtain ⟨rfl,_⟩:=hc;refine ⟨d,rfl,⟨rows0,hd⟩,fun ho=>?_,fun u=>rfl⟩;cases d with
            | sl own z r=>cases own with
              | false=>simp [D.cont] at hd
              | true=>rfl
            | box tag cells=>unfold zV4 at ho;cases hrs:rows0.set i (row.set j (setAt x q .undef))<;>simp [D.withCont,hrs,D.ownv] at ho
            | mp k e=>rfl
            | _=>simp [D.cont] at hd
          | cons y p =>
            obtain ⟨i2,j2⟩:=y;simp only [zAf,hcont] at h;by_cases hii:i2=i
            · subst hii;rw [xBq hil] at h;simp only at h;by_cases hjj:j2=j
              · subst hjj;rw [xBq hjl] at h;simp only at h;obtain ⟨t,k1,k2,k3,k4⟩:=zSe (w:=w) q p x h hc;refine ⟨t,by simp only [zAf,hd,hi,hj,k1],k2,k3,fun u=>?_⟩;simp only [zA8,hcont,hd,hi,hj,xBq hil,xBq hjl,k4];cases zBa u with
                | none=>rfl
                | some y =>
                  obtain ⟨y1,y2⟩:=y;simp only [hi,hj,xBq hil,xBq hjl,k4];cases w.cell? ⟨y1,y2+i2*sz0+j2,none⟩ with
                  | none=>simp only [hi,hj,xBq hil,xBq hjl,k4]
                  | some u'=>simp only [hi,hj,xBq hil,xBq hjl,k4]
              · rw [xA9 (Ne.symm hjj)] at h;refine ⟨t',by simp only [zAf,hd,hi];exact h,⟨rows',hc⟩,id,fun u=>?_⟩;simp only [zA8,hcont,hd,hi,xBq hil,xA9 (Ne.symm hjj)];cases zBa u with
                | none=>rfl
                | some y=>obtain ⟨y1,y2⟩:=y;simp only [hi,xBq hil,xA9 (Ne.symm hjj)]
            · rw [xA9 (Ne.symm hii)] at h;refine ⟨t',by simp only [zAf,hd];exact h,⟨rows',hc⟩,id,fun u=>?_⟩;simp only [zA8,hcont,hd,xA9 (Ne.symm hii)];cases zBa u with
              | none=>rfl
              | some y=>obtain ⟨y1,y2⟩:=y;simp only [xA9 (Ne.symm hii)]
theorem zXp {d:D}{q:D→Bool}{sz:Nat}(h:zV4 (d.prune q) sz):zV4 d sz:=zQr h
theorem zBw {r:Nat}{q:zBr}{s:List D}{d:D}(hs:s[r]?=some d)(j:Nat):(zDv r q s)[j]?=if j=r then some (setAt (d.prune (zAg r q)) q .undef) else (s[j]?).map (D.prune (zAg r q)):=by
  unfold zDv;rw [hs];simp only;have hlt:=(xA4.1 hs).1;by_cases hj:j=r
  · subst hj;rw [if_pos rfl,xBq (by rw [zAx];exact hlt)]
  · rw [if_neg hj,xA9 (Ne.symm hj),zA3]
theorem zO2 {r:Nat}{q:zBr}{s:List D}:(zDv r q s).length=s.length:=by unfold zDv;split<;>simp [zAx]
theorem ρS.unhole {s:List D} {tm:Array Value} {w:World} {r:Nat} {q:zBr} {x:D} {v:Value} (h:ρS (zDv r q s) tm w x v):ρS s tm w x v:=by
  cases hsr:s[r]? with
  | none=>unfold zDv at h;rw [hsr] at h;exact h
  | some d0 =>
    have key:∀ (r':Nat) (d':D) (p:zBr) (t':D) (sz:Nat) (rows':List (List D)),(zDv r q s)[r']?=some d'→zAf d' p=some t'→t'.cont=some (sz,rows') →
        ∃ d t,s[r']?=some d∧zAf d p=some t∧(∃ rows,t.cont=some (sz,rows))∧(zV4 t' sz→zV4 t sz)∧∀ u,zA8 w u d' p=zA8 w u d p:=by
      intro r' d' p t' sz rows' h1 h2 h3;rw [zBw hsr] at h1;split at h1
      · rename_i e;subst e;simp only [xAv] at h1;subst h1;obtain ⟨t,k1,⟨rows,k2⟩,k3,k4⟩:=zSe (w:=w) q p _ h2 h3;obtain ⟨t0,q',m1,rfl⟩:=zCe p d0 _ k1;obtain ⟨rows0,m2,_⟩:=zEa k2;exact ⟨d0,t0,hsr,m1,⟨rows0,m2⟩,fun ho=>zXp (k3 ho),fun u=>(k4 u).trans (zBo p d0 _ m1)⟩
      · cases hr':s[r']? with
        | none=>simp [hr'] at h1
        | some d=>simp only [hr',xAx,xAv] at h1;subst h1;obtain ⟨t0,q',m1,rfl⟩:=zCe p d _ h2;obtain ⟨rows0,m2,_⟩:=zEa h3;exact ⟨d,t0,rfl,m1,⟨rows0,m2⟩,zXp,fun u=>zBo p d _ m1⟩
    cases x with
    | ref r' p=>obtain ⟨d',u0,t1,k1,k2,k3,ko,k4⟩:=h;obtain ⟨sz,rows,hcc⟩:=zHr ko;obtain ⟨d,t,m1,m2,_,m4,m5⟩:=key r' d' p _ sz rows k1 k3 hcc;exact ⟨d,u0,t,m1,k2,m2,m4 ko,by rw [← m5];exact k4⟩
    | ptr r' p i j=>obtain ⟨d',u0,t',sz,rows,u1,b,o,k1,k2,k3,k4,k5,k6⟩:=h;obtain ⟨d,t,m1,m2,⟨rows2,m3⟩,_,m5⟩:=key r' d' p _ sz rows k1 k3 k4;exact ⟨d,u0,t,sz,rows2,u1,b,o,m1,k2,m2,m3,by rw [← m5];exact k5,k6⟩
    | sub r' p i n=>obtain ⟨d',u0,t',sz,rows,u1,b,o,cc,k1,k2,k3,k4,k5,k6⟩:=h;obtain ⟨d,t,m1,m2,⟨rows2,m3⟩,_,m5⟩:=key r' d' p _ sz rows k1 k3 k4;exact ⟨d,u0,t,sz,rows2,u1,b,o,cc,m1,k2,m2,m3,by rw [← m5];exact k5,k6⟩
    | _=>exact h.elim
theorem zRw {r:Nat}{q:zBr}{m:List Bool}(hm:m.getD r false=false)(s:List D):zDv r q (clr m s)=clr m (zDv r q s):=by
  cases hsr:s[r]? with
  | none=>have h1:(clr m s)[r]?=none:=(by rw [zBf,hsr];rfl);unfold zDv;rw [hsr,h1]
  | some d =>
    have h1:(clr m s)[r]?=some (d.prune (zBn m)):=(by rw [zBf,hsr];simp only [xAx,hm,xBa,if_false]);apply xDc;intro j;rw [zBw h1,zBf,zBf,zBw hsr];by_cases hj:j=r
    · subst hj;rw [if_pos rfl,if_pos rfl];simp only [xAx,hm,xBa,if_false,zSi,D.prune_prune];rw [zDc (q:=fun x=>zBn m x&&zAg j q x) (q':=fun x=>zAg j q x&&zBn m x) (fun x=>xG2 _ _)]
    · rw [if_neg hj,if_neg hj];simp only [xD7];cases s[j]? with
      | none=>rfl
      | some e=>simp only [xAx,Function.comp_def];cases m.getD j false<;>simp [D.prune,D.prune_prune];exact zDc (fun x=>xG2 _ _) _
theorem zPc {hid:List Bool}{s s':List D}(hl:s.length=s'.length)(h:∀ r,hid.getD r false=false→s[r]?=s'[r]?):clr hid s=clr hid s':=by
  apply xDc;intro r;rw [zBf,zBf];cases hr:hid.getD r false with
  | false=>rw [h r hr]
  | true =>
    by_cases hlt:r<s.length
    · rw [xA1 hlt,xA1 (hl▸hlt)];rfl
    · rw [xCy qAc,xCy qAc]
theorem zTi {hid m:List Bool} (h:∀ r,m.getD r false=true→hid.getD r false=true) (s:List D):clr hid (clr m s)=clr hid s:=by
  apply xDc;intro r;rw [zBf,zBf,zBf,xD7];cases s[r]? with
  | none=>rfl
  | some d =>
    simp only [xAx,Function.comp_def];cases hr:hid.getD r false with
    | true=>rfl
    | false =>
      have hm:m.getD r false=false:=by
        cases hm:m.getD r false with
        | false=>rfl
        | true=>rw [h r hm] at hr;cases hr
      simp only [hm,xBa,if_false,D.prune_prune];rw [zDc];intro x;cases x with
      | ref r p=>simp only [zBn];cases hx:m.getD r false<;>simp;have:=h r hx;simpa using this
      | ptr r p i j=>simp only [zBn];cases hx:m.getD r false<;>simp;have:=h r hx;simpa using this
      | sub r p i n=>simp only [zBn];cases hx:m.getD r false<;>simp;have:=h r hx;simpa using this
      | _=>rfl
theorem zUr {hid:List Bool}{r:Nat}{q:zBr}{s s':List D}(hr:hid.getD r false=false)(h:∀ r,hid.getD r false=false→s[r]?=s'[r]?):∀ j,hid.getD j false=false→(zDv r q s)[j]?=(zDv r q s')[j]?:=by
  intro j hj;cases hsr:s[r]? with
  | none=>have h1:s'[r]?=none:=(by rw [← h r hr];exact hsr);unfold zDv;rw [hsr,h1];exact h j hj
  | some d=>have h1:s'[r]?=some d:=(by rw [← h r hr];exact hsr);rw [zBw hsr,zBw h1,h j hj]
theorem RelI.hole {w0:Base}{I0:Nat→Prop}{s:List D}{a:Act}{w:World}{I:Nat→Prop}{Fs:Nat→List Nat}(h:RelI w0 I0 s a.tmps w I Fs){r:Nat}{q:zBr}{d:D}{sz:Nat}{rows:List (List D)}(hs:s[r]?=some d)(ht:zAf d q=some (.sl true sz rows)):∃ Fs',RelI w0 I0 (zDv r q s) a.tmps w I Fs'∧∀ r b,b∈Fs' r→b∈Fs r:=by
  obtain ⟨u0,hu,hT⟩:=h.slot0 hs;obtain ⟨u,F',ρ',h1,_⟩:=zVc q d hT ht;obtain ⟨t',s',Fs',F,_,hK,hr,_,_,hsub,_⟩:=zVm h (r:=r) (q:=q) (u:=u) ⟨d,u0,_,hs,hu,ht,rfl,h1⟩ (KK:=fun _ s'=>s'=zDv r q s) (by
    unfold zE5 zDv;simp only [hs,ht])
  subst hK;exact ⟨Fs',hr,hsub⟩
end Go.V
namespace Go.V
open Go.RowKit
theorem yGp {w0:Base} {I0:Nat→Prop} {s sv:List D} {tm:Array Value} {w:World} {I:Nat→Prop} {Fs Fv:Nat→List Nat} (h:RelI w0 I0 s tm w I Fs) (hv:RelI w0 I0 sv tm w I Fv) (hsub:∀ r b,b∈Fv r→b∈Fs r) {cl:List Bool} {d:D} {s1:List D} {I':Nat→Prop} {Fs':Nat→List Nat} {F:List Nat} {v:Value} {w':World}
    (hun:∀ x u,ρS (clr cl sv) tm w' x u→ρS (clr cl s) tm w' x u) (hs:clr cl s1=clr cl sv) (h':RelI w0 I0 s1 tm w' I' Fs') (hT:T I' w' d (ρS s1 tm w') v F) (hF:Fresh w0 w' I' Fs' F) (hfr:Frame Fv I I' Fs' F s1 w w') :
    RelI w0 I0 (clr cl s) tm w' I' (fun r=>if cl.getD r false then [] else Fs r)∧T I' w' (d.prune (zBn cl)) (ρS (clr cl s) tm w') v F∧Fresh w0 w' I' (fun r=>if cl.getD r false then [] else Fs r) F:=by
  obtain ⟨f1,f2,f3,f4,f5⟩:=hfr;have hc:=h.clr cl;have hdis:∀ b,b∈F→∀ r,b∉(if cl.getD r false then [] else Fs r):=by
    intro b hb r hr;cases hcl:cl.getD r false with
    | true=>rw [hcl,if_pos rfl] at hr;cases hr
    | false =>
      simp only [hcl,xBa,if_false] at hr;rcases f3 b hb with hn | ⟨r',hr'⟩
      · have:=(h.own r b hr).2.1;omega
      · obtain rfl:=h.disj r r' b hr (hsub r' b hr');rcases f5 r with hu | he
        · have h1:(clr cl s1)[r]?=some .undef:=(by rw [zBf,hu];simp [D.prune]);rw [hs,zBf] at h1;cases hsr:sv[r]? with
          | none=>simp [hsr] at h1
          | some d0=>simp only [hsr,xAx,hcl,xBa,if_false,xAv] at h1;obtain ⟨u,hu,hT0⟩:=hv.slot0 hsr;rw [T.nofoot d0 hT0 (zSq h1)] at hr';cases hr'
        · exact (hF.2 b hb).2.2.2 r (by rw [he];exact hr')
  have hsize:w.heap.size≤w'.heap.size:=by
    apply Nat.le_of_not_lt;intro hlt;by_cases hb:w'.heap.size∈F
    · exact absurd (hF.2 _ hb).2.1 qAc
    · have:=f4 _ hlt hb;rw [xCr (xBj _)] at this;rw [xBu hlt] at this;cases this
  have hbel:w0.Keeps w w':=⟨h'.below.os.trans h.below.os.symm,h'.below.tape.trans h.below.tape.symm,h'.below.output.trans h.below.output.symm,hsize,fun k hk=>(h'.below.block k hk).trans (h.below.block k hk).symm⟩
  have hk:∀ x,(I x∨∃ r,x∈(if cl.getD r false then [] else Fs r))→w'.heap[x]?=w.heap[x]?:=by
    intro x hx;rcases hx with hx | ⟨r,hr⟩
    · exact f4 x (h.imm x hx) (fun hxF=>(hF.2 x hxF).2.2.1 (f1 x hx))
    · refine f4 x ?_ (fun hxF=>hdis x hxF r hr);split at hr
      · cases hr
      · exact (h.own r x hr).2.1
  have h2:=(hc.same hbel hk).immMore (I':=I') f1 (fun b hb=>(f2 b hb).imp_right (fun hn=>⟨Base.N_of h.below hn,h'.imm b hb,fun r hr=>by
    split at hr
    · cases hr
    · have:=(h.own r b hr).2.1;omega⟩))
  refine ⟨h2,T.turn (fun x u hq hx=>?_) d hT,⟨hF.1,fun b hb=>⟨(hF.2 b hb).1,(hF.2 b hb).2.1,(hF.2 b hb).2.2.1,fun r hr=>hdis b hb r hr⟩⟩⟩;have h3:=ρS.clr hq hx;rw [hs] at h3;exact hun x u h3
section
variable (Ctr:CtrT)
def NF (V:List D)(cl:List Bool)(v:VOp)(d:D):Prop:=∃ s',clr cl s'=clr cl V∧zAh Ctr V v fun d' s''=>d'=d∧s''=s'
def noD:D:=.v (.tuple #[])
def DF (V:List D) (cl:List Bool) (o:VO) (d:D):Prop :=
  match o.guard with
  | none=>NF Ctr V cl o.op d
  | some (g,want)=>match lkT V g with
    | .v (.bool b)=>(b=want→NF Ctr V cl o.op d)∧(b≠want→d=noD)
    | .v _=>d=noD
    | _=>False
end
theorem zUw {Ctr:CtrT}{V:List D}{cl:List Bool}{v:VOp}{K:D→Prop}(hf:v.framed=true)(h:zYb Ctr V cl v K):∃ d,K d∧NF Ctr V cl v d:=by obtain ⟨d,s',⟨h1,h2⟩,h3⟩:=yD4 hf h;exact ⟨d,h2,s',h1,h3⟩
theorem yD8 {Ctr:CtrT}{V:List D}{cl:List Bool}{o:VO}{K:D→Prop}(hf:o.op.framed=true)(h:yTg Ctr V cl o K):∃ d,K d∧DF Ctr V cl o d:=by
  unfold yTg at h;unfold DF;split at h
  · rename_i hg;simp only [hg];exact zUw hf h
  · rename_i g want hg;simp only [hg];split at h
    · rename_i b e;simp only [e];by_cases hb:b=want
      · obtain ⟨d,h1,h2⟩:=zUw hf (h.1 hb);exact ⟨d,h1,fun _=>h2,fun hn=>absurd hb hn⟩
      · exact ⟨noD,h.2 hb,fun hn=>absurd hn hb,fun _=>rfl⟩
    · rename_i x hx e;refine ⟨noD,h,?_⟩;split
      · rename_i b e2;exact absurd (D.v.inj (e.symm.trans e2)) (hx b)
      · rfl
      · rename_i h1 h2;exact h2 x e
    · exact h.elim
/-! ### The data that are there so far -/
theorem yKx {s:List D}{dst:Option Nat}{d:D}:(zTv s dst d).length=s.length:=by cases dst<;>simp [zTv]
theorem zGo {s:List D}{dst:Option Nat}{d:D}{r:Nat}(h:dst≠some r):(zTv s dst d)[r]?=s[r]?:=by
  cases dst with
  | none=>rfl
  | some t=>simp only [zTv];rw [xA9 (fun e=>h (by rw [e]))]
theorem zLx {s:List D}{d:D}{r:Nat}:(zTv s (some r) d)[r]?=(s[r]?).map fun _=>d:=by
  simp only [zTv];by_cases h:r<s.length
  · rw [xBq h,xA1 h];rfl
  · rw [xCy qBp,xCy qAc];rfl
def ovE (S:Nat→Bool):List (DOp×D)→List D→List D
  | [],s=>s
  | e::E,s=>ovE S E (if S e.1.idx then zTv s e.1.vo.dst e.2 else s)
theorem zC3 {S:Nat→Bool}:∀ (E:List (DOp×D)) (s:List D),(ovE S E s).length=s.length
  | [],s=>rfl
  | e::E,s=>by
    simp only [ovE];rw [zC3 E];split
    · exact yKx
    · rfl
theorem zY7 {S:Nat→Bool}:∀ (E E':List (DOp×D)) (s:List D),ovE S (E++E') s=ovE S E' (ovE S E s)
  | [],E',s=>rfl
  | e::E,E',s=>by simp only [xBi,ovE,zY7 E E']
theorem zSv {S S':Nat→Bool} {r:Nat}:∀ (E:List (DOp×D)) (s s':List D),(∀ e,e∈E→e.1.vo.dst=some r→S e.1.idx=S' e.1.idx)→s[r]?=s'[r]?→(ovE S E s)[r]?=(ovE S' E s')[r]?
  | [],s,s',_,h=>h
  | e :: E,s,s',hE,h=>by
    simp only [ovE];refine zSv E _ _ (fun e' he'=>hE e' (by simp [he'])) ?_;by_cases hd:e.1.vo.dst=some r
    · have:=hE e qAh hd;rw [← this];cases S e.1.idx with
      | true=>simp only [if_true];rw [hd,zLx,zLx,h]
      | false=>simpa using h
    · have h1:∀ (b:Bool) (s:List D),(if b=true then zTv s e.1.vo.dst e.2 else s)[r]?=s[r]?:=fun b s=>by
        cases b with
        | true=>simp only [if_true];exact zGo hd
        | false=>simp
      rw [h1,h1,h]
theorem zP7 {S:Nat→Bool}{r:Nat}:∀ (E:List (DOp×D)) (s:List D),(∀ e,e∈E→e.1.vo.dst=some r→S e.1.idx=false)→(ovE S E s)[r]?=s[r]?
  | [],s,_=>rfl
  | e :: E,s,hE=>by
    simp only [ovE];rw [zP7 E _ (fun e' he'=>hE e' (by simp [he']))];by_cases hd:e.1.vo.dst=some r
    · rw [hE e qAh hd];simp
    · split
      · exact zGo hd
      · rfl
theorem yA5 {S:Nat→Bool} {r:Nat}:∀ (E:List (DOp×D)) (s:List D) (e:DOp×D),e∈E→E.Pairwise (fun e e'=>e.1.vo.dst=none∨e.1.vo.dst≠e'.1.vo.dst)→e.1.vo.dst=some r→S e.1.idx=true→(ovE S E s)[r]?=(s[r]?).map fun _=>e.2
  | [],s,e,he,_,_,_=>by cases he
  | e'::E,s,e,he,hp,hd,hS=>by
    simp only [ovE];rw [xEx] at hp;rcases xBs.1 he with rfl | he
    · rw [hS,if_pos rfl,zP7 E _ (fun e' he' hd'=>by
        rcases hp.1 e' he' with h | h
        · rw [hd] at h;cases h
        · exact absurd (hd.trans hd'.symm) h)]
      rw [hd,zLx]
    · rw [yA5 E _ e he hp.2 hd hS];have hne:e'.1.vo.dst≠some r:=by
        intro h;rcases hp.1 e he with h' | h'
        · rw [h] at h';cases h'
        · exact h' (h.trans hd.symm)
      split
      · rw [zGo hne]
      · rfl
def orM:List Bool→List Bool→List Bool
  | [],m=>m
  | m,[]=>m
  | a::x,b::y=>(a||b)::orM x y
theorem yG7:∀ (x y:List Bool) (r:Nat),(orM x y).getD r false=(x.getD r false||y.getD r false)
  | [],m,r=>by simp [orM]
  | a::x,[],r=>by simp [orM]
  | a::x,b::y,0=>by simp [orM]
  | a::x,b::y,r+1=>by have:=yG7 x y r;simpa [orM] using this
def clE (S:Nat→Bool):List (DOp×D)→List Bool
  | []=>[]
  | e::E=>orM (if S e.1.idx then e.1.cl else []) (clE S E)
theorem zTj {S:Nat→Bool} {r:Nat}:∀ (E:List (DOp×D)),(clE S E).getD r false=true↔∃ e,e∈E∧S e.1.idx=true∧e.1.cl.getD r false=true
  | []=>by simp [clE]
  | e :: E=>by
    simp only [clE,yG7,xDk,zTj E,xBs];constructor
    · rintro (h | ⟨e',h1,h2,h3⟩)
      · cases hS:S e.1.idx with
        | true=>rw [hS,if_pos rfl] at h;exact ⟨e,.inl rfl,hS,h⟩
        | false=>rw [hS] at h;simp at h
      · exact ⟨e',.inr h1,h2,h3⟩
    · rintro ⟨e',rfl | h1,h2,h3⟩
      · rw [h2,if_pos rfl];exact .inl h3
      · exact .inr ⟨e',h1,h2,h3⟩
def hwS (hw:Option (Nat×Nat×zBr))(S:Nat→Bool)(s:List D):List D:=match hw with
  | some (i,r,q)=>if S i then zDv r q s else s
  | none=>s
def sig (E:List (DOp×D))(hw:Option (Nat×Nat×zBr))(S:Nat→Bool)(s:List D):List D:=clr (clE S E) (hwS hw S (ovE S E s))
theorem yIi {hw S s}:(hwS hw S s).length=s.length:=by
  unfold hwS;split
  · split
    · exact zO2
    · rfl
  · rfl
theorem yG3 {Ctr:CtrT} {start hid cl:List Bool} {A:List D} {sz bytes:Nat} {x y:Operand} {K:Nat→zBr→D→Prop} (hy:∀ t,y=.tmp t→cl.getD t false=true) (hh:∀ r,hid.getD r false=true→start.getD r false=true) (h:zSs start (clr hid A) sz bytes x y K) :
    ∃ r q rows d0 rows0,start.getD r false=false∧A[r]?=some d0∧zAf d0 q=some (.sl true sz rows0)∧K r q (.sl true sz rows)∧zAh Ctr A (.app sz bytes x y) fun d' s'=>d'=.sl true sz rows∧clr cl s'=clr cl (zDv r q A):=by
  -- what a slot of the view says of the slot
  have slot:∀ (X:List D) (t:Nat) (d:D),(clr hid X)[t]?=some d→d=.undef∨(hid.getD t false=false∧∃ e,X[t]?=some e∧d=e.prune (zBn hid)):=by
    intro X t d h;rw [zBf] at h;cases hX:X[t]? with
    | none=>simp [hX] at h
    | some e =>
      simp only [hX,xAx,xAv] at h;split at h
      · exact .inl h.symm
      · rename_i hn;exact .inr ⟨by simpa using hn,e,rfl,h.symm⟩
  have pref:∀ (e:D) (r:Nat) (q:zBr),e.prune (zBn hid)=.ref r q→e=.ref r q:=by
    intro e r q h;cases e with
    | ref r p=>simp only [D.prune] at h;split at h<;>first | exact h | cases h
    | ptr r p i j=>simp only [D.prune] at h;split at h<;>cases h
    | sub r p i n=>simp only [D.prune] at h;split at h<;>cases h
    | _=>simp [D.prune] at h
  have tkref:∀ (X:List D) (x:Operand) (r:Nat) (q:zBr),(tk (clr hid X) x).1=.ref r q→tk X x=(.ref r q,X):=by
    intro X x r q h;cases x with
    | tmp t =>
      simp only [tk,tkT] at h ⊢;cases hs:(clr hid X)[t]? with
      | none=>simp [hs] at h
      | some d =>
        simp only [hs] at h;have hd:d=.ref r q:=by
          cases d with
          | sl own sz rows=>cases own<;>simp at h
          | box tag cells=>simp at h
          | _=>simpa using h
        subst hd;rcases slot X t _ hs with h' | ⟨_,e,h1,h2⟩
        · cases h'
        · rw [h1,pref e r q h2.symm];rfl
    | const v=>simp only [tk,lk,ofV] at h;split at h<;>first | (split at h<;>simp at h;done) | (simp at h;done) | (unfold ofC at h;split at h<;>simp at h)
    | func f=>simp [tk,lk] at h
    | global g=>simp [tk,lk] at h
  have psub:∀ (e:D) (r:Nat) (q:zBr) (i n:Nat),e.prune (zBn hid)=.sub r q i n→e=.sub r q i n:=by
    intro e r q i n h;cases e with
    | ref r p=>simp only [D.prune] at h;split at h<;>cases h
    | ptr r p i j=>simp only [D.prune] at h;split at h<;>cases h
    | sub r p i n=>simp only [D.prune] at h;split at h<;>first | exact h | cases h
    | _=>simp [D.prune] at h
  have tksub:∀ (X:List D) (x:Operand) (r:Nat) (q:zBr) (i n:Nat),(tk (clr hid X) x).1=.sub r q i n→tk X x=(.sub r q i n,X):=by
    intro X x r q i n h;cases x with
    | tmp t =>
      simp only [tk,tkT] at h ⊢;cases hs:(clr hid X)[t]? with
      | none=>simp [hs] at h
      | some d =>
        simp only [hs] at h;have hd:d=.sub r q i n:=by
          cases d with
          | sl own sz rows=>cases own<;>simp at h
          | box tag cells=>simp at h
          | _=>simpa using h
        subst hd;rcases slot X t _ hs with h' | ⟨_,e,h1,h2⟩
        · cases h'
        · rw [h1,psub e r q i n h2.symm];rfl
    | const v=>simp only [tk,lk,ofV] at h;split at h<;>first | (split at h<;>simp at h;done) | (simp at h;done) | (unfold ofC at h;split at h<;>simp at h)
    | func f=>simp [tk,lk] at h
    | global g=>simp [tk,lk] at h
  have own1:∀ (X:List D) (r:Nat) (q:zBr) (d:D) (sz:Nat) (rows:List (List D)),(clr hid X)[r]?=some d→zAf d q=some (.sl true sz rows)→∃ e,X[r]?=some e∧hid.getD r false=false∧zAf e q=some (.sl true sz rows):=by
    intro X r q d sz rows h1 h2;rcases slot X r _ h1 with rfl | ⟨hr,e,h3,rfl⟩
    · exact (zQp q _ _ h2 rfl).elim
    · obtain ⟨t,q',m1,m2⟩:=zCe q e _ h2;have:t=.sl true sz rows:=by
        cases t with
        | sl own z r=>simpa [D.prune,eq_comm] using m2
        | ref r p=>simp only [D.prune] at m2;split at m2<;>cases m2
        | ptr r p i j=>simp only [D.prune] at m2;split at m2<;>cases m2
        | sub r p i n=>simp only [D.prune] at m2;split at m2<;>cases m2
        | _=>simp [D.prune] at m2
      subst this;exact ⟨e,h3,hr,m1⟩
  unfold zSs at h;split at h
  · rename_i r q ex;obtain ⟨hst,h⟩:=h;have hX:=tkref A x r q ex;unfold zE5 at h;split at h
    · rename_i d1 hd1;split at h
      · rename_i sz' rows0 ht;simp only at h;obtain ⟨rfl,h⟩:=h;obtain ⟨d0,hA,hhr,ht0⟩:=own1 A r q d1 sz' rows0 hd1 ht;have hV1:(zAc (zAg r q) (clr hid A)).set r (setAt (d1.prune (zAg r q)) q .undef)=clr hid (zDv r q A):=by rw [← zRw hhr];unfold zDv;rw [hd1]
        rw [hV1] at h;generalize hXX:zDv r q A=X at h;have fin:∀ (rows:List (List D)) (s2:List D),clr cl s2=clr cl X→zWn X sz' y (fun more s'=>more=rows∧s'=s2)→(rows0.length+rows.length)*(bytes+1)≤2 ^ 40→zAh Ctr A (.app sz' bytes x y) fun d' s'=>d'=.sl true sz' (rows0++rows)∧clr cl s'=clr cl X:=by
          intro rows s2 hs2 hadd hb;simp only [zAh,zZp];rw [hX];simp only [zE5,hA,ht0];refine ⟨trivial,?_⟩;have he:(zAc (zAg r q) A).set r (setAt (d0.prune (zAg r q)) q .undef)=X:=by rw [← hXX];unfold zDv;rw [hA]
          rw [he];refine zTu ?_ hadd;rintro m s ⟨rfl,rfl⟩;exact ⟨hb,rfl,hs2⟩
        have hpr:∀ (t:Nat),y=.tmp t→t<X.length→clr cl ((zAc (zAd t) X).set t .undef)=clr cl X:=by
          intro t ht hlt;have hcl:=hy t ht;apply xDc;intro j;rw [zBf,zBf];by_cases hj:j=t
          · subst hj;rw [xBq (by rw [zAx];exact hlt),xA1 hlt];simp only [xAx,hcl,if_true]
          · rw [xA9 (Ne.symm hj),zA3];cases X[j]? with
            | none=>rfl
            | some e =>
              simp only [xAx,D.prune_prune];have:e.prune (fun x=>zAd t x&&zBn cl x)=e.prune (zBn cl):=zDc (fun z=>by
                cases z with
                | ref r' p =>
                  simp only [zAd,zBn];by_cases hr:r'=t
                  · subst hr;simp only [hcl];simp
                  · simp [hr]
                | ptr r' p i j =>
                  simp only [zAd,zBn];by_cases hr:r'=t
                  · subst hr;simp only [hcl];simp
                  · simp [hr]
                | sub r' p i n =>
                  simp only [zAd,zBn];by_cases hr:r'=t
                  · subst hr;simp only [hcl];simp
                  · simp [hr]
                | _=>rfl) e
              rw [this]
        -- what is added
        have slY:∀ (t:Nat) (own:Bool) (sz2:Nat) (rows:List (List D)),(tk (clr hid X) (.tmp t)).1=.sl own sz2 rows→X[t]?=some (.sl own sz2 rows):=by
          intro t own sz2 rows e;simp only [tk,tkT] at e;cases hs:(clr hid X)[t]? with
          | none=>simp [hs] at e
          | some d =>
            simp only [hs] at e;have hd:d=.sl own sz2 rows:=by
              cases d with
              | sl own' sz rows=>cases own' <;> simpa using e
              | box tag cells=>simp at e
              | _=>simpa using e
            subst hd;rcases slot X t _ hs with h' | ⟨_,e',h1,h2⟩
            · cases h'
            · obtain ⟨rr,hrr⟩:∃ rr,e'=.sl own sz2 rr:=by
                cases e' with
                | sl o z r=>simp only [D.prune,D.sl.injEq] at h2;obtain ⟨rfl,rfl,rfl⟩:=h2;exact ⟨_,rfl⟩
                | ref r p=>simp only [D.prune] at h2;split at h2<;>cases h2
                | ptr r p i j=>simp only [D.prune] at h2;split at h2<;>cases h2
                | sub r p i n=>simp only [D.prune] at h2;split at h2<;>cases h2
                | _=>simp [D.prune] at h2
              subst hrr;simp only [D.prune,D.sl.injEq] at h2;rw [h1,h2.2.2]
        have noSl:∀ (y:Operand) (own:Bool) (sz2:Nat) (rows:List (List D)),(tk (clr hid X) y).1=.sl own sz2 rows→∃ t,y=.tmp t:=by
          intro y own sz2 rows e;cases y with
          | tmp t=>exact ⟨t,rfl⟩
          | const v=>simp only [tk,lk,ofV] at e;split at e<;>first | (split at e<;>simp at e;done) | (simp at e;done) | (unfold ofC at e;split at e<;>simp at e)
          | func f=>simp [tk,lk] at e
          | global g=>simp [tk,lk] at e
        unfold zWn at h;split at h
        · rename_i sz2 rows e;obtain ⟨h1,h2,h3⟩:=h;obtain ⟨t,rfl⟩:=noSl y _ _ _ e;have hXt:=slY t _ _ _ e;have htk:tk X (.tmp t)=(.sl true sz2 rows,(zAc (zAd t) X).set t .undef):=by simp [tk,tkT,hXt]
          refine ⟨r,q,rows0++rows,d0,rows0,hst,hA,ht0,h3,?_⟩;rw [← hXX] at *;exact fin rows _ (hpr t rfl (xA4.1 hXt).1) (by unfold zWn;rw [htk];exact ⟨h1,rfl,rfl⟩) h2
        · rename_i sz2 rows e;obtain ⟨h1,h2,h3⟩:=h;obtain ⟨t,rfl⟩:=noSl y _ _ _ e;have hXt:=slY t _ _ _ e;have htk:tk X (.tmp t)=(.sl false sz2 rows,X):=by simp [tk,tkT,hXt,D.owny]
          refine ⟨r,q,rows0++rows,d0,rows0,hst,hA,ht0,h3,?_⟩;rw [← hXX] at *;exact fin rows _ rfl (by unfold zWn;rw [htk];exact ⟨h1,rfl,rfl⟩) h2
        · rename_i e;obtain ⟨h2,h3⟩:=h;have htk:tk X y=(.nils,X):=by
            cases y with
            | tmp t =>
              simp only [tk,tkT] at e ⊢;cases hs:(clr hid X)[t]? with
              | none=>simp [hs] at e
              | some d =>
                simp only [hs] at e;have hd:d=.nils:=by
                  cases d with
                  | sl own' sz rows=>cases own' <;> simp at e
                  | box tag cells=>simp at e
                  | _=>simpa using e
                subst hd;rcases slot X t _ hs with h' | ⟨_,e',h1,h2⟩
                · cases h'
                · have:e'=.nils:=by
                    cases e' with
                    | nils=>rfl
                    | ref r p=>simp only [D.prune] at h2;split at h2<;>cases h2
                    | ptr r p i j=>simp only [D.prune] at h2;split at h2<;>cases h2
                    | sub r p i n=>simp only [D.prune] at h2;split at h2<;>cases h2
                    | _=>simp [D.prune] at h2
                  rw [h1,this];simp [D.owny]
            | const v=>simp only [tk] at e ⊢;rw [show lk (clr hid X) (.const v)=lk X (.const v) from rfl] at e;rw [e]
            | func f=>simp [tk,lk] at e
            | global g=>simp [tk,lk] at e
          refine ⟨r,q,rows0++[],d0,rows0,hst,hA,ht0,h3,?_⟩;rw [← hXX] at *;exact fin [] _ rfl (by unfold zWn;rw [htk];exact ⟨rfl,rfl⟩) h2
        · rename_i r2 q2 e;split at h
          · rename_i sz2 rows e1;obtain ⟨h1,hno,h2,h3⟩:=h;have htk:=tkref X y r2 q2 e;have hsl:zG3 X (.ref r2 q2)=some (sz2,rows):=by
              simp only [zG3] at e1 ⊢;cases hs:(clr hid X)[r2]? with
              | none=>simp [hs] at e1
              | some d =>
                simp only [hs] at e1;split at e1
                · rename_i ht2;simp only [xAv,xBd] at e1;obtain ⟨rfl,rfl⟩:=e1;obtain ⟨e',k1,_,k2⟩:=own1 X r2 q2 d _ _ hs ht2;rw [k1];simp only [k2]
                · cases e1
            refine ⟨r,q,rows0++rows,d0,rows0,hst,hA,ht0,h3,?_⟩;rw [← hXX] at *;exact fin rows _ rfl qCo h2
          · exact h.elim
        · rename_i r2 q2 i2 n2 e;split at h
          · rename_i sz2 rows e1;obtain ⟨h1,hno,h2,h3⟩:=h;have htk:=tksub X y r2 q2 i2 n2 e;have hsl:zG3 X (.sub r2 q2 i2 n2)=some (sz2,rows):=by
              simp only [zG3] at e1 ⊢;cases hs:(clr hid X)[r2]? with
              | none=>simp [hs] at e1
              | some d =>
                simp only [hs] at e1;split at e1
                · rename_i ht2;obtain ⟨e',k1,_,k2⟩:=own1 X r2 q2 d _ _ hs ht2;rw [k1];simp only [k2];exact e1
                · cases e1
            refine ⟨r,q,rows0++rows,d0,rows0,hst,hA,ht0,h3,?_⟩;rw [← hXX] at *;exact fin rows _ rfl qCo h2
          · exact h.elim
        · exact h.elim
      · exact h.elim
      · exact h.elim
    · exact h.elim
  · exact h.elim
end Go.V
namespace Go.V
open Go.RowKit
/-! ### Which operations come before which -/
def yUh (acc:List Nat)(o:Oper):Nat:=o.after.toList.foldl (fun m e=>if Region.binds .any e then m ||| (1 <<< e.on) ||| acc.getD e.on 0 else m) 0
def zYi:List Oper→List Nat→List Nat
  | [],acc=>acc
  | o::os,acc=>zYi os (acc++[yUh acc o])
def zGd (ops:Array Oper):List Nat:=zYi ops.toList []
theorem zQy {acc:List Nat} {x:Nat}:∀ (l:List Edge) (m:Nat),(l.foldl (fun m e=>if Region.binds .any e then m ||| (1 <<< e.on) ||| acc.getD e.on 0 else m) m).testBit x=true→m.testBit x=true∨∃ e∈l,Region.binds .any e=true∧(x=e.on∨(acc.getD e.on 0).testBit x=true)
  | [],m,h=>.inl h
  | e :: l,m,h=>by
    simp only [xDm] at h;rcases zQy l _ h with h | ⟨e',h1,h2⟩
    · split at h
      · rename_i hb;simp only [Nat.testBit_or,xDk] at h;rcases h with (h | h) | h
        · exact .inl h
        · refine .inr ⟨e,by simp,hb,.inl ?_⟩;rw [Nat.one_shiftLeft,Nat.testBit_two_pow] at h;simpa [eq_comm] using h
        · exact .inr ⟨e,by simp,hb,.inr h⟩
      · exact .inl h
    · exact .inr ⟨e',by simp [h1],h2⟩
theorem zTq:∀ (l:List Oper) (acc:List Nat) (k:Nat),k<acc.length→(zYi l acc).getD k 0=acc.getD k 0
  | [],acc,k,_=>rfl
  | o::l,acc,k,h=>by simp only [zYi];rw [zTq l _ k qAw];simp only [xA3];rw [xCh h]
theorem zU6:∀ (l:List Oper) (acc:List Nat) (k x:Nat),acc.length≤k→((zYi l acc).getD k 0).testBit x=true→∃ o,l[k-acc.length]?=some o∧∃ e∈o.after.toList,Region.binds .any e=true∧(x=e.on∨((zYi l acc).getD e.on 0).testBit x=true)
  | [],acc,k,x,hk,h=>by simp only [zYi,xA3] at h;rw [xCy qAc] at h;simp at h
  | o :: l,acc,k,x,hk,h=>by
    simp only [zYi] at h ⊢;by_cases hk':k=acc.length
    · subst hk';rw [zTq l _ _ qAh] at h;simp only [xA3] at h;rw [xCz (xBj _)] at h;simp only [Nat.sub_self,xBb,xDd] at h;refine ⟨o,by simp,?_⟩;rcases zQy _ _ h with h | ⟨e,h1,h2,h3⟩
      · simp at h
      · refine ⟨e,h1,h2,h3.imp_right (fun h=>?_)⟩;have hlt:e.on<acc.length:=by apply xEg;intro hle;simp only [xA3] at h;rw [xCy hle] at h;simp at h
        rw [zTq l _ _ qAw];simp only [xA3] at h ⊢;rw [xCh hlt];exact h
    · obtain ⟨o',h1,h2⟩:=zU6 l _ k x qAw h;refine ⟨o',?_,h2⟩;rw [xC4,xE4] at h1;rw [show k-acc.length=(k-(acc.length+1))+1 by omega,xBh];exact h1
theorem zPq {ops:Array Oper}{k x:Nat}(h:((zGd ops).getD k 0).testBit x=true):∃ o,ops[k]?=some o∧∃ e∈o.after.toList,Region.binds .any e=true∧(x=e.on∨((zGd ops).getD e.on 0).testBit x=true):=by obtain ⟨o,h1,h2⟩:=zU6 ops.toList [] k x (xCs _) h;exact ⟨o,by simpa using h1,h2⟩
def yPt:List Bool→List Bool→Bool
  | [],_=>true
  | x::a,[]=>!x&&yPt a []
  | x::a,y::b=>(!x||y)&&yPt a b
theorem zOc:∀ (a b:List Bool),yPt a b=true→∀ r,a.getD r false=true→b.getD r false=true
  | [],b,_,r,h=>by simp at h
  | x::a,[],h,r,hr=>by
    simp only [yPt,xA2,xDy] at h;cases r with
    | zero=>simp [h.1] at hr
    | succ r=>have:=zOc a [] h.2 r qBj;simp at this
  | x :: a,y::b,h,r,hr=>by
    simp only [yPt,xA2,xDk,xDy] at h;cases r with
    | zero =>
      rcases h.1 with h1 | h1
      · simp [h1] at hr
      · simpa using h1
    | succ r=>have:=zOc a b h.2 r qBj;simpa using this
def okE (ops:Array Oper)(H:List DOp)(bs:List Nat)(start:List Bool)(nh:Nat)(pre:List Nat)(o:DOp):Bool :=
  (match o.vo.dst with | some t=>start.getD t false | none=>true)&&yPt o.hid start &&
  H.all (fun e=>match e.vo.dst with | none=>true | some t=>o.hid.getD t false||(pre.contains e.idx&&(bs.getD o.idx 0).testBit e.idx)) &&
  (match ops[o.idx]? with | some op=>op.after.toList.all (fun ed=>!Region.binds .any ed||pre.contains ed.on) | none=>false) &&
  H.all (fun k=>k.idx==o.idx||(bs.getD o.idx 0).testBit k.idx||yPt o.cl k.hid) &&
  (List.range o.cl.length).all (fun r=>!o.cl.getD r false||H.any (fun e=>e.vo.dst==some r&&(bs.getD o.idx 0).testBit e.idx)) &&
  decide (o.idx<nh)&&!pre.contains o.idx&&H.all (fun e=>e.idx==o.idx||e.vo.dst != o.vo.dst||e.vo.dst.isNone)
def okL (ops:Array Oper)(H:List DOp)(bs:List Nat)(start:List Bool)(nh:Nat):List Nat→List DOp→Bool
  | _,[]=>true
  | pre,o::R=>okE ops H bs start nh pre o&&okL ops H bs start nh (o.idx::pre) R
structure OkE (ops:Array Oper) (E:List (DOp×D)) (start:List Bool) (nh:Nat) (P:List (DOp×D)) (o:DOp):Prop where
  dst:∀ t,o.vo.dst=some t→start.getD t false=true
  hid:∀ r,o.hid.getD r false=true→start.getD r false=true
  vis:∀ e∈E,∀ t,e.1.vo.dst=some t→o.hid.getD t false=true∨((∃ p∈P,p.1.idx=e.1.idx)∧((zGd ops).getD o.idx 0).testBit e.1.idx=true)
  edge:∃ op,ops[o.idx]?=some op∧∀ ed∈op.after.toList,Region.binds .any ed=true→∃ p∈P,p.1.idx=ed.on
  cl:∀ k∈E,k.1.idx=o.idx∨((zGd ops).getD o.idx 0).testBit k.1.idx=true∨∀ r,o.cl.getD r false=true→k.1.hid.getD r false=true
  cld:∀ r,o.cl.getD r false=true→∃ e∈E,e.1.vo.dst=some r∧((zGd ops).getD o.idx 0).testBit e.1.idx=true
  lt:o.idx<nh
  new:∀ p∈P,p.1.idx≠o.idx
  uniq:∀ e∈E,e.1.idx=o.idx∨e.1.vo.dst≠o.vo.dst∨e.1.vo.dst=none
theorem yLv {ops:Array Oper}{E P:List (DOp×D)}{start:List Bool}{nh:Nat}{pre:List Nat}{o:DOp}(hP:∀ i,pre.contains i=true→∃ p∈P,p.1.idx=i)(hP':∀ p∈P,pre.contains p.1.idx=true)(h:okE ops (E.map (·.1)) (zGd ops) start nh pre o=true):OkE ops E start nh P o:=by
  simp only [okE,xA2] at h;obtain ⟨⟨⟨⟨⟨⟨⟨⟨h1,h2⟩,h3⟩,h4⟩,h5⟩,h6⟩,h7⟩,h8⟩,h9⟩:=h;rw [xBx] at h3 h5 h6 h9;refine ⟨fun t ht=>by rw [ht] at h1;exact h1,zOc _ _ h2,fun e he t ht=>?_,?_,fun k hk=>?_,fun r hr=>?_,by simpa using h7,fun p hp he=>?_,fun e he=>?_⟩
  · have:=h3 e.1 (xB1.2 ⟨e,he,rfl⟩);rw [ht] at this;simp only [xDk,xA2] at this;exact this.imp_right (fun h=>⟨hP _ h.1,h.2⟩)
  · split at h4
    · rename_i op hop;refine ⟨op,hop,fun ed hed hb=>?_⟩;rw [xBx] at h4;have:=h4 ed hed;rw [hb] at this;exact hP _ (by simpa using this)
    · cases h4
  · have:=h5 k.1 (xB1.2 ⟨k,hk,rfl⟩);simp only [xDk,beq_iff_eq] at this;rcases this with (h | h) | h
    · exact .inl h
    · exact .inr (.inl h)
    · exact .inr (.inr (zOc _ _ h))
  · have hlt:r<o.cl.length:=(by apply xEg;intro hle;rw [xA3,xCy hle] at hr;cases hr);have:=h6 r qAg;rw [hr] at this;simp only [xBr,xC0,xDr,xA2,beq_iff_eq] at this;obtain ⟨x,hx,h1,h2⟩:=this;obtain ⟨e,he,rfl⟩:=xB1.1 hx;exact ⟨e,he,h1,h2⟩
  · have:=hP' p hp;rw [he] at this;rw [this] at h8;cases h8
  · have:=h9 e.1 (xB1.2 ⟨e,he,rfl⟩);simp only [xDk,beq_iff_eq,bne_iff_ne] at this;rcases this with (h | h) | h
    · exact .inl h
    · exact .inr (.inl h)
    · exact .inr (.inr qBp)
theorem zRk {ops:Array Oper} {E:List (DOp×D)} {start:List Bool} {nh:Nat}:∀ (L:List (DOp×D)) (pre:List Nat) (P0:List (DOp×D)),(∀ i,pre.contains i=true→∃ p∈P0,p.1.idx=i)→(∀ p∈P0,pre.contains p.1.idx=true)→okL ops (E.map (·.1)) (zGd ops) start nh pre (L.map (·.1))=true →
    ∀ P e R,L=P++e::R→OkE ops E start nh (P0++P) e.1
  | [],_,_,_,_,_,P,e,R,h=>by simp at h
  | x :: L,pre,P0,hP,hP',hok,P,e,R,h=>by
    simp only [xA6,okL,xA2] at hok;cases P with
    | nil=>simp only [xBp,xCo] at h;obtain ⟨rfl,rfl⟩:=h;rw [xBw];exact yLv hP hP' hok.1
    | cons y P =>
      simp only [xBi,xCo] at h;obtain ⟨rfl,h⟩:=h;have:=zRk L (x.1.idx::pre) (P0++[x]) (fun i hi=>?_) (fun p hp=>?_) hok.2 P e R h
      · rw [xDn] at this;exact this
      · simp only [List.contains_cons,xDk,beq_iff_eq] at hi;rcases hi with rfl | hi
        · exact ⟨x,by simp,rfl⟩
        · obtain ⟨p,h1,h2⟩:=hP i hi;exact ⟨p,by simp [h1],h2⟩
      · simp only [List.contains_cons,xDk,beq_iff_eq];rcases xBf.1 hp with hp | hp
        · exact .inr (hP' p hp)
        · simp only [xCa] at hp;exact .inl (by rw [hp])
end Go.V
namespace Go.V
open Go.RowKit
def yRs (P:List (DOp×D))(i:Nat):Bool:=P.any (fun e=>e.1.idx==i)
def rs (hw:Option (Nat×Nat×zBr))(P:List (DOp×D))(s0:List D):List D:=hwS hw (yRs P) (ovE (fun _=>true) P s0)
section
variable (Ctr:CtrT)
def EF (hw:Option (Nat×Nat×zBr)) (start:List Bool) (s0:List D) (P:List (DOp×D)) (e:DOp×D):Prop :=
  match hw with
  | none=>e.1.vo.op.framed=true∧DF Ctr (clr e.1.hid (rs hw P s0)) e.1.cl e.1.vo e.2
  | some (iw,r,q) =>
    if e.1.idx=iw then ∃ sz bytes x y,e.1.vo.op=.app sz bytes x y∧e.1.vo.guard=none∧(∀ t,y=.tmp t→e.1.cl.getD t false=true)∧zSs start (clr e.1.hid (ovE (fun _=>true) P s0)) sz bytes x y (fun r' q' d'=>r'=r∧q'=q∧d'=e.2)
    else e.1.vo.op.framed=true∧DF Ctr (clr e.1.hid (rs hw P s0)) e.1.cl e.1.vo e.2
end
theorem memP_iff {P:List (DOp×D)}{i:Nat}:yRs P i=true↔∃ p∈P,p.1.idx=i:=by simp [yRs]
theorem zVq {E hw S s}:(sig E hw S s).length=s.length:=by unfold sig;rw [zTh,yIi,zC3]
theorem zQu {L:List (DOp×D)}:(∀ P e R,L=P++e::R→∀ p∈P,p.1.idx≠e.1.idx)→L.Pairwise (fun e e'=>e.1.idx≠e'.1.idx):=by
  induction L with
  | nil=>intro _;exact List.Pairwise.nil
  | cons x L ih=>intro h;rw [xEx];refine ⟨fun y hy=>?_,ih fun P e R hL p hp=>h (x::P) e R (by rw [hL];rfl) p (by simp [hp])⟩;obtain ⟨A,B,hAB⟩:=xCe hy;exact h (x::A) y B (by rw [hAB];rfl) x qAh
theorem zTk {S:Nat→Bool}{E:List (DOp×D)}{r:Nat}(h:∀ e∈E,S e.1.idx=true→e.1.cl.getD r false=false):(clE S E).getD r false=false:=by
  cases hc:(clE S E).getD r false with
  | false=>rfl
  | true=>obtain ⟨e,h1,h2,h3⟩:=(zTj E).1 hc;rw [h e h1 h2] at h3;cases h3
theorem zXt {S S':Nat→Bool}:∀ (E:List (DOp×D)) (s:List D),(∀ e∈E,S e.1.idx=S' e.1.idx)→ovE S E s=ovE S' E s
  | [],s,_=>rfl
  | e::E,s,h=>by simp only [ovE];rw [h e qAh];exact zXt E _ (fun e' he'=>h e' (by simp [he']))
theorem zYe {S S':Nat→Bool}:∀ (E:List (DOp×D)),(∀ e∈E,S e.1.idx=S' e.1.idx)→clE S E=clE S' E
  | [],_=>rfl
  | e::E,h=>by simp only [clE];rw [h e qAh,zYe E (fun e' he'=>h e' (by simp [he']))]
theorem zL9 {α:Type} {p:α→Prop} [DecidablePred p]:∀ (L:List α),(∃ x∈L,p x)→∃ P x R,L=P++x::R∧p x∧∀ y∈P,¬ p y
  | [],h=>by obtain ⟨_,h,_⟩:=h;cases h
  | x :: L,h=>by
    by_cases hx:p x
    · exact ⟨[],x,L,rfl,hx,fun _ h=>by cases h⟩
    · obtain ⟨y,hy,hp⟩:=h;rcases xBs.1 hy with rfl | hy
      · exact absurd hp hx
      · obtain ⟨P,z,R,h1,h2,h3⟩:=zL9 L ⟨y,hy,hp⟩;refine ⟨x::P,z,R,by rw [h1];rfl,h2,fun w hw=>?_⟩;rcases xBs.1 hw with rfl | hw
        · exact hx
        · exact h3 w hw
def cnt (S:Nat→Bool):Nat→Nat
  | 0=>0
  | n+1=>cnt S n+(if S n then 0 else 1)
theorem zPb {S:Nat→Bool}:∀ {n:Nat},cnt S n=0→∀ i,i<n→S i=true
  | n + 1,h,i,hi=>by
    simp only [cnt] at h;have h1:cnt S n=0:=by omega
    by_cases e:i=n
    · subst e;cases hS:S i with
      | true=>rfl
      | false=>simp [hS] at h
    · exact zPb h1 i qAc
theorem zZv {S:Nat→Bool}:∀ {n:Nat},(∀ i,i<n→S i=true)→cnt S n=0
  | 0,_=>rfl
  | n+1,h=>by have ih:=zZv (S:=S) (n:=n) (fun i hi=>h i qAc);simp [cnt,ih,h n qAc]
theorem yB1 {S S':Nat→Bool}:∀ {n:Nat},(∀ i,i<n→S i=S' i)→cnt S n=cnt S' n
  | 0,_=>rfl
  | n+1,h=>by have ih:=yB1 (S:=S) (S':=S') (n:=n) (fun i hi=>h i qAc);simp [cnt,ih,h n qAc]
theorem zZu {S S':Nat→Bool}{i:Nat}(hi:S i=false)(hi':S' i=true)(h:∀ j,j≠i→S' j=S j):∀ {n:Nat},i<n→cnt S' n+1=cnt S n
  | n+1,hlt=>by
    simp only [cnt];by_cases e:i=n
    · subst e;rw [hi,hi',yB1 (S:=S') (S':=S) (fun j hj=>h j qAc)];simp
    · have:=zZu hi hi' h (n:=n) qAc;rw [h n qAc];omega
section
variable {ops:Array Oper} {E:List (DOp×D)} {start:List Bool} {nh:Nat} {hw:Option (Nat×Nat×zBr)} {s0:List D}
def Closed (ops:Array Oper)(S:Nat→Bool):Prop:=∀ j x,S j=true→((zGd ops).getD j 0).testBit x=true→S x=true
structure Setup (ops:Array Oper) (E:List (DOp×D)) (start:List Bool) (nh:Nat) (hw:Option (Nat×Nat×zBr)) (s0:List D):Prop where
  ok:∀ P e R,E=P++e::R→OkE ops E start nh P e.1
  zero:∀ r,start.getD r false=true→s0[r]?=some .undef∨s0[r]?=none
  place:∀ iw r q,hw=some (iw,r,q)→start.getD r false=false∧(∃ d0 sz rows,s0[r]?=some d0∧zAf d0 q=some (.sl true sz rows))∧(∃ e∈E,e.1.idx=iw)∧∀ P e R,E=P++e::R→e.1.idx=iw→∀ p∈P,((zGd ops).getD iw 0).testBit p.1.idx=true
theorem Setup.idx (h:Setup ops E start nh hw s0):E.Pairwise (fun e e'=>e.1.idx≠e'.1.idx):=zQu fun P e R hE=>(h.ok P e R hE).new
theorem Setup.same (h:Setup ops E start nh hw s0){e e':DOp×D}(he:e∈E)(he':e'∈E)(hi:e.1.idx=e'.1.idx):e=e':=by
  have hp:=h.idx;generalize E=L at he he' hp;clear h;induction L with
  | nil=>cases he
  | cons x L ih =>
    rw [xEx] at hp;rcases xBs.1 he with h1 | h1
    · rcases xBs.1 he' with h2 | h2
      · rw [h1,h2]
      · exact absurd (h1▸hi) (hp.1 e' h2)
    · rcases xBs.1 he' with h2 | h2
      · exact absurd (h2▸hi.symm) (hp.1 e h1)
      · exact ih h1 h2 hp.2
theorem Setup.dsts (h:Setup ops E start nh hw s0):E.Pairwise (fun e e'=>e.1.vo.dst=none∨e.1.vo.dst≠e'.1.vo.dst):=by
  have key:∀ L:List (DOp×D),(∀ x∈L,x∈E)→L.Pairwise (fun e e'=>e.1.idx≠e'.1.idx)→L.Pairwise (fun e e'=>e.1.vo.dst=none∨e.1.vo.dst≠e'.1.vo.dst):=by
    intro L;induction L with
    | nil=>intro _ _;exact List.Pairwise.nil
    | cons x L ih =>
      intro hL hp;rw [xEx] at hp ⊢;refine ⟨fun y hy=>?_,ih (fun z hz=>hL z (by simp [hz])) hp.2⟩;obtain ⟨A,B,hAB⟩:=xCe (hL x qAh);rcases (h.ok A x B hAB).uniq y (hL y qA9) with h1 | h1 | h1
      · exact absurd h1.symm (hp.1 y hy)
      · exact .inr (Ne.symm h1)
      · cases hx:x.1.vo.dst with
        | none=>exact .inl rfl
        | some t=>exact .inr (by rw [h1];simp)
  exact key E (fun _ h=>h) h.idx
theorem Setup.agree (h:Setup ops E start nh hw s0){P:List (DOp×D)}{e:DOp×D}{R:List (DOp×D)}(hE:E=P++e::R){S:Nat→Bool}(hb:∀ x,((zGd ops).getD e.1.idx 0).testBit x=true→S x=true)(r:Nat)(hr:e.1.hid.getD r false=false):(ovE S E s0)[r]?=(ovE (fun _=>true) P s0)[r]?:=by
  have ok:=h.ok P e R hE;have hp:=h.idx;have:ovE S E s0=ovE S (e::R) (ovE S P s0):=(by rw [hE,zY7]);rw [this,zP7]
  · refine zSv P _ _ (fun p hp hd=>?_) rfl;rcases ok.vis p (by rw [hE];simp [hp]) r hd with h1 | ⟨_,h1⟩
    · rw [h1] at hr;cases hr
    · exact hb _ h1
  · intro e' he' hd;exfalso;rcases ok.vis e' (by rw [hE];simp at he' ⊢;exact .inr he') r hd with h1 | ⟨⟨p,hp1,hp2⟩,_⟩
    · rw [h1] at hr;cases hr
    · rw [hE,List.pairwise_append] at hp;exact hp.2.2 p hp1 e' he' hp2
theorem Setup.clE_hid (h:Setup ops E start nh hw s0){e:DOp×D}(he:e∈E){S:Nat→Bool}(hS:S e.1.idx=false)(hc:Closed ops S)(r:Nat)(hr:(clE S E).getD r false=true):e.1.hid.getD r false=true:=by
  obtain ⟨j,h1,h2,h3⟩:=(zTj E).1 hr;obtain ⟨A,B,hAB⟩:=xCe h1;rcases (h.ok A j B hAB).cl e he with h4 | h4 | h4
  · rw [← h4,hS] at h2;cases h2
  · rw [hc _ _ h2 h4] at hS;cases hS
  · exact h4 r h3
theorem Setup.hidStart (h:Setup ops E start nh hw s0){e:DOp×D}(he:e∈E)(r:Nat)(hr:start.getD r false=false):e.1.hid.getD r false=false:=by
  obtain ⟨A,B,hAB⟩:=xCe he;cases hh:e.1.hid.getD r false with
  | false=>rfl
  | true=>rw [(h.ok A e B hAB).hid r hh] at hr;cases hr
theorem Setup.clStart (h:Setup ops E start nh hw s0){e:DOp×D}(he:e∈E)(r:Nat)(hr:start.getD r false=false):e.1.cl.getD r false=false:=by
  obtain ⟨A,B,hAB⟩:=xCe he;cases hh:e.1.cl.getD r false with
  | false=>rfl
  | true=>obtain ⟨e',he',hd,_⟩:=(h.ok A e B hAB).cld r hh;obtain ⟨A',B',hAB'⟩:=xCe he';rw [(h.ok A' e' B' hAB').dst r hd] at hr;cases hr
theorem Setup.clEStart (h:Setup ops E start nh hw s0){S:Nat→Bool}(r:Nat)(hr:start.getD r false=false):(clE S E).getD r false=false:=zTk fun e he _=>h.clStart he r hr
theorem Setup.dstUndef (h:Setup ops E start nh hw s0) {e:DOp×D} (he:e∈E) {t:Nat} (ht:e.1.vo.dst=some t) {S:Nat→Bool} (hS:S e.1.idx=false):(sig E hw S s0)[t]?=some .undef∨(sig E hw S s0)[t]?=none:=by
  obtain ⟨A,B,hAB⟩:=xCe he;have hst:=(h.ok A e B hAB).dst t ht;have h1:(ovE S E s0)[t]?=s0[t]?:=zP7 E s0 fun e' he' hd=>by
    rcases (h.ok A e B hAB).uniq e' he' with h2 | h2 | h2
    · rw [h2];exact hS
    · exact absurd (hd.trans ht.symm) h2
    · rw [h2] at hd;cases hd
  have h2 : (hwS hw S (ovE S E s0))[t]?=some .undef∨(hwS hw S (ovE S E s0))[t]?=none:=by
    have h0:=h.zero t hst;rw [← h1] at h0;unfold hwS;cases hw with
    | none=>exact h0
    | some x =>
      obtain ⟨iw,r,q⟩:=x;simp only;split
      · obtain ⟨hr,⟨d0,sz,rows,k1,k2⟩,_⟩:=h.place iw r q rfl;have hne:t≠r:=fun e=>by rw [e,hr] at hst;cases hst
        cases hs:(ovE S E s0)[r]? with
        | none=>unfold zDv;rw [hs];exact h0
        | some d =>
          rw [zBw hs,if_neg hne];rcases h0 with h0 | h0<;>rw [h0]
          · exact .inl (by simp [D.prune])
          · exact .inr rfl
      · exact h0
  unfold sig;rw [zBf];rcases h2 with h2 | h2<;>rw [h2]
  · refine .inl ?_;simp only [xAx,D.prune];split<;>rfl
  · exact .inr rfl
end
end Go.V
namespace Go.V
open Go.RowKit
def prW (hw:Option (Nat×Nat×zBr))(S:Nat→Bool)(d:D):D:=match hw with
  | some (iw,r,q)=>if S iw then d.prune (zAg r q) else d
  | none=>d
section
variable {ops:Array Oper} {E:List (DOp×D)} {start:List Bool} {nh:Nat} {hw:Option (Nat×Nat×zBr)} {s0:List D} {S S':Nat→Bool} {e:DOp×D}
theorem Setup.cl_or (h:Setup ops E start nh hw s0)(he:e∈E)(hS':S' e.1.idx=true)(hne:∀ j,j≠e.1.idx→S' j=S j)(hS:S e.1.idx=false)(r:Nat):(clE S' E).getD r false=((clE S E).getD r false||e.1.cl.getD r false):=by
  rw [xEq,xDk,zTj,zTj];constructor
  · rintro ⟨e',h1,h2,h3⟩;by_cases hi:e'.1.idx=e.1.idx
    · rw [h.same h1 he hi] at h3;exact .inr h3
    · exact .inl ⟨e',h1,by rw [← hne _ hi];exact h2,h3⟩
  · rintro (⟨e',h1,h2,h3⟩ | h3)
    · refine ⟨e',h1,?_,h3⟩;rw [hne _ (fun hi=>by rw [hi,hS] at h2;cases h2)];exact h2
    · exact ⟨e,he,hS',h3⟩
theorem Setup.cl_dst (h:Setup ops E start nh hw s0)(he:e∈E)(hS:S e.1.idx=false)(hc:Closed ops S)(hb:∀ x,((zGd ops).getD e.1.idx 0).testBit x=true→S x=true)(hS':S' e.1.idx=true)(hne:∀ j,j≠e.1.idx→S' j=S j){t:Nat}(ht:e.1.vo.dst=some t):(clE S' E).getD t false=false:=by
  apply zTk;intro j hj hSj;obtain ⟨A,B,hAB⟩:=xCe hj;obtain ⟨A',B',hAB'⟩:=xCe he;cases hcl:j.1.cl.getD t false with
  | false=>rfl
  | true =>
    obtain ⟨e'',h1,h2,h3⟩:=(h.ok A j B hAB).cld t hcl;have hee:e''.1.idx=e.1.idx:=by
      rcases (h.ok A' e B' hAB').uniq e'' h1 with h4 | h4 | h4
      · exact h4
      · exact absurd (h2.trans ht.symm) h4
      · rw [h4] at h2;cases h2
    rw [hee] at h3;by_cases hji:j.1.idx=e.1.idx
    · rw [hji] at h3;have:=hb _ h3;rw [hS] at this;cases this
    · rw [hne _ hji] at hSj;have:=hc _ _ hSj h3;rw [hS] at this;cases this
theorem zRv {m m1 m2:List Bool}(h:∀ r,m.getD r false=(m1.getD r false||m2.getD r false))(x:D):zBn m x=(zBn m1 x&&zBn m2 x):=by
  cases x with
  | ref r p=>simp only [zBn,h r,Bool.not_or]
  | ptr r p i j=>simp only [zBn,h r,Bool.not_or]
  | sub r p i n=>simp only [zBn,h r,Bool.not_or]
  | _=>rfl
theorem yOv {m m1 m2:List Bool}(h:∀ r,m.getD r false=(m1.getD r false||m2.getD r false))(s:List D):clr m2 (clr m1 s)=clr m s:=by
  apply xDc;intro r;rw [zBf,zBf,zBf,xD7];cases s[r]? with
  | none=>rfl
  | some d=>simp only [xAx,Function.comp_def,h r];cases m1.getD r false<;>cases m2.getD r false<;>simp [D.prune,D.prune_prune];exact zDc (fun x=>(zRv h x).symm) d
theorem Setup.ov_ne (h:Setup ops E start nh hw s0)(he:e∈E)(hne:∀ j,j≠e.1.idx→S' j=S j){r:Nat}(hr:e.1.vo.dst≠some r):(ovE S' E s0)[r]?=(ovE S E s0)[r]? :=
  zSv E _ _ (fun e' he' hd=>hne _ (fun hi=>hr (by rw [← h.same he' he hi];exact hd))) rfl
theorem Setup.put_eq (h:Setup ops E start nh hw s0) (he:e∈E) (hS:S e.1.idx=false) (hc:Closed ops S) (hb:∀ x,((zGd ops).getD e.1.idx 0).testBit x=true→S x=true) (hS':S' e.1.idx=true) (hne:∀ j,j≠e.1.idx→S' j=S j) (hW:∀ iw r q,hw=some (iw,r,q)→e.1.idx≠iw) :
    zTv (clr e.1.cl (sig E hw S s0)) e.1.vo.dst ((prW hw S e.2).prune (zBn (clE S' E)))=sig E hw S' s0:=by
  unfold sig;rw [yOv (fun r=>h.cl_or he hS' hne hS r)];have hX:∀ r,e.1.vo.dst≠some r→(hwS hw S' (ovE S' E s0))[r]?=(hwS hw S (ovE S E s0))[r]?:=by
    intro r hr;unfold hwS;cases hw with
    | none=>exact h.ov_ne he hne hr
    | some x =>
      obtain ⟨iw,r0,q⟩:=x;simp only;rw [hne iw (Ne.symm (hW iw r0 q rfl))];split
      · have hr0:e.1.vo.dst≠some r0:=fun hd=>by obtain ⟨A,B,hAB⟩:=xCe he;have:=(h.ok A e B hAB).dst r0 hd;rw [(h.place iw r0 q rfl).1] at this;cases this
        have h1:=h.ov_ne he hne hr0;cases hs:(ovE S E s0)[r0]? with
        | none=>rw [hs] at h1;unfold zDv;rw [hs,h1];exact h.ov_ne he hne hr
        | some d=>rw [hs] at h1;rw [zBw hs,zBw h1,h.ov_ne he hne hr]
      · exact h.ov_ne he hne hr
  apply xDc;intro r;by_cases hr:e.1.vo.dst=some r
  · rw [hr,zLx,zBf,zBf,xD7];have hcl:=h.cl_dst he hS hc hb hS' hne hr;have hov:=yA5 (S:=S') E s0 e he h.dsts hr hS';have hlen:((hwS hw S (ovE S E s0))[r]?).isSome=(s0[r]?).isSome:=by rw [xEq];simp only [isSome_getElem?,yIi,zC3]
    have hRHS:(hwS hw S' (ovE S' E s0))[r]?=(s0[r]?).map fun _=>prW hw S e.2:=by
      unfold hwS prW;cases hw with
      | none=>exact hov
      | some x =>
        obtain ⟨iw,r0,q⟩:=x;simp only;rw [hne iw (Ne.symm (hW iw r0 q rfl))];split
        · have hrr:r≠r0:=fun hd=>by obtain ⟨A,B,hAB⟩:=xCe he;have:=(h.ok A e B hAB).dst r hr;rw [hd,(h.place iw r0 q rfl).1] at this;cases this
          cases hs:(ovE S' E s0)[r0]? with
          | none=>exfalso;obtain ⟨_,⟨d0,sz,rows,k1,_⟩,_⟩:=h.place iw r0 q rfl;have h1:r0<s0.length:=(xA4.1 k1).1;have h2:(ovE S' E s0).length=s0.length:=zC3 E s0;rw [xEa] at hs;omega
          | some d=>rw [zBw hs,if_neg hrr,hov];cases s0[r]? <;> rfl
        · exact hov
    rw [hRHS,xD7];cases hs0:s0[r]? with
    | none =>
      rw [hs0] at hlen;cases hx:(hwS hw S (ovE S E s0))[r]? with
      | none=>rfl
      | some d=>rw [hx] at hlen;cases hlen
    | some d0 =>
      rw [hs0] at hlen;cases hx:(hwS hw S (ovE S E s0))[r]? with
      | none=>rw [hx] at hlen;cases hlen
      | some d=>simp only [xAx,Function.comp_def,hcl,xBa,if_false]
  · rw [zGo hr,zBf,zBf,hX r hr]
theorem Setup.put_eqW (h:Setup ops E start nh hw s0)(he:e∈E)(hS:S e.1.idx=false)(hc:Closed ops S)(hb:∀ x,((zGd ops).getD e.1.idx 0).testBit x=true→S x=true)(hS':S' e.1.idx=true)(hne:∀ j,j≠e.1.idx→S' j=S j){r0:Nat}{q:zBr}(hW:hw=some (e.1.idx,r0,q))(hown:∀ k:D→Bool,e.2.prune k=e.2) :
    zTv (clr e.1.cl (zDv r0 q (sig E hw S s0))) e.1.vo.dst e.2=sig E hw S' s0:=by
  obtain ⟨hr0,⟨d0,sz,rows,k1,k2⟩,_⟩:=h.place _ r0 q hW;have e1:sig E hw S s0=clr (clE S E) (ovE S E s0):=(by unfold sig hwS;rw [hW];simp [hS]);have e2:sig E hw S' s0=clr (clE S' E) (zDv r0 q (ovE S' E s0)):=(by unfold sig hwS;rw [hW];simp [hS']);rw [e1,e2,zRw (h.clEStart r0 hr0),yOv (fun r=>h.cl_or he hS' hne hS r)];have hdr:e.1.vo.dst≠some r0:=fun hd=>by obtain ⟨A,B,hAB⟩:=xCe he;have:=(h.ok A e B hAB).dst r0 hd;rw [hr0] at this;cases this
  have hlt:r0<s0.length:=(xA4.1 k1).1;obtain ⟨d,hs⟩:∃ d,(ovE S E s0)[r0]?=some d:=⟨_,xA1 (by rw [zC3];exact hlt)⟩
  have hs':(ovE S' E s0)[r0]?=some d:=(by rw [h.ov_ne he hne hdr];exact hs);apply xDc;intro r;by_cases hr:e.1.vo.dst=some r
  · have hrr:r≠r0:=fun hd=>hdr (by rw [← hd];exact hr);rw [hr,zLx,zBf,zBf,xD7,zBw hs,zBw hs',if_neg hrr,if_neg hrr,xD7,xD7];have hcl:=h.cl_dst he hS hc hb hS' hne hr;have hov:=yA5 (S:=S') E s0 e he h.dsts hr hS';rw [hov];cases hs0:s0[r]? with
    | none=>have:(ovE S E s0)[r]?=none:=(by rw [xEa] at hs0 ⊢;rw [zC3];exact hs0);rw [this];rfl
    | some dd =>
      obtain ⟨d2,hd2⟩:∃ d2,(ovE S E s0)[r]?=some d2:=⟨_,xA1 (by rw [zC3];exact (xA4.1 hs0).1)⟩
      rw [hd2];simp only [xAx,Function.comp_def,hcl,xBa,if_false,hown]
  · rw [zGo hr,zBf,zBf,zBw hs,zBw hs',h.ov_ne he hne hr]
end
end Go.V
namespace Go.V
open Go.RowKit
def qW (hw:Option (Nat×Nat×zBr))(S:Nat→Bool):D→Bool:=match hw with
  | some (iw,r,q)=>fun x=>if S iw then zAg r q x else true
  | none=>fun _=>true
theorem zXq (hw:Option (Nat×Nat×zBr))(S:Nat→Bool)(d:D):prW hw S d=d.prune (qW hw S):=by
  unfold prW qW;cases hw with
  | none=>exact (D.prune_yes d).symm
  | some x =>
    obtain ⟨iw,r,q⟩:=x;simp only;cases S iw with
    | true=>simp
    | false=>simp [D.prune_yes]
theorem yDf {s:List D}{t:Nat}{d:D}(h:s[t]?=some .undef∨s[t]?=none):zN2 s t d=s.set t d:=by unfold zN2;rcases h with h | h<;>rw [h]
section
variable {P:Program} {G:World→(Nat→Prop)→Prop} {w0:Base} {I0:Nat→Prop} {ops:Array Oper} {E:List (DOp×D)} {start:List Bool} {nh:Nat} {hw:Option (Nat×Nat×zBr)} {s0:List D} {S S':Nat→Bool} {e:DOp×D} {Pre R:List (DOp×D)}
theorem Setup.view (h:Setup ops E start nh hw s0) (hE:E=Pre++e::R) (hS:S e.1.idx=false) (hc:Closed ops S) (hb:∀ x,((zGd ops).getD e.1.idx 0).testBit x=true→S x=true) (hW:∀ iw r q,hw=some (iw,r,q)→e.1.idx≠iw) {a:Act} {w:World} {I:Nat→Prop} {Fs:Nat→List Nat} (hR:RelI w0 I0 (sig E hw S s0) a.tmps w I Fs) :
    ∃ Fv,RelI w0 I0 (clr e.1.hid (rs hw Pre s0)) a.tmps w I Fv∧(∀ r b,b∈Fv r→b∈Fs r)∧∀ tm w' x u,ρS (clr e.1.cl (clr e.1.hid (rs hw Pre s0))) tm w' x u→ρS (clr e.1.cl (sig E hw S s0)) tm w' x u:=by
  have he:e∈E:=qCn;have hag:=fun r hr=>h.agree hE hb r hr;have hlen:∀ S P,(ovE S E s0).length=(ovE (fun _=>true) P s0).length:=fun S P=>by rw [zC3,zC3]
  have plain:clr e.1.hid (rs hw Pre s0)=clr e.1.hid (sig E hw S s0)→∃ Fv,RelI w0 I0 (clr e.1.hid (rs hw Pre s0)) a.tmps w I Fv∧(∀ r b,b∈Fv r→b∈Fs r)∧∀ tm w' x u,ρS (clr e.1.cl (clr e.1.hid (rs hw Pre s0))) tm w' x u→ρS (clr e.1.cl (sig E hw S s0)) tm w' x u:=by
    intro heq;rw [heq];refine ⟨_,hR.clr e.1.hid,fun r b hb=>?_,fun tm w' x u hx=>?_⟩
    · split at hb
      · cases hb
      · exact hb
    · rw [yB4] at hx;exact hx.unclr
  cases hw with
  | none=>refine plain ?_;unfold sig rs hwS;rw [zTi (h.clE_hid he hS hc)];exact zPc (by rw [zC3,zC3]) (fun r hr=>(hag r hr).symm)
  | some x =>
    obtain ⟨iw,r,q⟩:=x;obtain ⟨hr0,⟨d0,sz,rows,k1,k2⟩,⟨eW,hWE,hWi⟩,hbef⟩:=h.place iw r q rfl;have hhr:=h.hidStart he r hr0;have hne:=hW iw r q rfl;cases hm:yRs Pre iw with
    | false =>
      have hSiw:S iw=false:=by
        cases hs:S iw with
        | false=>rfl
        | true =>
          exfalso;rw [hE] at hWE;rcases xBf.1 hWE with h1 | h1
          · rw [memP_iff.2 ⟨eW,h1,hWi⟩] at hm;cases hm
          · rcases xBs.1 h1 with rfl | h1
            · exact hne hWi
            · obtain ⟨A,B,hAB⟩:=xCe h1;have:=hbef (Pre++e::A) eW B (by rw [hE,hAB];simp) hWi e qAh;have:=hc _ _ hs this;rw [hS] at this;cases this
      refine plain ?_;unfold sig rs hwS;simp only [hm,hSiw,xBa,if_false];rw [zTi (h.clE_hid he hS hc)];exact zPc (by rw [zC3,zC3]) (fun r hr=>(hag r hr).symm)
    | true =>
      have hrs:rs (some (iw,r,q)) Pre s0=zDv r q (ovE (fun _=>true) Pre s0):=(by unfold rs hwS;simp [hm]);cases hs:S iw with
      | true=>refine plain ?_;rw [hrs];unfold sig hwS;simp only [hs,if_true];rw [zTi (h.clE_hid he hS hc)];exact zPc (by rw [zO2,zO2,zC3,zC3]) (zUr hhr (fun r hr=>(hag r hr).symm))
      | false =>
        have hsig:sig E (some (iw,r,q)) S s0=clr (clE S E) (ovE S E s0):=(by unfold sig hwS;simp [hs]);have hcr:=h.clEStart (S:=S) r hr0;have hov:(ovE S E s0)[r]?=some d0:=(by rw [zP7 E s0 (fun e' he' hd=>?_),k1];obtain ⟨A,B,hAB⟩:=xCe he';have:=(h.ok A e' B hAB).dst r hd;rw [hr0] at this;cases this);obtain ⟨q',hq'⟩:=zBi q d0 (zBn (clE S E)) k2;have hslot:(sig E (some (iw,r,q)) S s0)[r]?=some (d0.prune (zBn (clE S E))):=(by rw [hsig,zBf,hov];simp only [xAx,hcr,xBa,if_false]);obtain ⟨Fh,hh,hsubh⟩:=hR.hole hslot (by simpa [D.prune] using hq');have heq:clr e.1.hid (rs (some (iw,r,q)) Pre s0)=clr e.1.hid (zDv r q (sig E (some (iw,r,q)) S s0)):=(by rw [hrs,hsig,zRw hcr,zTi (h.clE_hid he hS hc)];exact zPc (by rw [zO2,zO2,zC3,zC3]) (zUr hhr (fun r hr=>(hag r hr).symm)));rw [heq];refine ⟨_,hh.clr e.1.hid,fun r b hb=>?_,fun tm w' x u hx=>?_⟩
        · split at hb
          · cases hb
          · exact hsubh r b hb
        · rw [yB4,← zRw (h.clStart he r hr0)] at hx;exact hx.unclr.unhole
theorem yIj (hcl:∀ w',w0.Below w'→GI G w' I0) (h:Setup ops E start nh hw s0) (hE:E=Pre++e::R) (fact:EF (CT P G) hw start s0 Pre e) {o:Oper} {n:Bool} (hop:ops[e.1.idx]?=some o) (hcomp:cVO P n ops o=some e.1.vo)
    (hS:S e.1.idx=false) (hc:Closed ops S) (hb:∀ x,((zGd ops).getD e.1.idx 0).testBit x=true→S x=true) (hS':S' e.1.idx=true) (hne:∀ j,j≠e.1.idx→S' j=S j) {a:Act} {w:World} {I:Nat→Prop} {Fs:Nat→List Nat} (hd:a.defers=[]) (hR:RelI w0 I0 (sig E hw S s0) a.tmps w I Fs)
    {Q:Exit→Act→World→Prop} {K:Act→World→Prop} (hK:∀ a w,Rel w0 I0 (sig E hw S' s0) a w→K a w):wpOp P ops Q e.1.idx K a w:=by
  have he:e∈E:=qCn;have hGw:GI G w I0:=hcl _ hR.below;simp only [cVO] at hcomp;cases hg:zFr ops o.guard with
  | none=>simp [hg] at hcomp
  | some g =>
  cases hopc:cOp P n o.op with
  | none=>simp [hg,hopc] at hcomp
  | some vop =>
  simp only [hg,hopc,xAv] at hcomp;have hdst:e.1.vo.dst=o.dst:=by rw [← hcomp]
  have hvop:e.1.vo.op=vop:=(by rw [← hcomp]);have hguard:e.1.vo.guard=g:=(by rw [← hcomp]);unfold wpOp;rw [hop];simp only
  -- what is left to do once there is a result
  have put:∀ {A2:List D} {d':D} {v:Value} {w':World} {I':Nat→Prop} {Fs':Nat→List Nat} {F:List Nat},RelI w0 I0 A2 a.tmps w' I' Fs'→T I' w' d' (ρS A2 a.tmps w') v F→Fresh w0 w' I' Fs' F→(∀ t,e.1.vo.dst=some t→A2[t]?=some .undef∨A2[t]?=none)→zTv A2 e.1.vo.dst d'=sig E hw S' s0→K (a.put o.dst v) w':=by
    intro A2 d' v w' I' Fs' F h1 h2 h3 h4 h5;have:=zIn (dst:=o.dst) hd h1 h2 h3;refine hK _ _ ?_;rw [← h5,hdst];rw [hdst] at h4;cases hdd:o.dst with
    | none=>rw [hdd] at this;exact this
    | some t=>rw [hdd] at this h4;simp only at this;rw [yDf (h4 t rfl)] at this;exact this
  have yXq:∀ {X:List D} {m:List Bool} {t:Nat},(X[t]?=some .undef∨X[t]?=none)→(clr m X)[t]?=some .undef∨(clr m X)[t]?=none:=by
    intro X m t hX;rw [zBf];rcases hX with hX | hX<;>rw [hX]
    · refine .inl ?_;simp only [xAx,D.prune];split<;>rfl
    · exact .inr rfl
  have normal : (∀ iw r q,hw=some (iw,r,q)→e.1.idx≠iw)→e.1.vo.op.framed=true→DF (CT P G) (clr e.1.hid (rs hw Pre s0)) e.1.cl e.1.vo e.2→if Region.wanted o (yielded ops a.tmps) then o.wp P a w K Q∨(o.asks P a w∧LetsOut Q) else K (a.put o.dst undef) w:=by
    intro hW hfr hDF;obtain ⟨Fv,hv,hsub,hun⟩:=h.view hE hS hc hb hW hR;have heq:=h.put_eq he hS hc hb hS' hne hW;have hU:∀ t,e.1.vo.dst=some t→(clr e.1.cl (sig E hw S s0))[t]?=some .undef∨(clr e.1.cl (sig E hw S s0))[t]?=none:=fun t ht=>yXq (h.dstUndef he ht hS);have run:NF (CT P G) (clr e.1.hid (rs hw Pre s0)) e.1.cl e.1.vo.op e.2→o.wp P a w K Q:=by
      rintro ⟨s',hs',hk⟩;rw [hvop] at hk hfr;refine zE2 (zQq (nn:=true) hGw hv (fun _=>hfr) hopc hk) ?_;rintro v w' ⟨d',s1,I',Fs',F,⟨rfl,rfl⟩,hR',hT,hF,hfrm⟩;obtain ⟨h1,h2,h3⟩:=yGp hR hv hsub (hun a.tmps w') hs' hR' hT hF (hfrm rfl);have h4:=T.turn (q:=fun x=>qW hw S x&&zBn (clE S' E) x) (fun x u _ hx=>hx) _ h2;have hd2:(e.2.prune (zBn e.1.cl)).prune (fun x=>qW hw S x&&zBn (clE S' E) x)=(prW hw S e.2).prune (zBn (clE S' E)):=by rw [D.prune_prune,zXq,D.prune_prune];refine zDc (fun x=>?_) _;rw [zRv (fun r=>h.cl_or he hS' hne hS r) x];cases zBn e.1.cl x<;>cases qW hw S x<;>simp
      rw [hd2] at h4;exact put h1 h4 h3 hU heq
    have skip:e.2=noD→K (a.put o.dst undef) w:=(by intro hno;refine put (d':=(prW hw S e.2).prune (zBn (clE S' E))) (hR.clr e.1.cl) ?_ Fresh.nil hU heq;rw [hno,zXq];simp only [noD,D.prune,T];exact ⟨rfl,trivial⟩);unfold DF at hDF;rw [hguard] at hDF;cases hgo:o.guard with
    | none=>rw [hgo] at hg;simp only [zFr,xAv] at hg;subst hg;rw [if_pos qBx];exact .inl (run hDF)
    | some jw =>
      obtain ⟨j,want⟩:=jw;rw [hgo] at hg;simp only [zFr] at hg;cases hj:(ops[j]?).bind (·.dst) with
      | none=>simp [hj] at hg
      | some t =>
        simp only [hj,xAv] at hg;subst hg;simp only at hDF;have hTt:=zXy hv t;have hyv:∀ x:Value,lkT (clr e.1.hid (rs hw Pre s0)) t=.v x→a.tmps[t]?=some x∨(a.tmps[t]?=none∧x=undef):=by
          intro x e;rw [e] at hTt;have:=(T_v hTt).1;cases ht:a.tmps[t]? with
          | none=>simp [ht] at this;exact .inr ⟨rfl,this.symm⟩
          | some y=>simp [ht] at this;exact .inl (by rw [this])
        split at hDF
        · rename_i b e;have hy:yielded ops a.tmps j=some b:=by
            unfold yielded;rw [hj];rcases hyv _ e with h1 | ⟨_,h1⟩
            · simp [h1]
            · cases h1
          by_cases hbw:b=want
          · rw [if_pos qAs];exact .inl (run (hDF.1 hbw))
          · rw [if_neg qAs];exact skip (hDF.2 hbw)
        · rename_i x hne' e;have hy:yielded ops a.tmps j=none:=by
            unfold yielded;rw [hj];rcases hyv _ e with h1 | ⟨h1,_⟩
            · simp only [xDq,h1];split
              · rename_i b hb;cases hb;exact absurd rfl (hne' b)
              · rfl
            · simp [h1]
          rw [if_neg qBs];exact skip hDF
        · exact hDF.elim
  unfold EF at fact;cases hw with
  | none=>exact normal (fun _ _ _ h=>by cases h) fact.1 fact.2
  | some x =>
    obtain ⟨iw,r,q⟩:=x;simp only at fact;by_cases hi:e.1.idx=iw
    · rw [if_pos hi] at fact;subst hi;obtain ⟨sz,bytes,x,y,hap,hgn,hy,hpl⟩:=fact;have hg0:o.guard=none:=by
        rw [hguard] at hgn;subst hgn;cases hgo:o.guard with
        | none=>rfl
        | some jw=>obtain ⟨j,want⟩:=jw;rw [hgo] at hg;simp only [zFr] at hg;split at hg<;>simp at hg
      rw [if_pos (by simp [Region.wanted,hg0])];refine .inl ?_;have hsig:sig E (some (e.1.idx,r,q)) S s0=clr (clE S E) (ovE S E s0):=by unfold sig hwS;simp [hS]
      have hv:clr e.1.hid (ovE (fun _=>true) Pre s0)=clr e.1.hid (sig E (some (e.1.idx,r,q)) S s0):=(by rw [hsig,zTi (h.clE_hid he hS hc)];exact zPc (by rw [zC3,zC3]) (fun r hr=>(h.agree hE hb r hr).symm));rw [hv] at hpl;obtain ⟨r',q',rows,d0,rows0,k1,k2,k3,⟨rfl,rfl,k4⟩,k5⟩:=yG3 hy (fun r hr=>by
        obtain ⟨A,B,hAB⟩:=xCe he;exact (h.ok A e B hAB).hid r hr) hpl
      rw [hap] at hvop;rw [← hvop] at hopc;refine zE2 (zQq (nn:=false) hGw hR (fun h=>by cases h) hopc k5) ?_;rintro v w' ⟨d',s1,I',Fs',F,⟨rfl,hs1⟩,hR',hT,hF,_⟩;have h1:=hR'.clr e.1.cl;rw [hs1] at h1;have heq:=h.put_eqW he hS hc hb hS' hne rfl (fun k=>by rw [← k4];simp [D.prune]);refine put (d':=e.2) h1 (by rw [← k4];simpa only [T] using hT) (hF.sub (fun r b hb=>by
        split at hb
        · cases hb
        · exact hb)) (fun t ht=>yXq ?_) heq
      have hu:=h.dstUndef he ht hS;have hne0:t≠r':=fun e'=>by obtain ⟨A,B,hAB⟩:=xCe he;have:=(h.ok A e B hAB).dst t ht;rw [e',k1] at this;cases this
      rw [zBw k2,if_neg hne0];rcases hu with hu | hu<;>rw [hu]
      · exact .inl (by simp [D.prune])
      · exact .inr rfl
    · rw [if_neg hi] at fact;exact normal (fun iw' r' q' h'=>by cases h';exact hi) fact.1 fact.2
end
end Go.V
namespace Go.V
open Go.RowKit
def zCp (n nh:Nat):Array Bool:=((List.range n).map fun i=>decide (i<nh)).toArray
theorem zGz {n nh i:Nat}(hi:i<n):(zCp n nh)[i]?=some (decide (i<nh)):=by unfold zCp;simp [hi]
section
variable {P:Program} {G:World→(Nat→Prop)→Prop} {w0:Base} {I0:Nat→Prop} {ops:Array Oper} {E:List (DOp×D)} {start:List Bool} {nh:Nat} {hw:Option (Nat×Nat×zBr)} {s0:List D}
theorem zOd {S S':Nat→Bool}(h:∀ e∈E,S e.1.idx=S' e.1.idx)(hW:∀ iw r q,hw=some (iw,r,q)→S iw=S' iw):sig E hw S s0=sig E hw S' s0:=by
  unfold sig;rw [zYe E h,zXt E s0 h];congr 1;unfold hwS;cases hw with
  | none=>rfl
  | some x=>obtain ⟨iw,r,q⟩:=x;simp only;rw [hW iw r q rfl]
theorem yMp (hcl:∀ w',w0.Below w'→GI G w' I0) (h:Setup ops E start nh hw s0) (fact:∀ Pre e R,E=Pre++e::R→EF (CT P G) hw start s0 Pre e) (hall:∀ i,i<nh→∃ e∈E,e.1.idx=i) (hcomp:∀ e∈E,∃ o n,ops[e.1.idx]?=some o∧cVO P n ops o=some e.1.vo) (hnh:nh≤ops.size)
    (htail:∀ t,nh≤t→t<ops.size→∀ i,i<nh→((zGd ops).getD t 0).testBit i=true) {Q:Exit→Act→World→Prop}
    (hend:∀ a w,Rel w0 I0 (sig E hw (fun _=>true) s0) a w→wpAny P .any ops Q (ops.size-nh) (zCp ops.size nh) a w) :
    ∀ (fuel:Nat) (listed:Array Bool) (a:Act) (w:World),listed.size=ops.size→Closed ops (fun i=>listed.getD i false)→(∀ i,nh≤i→listed.getD i false=false)→fuel=cnt (fun i=>listed.getD i false) nh+(ops.size-nh)→Rel w0 I0 (sig E hw (fun i=>listed.getD i false) s0) a w→wpAny P .any ops Q fuel listed a w:=by
  intro fuel;induction fuel with
  | zero =>
    intro listed a w hsz hc ht hf hR;have hcnt:cnt (fun i=>listed.getD i false) nh=0:=by omega
    have hz:=zPb hcnt;have hlist:listed=zCp ops.size nh:=by
      apply xCw;intro i;by_cases hi:i<ops.size
      · rw [zGz hi,xBu qAc];congr 1;have h1:listed.getD i false=listed[i]'qAc:=by simp [hsz,hi]
        rw [← h1];by_cases hin:i<nh
        · simp only [hin,decide_true];exact hz i hin
        · simp only [hin,decide_false];exact ht i qAc
      · rw [xCr qAc,xCr qB9]
    have hsig:sig E hw (fun i=>listed.getD i false) s0=sig E hw (fun _=>true) s0:=zOd (fun e he=>hz _ (by
      obtain ⟨A,B,hAB⟩:=xCe he;exact (h.ok A e B hAB).lt)) (fun iw r q hwe=>hz _ (by
      obtain ⟨_,_,⟨e,he,hei⟩,_⟩:=h.place iw r q hwe;obtain ⟨A,B,hAB⟩:=xCe he;rw [← hei];exact (h.ok A e B hAB).lt))
    rw [hsig] at hR;have:=hend a w hR;rw [show ops.size-nh=0 by omega] at this;rw [hlist];exact this
  | succ fuel ih =>
    intro listed a w hsz hc ht hf hR;by_cases hcnt:cnt (fun i=>listed.getD i false) nh=0
    · have hz:=zPb hcnt;have hlist:listed=zCp ops.size nh:=by
        apply xCw;intro i;by_cases hi:i<ops.size
        · rw [zGz hi,xBu qAc];congr 1;have h1:listed.getD i false=listed[i]'qAc:=by simp [hsz,hi]
          rw [← h1];by_cases hin:i<nh
          · simp only [hin,decide_true];exact hz i hin
          · simp only [hin,decide_false];exact ht i qAc
        · rw [xCr qAc,xCr qB9]
      have hsig:sig E hw (fun i=>listed.getD i false) s0=sig E hw (fun _=>true) s0:=zOd (fun e he=>hz _ (by
        obtain ⟨A,B,hAB⟩:=xCe he;exact (h.ok A e B hAB).lt)) (fun iw r q hwe=>hz _ (by
        obtain ⟨_,_,⟨e,he,hei⟩,_⟩:=h.place iw r q hwe;obtain ⟨A,B,hAB⟩:=xCe he;rw [← hei];exact (h.ok A e B hAB).lt))
      rw [hsig] at hR;have:=hend a w hR;rw [hlist,hf,hcnt,xB2];exact this
    · -- some operation of the head is still to come
      have hex:∃ i,i<nh∧listed.getD i false=false:=by
        apply Classical.byContradiction;intro hn;apply hcnt;apply zZv;intro i hi;cases hS:listed.getD i false with
        | true=>rfl
        | false=>exact absurd ⟨i,hi,hS⟩ hn
      have getB:∀ i,i<ops.size→listed.getD i true=listed.getD i false:=fun i hi=>by have:i<listed.size:=qAc;simp [this]
      refine ⟨fun h0=>?_,fun i hi=>?_⟩
      · exfalso;obtain ⟨i,hi,hS⟩:=hex;obtain ⟨e,he,rfl⟩:=hall i hi;obtain ⟨A,x,B,hAB,hx,hA⟩:=zL9 (p:=fun e:DOp×D=>listed.getD e.1.idx false=false) E ⟨e,he,hS⟩;obtain ⟨op,hop,hedge⟩:=(h.ok A x B hAB).edge;have hlt:x.1.idx<ops.size:=xCj (h.ok A x B hAB).lt hnh;have:x.1.idx∈Region.ready .any ops listed:=by rw [mem_ready];refine ⟨by rw [getB _ hlt];exact hx,op,hop,fun ed hed hb=>?_⟩;obtain ⟨p,hp,hpe⟩:=hedge ed (by simpa using hed) hb;have:=hA p hp;rw [hpe] at this;simpa using this
        rw [h0] at this;cases this
      · obtain ⟨hun,o,hoi,hed⟩:=mem_ready.1 hi;have hilt:i<ops.size:=(by apply xEg;intro hle;rw [xCr hle] at hoi;cases hoi);have hS:listed.getD i false=false:=(by rw [← getB i hilt];exact hun);have hb:∀ x,((zGd ops).getD i 0).testBit x=true→listed.getD x false=true:=by
          intro x hx;obtain ⟨o',ho',ed,h1,h2,h3⟩:=zPq hx;rw [hoi] at ho';cases ho';have:=hed ed qA1 h2;rcases h3 with rfl | h3
          · exact this
          · exact hc _ _ this h3
        have hin:i<nh:=qBv;obtain ⟨e,he,rfl⟩:=hall i hin;obtain ⟨A,B,hAB⟩:=xCe he;obtain ⟨o',n,ho',hco⟩:=hcomp e he;rw [hoi] at ho';cases ho';have hset:∀ j,(listed.setIfInBounds e.1.idx true).getD j false=if j=e.1.idx then true else listed.getD j false:=by
          intro j;by_cases hj:j=e.1.idx
          · subst hj;have:e.1.idx<listed.size:=by omega
            simp [this]
          · rw [if_neg hj,getD_set_ne false (Ne.symm hj)]
        obtain ⟨hd,I,Fs,hRI⟩:=hR;refine yIj hcl h hAB (fact A e B hAB) hoi hco (S:=fun i=>listed.getD i false) (S':=fun i=>(listed.setIfInBounds e.1.idx true).getD i false) hS hc hb qCp (fun j hj=>by simp only [hset,if_neg hj]) hd hRI ?_;intro a' w' hR';refine ih _ a' w' (by simp [hsz]) ?_ (fun j hj=>?_) ?_ hR'
        · intro j x hj hx;simp only [hset] at hj ⊢;by_cases hxe:x=e.1.idx
          · rw [if_pos hxe]
          · rw [if_neg hxe];by_cases hje:j=e.1.idx
            · subst hje;exact hb x hx
            · rw [if_neg hje] at hj;exact hc j x hj hx
        · rw [hset,if_neg qAc];exact ht j hj
        · have:=zZu (S:=fun i=>listed.getD i false) (S':=fun i=>(listed.setIfInBounds e.1.idx true).getD i false) hS qCp (fun j hj=>by simp only [hset,if_neg hj]) hin;omega
end
end Go.V
namespace Go.V
open Go.RowKit
def yN7 (pr:Option (Nat×zBr)):List (DOp×D)→List D→List D
  | [],s=>s
  | e::P,s=>yN7 pr P (zTv s e.1.vo.dst (prO pr e.2))
theorem zGr:∀ (P:List (DOp×D)) (s:List D),yN7 none P s=ovE (fun _=>true) P s
  | [],s=>rfl
  | e::P,s=>by simp only [yN7,ovE,prO,if_true,zGr P]
theorem zKp {Ctr:CtrT}{pr:Option (Nat×zBr)}:∀ (l:List DOp) {s:List D} {K:List D→Prop},l.all (fun o=>o.vo.op.framed)=true→zO4 Ctr pr s l K →
    ∃ E:List (DOp×D),E.map (·.1)=l∧(∀ P e R,E=P++e::R→e.1.vo.op.framed=true∧DF Ctr (clr e.1.hid (yN7 pr P s)) e.1.cl e.1.vo e.2)∧K (yN7 pr E s)
  | [],s,K,_,h=>⟨[],rfl,fun P e R h=>by simp at h,h⟩
  | o::l,s,K,hf,h=>by
    simp only [xBm,xA2] at hf;simp only [zO4] at h;obtain ⟨d,h1,h2⟩:=yD8 hf.1 h;obtain ⟨E,e1,e2,e3⟩:=zKp l hf.2 h1;refine ⟨(o,d)::E,by simp [e1],fun P e R hE=>?_,e3⟩;cases P with
    | nil=>simp only [xBp,xCo] at hE;obtain ⟨rfl,rfl⟩:=hE;exact ⟨hf.1,h2⟩
    | cons x P=>simp only [xBi,xCo] at hE;obtain ⟨rfl,hE⟩:=hE;exact e2 P e R hE
theorem zX3 {r:Nat}{q:zBr}{s:List D}{dst:Option Nat}{d d0:D}(hs:s[r]?=some d0)(hr:dst≠some r):zTv (zDv r q s) dst (d.prune (zAg r q))=zDv r q (zTv s dst d):=by
  have h1:(zTv s dst d)[r]?=some d0:=(by rw [zGo hr];exact hs);apply xDc;intro j;rw [zBw h1];by_cases hj:j=r
  · subst hj;rw [if_pos rfl,zGo hr,zBw hs,if_pos rfl]
  · rw [if_neg hj];by_cases hd:dst=some j
    · rw [hd,zLx,zLx,zBw hs,if_neg hj,xD7,xD7];rfl
    · rw [zGo hd,zGo hd,zBw hs,if_neg hj]
theorem zXk {r:Nat}{q:zBr}:∀ (P:List (DOp×D)) {s:List D} {d0:D},s[r]?=some d0→(∀ e∈P,e.1.vo.dst≠some r)→yN7 (some (r,q)) P (zDv r q s)=zDv r q (ovE (fun _=>true) P s)
  | [],s,d0,_,_=>rfl
  | e::P,s,d0,hs,hP=>by simp only [yN7,ovE,prO,if_true];rw [zX3 hs (hP e qAh)];exact zXk P (d0:=d0) (by rw [zGo (hP e qAh)];exact hs) (fun e' he'=>hP e' (by simp [he']))
def zRd:List DOp→List Bool
  | []=>[]
  | o::l=>orM o.cl (zRd l)
theorem zWg:∀ (E:List (DOp×D)),clE (fun _=>true) E=zRd (E.map (·.1))
  | []=>rfl
  | e::E=>by simp only [clE,xA6,zRd,if_true,zWg E]
def drawB (ops:Array Oper)(H:List DOp)(start:List Bool)(nh:Nat):Bool :=
  okL ops H (zGd ops) start nh [] H&&(List.range nh).all (fun i=>H.any (fun o=>o.idx==i))&&decide (nh≤ops.size) &&
  (List.range ops.size).all (fun t=>decide (t<nh)||(List.range nh).all fun i=>((zGd ops).getD t 0).testBit i) &&
  Region.seqB .any ops (ops.size-nh) nh (zCp ops.size nh)
section
variable {P:Program} {G:World→(Nat→Prop)→Prop} {w0:Base} {I0:Nat→Prop}
theorem yB2 {start:List Bool}{s:List D}{r:Nat}(h:start.getD r false=true):(clr start s)[r]?=some .undef∨(clr start s)[r]?=none:=by
  rw [zBf];cases s[r]? with
  | none=>exact .inr rfl
  | some d=>rw [h];exact .inl rfl
theorem zYa (hcl:∀ w',w0.Below w'→GI G w' I0) {ops:Array Oper} (hm:P.follows .mixedOrders=true) {E:List (DOp×D)} {start:List Bool} {nh:Nat} {hw:Option (Nat×Nat×zBr)} {s:List D}
    (hB:drawB ops (E.map (·.1)) start nh=true) (hplace:∀ iw r q,hw=some (iw,r,q)→start.getD r false=false∧(∃ d0 sz rows,(clr start s)[r]?=some d0∧zAf d0 q=some (.sl true sz rows))∧(∃ e∈E,e.1.idx=iw)∧∀ P e R,E=P++e::R→e.1.idx=iw→∀ p∈P,((zGd ops).getD iw 0).testBit p.1.idx=true)
    (fact:∀ Pre e R,E=Pre++e::R→EF (CT P G) hw start (clr start s) Pre e) (hcomp:∀ e∈E,∃ o n,ops[e.1.idx]?=some o∧cVO P n ops o=some e.1.vo) {tail:List VO} (htl:zR0 P ops (ops.toList.drop nh)=some tail) {KK:List D→Prop} {Q:Exit→Act→World→Prop}
    (hk:zLz (CT P G) (sig E hw (fun _=>true) (clr start s)) tail KK) (hQ:∀ s a w,KK s→Rel w0 I0 s a w→Q .normal a w) {a:Act} {w:World} (h:Rel w0 I0 s a w):RegAny P ops Q a w:=by
  simp only [drawB,xA2,decide_eq_true_eq] at hB;obtain ⟨⟨⟨⟨hok,hall⟩,hnh⟩,htail⟩,hseq⟩:=hB;rw [xBx] at hall htail;obtain ⟨hd,I,Fs,hR⟩:=h;have hset:Setup ops E start nh hw (clr start s):=⟨fun P e R hE=>by
    have:=zRk E [] [] (fun _ h=>by simp at h) (fun _ h=>by cases h) hok P e R hE;simpa using this,fun r hr=>yB2 hr,hplace⟩
  refine ⟨hm,?_⟩;have hgF:∀ i,(Array.replicate ops.size false).getD i false=false:=fun i=>by by_cases hi:i<ops.size<;>simp [hi]
  have hgFun:(fun i=>(Array.replicate ops.size false).getD i false)=fun _=>false:=funext hgF;refine yMp (w0:=w0) (I0:=I0) hcl hset fact (fun i hi=>?_) hcomp hnh (fun t ht1 ht2 i hi=>?_) (fun a' w' hR'=>?_) ops.size _ a _ qAh (fun j x hj _=>by simp only [hgF] at hj;cases hj) (fun i _=>hgF i) ?_ ?_
  · have:=hall i qAp;rw [xDr] at this;obtain ⟨o,ho,hoi⟩:=this;obtain ⟨e,he,rfl⟩:=xB1.1 ho;exact ⟨e,he,by simpa using hoi⟩
  · have:=htail t (by simpa using ht2);simp only [xDk,decide_eq_true_eq] at this;rcases this with h1 | h1
    · omega
    · rw [xBx] at h1;exact h1 i qAp
  · have hl:(ops.toList.drop nh).length=ops.size-nh:=qAh;have:=wpAny_of_seq (P:=P) (md:=.any) (ops:=ops) (Q':=Q) (ops.toList.drop nh) nh (zCp ops.size nh) a' w' (fun j=>by simp [xDb]) (by rw [hl];exact hseq)
      (zKe hcl ops (KK:=KK) hQ _ tail _ a' w' htl hk hR')
    rw [hl] at this;exact this
  · rw [hgFun];have:∀ n,cnt (fun _=>false) n=n:=by
      intro n;induction n with
      | zero=>rfl
      | succ n ih=>simp only [cnt,xBa,if_false];omega
    rw [this];omega
  · refine ⟨hd,I,?_⟩;rw [hgFun];have h1:=(hR.clr start).world (w':={ w with drawn:=w.drawn+1 }) ((Below.refl _ w).drew);have h2:=h1.clr (clE (fun _=>false) E);have h3:ovE (fun _=>false) E (clr start s)=clr start s:=by
      have:∀ (E:List (DOp×D)) (s:List D),ovE (fun _=>false) E s=s:=by
        intro E;induction E with
        | nil=>intro s;rfl
        | cons e E ih=>intro s;simp only [ovE,xBa,if_false];exact ih s
      exact this E _
    have h4:hwS hw (fun _=>false) (clr start s)=clr start s:=by
      unfold hwS;cases hw with
      | none=>rfl
      | some x=>obtain ⟨iw,r,q⟩:=x;simp only [xBa,if_false]
    unfold sig;rw [h3,h4];exact ⟨_,h2⟩
end
end Go.V
namespace Go.V
open Go.RowKit
theorem yFj {α:Type}{x e:α}:∀ {A B Pre R:List α},A++x::B=Pre++e::R→(∃ R1,A=Pre++e::R1)∨(Pre=A∧e=x∧R=B)∨(∃ P2,Pre=A++x::P2∧B=P2++e::R)
  | [],B,[],R,h=>by simp only [xBp,xCo] at h;exact .inr (.inl ⟨rfl,h.1.symm,h.2.symm⟩)
  | [],B,y::Pre,R,h=>by simp only [xBp,xBi,xCo] at h;exact .inr (.inr ⟨Pre,by rw [h.1];rfl,h.2⟩)
  | a::A,B,[],R,h=>by simp only [xBp,xBi,xCo] at h;exact .inl ⟨A,by rw [h.1];rfl⟩
  | a::A,B,y::Pre,R,h=>by
    simp only [xBi,xCo] at h;obtain ⟨rfl,h⟩:=h;rcases yFj h with ⟨R1,h1⟩ | ⟨h1,h2⟩ | ⟨P2,h1,h2⟩
    · exact .inl ⟨R1,by rw [h1];rfl⟩
    · exact .inr (.inl ⟨by rw [h1],h2⟩)
    · exact .inr (.inr ⟨P2,by rw [h1];rfl,h2⟩)
theorem zY5 {start:List Bool}{V:List D}{sz bytes:Nat}{x y:Operand}{K:Nat→zBr→D→Prop}(h:zSs start V sz bytes x y K) :
    ∃ r q d,K r q d∧zSs start V sz bytes x y (fun r' q' d'=>r'=r∧q'=q∧d'=d)∧start.getD r false=false∧(∀ k:D→Bool,d.prune k=d)∧∃ d1 sz' rows,V[r]?=some d1∧zAf d1 q=some (.sl true sz' rows):=by
  unfold zSs at h ⊢;split at h
  · rename_i r q e;simp only [e];obtain ⟨h0,h⟩:=h;unfold zE5 at h ⊢;split at h
    · rename_i d1 hd;split at h
      · rename_i sz' rows ht;simp only at h;obtain ⟨h1,h⟩:=h;obtain ⟨more,s',⟨h2,h3⟩,h4⟩:=zYm h;refine ⟨r,q,_,h3,⟨h0,?_⟩,h0,fun k=>by simp [D.prune],d1,sz',rows,hd,ht⟩;simp only [hd,ht];refine ⟨h1,zTu ?_ h4⟩;rintro m s ⟨rfl,rfl⟩;exact ⟨h2,trivial,trivial,rfl⟩
      · exact h.elim
      · exact h.elim
    · exact h.elim
  · exact h.elim
section
variable {P:Program} {G:World→(Nat→Prop)→Prop} {w0:Base} {I0:Nat→Prop}
theorem yKr (hcl:∀ w',w0.Below w'→GI G w' I0){ops:Array Oper}(hm:P.follows .mixedOrders=true){H:List DOp}{start:List Bool}{nh:Nat}{s:List D}(hB:drawB ops H start nh=true)(hf:H.all (fun o=>o.vo.op.framed)=true)(hcomp:∀ o∈H,∃ op n,ops[o.idx]?=some op∧cVO P n ops op=some o.vo)
    {tail:List VO} (htl:zR0 P ops (ops.toList.drop nh)=some tail) {VQ:VExit→List D→Prop} {Q:Exit→Act→World→Prop} (hk:(VCode.draw start (zRd H) H tail).wp (CT P G) VQ s) (hQ:∀ s a w,VQ .normal s→Rel w0 I0 s a w→Q .normal a w) {a:Act} {w:World} (h:Rel w0 I0 s a w):RegAny P ops Q a w:=by
  simp only [VCode.wp] at hk;obtain ⟨E,rfl,e2,e3⟩:=zKp H hf hk;refine zYa hcl hm (hw:=none) hB (fun _ _ _ h=>by cases h) (fun Pre e R hE=>?_) (fun e he=>hcomp e.1 (xB1.2 ⟨e,he,rfl⟩)) htl (KK:=VQ .normal) ?_ hQ h
  · have:=e2 Pre e R hE;rw [zGr] at this;exact this
  · rw [zGr] at e3;have:sig E none (fun _=>true) (clr start s)=clr (zRd (E.map (·.1))) (ovE (fun _=>true) E (clr start s)):=by unfold sig hwS;rw [zWg]
    rw [this];exact e3
theorem yFw (hcl:∀ w',w0.Below w'→GI G w' I0) {ops:Array Oper} (hm:P.follows .mixedOrders=true) {l1 l2:List DOp} {o:DOp} {start:List Bool} {nh:Nat} {s:List D} (hB:drawB ops (l1++o::l2) start nh=true) (hf1:l1.all (fun o=>o.vo.op.framed)=true) (hf2:l2.all (fun o=>o.vo.op.framed)=true) (hbef:l1.all (fun k=>((zGd ops).getD o.idx 0).testBit k.idx)=true)
    (hg:o.vo.guard=none) (hyc:∀ sz bytes x y,o.vo.op=.app sz bytes x y→∀ t,y=.tmp t→o.cl.getD t false=true) (hcomp:∀ k∈l1++o::l2,∃ op n,ops[k.idx]?=some op∧cVO P n ops op=some k.vo)
    {tail:List VO} (htl:zR0 P ops (ops.toList.drop nh)=some tail) {VQ:VExit→List D→Prop} {Q:Exit→Act→World→Prop} (hk:(VCode.drawW start (zRd (l1++o::l2)) l1 o l2 tail).wp (CT P G) VQ s) (hQ:∀ s a w,VQ .normal s→Rel w0 I0 s a w→Q .normal a w) {a:Act} {w:World} (h:Rel w0 I0 s a w):RegAny P ops Q a w:=by
  simp only [VCode.wp] at hk;obtain ⟨E1,rfl,f1,hk⟩:=zKp l1 hf1 hk;rw [zGr] at hk;unfold xAb at hk;split at hk
  · rename_i sz bytes x y hop;obtain ⟨r,q,d,hk,hpl,hst,hown,d1,sz',rows,hV,htr⟩:=zY5 hk;obtain ⟨E2,rfl,f2,hk⟩:=zKp l2 hf2 hk;have hmap:(E1++(o,d)::E2).map (·.1)=E1.map (·.1)++o::E2.map (·.1):=by simp
    rw [← hmap] at hB hcomp;have hok:∀ P e R,E1++(o,d)::E2=P++e::R→OkE ops (E1++(o,d)::E2) start nh P e.1:=fun P e R hE=>by have hB':=hB;simp only [drawB,xA2] at hB';have:=zRk (E1++(o,d)::E2) [] [] (fun _ h=>by simp at h) (fun _ h=>by cases h) hB'.1.1.1.1 P e R hE;simpa using this
    have hidx:=zQu (L:=E1++(o,d)::E2) (fun P e R hE=>(hok P e R hE).new);rw [List.pairwise_append] at hidx;obtain ⟨_,hi2,hi12⟩:=hidx;rw [xEx] at hi2;have hdst:∀ e∈E1++(o,d)::E2,e.1.vo.dst≠some r:=fun e he hd=>by obtain ⟨A,B,hAB⟩:=xCe he;have:=(hok A e B hAB).dst r hd;rw [hst] at this;cases this
    have hhid:o.hid.getD r false=false:=by
      cases hh:o.hid.getD r false with
      | false=>rfl
      | true=>rw [(hok E1 (o,d) E2 rfl).hid r hh] at hst;cases hst
    -- the place, as it stands at the start
    have hs1:(ovE (fun _=>true) E1 (clr start s))[r]?=(clr start s)[r]?:=zP7 E1 _ (fun e he hd=>absurd hd (hdst e (by simp [he])));have hplace:∃ d0 sz rows,(clr start s)[r]?=some d0∧zAf d0 q=some (.sl true sz rows):=by
      rw [zBf,hs1] at hV;cases hx:(clr start s)[r]? with
      | none=>simp [hx] at hV
      | some d0 =>
        simp only [hx,xAx,hhid,xBa,if_false,xAv] at hV;subst hV;obtain ⟨t,q',m1,m2⟩:=zCe q d0 _ htr;have:t=.sl true sz' rows:=by
          cases t with
          | sl own z r=>simpa [D.prune,eq_comm] using m2
          | ref r p=>simp only [D.prune] at m2;split at m2<;>cases m2
          | ptr r p i j=>simp only [D.prune] at m2;split at m2<;>cases m2
          | sub r p i n=>simp only [D.prune] at m2;split at m2<;>cases m2
          | _=>simp [D.prune] at m2
        subst this;exact ⟨d0,sz',rows,rfl,m1⟩
    have hrun:∀ P2:List (DOp×D),(∀ e∈P2,e∈E2)→yN7 (some (r,q)) P2 (zTv (zDv r q (ovE (fun _=>true) E1 (clr start s))) o.vo.dst d)=zDv r q (ovE (fun _=>true) (E1++(o,d)::P2) (clr start s)):=(by intro P2 hP2;obtain ⟨d0,_,_,k1,_⟩:=hplace;have h1:=hs1.trans k1;have h2:=zX3 (q:=q) (dst:=o.vo.dst) (d:=d) h1 (hdst (o,d) qAh);rw [hown] at h2;rw [h2,zXk P2 (d0:=d0) (by rw [zGo (hdst (o,d) qAh)];exact h1) (fun e he=>hdst e (by simp [hP2 e he])),zY7];rfl);refine zYa hcl hm (hw:=some (o.idx,r,q)) hB ?_ (fun Pre e R hE=>?_) (fun e he=>hcomp e.1 (xB1.2 ⟨e,he,rfl⟩)) htl (KK:=VQ .normal) ?_ hQ h
    · rintro iw r' q' hw;simp only [xAv,xBd] at hw;obtain ⟨rfl,rfl,rfl⟩:=hw;refine ⟨hst,hplace,⟨(o,d),by simp,rfl⟩,fun Pre e R hE hei p hp=>?_⟩;rw [xBx] at hbef;rcases yFj hE with ⟨R1,h1⟩ | ⟨h1,_⟩ | ⟨P2,h1,h2⟩
      · exact absurd hei (hi12 e (by rw [h1];simp) (o,d) qAh)
      · rw [h1] at hp;exact hbef p.1 (xB1.2 ⟨p,hp,rfl⟩)
      · exact absurd hei.symm (hi2.1 e (by rw [h2];simp))
    · unfold EF;simp only;rcases yFj hE with ⟨R1,h1⟩ | ⟨h1,h2,_⟩ | ⟨P2,h1,h2⟩
      · have hne:e.1.idx≠o.idx:=hi12 e (by rw [h1];simp) (o,d) qAh;rw [if_neg hne];have hm:yRs Pre o.idx=false:=by
          cases hm:yRs Pre o.idx with
          | false=>rfl
          | true=>obtain ⟨p,hp,hpe⟩:=memP_iff.1 hm;exact absurd hpe (hi12 p (by rw [h1];simp [hp]) (o,d) qAh)
        have:=f1 Pre e R1 h1;rw [zGr] at this;unfold rs hwS;simp only [hm,xBa,if_false];exact this
      · subst h1;subst h2;rw [if_pos rfl];exact ⟨sz,bytes,x,y,hop,hg,hyc sz bytes x y hop,hpl⟩
      · have hne:e.1.idx≠o.idx:=Ne.symm (hi2.1 e (by rw [h2];simp));rw [if_neg hne];have hm:yRs Pre o.idx=true:=memP_iff.2 ⟨(o,d),by rw [h1];simp,rfl⟩;have:=f2 P2 e R h2;rw [hrun P2 (fun e he=>by rw [h2];simp [he])] at this;unfold rs hwS;simp only [hm,if_true];rw [h1];exact this
    · rw [hrun E2 (fun _ h=>h)] at hk;have:sig (E1++(o,d)::E2) (some (o.idx,r,q)) (fun _=>true) (clr start s)=clr (zRd (E1.map (·.1)++o::E2.map (·.1))) (zDv r q (ovE (fun _=>true) (E1++(o,d)::E2) (clr start s))):=by unfold sig hwS;rw [zWg,hmap];simp
      rw [this];exact hk
  · exact hk.elim
end
end Go.V
namespace Go.V
open Go.RowKit
/-! ### Regions that draw and fill boxes of their own: a block that waits to be filled is owned by no slot, but by a number beyond all slots -/
structure Fl where
  t:Nat
  n:Nat
  js:Nat
  ia:Option Nat
def xAp (N0:Nat)(tm:Array Value)(w:World)(Fs:Nat→List Nat)(f:Fl):Prop :=
  ∃ b cs e,tm[f.t]?=some (.pointer (some ⟨b,0,none⟩))∧w.heap[b]?=some (.cells cs e (0,0))∧cs.size=f.n∧Fs (N0+f.t)=[b]
def yJi (N0:Nat)(fl:List Fl)(S:Nat→Bool)(tm:Array Value)(w:World)(Fs:Nat→List Nat):Prop :=
  ∀ f∈fl,(∀ i,f.ia=some i→S i=true)→S f.js=false→xAp N0 tm w Fs f
section
variable {w0:Base} {I0:Nat→Prop}
theorem RelI.ghost {s:List D}{tm:Array Value}{w:World}{I:Nat→Prop}{Fs:Nat→List Nat}(h:RelI w0 I0 s tm w I Fs){g:Nat}(hg:s.length≤g){F:List Nat}(hn:F.Nodup)(hF:∀ b,b∈F→w0.N b∧b<w.heap.size∧¬ I b∧∀ r,r≠g→b∉Fs r):RelI w0 I0 s tm w I (upd Fs g F) where
  below:=h.below
  len:=h.len
  slot:=by
    intro r d u h1 h2;have hr:r≠g:=by have:=(xA4.1 h1).1;omega
    simp only [upd,hr,if_false];exact h.slot r d u h1 h2
  nd:=by intro r;unfold upd;split;exact hn;exact h.nd r
  disj:=by
    intro r r' b hb hb';unfold upd at hb hb';split at hb<;>split at hb'
    · omega
    · exact absurd hb' ((hF b hb).2.2.2 r' (by assumption))
    · exact absurd hb ((hF b hb').2.2.2 r (by assumption))
    · exact h.disj r r' b hb hb'
  own:=by
    intro r b hb;unfold upd at hb;split at hb
    · exact ⟨(hF b hb).1,(hF b hb).2.1,(hF b hb).2.2.1⟩
    · exact h.own r b hb
  imm:=h.imm
  imm0:=h.imm0
  immN:=h.immN
theorem yQy {s sv:List D} {tm:Array Value} {w:World} {I:Nat→Prop} {Fs Fv:Nat→List Nat} (h:RelI w0 I0 s tm w I Fs) (hv:RelI w0 I0 sv tm w I Fv) (hsub:∀ r b,b∈Fv r→b∈Fs r) {cl:List Bool} {d:D} {s1:List D} {I':Nat→Prop} {Fs':Nat→List Nat} {F:List Nat} {v:Value} {w':World}
    (hun:∀ x u,ρS (clr cl sv) tm w' x u→ρS (clr cl s) tm w' x u) (hs:clr cl s1=clr cl sv) (h':RelI w0 I0 s1 tm w' I' Fs') (hT:T I' w' d (ρS s1 tm w') v F) (hF:Fresh w0 w' I' Fs' F)
    (f1:∀ b,I b→I' b) (f2:∀ b,I' b→I b∨w.heap.size≤b) (f3:∀ b,b∈F→w.heap.size≤b∨(∃ r,b∈Fv r)∨∀ r,b∉Fs r) (f4:∀ b,b<w.heap.size→b∉F→w'.heap[b]?=w.heap[b]?) (f5:∀ r,s1[r]?=some .undef∨Fs' r=Fv r) :
    RelI w0 I0 (clr cl s) tm w' I' (fun r=>if cl.getD r false then [] else Fs r)∧T I' w' (d.prune (zBn cl)) (ρS (clr cl s) tm w') v F∧Fresh w0 w' I' (fun r=>if cl.getD r false then [] else Fs r) F:=by
  have hc := h.clr cl;have hdis:∀ b,b∈F→∀ r,b∉(if cl.getD r false then [] else Fs r):=by
    intro b hb r hr;cases hcl:cl.getD r false with
    | true=>rw [hcl,if_pos rfl] at hr;cases hr
    | false =>
      simp only [hcl,xBa,if_false] at hr;rcases f3 b hb with hn | ⟨r',hr'⟩ | hno
      · have:=(h.own r b hr).2.1;omega
      · obtain rfl:=h.disj r r' b hr (hsub r' b hr');rcases f5 r with hu | he
        · have h1:(clr cl s1)[r]?=some .undef:=(by rw [zBf,hu];simp [D.prune]);rw [hs,zBf] at h1;cases hsr:sv[r]? with
          | none=>simp [hsr] at h1
          | some d0=>simp only [hsr,xAx,hcl,xBa,if_false,xAv] at h1;obtain ⟨u,hu,hT0⟩:=hv.slot0 hsr;rw [T.nofoot d0 hT0 (zSq h1)] at hr';cases hr'
        · exact (hF.2 b hb).2.2.2 r (by rw [he];exact hr')
      · exact hno r hr
  have hsize:w.heap.size≤w'.heap.size:=by
    apply Nat.le_of_not_lt;intro hlt;by_cases hb:w'.heap.size∈F
    · exact absurd (hF.2 _ hb).2.1 qAc
    · have:=f4 _ hlt hb;rw [xCr (xBj _)] at this;rw [xBu hlt] at this;cases this
  have hbel:w0.Keeps w w':=⟨h'.below.os.trans h.below.os.symm,h'.below.tape.trans h.below.tape.symm,h'.below.output.trans h.below.output.symm,hsize,fun k hk=>(h'.below.block k hk).trans (h.below.block k hk).symm⟩
  have hk:∀ x,(I x∨∃ r,x∈(if cl.getD r false then [] else Fs r))→w'.heap[x]?=w.heap[x]?:=by
    intro x hx;rcases hx with hx | ⟨r,hr⟩
    · exact f4 x (h.imm x hx) (fun hxF=>(hF.2 x hxF).2.2.1 (f1 x hx))
    · refine f4 x ?_ (fun hxF=>hdis x hxF r hr);split at hr
      · cases hr
      · exact (h.own r x hr).2.1
  have h2:=(hc.same hbel hk).immMore (I':=I') f1 (fun b hb=>(f2 b hb).imp_right (fun hn=>⟨Base.N_of h.below hn,h'.imm b hb,fun r hr=>by
    split at hr
    · cases hr
    · have:=(h.own r b hr).2.1;omega⟩))
  refine ⟨h2,T.turn (fun x u hq hx=>?_) d hT,⟨hF.1,fun b hb=>⟨(hF.2 b hb).1,(hF.2 b hb).2.1,(hF.2 b hb).2.2.1,fun r hr=>hdis b hb r hr⟩⟩⟩;have h3:=ρS.clr hq hx;rw [hs] at h3;exact hun x u h3
theorem storeAll {P:Program}{b:Nat}{e:TypeId}(hN:w0.N b):∀ (us:List Value) (k:Nat) (w:World) (cs:Array Value),w.heap[b]?=some (.cells cs e (0,0))→k+us.length=cs.size→us.all (·.oneCell')=true →
    ∃ w',(storeCells ⟨b,0,none⟩ us k).run P w=.ok () w'∧w'.heap[b]?=some (.cells (cs.toList.take k++us).toArray e (0,0))∧(∀ x,x≠b→w'.heap[x]?=w.heap[x]?)∧w0.Keeps w w'∧w'.heap.size=w.heap.size
  | [],k,w,cs,hh,hk,_=>by refine ⟨w,rfl,?_,fun _ _=>rfl,Base.Keeps.refl,rfl⟩;rw [xDg (by simp at hk ⊢;omega)];simpa using hh
  | u::us,k,w,cs,hh,hk,ho=>by
    simp only [xBm,xA2] at ho;have hlt:k<cs.size:=by simp at hk;omega
    have hcell:w.cell? ⟨b,0+k,none⟩=some cs[k]:=(by rw [zBh hh,xB2];simp [hlt]);have h2:=zG8 w b (0+k) u cs e (0,0) hh;obtain ⟨w',r1,r2,r3,r4,r5⟩:=storeAll hN us (k+1) _ _ h2 (by simp at hk ⊢;omega) ho.2;refine ⟨w',?_,?_,fun x hx=>?_,(Base.Keeps.setCell hN _ _).trans r4,by rw [r5];simp [World.setCell]⟩
    · rw [zP2 ho.1 (by rw [hcell];rfl) (by simp [World.frozen?,hh])];exact r1
    · rw [r2];congr 2;rw [xB2,xE9,xCd qAw];simp [List.take_set_of_le]
    · rw [r3 x hx];simp only [World.setCell,xDv];rw [if_neg (fun h=>hx h.symm)]
end
end Go.V
namespace Go.V
open Go.RowKit
section
variable {P:Program} {G:World→(Nat→Prop)→Prop} {w0:Base} {I0:Nat→Prop} {ops:Array Oper} {E:List (DOp×D)} {start:List Bool} {nh:Nat} {s0:List D} {S S':Nat→Bool} {e:DOp×D} {Pre R:List (DOp×D)}
theorem zSp {s:List D}{tm:Array Value}{w:World}{I:Nat→Prop}{Fs:Nat→List Nat}(h:RelI w0 I0 s tm w I Fs){t:Nat}(hu:s[t]?=some .undef∨s[t]?=none){d:D}{v:Value}{F:List Nat}(hT:T I w d (ρS s tm w) v F)(hF:Fresh w0 w I Fs F) :
    ∃ Fs',RelI w0 I0 (s.set t d) (tm.setIfInBounds t v) w I Fs'∧(∀ g,s.length≤g→Fs' g=Fs g)∧∀ r b,b∈Fs' r→b∈Fs r∨b∈F:=by
  rcases hu with hu | hu
  · refine ⟨upd Fs t F,h.put hu rfl hT hF.1 (fun b hb=>⟨(hF.2 b hb).1,(hF.2 b hb).2.1,(hF.2 b hb).2.2.1,fun r _=>(hF.2 b hb).2.2.2 r⟩),fun g hg=>?_,fun r b hb=>?_⟩
    · have:=(xA4.1 hu).1;unfold upd;rw [if_neg qAc]
    · unfold upd at hb;split at hb
      · exact .inr hb
      · exact .inl hb
  · have hl:s.length≤t:=xEa.1 hu;rw [xGg hl];have:tm.setIfInBounds t v=tm:=by
      apply xCw;intro i;rw [xEj];split
      · rename_i hi;subst hi;rw [if_neg qCk,xCr qCk]
      · rfl
    rw [this];exact ⟨Fs,h,fun _ _=>rfl,fun _ _ h=>.inl h⟩
def yN1 (w0:Base)(I0:Nat→Prop)(N0:Nat)(fl:List Fl)(S:Nat→Bool)(s:List D)(a:Act)(w:World):Prop:=a.defers=[]∧∃ I Fs,RelI w0 I0 s a.tmps w I Fs∧yJi N0 fl S a.tmps w Fs
theorem yXq {X:List D}{m:List Bool}{t:Nat}(hX:X[t]?=some .undef∨X[t]?=none):(clr m X)[t]?=some .undef∨(clr m X)[t]?=none:=by
  rw [zBf];rcases hX with hX | hX<;>rw [hX]
  · refine .inl ?_;simp only [xAx,D.prune];split<;>rfl
  · exact .inr rfl
theorem yDw {N0:Nat} {fl:List Fl} (hcl:∀ w',w0.Below w'→GI G w' I0) (h:Setup ops E start nh none s0) (hE:E=Pre++e::R) (fact:EF (CT P G) none start s0 Pre e) {o:Oper} {n:Bool} (hop:ops[e.1.idx]?=some o) (hcomp:cVO P n ops o=some e.1.vo)
    (hN0:s0.length≤N0) (hcN:∀ e∈E,e.1.cl.length≤N0) (hfd:∀ f∈fl,o.dst≠some f.t) (hfj:∀ f∈fl,f.js≠e.1.idx) (hfa:∀ f∈fl,f.ia≠some e.1.idx)
    (hS:S e.1.idx=false) (hc:Closed ops S) (hb:∀ x,((zGd ops).getD e.1.idx 0).testBit x=true→S x=true) (hS':S' e.1.idx=true) (hne:∀ j,j≠e.1.idx→S' j=S j) {a:Act} {w:World}
    (hRH:yN1 w0 I0 N0 fl S (sig E none S s0) a w) {Q:Exit→Act→World→Prop} {K:Act→World→Prop} (hK:∀ a w,yN1 w0 I0 N0 fl S' (sig E none S' s0) a w→K a w):wpOp P ops Q e.1.idx K a w:=by
  obtain ⟨hd,I,Fs,hR,hJ⟩:=hRH;have he:e∈E:=qCn;have hGw:GI G w I0:=hcl _ hR.below;simp only [cVO] at hcomp;cases hg:zFr ops o.guard with
  | none=>simp [hg] at hcomp
  | some g =>
  cases hopc:cOp P n o.op with
  | none=>simp [hg,hopc] at hcomp
  | some vop =>
  simp only [hg,hopc,xAv] at hcomp;have hdst:e.1.vo.dst=o.dst:=by rw [← hcomp]
  have hvop:e.1.vo.op=vop:=(by rw [← hcomp]);have hguard:e.1.vo.guard=g:=(by rw [← hcomp]);unfold wpOp;rw [hop];simp only;have hslen:(sig E none S s0).length=s0.length:=zVq;have hclg:∀ t,e.1.cl.getD (N0+t) false=false:=fun t=>by have:=hcN e he;rw [xA3,xCy qAc];rfl
  have held:∀ {w':World} {Fs':Nat→List Nat},(∀ f∈fl,Fs' (N0+f.t)=Fs (N0+f.t))→(∀ f∈fl,∀ b,b∈Fs (N0+f.t)→w'.heap[b]?=w.heap[b]?)→∀ v,yJi N0 fl S' (a.put o.dst v).tmps w' Fs':=by
    intro w' Fs' h1 h2 v f hf hi hj;have hjS:S f.js=false:=by rw [← hne _ (hfj f hf)];exact hj
    obtain ⟨b,cs,ee,k1,k2,k3,k4⟩:=hJ f hf (fun i hi'=>by
      have:=hi i hi';rwa [hne i (fun e'=>hfa f hf (e' ▸ hi'))] at this) hjS
    refine ⟨b,cs,ee,?_,by rw [h2 f hf b (by rw [k4];simp)];exact k2,k3,by rw [h1 f hf];exact k4⟩;have hne':=hfd f hf;cases hdd:o.dst with
    | none=>exact k1
    | some t=>rw [hdd] at hne';show (a.tmps.setIfInBounds t v)[f.t]?=_;rw [xBe (fun h=>hne' (by rw [h]))];exact k1
  -- what is left to do once there is a result
  have put:∀ {A2:List D} {d':D} {v:Value} {w':World} {I':Nat→Prop} {Fs':Nat→List Nat} {F:List Nat},A2.length=s0.length→RelI w0 I0 A2 a.tmps w' I' Fs'→T I' w' d' (ρS A2 a.tmps w') v F→Fresh w0 w' I' Fs' F→(∀ t,e.1.vo.dst=some t→A2[t]?=some .undef∨A2[t]?=none)→zTv A2 e.1.vo.dst d'=sig E none S' s0 →
      (∀ f∈fl,Fs' (N0+f.t)=Fs (N0+f.t))→(∀ f∈fl,∀ b,b∈Fs (N0+f.t)→w'.heap[b]?=w.heap[b]?)→K (a.put o.dst v) w':=by
    intro A2 d' v w' I' Fs' F hl h1 h2 h3 h4 h5 h6 h7;refine hK _ _ ?_;rw [← h5,hdst];rw [hdst] at h4;cases hdd:o.dst with
    | none=>have:=held (w':=w') h6 h7 v;rw [hdd] at this;exact ⟨hd,I',Fs',h1,this⟩
    | some t=>rw [hdd] at h4;obtain ⟨Fs2,k1,k2,_⟩:=zSp h1 (h4 t rfl) h2 h3;have:=held (w':=w') (Fs':=Fs2) (fun f hf=>by rw [k2 _ qAc];exact h6 f hf) h7 v;rw [hdd] at this;exact ⟨hd,I',Fs2,k1,this⟩
  have hW:∀ iw r q,(none:Option (Nat×Nat×zBr))=some (iw,r,q)→e.1.idx≠iw:=fun _ _ _ h=>by cases h
  unfold EF at fact;obtain ⟨hfr,hDF⟩:=fact;obtain ⟨Fv,hv,hsub,hun⟩:=h.view hE hS hc hb hW hR;have heq:=h.put_eq he hS hc hb hS' hne hW;have hU:∀ t,e.1.vo.dst=some t→(clr e.1.cl (sig E none S s0))[t]?=some .undef∨(clr e.1.cl (sig E none S s0))[t]?=none:=fun t ht=>yXq (h.dstUndef he ht hS);have hAl:(clr e.1.cl (sig E none S s0)).length=s0.length:=by rw [zTh];exact hslen
  have run:NF (CT P G) (clr e.1.hid (rs none Pre s0)) e.1.cl e.1.vo.op e.2→o.wp P a w K Q:=by
    rintro ⟨s',hs',hk⟩;rw [hvop] at hk hfr;refine zE2 (zQq (nn:=true) hGw hv (fun _=>hfr) hopc hk) ?_;rintro v w' ⟨d',s1,I',Fs',F,⟨rfl,rfl⟩,hR',hT,hF,hfrm⟩;have hfrm2:=hfrm rfl;obtain ⟨h1,h2,h3⟩:=yGp hR hv hsub (hun a.tmps w') hs' hR' hT hF (hfrm rfl);have h4:=T.turn (q:=fun x=>qW none S x&&zBn (clE S' E) x) (fun x u _ hx=>hx) _ h2;have hd2:(e.2.prune (zBn e.1.cl)).prune (fun x=>qW none S x&&zBn (clE S' E) x)=(prW none S e.2).prune (zBn (clE S' E)):=by rw [D.prune_prune,zXq,D.prune_prune];refine zDc (fun x=>?_) _;rw [zRv (fun r=>h.cl_or he hS' hne hS r) x];cases zBn e.1.cl x<;>cases qW none S x<;>simp
    rw [hd2] at h4;refine put hAl h1 h4 h3 hU heq (fun f _=>by simp only [hclg f.t,xBa,if_false]) (fun f _ b hb=>?_);refine hfrm2.2.2.2.1 b (hR.own _ b hb).2.1 (fun hbF=>(h3.2 b hbF).2.2.2 (N0+f.t) ?_);simp only [hclg f.t,xBa,if_false];exact hb
  have skip:e.2=noD→K (a.put o.dst undef) w:=(by intro hno;refine put (d':=(prW none S e.2).prune (zBn (clE S' E))) hAl (hR.clr e.1.cl) ?_ Fresh.nil hU heq (fun f _=>by simp only [hclg f.t,xBa,if_false]) (fun _ _ _ _=>rfl);rw [hno,zXq];simp only [noD,D.prune,T];exact ⟨rfl,trivial⟩);unfold DF at hDF;rw [hguard] at hDF;cases hgo:o.guard with
  | none=>rw [hgo] at hg;simp only [zFr,xAv] at hg;subst hg;rw [if_pos qBx];exact .inl (run hDF)
  | some jw =>
    obtain ⟨j,want⟩:=jw;rw [hgo] at hg;simp only [zFr] at hg;cases hj:(ops[j]?).bind (·.dst) with
    | none=>simp [hj] at hg
    | some t =>
      simp only [hj,xAv] at hg;subst hg;simp only at hDF;have hTt:=zXy hv t;have hyv:∀ x:Value,lkT (clr e.1.hid (rs none Pre s0)) t=.v x→a.tmps[t]?=some x∨(a.tmps[t]?=none∧x=undef):=by
        intro x e;rw [e] at hTt;have:=(T_v hTt).1;cases ht:a.tmps[t]? with
        | none=>simp [ht] at this;exact .inr ⟨rfl,this.symm⟩
        | some y=>simp [ht] at this;exact .inl (by rw [this])
      split at hDF
      · rename_i b e;have hy:yielded ops a.tmps j=some b:=by
          unfold yielded;rw [hj];rcases hyv _ e with h1 | ⟨_,h1⟩
          · simp [h1]
          · cases h1
        by_cases hbw:b=want
        · rw [if_pos qAs];exact .inl (run (hDF.1 hbw))
        · rw [if_neg qAs];exact skip (hDF.2 hbw)
      · rename_i x hne' e;have hy:yielded ops a.tmps j=none:=by
          unfold yielded;rw [hj];rcases hyv _ e with h1 | ⟨h1,_⟩
          · simp only [xDq,h1];split
            · rename_i b hb;cases hb;exact absurd rfl (hne' b)
            · rfl
          · simp [h1]
        rw [if_neg qBs];exact skip hDF
      · exact hDF.elim
theorem yDz {N0:Nat}{fl:List Fl}(hcl:∀ w',w0.Below w'→GI G w' I0)(h:Setup ops E start nh none s0)(hE:E=Pre++e::R){o:Oper}(hop:ops[e.1.idx]?=some o)(hog:o.guard=none){f:Fl}(hf:f∈fl)(hfi:f.ia=some e.1.idx){ty:TypeId}(hoo:o.op=.alloc ty)(hod:o.dst=some f.t){ti:TypeInfo}{z:Value}(hti:P.info? ty=some ti)(hz:ti.zero=some z)(hzn:z.cells.size=f.n)
    (hvd:e.1.vo.dst=none) (hft:start.getD f.t false=true) (hN0:s0.length≤N0) (hcN:∀ e∈E,e.1.cl.length≤N0) (hft2:f.t<s0.length) (hjs:S f.js=false) (hdj:∃ e2∈E,e2.1.idx=f.js∧e2.1.vo.dst=some f.t) (hdis:∀ f'∈fl,f'.t=f.t→f'=f) (hia:∀ f'∈fl,f'.ia=some e.1.idx→f'=f) (hjj:∀ f'∈fl,f'.js≠e.1.idx)
    (hS:S e.1.idx=false) (hc:Closed ops S) (hb:∀ x,((zGd ops).getD e.1.idx 0).testBit x=true→S x=true) (hS':S' e.1.idx=true) (hne:∀ j,j≠e.1.idx→S' j=S j) {a:Act} {w:World}
    (hRH:yN1 w0 I0 N0 fl S (sig E none S s0) a w) {Q:Exit→Act→World→Prop} {K:Act→World→Prop} (hK:∀ a w,yN1 w0 I0 N0 fl S' (sig E none S' s0) a w→K a w):wpOp P ops Q e.1.idx K a w:=by
  obtain ⟨hd,I,Fs,hR,hJ⟩:=hRH;have he:e∈E:=qCn;have hW:∀ iw r q,(none:Option (Nat×Nat×zBr))=some (iw,r,q)→e.1.idx≠iw:=fun _ _ _ h=>by cases h
  have heq:=h.put_eq he hS hc hb hS' hne hW;rw [hvd] at heq;have heq':clr e.1.cl (sig E none S s0)=sig E none S' s0:=heq;unfold wpOp;rw [hop];simp only;rw [if_pos (by simp [Region.wanted,hog])];refine .inl ?_;have hclg:∀ t,e.1.cl.getD (N0+t) false=false:=fun t=>by have:=hcN e he;rw [xA3,xCy qAc];rfl
  have hrun:(execOp a.eval o).run P w=.ok (.value (.pointer (some ⟨w.heap.size,0,none⟩))) { w with heap:=w.heap.push (.cells z.cells ty) }:=(by simp [execOp,hoo,Instr.alloc,zeroValue,typeInfo,hti,hz,newVar,newRow]);refine zE2 (RunsTo.value (R:=fun v w'=>v=.pointer (some ⟨w.heap.size,0,none⟩)∧w'={ w with heap:=w.heap.push (.cells z.cells ty) }) hrun ⟨rfl,rfl⟩) ?_;rintro v w' ⟨rfl,rfl⟩;refine hK _ _ ?_;have hbel:Go.RowKit.Below w.heap.size w { w with heap:=w.heap.push (.cells z.cells ty) }:=⟨rfl,rfl,rfl,by simp,fun k hk=>by
    rw [xF2,if_neg qAc]⟩
  have h1:=(hR.clr e.1.cl).world hbel;rw [heq'] at h1;have hlen:(sig E none S' s0).length=s0.length:=zVq;obtain ⟨e2,he2,hei,hed⟩:=hdj;have hjS':S' f.js=false:=(by rw [hne _ (hjj f hf)];exact hjs);have hu:=h.dstUndef he2 hed (S:=S') (by rw [hei];exact hjS');obtain ⟨Fs2,k1,k2,k3⟩:=zSp h1 hu (d:=.undef) (v:=.pointer (some ⟨w.heap.size,0,none⟩)) (F:=[]) qBi Fresh.nil;have hset:(sig E none S' s0).set f.t .undef=sig E none S' s0:=by
    apply xDc;intro i;rw [xGi];split
    · rename_i hi;subst hi;rcases hu with hu | hu
      · rw [if_pos (by rw [hlen];exact hft2),hu]
      · rw [hu,if_neg (by have:=xEa.1 hu;omega)]
    · rfl
  rw [hset] at k1;have hbnew:∀ r,w.heap.size∉Fs2 r:=by
    intro r hr;rcases k3 r _ hr with hr | hr
    · split at hr
      · cases hr
      · have:=(hR.own r _ hr).2.1;omega
    · cases hr
  have hghost:=k1.ghost (g:=N0+f.t) (F:=[w.heap.size]) (by rw [hlen];omega) qAh (fun b hb=>by
    simp only [xCa] at hb;subst hb;exact ⟨Base.N_of hR.below (xBj _),by simp,fun hI=>by have:=hR.imm _ hI;omega,fun r _=>hbnew r⟩)
  refine ⟨(by rw [hod];exact hd),I,_,(by rw [hod];exact hghost),?_⟩;rw [hod];intro f' hf' hi hj;by_cases hff:f'=f
  · subst hff;refine ⟨w.heap.size,z.cells,ty,?_,by simp,hzn,by simp [upd]⟩;show (a.tmps.setIfInBounds f'.t _)[f'.t]?=_;have:f'.t<a.tmps.size:=by rw [hR.len,zVq];exact hft2
    simp [this]
  · have hjS:S f'.js=false:=(by rw [← hne _ (hjj f' hf')];exact hj);obtain ⟨b,cs,ee,m1,m2,m3,m4⟩:=hJ f' hf' (fun i hi'=>by
      have:=hi i hi';rwa [hne i (fun e'=>hff (hia f' hf' (e' ▸ hi')))] at this) hjS
    have htne:f'.t≠f.t:=fun h=>hff (hdis f' hf' h);have hbl:=(hR.own (N0+f'.t) b (by rw [m4];simp)).2.1;refine ⟨b,cs,ee,?_,?_,m3,?_⟩
    · show (a.tmps.setIfInBounds f.t _)[f'.t]?=_;rw [xBe (Ne.symm htne)];exact m1
    · rw [xF2,if_neg qAc];exact m2
    · unfold upd;rw [if_neg qAc,k2 _ (by rw [hlen];omega)];simp only [hclg f'.t,xBa,if_false];exact m4
end
end Go.V
namespace Go.V
open Go.RowKit
theorem Cells.ones {I:Nat→Prop}{w:World}{ρ:D→Value→Prop}:∀ (ds:List D) {us:List Value} {F:List Nat},Cells I w ds ρ us F→us.all (·.oneCell')=true
  | [],us,F,h=>by simp only [Cells] at h;rw [h.1];rfl
  | d::ds,us,F,h=>by simp only [Cells] at h;obtain ⟨u,us',F1,F2,e,_,ho,_,h2⟩:=h;rw [e,xBm,ho,Cells.ones ds h2];rfl
section
variable {P:Program} {G:World→(Nat→Prop)→Prop} {w0:Base} {I0:Nat→Prop} {ops:Array Oper} {E:List (DOp×D)} {start:List Bool} {nh:Nat} {s0:List D} {S S':Nat→Bool} {e:DOp×D} {Pre R:List (DOp×D)}
theorem yDx {N0:Nat} {fl:List Fl} (h:Setup ops E start nh none s0) (hE:E=Pre++e::R) (fact:EF (CT P G) none start s0 Pre e) {o:Oper} (hop:ops[e.1.idx]?=some o) (hog:o.guard=none) {f:Fl} (hf:f∈fl) (hfj:f.js=e.1.idx) {ty:TypeId} {x:Operand} (hoo:o.op=.store ty (.tmp f.t) x) (hod:o.dst=none) (hti:(P.info? ty).map (·.size)=some f.n)
    (hvo:e.1.vo=⟨some f.t,none,.box x⟩) (hlen:∃ cells,e.2=.box none cells∧cells.length=f.n) (hN0:s0.length≤N0) (hcN:∀ e∈E,e.1.cl.length≤N0) (hia:∀ i,f.ia=some i→((zGd ops).getD e.1.idx 0).testBit i=true) (hdis:∀ f'∈fl,f'.t=f.t→f'=f) (haa:∀ f'∈fl,f'.ia≠some e.1.idx)
    (hS:S e.1.idx=false) (hc:Closed ops S) (hb:∀ x,((zGd ops).getD e.1.idx 0).testBit x=true→S x=true) (hS':S' e.1.idx=true) (hne:∀ j,j≠e.1.idx→S' j=S j) {a:Act} {w:World}
    (hRH:yN1 w0 I0 N0 fl S (sig E none S s0) a w) {Q:Exit→Act→World→Prop} {K:Act→World→Prop} (hK:∀ a w,yN1 w0 I0 N0 fl S' (sig E none S' s0) a w→K a w):wpOp P ops Q e.1.idx K a w:=by
  obtain ⟨hd,I,Fs,hR,hJ⟩:=hRH;have he:e∈E:=qCn;have hslen:(sig E none S s0).length=s0.length:=zVq;have hclg:∀ t,e.1.cl.getD (N0+t) false=false:=fun t=>by have:=hcN e he;rw [xA3,xCy qAc];rfl
  obtain ⟨b,cs,ee,k1,k2,k3,k4⟩:=hJ f hf (fun i hi=>hb i (hia i hi)) (by rw [hfj];exact hS);have hown:=hR.own (N0+f.t) b (by rw [k4];simp);have hRD:=hR.ghost (g:=N0+f.t) (F:=[]) (by rw [hslen];omega) xC2 (fun _ h=>by cases h);have hnob:∀ r,b∉upd Fs (N0+f.t) [] r:=by
    intro r hr;unfold upd at hr;split at hr
    · cases hr
    · rename_i hrg;exact hrg (hR.disj r (N0+f.t) b hr (by rw [k4];simp))
  have hW:∀ iw r q,(none:Option (Nat×Nat×zBr))=some (iw,r,q)→e.1.idx≠iw:=fun _ _ _ h=>by cases h
  obtain ⟨Fv,hv,hsub,hun⟩:=h.view hE hS hc hb hW hRD;have heq:=h.put_eq he hS hc hb hS' hne hW;have hvd:e.1.vo.dst=some f.t:=(by rw [hvo]);have hU:(clr e.1.cl (sig E none S s0))[f.t]?=some .undef∨(clr e.1.cl (sig E none S s0))[f.t]?=none:=yXq (h.dstUndef he hvd hS);have hAl:(clr e.1.cl (sig E none S s0)).length=s0.length:=(by rw [zTh];exact hslen);unfold EF at fact;obtain ⟨_,hDF⟩:=fact;rw [hvo] at hDF;unfold DF at hDF;simp only at hDF;obtain ⟨s',hs',hk⟩:=hDF;simp only [zAh] at hk;obtain ⟨hok,hd2,hs2⟩:=hk;obtain ⟨Fs1,F,h1,hT,hF,hsub1,hin,hst⟩:=yJl hv x;have hC:=zQh h1 hT hok;obtain ⟨cells,hc1,hc2⟩:=hlen;rw [hc1] at hd2;simp only [D.box.injEq,true_and] at hd2;have hul:(a.eval x).cells.toList.length=f.n:=(by have:=hC.len;rw [hd2] at this;omega);obtain ⟨w',r1,r2,r3,r4,r5⟩:=storeAll (P:=P) (e:=ee) hown.1 (a.eval x).cells.toList 0 w cs k2 (by rw [xB2,hul,k3]) (Cells.ones _ hC);rw [xCl,xBp] at r2;have hnF:b∉F:=fun hbF=>by obtain ⟨r,hr⟩:=hin b hbF;exact hnob r (hsub r b hr)
  have hn1:∀ r,b∉Fs1 r:=fun r hr=>hnob r (hsub r b (hsub1 r b hr));have hkp:∀ y,(I y∨∃ r,y∈Fs1 r)→w'.heap[y]?=w.heap[y]?:=fun y hy=>r3 y (by
    rintro rfl;rcases hy with hy | ⟨r,hr⟩
    · exact hown.2.2 hy
    · exact hn1 r hr)
  have h1':=h1.same r4 hkp;have hC':Cells I w' cells (ρS (tk (clr e.1.hid (rs none Pre s0)) x).2 a.tmps w') (a.eval x).cells.toList F:=by
    rw [← hd2];refine (Cells.keep _ hC (fun y hy=>r3 y ?_)).res (fun y v hx=>ρS_same h1 hkp hx);rintro rfl;rcases hy with hy | hy
    · exact hown.2.2 hy
    · exact hnF hy
  have hT':T I w' (.box none cells) (ρS (tk (clr e.1.hid (rs none Pre s0)) x).2 a.tmps w') (.pointer (some ⟨b,0,none⟩)) (b::F):=(by simp only [T];exact ⟨b,_,ee,F,rfl,(fun _ h=>by cases h),r2,rfl,by simpa using hC'⟩);have hF':Fresh w0 w' I Fs1 (b::F):=by
    refine ⟨xB8.2 ⟨hnF,hF.1⟩,fun y hy=>?_⟩;rcases xBs.1 hy with rfl | hy
    · exact ⟨hown.1,by rw [r5];exact hown.2.1,hown.2.2,hn1⟩
    · have:=hF.2 y hy;exact ⟨this.1,by rw [r5];exact this.2.1,this.2.2.1,this.2.2.2⟩
  rw [hs2] at h1' hT' hst;obtain ⟨g1,g2,g3⟩:=yQy hRD hv hsub (hun a.tmps w') hs' h1' hT' hF' (fun _ h=>h) (fun _ h=>.inl h) (fun y hy=>by
    rcases xBs.1 hy with rfl | hy
    · exact .inr (.inr hnob)
    · exact .inr (.inl (hin y hy))) (fun y _ hy=>r3 y (fun h=>hy (by rw [h];simp))) hst
  have g4:=T.turn (q:=fun x=>qW none S x&&zBn (clE S' E) x) (fun x u _ hx=>hx) _ g2;have hd3:((D.box none cells).prune (zBn e.1.cl)).prune (fun x=>qW none S x&&zBn (clE S' E) x)=(prW none S e.2).prune (zBn (clE S' E)):=(by rw [hc1,D.prune_prune,zXq,D.prune_prune];refine zDc (fun x=>?_) _;rw [zRv (fun r=>h.cl_or he hS' hne hS r) x];cases zBn e.1.cl x<;>cases qW none S x<;>simp);rw [hd3] at g4;rw [hvd] at heq;obtain ⟨Fs2,p1,p2,_⟩:=zSp g1 hU g4 g3;have htm:a.tmps.setIfInBounds f.t (.pointer (some ⟨b,0,none⟩))=a.tmps:=by
    apply xCw;intro i;rw [xEj];split
    · rename_i hi;subst hi;rw [k1,if_pos (xBg.1 k1).1]
    · rfl
  have heq':(clr e.1.cl (sig E none S s0)).set f.t ((prW none S e.2).prune (zBn (clE S' E)))=sig E none S' s0:=heq;rw [htm,heq'] at p1;unfold wpOp;rw [hop];simp only;rw [if_pos (by simp [Region.wanted,hog])];refine .inl ?_;have hev:a.eval (.tmp f.t)=.pointer (some ⟨b,0,none⟩):=(by show a.tmps.getD f.t undef=_;simp [k1]);have hrun:(execOp a.eval o).run P w=.ok .skip w':=by
    cases hq:P.info? ty with
    | none=>simp [hq] at hti
    | some ii =>
      simp [hq] at hti;have hsz:(a.eval x).cells.size=f.n:=by simpa using hul
      simp [execOp,hoo,hev,Instr.storeAt,Instr.sureAddr,storeVar,sizeOf,typeInfo,hq,hti,hsz,r1]
  refine zE2 (R:=fun v w2=>w2=w') (by unfold RunsTo;rw [hrun]) ?_;rintro v w2 rfl;rw [hod];refine hK _ _ ⟨hd,I,Fs2,p1,?_⟩;intro f' hf' hi hj;by_cases hff:f'=f
  · subst hff;rw [hfj,hS'] at hj;cases hj
  · have htne:f'.t≠f.t:=fun h=>hff (hdis f' hf' h);by_cases hjs:f'.js=e.1.idx
    · rw [hjs,hS'] at hj;cases hj
    · obtain ⟨b',cs',ee',m1,m2,m3,m4⟩:=hJ f' hf' (fun i hi'=>by
        have:=hi i hi';rwa [hne i (fun e'=>haa f' hf' (e' ▸ hi'))] at this) (by rw [← hne _ hjs];exact hj)
      refine ⟨b',cs',ee',m1,?_,m3,?_⟩
      · rw [r3 b' (fun h=>?_)]
        · exact m2
        · have:=hR.disj (N0+f'.t) (N0+f.t) b (by rw [m4,h];simp) (by rw [k4];simp);omega
      · rw [p2 _ (by rw [hAl];omega)];simp only [hclg f'.t,xBa,if_false];unfold upd;rw [if_neg qAc];exact m4
end
end Go.V
namespace Go.V
open Go.RowKit
def pwF:List Fl→Bool
  | []=>true
  | f::l=>l.all (fun g=>f.t != g.t&&f.js != g.js&&(f.ia.isNone||f.ia != g.ia))&&pwF l
theorem yA1 {p:Fl→Fl→Prop}(hp:∀ f g,(f.t != g.t&&f.js != g.js&&(f.ia.isNone||f.ia != g.ia))=true→¬ p f g∧¬ p g f):∀ {l:List Fl},pwF l=true→∀ f∈l,∀ g∈l,p f g→f=g
  | [],_,f,hf,_,_,_=>by cases hf
  | x::l,h,f,hf,g,hg,hpq=>by
    simp only [pwF,xA2] at h;obtain ⟨h1,h2⟩:=h;rw [xBx] at h1;rcases xBs.1 hf with e1 | hf' <;> rcases xBs.1 hg with e2 | hg'
    · rw [e1,e2]
    · subst e1;exact absurd hpq (hp _ _ (h1 g hg')).1
    · subst e2;exact absurd hpq (hp _ _ (h1 f hf')).2
    · exact yA1 hp h2 f hf' g hg' hpq
theorem yVq {l:List Fl}(h:pwF l=true){f g:Fl}(hf:f∈l)(hg:g∈l)(e:f.t=g.t):f=g :=
  yA1 (p:=fun f g=>f.t=g.t) (fun f g h=>by simp only [xA2,bne_iff_ne] at h;exact ⟨h.1.1,fun e=>h.1.1 e.symm⟩) h f hf g hg e
theorem yOc {l:List Fl}(h:pwF l=true){f g:Fl}(hf:f∈l)(hg:g∈l)(e:f.js=g.js):f=g :=
  yA1 (p:=fun f g=>f.js=g.js) (fun f g h=>by simp only [xA2,bne_iff_ne] at h;exact ⟨h.1.2,fun e=>h.1.2 e.symm⟩) h f hf g hg e
theorem yVr {l:List Fl}(h:pwF l=true){f g:Fl}(hf:f∈l)(hg:g∈l){i:Nat}(e:f.ia=some i)(e':g.ia=some i):f=g :=
  yA1 (p:=fun f g=>∃ i,f.ia=some i∧g.ia=some i) (fun f g h=>by
    simp only [xA2,xDk,bne_iff_ne] at h;have:=h.2;refine ⟨?_,?_⟩
    · rintro ⟨i,e1,e2⟩;rcases this with h | h
      · rw [e1] at h;cases h
      · exact h (e1.trans e2.symm)
    · rintro ⟨i,e1,e2⟩;rcases this with h | h
      · rw [e2] at h;cases h
      · exact h (e2.trans e1.symm)) h f hf g hg ⟨i,e,e'⟩
section
variable (P:Program)
def cVB (ops:Array Oper) (fl:List Fl) (i:Nat):Option VO:=match ops[i]? with
  | none=>none
  | some o => match fl.find? (fun f=>f.js==i) with
    | some f=>if (o.guard.isNone&&o.dst.isNone)=true then match o.op with
        | .store ty (.tmp t) x=>if (t==f.t&&(P.info? ty).map (·.size)==some f.n)=true then some ⟨some f.t,none,.box x⟩ else none
        | _=>none
      else none
    | none => match fl.find? (fun f=>f.ia==some i) with
      | some f=>if (o.guard.isNone&&o.dst==some f.t)=true then match o.op with
          | .alloc ty=>match P.info? ty with
            | some ti=>match ti.zero with
              | some z=>if (z.cells.size==f.n)=true then some ⟨none,none,.mv (.const (.tuple #[]))⟩ else none
              | none=>none
            | none=>none
          | _=>none
        else none
      | none=>if fl.any (fun f=>o.dst==some f.t)=true then none else cVO P true ops o
def ySu (bs:List Nat)(nh:Nat)(fl:List Fl):Bool:=pwF fl&&fl.all (fun f=>decide (f.js<nh)&&(match f.ia with | some i=>(bs.getD f.js 0).testBit i | none=>true)&&fl.all (fun g=>g.ia != some f.js))
end
theorem zU4 {s:List D}:∀ {l:List (Nat×Nat)},yCg s l→∀ p∈l,yYn s p.1 p.2
  | [],_,p,hp=>by cases hp
  | x::l,h,p,hp=>by
    rcases xBs.1 hp with rfl | hp
    · exact h.1
    · exact zU4 h.2 p hp
theorem zU3 {s:List D}:∀ {l:List (Nat×Nat)},yCf s l→∀ p∈l,yTy s p.1 p.2
  | [],_,p,hp=>by cases hp
  | x::l,h,p,hp=>by
    rcases xBs.1 hp with rfl | hp
    · exact h.1
    · exact zU3 h.2 p hp
def yVt (fl:List Fl):List (Nat×Nat):=(fl.filter fun f=>f.ia.isNone).map fun f=>(f.t,f.n)
def yWz (fl:List Fl):List (Nat×Nat):=fl.map fun f=>(f.t,f.n)
section
variable {P:Program} {G:World→(Nat→Prop)→Prop} {w0:Base} {I0:Nat→Prop} {ops:Array Oper} {E:List (DOp×D)} {start:List Bool} {nh:Nat} {s0:List D} {S S':Nat→Bool} {e:DOp×D} {Pre R:List (DOp×D)}
theorem yDy {N0:Nat} {fl:List Fl} (hcl:∀ w',w0.Below w'→GI G w' I0) (h:Setup ops E start nh none s0) (hE:E=Pre++e::R) (fact:EF (CT P G) none start s0 Pre e) (hcb:∀ e∈E,cVB P ops fl e.1.idx=some e.1.vo) (hall:∀ i,i<nh→∃ e∈E,e.1.idx=i) (hfl:ySu (zGd ops) nh fl=true) (hbz:∀ f∈fl,yTy (ovE (fun _=>true) E s0) f.t f.n)
    (hN0:s0.length≤N0) (hcN:∀ e∈E,e.1.cl.length≤N0)
    (hS:S e.1.idx=false) (hc:Closed ops S) (hb:∀ x,((zGd ops).getD e.1.idx 0).testBit x=true→S x=true) (hS':S' e.1.idx=true) (hne:∀ j,j≠e.1.idx→S' j=S j) {a:Act} {w:World}
    (hRH:yN1 w0 I0 N0 fl S (sig E none S s0) a w) {Q:Exit→Act→World→Prop} {K:Act→World→Prop} (hK:∀ a w,yN1 w0 I0 N0 fl S' (sig E none S' s0) a w→K a w):wpOp P ops Q e.1.idx K a w:=by
  have he:e∈E:=qCn;simp only [ySu,xA2] at hfl;obtain ⟨hpw,hfa⟩:=hfl;rw [xBx] at hfa;have hfa':∀ f∈fl,f.js<nh∧(∀ i,f.ia=some i→((zGd ops).getD f.js 0).testBit i=true)∧∀ g∈fl,g.ia≠some f.js:=by
    intro f hf;have:=hfa f hf;simp only [xA2,decide_eq_true_eq] at this;refine ⟨this.1.1,fun i hi=>?_,fun g hg=>?_⟩
    · have h2:=this.1.2;rw [hi] at h2;exact h2
    · have h2:=this.2;rw [xBx] at h2;simpa using h2 g hg
  -- the entry of a box's store
  have entry:∀ f∈fl,∃ e2∈E,e2.1.idx=f.js∧e2.1.vo.dst=some f.t:=by
    intro f hf;obtain ⟨e2,h1,h2⟩:=hall f.js (hfa' f hf).1;refine ⟨e2,h1,h2,?_⟩;have:=hcb e2 h1;rw [h2] at this;unfold cVB at this;split at this
    · cases this
    · split at this
      · rename_i f2 hf2;have hm:=xD3 hf2;have hj:=xE7 hf2;have hff:f2=f:=yOc hpw hm hf qBk;subst hff;split at this
        · split at this
          · split at this
            · simp only [xAv] at this;rw [← this]
            · cases this
          · cases this
        · cases this
      · rename_i hn;rw [xEy] at hn;exact absurd (beq_self_eq_true f.js) (hn f hf)
  have hco:=hcb e he;unfold cVB at hco;split at hco
  · cases hco
  · rename_i o hop; split at hco
    · rename_i f hfind;have hf:=xD3 hfind;have hj:f.js=e.1.idx:=by simpa using xE7 hfind
      split at hco
      · rename_i hgd;simp only [xA2,xGc] at hgd;split at hco
        · rename_i ty t x hoo;split at hco
          · rename_i htn;simp only [xA2,beq_iff_eq] at htn;obtain ⟨rfl,hti⟩:=htn;simp only [xAv] at hco;have hval:(ovE (fun _=>true) E s0)[f.t]?=(s0[f.t]?).map fun _=>e.2:=yA5 E s0 e he h.dsts (by rw [← hco]) rfl;have hz:=hbz f hf;unfold yTy at hz;rw [hval] at hz;have hlen:∃ cells,e.2=.box none cells∧cells.length=f.n:=by
              cases hs:s0[f.t]? with
              | none=>rw [hs] at hz;exact hz.elim
              | some d0 =>
                rw [hs] at hz;simp only [xAx] at hz;split at hz
                · rename_i cells hcs;simp only [xAv] at hcs;exact ⟨cells,hcs,hz⟩
                · exact hz.elim
            exact yDx h hE fact hop hgd.1 hf hj hoo hgd.2 hti hco.symm hlen hN0 hcN (fun i hi=>by rw [← hj];exact (hfa' f hf).2.1 i hi) (fun f' hf' ht=>yVq hpw hf' hf ht) (fun f' hf'=>by rw [← hj];exact (hfa' f hf).2.2 f' hf') hS hc hb hS' hne hRH hK
          · cases hco
        · cases hco
      · cases hco
    · rename_i hnj; rw [xEy] at hnj;have hnj':∀ f∈fl,f.js≠e.1.idx:=fun f hf=>by simpa using hnj f hf
      split at hco
      · rename_i f hfind;have hf:=xD3 hfind;have hi:f.ia=some e.1.idx:=by simpa using xE7 hfind
        split at hco
        · rename_i hgd;simp only [xA2,xGc,beq_iff_eq] at hgd;split at hco
          · rename_i ty hoo;split at hco
            · rename_i ti hti;split at hco
              · rename_i z hz;split at hco
                · rename_i hzn;simp only [xAv] at hco;obtain ⟨e2,m1,m2,m3⟩:=entry f hf;obtain ⟨A,B,hAB⟩:=xCe m1;have hst:=(h.ok A e2 B hAB).dst f.t m3;have hlt:f.t<s0.length:=by have hzz:=hbz f hf;unfold yTy at hzz;apply xEg;intro hle;rw [xCy (by rw [zC3];exact hle)] at hzz;exact hzz
                  have hjs:S f.js=false:=by
                    cases hs:S f.js with
                    | false=>rfl
                    | true=>have:=hc _ _ hs ((hfa' f hf).2.1 _ hi);rw [hS] at this;cases this
                  exact yDz hcl h hE hop hgd.1 hf hi hoo hgd.2 hti hz (by simpa using hzn) (by rw [← hco]) hst hN0 hcN hlt hjs ⟨e2,m1,m2,m3⟩ (fun f' hf' ht=>yVq hpw hf' hf ht) (fun f' hf' hi'=>yVr hpw hf' hf hi' hi) hnj' hS hc hb hS' hne hRH hK
                · cases hco
              · cases hco
            · cases hco
          · cases hco
        · cases hco
      · rename_i hni;rw [xEy] at hni;split at hco
        · cases hco
        · rename_i hna;refine yDw hcl h hE fact hop hco hN0 hcN (fun f hf hd=>hna ?_) hnj' (fun f hf hi=>?_) hS hc hb hS' hne hRH hK
          · rw [xDr];exact ⟨f,hf,by simpa using hd⟩
          · have:=hni f hf;rw [hi] at this;simp at this
end
end Go.V
namespace Go.V
open Go.RowKit
section
variable {P:Program} {G:World→(Nat→Prop)→Prop} {w0:Base} {I0:Nat→Prop} {ops:Array Oper} {E:List (DOp×D)} {start:List Bool} {nh:Nat} {s0:List D}
theorem yIl (hcl:∀ w',w0.Below w'→GI G w' I0) {N0:Nat} {fl:List Fl} (h:Setup ops E start nh none s0) (fact:∀ Pre e R,E=Pre++e::R→EF (CT P G) none start s0 Pre e) (hall:∀ i,i<nh→∃ e∈E,e.1.idx=i) (hcb:∀ e∈E,cVB P ops fl e.1.idx=some e.1.vo) (hfl:ySu (zGd ops) nh fl=true) (hbz:∀ f∈fl,yTy (ovE (fun _=>true) E s0) f.t f.n) (hN0:s0.length≤N0) (hcN:∀ e∈E,e.1.cl.length≤N0) (hnh:nh≤ops.size)
    (htail:∀ t,nh≤t→t<ops.size→∀ i,i<nh→((zGd ops).getD t 0).testBit i=true) {Q:Exit→Act→World→Prop}
    (hend:∀ a w,Rel w0 I0 (sig E none (fun _=>true) s0) a w→wpAny P .any ops Q (ops.size-nh) (zCp ops.size nh) a w) :
    ∀ (fuel:Nat) (listed:Array Bool) (a:Act) (w:World),listed.size=ops.size→Closed ops (fun i=>listed.getD i false)→(∀ i,nh≤i→listed.getD i false=false)→fuel=cnt (fun i=>listed.getD i false) nh+(ops.size-nh)→yN1 w0 I0 N0 fl (fun i=>listed.getD i false) (sig E none (fun i=>listed.getD i false) s0) a w→wpAny P .any ops Q fuel listed a w:=by
  intro fuel;induction fuel with
  | zero =>
    intro listed a w hsz hc ht hf hR;have hcnt:cnt (fun i=>listed.getD i false) nh=0:=by omega
    have hz:=zPb hcnt;have hlist:listed=zCp ops.size nh:=by
      apply xCw;intro i;by_cases hi:i<ops.size
      · rw [zGz hi,xBu qAc];congr 1;have h1:listed.getD i false=listed[i]'qAc:=by simp [hsz,hi]
        rw [← h1];by_cases hin:i<nh
        · simp only [hin,decide_true];exact hz i hin
        · simp only [hin,decide_false];exact ht i qAc
      · rw [xCr qAc,xCr qB9]
    have hsig:sig E none (fun i=>listed.getD i false) s0=sig E none (fun _=>true) s0:=zOd (fun e he=>hz _ (by
      obtain ⟨A,B,hAB⟩:=xCe he;exact (h.ok A e B hAB).lt)) (fun _ _ _ hwe=>by cases hwe)
    obtain ⟨hd,I,Fs,hRI,_⟩:=hR;have hR:Rel w0 I0 (sig E none (fun i=>listed.getD i false) s0) a w:=⟨hd,I,Fs,hRI⟩
    rw [hsig] at hR;have:=hend a w hR;rw [show ops.size-nh=0 by omega] at this;rw [hlist];exact this
  | succ fuel ih =>
    intro listed a w hsz hc ht hf hR;by_cases hcnt:cnt (fun i=>listed.getD i false) nh=0
    · have hz:=zPb hcnt;have hlist:listed=zCp ops.size nh:=by
        apply xCw;intro i;by_cases hi:i<ops.size
        · rw [zGz hi,xBu qAc];congr 1;have h1:listed.getD i false=listed[i]'qAc:=by simp [hsz,hi]
          rw [← h1];by_cases hin:i<nh
          · simp only [hin,decide_true];exact hz i hin
          · simp only [hin,decide_false];exact ht i qAc
        · rw [xCr qAc,xCr qB9]
      have hsig:sig E none (fun i=>listed.getD i false) s0=sig E none (fun _=>true) s0:=zOd (fun e he=>hz _ (by
        obtain ⟨A,B,hAB⟩:=xCe he;exact (h.ok A e B hAB).lt)) (fun _ _ _ hwe=>by cases hwe)
      obtain ⟨hd,I,Fs,hRI,_⟩:=hR;have hR:Rel w0 I0 (sig E none (fun i=>listed.getD i false) s0) a w:=⟨hd,I,Fs,hRI⟩
      rw [hsig] at hR;have:=hend a w hR;rw [hlist,hf,hcnt,xB2];exact this
    · -- some operation of the head is still to come
      have hex:∃ i,i<nh∧listed.getD i false=false:=by
        apply Classical.byContradiction;intro hn;apply hcnt;apply zZv;intro i hi;cases hS:listed.getD i false with
        | true=>rfl
        | false=>exact absurd ⟨i,hi,hS⟩ hn
      have getB:∀ i,i<ops.size→listed.getD i true=listed.getD i false:=fun i hi=>by have:i<listed.size:=qAc;simp [this]
      refine ⟨fun h0=>?_,fun i hi=>?_⟩
      · exfalso;obtain ⟨i,hi,hS⟩:=hex;obtain ⟨e,he,rfl⟩:=hall i hi;obtain ⟨A,x,B,hAB,hx,hA⟩:=zL9 (p:=fun e:DOp×D=>listed.getD e.1.idx false=false) E ⟨e,he,hS⟩;obtain ⟨op,hop,hedge⟩:=(h.ok A x B hAB).edge;have hlt:x.1.idx<ops.size:=xCj (h.ok A x B hAB).lt hnh;have:x.1.idx∈Region.ready .any ops listed:=by rw [mem_ready];refine ⟨by rw [getB _ hlt];exact hx,op,hop,fun ed hed hb=>?_⟩;obtain ⟨p,hp,hpe⟩:=hedge ed (by simpa using hed) hb;have:=hA p hp;rw [hpe] at this;simpa using this
        rw [h0] at this;cases this
      · obtain ⟨hun,o,hoi,hed⟩:=mem_ready.1 hi;have hilt:i<ops.size:=(by apply xEg;intro hle;rw [xCr hle] at hoi;cases hoi);have hS:listed.getD i false=false:=(by rw [← getB i hilt];exact hun);have hb:∀ x,((zGd ops).getD i 0).testBit x=true→listed.getD x false=true:=by
          intro x hx;obtain ⟨o',ho',ed,h1,h2,h3⟩:=zPq hx;rw [hoi] at ho';cases ho';have:=hed ed qA1 h2;rcases h3 with rfl | h3
          · exact this
          · exact hc _ _ this h3
        have hin:i<nh:=qBv;obtain ⟨e,he,rfl⟩:=hall i hin;obtain ⟨A,B,hAB⟩:=xCe he;have hset:∀ j,(listed.setIfInBounds e.1.idx true).getD j false=if j=e.1.idx then true else listed.getD j false:=by
          intro j;by_cases hj:j=e.1.idx
          · subst hj;have:e.1.idx<listed.size:=by omega
            simp [this]
          · rw [if_neg hj,getD_set_ne false (Ne.symm hj)]
        refine yDy hcl h hAB (fact A e B hAB) hcb hall hfl hbz hN0 hcN (S:=fun i=>listed.getD i false) (S':=fun i=>(listed.setIfInBounds e.1.idx true).getD i false) hS hc hb qCp (fun j hj=>by simp only [hset,if_neg hj]) hR ?_;intro a' w' hR';refine ih _ a' w' (by simp [hsz]) ?_ (fun j hj=>?_) ?_ hR'
        · intro j x hj hx;simp only [hset] at hj ⊢;by_cases hxe:x=e.1.idx
          · rw [if_pos hxe]
          · rw [if_neg hxe];by_cases hje:j=e.1.idx
            · subst hje;exact hb x hx
            · rw [if_neg hje] at hj;exact hc j x hj hx
        · rw [hset,if_neg qAc];exact ht j hj
        · have:=zZu (S:=fun i=>listed.getD i false) (S':=fun i=>(listed.setIfInBounds e.1.idx true).getD i false) hS qCp (fun j hj=>by simp only [hset,if_neg hj]) hin;omega
theorem yWt {s:List D} {tm:Array Value} {w:World} {I:Nat→Prop} {Fs:Nat→List Nat} (h:RelI w0 I0 s tm w I Fs) {N0:Nat} {fl:List Fl} {m:List Bool} (hN0:s.length≤N0) (hm:∀ f∈fl,m.getD f.t false=true) (hb:∀ f∈fl,f.ia=none→yYn s f.t f.n) :
    ∃ Fs',RelI w0 I0 (clr m s) tm w I Fs'∧∀ f∈fl,f.ia=none→xAp N0 tm w Fs' f:=by
  have hc:=h.clr m
  let gs:Nat→Bool:=fun t=>fl.any fun f=>f.ia.isNone&&f.t==t
  have hgs:∀ t,gs t=true→m.getD t false=true:=by intro t ht;simp only [gs,xDr,xA2,beq_iff_eq] at ht;obtain ⟨f,hf,_,rfl⟩:=ht;exact hm f hf
  let Fs':Nat→List Nat:=fun r=>if N0≤r∧gs (r-N0)=true then (Fs (r-N0)).take 1 else if m.getD r false then [] else Fs r
  have mem:∀ r b,b∈Fs' r→(N0≤r∧gs (r-N0)=true∧b∈Fs (r-N0))∨(¬ (N0≤r∧gs (r-N0)=true)∧m.getD r false=false∧b∈Fs r):=by
    intro r b hb;simp only [Fs'] at hb;split at hb
    · rename_i hr;exact .inl ⟨hr.1,hr.2,List.mem_of_mem_take hb⟩
    · rename_i hr;split at hb
      · cases hb
      · rename_i hmr;exact .inr ⟨hr,by simpa using hmr,hb⟩
  refine ⟨Fs',{
    below:=h.below
    len:=hc.len
    slot:=fun r d u h1 h2=>by have hr:r<s.length:=(by have:=(xA4.1 h1).1;rwa [zTh] at this);have:=hc.slot r d u h1 h2;simp only [Fs'];rw [if_neg (fun h=>by omega)];exact this
    nd:=fun r=>by
      simp only [Fs'];split
      · exact (h.nd _).sublist (List.take_sublist _ _)
      · split
        · exact xC2
        · exact h.nd r
    disj:=fun r r' b hb hb'=>by
      rcases mem r b hb with ⟨a1,a2,a3⟩ | ⟨a1,a2,a3⟩<;>rcases mem r' b hb' with ⟨c1,c2,c3⟩ | ⟨c1,c2,c3⟩
      · have:=h.disj _ _ b a3 c3;omega
      · have e:=h.disj _ _ b a3 c3;have:=hgs _ a2;rw [e,c2] at this;cases this
      · have e:=h.disj _ _ b a3 c3;have:=hgs _ c2;rw [← e,a2] at this;cases this
      · exact h.disj _ _ b a3 c3
    own:=fun r b hb=>by rcases mem r b hb with ⟨_,_,a3⟩ | ⟨_,_,a3⟩<;>exact h.own _ b a3
    imm:=h.imm
    imm0:=h.imm0
    immN:=h.immN },fun f hf hi=>?_⟩
  have hbx:=hb f hf hi;unfold yYn at hbx;split at hbx
  · rename_i tag cells hs;obtain ⟨u,hu,hT⟩:=h.slot0 hs;simp only [T] at hT;obtain ⟨b,cs,e,F',rfl,_,hh,hF,hcs⟩:=hT;refine ⟨b,cs,e,hu,hh,?_,?_⟩
    · have:=hcs.len;simp only [xD6] at this;omega
    · have hg:gs f.t=true:=(by simp only [gs,xDr,xA2,beq_iff_eq];exact ⟨f,hf,by rw [hi];rfl,rfl⟩);simp only [Fs'];rw [if_pos ⟨by omega,by rw [xD8];exact hg⟩,xD8,hF];rfl
  · exact hbx.elim
theorem yOm:∀ {l:List Nat} {x:Nat},x∈l→x≤l.sum
  | y::l,x,h=>by
    rw [xGm];rcases xBs.1 h with rfl | h
    · omega
    · have:=yOm h;omega
theorem yXh {fl:List Fl} (hcb:∀ e∈E,cVB P ops fl e.1.idx=some e.1.vo) (hall:∀ i,i<nh→∃ e∈E,e.1.idx=i) (hfl:ySu (zGd ops) nh fl=true):∀ f∈fl,∃ e2∈E,e2.1.idx=f.js∧e2.1.vo.dst=some f.t:=by
  simp only [ySu,xA2] at hfl;obtain ⟨hpw,hfa⟩:=hfl;rw [xBx] at hfa;intro f hf;obtain ⟨e2,h1,h2⟩:=hall f.js (by have:=hfa f hf;simp only [xA2,decide_eq_true_eq] at this;exact this.1.1);refine ⟨e2,h1,h2,?_⟩;have:=hcb e2 h1;rw [h2] at this;unfold cVB at this;split at this
  · cases this
  · split at this
    · rename_i f2 hf2;have hm:=xD3 hf2;have hj:=xE7 hf2;have hff:f2=f:=yOc hpw hm hf qBk;subst hff;split at this
      · split at this
        · split at this
          · simp only [xAv] at this;rw [← this]
          · cases this
        · cases this
      · cases this
    · rename_i hn;rw [xEy] at hn;exact absurd (beq_self_eq_true f.js) (hn f hf)
theorem yFx (hcl:∀ w',w0.Below w'→GI G w' I0) (hm:P.follows .mixedOrders=true) {H:List DOp} {s:List D} {fl:List Fl} (hB:drawB ops H start nh=true) (hf:H.all (fun o=>o.vo.op.framed)=true) (hcb:∀ o∈H,cVB P ops fl o.idx=some o.vo) (hfl:ySu (zGd ops) nh fl=true)
    {tail:List VO} (htl:zR0 P ops (ops.toList.drop nh)=some tail) {KK:List D→Prop} {Q:Exit→Act→World→Prop} (hpre:yCg s (yVt fl)) (hk:zO4 (CT P G) none (clr start s) H (fun s'=>yCf s' (yWz fl)∧zLz (CT P G) (clr (zRd H) s') tail KK)) (hQ:∀ s a w,KK s→Rel w0 I0 s a w→Q .normal a w) {a:Act} {w:World} (h:Rel w0 I0 s a w):RegAny P ops Q a w:=by
  obtain ⟨E,rfl,e2,e3⟩:=zKp H hf hk;rw [zGr] at e3;obtain ⟨hbz,hk⟩:=e3;have fact:∀ Pre e R,E=Pre++e::R→EF (CT P G) none start (clr start s) Pre e:=fun Pre e R hE=>by have:=e2 Pre e R hE;rw [zGr] at this;exact this
  have hB':=hB;simp only [drawB,xA2,decide_eq_true_eq] at hB';obtain ⟨⟨⟨⟨hok,hall⟩,hnh⟩,htail⟩,hseq⟩:=hB';rw [xBx] at hall htail;obtain ⟨hd,I,Fs,hR⟩:=h;have hset:Setup ops E start nh none (clr start s):=⟨fun P e R hE=>by
    have:=zRk E [] [] (fun _ h=>by simp at h) (fun _ h=>by cases h) hok P e R hE;simpa using this,fun r hr=>yB2 hr,fun _ _ _ h=>by cases h⟩
  have hcb':∀ e∈E,cVB P ops fl e.1.idx=some e.1.vo:=fun e he=>hcb e.1 (xB1.2 ⟨e,he,rfl⟩);have hall':∀ i,i<nh→∃ e∈E,e.1.idx=i:=fun i hi=>by have:=hall i qAp;rw [xDr] at this;obtain ⟨o,ho,hoi⟩:=this;obtain ⟨e,he,rfl⟩:=xB1.1 ho;exact ⟨e,he,by simpa using hoi⟩
  let N0:=(clr start s).length+(E.map fun e=>e.1.cl.length).sum
  have hN0:(clr start s).length≤N0:=Nat.le_add_right _ _;have hcN:∀ e∈E,e.1.cl.length≤N0:=fun e he=>by have:=yOm (xB1.2 ⟨e,he,rfl⟩:e.1.cl.length∈E.map fun e=>e.1.cl.length);simp only [N0];omega
  have hbz':∀ f∈fl,yTy (ovE (fun _=>true) E (clr start s)) f.t f.n:=fun f hf'=>zU3 hbz (f.t,f.n) (xB1.2 ⟨f,hf',rfl⟩);have hsf:∀ f∈fl,start.getD f.t false=true:=(by intro f hf';obtain ⟨e2,m1,_,m3⟩:=yXh hcb' hall' hfl f hf';obtain ⟨A,B,hAB⟩:=xCe m1;exact (hset.ok A e2 B hAB).dst f.t m3);refine ⟨hm,?_⟩;have hgF:∀ i,(Array.replicate ops.size false).getD i false=false:=fun i=>by by_cases hi:i<ops.size<;>simp [hi]
  have hgFun:(fun i=>(Array.replicate ops.size false).getD i false)=fun _=>false:=funext hgF;refine yIl (w0:=w0) (I0:=I0) (N0:=N0) (fl:=fl) hcl hset fact hall' hcb' hfl hbz' hN0 hcN hnh (fun t ht1 ht2 i hi=>?_) (fun a' w' hR'=>?_) ops.size _ a _ qAh (fun j x hj _=>by simp only [hgF] at hj;cases hj) (fun i _=>hgF i) ?_ ?_
  · have:=htail t (by simpa using ht2);simp only [xDk,decide_eq_true_eq] at this;rcases this with h1 | h1
    · omega
    · rw [xBx] at h1;exact h1 i qAp
  · have hl:(ops.toList.drop nh).length=ops.size-nh:=qAh;have hsig:sig E none (fun _=>true) (clr start s)=clr (zRd (E.map (·.1))) (ovE (fun _=>true) E (clr start s)):=(by unfold sig hwS;rw [zWg]);rw [hsig] at hR';have:=wpAny_of_seq (P:=P) (md:=.any) (ops:=ops) (Q':=Q) (ops.toList.drop nh) nh (zCp ops.size nh) a' w' (fun j=>by simp [xDb]) (by rw [hl];exact hseq)
      (zKe hcl ops (KK:=KK) hQ _ tail _ a' w' htl hk hR')
    rw [hl] at this;exact this
  · rw [hgFun];have:∀ n,cnt (fun _=>false) n=n:=by
      intro n;induction n with
      | zero=>rfl
      | succ n ih=>simp only [cnt,xBa,if_false];omega
    rw [this];omega
  · rw [hgFun];have h0:=hR.world (w':={ w with drawn:=w.drawn+1 }) ((Below.refl _ w).drew);obtain ⟨Fs',h1,hH⟩:=yWt (N0:=N0) (fl:=fl) (m:=start) h0 (by rw [← zTh start s];exact hN0) hsf (fun f hf' hi=>zU4 hpre (f.t,f.n) (xB1.2 ⟨f,xEo.2 ⟨hf',by rw [hi];rfl⟩,rfl⟩));have h2:=h1.clr (clE (fun _=>false) E);have h3:ovE (fun _=>false) E (clr start s)=clr start s:=by
      have:∀ (E:List (DOp×D)) (s:List D),ovE (fun _=>false) E s=s:=by
        intro E;induction E with
        | nil=>intro s;rfl
        | cons e E ih=>intro s;simp only [ovE,xBa,if_false];exact ih s
      exact this E _
    refine ⟨hd,I,_,by unfold sig hwS;rw [h3];exact h2,fun f hf' hi _=>?_⟩;have hnone:f.ia=none:=by
      cases hia:f.ia with
      | none=>rfl
      | some i=>have:=hi i hia;cases this
    obtain ⟨b,cs,e,k1,k2,k3,k4⟩:=hH f hf' hnone;refine ⟨b,cs,e,k1,k2,k3,?_⟩;simp only;rw [zTk (fun _ _ h=>by cases h),if_neg qAh];exact k4
end
end Go.V
namespace Go.V
open Go.RowKit
/-! ### Regions that draw, order by order: moves go at once -/
def yIb (o:Oper):Bool:=o.guard.isNone&&match o.op with
  | .move _=>true
  | _=>false
def xAj (ops:Array Oper) (i j:Nat):Bool:=match ops[i]?,ops[j]? with
  | some x,some y=>match x.dst with
    | none=>true
    | some d=>(!(y.looksAt ops).contains d||(y.after.toList.any fun e=>Region.binds .any e&&e.on==i&&decide (i<j)))&&(i==j||y.dst != some d)
  | _,_=>true
def yXi (ops:Array Oper)(j:Nat):Bool:=match ops[j]? with
  | some y=>y.after.toList.all fun e=>!Region.binds .any e||decide (e.on<j)
  | none=>true
def yC8 (ops:Array Oper)(nh:Nat):Bool:=(List.range nh).all fun j=>yXi ops j&&(List.range nh).all fun i=>xAj ops i j
def yJ6 (ops:Array Oper)(nh:Nat):Bool:=(List.range ops.size).all fun t=>decide (t<nh)||(List.range nh).all fun i=>((zGd ops).getD t 0).testBit i
section
variable (P:Program)
def yMx (g:Nat→Nat→Option (VT×Nat)) (ops:Array Oper):List Nat→Nat→Option (VT×Nat)
  | [],bud=>some (.nil,bud)
  | i :: is,bud=>match ops[i]? with
    | some op=>match cVO P false ops op with
      | some o=>match g i bud with
        | some (sub,b1)=>match yMx g ops is b1 with
          | some (rest,b2)=>some (.br i o sub rest,b2)
          | none=>none
        | none=>none
      | none=>none
    | none=>none
def yYi (g:Nat→Nat→Option (VT×Nat)) (ops:Array Oper) (i bud:Nat):Option (VT×Nat):=match ops[i]? with
  | some op=>match cVO P false ops op with
    | some o=>match g i bud with
      | some (sub,b1)=>some (.h i o sub,b1)
      | none=>none
    | none=>none
  | none=>none
def yWx (ops:Array Oper) (nh:Nat):Nat→Nat→Array Bool→Option (VT×Nat)
  | fuel,bud,listed =>
    if (bud==0)=true then none else
    if (decide (fuel=ops.size-nh)&&listed==zCp ops.size nh&&Region.seqB .any ops (ops.size-nh) nh listed)=true then some (.done,bud-1) else
    match fuel with
    | 0=>none
    | f+1=>match (Region.ready .any ops listed).find? (fun i=>decide (i<nh)&&(ops[i]?.map yIb).getD false) with
      | some i=>yYi P (fun i b=>yWx ops nh f b (listed.setIfInBounds i true)) ops i (bud-1)
      | none=>if ((Region.ready .any ops listed).isEmpty||!(Region.ready .any ops listed).all (fun i=>decide (i<nh)))=true then none else yMx P (fun i b=>yWx ops nh f b (listed.setIfInBounds i true)) ops (Region.ready .any ops listed) (bud-1)
def yCc (ops:Array Oper) (nh:Nat):Option VCode :=
  if (P.follows .mixedOrders&&yC8 ops nh&&yJ6 ops nh&&decide (nh≤ops.size))=true then
    match yWx P ops nh ops.size 700 (Array.replicate ops.size false),zR0 P ops (ops.toList.drop nh) with
    | some (t,_),some tail=>some (.drawT t tail)
    | _,_=>none
  else none
end
section
variable {P:Program} {G:World→(Nat→Prop)→Prop} {w0:Base} {I0:Nat→Prop}
theorem yJb {n:Bool}{op:Op}{v:VOp}(h:cOp P n op=some v):∀ cs b,op≠.select cs b:=by rintro cs b rfl;simp [cOp] at h
theorem yI9 {n:Bool}{ops:Array Oper}{o:Oper}{v:VO}(h:cVO P n ops o=some v):∀ cs b,o.op≠.select cs b:=by
  simp only [cVO] at h;split at h
  · rename_i g vop _ h2;exact yJb h2
  · cases h
theorem yAn (hcl:∀ w',w0.Below w'→GI G w' I0) {ops:Array Oper} {Q:Exit→Act→World→Prop} {i:Nat} {o:Oper} {v:VO} {next:Act→World→Prop} {KK:List D→Prop} {s:List D} {a a':Act} {w:World} (hi:ops[i]?=some o) (hv:cVO P false ops o=some v) (hk:zIk (CT P G) s v KK)
    (he:execOp a.eval o=execOp a'.eval o) (hw:Region.wanted o (yielded ops a.tmps)=Region.wanted o (yielded ops a'.tmps)) (hn:∀ s' u w',KK s'→Rel w0 I0 s' (a'.put o.dst u) w'→next (a.put o.dst u) w') (h:Rel w0 I0 s a' w):wpOp P ops Q i next a w:=by
  obtain ⟨hd,I,Fs,hR⟩:=h;have hGw:GI G w I0:=hcl _ hR.below;simp only [cVO] at hv;cases hg:zFr ops o.guard with
  | none=>simp [hg] at hv
  | some g =>
  cases hop:cOp P false o.op with
  | none=>simp [hg,hop] at hv
  | some vop =>
  simp only [hg,hop,xAv] at hv;subst hv;have run:zAh (CT P G) s vop (fun d s'=>KK (match o.dst with | some t=>zN2 s' t d | none=>s'))→o.wp P a w next Q:=by
    intro hk;refine zE2 (R:=fun u w'=>next (a.put o.dst u) w') ?_ (fun u w' h=>h);rw [he];have:=zQq (nn:=false) hGw hR (fun h=>by cases h) hop hk;unfold RunsTo at this ⊢;have key:∀ u w',OutOK false Fs I w w0 I0 a'.tmps (fun d s'=>KK (match o.dst with | some t=>zN2 s' t d | none=>s')) u w'→next (a.put o.dst u) w':=by rintro u w' ⟨d,s',I',Fs',F,hK,hR',hT,hF,_⟩;exact hn _ _ _ hK (zIn hd hR' hT hF)
    split
    · rename_i u w' e;rw [e] at this;exact key _ _ this
    · rename_i w' e;rw [e] at this;exact key _ _ this
    · rename_i f args w' e;rw [e] at this;exact this.mono (fun e w'' ⟨u,h1,h2⟩=>⟨u,h1,key _ _ h2⟩)
    · rename_i r h1 h2 h3;split at this
      · rename_i u w' e;exact (h1 _ _ e).elim
      · rename_i w' e;exact (h2 _ e).elim
      · rename_i f args w' e;exact (h3 _ _ _ e).elim
      · exact this
  have skip:KK (match o.dst with | some t=>zN2 s t (.v (.tuple #[])) | none=>s)→next (a.put o.dst undef) w:=by intro hk;exact hn _ _ _ hk (zIn (d:=.v (.tuple #[])) (v:=undef) hd hR qCm Fresh.nil)
  unfold wpOp;simp only [hi];rw [hw];simp only [zIk] at hk;cases hgo:o.guard with
  | none=>rw [hgo] at hg;simp only [zFr,xAv] at hg;subst hg;rw [if_pos qBx];exact .inl (run hk)
  | some jw =>
    obtain ⟨j,want⟩:=jw;rw [hgo] at hg;simp only [zFr] at hg;cases hj:(ops[j]?).bind (·.dst) with
    | none=>simp [hj] at hg
    | some t =>
      simp only [hj,xAv] at hg;subst hg;simp only at hk;have hTt:=zXy hR t;have hyv:∀ x:Value,lkT s t=.v x→a'.tmps[t]?=some x∨(a'.tmps[t]?=none∧x=undef):=by
        intro x e;rw [e] at hTt;have:=(T_v hTt).1;cases ht:a'.tmps[t]? with
        | none=>simp [ht] at this;exact .inr ⟨rfl,this.symm⟩
        | some y=>simp [ht] at this;exact .inl (by rw [this])
      split at hk
      · rename_i b e;have hy:yielded ops a'.tmps j=some b:=by
          unfold yielded;rw [hj];rcases hyv _ e with h1 | ⟨_,h1⟩
          · simp [h1]
          · cases h1
        by_cases hbw:b=want
        · rw [if_pos qAs];exact .inl (run (hk.1 hbw))
        · rw [if_neg qAs];exact skip (hk.2 hbw)
      · rename_i x hne e;have hy:yielded ops a'.tmps j=none:=by
          unfold yielded;rw [hj];rcases hyv _ e with h1 | ⟨h1,_⟩
          · simp only [xDq,h1];split
            · rename_i b hb;cases hb;exact absurd rfl (hne b)
            · rfl
          · simp [h1]
        rw [if_neg qBs];exact skip hk
      · exact hk.elim
inductive OKT (P:Program) (ops:Array Oper) (nh:Nat):VT→Nat→Array Bool→List Nat→Prop
  | done {fuel listed rdy}:fuel=ops.size-nh→listed=zCp ops.size nh→Region.seqB .any ops (ops.size-nh) nh listed=true→OKT P ops nh .done fuel listed rdy
  | nil {fuel listed}:OKT P ops nh .nil fuel listed []
  | h {i o op sub f listed rdy}:ops[i]?=some op→cVO P false ops op=some o→yIb op=true→i<nh→i∈Region.ready .any ops listed→OKT P ops nh sub f (listed.setIfInBounds i true) (Region.ready .any ops (listed.setIfInBounds i true))→(sub=.nil→False)→OKT P ops nh (.h i o sub) (f+1) listed rdy
  | br {i o op sub rest f listed is}:ops[i]?=some op→cVO P false ops op=some o→i<nh→OKT P ops nh sub f (listed.setIfInBounds i true) (Region.ready .any ops (listed.setIfInBounds i true))→(sub=.nil→False)→OKT P ops nh rest (f+1) listed is→(rest=.done→False)→(∀ a b c,rest=.h a b c→False)→OKT P ops nh (.br i o sub rest) (f+1) listed (i::is)
theorem zX5 {ops:Array Oper} {nh f:Nat} {listed:Array Bool} {g:Nat→Nat→Option (VT×Nat)} (hg:∀ i b t b',g i b=some (t,b')→OKT P ops nh t f (listed.setIfInBounds i true) (Region.ready .any ops (listed.setIfInBounds i true))∧(t=.nil→False)):∀ (is:List Nat) {bud:Nat} {t:VT} {b':Nat},(∀ i∈is,i<nh)→yMx P g ops is bud=some (t,b')→OKT P ops nh t (f+1) listed is∧(t=.done→False)∧(∀ a b c,t=.h a b c→False)∧(t=.nil→is=[])
  | [],bud,t,b',_,h=>by simp only [yMx,xAv,xBd] at h;obtain ⟨rfl,_⟩:=h;exact ⟨.nil,(fun h=>by cases h),(fun _ _ _ h=>by cases h),fun _=>rfl⟩
  | i :: is,bud,t,b',hlt,h=>by
    simp only [yMx] at h;split at h
    · rename_i op hop;split at h
      · rename_i o ho;split at h
        · rename_i sub b1 hs;split at h
          · rename_i rest b2 hr;simp only [xAv,xBd] at h;obtain ⟨rfl,_⟩:=h;obtain ⟨h1,h2⟩:=hg _ _ _ _ hs;obtain ⟨h3,h4,h5,_⟩:=zX5 hg is (fun j hj=>hlt j (by simp [hj])) hr;exact ⟨.br hop ho (hlt i qAh) h1 h2 h3 h4 h5,(fun h=>by cases h),(fun _ _ _ h=>by cases h),(fun h=>by cases h)⟩
          · cases h
        · cases h
      · cases h
    · cases h
theorem zTe {ops:Array Oper} {nh:Nat}:∀ (fuel:Nat) {bud:Nat} {listed:Array Bool} {t:VT} {b':Nat},yWx P ops nh fuel bud listed=some (t,b')→OKT P ops nh t fuel listed (Region.ready .any ops listed)∧(t=.nil→False)
  | fuel, bud,listed,t,b',h=>by
    unfold yWx at h;split at h
    · cases h
    · split at h
      · rename_i hd;simp only [xA2,decide_eq_true_eq,beq_iff_eq] at hd;simp only [xAv,xBd] at h;obtain ⟨rfl,_⟩:=h;exact ⟨.done hd.1.1 hd.1.2 hd.2,(fun h=>by cases h)⟩
      · cases fuel with
        | zero=>cases h
        | succ f =>
          simp only at h;split at h
          · rename_i i hf;have hmem:=xD3 hf;have hp:=xE7 hf;simp only [xA2,decide_eq_true_eq] at hp;unfold yYi at h;split at h
            · rename_i op hop;split at h
              · rename_i o ho;split at h
                · rename_i sub b1 hs;simp only [xAv,xBd] at h;obtain ⟨rfl,_⟩:=h;obtain ⟨h1,h2⟩:=zTe f hs;exact ⟨.h hop ho (by rw [hop] at hp;simpa using hp.2) hp.1 hmem h1 h2,(fun h=>by cases h)⟩
                · cases h
              · cases h
            · cases h
          · split at h
            · cases h
            · rename_i hne;simp only [xDk,xDy,not_or] at hne;have hall:∀ i∈Region.ready .any ops listed,i<nh:=by have:=hne.2;simp only [Bool.not_eq_false] at this;rw [xBx] at this;exact fun i hi=>by simpa using this i hi
              obtain ⟨h1,h2,_,h3⟩:=zX5 (nh:=nh) (f:=f) (listed:=listed) (fun i b t b' hgt=>zTe f hgt) _ hall h;refine ⟨h1,fun h=>?_⟩;rw [h3 h] at hne;exact hne.1 rfl
theorem zP4 {ops:Array Oper}{nh i j:Nat}{x y:Oper}(h:yC8 ops nh=true)(hi:i<nh)(hj:j<nh)(hx:ops[i]?=some x)(hy:ops[j]?=some y){d:Tmp}(hd:x.dst=some d):(d∈y.looksAt ops→i<j∧∃ e∈y.after,Region.binds .any e=true∧e.on=i)∧(i=j∨y.dst≠some d):=by
  unfold yC8 at h;rw [xBx] at h;have:=h j qBk;rw [xA2,xBx] at this;have:=this.2 i qAp;simp only [xAj,hx,hy,hd,xA2,xDk,xDy,beq_iff_eq,bne_iff_ne] at this;refine ⟨fun hm=>?_,this.2⟩;rcases this.1 with h1 | h1
  · rw [List.contains_iff_mem.2 hm] at h1;cases h1
  · rw [xDr] at h1;obtain ⟨e,he,h2⟩:=h1;simp only [xA2,beq_iff_eq,decide_eq_true_eq] at h2;exact ⟨h2.2,e,by simpa using he,h2.1.1,h2.1.2⟩
theorem yK1 {ops:Array Oper}{nh j:Nat}{y:Oper}(h:yC8 ops nh=true)(hj:j<nh)(hy:ops[j]?=some y):∀ e∈y.after,Region.binds .any e=true→e.on<j:=by unfold yC8 at h;rw [xBx] at h;have:=h j qBk;rw [xA2] at this;have:=this.1;simp only [yXi,hy,xBx] at this;intro e he hb;have:=this e (by simpa using he);simpa [hb] using this
structure PInv (ops:Array Oper) (nh:Nat) (L:List Nat) (AL VL:Array Bool) (a a':Act):Prop where
  size:AL.size=ops.size
  vsize:VL.size=ops.size
  sub:∀ i,VL.getD i false=true↔(AL.getD i false=true∨i∈L)
  nd:L.Nodup
  out:∀ i∈L,AL.getD i false=false
  mv:∀ i∈L,∃ o x,ops[i]?=some o∧i<nh∧o.guard=none∧o.op=.move x∧a'.put o.dst (a'.eval x)=a'∧∀ e∈o.after,Region.binds .any e=true→VL.getD e.on false=true
  tm:a'.tmps.size=a.tmps.size
  df:a'.defers=a.defers
  agree:∀ t,(∀ i∈L,∀ o,ops[i]?=some o→o.dst≠some t)→a'.tmps[t]?=a.tmps[t]?
  closed:Closed ops (fun i=>AL.getD i false)
section
variable {ops:Array Oper} {nh:Nat} {L:List Nat} {AL VL:Array Bool} {a a':Act}
theorem PInv.same (h:PInv ops nh L AL VL a a')(hs:yC8 ops nh=true){j:Nat}{y:Oper}(hj:j<nh)(hy:ops[j]?=some y)(hr:j∈Region.ready .any ops AL):∀ t∈y.looksAt ops,a'.tmps[t]?=a.tmps[t]?:=by intro t ht;refine h.agree t (fun i hi o ho hd=>?_);obtain ⟨o',x,h1,h2,_⟩:=h.mv i hi;rw [ho] at h1;cases h1;obtain ⟨_,e,he,hb,rfl⟩:=(zP4 hs h2 hj ho hy hd).1 ht;obtain ⟨_,o',ho',hed⟩:=mem_ready.1 hr;rw [hy] at ho';cases ho';have:=hed e he hb;rw [h.out _ hi] at this;cases this
theorem PInv.eval (h:PInv ops nh L AL VL a a')(hs:yC8 ops nh=true){j:Nat}{y:Oper}(hj:j<nh)(hy:ops[j]?=some y)(hr:j∈Region.ready .any ops AL):∀ x∈y.op.operands,a.eval x=a'.eval x:=by
  intro x hx;cases x with
  | tmp t=>have:=h.same hs hj hy hr t (xCt _ (xF9.2 ⟨.tmp t,by simpa using hx,rfl⟩));simp only [Act.eval,xC6,this]
  | _=>rfl
theorem PInv.wanted (h:PInv ops nh L AL VL a a')(hs:yC8 ops nh=true){j:Nat}{y:Oper}(hj:j<nh)(hy:ops[j]?=some y)(hr:j∈Region.ready .any ops AL):Region.wanted y (yielded ops a.tmps)=Region.wanted y (yielded ops a'.tmps):=by
  unfold Region.wanted;cases hg:y.guard with
  | none=>rfl
  | some gw =>
    obtain ⟨g,want⟩:=gw;have:yielded ops a.tmps g=yielded ops a'.tmps g:=by
      unfold yielded;cases hd:(ops[g]?).bind (·.dst) with
      | none=>rfl
      | some t=>have:=h.same hs hj hy hr t (by unfold Oper.looksAt;simp [hg,hd]);simp only [xDq,this]
    simp only [this]
theorem zF0 {A:Array Bool}{i j:Nat}(hi:i<A.size):(A.setIfInBounds i true).getD j false=if j=i then true else A.getD j false:=by
  by_cases h:j=i
  · subst h;simp [hi]
  · rw [if_neg h,getD_set_ne false (Ne.symm h)]
theorem zOk {AL:Array Bool}{j:Nat}(h:j∈Region.ready .any ops AL)(hs:AL.size=ops.size):j<AL.size∧AL.getD j false=false:=by obtain ⟨h1,o,ho,_⟩:=mem_ready.1 h;have:=(xBg.1 ho).1;have hlt:j<AL.size:=qAc;refine ⟨hlt,?_⟩;simp only [xC6,xBu hlt,xDd] at h1 ⊢;exact h1
theorem zUx {AL:Array Bool}(hc:Closed ops (fun i=>AL.getD i false)){i:Nat}(hr:i∈Region.ready .any ops AL)(hlt:i<AL.size):Closed ops (fun j=>(AL.setIfInBounds i true).getD j false):=by
  intro j x hj hx;simp only [zF0 hlt] at hj ⊢;by_cases hxi:x=i
  · rw [if_pos hxi]
  · rw [if_neg hxi];by_cases hji:j=i
    · subst hji;obtain ⟨o,ho,e,he,hb,h3⟩:=zPq hx;obtain ⟨_,o',ho',hed⟩:=mem_ready.1 hr;rw [ho] at ho';cases ho';have:=hed e (by simpa using he) hb;rcases h3 with rfl | h3
      · exact this
      · exact hc _ _ this h3
    · rw [if_neg hji] at hj;exact hc j x hj hx
theorem PInv.exec (h:PInv ops nh L AL VL a a') (hs:yC8 ops nh=true) {i:Nat} (hi:i∈L) (hr:i∈Region.ready .any ops AL):∃ o x,ops[i]?=some o∧o.guard=none∧o.op=.move x∧PInv ops nh (L.erase i) (AL.setIfInBounds i true) VL (a.put o.dst (a.eval x)) a':=by
  obtain ⟨o,x,h1,h2,h3,h4,h5,h6⟩:=h.mv i hi;obtain ⟨hlt,hal⟩:=zOk hr h.size;have hx:a.eval x=a'.eval x:=h.eval hs h2 h1 hr x (by rw [h4];simp [Op.operands]);refine ⟨o,x,h1,h3,h4,?_⟩;rw [hx];have hmem:∀ k,k∈L.erase i→k∈L∧k≠i:=fun k hk=>⟨List.mem_of_mem_erase hk,fun e=>by subst e;exact (List.Nodup.not_mem_erase h.nd) hk⟩
  refine ⟨by simp [h.size],h.vsize,fun k=>?_,h.nd.erase i,fun k hk=>?_,fun k hk=>h.mv k (hmem k hk).1,?_,?_,fun t ht=>?_,?_⟩
  · rw [h.sub k,zF0 hlt];by_cases hk:k=i
    · subst hk;simp [hi]
    · rw [if_neg hk,xFa hk]
  · obtain ⟨k1,k2⟩:=hmem k hk;rw [zF0 hlt,if_neg k2];exact h.out k k1
  · cases hd:o.dst with
    | none=>exact h.tm
    | some d=>simp [Act.put,h.tm]
  · cases hd:o.dst with
    | none=>exact h.df
    | some d=>simp [Act.put,h.df]
  · cases hd:o.dst with
    | none =>
      refine h.agree t (fun k hk o' ho'=>?_);by_cases hki:k=i
      · subst hki;rw [h1] at ho';cases ho';rw [hd];exact fun e=>by cases e
      · exact ht k ((xFa hki).2 hk) o' ho'
    | some d =>
      by_cases htd:t=d
      · subst htd;rw [hd] at h5;have h7:=congrArg (fun b:Act=>b.tmps[t]?) h5;simp only [Act.put] at h7 ⊢;rw [← h7];by_cases hb:t<a.tmps.size
        · have hb':t<a'.tmps.size:=(by rw [h.tm];exact hb);simp [hb,hb']
        · have hb':¬ t<a'.tmps.size:=(by rw [h.tm];exact hb);simp [hb,hb']
      · have:(a.put (some d) (a'.eval x)).tmps[t]?=a.tmps[t]?:=(by simp only [Act.put];exact xBe (Ne.symm htd));rw [this];refine h.agree t (fun k hk o' ho'=>?_);by_cases hki:k=i
        · subst hki;rw [h1] at ho';cases ho';rw [hd];exact fun e=>htd (Option.some.inj e).symm
        · exact ht k ((xFa hki).2 hk) o' ho'
  · exact zUx h.closed hr hlt
theorem PInv.progress (h:PInv ops nh L AL VL a a') (hs:yC8 ops nh=true) (hL:L≠[]∨Region.ready .any ops VL≠[]):Region.ready .any ops AL≠[]:=by
  by_cases hL0:L=[]
  · rcases hL with hL | hL
    · exact absurd hL0 hL
    · have:AL=VL:=by
        apply xCw;intro k;by_cases hk:k<ops.size
        · have h1:k<AL.size:=(by rw [h.size];exact hk);have h2:k<VL.size:=(by rw [h.vsize];exact hk);have:=h.sub k;simp only [xC6,xBu h1,xBu h2,xDd,hL0,xGq,or_false] at this;rw [xBu h1,xBu h2];congr 1;exact (xEq.2 this).symm
        · rw [xCr (by rw [h.size];omega),xCr (by rw [h.vsize];omega)]
      rw [this];exact hL
  · obtain ⟨m,hm,hmin⟩:∃ m∈L,∀ k∈L,m≤k:=by
      have key:∀ L:List Nat,L≠[]→∃ m∈L,∀ k∈L,m≤k:=by
        intro L;induction L with
        | nil=>intro h;exact absurd rfl h
        | cons x L ih =>
          intro _;by_cases hn:L=[]
          · subst hn;exact ⟨x,by simp,fun k hk=>by simp at hk;omega⟩
          · obtain ⟨m,h1,h2⟩:=ih hn;by_cases hx:x≤m
            · exact ⟨x,by simp,fun k hk=>by rcases xBs.1 hk with rfl | hk;omega;have:=h2 k hk;omega⟩
            · exact ⟨m,by simp [h1],fun k hk=>by rcases xBs.1 hk with rfl | hk;omega;exact h2 k hk⟩
      exact key L hL0
    obtain ⟨o,x,h1,h2,h3,h4,h5,h6⟩:=h.mv m hm;intro h0;have hlt:m<AL.size:=(by rw [h.size];exact (xBg.1 h1).1);have:m∈Region.ready .any ops AL:=by
      rw [mem_ready];refine ⟨?_,o,h1,fun e he hb=>?_⟩
      · have:=h.out m hm;simp only [xC6,xBu hlt,xDd] at this ⊢;exact this
      · rcases (h.sub e.on).1 (h6 e he hb) with h7 | h7
        · exact h7
        · have:=yK1 hs h2 h1 e he hb;have:=hmin _ h7;omega
    rw [h0] at this;cases this
theorem PInv.readyV (h:PInv ops nh L AL VL a a'){i:Nat}(hr:i∈Region.ready .any ops AL)(hi:i∉L):i∈Region.ready .any ops VL:=by
  obtain ⟨hlt,hal⟩:=zOk hr h.size;obtain ⟨_,o,ho,he⟩:=mem_ready.1 hr;rw [mem_ready];have hlt':i<VL.size:=(by rw [h.vsize,← h.size];exact hlt);refine ⟨?_,o,ho,fun e h1 h2=>(h.sub _).2 (.inl (he e h1 h2))⟩;have:¬ VL.getD i false=true:=fun hv=>by
    rcases (h.sub i).1 hv with h1 | h1
    · rw [hal] at h1;cases h1
    · exact hi h1
  simp only [xC6,xBu hlt',xDd] at this ⊢;simpa using this
end
theorem yGm {ops:Array Oper}{nh:Nat}{Q:Exit→Act→World→Prop}{KT:List D→Prop}(hs:yC8 ops nh=true){t:VT}{f:Nat}{VL:Array Bool}{rdy:List Nat}(hrdy:rdy=Region.ready .any ops VL)(hne:rdy≠[])
    (hbr:∀ (L:List Nat) (AL:Array Bool) (s:List D) (a a':Act) (w:World),PInv ops nh L AL VL a a'→t.wp (CT P G) KT s→Rel w0 I0 s a' w→∀ i∈rdy,i∈Region.ready .any ops AL→i∉L→wpOp P ops Q i (wpAny P .any ops Q (f+L.length) (AL.setIfInBounds i true)) a w) :
    ∀ (n:Nat) (L:List Nat) (AL:Array Bool) (s:List D) (a a':Act) (w:World),L.length=n→PInv ops nh L AL VL a a'→t.wp (CT P G) KT s→Rel w0 I0 s a' w→wpAny P .any ops Q (f+1+n) AL a w:=by
  intro n;induction n with
  | zero =>
    intro L AL s a a' w hL hI hk hR;refine ⟨fun h0=>absurd h0 (hI.progress hs (.inr (by rw [← hrdy];exact hne))),fun i hi=>?_⟩;have hni:i∉L:=by rw [xFq.1 hL];simp
    have:=hbr L AL s a a' w hI hk hR i (by rw [hrdy];exact hI.readyV hi hni) hi hni;rw [hL] at this;exact this
  | succ n ih =>
    intro L AL s a a' w hL hI hk hR;refine ⟨fun h0=>absurd h0 (hI.progress hs (.inr (by rw [← hrdy];exact hne))),fun i hi=>?_⟩;by_cases hni:i∈L
    · obtain ⟨o,x,h1,h2,h3,hI'⟩:=hI.exec hs hni hi;have hl:(L.erase i).length=n:=(by rw [xFo hni,hL];rfl);have:=ih (L.erase i) (AL.setIfInBounds i true) s _ a' w hl hI' hk hR;unfold wpOp;simp only [h1];rw [if_pos (by simp [Region.wanted,h2])];refine .inl ?_;unfold Oper.wp;simp only [execOp,h3];exact this
    · have:=hbr L AL s a a' w hI hk hR i (by rw [hrdy];exact hI.readyV hi hni) hi hni;rw [hL,show f+(n+1)=f+1+n by omega] at this;exact this
theorem yQ6 {ops:Array Oper}{Q:Exit→Act→World→Prop}{i:Nat}{o:Oper}{x:Operand}{K:Act→World→Prop}{a:Act}{w:World}(h1:ops[i]?=some o)(h2:o.guard=none)(h3:o.op=.move x)(h:K (a.put o.dst (a.eval x)) w):wpOp P ops Q i K a w:=by unfold wpOp;simp only [h1];rw [if_pos (by simp [Region.wanted,h2])];refine .inl ?_;unfold Oper.wp;simp only [execOp,h3];exact h
theorem yTn {ops:Array Oper} {nh:Nat} {Q:Exit→Act→World→Prop} {KT:List D→Prop} (hs:yC8 ops nh=true) (htl:yJ6 ops nh=true) (hT:∀ s a w,KT s→Rel w0 I0 s a w→wpList P ops Q (ops.toList.drop nh) a w) (hseq:Region.seqB .any ops (ops.size-nh) nh (zCp ops.size nh)=true) :
    ∀ (n:Nat) (L:List Nat) (AL:Array Bool) (s:List D) (a a':Act) (w:World),L.length=n→PInv ops nh L AL (zCp ops.size nh) a a'→KT s→Rel w0 I0 s a' w→wpAny P .any ops Q (ops.size-nh+n) AL a w:=by
  intro n;induction n with
  | zero =>
    intro L AL s a a' w hL hI hk hR;have hL0:L=[]:=xFq.1 hL;subst hL0;have hAL:AL=zCp ops.size nh:=by
      apply xCw;intro k;by_cases hk:k<ops.size
      · have h1:k<AL.size:=(by rw [hI.size];exact hk);have h2:k<(zCp ops.size nh).size:=(by rw [hI.vsize];exact hk);have:=hI.sub k;simp only [xC6,xBu h1,xBu h2,xDd,xGq,or_false] at this;rw [xBu h1,xBu h2];congr 1;exact (xEq.2 this).symm
      · rw [xCr (by rw [hI.size];omega),xCr (by rw [hI.vsize];omega)]
    have ha:a'=a:=(by have h1:a'.tmps=a.tmps:=xCw fun t=>hI.agree t (fun i hi=>by cases hi);have h2:=hI.df;cases a;cases a';simp only at h1 h2;rw [h1,h2]);subst ha;subst hAL;have hl:(ops.toList.drop nh).length=ops.size-nh:=qAh;have:=wpAny_of_seq (P:=P) (md:=.any) (ops:=ops) (Q':=Q) (ops.toList.drop nh) nh (zCp ops.size nh) a' w (fun j=>by simp [xDb]) (by rw [hl];exact hseq) (hT s a' w hk hR);rw [hl] at this;exact this
  | succ n ih =>
    intro L AL s a a' w hL hI hk hR;have hne:L≠[]:=fun e=>by rw [e] at hL;cases hL
    refine ⟨fun h0=>absurd h0 (hI.progress hs (.inl hne)),fun i hi=>?_⟩;obtain ⟨hlt,hal⟩:=zOk hi hI.size;have hiL:i∈L:=by
      by_cases hin:i<nh
      · have hV:(zCp ops.size nh).getD i false=true:=(by rw [xC6,zGz (by rw [← hI.size];exact hlt)];simpa using hin);rcases (hI.sub i).1 hV with h1 | h1
        · rw [hal] at h1;cases h1
        · exact h1
      · exfalso;obtain ⟨m,hm⟩:∃ m,m∈L:=by
          cases L with
          | nil=>exact absurd rfl hne
          | cons m _=>exact ⟨m,by simp⟩
        obtain ⟨_,_,_,hmn,_⟩:=hI.mv m hm;unfold yJ6 at htl;rw [xBx] at htl;have:=htl i (by simp;rw [← hI.size];exact hlt);simp only [xDk,decide_eq_true_eq,xBx] at this;rcases this with h1 | h1
        · exact hin h1
        · have hb:=h1 m (by simpa using hmn);obtain ⟨o,ho,e,he,hbd,h3⟩:=zPq hb;obtain ⟨_,o',ho',hed⟩:=mem_ready.1 hi;rw [ho] at ho';cases ho';have h4:=hed e (by simpa using he) hbd;have h5:AL.getD m false=true:=by
            rcases h3 with rfl | h3
            · exact h4
            · exact hI.closed _ _ h4 h3
          rw [hI.out m hm] at h5;cases h5
    obtain ⟨o,x,h1,h2,h3,hI'⟩:=hI.exec hs hiL hi;exact yQ6 h1 h2 h3 (ih (L.erase i) (AL.setIfInBounds i true) s _ a' w (by rw [xFo hiL,hL];rfl) hI' hk hR)
theorem yKi (hcl:∀ w',w0.Below w'→GI G w' I0) {ops:Array Oper} {nh:Nat} {Q:Exit→Act→World→Prop} {KT:List D→Prop} (hs:yC8 ops nh=true) (htl:yJ6 ops nh=true) (hT:∀ s a w,KT s→Rel w0 I0 s a w→wpList P ops Q (ops.toList.drop nh) a w) {t:VT} {fuel:Nat} {VL:Array Bool} {rdy:List Nat} (ok:OKT P ops nh t fuel VL rdy) :
    ((t=.done∨∃ i o sub,t=.h i o sub)→∀ (L:List Nat) (AL:Array Bool) (s:List D) (a a':Act) (w:World),PInv ops nh L AL VL a a'→t.wp (CT P G) KT s→Rel w0 I0 s a' w→wpAny P .any ops Q (fuel+L.length) AL a w) ∧
    ((t=.nil∨∃ i o sub rest,t=.br i o sub rest)→∀ (L:List Nat) (AL:Array Bool) (s:List D) (a a':Act) (w:World),PInv ops nh L AL VL a a'→t.wp (CT P G) KT s→Rel w0 I0 s a' w→∀ i∈rdy,i∈Region.ready .any ops AL→i∉L→wpOp P ops Q i (wpAny P .any ops Q (fuel-1+L.length) (AL.setIfInBounds i true)) a w):=by
  have up:∀ {t:VT} {f:Nat} {VL:Array Bool},OKT P ops nh t f VL (Region.ready .any ops VL)→(t=.nil→False) →
      (((t=.done∨∃ i o sub,t=.h i o sub)→∀ (L:List Nat) (AL:Array Bool) (s:List D) (a a':Act) (w:World),PInv ops nh L AL VL a a'→t.wp (CT P G) KT s→Rel w0 I0 s a' w→wpAny P .any ops Q (f+L.length) AL a w) ∧
      ((t=.nil∨∃ i o sub rest,t=.br i o sub rest)→∀ (L:List Nat) (AL:Array Bool) (s:List D) (a a':Act) (w:World),PInv ops nh L AL VL a a'→t.wp (CT P G) KT s→Rel w0 I0 s a' w→∀ i∈Region.ready .any ops VL,i∈Region.ready .any ops AL→i∉L→wpOp P ops Q i (wpAny P .any ops Q (f-1+L.length) (AL.setIfInBounds i true)) a w)) →
      ∀ (L:List Nat) (AL:Array Bool) (s:List D) (a a':Act) (w:World),PInv ops nh L AL VL a a'→t.wp (CT P G) KT s→Rel w0 I0 s a' w→wpAny P .any ops Q (f+L.length) AL a w:=by
    intro t f VL ok hnn ih L AL s a a' w hI hk hR;cases t with
    | done=>exact ih.1 (.inl rfl) L AL s a a' w hI hk hR
    | nil=>exact (hnn rfl).elim
    | h i o sub=>exact ih.1 (.inr ⟨_,_,_,rfl⟩) L AL s a a' w hI hk hR
    | br i o sub rest =>
      obtain ⟨f2,is,rfl,hrr⟩:∃ f2 is,f=f2+1∧Region.ready .any ops VL=i::is:=by
        generalize Region.ready .any ops VL=rr at ok;cases ok with
        | br=>exact ⟨_,_,rfl,rfl⟩
      refine yGm hs (t:=.br i o sub rest) (f:=f2) rfl (by rw [hrr];simp) (fun L AL s a a' w hI hk hR j hj hjr hjL=>?_) L.length L AL s a a' w rfl hI hk hR;have:=ih.2 (.inr ⟨_,_,_,_,rfl⟩) L AL s a a' w hI hk hR j hj hjr hjL;simpa using this
  induction ok with
  | @done fuel listed rdy h1 h2 h3=>subst h1;subst h2;exact ⟨fun _ L AL s a a' w hI hk hR=>yTn hs htl hT h3 L.length L AL s a a' w rfl hI hk hR,(fun h=>by rcases h with h | ⟨_,_,_,_,h⟩<;>cases h)⟩
  | nil=>exact ⟨(fun h=>by rcases h with h | ⟨_,_,_,h⟩<;>cases h),(fun _ _ _ _ _ _ _ _ _ _ i hi=>by cases hi)⟩
  | @h i o op sub f listed rdy hop ho hmv hin hrd hsub hsn ih =>
    refine ⟨fun _ L AL s a a' w hI hk hR=>?_,(fun h=>by rcases h with h | ⟨_,_,_,_,h⟩<;>cases h)⟩;simp only [VT.wp] at hk;obtain ⟨hg,x,hx⟩:op.guard=none∧∃ x,op.op=.move x:=by
      unfold yIb at hmv;rw [xA2] at hmv;refine ⟨by simpa using hmv.1,?_⟩;have h2:=hmv.2;split at h2
      · rename_i x e;exact ⟨x,e⟩
      · cases h2
    -- the move, made at once
    obtain ⟨hd,I,Fs,hRI⟩:=hR;have hGw:GI G w I0:=hcl _ hRI.below;have hv:=ho;simp only [cVO,hg,zFr] at hv;cases hcop:cOp P false op.op with
    | none=>simp [hcop] at hv
    | some vop =>
    simp only [hcop,xAv] at hv;subst hv;simp only [zIk] at hk;have hrun:=zQq (nn:=false) hGw hRI (fun h=>by cases h) hcop hk;unfold RunsTo at hrun;simp only [execOp,hx] at hrun;obtain ⟨d,s',I',Fs',F,hK,hR',hT',hF,_⟩:=hrun;have hR2:Rel w0 I0 (match op.dst with | some t=>zN2 s' t d | none=>s') (a'.put op.dst (a'.eval x)) w:=zIn hd hR' hT' hF;obtain ⟨hlt,hvl⟩:=zOk hrd hI.vsize;obtain ⟨_,o',ho',hed⟩:=mem_ready.1 hrd;rw [hop] at ho';cases ho';have hiL:i∉L:=fun hi=>by have:=(hI.sub i).2 (.inr hi);rw [hvl] at this;cases this
    have hal:AL.getD i false=false:=by
      cases h:AL.getD i false with
      | false=>rfl
      | true=>have:=(hI.sub i).2 (.inl h);rw [hvl] at this;cases this
    have hnoself:∀ t,op.dst=some t→t∉op.looksAt ops:=fun t ht hm=>by have:=((zP4 hs hin hin hop hop ht).1 hm).1;omega
    have hopnd:∀ {k:Nat} {ok:Oper} {y:Operand},ops[k]?=some ok→ok.op=.move y→∀ t,y=.tmp t→t∈ok.looksAt ops:=fun h1 h2 t h3=>by unfold Oper.looksAt;refine xCt _ (xF9.2 ⟨.tmp t,?_,rfl⟩);rw [h2,h3];simp [Op.operands]
    have hI2:PInv ops nh (L++[i]) AL (listed.setIfInBounds i true) a (a'.put op.dst (a'.eval x)):=by
      refine ⟨hI.size,by simp [hI.vsize],fun k=>?_,?_,fun k hk=>?_,fun k hk=>?_,?_,?_,fun t ht=>?_,hI.closed⟩
      · rw [zF0 hlt];by_cases hk:k=i
        · subst hk;simp
        · rw [if_neg hk,hI.sub k];simp [hk]
      · rw [xA5];exact ⟨hI.nd,by simp,fun u hu v hv=>by simp at hv;subst hv;exact fun e=>hiL (e▸hu)⟩
      · rcases xBf.1 hk with hk | hk
        · exact hI.out k hk
        · simp at hk;subst hk;exact hal
      · rcases xBf.1 hk with hk | hk
        · obtain ⟨ok,y,h1,h2,h3,h4,h5,h6⟩:=hI.mv k hk;have hne:∀ t,op.dst=some t→y≠.tmp t:=fun t ht hy=>by obtain ⟨_,e,he,hb,hei⟩:=(zP4 hs hin h2 hop h1 ht).1 (hopnd h1 h4 t hy);have:=h6 e he hb;rw [hei,hvl] at this;cases this
          have hki:k≠i:=fun e=>hiL (e▸hk);refine ⟨ok,y,h1,h2,h3,h4,?_,fun e he hb=>?_⟩
          · rw [Act.eval_put hne,Act.put_comm _ _ _ (fun t ht=>?_),h5];rcases (zP4 hs hin h2 hop h1 ht).2 with h7 | h7
            · exact absurd h7.symm hki
            · exact h7
          · rw [zF0 hlt];split
            · rfl
            · exact h6 e he hb
        · simp at hk;subst hk;refine ⟨op,x,hop,hin,hg,hx,?_,fun e he hb=>?_⟩
          · rw [Act.eval_put (fun t ht hy=>hnoself t ht (hopnd hop hx t hy))];cases hdst:op.dst with
            | none=>rfl
            | some t=>simp [Act.put]
          · rw [zF0 hlt];split
            · rfl
            · exact hed e he hb
      · cases hdst:op.dst with
        | none=>exact hI.tm
        | some t=>simp [Act.put,hI.tm]
      · cases hdst:op.dst with
        | none=>exact hI.df
        | some t=>simp [Act.put,hI.df]
      · have h1:=ht i qAh op hop;have h2:(a'.put op.dst (a'.eval x)).tmps[t]?=a'.tmps[t]?:=by
          cases hdst:op.dst with
          | none=>rfl
          | some u=>simp only [Act.put];exact xBe (fun e=>h1 (by rw [hdst,e]))
        rw [h2];exact hI.agree t (fun k hk o ho=>ht k (by simp [hk]) o ho)
    have:=up hsub hsn ih (L++[i]) AL _ a _ w hI2 hK hR2;rw [xC4,xE4] at this;rw [show f+1+L.length=f+(L.length+1) by omega];exact this
  | @br i o op sub rest f listed is hop ho hin hsub hsn hrest hrd hrh ih1 ih2 =>
    refine ⟨(fun h=>by rcases h with h | ⟨_,_,_,h⟩<;>cases h),fun _ L AL s a a' w hI hk hR j hj hjr hjL=>?_⟩;simp only [VT.wp] at hk;by_cases hji:j=i
    · subst hji;obtain ⟨hlt,hal⟩:=zOk hjr hI.size;refine yAn hcl hop ho hk.1 (execOp_congr op (yI9 ho) (hI.eval hs hin hop hjr)) (hI.wanted hs hin hop hjr) (fun s' u w' hk' hR'=>?_) hR;have hvl:j<listed.size:=by rw [hI.vsize,← hI.size];exact hlt
      have hnV:listed.getD j false=false:=by
        cases h:listed.getD j false with
        | false=>rfl
        | true =>
          rcases (hI.sub j).1 h with h1 | h1
          · rw [hal] at h1;cases h1
          · exact absurd h1 hjL
      have hI2:PInv ops nh L (AL.setIfInBounds j true) (listed.setIfInBounds j true) (a.put op.dst u) (a'.put op.dst u):=by
        refine ⟨by simp [hI.size],by simp [hI.vsize],fun k=>?_,hI.nd,fun k hk=>?_,fun k hk=>?_,?_,?_,fun t ht=>?_,zUx hI.closed hjr hlt⟩
        · rw [zF0 hlt,zF0 hvl];by_cases hkj:k=j
          · subst hkj;simp
          · rw [if_neg hkj,if_neg hkj];exact hI.sub k
        · have hkj:k≠j:=fun e=>hjL (e▸hk);rw [zF0 hlt,if_neg hkj];exact hI.out k hk
        · obtain ⟨ok,y,h1,h2,h3,h4,h5,h6⟩:=hI.mv k hk;have hkj:k≠j:=fun e=>hjL (e▸hk);have hne:∀ t,op.dst=some t→y≠.tmp t:=fun t ht hy=>by have hm:t∈ok.looksAt ops:=(by unfold Oper.looksAt;refine xCt _ (xF9.2 ⟨.tmp t,?_,rfl⟩);rw [h4,hy];simp [Op.operands]);obtain ⟨_,e,he,hb,hei⟩:=(zP4 hs hin h2 hop h1 ht).1 hm;have:=h6 e he hb;rw [hei,hnV] at this;cases this
          refine ⟨ok,y,h1,h2,h3,h4,?_,fun e he hb=>?_⟩
          · rw [Act.eval_put hne,Act.put_comm _ _ _ (fun t ht=>?_),h5];rcases (zP4 hs hin h2 hop h1 ht).2 with h7 | h7
            · exact absurd h7.symm hkj
            · exact h7
          · rw [zF0 hvl];split
            · rfl
            · exact h6 e he hb
        · cases hdst:op.dst with
          | none=>exact hI.tm
          | some t=>simp [Act.put,hI.tm]
        · cases hdst:op.dst with
          | none=>exact hI.df
          | some t=>simp [Act.put,hI.df]
        · have h2:=hI.agree t ht;cases hdst:op.dst with
          | none=>exact h2
          | some q =>
            simp only [Act.put];by_cases htq:q=t
            · subst htq;by_cases hb:q<a.tmps.size
              · have hb':q<a'.tmps.size:=(by rw [hI.tm];exact hb);simp [hb,hb']
              · have hb':¬ q<a'.tmps.size:=(by rw [hI.tm];exact hb);simp [hb,hb']
            · rw [xBe htq,xBe htq];exact h2
      have:=up hsub hsn ih1 L (AL.setIfInBounds j true) s' _ _ w' hI2 hk' hR';simpa using this
    · have hj':j∈is:=by
        rcases xBs.1 hj with h | h
        · exact absurd h hji
        · exact h
      cases rest with
      | done=>exact (hrd rfl).elim
      | nil=>cases hrest;cases hj'
      | h i2 o2 s2=>exact (hrh _ _ _ rfl).elim
      | br i2 o2 s2 r2=>exact ih2.2 (.inr ⟨_,_,_,_,rfl⟩) L AL s a a' w hI hk.2 hR j hj' hjr hjL
theorem zXb (hcl:∀ w',w0.Below w'→GI G w' I0) {ops:Array Oper} {nh:Nat} {vc:VCode} (hc:yCc P ops nh=some vc) {VQ:VExit→List D→Prop} {Q:Exit→Act→World→Prop} {s:List D} (hk:vc.wp (CT P G) VQ s) (hQ:∀ s a w,VQ .normal s→Rel w0 I0 s a w→Q .normal a w) {a:Act} {w:World} (h:Rel w0 I0 s a w):RegAny P ops Q a w:=by
  unfold yCc at hc;split at hc
  · rename_i hm;simp only [xA2] at hm;split at hc
    · rename_i t b tail hg ht;simp only [xAv] at hc;subst hc;simp only [VCode.wp] at hk;obtain ⟨ok,hnn⟩:=zTe _ hg;obtain ⟨hd,I,Fs,hR⟩:=h;have hR':Rel w0 I0 s a { w with drawn:=w.drawn+1 }:=⟨hd,I,Fs,hR.world (w':={ w with drawn:=w.drawn+1 }) ((Below.refl _ w).drew)⟩
      have hT:∀ s a w,zLz (CT P G) s tail (VQ .normal)→Rel w0 I0 s a w→wpList P ops Q (ops.toList.drop nh) a w:=fun s a w hk h=>zKe hcl ops (KK:=VQ .normal) hQ _ tail s a w ht hk h;have hgF:∀ i,(Array.replicate ops.size false).getD i false=false:=fun i=>by by_cases hi:i<ops.size<;>simp [hi]
      have hI:PInv ops nh [] (Array.replicate ops.size false) (Array.replicate ops.size false) a a :=
        ⟨by simp,by simp,fun i=>by simp,xC2,(fun i hi=>by cases hi),(fun i hi=>by cases hi),rfl,rfl,fun _ _=>rfl,fun j x hj _=>by simp only [hgF] at hj;cases hj⟩
      have:=yKi (nh:=nh) (Q:=Q) hcl hm.1.1.2 hm.1.2 (KT:=fun s'=>zLz (CT P G) s' tail (VQ .normal)) hT ok;refine ⟨hm.1.1.1,?_⟩;cases t with
      | done=>exact this.1 (.inl rfl) [] _ s a a _ hI hk hR'
      | nil=>exact (hnn rfl).elim
      | h i o sub=>exact this.1 (.inr ⟨_,_,_,rfl⟩) [] _ s a a _ hI hk hR'
      | br i o sub rest =>
        obtain ⟨f2,is,hf,hrr⟩:∃ f2 is,ops.size=f2+1∧Region.ready .any ops (Array.replicate ops.size false)=i::is:=by
          generalize Region.ready .any ops (Array.replicate ops.size false)=rr at ok;generalize Array.replicate ops.size false=ll at ok;generalize ops.size=nn at ok;cases ok with
          | br=>exact ⟨_,_,rfl,rfl⟩
        have h2:=yGm (KT:=fun s'=>zLz (CT P G) s' tail (VQ .normal)) hm.1.1.2 (t:=.br i o sub rest) (f:=f2) rfl (by rw [hrr];simp) (fun L AL s a a' w hI hk hR j hj hjr hjL=>by
          have:=this.2 (.inr ⟨_,_,_,_,rfl⟩) L AL s a a' w hI hk hR j hj hjr hjL;rw [hf] at this;simpa using this) 0 [] _ s a a _ rfl hI hk hR'
        rw [hf];rw [hf] at h2;exact h2
    · cases hc
  · cases hc
end
end Go.V
namespace Go.V
open Go.RowKit
/-! ### Plain moves ahead of a region that draws -/
def NoX (Q:Exit→Act→World→Prop):Prop:=∀ e a w,Q e a w→e=.normal
def yWl (o:Oper):Bool:=match o.op with
  | .move _=>true
  | _=>false
def yYh (ops:Array Oper)(i:Nat):Bool:=match ops[i]? with
  | some o=>yWl o&&o.guard.isNone&&o.after.all (fun e=>!Region.binds .any e)&&Region.free .any ops (Array.replicate ops.size false) i
  | none=>false
def moves (ops:Array Oper):List Nat:=(List.range ops.size).filter (yYh ops)
def zHh (M:List Nat)(i:Nat)(o:Oper):Oper:=if M.contains i=true then o else { o with after:=o.after++(M.map fun j=>(⟨j,.data⟩:Edge)).toArray }
def ahead (M:List Nat)(ops:Array Oper):Array Oper:=ops.mapIdx (zHh M)
section
variable {P:Program} {Q:Exit→Act→World→Prop} {M:List Nat} {ops:Array Oper}
theorem zQm:(ahead M ops).size=ops.size:=by simp [ahead]
theorem zPr (i:Nat):(ahead M ops)[i]?=(ops[i]?).map (zHh M i):=by simp [ahead]
theorem zU8 (i:Nat)(o:Oper):(zHh M i o).dst=o.dst:=by unfold zHh;split<;>rfl
theorem zYl (i:Nat)(o:Oper):(zHh M i o).guard=o.guard:=by unfold zHh;split<;>rfl
theorem zZ0 (tm:Array Value):yielded (ahead M ops) tm=yielded ops tm:=by
  funext j;unfold yielded;rw [zPr];cases ops[j]? with
  | none=>rfl
  | some o=>simp only [xAx,xDq,zU8]
theorem yCi {i:Nat}{K:Act→World→Prop}{a:Act}{w:World}:wpOp P (ahead M ops) Q i K a w=wpOp P ops Q i K a w:=by
  unfold wpOp;rw [zPr];cases ops[i]? with
  | none=>rfl
  | some o =>
    simp only [xAx,zZ0];have h1:Region.wanted (zHh M i o) (yielded ops a.tmps)=Region.wanted o (yielded ops a.tmps):=by unfold Region.wanted;rw [zYl]
    rw [h1,zU8];have h2:(zHh M i o).wp P a w K Q=o.wp P a w K Q:=by unfold zHh;split<;>rfl
    have h3:(zHh M i o).asks P a w=o.asks P a w:=(by unfold zHh;split<;>rfl);rw [h2,h3]
theorem zTr {md:Region.Mode}{listed:Array Bool}(hM:∀ i,i∈M→listed.getD i false=true):Region.ready md (ahead M ops) listed=Region.ready md ops listed:=by
  unfold Region.ready;rw [zQm];refine List.filter_congr fun i _=>?_;rw [zPr];cases ops[i]? with
  | none=>rfl
  | some o =>
    simp only [xAx,xDd];congr 1;unfold zHh;split
    · rfl
    · have:((M.map fun j=>(⟨j,.data⟩:Edge)).toArray.all fun e=>!Region.binds md e||listed.getD e.on false)=true:=(by rw [xFt];intro e he;obtain ⟨j,hj,rfl⟩:=xB1.1 (by simpa using he);simp only [hM j hj,xCx]);rw [Array.all_append,this,xCp]
theorem zYk {md:Region.Mode}:∀ (fuel:Nat) (listed:Array Bool) (a:Act) (w:World),(∀ i,i∈M→listed.getD i false=true)→wpAny P md (ahead M ops) Q fuel listed a w→wpAny P md ops Q fuel listed a w
  | 0,listed,a,w,hM,h=>by obtain ⟨h1,h2⟩:=h;rw [zTr hM] at h1;exact ⟨h1,h2⟩
  | fuel+1,listed,a,w,hM,h=>by
    obtain ⟨h1,h2⟩:=h;rw [zTr hM] at h1 h2;refine ⟨h1,fun i hi=>?_⟩;have:=h2 i hi;rw [yCi] at this;refine wpOp_mono (fun a' w' h3=>zYk fuel _ a' w' (fun j hj=>?_) h3) this;by_cases hji:i=j
    · subst hji;have:=hM i hj;have hlt:i<listed.size:=by
        rcases xF7 i listed.size with h' | h'
        · exact h'
        · simp [xCr h'] at this
      simp [hlt]
    · have:=hM j hj;simpa [xC6,xBe hji] using this
theorem yIp {i:Nat}(h:Region.free .any ops (Array.replicate ops.size false) i=true)(listed:Array Bool):Region.free .any ops listed i=true:=by
  unfold Region.free at h ⊢;split at h
  · cases h
  · rename_i oi hoi;rw [xBx] at h ⊢;intro j hj;have:=h j hj;have hlt:j<ops.size:=by simpa using hj
    have hf:(Array.replicate ops.size false).getD j true=false:=(by simp [hlt]);rw [hf,xCv] at this;rcases xFl.1 this with h1 | h1
    · rw [h1];simp
    · rw [Bool.or_assoc,h1];simp
theorem zS3 (hs:Region.noSelect ops=true) (hQ:NoX Q) (f:Nat):∀ (L:List Nat) (listed:Array Bool) (a:Act) (w:World),listed.size=ops.size→(∀ i,i∈M→i∈L∨listed.getD i false=true)→(∀ i,i∈L→yYh ops i=true∧i∈M∧listed.getD i true=false)→L.Nodup→wpAny P .any (ahead M ops) Q (f+L.length) listed a w→wpAny P .any ops Q (f+L.length) listed a w
  | [],listed,a,w,_,hM,_,_,h=>zYk _ _ _ _ (fun i hi=>(hM i hi).resolve_left qAh) h
  | i :: L,listed,a,w,hsz,hM,hL,hnd,h=>by
    obtain ⟨hok,hiM,hli⟩:=hL i qAh;unfold yYh at hok;cases ho:ops[i]? with
    | none=>rw [ho] at hok;cases hok
    | some o =>
    rw [ho] at hok;simp only [xA2] at hok;obtain ⟨⟨⟨hmv,hg⟩,haf⟩,hfr⟩:=hok;have hlt:i<ops.size:=(xBg.1 ho).1;obtain ⟨x,hx⟩:∃ x,o.op=.move x:=by unfold yWl at hmv;cases hop:o.op<;>rw [hop] at hmv<;>first | exact ⟨_,rfl⟩ | simp at hmv
    have hgn:o.guard=none:=(by simpa using hg);have hall:(o.after.all fun e=>!Region.binds .any e||listed.getD e.on false)=true:=(by rw [xFt] at haf ⊢;intro e he;rw [haf e he];rfl);have hself:zHh M i o=o:=(by unfold zHh;rw [if_pos (by simpa using hiM)]);have hr1:i∈Region.ready .any (ahead M ops) listed:=(by unfold Region.ready;rw [xEo,zQm,zPr,ho];refine ⟨by simpa using hlt,?_⟩;simp only [xAx,xDd,hself,hli,hall];rfl);have hr2:i∈Region.ready .any ops listed:=(by unfold Region.ready;rw [xEo,ho];refine ⟨by simpa using hlt,?_⟩;simp only [xAx,xDd,hli,hall];rfl);have hrun:∀ w,(execOp a.eval o).run P w=.ok (.value (a.eval x)) w:=fun w=>by unfold execOp;rw [hx];rfl
    have hwant:∀ y,Region.wanted o y=true:=fun y=>by unfold Region.wanted;rw [hgn]
    have h2:=h.2 i hr1;rw [yCi] at h2;unfold wpOp at h2;simp only [ho,hwant,if_true] at h2;have h3:wpAny P .any (ahead M ops) Q (f+L.length) (listed.setIfInBounds i true) (a.put o.dst (a.eval x)) w:=by
      rcases h2 with h2 | ⟨_,b,v,h2⟩
      · unfold Oper.wp at h2;rw [hrun] at h2;exact h2
      · have:=hQ _ _ _ h2;cases this
    have h4:=zS3 hs hQ f L (listed.setIfInBounds i true) (a.put o.dst (a.eval x)) w (by simpa using hsz) (fun j hj=>?_) (fun j hj=>?_) (xB8.1 hnd).2 h3
    · exact wpAny_take ho hs (yIp hfr listed) (by simpa using hr2) (fun c a w h=>by have:=hQ _ _ _ h;cases this) (.inl ⟨hwant _,hrun⟩) h4
    · by_cases hji:i=j
      · subst hji;exact .inr (by simp [hsz,hlt])
      · rcases hM j hj with h5 | h5
        · rcases xBs.1 h5 with h6 | h6
          · exact absurd h6.symm hji
          · exact .inl h6
        · exact .inr (by simpa [xC6,xBe hji] using h5)
    · obtain ⟨k1,k2,k3⟩:=hL j (xCc _ hj);have hji:i≠j:=fun e=>by subst e;exact (xB8.1 hnd).1 hj
      exact ⟨k1,k2,by simpa [xC6,xBe hji] using k3⟩
theorem yGo (hs:Region.noSelect ops=true)(hQ:NoX Q){a:Act}{w:World}(h:RegAny P (ahead (moves ops) ops) Q a w):RegAny P ops Q a w:=by
  refine ⟨h.1,?_⟩;have h2:=h.2;rw [zQm] at h2;have hle:(moves ops).length≤ops.size:=by have:=List.length_filter_le (yYh ops) (List.range ops.size);simpa [moves] using this
  obtain ⟨f,hf⟩:∃ f,ops.size=f+(moves ops).length:=⟨ops.size-(moves ops).length,by omega⟩
  have key:=zS3 (P:=P) (M:=moves ops) hs hQ f (moves ops) (Array.replicate ops.size false) a { w with drawn:=w.drawn+1 } qAh (fun i hi=>.inl hi) (fun i hi=>?_) ?_
  · rw [← hf] at key;exact key h2
  · have hi':=hi;unfold moves at hi;rw [xEo] at hi;have hlt:i<ops.size:=(by simpa using hi.1);exact ⟨hi.2,hi',by simp [hlt]⟩
  · exact List.Nodup.sublist List.filter_sublist xGr
end
end Go.V
