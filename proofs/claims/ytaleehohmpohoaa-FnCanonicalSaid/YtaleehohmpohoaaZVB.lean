/- Laws that the proof stands on. -/
import Derived.Test.YtaleehohmpohoaaZLib
import Derived.Test.YtaleehohmpohoaaZMark
import Derived.Test.YtaleehohmpohoaaZVd
set_option linter.all false
namespace Go.Proofs.Ytaleehohmpohoaa
open Go.RowKit Go.V
structure TD {α:Type} (t:Ty α) where
  d:Bool→α→List D
  ok:α→Prop
  rep:∀ {w:World} {B:Nat} {cs:List Value} {x:α},t.rep w B cs x→Cells (fun b=>b<B) w (d false x) nil cs []
  rep_ok:∀ {w:World} {B:Nat} {cs:List Value} {x:α},t.rep w B cs x→ok x
  imm:∀ (o:Bool) (x:α),zL7 (d o x)=d false x
  nim:∀ x:α,zBm (d true x)=true
  own:∀ {I:Nat→Prop} {w:World} {cs:List Value} {x:α} {F:List Nat},ok x→Cells I w (d true x) nil cs F→t.own w cs x F
  up:∀ {w:World} {cs:List Value} {x:α} {F:List Nat},t.own w cs x F→Cells (fun b=>b∈F) w (d false x) nil cs []
  dn:∀ {w:World} {B:Nat} {cs:List Value} {x:α},ok x→Cells (fun b=>b<B) w (d false x) nil cs []→t.rep w B cs x
theorem zUl:∀ xs ys:List D,zBm (xs++ys)=(zBm xs&&zBm ys)
  | [],_=>by simp [zBm]
  | x::xs,ys=>by simp only [xBi,zBm,zUl xs ys,Bool.and_assoc]
theorem zEf {α:Type}{f:α→List D}(h:∀ x,zBm (f x)=true):∀ xs:List α,zF9 (xs.map f)=true
  | []=>by simp [zF9]
  | x::xs=>by simp only [xA6,zF9,h,zEf h xs];rfl
namespace TD
variable {α β:Type}
theorem cells_one {I:Nat→Prop}{w:World}{ρ:D→Value→Prop}{x:D}{cs:List Value}{F:List Nat}(h:Cells I w [x] ρ cs F):∃ u,cs=[u]∧T I w x ρ u F:=by simp only [Cells] at h;obtain ⟨u,us,F1,F2,e,eF,_,h1,e2,e3⟩:=h;subst e2;subst e3;exact ⟨u,e,by rw [eF,xBw];exact h1⟩
theorem zHg {I:Nat→Prop}{w:World}{ρ:D→Value→Prop}{x:D}{u:Value}{F:List Nat}(ho:u.oneCell'=true)(h:T I w x ρ u F):Cells I w [x] ρ [u] F:=by simp only [Cells];exact ⟨u,[],F,[],rfl,by simp,ho,h,rfl,rfl⟩
theorem zTm {I:Nat→Prop}{w:World}{ρ:D→Value→Prop}:∀ {xs ys:List D} {c1 c2:List Value} {F G:List Nat},Cells I w xs ρ c1 F→Cells I w ys ρ c2 G→Cells I w (xs++ys) ρ (c1++c2) (F++G)
  | [],ys,c1,c2,F,G,h,k=>by simp only [Cells] at h;rw [h.1,h.2];exact k
  | x::xs,ys,c1,c2,F,G,h,k=>by simp only [Cells,xBi] at h ⊢;obtain ⟨u,us,F1,F2,e,eF,ho,h1,h2⟩:=h;exact ⟨u,us++c2,F1,F2++G,by rw [e];rfl,by rw [eF,xDn],ho,h1,zTm h2 k⟩
theorem zMb {I:Nat→Prop}{w:World}{ρ:D→Value→Prop}:∀ {xs ys:List D} {cs:List Value} {F:List Nat},Cells I w (xs++ys) ρ cs F→∃ c1 c2 F1 F2,cs=c1++c2∧F=F1++F2∧Cells I w xs ρ c1 F1∧Cells I w ys ρ c2 F2
  | [],ys,cs,F,h=>⟨[],cs,[],F,rfl,rfl,by simp [Cells],h⟩
  | x::xs,ys,cs,F,h=>by simp only [Cells,xBi] at h;obtain ⟨u,us,F1,F2,e,eF,ho,h1,h2⟩:=h;obtain ⟨c1,c2,G1,G2,e1,e2,k1,k2⟩:=zMb h2;exact ⟨u::c1,c2,F1++G1,G2,by rw [e,e1];rfl,by rw [eF,e2,xDn],by simp only [Cells];exact ⟨u,c1,F1,G1,rfl,rfl,ho,h1,k1⟩,k2⟩
def int (k:IntKind):TD (Ty.int k) where
  d:=fun _ x=>[.v (.int k x)]
  ok:=InK k
  rep:=fun h=>by rw [h.1];exact zHg rfl qBi
  rep_ok:=fun h=>h.2
  imm:=fun o x=>by simp [zL7,D.imm]
  nim:=fun x=>by simp [zBm,D.noImm]
  own:=fun hk h=>by obtain ⟨u,e,h⟩:=cells_one h;simp only [T] at h;exact ⟨by rw [e,h.1],hk,h.2⟩
  up:=fun h=>by rw [h.1];exact zHg rfl qBi
  dn:=fun hk h=>by obtain ⟨u,e,h⟩:=cells_one h;simp only [T] at h;exact ⟨by rw [e,h.1],hk⟩
def bool:TD Ty.bool where
  d:=fun _ x=>[.v (.bool x)]
  ok:=fun _=>True
  rep:=fun h=>by have h:_=[_]:=h;rw [h];exact zHg rfl qBi
  rep_ok:=fun _=>trivial
  imm:=fun o x=>by simp [zL7,D.imm]
  nim:=fun x=>by simp [zBm,D.noImm]
  own:=fun _ h=>by obtain ⟨u,e,h⟩:=cells_one h;simp only [T] at h;exact ⟨by rw [e,h.1],h.2⟩
  up:=fun h=>by have h:=h.1;rw [h];exact zHg rfl qBi
  dn:=fun _ h=>by obtain ⟨u,e,h⟩:=cells_one h;simp only [T] at h;show _=_;rw [e,h.1]
def str:TD Ty.str where
  d:=fun _ x=>[.v (.string x)]
  ok:=fun x=>x.size≤maxLen
  rep:=fun h=>by rw [h.1];exact zHg rfl qBi
  rep_ok:=fun h=>h.2
  imm:=fun o x=>by simp [zL7,D.imm]
  nim:=fun x=>by simp [zBm,D.noImm]
  own:=fun hk h=>by obtain ⟨u,e,h⟩:=cells_one h;simp only [T] at h;exact ⟨by rw [e,h.1],hk,h.2⟩
  up:=fun h=>by rw [h.1];exact zHg rfl qBi
  dn:=fun hk h=>by obtain ⟨u,e,h⟩:=cells_one h;simp only [T] at h;exact ⟨by rw [e,h.1],hk⟩
def unit:TD Ty.unit where
  d:=fun _ _=>[]
  ok:=fun _=>True
  rep:=fun h=>by have h:_=[]:=h;rw [h];simp [Cells]
  rep_ok:=fun _=>trivial
  imm:=fun o x=>by simp [zL7,D.imm]
  nim:=fun x=>by simp [zBm,D.noImm]
  own:=fun _ h=>by simp only [Cells] at h;exact h
  up:=fun h=>by have h:=h.1;rw [h];simp [Cells]
  dn:=fun _ h=>by simp only [Cells] at h;exact h.1
def prod {t:Ty α}{s:Ty β}(a:TD t)(b:TD s):TD (Ty.prod t s) where
  d:=fun o x=>a.d o x.1++b.d o x.2
  ok:=fun x=>a.ok x.1∧b.ok x.2
  rep:=fun ⟨c1,c2,e,h1,h2⟩=>by rw [e];exact zTm (G:=[]) (F:=[]) (a.rep h1) (b.rep h2)
  rep_ok:=fun ⟨c1,c2,e,h1,h2⟩=>⟨a.rep_ok h1,b.rep_ok h2⟩
  imm:=fun o x=>by rw [yBo,a.imm,b.imm]
  nim:=fun x=>by rw [zUl,a.nim,b.nim];rfl
  own:=fun hk h=>by obtain ⟨c1,c2,F1,F2,e1,e2,k1,k2⟩:=zMb h;exact ⟨c1,c2,F1,F2,e1,e2,a.own hk.1 k1,b.own hk.2 k2⟩
  up:=fun ⟨c1,c2,F1,F2,e,eF,h1,h2⟩=>by rw [e,eF];exact zTm (F:=[]) (G:=[]) (Cells.mono (fun b hb=>xCt _ hb) _ (a.up h1)) (Cells.mono (fun b hb=>xC3 _ hb) _ (b.up h2))
  dn:=fun hk h=>by obtain ⟨c1,c2,F1,F2,e1,e2,k1,k2⟩:=zMb h;have e2:=e2.symm;simp only [xD2] at e2;obtain ⟨rfl,rfl⟩:=e2;exact ⟨c1,c2,e1,a.dn hk.1 k1,b.dn hk.2 k2⟩
def via {s:Ty β}(b:TD s)(f:α→β):TD (Ty.via s f) where
  d:=fun o x=>b.d o (f x)
  ok:=fun x=>b.ok (f x)
  rep:=fun h=>b.rep h
  rep_ok:=fun h=>b.rep_ok h
  imm:=fun o x=>b.imm o (f x)
  nim:=fun x=>b.nim (f x)
  own:=fun hk h=>b.own hk h
  up:=fun h=>b.up h
  dn:=fun hk h=>b.dn hk h
theorem yGc {t:Ty α}(a:TD t){w:World}:∀ {raw:List Value} {xs:List α} {F:List Nat},RowsO (t.own w) raw xs F→Go.V.Rows (fun b=>b∈F) w t.size (xs.map (a.d false)) raw []
  | raw,[],F,h=>by have h:raw=[]:=h.1;simp [Go.V.Rows,h]
  | raw,x::xs,F,⟨cs,raw',F1,F2,e,eF,h1,h2⟩=>by simp only [xA6,Go.V.Rows];rw [eF];exact ⟨cs,raw',[],[],e,rfl,t.own_len h1,Cells.mono (fun b hb=>xCt _ hb) _ (a.up h1),Go.V.Rows.mono (fun b hb=>xC3 _ hb) _ _ (yGc a h2)⟩
theorem yGd {t:Ty α}(a:TD t){w:World}{B:Nat}:∀ {raw:List Value} {xs:List α},(∀ x,x∈xs→a.ok x)→Go.V.Rows (fun b=>b<B) w t.size (xs.map (a.d false)) raw []→RowsR (t.rep w B) raw xs
  | raw,[],_,h=>by simp only [xBl,Go.V.Rows] at h;exact h.1
  | raw,x::xs,hk,h=>by simp only [xA6,Go.V.Rows] at h;obtain ⟨us,raw',F1,F2,e,eF,hl,h1,h2⟩:=h;have eF:=eF.symm;simp only [xD2] at eF;obtain ⟨rfl,rfl⟩:=eF;exact ⟨us,raw',e,a.dn (hk x qAh) h1,yGd a (fun y hy=>hk y qA9) h2⟩
theorem yAw {t:Ty α}(a:TD t){w:World}{B:Nat}:∀ {raw:List Value} {xs:List α},RowsR (t.rep w B) raw xs→Go.V.Rows (fun b=>b<B) w t.size (xs.map (a.d false)) raw []
  | raw,[],h=>by have h:raw=[]:=h;simp [Go.V.Rows,h]
  | raw,x::xs,⟨cs,raw',e,h1,h2⟩=>by simp only [xA6,Go.V.Rows];exact ⟨cs,raw',[],[],e,rfl,t.rep_len h1,a.rep h1,yAw a h2⟩
theorem yAx {t:Ty α}(a:TD t){I:Nat→Prop}{w:World}:∀ {raw:List Value} {xs:List α} {F:List Nat},(∀ x,x∈xs→a.ok x)→Go.V.Rows I w t.size (xs.map (a.d true)) raw F→RowsO (t.own w) raw xs F
  | raw,[],F,_,h=>by simpa [Go.V.Rows,RowsO] using h
  | raw,x::xs,F,hk,h=>by simp only [xA6,Go.V.Rows] at h;obtain ⟨us,raw',F1,F2,e,eF,hl,h1,h2⟩:=h;exact ⟨us,raw',F1,F2,e,eF,a.own (hk x qAh) h1,yAx a (fun y hy=>hk y qA9) h2⟩
def slice (e:TypeId) {t:Ty α} (a:TD t):TD (Ty.slice e t) where
  d:=fun o xs=>[.sl o t.size (xs.map (a.d o))]
  ok:=fun xs=>∀ x,x∈xs→a.ok x
  rep:=fun {w B cs xs} ⟨p,c,h1,h2,h3,h4⟩=>by
    rw [h1];refine zHg rfl ?_;simp only [T,xAw];refine ⟨p,c,rfl,h2,h3,.inl ⟨trivial,trivial,?_⟩⟩;cases xs with
    | nil=>exact .inl rfl
    | cons x xs=>obtain ⟨b,o,raw,ha,hb,hc,hr⟩:=h4 qAh;exact .inr ⟨b,o,raw,ha,hb,hc,yAw a hr⟩
  rep_ok:=fun {w B cs xs} ⟨p,c,h1,h2,h3,h4⟩=>by
    cases xs with
    | nil=>intro x hx;cases hx
    | cons x xs=>obtain ⟨b,o,raw,ha,hb,hc,hr⟩:=h4 qAh;intro y hy;obtain ⟨i,hi,rfl⟩:=xFk hy;obtain ⟨cs',hx,_⟩:=hr.get (fun _ _=>t.rep_len) i hi;exact a.rep_ok hx
  imm:=fun o xs=>by simp only [zL7,D.imm];rw [zFl (a.imm o)]
  nim:=fun xs=>by simp only [zBm,D.noImm];rw [zEf a.nim];rfl
  own:=fun {I w cs xs F} hk h=>by
    obtain ⟨u,e1,h⟩:=cells_one h;simp only [T,xAw] at h;obtain ⟨p,c,hu,h1,h2,h3⟩:=h;refine ⟨p,c,by rw [e1,hu],h1,h2,?_⟩;rcases h3 with ⟨ho,_⟩ | ⟨_,⟨_,hc,hF⟩ | ⟨b,o,cells,ew,raw,F',ha,hh,hs,hr,hF,hR⟩⟩
    · cases ho
    · exact .inl ⟨xCb qAc,hF⟩
    · exact .inr ⟨b,o,cells,ew,raw,F',ha,hh,fun j u hj=>by rw [← hr j u hj,zBh hh],yAx a hk hR,hF⟩
  up:=fun {w cs xs F} ⟨p,c,e,h1,h2,h3⟩=>by
    rw [e];refine zHg rfl ?_;simp only [T,xAw];refine ⟨p,c,rfl,h1,h2,.inl ⟨trivial,trivial,?_⟩⟩;rcases h3 with ⟨rfl,_⟩ | ⟨b,o,cells,ew,raw,F',ha,hh,hc,hr,hF⟩
    · exact .inl rfl
    · refine .inr ⟨b,o,raw,ha,by rw [hF];simp,fun j u hj=>by rw [zBh hh];exact hc j u hj,?_⟩;rw [hF];exact Go.V.Rows.mono (fun b hb=>xCc _ hb) _ _ (yGc a hr)
  dn:=fun {w B cs xs} hk h=>by
    obtain ⟨u,e1,h⟩:=cells_one h;simp only [T,xAw] at h;obtain ⟨p,c,hu,h1,h2,h3⟩:=h;refine ⟨p,c,by rw [e1,hu],h1,h2,fun hp=>?_⟩;rcases h3 with ⟨_,_,hr | ⟨b,o,raw,ha,hb,hr,hR⟩⟩ | ⟨ho,_⟩
    · simp only [xEl] at hr;rw [hr] at hp;simp at hp
    · exact ⟨b,o,raw,ha,hb,hr,yGd a hk hR⟩
    · cases ho
theorem arg_slice {e:TypeId}{t:Ty α}(a:TD t){w:World}{B:Nat}{v:Value}{xs:List α}(h:(Ty.slice e t).rep w B [v] xs):T (fun b=>b<B) w (.sl false t.size (xs.map (a.d false))) nil v []:=by obtain ⟨u,e1,h⟩:=cells_one ((slice e a).rep h);simp only [xCo,and_true] at e1;rw [e1];exact h
end TD
abbrev rI (x:Int):List D:=[.v (.int .i64 x)]
abbrev rB8 (x:Int):List D:=[.v (.int .u8 x)]
abbrev rBo (x:Bool):List D:=[.v (.bool x)]
abbrev rS (x:ByteArray):List D:=[.v (.string x)]
theorem TD.rows {α:Type}{t:Ty α}(a:TD t)(o:Bool)(xs:List α):zGa (xs.map (a.d o))=xs.map (a.d false):=zFl (a.imm o) xs
theorem TD.nims {α:Type}{t:Ty α}(a:TD t)(xs:List α):zF9 (xs.map (a.d true))=true:=zEf a.nim xs
theorem zOr (xs:List Int):zF9 (xs.map rI)=true:=zEf (fun _=>by simp [zBm,D.noImm]) xs
theorem zIt (xs:List Int):zF9 (xs.map rB8)=true:=zEf (fun _=>by simp [zBm,D.noImm]) xs
theorem zIs (xs:List Bool):zF9 (xs.map rBo)=true:=zEf (fun _=>by simp [zBm,D.noImm]) xs
theorem zOq (xs:List ByteArray):zF9 (xs.map rS)=true:=zEf (fun _=>by simp [zBm,D.noImm]) xs
theorem zAw (xs:List Int):zGa (xs.map rI)=xs.map rI:=zFl (fun _=>by simp [zL7,D.imm]) xs
theorem zAt (xs:List Int):zGa (xs.map rB8)=xs.map rB8:=zFl (fun _=>by simp [zL7,D.imm]) xs
theorem zAs (xs:List Bool):zGa (xs.map rBo)=xs.map rBo:=zFl (fun _=>by simp [zL7,D.imm]) xs
theorem zA0 (xs:List ByteArray):zGa (xs.map rS)=xs.map rS:=zFl (fun _=>by simp [zL7,D.imm]) xs
theorem zAv (xs:List (List Int)):zGa (xs.map (fun x=>[D.sl false 1 (x.map rI)]))=xs.map (fun x=>[D.sl false 1 (x.map rI)]):=zFl (fun x=>by simp only [zL7,D.imm,zAw]) xs
theorem zAq (xs:List (List Int)):zGa (xs.map (fun x=>[D.sl true 1 (x.map rI)]))=xs.map (fun x=>[D.sl false 1 (x.map rI)]):=zFl (fun x=>by simp only [zL7,D.imm,zAw]) xs
theorem zZk {neg o:Bool}{z z':Nat}{rows rows':List (List D)}{s:List D}{K:D→List D→Prop}(h:∀ b,(b=(!neg)→rows=[])→K (.v (.bool b)) s):yBh neg (.sl o z rows') (some (z',rows)) s K:=by refine ⟨fun hr=>h _ (fun e=>by cases neg<;>cases e),fun hr=>⟨h _ (fun _=>hr),h _ (fun _=>hr)⟩⟩
structure CapsOK (caps:List D):Prop where
  owny:zDy caps=false
  pr:∀ q,zAc q caps=caps
  d8:∀ s,caps.map (deep s 8)=caps
  d7:∀ s,caps.map (deep s 7)=caps
def yJk {α:Type}(p:α→Bool)(xs:List α):Int:=match xs.findIdx? p with
  | some i=>(i:Int)
  | none => -1
theorem zZ4 {α:Type}(p:α→Bool)(xs:List α):decide (0≤yJk p xs)=xs.any p:=by
  unfold yJk;cases h:xs.findIdx? p with
  | none =>
    rw [xEb] at h;have:xs.any p=false:=by simpa using h
    simp [this]
  | some i=>have h2:(xs.findIdx? p).isSome=true:=(by rw [h];rfl);rw [List.findIdx?_isSome] at h2;simp [h2]
theorem zVi {α:Type}(p:α→Bool)(xs:List α)(i:Nat)(hi:i<xs.length)(h0:∀ j (hj:j<xs.length),j<i→p xs[j]=false)(h:p xs[i]=true):yJk p xs=(i:Int):=by have:xs.findIdx? p=some i:=(by rw [xEn];exact ⟨hi,h,fun j hj=>by simpa using h0 j qAc hj⟩);simp [yJk,this]
theorem zR8 {α:Type}(p:α→Bool)(xs:List α)(h0:∀ j (hj:j<xs.length),p xs[j]=false):yJk p xs = -1:=by have:xs.findIdx? p=none:=(by rw [xEb];intro x hx;obtain ⟨i,hi,rfl⟩:=xFk hx;exact h0 i hi);simp [yJk,this]
theorem Contract.at {P:Program}{G:World→(Nat→Prop)→Prop}{f:FuncId}{args:List D}{d:D}(h:Contract P G f args d){w:World}{B:Nat}{us:List Value}(hG:GI G w (fun b=>b<B))(hB:B≤w.heap.size)(hV:Vals (fun b=>b<B) w args nil us []) :
    Calls P f us.toArray w fun e w'=>(∃ v I F,e=.returned v∧T I w' d nil v F∧F.Nodup∧∀ b,b∈F→w.heap.size≤b∧b<w'.heap.size)∧Below w.heap.size w w' :=
  (h.2 w (fun b=>b<B) us hG (fun b hb=>xCj hb hB) hV).mono fun e w' ⟨v,F,I,h1,h2,h3,h4,h5,_,_⟩ =>
    ⟨⟨v,I,F,h1,h3,h4,fun b hb=>⟨(h5 b hb).1,(h5 b hb).2.1⟩⟩,h2⟩
theorem yEu {I:Nat→Prop}{w:World}{x:D}{xs:List D}{u:Value}{us:List Value}(h:T I w x nil u [])(k:Vals I w xs nil us []):Vals I w (x::xs) nil (u::us) []:=by simp only [Vals];exact ⟨u,us,[],[],rfl,rfl,h,k⟩
theorem yJw {I:Nat→Prop}{w:World}:Vals I w [] nil [] []:=by simp [Vals]
theorem T_v {I:Nat→Prop}{w:World}{x u:Value}{F:List Nat}(h:T I w (.v x) nil u F):u=x:=by simp only [T] at h;exact h.1
theorem zWl {α:Type}(p:α→Bool)(xs:List α):xs.any (fun x=>!p x)=!xs.all p:=by
  induction xs with
  | nil=>rfl
  | cons x xs ih=>simp only [List.any_cons,xBm,ih,Bool.not_and]
section
variable {P:Program} {G:World→(Nat→Prop)→Prop} {s:List D} {K:D→List D→Prop}
theorem zAr {f:FuncId}{args:List Operand}{A args':List D}{d:D}(hC:Contract P G f args' d)(hA:(args.map fun x=>deep s 8 (raw s x))=A)(hK:K d s)(he:leL A args':=by repeat (first | exact zEh | refine zDf ?_ ?_ | exact le_of_eq rfl | exact zDe (zBs rfl) | refine zGx ?_ | exact zGw rfl (TD.rows ..) | refine zEg ?_ | refine zL0 ?_ ?_ | exact zCg))(hi:d.noImm=true∨((args.map fun x=>raw s x).all D.noRef)=true:=by first | exact .inl rfl | exact .inr rfl | exact .inl qCb):zAh (CT P G) s (.callX f args) K :=
  yNm hC hA he hi hK
theorem zD1 {f:FuncId}{args:List Operand}{i r:Nat}{tag:Option Nat}{cells A args' cells0:List D}{d:D}{cells':List D}(hC:ContractX P G f i args' cells0 d cells')(hi:(args.map fun x=>raw s x)[i]?=some (.ptr r [] 0 0))(hs:s[r]?=some (.box tag cells))
    (hA:((args.map fun x=>raw s x).map (D.prune (zAd r))).map (deep ((zAc (zAd r) s).set r .undef) 8)=A) (hK:K d ((zAc (zF7 r) s).set r (.box tag cells'))) (hle:leL A args':=by repeat (first | exact zEh | refine zDf ?_ ?_ | exact le_of_eq rfl | exact zDe (zBs rfl) | refine zGx ?_ | exact zGw rfl (TD.rows ..) | refine zEg ?_ | refine zL0 ?_ ?_ | exact zCg)) (hlc:leL (zAc (fun _=>false) cells) cells0:=by repeat (first | exact zEh | refine zDf ?_ ?_ | exact le_of_eq rfl | exact zDe (zBs rfl) | refine zGx ?_ | exact zGw rfl (TD.rows ..) | refine zEg ?_ | refine zL0 ?_ ?_ | exact zCg)) (hn:(d.noImm=true∧zBm cells'=true)∨((args.map fun x=>raw s x).map (D.prune (zAd r))).all D.noRef=true:=by first | exact .inr rfl | exact .inl ⟨rfl,rfl⟩ | exact .inl ⟨by simp only [D.noImm,zBm,go_sem,TD.nims,TD.nim,zOr,zIt,zIs,zOq],by simp only [D.noImm,zBm,go_sem,TD.nims,TD.nim,zOr,zIt,zIs,zOq]⟩):zAh (CT P G) s (.callX f args) K :=
  yNo hC hi hs hA hle hlc hn hK
theorem yI8 {f:FuncId}{args:List Operand}{s':List D}(t:Nat){i r:Nat}{tag:Option Nat}{cells A args' cells0:List D}{d:D}{cells':List D}(hC:ContractX P G f i args' cells0 d cells')(hf:frz t s=s')(hi:(args.map fun x=>raw s' x)[i]?=some (.ptr r [] 0 0))(hs:s'[r]?=some (.box tag cells))
    (hA:((args.map fun x=>raw s' x).map (D.prune (zAd r))).map (deep ((zAc (zAd r) s').set r .undef) 8)=A) (hK:K d ((zAc (zF7 r) s').set r (.box tag cells'))) (hle:leL A args':=by repeat (first | exact zEh | refine zDf ?_ ?_ | exact le_of_eq rfl | exact zDe (zBs rfl) | refine zGx ?_ | exact zGw rfl (TD.rows ..) | refine zEg ?_ | refine zL0 ?_ ?_ | exact zCg)) (hlc:leL (zAc (fun _=>false) cells) cells0:=by repeat (first | exact zEh | refine zDf ?_ ?_ | exact le_of_eq rfl | exact zDe (zBs rfl) | refine zGx ?_ | exact zGw rfl (TD.rows ..) | refine zEg ?_ | refine zL0 ?_ ?_ | exact zCg)) (hn:(d.noImm=true∧zBm cells'=true)∨((args.map fun x=>raw s' x).map (D.prune (zAd r))).all D.noRef=true:=by first | exact .inr rfl | exact .inl ⟨rfl,rfl⟩ | exact .inl ⟨by simp only [D.noImm,zBm,go_sem,TD.nims,TD.nim,zOr,zIt,zIs,zOq],by simp only [D.noImm,zBm,go_sem,TD.nims,TD.nim,zOr,zIt,zIs,zOq]⟩):zAh (CT P G) s (.callX f args) K :=
  yNn t hC hf hi hs hA hle hlc hn hK
theorem zK5 {f:FuncId}{args:List Operand}{A args':List D}{d:D}(hC:Contract P G f args' d)(hA:(args.map fun x=>deep s 8 (raw s x))=A)(hK:K d s)(he:leL A args':=by repeat (first | exact zEh | refine zDf ?_ ?_ | exact le_of_eq rfl | exact zDe (zBs rfl) | refine zGx ?_ | exact zGw rfl (TD.rows ..) | refine zEg ?_ | refine zL0 ?_ ?_ | exact zCg))(hi:d.noImm=true∨((args.map fun x=>raw s x).all D.noRef)=true:=by first | exact .inl rfl | exact .inr rfl | exact .inl qCb):zAh (CT P G) s (.call f args) K :=
  yI6 hC hA he hi hK
theorem zD2 {xs ys:List D}(h:zFs xs ys:=by exact qAa):zFs xs ys:=h
end
end Go.Proofs.Ytaleehohmpohoaa
