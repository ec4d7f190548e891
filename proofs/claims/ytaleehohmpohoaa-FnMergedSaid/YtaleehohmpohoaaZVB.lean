/- Laws that the proof stands on. -/
import Derived.Test.YtaleehohmpohoaaZLib
import Derived.Test.YtaleehohmpohoaaZMark
import Derived.Test.YtaleehohmpohoaaZVd
set_option linter.all false
namespace Go.Proofs.Ytaleehohmpohoaa
open Go.RowKit Go.V
structure TD {α:Type} (t:Ty α) where
  d:Bool→α→List D
  ok:α→Prop
  rep:∀ {w:World} {B:Nat} {cs:List Value} {x:α},t.rep w B cs x→Cells (fun b=>b<B) w (d false x) nil cs []
  rep_ok:∀ {w:World} {B:Nat} {cs:List Value} {x:α},t.rep w B cs x→ok x
  imm:∀ (o:Bool) (x:α),zJp (d o x)=d false x
  nim:∀ x:α,zBc (d true x)=true
  own:∀ {I:Nat→Prop} {w:World} {cs:List Value} {x:α} {F:List Nat},ok x→Cells I w (d true x) nil cs F→t.own w cs x F
  up:∀ {w:World} {cs:List Value} {x:α} {F:List Nat},t.own w cs x F→Cells (fun b=>b∈F) w (d false x) nil cs []
  dn:∀ {w:World} {B:Nat} {cs:List Value} {x:α},ok x→Cells (fun b=>b<B) w (d false x) nil cs []→t.rep w B cs x
theorem zSp:∀ xs ys:List D,zBc (xs++ys)=(zBc xs&&zBc ys)
  | [],_=>by simp [zBc]
  | x::xs,ys=>by simp only [xD7,zBc,zSp xs ys,xIq]
theorem zD9 {α:Type}{f:α→List D}(h:∀ x,zBc (f x)=true):∀ xs:List α,zFv (xs.map f)=true
  | []=>by simp [zFv]
  | x::xs=>by simp only [xDu,zFv,h,zD9 h xs];rfl
namespace TD
variable {α β:Type}
theorem cells_one {I:Nat→Prop}{w:World}{ρ:D→Value→Prop}{x:D}{cs:List Value}{F:List Nat}(h:Cells I w [x] ρ cs F):∃ u,cs=[u]∧T I w x ρ u F:=by simp only [Cells] at h;obtain ⟨u,us,F1,F2,e,eF,_,h1,e2,e3⟩:=h;subst e2;subst e3;exact ⟨u,e,by rw [eF,xEk];exact h1⟩
theorem zG0 {I:Nat→Prop}{w:World}{ρ:D→Value→Prop}{x:D}{u:Value}{F:List Nat}(ho:u.oneCell'=true)(h:T I w x ρ u F):Cells I w [x] ρ [u] F:=by simp only [Cells];exact ⟨u,[],F,[],rfl,by simp,ho,h,rfl,rfl⟩
theorem zRr {I:Nat→Prop}{w:World}{ρ:D→Value→Prop}:∀ {xs ys:List D} {c1 c2:List Value} {F G:List Nat},Cells I w xs ρ c1 F→Cells I w ys ρ c2 G→Cells I w (xs++ys) ρ (c1++c2) (F++G)
  | [],ys,c1,c2,F,G,h,k=>by simp only [Cells] at h;rw [h.1,h.2];exact k
  | x::xs,ys,c1,c2,F,G,h,k=>by simp only [Cells,xD7] at h ⊢;obtain ⟨u,us,F1,F2,e,eF,ho,h1,h2⟩:=h;exact ⟨u,us++c2,F1,F2++G,by rw [e];rfl,by rw [eF,xF9],ho,h1,zRr h2 k⟩
theorem zKk {I:Nat→Prop}{w:World}{ρ:D→Value→Prop}:∀ {xs ys:List D} {cs:List Value} {F:List Nat},Cells I w (xs++ys) ρ cs F→∃ c1 c2 F1 F2,cs=c1++c2∧F=F1++F2∧Cells I w xs ρ c1 F1∧Cells I w ys ρ c2 F2
  | [],ys,cs,F,h=>⟨[],cs,[],F,rfl,rfl,by simp [Cells],h⟩
  | x::xs,ys,cs,F,h=>by simp only [Cells,xD7] at h;obtain ⟨u,us,F1,F2,e,eF,ho,h1,h2⟩:=h;obtain ⟨c1,c2,G1,G2,e1,e2,k1,k2⟩:=zKk h2;exact ⟨u::c1,c2,F1++G1,G2,by rw [e,e1];rfl,by rw [eF,e2,xF9],by simp only [Cells];exact ⟨u,c1,F1,G1,rfl,rfl,ho,h1,k1⟩,k2⟩
def int (k:IntKind):TD (Ty.int k) where
  d:=fun _ x=>[.v (.int k x)]
  ok:=InK k
  rep:=fun h=>by rw [h.1];exact zG0 rfl (by simp [T])
  rep_ok:=fun h=>h.2
  imm:=fun o x=>by simp [zJp,D.imm]
  nim:=fun x=>by simp [zBc,D.noImm]
  own:=fun hk h=>by obtain ⟨u,e,h⟩:=cells_one h;simp only [T] at h;exact ⟨by rw [e,h.1],hk,h.2⟩
  up:=fun h=>by rw [h.1];exact zG0 rfl (by simp [T])
  dn:=fun hk h=>by obtain ⟨u,e,h⟩:=cells_one h;simp only [T] at h;exact ⟨by rw [e,h.1],hk⟩
def bool:TD Ty.bool where
  d:=fun _ x=>[.v (.bool x)]
  ok:=fun _=>True
  rep:=fun h=>by have h:_=[_]:=h;rw [h];exact zG0 rfl (by simp [T])
  rep_ok:=fun _=>trivial
  imm:=fun o x=>by simp [zJp,D.imm]
  nim:=fun x=>by simp [zBc,D.noImm]
  own:=fun _ h=>by obtain ⟨u,e,h⟩:=cells_one h;simp only [T] at h;exact ⟨by rw [e,h.1],h.2⟩
  up:=fun h=>by have h:=h.1;rw [h];exact zG0 rfl (by simp [T])
  dn:=fun _ h=>by obtain ⟨u,e,h⟩:=cells_one h;simp only [T] at h;show _=_;rw [e,h.1]
def str:TD Ty.str where
  d:=fun _ x=>[.v (.string x)]
  ok:=fun x=>x.size≤maxLen
  rep:=fun h=>by rw [h.1];exact zG0 rfl (by simp [T])
  rep_ok:=fun h=>h.2
  imm:=fun o x=>by simp [zJp,D.imm]
  nim:=fun x=>by simp [zBc,D.noImm]
  own:=fun hk h=>by obtain ⟨u,e,h⟩:=cells_one h;simp only [T] at h;exact ⟨by rw [e,h.1],hk,h.2⟩
  up:=fun h=>by rw [h.1];exact zG0 rfl (by simp [T])
  dn:=fun hk h=>by obtain ⟨u,e,h⟩:=cells_one h;simp only [T] at h;exact ⟨by rw [e,h.1],hk⟩
def unit:TD Ty.unit where
  d:=fun _ _=>[]
  ok:=fun _=>True
  rep:=fun h=>by have h:_=[]:=h;rw [h];simp [Cells]
  rep_ok:=fun _=>trivial
  imm:=fun o x=>by simp [zJp,D.imm]
  nim:=fun x=>by simp [zBc,D.noImm]
  own:=fun _ h=>by simp only [Cells] at h;exact h
  up:=fun h=>by have h:=h.1;rw [h];simp [Cells]
  dn:=fun _ h=>by simp only [Cells] at h;exact h.1
def prod {t:Ty α}{s:Ty β}(a:TD t)(b:TD s):TD (Ty.prod t s) where
  d:=fun o x=>a.d o x.1++b.d o x.2
  ok:=fun x=>a.ok x.1∧b.ok x.2
  rep:=fun ⟨c1,c2,e,h1,h2⟩=>by rw [e];exact zRr (G:=[]) (F:=[]) (a.rep h1) (b.rep h2)
  rep_ok:=fun ⟨c1,c2,e,h1,h2⟩=>⟨a.rep_ok h1,b.rep_ok h2⟩
  imm:=fun o x=>by rw [zZf,a.imm,b.imm]
  nim:=fun x=>by rw [zSp,a.nim,b.nim];rfl
  own:=fun hk h=>by obtain ⟨c1,c2,F1,F2,e1,e2,k1,k2⟩:=zKk h;exact ⟨c1,c2,F1,F2,e1,e2,a.own hk.1 k1,b.own hk.2 k2⟩
  up:=fun ⟨c1,c2,F1,F2,e,eF,h1,h2⟩=>by rw [e,eF];exact zRr (F:=[]) (G:=[]) (Cells.mono (fun b hb=>xE8 _ hb) _ (a.up h1)) (Cells.mono (fun b hb=>xFk _ hb) _ (b.up h2))
  dn:=fun hk h=>by obtain ⟨c1,c2,F1,F2,e1,e2,k1,k2⟩:=zKk h;have e2:=e2.symm;simp only [xGl] at e2;obtain ⟨rfl,rfl⟩:=e2;exact ⟨c1,c2,e1,a.dn hk.1 k1,b.dn hk.2 k2⟩
def via {s:Ty β}(b:TD s)(f:α→β):TD (Ty.via s f) where
  d:=fun o x=>b.d o (f x)
  ok:=fun x=>b.ok (f x)
  rep:=fun h=>b.rep h
  rep_ok:=fun h=>b.rep_ok h
  imm:=fun o x=>b.imm o (f x)
  nim:=fun x=>b.nim (f x)
  own:=fun hk h=>b.own hk h
  up:=fun h=>b.up h
  dn:=fun hk h=>b.dn hk h
theorem yEj {t:Ty α}(a:TD t){w:World}:∀ {raw:List Value} {xs:List α} {F:List Nat},RowsO (t.own w) raw xs F→Go.V.Rows (fun b=>b∈F) w t.size (xs.map (a.d false)) raw []
  | raw,[],F,h=>by have h:raw=[]:=h.1;simp [Go.V.Rows,h]
  | raw,x::xs,F,⟨cs,raw',F1,F2,e,eF,h1,h2⟩=>by simp only [xDu,Go.V.Rows];rw [eF];exact ⟨cs,raw',[],[],e,rfl,t.own_len h1,Cells.mono (fun b hb=>xE8 _ hb) _ (a.up h1),Go.V.Rows.mono (fun b hb=>xFk _ hb) _ _ (yEj a h2)⟩
theorem yEk {t:Ty α}(a:TD t){w:World}{B:Nat}:∀ {raw:List Value} {xs:List α},(∀ x,x∈xs→a.ok x)→Go.V.Rows (fun b=>b<B) w t.size (xs.map (a.d false)) raw []→RowsR (t.rep w B) raw xs
  | raw,[],_,h=>by simp only [xEb,Go.V.Rows] at h;exact h.1
  | raw,x::xs,hk,h=>by simp only [xDu,Go.V.Rows] at h;obtain ⟨us,raw',F1,F2,e,eF,hl,h1,h2⟩:=h;have eF:=eF.symm;simp only [xGl] at eF;obtain ⟨rfl,rfl⟩:=eF;exact ⟨us,raw',e,a.dn (hk x (by simp)) h1,yEk a (fun y hy=>hk y (by simp [hy])) h2⟩
theorem zYm {t:Ty α}(a:TD t){w:World}{B:Nat}:∀ {raw:List Value} {xs:List α},RowsR (t.rep w B) raw xs→Go.V.Rows (fun b=>b<B) w t.size (xs.map (a.d false)) raw []
  | raw,[],h=>by have h:raw=[]:=h;simp [Go.V.Rows,h]
  | raw,x::xs,⟨cs,raw',e,h1,h2⟩=>by simp only [xDu,Go.V.Rows];exact ⟨cs,raw',[],[],e,rfl,t.rep_len h1,a.rep h1,zYm a h2⟩
theorem zYn {t:Ty α}(a:TD t){I:Nat→Prop}{w:World}:∀ {raw:List Value} {xs:List α} {F:List Nat},(∀ x,x∈xs→a.ok x)→Go.V.Rows I w t.size (xs.map (a.d true)) raw F→RowsO (t.own w) raw xs F
  | raw,[],F,_,h=>by simpa [Go.V.Rows,RowsO] using h
  | raw,x::xs,F,hk,h=>by simp only [xDu,Go.V.Rows] at h;obtain ⟨us,raw',F1,F2,e,eF,hl,h1,h2⟩:=h;exact ⟨us,raw',F1,F2,e,eF,a.own (hk x (by simp)) h1,zYn a (fun y hy=>hk y (by simp [hy])) h2⟩
def slice (e:TypeId) {t:Ty α} (a:TD t):TD (Ty.slice e t) where
  d:=fun o xs=>[.sl o t.size (xs.map (a.d o))]
  ok:=fun xs=>∀ x,x∈xs→a.ok x
  rep:=fun {w B cs xs} ⟨p,c,h1,h2,h3,h4⟩=>by
    rw [h1];refine zG0 rfl ?_;simp only [T,xDj];refine ⟨p,c,rfl,h2,h3,.inl ⟨trivial,trivial,?_⟩⟩;cases xs with
    | nil=>exact .inl rfl
    | cons x xs=>obtain ⟨b,o,raw,ha,hb,hc,hr⟩:=h4 (by simp);exact .inr ⟨b,o,raw,ha,hb,hc,zYm a hr⟩
  rep_ok:=fun {w B cs xs} ⟨p,c,h1,h2,h3,h4⟩=>by
    cases xs with
    | nil=>intro x hx;cases hx
    | cons x xs=>obtain ⟨b,o,raw,ha,hb,hc,hr⟩:=h4 (by simp);intro y hy;obtain ⟨i,hi,rfl⟩:=xF6 hy;obtain ⟨cs',hx,_⟩:=hr.get (fun _ _=>t.rep_len) i hi;exact a.rep_ok hx
  imm:=fun o xs=>by simp only [zJp,D.imm];rw [zE9 (a.imm o)]
  nim:=fun xs=>by simp only [zBc,D.noImm];rw [zD9 a.nim];rfl
  own:=fun {I w cs xs F} hk h=>by
    obtain ⟨u,e1,h⟩:=cells_one h;simp only [T,xDj] at h;obtain ⟨p,c,hu,h1,h2,h3⟩:=h;refine ⟨p,c,by rw [e1,hu],h1,h2,?_⟩;rcases h3 with ⟨ho,_⟩ | ⟨_,⟨_,hc,hF⟩ | ⟨b,o,cells,ew,raw,F',ha,hh,hs,hr,hF,hR⟩⟩
    · cases ho
    · exact .inl ⟨xEw (by omega),hF⟩
    · exact .inr ⟨b,o,cells,ew,raw,F',ha,hh,fun j u hj=>by rw [← hr j u hj,zBt hh],zYn a hk hR,hF⟩
  up:=fun {w cs xs F} ⟨p,c,e,h1,h2,h3⟩=>by
    rw [e];refine zG0 rfl ?_;simp only [T,xDj];refine ⟨p,c,rfl,h1,h2,.inl ⟨trivial,trivial,?_⟩⟩;rcases h3 with ⟨rfl,_⟩ | ⟨b,o,cells,ew,raw,F',ha,hh,hc,hr,hF⟩
    · exact .inl rfl
    · refine .inr ⟨b,o,raw,ha,by rw [hF];simp,fun j u hj=>by rw [zBt hh];exact hc j u hj,?_⟩;rw [hF];exact Go.V.Rows.mono (fun b hb=>xE7 _ hb) _ _ (yEj a hr)
  dn:=fun {w B cs xs} hk h=>by
    obtain ⟨u,e1,h⟩:=cells_one h;simp only [T,xDj] at h;obtain ⟨p,c,hu,h1,h2,h3⟩:=h;refine ⟨p,c,by rw [e1,hu],h1,h2,fun hp=>?_⟩;rcases h3 with ⟨_,_,hr | ⟨b,o,raw,ha,hb,hr,hR⟩⟩ | ⟨ho,_⟩
    · simp only [xG4] at hr;rw [hr] at hp;simp at hp
    · exact ⟨b,o,raw,ha,hb,hr,yEk a hk hR⟩
    · cases ho
theorem arg_slice {e:TypeId}{t:Ty α}(a:TD t){w:World}{B:Nat}{v:Value}{xs:List α}(h:(Ty.slice e t).rep w B [v] xs):T (fun b=>b<B) w (.sl false t.size (xs.map (a.d false))) nil v []:=by obtain ⟨u,e1,h⟩:=cells_one ((slice e a).rep h);simp only [xE6,and_true] at e1;rw [e1];exact h
end TD
abbrev rI (x:Int):List D:=[.v (.int .i64 x)]
abbrev rB8 (x:Int):List D:=[.v (.int .u8 x)]
abbrev rBo (x:Bool):List D:=[.v (.bool x)]
abbrev rS (x:ByteArray):List D:=[.v (.string x)]
theorem TD.rows {α:Type}{t:Ty α}(a:TD t)(o:Bool)(xs:List α):zFx (xs.map (a.d o))=xs.map (a.d false):=zE9 (a.imm o) xs
theorem TD.nims {α:Type}{t:Ty α}(a:TD t)(xs:List α):zFv (xs.map (a.d true))=true:=zD9 a.nim xs
theorem zGx (xs:List Int):zFv (xs.map rI)=true:=zD9 (fun _=>by simp [zBc,D.noImm]) xs
theorem zE0 (xs:List Int):zFv (xs.map rB8)=true:=zD9 (fun _=>by simp [zBc,D.noImm]) xs
theorem zEz (xs:List Bool):zFv (xs.map rBo)=true:=zD9 (fun _=>by simp [zBc,D.noImm]) xs
theorem zGw (xs:List ByteArray):zFv (xs.map rS)=true:=zD9 (fun _=>by simp [zBc,D.noImm]) xs
theorem zAf (xs:List Int):zFx (xs.map rI)=xs.map rI:=zE9 (fun _=>by simp [zJp,D.imm]) xs
theorem zAc (xs:List Int):zFx (xs.map rB8)=xs.map rB8:=zE9 (fun _=>by simp [zJp,D.imm]) xs
theorem zAb (xs:List Bool):zFx (xs.map rBo)=xs.map rBo:=zE9 (fun _=>by simp [zJp,D.imm]) xs
theorem zAg (xs:List ByteArray):zFx (xs.map rS)=xs.map rS:=zE9 (fun _=>by simp [zJp,D.imm]) xs
theorem zAd (xs:List (List Int)):zFx (xs.map (fun x=>[D.sl false 1 (x.map rI)]))=xs.map (fun x=>[D.sl false 1 (x.map rI)]):=zE9 (fun x=>by simp only [zJp,D.imm,zAf]) xs
theorem zAa (xs:List (List Int)):zFx (xs.map (fun x=>[D.sl true 1 (x.map rI)]))=xs.map (fun x=>[D.sl false 1 (x.map rI)]):=zE9 (fun x=>by simp only [zJp,D.imm,zAf]) xs
theorem zXo {neg o:Bool}{z z':Nat}{rows rows':List (List D)}{s:List D}{K:D→List D→Prop}(h:∀ b,(b=(!neg)→rows=[])→K (.v (.bool b)) s):zV2 neg (.sl o z rows') (some (z',rows)) s K:=by refine ⟨fun hr=>h _ (fun e=>by cases neg<;>cases e),fun hr=>⟨h _ (fun _=>hr),h _ (fun _=>hr)⟩⟩
structure CapsOK (caps:List D):Prop where
  owny:zDf caps=false
  pr:∀ q,zAh q caps=caps
  d8:∀ s,caps.map (deep s 8)=caps
  d7:∀ s,caps.map (deep s 7)=caps
def yId {α:Type}(p:α→Bool)(xs:List α):Int:=match xs.findIdx? p with
  | some i=>(i:Int)
  | none => -1
theorem zYa {α:Type}(p:α→Bool)(xs:List α):decide (0≤yId p xs)=xs.any p:=by
  unfold yId;cases h:xs.findIdx? p with
  | none =>
    rw [xGw] at h;have:xs.any p=false:=by simpa using h
    simp [this]
  | some i=>have h2:(xs.findIdx? p).isSome=true:=(by rw [h];rfl);rw [List.findIdx?_isSome] at h2;simp [h2]
theorem zTq {α:Type}(p:α→Bool)(xs:List α)(i:Nat)(hi:i<xs.length)(h0:∀ j (hj:j<xs.length),j<i→p xs[j]=false)(h:p xs[i]=true):yId p xs=(i:Int):=by have:xs.findIdx? p=some i:=(by rw [xHa];exact ⟨hi,h,fun j hj=>by simpa using h0 j (by omega) hj⟩);simp [yId,this]
theorem zQk {α:Type}(p:α→Bool)(xs:List α)(h0:∀ j (hj:j<xs.length),p xs[j]=false):yId p xs = -1:=by have:xs.findIdx? p=none:=(by rw [xGw];intro x hx;obtain ⟨i,hi,rfl⟩:=xF6 hx;exact h0 i hi);simp [yId,this]
theorem Contract.at {P:Program}{G:World→(Nat→Prop)→Prop}{f:FuncId}{args:List D}{d:D}(h:Contract P G f args d){w:World}{B:Nat}{us:List Value}(hG:GI G w (fun b=>b<B))(hB:B≤w.heap.size)(hV:Vals (fun b=>b<B) w args nil us []) :
    Calls P f us.toArray w fun e w'=>(∃ v I F,e=.returned v∧T I w' d nil v F∧F.Nodup∧∀ b,b∈F→w.heap.size≤b∧b<w'.heap.size)∧Below w.heap.size w w' :=
  (h.2 w (fun b=>b<B) us hG (fun b hb=>xE5 hb hB) hV).mono fun e w' ⟨v,F,I,h1,h2,h3,h4,h5,_,_⟩ =>
    ⟨⟨v,I,F,h1,h3,h4,fun b hb=>⟨(h5 b hb).1,(h5 b hb).2.1⟩⟩,h2⟩
theorem yCv {I:Nat→Prop}{w:World}{x:D}{xs:List D}{u:Value}{us:List Value}(h:T I w x nil u [])(k:Vals I w xs nil us []):Vals I w (x::xs) nil (u::us) []:=by simp only [Vals];exact ⟨u,us,[],[],rfl,rfl,h,k⟩
theorem yIn {I:Nat→Prop}{w:World}:Vals I w [] nil [] []:=by simp [Vals]
theorem T_v {I:Nat→Prop}{w:World}{x u:Value}{F:List Nat}(h:T I w (.v x) nil u F):u=x:=by simp only [T] at h;exact h.1
theorem zO0 {α:Type}(p:α→Bool)(xs:List α):xs.any (fun x=>!p x)=!xs.all p:=by
  induction xs with
  | nil=>rfl
  | cons x xs ih=>simp only [List.any_cons,xEa,ih,Bool.not_and]
section
variable {P:Program} {G:World→(Nat→Prop)→Prop} {s:List D} {K:D→List D→Prop}
theorem zAs {f:FuncId}{args:List Operand}{A args':List D}{d:D}(hC:Contract P G f args' d)(hA:(args.map fun x=>deep s 8 (raw s x))=A)(hK:K d s)(he:leL A args':=by repeat (first | exact zB3 | refine zBi ?_ ?_ | exact le_of_eq rfl | exact zBh (zA1 rfl) | refine zC4 ?_ | exact zC3 rfl (TD.rows ..) | refine zB2 ?_ | refine zE8 ?_ ?_ | exact zA5))(hi:d.noImm=true∨((args.map fun x=>raw s x).all D.noRef)=true:=by first | exact .inl rfl | exact .inr rfl | exact .inl (by simp only [D.noImm,zBc,go_sem,TD.nims,TD.nim,zGx,zE0,zEz,zGw])):zAn (CT P G) s (.callX f args) K :=
  zQc hC hA he hi hK
theorem zCx {f:FuncId}{args:List Operand}{i r:Nat}{tag:Option Nat}{cells A args' cells0:List D}{d:D}{cells':List D}(hC:ContractX P G f i args' cells0 d cells')(hi:(args.map fun x=>raw s x)[i]?=some (.ptr r [] 0 0))(hs:s[r]?=some (.box tag cells))
    (hA:((args.map fun x=>raw s x).map (D.prune (zAi r))).map (deep ((zAh (zAi r) s).set r .undef) 8)=A) (hK:K d ((zAh (zFh r) s).set r (.box tag cells'))) (hle:leL A args':=by repeat (first | exact zB3 | refine zBi ?_ ?_ | exact le_of_eq rfl | exact zBh (zA1 rfl) | refine zC4 ?_ | exact zC3 rfl (TD.rows ..) | refine zB2 ?_ | refine zE8 ?_ ?_ | exact zA5)) (hlc:leL (zAh (fun _=>false) cells) cells0:=by repeat (first | exact zB3 | refine zBi ?_ ?_ | exact le_of_eq rfl | exact zBh (zA1 rfl) | refine zC4 ?_ | exact zC3 rfl (TD.rows ..) | refine zB2 ?_ | refine zE8 ?_ ?_ | exact zA5)) (hn:(d.noImm=true∧zBc cells'=true)∨((args.map fun x=>raw s x).map (D.prune (zAi r))).all D.noRef=true:=by first | exact .inr rfl | exact .inl ⟨rfl,rfl⟩ | exact .inl ⟨by simp only [D.noImm,zBc,go_sem,TD.nims,TD.nim,zGx,zE0,zEz,zGw],by simp only [D.noImm,zBc,go_sem,TD.nims,TD.nim,zGx,zE0,zEz,zGw]⟩):zAn (CT P G) s (.callX f args) K :=
  zUp hC hi hs hA hle hlc hn hK
theorem zX2 {f:FuncId}{args:List Operand}{s':List D}(t:Nat){i r:Nat}{tag:Option Nat}{cells A args' cells0:List D}{d:D}{cells':List D}(hC:ContractX P G f i args' cells0 d cells')(hf:frz t s=s')(hi:(args.map fun x=>raw s' x)[i]?=some (.ptr r [] 0 0))(hs:s'[r]?=some (.box tag cells))
    (hA:((args.map fun x=>raw s' x).map (D.prune (zAi r))).map (deep ((zAh (zAi r) s').set r .undef) 8)=A) (hK:K d ((zAh (zFh r) s').set r (.box tag cells'))) (hle:leL A args':=by repeat (first | exact zB3 | refine zBi ?_ ?_ | exact le_of_eq rfl | exact zBh (zA1 rfl) | refine zC4 ?_ | exact zC3 rfl (TD.rows ..) | refine zB2 ?_ | refine zE8 ?_ ?_ | exact zA5)) (hlc:leL (zAh (fun _=>false) cells) cells0:=by repeat (first | exact zB3 | refine zBi ?_ ?_ | exact le_of_eq rfl | exact zBh (zA1 rfl) | refine zC4 ?_ | exact zC3 rfl (TD.rows ..) | refine zB2 ?_ | refine zE8 ?_ ?_ | exact zA5)) (hn:(d.noImm=true∧zBc cells'=true)∨((args.map fun x=>raw s' x).map (D.prune (zAi r))).all D.noRef=true:=by first | exact .inr rfl | exact .inl ⟨rfl,rfl⟩ | exact .inl ⟨by simp only [D.noImm,zBc,go_sem,TD.nims,TD.nim,zGx,zE0,zEz,zGw],by simp only [D.noImm,zBc,go_sem,TD.nims,TD.nim,zGx,zE0,zEz,zGw]⟩):zAn (CT P G) s (.callX f args) K :=
  yNm t hC hf hi hs hA hle hlc hn hK
theorem zJf {f:FuncId}{args:List Operand}{A args':List D}{d:D}(hC:Contract P G f args' d)(hA:(args.map fun x=>deep s 8 (raw s x))=A)(hK:K d s)(he:leL A args':=by repeat (first | exact zB3 | refine zBi ?_ ?_ | exact le_of_eq rfl | exact zBh (zA1 rfl) | refine zC4 ?_ | exact zC3 rfl (TD.rows ..) | refine zB2 ?_ | refine zE8 ?_ ?_ | exact zA5))(hi:d.noImm=true∨((args.map fun x=>raw s x).all D.noRef)=true:=by first | exact .inl rfl | exact .inr rfl | exact .inl (by simp only [D.noImm,zBc,go_sem,TD.nims,TD.nim,zGx,zE0,zEz,zGw])):zAn (CT P G) s (.call f args) K :=
  zJe hC hA he hi hK
theorem zEx {xs ys:List D}(h:zFf xs ys:=by (try simp -implicitDefEqProofs only [zCz,zCy,zB6,zB8,zB9,zB7,and_self,and_true,true_and])<;>repeat' (first | exact zBr rfl | exact zCu | apply And.intro | apply zD3 | apply zBb | apply zBl | exact zB1 | exact zBs | apply zCv | apply zCw)):zFf xs ys:=h
end
end Go.Proofs.Ytaleehohmpohoaa
