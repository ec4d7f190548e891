/- Laws that the proof stands on. -/
import Derived.Test.YtdlchnlpmofpmaaGreatDoorZLib
import Derived.Test.YtdlchnlpmofpmaaGreatDoorZMark
import Derived.Test.YtdlchnlpmofpmaaGreatDoorZVd
import Derived.Test.YtdlchnlpmofpmaaGreatDoorZVTab
set_option linter.all false
namespace Go.Proofs.YtdlchnlpmofpmaaGreatDoor
open Go.RowKit Go.V
structure TD {α:Type} (t:Ty α) where
  d:Bool→α→List D
  ok:α→Prop
  rep:∀ {w:World} {B:Nat} {cs:List Value} {x:α},t.rep w B cs x→Cells (fun b=>b<B) w (d false x) nil cs []
  rep_ok:∀ {w:World} {B:Nat} {cs:List Value} {x:α},t.rep w B cs x→ok x
  imm:∀ (o:Bool) (x:α),zHy (d o x)=d false x
  nim:∀ x:α,zBh (d true x)=true
  own:∀ {I:Nat→Prop} {w:World} {cs:List Value} {x:α} {F:List Nat},ok x→Cells I w (d true x) nil cs F→t.own w cs x F
  up:∀ {w:World} {cs:List Value} {x:α} {F:List Nat},t.own w cs x F→Cells (fun b=>b∈F) w (d false x) nil cs []
  dn:∀ {w:World} {B:Nat} {cs:List Value} {x:α},ok x→Cells (fun b=>b<B) w (d false x) nil cs []→t.rep w B cs x
theorem zOs:∀ xs ys:List D,zBh (xs++ys)=(zBh xs&&zBh ys)
  | [],_=>by simp [zBh]
  | x::xs,ys=>by simp only [List.cons_append,zBh,zOs xs ys,Bool.and_assoc]
theorem zCv {α:Type}{f:α→List D}(h:∀ x,zBh (f x)=true):∀ xs:List α,zDu (xs.map f)=true
  | []=>by simp [zDu]
  | x::xs=>by simp only [List.map_cons,zDu,h,zCv h xs];rfl
namespace TD
variable {α β:Type}
theorem cells_one {I:Nat→Prop}{w:World}{ρ:D→Value→Prop}{x:D}{cs:List Value}{F:List Nat}(h:Cells I w [x] ρ cs F):∃ u,cs=[u]∧T I w x ρ u F:=by simp only [Cells] at h;obtain ⟨u,us,F1,F2,e,eF,_,h1,e2,e3⟩:=h;subst e2;subst e3;exact ⟨u,e,by rw [eF,List.append_nil];exact h1⟩
theorem zEw {I:Nat→Prop}{w:World}{ρ:D→Value→Prop}{x:D}{u:Value}{F:List Nat}(ho:u.oneCell'=true)(h:T I w x ρ u F):Cells I w [x] ρ [u] F:=by simp only [Cells];exact ⟨u,[],F,[],rfl,by simp,ho,h,rfl,rfl⟩
theorem zNg {I:Nat→Prop}{w:World}{ρ:D→Value→Prop}:∀ {xs ys:List D} {c1 c2:List Value} {F G:List Nat},Cells I w xs ρ c1 F→Cells I w ys ρ c2 G→Cells I w (xs++ys) ρ (c1++c2) (F++G)
  | [],ys,c1,c2,F,G,h,k=>by simp only [Cells] at h;rw [h.1,h.2];exact k
  | x::xs,ys,c1,c2,F,G,h,k=>by simp only [Cells,List.cons_append] at h ⊢;obtain ⟨u,us,F1,F2,e,eF,ho,h1,h2⟩:=h;exact ⟨u,us++c2,F1,F2++G,by rw [e];rfl,by rw [eF,List.append_assoc],ho,h1,zNg h2 k⟩
theorem zHt {I:Nat→Prop}{w:World}{ρ:D→Value→Prop}:∀ {xs ys:List D} {cs:List Value} {F:List Nat},Cells I w (xs++ys) ρ cs F→∃ c1 c2 F1 F2,cs=c1++c2∧F=F1++F2∧Cells I w xs ρ c1 F1∧Cells I w ys ρ c2 F2
  | [],ys,cs,F,h=>⟨[],cs,[],F,rfl,rfl,by simp [Cells],h⟩
  | x::xs,ys,cs,F,h=>by simp only [Cells,List.cons_append] at h;obtain ⟨u,us,F1,F2,e,eF,ho,h1,h2⟩:=h;obtain ⟨c1,c2,G1,G2,e1,e2,k1,k2⟩:=zHt h2;exact ⟨u::c1,c2,F1++G1,G2,by rw [e,e1];rfl,by rw [eF,e2,List.append_assoc],by simp only [Cells];exact ⟨u,c1,F1,G1,rfl,rfl,ho,h1,k1⟩,k2⟩
def int (k:IntKind):TD (Ty.int k) where
  d:=fun _ x=>[.v (.int k x)]
  ok:=InK k
  rep:=fun h=>by rw [h.1];exact zEw rfl (by simp [T])
  rep_ok:=fun h=>h.2
  imm:=fun o x=>by simp [zHy,D.imm]
  nim:=fun x=>by simp [zBh,D.noImm]
  own:=fun hk h=>by obtain ⟨u,e,h⟩:=cells_one h;simp only [T] at h;exact ⟨by rw [e,h.1],hk,h.2⟩
  up:=fun h=>by rw [h.1];exact zEw rfl (by simp [T])
  dn:=fun hk h=>by obtain ⟨u,e,h⟩:=cells_one h;simp only [T] at h;exact ⟨by rw [e,h.1],hk⟩
def bool:TD Ty.bool where
  d:=fun _ x=>[.v (.bool x)]
  ok:=fun _=>True
  rep:=fun h=>by have h:_=[_]:=h;rw [h];exact zEw rfl (by simp [T])
  rep_ok:=fun _=>trivial
  imm:=fun o x=>by simp [zHy,D.imm]
  nim:=fun x=>by simp [zBh,D.noImm]
  own:=fun _ h=>by obtain ⟨u,e,h⟩:=cells_one h;simp only [T] at h;exact ⟨by rw [e,h.1],h.2⟩
  up:=fun h=>by have h:=h.1;rw [h];exact zEw rfl (by simp [T])
  dn:=fun _ h=>by obtain ⟨u,e,h⟩:=cells_one h;simp only [T] at h;show _=_;rw [e,h.1]
def str:TD Ty.str where
  d:=fun _ x=>[.v (.string x)]
  ok:=fun x=>x.size≤maxLen
  rep:=fun h=>by rw [h.1];exact zEw rfl (by simp [T])
  rep_ok:=fun h=>h.2
  imm:=fun o x=>by simp [zHy,D.imm]
  nim:=fun x=>by simp [zBh,D.noImm]
  own:=fun hk h=>by obtain ⟨u,e,h⟩:=cells_one h;simp only [T] at h;exact ⟨by rw [e,h.1],hk,h.2⟩
  up:=fun h=>by rw [h.1];exact zEw rfl (by simp [T])
  dn:=fun hk h=>by obtain ⟨u,e,h⟩:=cells_one h;simp only [T] at h;exact ⟨by rw [e,h.1],hk⟩
def unit:TD Ty.unit where
  d:=fun _ _=>[]
  ok:=fun _=>True
  rep:=fun h=>by have h:_=[]:=h;rw [h];simp [Cells]
  rep_ok:=fun _=>trivial
  imm:=fun o x=>by simp [zHy,D.imm]
  nim:=fun x=>by simp [zBh,D.noImm]
  own:=fun _ h=>by simp only [Cells] at h;exact h
  up:=fun h=>by have h:=h.1;rw [h];simp [Cells]
  dn:=fun _ h=>by simp only [Cells] at h;exact h.1
def prod {t:Ty α}{s:Ty β}(a:TD t)(b:TD s):TD (Ty.prod t s) where
  d:=fun o x=>a.d o x.1++b.d o x.2
  ok:=fun x=>a.ok x.1∧b.ok x.2
  rep:=fun ⟨c1,c2,e,h1,h2⟩=>by rw [e];exact zNg (G:=[]) (F:=[]) (a.rep h1) (b.rep h2)
  rep_ok:=fun ⟨c1,c2,e,h1,h2⟩=>⟨a.rep_ok h1,b.rep_ok h2⟩
  imm:=fun o x=>by rw [zVy,a.imm,b.imm]
  nim:=fun x=>by rw [zOs,a.nim,b.nim];rfl
  own:=fun hk h=>by obtain ⟨c1,c2,F1,F2,e1,e2,k1,k2⟩:=zHt h;exact ⟨c1,c2,F1,F2,e1,e2,a.own hk.1 k1,b.own hk.2 k2⟩
  up:=fun ⟨c1,c2,F1,F2,e,eF,h1,h2⟩=>by rw [e,eF];exact zNg (F:=[]) (G:=[]) (Cells.mono (fun b hb=>List.mem_append_left _ hb) _ (a.up h1)) (Cells.mono (fun b hb=>List.mem_append_right _ hb) _ (b.up h2))
  dn:=fun hk h=>by obtain ⟨c1,c2,F1,F2,e1,e2,k1,k2⟩:=zHt h;have e2:=e2.symm;simp only [List.append_eq_nil_iff] at e2;obtain ⟨rfl,rfl⟩:=e2;exact ⟨c1,c2,e1,a.dn hk.1 k1,b.dn hk.2 k2⟩
def via {s:Ty β}(b:TD s)(f:α→β):TD (Ty.via s f) where
  d:=fun o x=>b.d o (f x)
  ok:=fun x=>b.ok (f x)
  rep:=fun h=>b.rep h
  rep_ok:=fun h=>b.rep_ok h
  imm:=fun o x=>b.imm o (f x)
  nim:=fun x=>b.nim (f x)
  own:=fun hk h=>b.own hk h
  up:=fun h=>b.up h
  dn:=fun hk h=>b.dn hk h
theorem yA0 {t:Ty α}(a:TD t){w:World}:∀ {raw:List Value} {xs:List α} {F:List Nat},RowsO (t.own w) raw xs F→Go.V.Rows (fun b=>b∈F) w t.size (xs.map (a.d false)) raw []
  | raw,[],F,h=>by have h:raw=[]:=h.1;simp [Go.V.Rows,h]
  | raw,x::xs,F,⟨cs,raw',F1,F2,e,eF,h1,h2⟩=>by simp only [List.map_cons,Go.V.Rows];rw [eF];exact ⟨cs,raw',[],[],e,rfl,t.own_len h1,Cells.mono (fun b hb=>List.mem_append_left _ hb) _ (a.up h1),Go.V.Rows.mono (fun b hb=>List.mem_append_right _ hb) _ _ (yA0 a h2)⟩
theorem yA1 {t:Ty α}(a:TD t){w:World}{B:Nat}:∀ {raw:List Value} {xs:List α},(∀ x,x∈xs→a.ok x)→Go.V.Rows (fun b=>b<B) w t.size (xs.map (a.d false)) raw []→RowsR (t.rep w B) raw xs
  | raw,[],_,h=>by simp only [List.map_nil,Go.V.Rows] at h;exact h.1
  | raw,x::xs,hk,h=>by simp only [List.map_cons,Go.V.Rows] at h;obtain ⟨us,raw',F1,F2,e,eF,hl,h1,h2⟩:=h;have eF:=eF.symm;simp only [List.append_eq_nil_iff] at eF;obtain ⟨rfl,rfl⟩:=eF;exact ⟨us,raw',e,a.dn (hk x (by simp)) h1,yA1 a (fun y hy=>hk y (by simp [hy])) h2⟩
theorem zVe {t:Ty α}(a:TD t){w:World}{B:Nat}:∀ {raw:List Value} {xs:List α},RowsR (t.rep w B) raw xs→Go.V.Rows (fun b=>b<B) w t.size (xs.map (a.d false)) raw []
  | raw,[],h=>by have h:raw=[]:=h;simp [Go.V.Rows,h]
  | raw,x::xs,⟨cs,raw',e,h1,h2⟩=>by simp only [List.map_cons,Go.V.Rows];exact ⟨cs,raw',[],[],e,rfl,t.rep_len h1,a.rep h1,zVe a h2⟩
theorem zVf {t:Ty α}(a:TD t){I:Nat→Prop}{w:World}:∀ {raw:List Value} {xs:List α} {F:List Nat},(∀ x,x∈xs→a.ok x)→Go.V.Rows I w t.size (xs.map (a.d true)) raw F→RowsO (t.own w) raw xs F
  | raw,[],F,_,h=>by simpa [Go.V.Rows,RowsO] using h
  | raw,x::xs,F,hk,h=>by simp only [List.map_cons,Go.V.Rows] at h;obtain ⟨us,raw',F1,F2,e,eF,hl,h1,h2⟩:=h;exact ⟨us,raw',F1,F2,e,eF,a.own (hk x (by simp)) h1,zVf a (fun y hy=>hk y (by simp [hy])) h2⟩
def slice (e:TypeId) {t:Ty α} (a:TD t):TD (Ty.slice e t) where
  d:=fun o xs=>[.sl o t.size (xs.map (a.d o))]
  ok:=fun xs=>∀ x,x∈xs→a.ok x
  rep:=fun {w B cs xs} ⟨p,c,h1,h2,h3,h4⟩=>by
    rw [h1];refine zEw rfl ?_;simp only [T,List.length_map];refine ⟨p,c,rfl,h2,h3,.inl ⟨trivial,trivial,?_⟩⟩;cases xs with
    | nil=>exact .inl rfl
    | cons x xs=>obtain ⟨b,o,raw,ha,hb,hc,hr⟩:=h4 (by simp);exact .inr ⟨b,o,raw,ha,hb,hc,zVe a hr⟩
  rep_ok:=fun {w B cs xs} ⟨p,c,h1,h2,h3,h4⟩=>by
    cases xs with
    | nil=>intro x hx;cases hx
    | cons x xs=>obtain ⟨b,o,raw,ha,hb,hc,hr⟩:=h4 (by simp);intro y hy;obtain ⟨i,hi,rfl⟩:=List.getElem_of_mem hy;obtain ⟨cs',hx,_⟩:=hr.get (fun _ _=>t.rep_len) i hi;exact a.rep_ok hx
  imm:=fun o xs=>by simp only [zHy,D.imm];rw [zC5 (a.imm o)]
  nim:=fun xs=>by simp only [zBh,D.noImm];rw [zCv a.nim];rfl
  own:=fun {I w cs xs F} hk h=>by
    obtain ⟨u,e1,h⟩:=cells_one h;simp only [T,List.length_map] at h;obtain ⟨p,c,hu,h1,h2,h3⟩:=h;refine ⟨p,c,by rw [e1,hu],h1,h2,?_⟩;rcases h3 with ⟨ho,_⟩ | ⟨_,⟨_,hc,hF⟩ | ⟨b,o,cells,ew,raw,F',ha,hh,hs,hr,hF,hR⟩⟩
    · cases ho
    · exact .inl ⟨List.eq_nil_of_length_eq_zero (by omega),hF⟩
    · exact .inr ⟨b,o,cells,ew,raw,F',ha,hh,fun j u hj=>by rw [← hr j u hj,zA4 hh],zVf a hk hR,hF⟩
  up:=fun {w cs xs F} ⟨p,c,e,h1,h2,h3⟩=>by
    rw [e];refine zEw rfl ?_;simp only [T,List.length_map];refine ⟨p,c,rfl,h1,h2,.inl ⟨trivial,trivial,?_⟩⟩;rcases h3 with ⟨rfl,_⟩ | ⟨b,o,cells,ew,raw,F',ha,hh,hc,hr,hF⟩
    · exact .inl rfl
    · refine .inr ⟨b,o,raw,ha,by rw [hF];simp,fun j u hj=>by rw [zA4 hh];exact hc j u hj,?_⟩;rw [hF];exact Go.V.Rows.mono (fun b hb=>List.mem_cons_of_mem _ hb) _ _ (yA0 a hr)
  dn:=fun {w B cs xs} hk h=>by
    obtain ⟨u,e1,h⟩:=cells_one h;simp only [T,List.length_map] at h;obtain ⟨p,c,hu,h1,h2,h3⟩:=h;refine ⟨p,c,by rw [e1,hu],h1,h2,fun hp=>?_⟩;rcases h3 with ⟨_,_,hr | ⟨b,o,raw,ha,hb,hr,hR⟩⟩ | ⟨ho,_⟩
    · simp only [List.map_eq_nil_iff] at hr;rw [hr] at hp;simp at hp
    · exact ⟨b,o,raw,ha,hb,hr,yA1 a hk hR⟩
    · cases ho
theorem arg_agg {t:Ty α}(a:TD t){w:World}{B:Nat}{cs:List Value}{x:α}(h:t.rep w B cs x):T (fun b=>b<B) w (.agg (a.d false x)) nil (.agg cs.toArray) []:=by simp only [T];exact ⟨cs,rfl,a.rep h⟩
end TD
abbrev rI (x:Int):List D:=[.v (.int .i64 x)]
abbrev rB8 (x:Int):List D:=[.v (.int .u8 x)]
abbrev rBo (x:Bool):List D:=[.v (.bool x)]
abbrev rS (x:ByteArray):List D:=[.v (.string x)]
theorem TD.rows {α:Type}{t:Ty α}(a:TD t)(o:Bool)(xs:List α):zDv (xs.map (a.d o))=xs.map (a.d false):=zC5 (a.imm o) xs
theorem TD.nims {α:Type}{t:Ty α}(a:TD t)(xs:List α):zDu (xs.map (a.d true))=true:=zCv a.nim xs
theorem zOu (xs:List Int):zDu (xs.map rI)=true:=zCv (fun _=>by simp [zBh,D.noImm]) xs
theorem zJv (xs:List Int):zDu (xs.map rB8)=true:=zCv (fun _=>by simp [zBh,D.noImm]) xs
theorem zJu (xs:List Bool):zDu (xs.map rBo)=true:=zCv (fun _=>by simp [zBh,D.noImm]) xs
theorem zOt (xs:List ByteArray):zDu (xs.map rS)=true:=zCv (fun _=>by simp [zBh,D.noImm]) xs
theorem zAe (xs:List Int):zDv (xs.map rI)=xs.map rI:=zC5 (fun _=>by simp [zHy,D.imm]) xs
theorem zAc (xs:List Int):zDv (xs.map rB8)=xs.map rB8:=zC5 (fun _=>by simp [zHy,D.imm]) xs
theorem zAb (xs:List Bool):zDv (xs.map rBo)=xs.map rBo:=zC5 (fun _=>by simp [zHy,D.imm]) xs
theorem zAf (xs:List ByteArray):zDv (xs.map rS)=xs.map rS:=zC5 (fun _=>by simp [zHy,D.imm]) xs
theorem zAd (xs:List (List Int)):zDv (xs.map (fun x=>[D.sl false 1 (x.map rI)]))=xs.map (fun x=>[D.sl false 1 (x.map rI)]):=zC5 (fun x=>by simp only [zHy,D.imm,zAe]) xs
theorem zAa (xs:List (List Int)):zDv (xs.map (fun x=>[D.sl true 1 (x.map rI)]))=xs.map (fun x=>[D.sl false 1 (x.map rI)]):=zC5 (fun x=>by simp only [zHy,D.imm,zAe]) xs
theorem zT8 {neg o:Bool}{z z':Nat}{rows rows':List (List D)}{s:List D}{K:D→List D→Prop}(h:∀ b,(b=(!neg)→rows=[])→K (.v (.bool b)) s):zSa neg (.sl o z rows') (some (z',rows)) s K:=by refine ⟨fun hr=>h _ (fun e=>by cases neg<;>cases e),fun hr=>⟨h _ (fun _=>hr),h _ (fun _=>hr)⟩⟩
theorem zQb {α:Type}(xs:List α)(f:α→List D)(Z:List D)(k:Nat):((xs.take k).map f++List.replicate (xs.length-k) Z).length=xs.length:=by rw [List.length_append,List.length_map,List.length_take,List.length_replicate];omega
theorem zUf {α:Type}(xs:List α)(f:α→List D)(Z:List D)(k:Nat)(h:k<xs.length):((xs.take k).map f++List.replicate (xs.length-k) Z)[k]?=some Z:=by have hl:((xs.take k).map f).length=k:=(by rw [List.length_map,List.length_take];omega);rw [List.getElem?_append_right (by omega),hl,Nat.sub_self,List.getElem?_replicate,if_pos (by omega)]
theorem zM8 {α:Type}(xs:List α)(f:α→List D)(Z:List D)(k:Nat)(h:k<xs.length):((xs.take k).map f++List.replicate (xs.length-k) Z).set k (f xs[k])=(xs.take (k+1)).map f++List.replicate (xs.length-(k+1)) Z:=by have hl:((xs.take k).map f).length=k:=(by rw [List.length_map,List.length_take];omega);rw [List.set_append_right _ _ (by omega),hl,Nat.sub_self,show xs.length-k=(xs.length-(k+1))+1 by omega,List.replicate_succ,List.set_cons_zero,List.take_succ_eq_append_getElem h,List.map_append,List.append_assoc];rfl
theorem zQc {α:Type}(xs:List α)(f:α→List D)(Z:List D):(xs.take xs.length).map f++List.replicate (xs.length-xs.length) Z=xs.map f:=by simp
structure CapsOK (caps:List D):Prop where
  owny:zCb caps=false
  pr:∀ q,zAh q caps=caps
  d8:∀ s,caps.map (deep s 8)=caps
  d7:∀ s,caps.map (deep s 7)=caps
def zOf {α:Type}(p:α→Bool)(xs:List α):Int:=match xs.findIdx? p with
  | some i=>(i:Int)
  | none => -1
theorem zU5 {α:Type}(p:α→Bool)(xs:List α):decide (0≤zOf p xs)=xs.any p:=by
  unfold zOf;cases h:xs.findIdx? p with
  | none =>
    rw [List.findIdx?_eq_none_iff] at h;have:xs.any p=false:=by simpa using h
    simp [this]
  | some i=>have h2:(xs.findIdx? p).isSome=true:=(by rw [h];rfl);rw [List.findIdx?_isSome] at h2;simp [h2]
theorem zGn {α:Type}(p:α→Bool)(xs:List α)(i:Nat)(hi:i<xs.length)(h0:∀ j (hj:j<xs.length),j<i→p xs[j]=false)(h:p xs[i]=true):zOf p xs=(i:Int):=by have:xs.findIdx? p=some i:=(by rw [List.findIdx?_eq_some_iff_getElem];exact ⟨hi,h,fun j hj=>by simpa using h0 j (by omega) hj⟩);simp [zOf,this]
theorem zF2 {α:Type}(p:α→Bool)(xs:List α)(h0:∀ j (hj:j<xs.length),p xs[j]=false):zOf p xs = -1:=by have:xs.findIdx? p=none:=(by rw [List.findIdx?_eq_none_iff];intro x hx;obtain ⟨i,hi,rfl⟩:=List.getElem_of_mem hx;exact h0 i hi);simp [zOf,this]
theorem Contract.at {P:Program}{G:World→(Nat→Prop)→Prop}{f:FuncId}{args:List D}{d:D}(h:Contract P G f args d){w:World}{B:Nat}{us:List Value}(hG:GI G w (fun b=>b<B))(hB:B≤w.heap.size)(hV:Vals (fun b=>b<B) w args nil us []) :
    Calls P f us.toArray w fun e w'=>(∃ v I F,e=.returned v∧T I w' d nil v F∧F.Nodup∧∀ b,b∈F→w.heap.size≤b∧b<w'.heap.size)∧Below w.heap.size w w' :=
  (h.2 w (fun b=>b<B) us hG (fun b hb=>Nat.lt_of_lt_of_le hb hB) hV).mono fun e w' ⟨v,F,I,h1,h2,h3,h4,h5,_,_⟩ =>
    ⟨⟨v,I,F,h1,h3,h4,fun b hb=>⟨(h5 b hb).1,(h5 b hb).2.1⟩⟩,h2⟩
theorem zL1 {I:Nat→Prop}{w:World}{x:D}{xs:List D}{u:Value}{us:List Value}(h:T I w x nil u [])(k:Vals I w xs nil us []):Vals I w (x::xs) nil (u::us) []:=by simp only [Vals];exact ⟨u,us,[],[],rfl,rfl,h,k⟩
theorem zU4 {I:Nat→Prop}{w:World}:Vals I w [] nil [] []:=by simp [Vals]
theorem yJu {I:Nat→Prop}{w:World}(u:Value):T I w (.v u) nil u []:=by simp [T]
theorem zWn {I:Nat→Prop}{w:World}{x:D}{xs:List D}{vs:List Value}{F:List Nat}(h:Vals I w (x::xs) nil vs F):∃ u us F1 F2,vs=u::us∧F=F1++F2∧T I w x nil u F1∧Vals I w xs nil us F2:=by simpa only [Vals] using h
theorem TD.agg_dn {α:Type}{t:Ty α}(a:TD t){I:Nat→Prop}{w:World}{v:Value}{x:α}{F:List Nat}(hk:a.ok x)(hI:∀ b,I b→b<w.heap.size)(hF:F=[])(h:T I w (.agg (a.d false x)) nil v F):∃ cs,v=.agg cs.toArray∧t.rep w w.heap.size cs x:=by subst hF;simp only [T] at h;obtain ⟨cs,e,hc⟩:=h;exact ⟨cs,e,a.dn hk (Cells.mono hI _ hc)⟩
theorem zDi {P:Program}{f:FuncId}{args:List D}{u:Value}(hen:∀ (us:Array Value) (W:World),(callFunc f us).run P W=.ok (.enter f us) W)
    (h:∀ (w:World) (I:Nat→Prop) (us:List Value),(∀ b,I b→b<w.heap.size)→Vals I w args nil us []→Calls P f us.toArray w fun e w'=>e=.returned u∧Below w.heap.size w w'):Contract P zAr f args (.v u):=by
  refine ⟨hen,fun w I us _ hI hV=>(h w I us hI hV).mono ?_⟩;rintro e w' ⟨rfl,hb⟩;exact ⟨u,[],I,rfl,hb,by simp [T],List.nodup_nil,fun b hb=>(List.not_mem_nil hb).elim,fun _ h=>h,fun b h=>⟨.inl h,Nat.lt_of_lt_of_le (hI b h) hb.size⟩⟩
theorem zDf {I:Nat→Prop}{w:World}{x:D}{xs:List D}{vs:List Value}(h:Vals I w (x::xs) nil vs []):∃ u us,vs=u::us∧T I w x nil u []∧Vals I w xs nil us []:=by obtain ⟨u,us,F1,F2,e,eF,h1,h2⟩:=zWn h;have eF:=eF.symm;simp only [List.append_eq_nil_iff] at eF;obtain ⟨rfl,rfl⟩:=eF;exact ⟨u,us,e,h1,h2⟩
theorem zFz {I:Nat→Prop}{w:World}{vs:List Value}(h:Vals I w [] nil vs []):vs=[]:=by simpa [Vals] using h
theorem T_v {I:Nat→Prop}{w:World}{x u:Value}{F:List Nat}(h:T I w (.v x) nil u F):u=x:=by simp only [T] at h;exact h.1
theorem zQh {P:Program}{f:FuncId}{d0 d1:D}{k:Value}{r:Value}(hen:∀ (us:Array Value) (W:World),(callFunc f us).run P W=.ok (.enter f us) W)
    (h:∀ (w:World) (I:Nat→Prop) (u:Value) (X:List Nat),T I w d0 nil u X→X.Nodup→(∀ b,b∈X→b<w.heap.size)→Calls P f #[u,k] w fun e w'=>e=.returned r∧T (fun b=>b∈X) w' d1 nil u []∧Chg X w w'):zBj P zAr f 0 [.undef,.v k] d0 (.v r) d1:=by
  refine ⟨hen,fun w I us u X _ hI hu hV hT hn hX=>?_⟩;obtain ⟨u0,us,rfl,_,hV⟩:=zDf hV;obtain ⟨u1,us,rfl,h1,hV⟩:=zDf hV;obtain rfl:=zFz hV;obtain rfl:=T_v h1;simp only [List.getElem?_cons_zero,Option.some.injEq] at hu;subst hu;refine (h w I u0 X hT hn (fun b hb=>(hX b hb).1)).mono ?_;rintro e w' ⟨rfl,hT',hc⟩;refine ⟨r,[],[],fun b=>I b∨b∈X,rfl,⟨hc.below.os,hc.below.tape,hc.below.output,hc.below.size,fun b hb=>?_⟩,by simp [T],T.mono (fun b hb=>.inr hb) _ hT',List.nodup_nil,fun b hb=>(List.not_mem_nil hb).elim,fun b hb=>.inl hb,fun b hb=>⟨hb.elim .inl (fun h=>.inr (.inr h)),?_⟩⟩
  · have hb:¬ (w.heap.size≤b∨b∈X):=hb;exact hc.keep b (by omega) (fun hx=>hb (.inr hx))
  · have:=hc.size;rcases hb with hb | hb
    · have:=hI b hb;omega
    · have:=(hX b hb).1;omega
theorem zVr {α:Type}{t:Ty α}(a:TD t){P:Program}{f:FuncId}{x y:α}{k r:Value}(hen:∀ (us:Array Value) (W:World),(callFunc f us).run P W=.ok (.enter f us) W)(hk:a.ok x)
    (h:∀ (w:World) (cs:List Value) (X:List Nat),t.own w cs x X→X.Nodup→(∀ b,b∈X→b<w.heap.size)→Calls P f #[.agg cs.toArray,k] w fun e' w'=>e'=.returned r∧t.own w' cs y X∧Chg X w w'):zBj P zAr f 0 [.undef,.v k] (.agg (a.d true x)) (.v r) (.agg (a.d false y)):=by
  refine zQh hen fun w I u X hT hn hX=>?_;simp only [T] at hT;obtain ⟨cs,rfl,hc⟩:=hT;refine (h w cs X (a.own hk hc) hn hX).mono ?_;rintro e' w' ⟨rfl,ho,hc'⟩;exact ⟨rfl,by simp only [T];exact ⟨cs,rfl,a.up ho⟩,hc'⟩
section
variable {P:Program} {G:World→(Nat→Prop)→Prop} {s:List D} {K:D→List D→Prop}
theorem zAm {f:FuncId}{args:List Operand}{A args':List D}{d:D}(hC:Contract P G f args' d)(hA:(args.map fun x=>deep s 8 (raw s x))=A)(hK:K d s)(he:leL A args':=by repeat (first | exact zJy | refine zGt ?_ ?_ | exact zBv rfl | exact zGs (zAz rfl) | refine zOz ?_ | exact zOy rfl (TD.rows ..) | refine zJx ?_ | refine zX7 ?_ ?_ | exact zE7))(hi:d.noImm=true∨((args.map fun x=>raw s x).all D.noRef)=true:=by first | exact .inl rfl | exact .inr rfl | exact .inl (by simp only [D.noImm,zBh,go_sem,TD.nims,TD.nim,zOu,zJv,zJu,zOt])):zAl (CT P G) s (.callX f args) K :=
  yJb hC hA he hi hK
theorem yDt {f:FuncId}{args:List Operand}{A args':List D}{d:D}(hC:Contract P G f args' d)(hA:(args.map fun x=>deep s 8 (raw s x))=A)(hK:K d s)(he:leL A args':=by repeat (first | exact zJy | refine zGt ?_ ?_ | exact zBv rfl | exact zGs (zAz rfl) | refine zOz ?_ | exact zOy rfl (TD.rows ..) | refine zJx ?_ | refine zX7 ?_ ?_ | exact zE7))(hi:d.noImm=true∨((args.map fun x=>raw s x).all D.noRef)=true:=by first | exact .inl rfl | exact .inr rfl | exact .inl (by simp only [D.noImm,zBh,go_sem,TD.nims,TD.nim,zOu,zJv,zJu,zOt])):zAl (CT P G) s (.call f args) K :=
  yDs hC hA he hi hK
theorem zDo {xs ys:List D}(h:zC7 xs ys:=by (try simp -implicitDefEqProofs only [zCs,zCr,zB0,zB2,zB3,zB1,and_self,and_true,true_and])<;>repeat' (first | exact zBd rfl | exact zCd | apply And.intro | apply zDz | apply zBb | apply zA7 | exact zBo | exact zBm | apply zCe | apply zCl)):zC7 xs ys:=h
end
end Go.Proofs.YtdlchnlpmofpmaaGreatDoor
