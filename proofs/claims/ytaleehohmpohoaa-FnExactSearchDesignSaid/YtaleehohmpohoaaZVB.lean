/- Laws that the proof stands on. -/
import Derived.Test.YtaleehohmpohoaaZLib
import Derived.Test.YtaleehohmpohoaaZMark
import Derived.Test.YtaleehohmpohoaaZVd
set_option linter.all false
namespace Go.Proofs.Ytaleehohmpohoaa
open Go.RowKit Go.V
structure TD {α:Type} (t:Ty α) where
  d:Bool→α→List D
  ok:α→Prop
  rep:∀ {w:World} {B:Nat} {cs:List Value} {x:α},t.rep w B cs x→Cells (fun b=>b<B) w (d false x) nil cs []
  rep_ok:∀ {w:World} {B:Nat} {cs:List Value} {x:α},t.rep w B cs x→ok x
  imm:∀ (o:Bool) (x:α),immL (d o x)=d false x
  nim:∀ x:α,noImmL (d true x)=true
  own:∀ {I:Nat→Prop} {w:World} {cs:List Value} {x:α} {F:List Nat},ok x→Cells I w (d true x) nil cs F→t.own w cs x F
  up:∀ {w:World} {cs:List Value} {x:α} {F:List Nat},t.own w cs x F→Cells (fun b=>b∈F) w (d false x) nil cs []
  dn:∀ {w:World} {B:Nat} {cs:List Value} {x:α},ok x→Cells (fun b=>b<B) w (d false x) nil cs []→t.rep w B cs x
theorem noImmL_app:∀ xs ys:List D,noImmL (xs++ys)=(noImmL xs&&noImmL ys)
  | [],_=>by simp [noImmL]
  | x::xs,ys=>by simp only [List.cons_append,noImmL,noImmL_app xs ys,Bool.and_assoc]
theorem noImmLL_map {α:Type}{f:α→List D}(h:∀ x,noImmL (f x)=true):∀ xs:List α,noImmLL (xs.map f)=true
  | []=>by simp [noImmLL]
  | x::xs=>by simp only [List.map_cons,noImmLL,h,noImmLL_map h xs];rfl
namespace TD
variable {α β:Type}
theorem cells_one {I:Nat→Prop}{w:World}{ρ:D→Value→Prop}{x:D}{cs:List Value}{F:List Nat}(h:Cells I w [x] ρ cs F):∃ u,cs=[u]∧T I w x ρ u F:=by simp only [Cells] at h;obtain ⟨u,us,F1,F2,e,eF,_,h1,e2,e3⟩:=h;subst e2;subst e3;exact ⟨u,e,by rw [eF,List.append_nil];exact h1⟩
theorem cells_mk {I:Nat→Prop}{w:World}{ρ:D→Value→Prop}{x:D}{u:Value}{F:List Nat}(ho:u.oneCell'=true)(h:T I w x ρ u F):Cells I w [x] ρ [u] F:=by simp only [Cells];exact ⟨u,[],F,[],rfl,by simp,ho,h,rfl,rfl⟩
theorem cells_app {I:Nat→Prop}{w:World}{ρ:D→Value→Prop}:∀ {xs ys:List D} {c1 c2:List Value} {F G:List Nat},Cells I w xs ρ c1 F→Cells I w ys ρ c2 G→Cells I w (xs++ys) ρ (c1++c2) (F++G)
  | [],ys,c1,c2,F,G,h,k=>by simp only [Cells] at h;rw [h.1,h.2];exact k
  | x::xs,ys,c1,c2,F,G,h,k=>by simp only [Cells,List.cons_append] at h ⊢;obtain ⟨u,us,F1,F2,e,eF,ho,h1,h2⟩:=h;exact ⟨u,us++c2,F1,F2++G,by rw [e];rfl,by rw [eF,List.append_assoc],ho,h1,cells_app h2 k⟩
theorem cells_split {I:Nat→Prop}{w:World}{ρ:D→Value→Prop}:∀ {xs ys:List D} {cs:List Value} {F:List Nat},Cells I w (xs++ys) ρ cs F→∃ c1 c2 F1 F2,cs=c1++c2∧F=F1++F2∧Cells I w xs ρ c1 F1∧Cells I w ys ρ c2 F2
  | [],ys,cs,F,h=>⟨[],cs,[],F,rfl,rfl,by simp [Cells],h⟩
  | x::xs,ys,cs,F,h=>by simp only [Cells,List.cons_append] at h;obtain ⟨u,us,F1,F2,e,eF,ho,h1,h2⟩:=h;obtain ⟨c1,c2,G1,G2,e1,e2,k1,k2⟩:=cells_split h2;exact ⟨u::c1,c2,F1++G1,G2,by rw [e,e1];rfl,by rw [eF,e2,List.append_assoc],by simp only [Cells];exact ⟨u,c1,F1,G1,rfl,rfl,ho,h1,k1⟩,k2⟩
def int (k:IntKind):TD (Ty.int k) where
  d:=fun _ x=>[.v (.int k x)]
  ok:=InK k
  rep:=fun h=>by rw [h.1];exact cells_mk rfl (by simp [T])
  rep_ok:=fun h=>h.2
  imm:=fun o x=>by simp [immL,D.imm]
  nim:=fun x=>by simp [noImmL,D.noImm]
  own:=fun hk h=>by obtain ⟨u,e,h⟩:=cells_one h;simp only [T] at h;exact ⟨by rw [e,h.1],hk,h.2⟩
  up:=fun h=>by rw [h.1];exact cells_mk rfl (by simp [T])
  dn:=fun hk h=>by obtain ⟨u,e,h⟩:=cells_one h;simp only [T] at h;exact ⟨by rw [e,h.1],hk⟩
def bool:TD Ty.bool where
  d:=fun _ x=>[.v (.bool x)]
  ok:=fun _=>True
  rep:=fun h=>by have h:_=[_]:=h;rw [h];exact cells_mk rfl (by simp [T])
  rep_ok:=fun _=>trivial
  imm:=fun o x=>by simp [immL,D.imm]
  nim:=fun x=>by simp [noImmL,D.noImm]
  own:=fun _ h=>by obtain ⟨u,e,h⟩:=cells_one h;simp only [T] at h;exact ⟨by rw [e,h.1],h.2⟩
  up:=fun h=>by have h:=h.1;rw [h];exact cells_mk rfl (by simp [T])
  dn:=fun _ h=>by obtain ⟨u,e,h⟩:=cells_one h;simp only [T] at h;show _=_;rw [e,h.1]
def str:TD Ty.str where
  d:=fun _ x=>[.v (.string x)]
  ok:=fun x=>x.size≤maxLen
  rep:=fun h=>by rw [h.1];exact cells_mk rfl (by simp [T])
  rep_ok:=fun h=>h.2
  imm:=fun o x=>by simp [immL,D.imm]
  nim:=fun x=>by simp [noImmL,D.noImm]
  own:=fun hk h=>by obtain ⟨u,e,h⟩:=cells_one h;simp only [T] at h;exact ⟨by rw [e,h.1],hk,h.2⟩
  up:=fun h=>by rw [h.1];exact cells_mk rfl (by simp [T])
  dn:=fun hk h=>by obtain ⟨u,e,h⟩:=cells_one h;simp only [T] at h;exact ⟨by rw [e,h.1],hk⟩
def unit:TD Ty.unit where
  d:=fun _ _=>[]
  ok:=fun _=>True
  rep:=fun h=>by have h:_=[]:=h;rw [h];simp [Cells]
  rep_ok:=fun _=>trivial
  imm:=fun o x=>by simp [immL,D.imm]
  nim:=fun x=>by simp [noImmL,D.noImm]
  own:=fun _ h=>by simp only [Cells] at h;exact h
  up:=fun h=>by have h:=h.1;rw [h];simp [Cells]
  dn:=fun _ h=>by simp only [Cells] at h;exact h.1
def prod {t:Ty α}{s:Ty β}(a:TD t)(b:TD s):TD (Ty.prod t s) where
  d:=fun o x=>a.d o x.1++b.d o x.2
  ok:=fun x=>a.ok x.1∧b.ok x.2
  rep:=fun ⟨c1,c2,e,h1,h2⟩=>by rw [e];exact cells_app (G:=[]) (F:=[]) (a.rep h1) (b.rep h2)
  rep_ok:=fun ⟨c1,c2,e,h1,h2⟩=>⟨a.rep_ok h1,b.rep_ok h2⟩
  imm:=fun o x=>by rw [immL_app,a.imm,b.imm]
  nim:=fun x=>by rw [noImmL_app,a.nim,b.nim];rfl
  own:=fun hk h=>by obtain ⟨c1,c2,F1,F2,e1,e2,k1,k2⟩:=cells_split h;exact ⟨c1,c2,F1,F2,e1,e2,a.own hk.1 k1,b.own hk.2 k2⟩
  up:=fun ⟨c1,c2,F1,F2,e,eF,h1,h2⟩=>by rw [e,eF];exact cells_app (F:=[]) (G:=[]) (Cells.mono (fun b hb=>List.mem_append_left _ hb) _ (a.up h1)) (Cells.mono (fun b hb=>List.mem_append_right _ hb) _ (b.up h2))
  dn:=fun hk h=>by obtain ⟨c1,c2,F1,F2,e1,e2,k1,k2⟩:=cells_split h;have e2:=e2.symm;simp only [List.append_eq_nil_iff] at e2;obtain ⟨rfl,rfl⟩:=e2;exact ⟨c1,c2,e1,a.dn hk.1 k1,b.dn hk.2 k2⟩
def via {s:Ty β}(b:TD s)(f:α→β):TD (Ty.via s f) where
  d:=fun o x=>b.d o (f x)
  ok:=fun x=>b.ok (f x)
  rep:=fun h=>b.rep h
  rep_ok:=fun h=>b.rep_ok h
  imm:=fun o x=>b.imm o (f x)
  nim:=fun x=>b.nim (f x)
  own:=fun hk h=>b.own hk h
  up:=fun h=>b.up h
  dn:=fun hk h=>b.dn hk h
theorem rows_up {t:Ty α}(a:TD t){w:World}:∀ {raw:List Value} {xs:List α} {F:List Nat},RowsO (t.own w) raw xs F→Go.V.Rows (fun b=>b∈F) w t.size (xs.map (a.d false)) raw []
  | raw,[],F,h=>by have h:raw=[]:=h.1;simp [Go.V.Rows,h]
  | raw,x::xs,F,⟨cs,raw',F1,F2,e,eF,h1,h2⟩=>by simp only [List.map_cons,Go.V.Rows];rw [eF];exact ⟨cs,raw',[],[],e,rfl,t.own_len h1,Cells.mono (fun b hb=>List.mem_append_left _ hb) _ (a.up h1),Go.V.Rows.mono (fun b hb=>List.mem_append_right _ hb) _ _ (rows_up a h2)⟩
theorem rows_dn {t:Ty α}(a:TD t){w:World}{B:Nat}:∀ {raw:List Value} {xs:List α},(∀ x,x∈xs→a.ok x)→Go.V.Rows (fun b=>b<B) w t.size (xs.map (a.d false)) raw []→RowsR (t.rep w B) raw xs
  | raw,[],_,h=>by simp only [List.map_nil,Go.V.Rows] at h;exact h.1
  | raw,x::xs,hk,h=>by simp only [List.map_cons,Go.V.Rows] at h;obtain ⟨us,raw',F1,F2,e,eF,hl,h1,h2⟩:=h;have eF:=eF.symm;simp only [List.append_eq_nil_iff] at eF;obtain ⟨rfl,rfl⟩:=eF;exact ⟨us,raw',e,a.dn (hk x (by simp)) h1,rows_dn a (fun y hy=>hk y (by simp [hy])) h2⟩
theorem rows_rep {t:Ty α}(a:TD t){w:World}{B:Nat}:∀ {raw:List Value} {xs:List α},RowsR (t.rep w B) raw xs→Go.V.Rows (fun b=>b<B) w t.size (xs.map (a.d false)) raw []
  | raw,[],h=>by have h:raw=[]:=h;simp [Go.V.Rows,h]
  | raw,x::xs,⟨cs,raw',e,h1,h2⟩=>by simp only [List.map_cons,Go.V.Rows];exact ⟨cs,raw',[],[],e,rfl,t.rep_len h1,a.rep h1,rows_rep a h2⟩
theorem rows_own {t:Ty α}(a:TD t){I:Nat→Prop}{w:World}:∀ {raw:List Value} {xs:List α} {F:List Nat},(∀ x,x∈xs→a.ok x)→Go.V.Rows I w t.size (xs.map (a.d true)) raw F→RowsO (t.own w) raw xs F
  | raw,[],F,_,h=>by simpa [Go.V.Rows,RowsO] using h
  | raw,x::xs,F,hk,h=>by simp only [List.map_cons,Go.V.Rows] at h;obtain ⟨us,raw',F1,F2,e,eF,hl,h1,h2⟩:=h;exact ⟨us,raw',F1,F2,e,eF,a.own (hk x (by simp)) h1,rows_own a (fun y hy=>hk y (by simp [hy])) h2⟩
def slice (e:TypeId) {t:Ty α} (a:TD t):TD (Ty.slice e t) where
  d:=fun o xs=>[.sl o t.size (xs.map (a.d o))]
  ok:=fun xs=>∀ x,x∈xs→a.ok x
  rep:=fun {w B cs xs} ⟨p,c,h1,h2,h3,h4⟩=>by
    rw [h1];refine cells_mk rfl ?_;simp only [T,List.length_map];refine ⟨p,c,rfl,h2,h3,.inl ⟨trivial,trivial,?_⟩⟩;cases xs with
    | nil=>exact .inl rfl
    | cons x xs=>obtain ⟨b,o,raw,ha,hb,hc,hr⟩:=h4 (by simp);exact .inr ⟨b,o,raw,ha,hb,hc,rows_rep a hr⟩
  rep_ok:=fun {w B cs xs} ⟨p,c,h1,h2,h3,h4⟩=>by
    cases xs with
    | nil=>intro x hx;cases hx
    | cons x xs=>obtain ⟨b,o,raw,ha,hb,hc,hr⟩:=h4 (by simp);intro y hy;obtain ⟨i,hi,rfl⟩:=List.getElem_of_mem hy;obtain ⟨cs',hx,_⟩:=hr.get (fun _ _=>t.rep_len) i hi;exact a.rep_ok hx
  imm:=fun o xs=>by simp only [immL,D.imm];rw [immLL_map (a.imm o)]
  nim:=fun xs=>by simp only [noImmL,D.noImm];rw [noImmLL_map a.nim];rfl
  own:=fun {I w cs xs F} hk h=>by
    obtain ⟨u,e1,h⟩:=cells_one h;simp only [T,List.length_map] at h;obtain ⟨p,c,hu,h1,h2,h3⟩:=h;refine ⟨p,c,by rw [e1,hu],h1,h2,?_⟩;rcases h3 with ⟨ho,_⟩ | ⟨_,⟨_,hc,hF⟩ | ⟨b,o,cells,ew,raw,F',ha,hh,hs,hr,hF,hR⟩⟩
    · cases ho
    · exact .inl ⟨List.eq_nil_of_length_eq_zero (by omega),hF⟩
    · exact .inr ⟨b,o,cells,ew,raw,F',ha,hh,fun j u hj=>by rw [← hr j u hj,cell_row hh],rows_own a hk hR,hF⟩
  up:=fun {w cs xs F} ⟨p,c,e,h1,h2,h3⟩=>by
    rw [e];refine cells_mk rfl ?_;simp only [T,List.length_map];refine ⟨p,c,rfl,h1,h2,.inl ⟨trivial,trivial,?_⟩⟩;rcases h3 with ⟨rfl,_⟩ | ⟨b,o,cells,ew,raw,F',ha,hh,hc,hr,hF⟩
    · exact .inl rfl
    · refine .inr ⟨b,o,raw,ha,by rw [hF];simp,fun j u hj=>by rw [cell_row hh];exact hc j u hj,?_⟩;rw [hF];exact Go.V.Rows.mono (fun b hb=>List.mem_cons_of_mem _ hb) _ _ (rows_up a hr)
  dn:=fun {w B cs xs} hk h=>by
    obtain ⟨u,e1,h⟩:=cells_one h;simp only [T,List.length_map] at h;obtain ⟨p,c,hu,h1,h2,h3⟩:=h;refine ⟨p,c,by rw [e1,hu],h1,h2,fun hp=>?_⟩;rcases h3 with ⟨_,_,hr | ⟨b,o,raw,ha,hb,hr,hR⟩⟩ | ⟨ho,_⟩
    · simp only [List.map_eq_nil_iff] at hr;rw [hr] at hp;simp at hp
    · exact ⟨b,o,raw,ha,hb,hr,rows_dn a hk hR⟩
    · cases ho
theorem arg_agg {t:Ty α}(a:TD t){w:World}{B:Nat}{cs:List Value}{x:α}(h:t.rep w B cs x):T (fun b=>b<B) w (.agg (a.d false x)) nil (.agg cs.toArray) []:=by simp only [T];exact ⟨cs,rfl,a.rep h⟩
end TD
abbrev rI (x:Int):List D:=[.v (.int .i64 x)]
abbrev rB8 (x:Int):List D:=[.v (.int .u8 x)]
abbrev rBo (x:Bool):List D:=[.v (.bool x)]
abbrev rS (x:ByteArray):List D:=[.v (.string x)]
theorem TD.rows {α:Type}{t:Ty α}(a:TD t)(o:Bool)(xs:List α):immLL (xs.map (a.d o))=xs.map (a.d false):=immLL_map (a.imm o) xs
theorem TD.nims {α:Type}{t:Ty α}(a:TD t)(xs:List α):noImmLL (xs.map (a.d true))=true:=noImmLL_map a.nim xs
theorem nim_rI (xs:List Int):noImmLL (xs.map rI)=true:=noImmLL_map (fun _=>by simp [noImmL,D.noImm]) xs
theorem nim_rB8 (xs:List Int):noImmLL (xs.map rB8)=true:=noImmLL_map (fun _=>by simp [noImmL,D.noImm]) xs
theorem nim_rBo (xs:List Bool):noImmLL (xs.map rBo)=true:=noImmLL_map (fun _=>by simp [noImmL,D.noImm]) xs
theorem nim_rS (xs:List ByteArray):noImmLL (xs.map rS)=true:=noImmLL_map (fun _=>by simp [noImmL,D.noImm]) xs
theorem immLL_rI (xs:List Int):immLL (xs.map rI)=xs.map rI:=immLL_map (fun _=>by simp [immL,D.imm]) xs
theorem immLL_rB8 (xs:List Int):immLL (xs.map rB8)=xs.map rB8:=immLL_map (fun _=>by simp [immL,D.imm]) xs
theorem immLL_rBo (xs:List Bool):immLL (xs.map rBo)=xs.map rBo:=immLL_map (fun _=>by simp [immL,D.imm]) xs
theorem immLL_rS (xs:List ByteArray):immLL (xs.map rS)=xs.map rS:=immLL_map (fun _=>by simp [immL,D.imm]) xs
theorem immLL_rII (xs:List (List Int)):immLL (xs.map (fun x=>[D.sl false 1 (x.map rI)]))=xs.map (fun x=>[D.sl false 1 (x.map rI)]):=immLL_map (fun x=>by simp only [immL,D.imm,immLL_rI]) xs
theorem immLL_rIIt (xs:List (List Int)):immLL (xs.map (fun x=>[D.sl true 1 (x.map rI)]))=xs.map (fun x=>[D.sl false 1 (x.map rI)]):=immLL_map (fun x=>by simp only [immL,D.imm,immLL_rI]) xs
theorem fill_len {α:Type}(xs:List α)(f:α→List D)(Z:List D)(k:Nat):((xs.take k).map f++List.replicate (xs.length-k) Z).length=xs.length:=by rw [List.length_append,List.length_map,List.length_take,List.length_replicate];omega
theorem fill_at {α:Type}(xs:List α)(f:α→List D)(Z:List D)(k:Nat)(h:k<xs.length):((xs.take k).map f++List.replicate (xs.length-k) Z)[k]?=some Z:=by have hl:((xs.take k).map f).length=k:=(by rw [List.length_map,List.length_take];omega);rw [List.getElem?_append_right (by omega),hl,Nat.sub_self,List.getElem?_replicate,if_pos (by omega)]
theorem fill_next {α:Type}(xs:List α)(f:α→List D)(Z:List D)(k:Nat)(h:k<xs.length):((xs.take k).map f++List.replicate (xs.length-k) Z).set k (f xs[k])=(xs.take (k+1)).map f++List.replicate (xs.length-(k+1)) Z:=by have hl:((xs.take k).map f).length=k:=(by rw [List.length_map,List.length_take];omega);rw [List.set_append_right _ _ (by omega),hl,Nat.sub_self,show xs.length-k=(xs.length-(k+1))+1 by omega,List.replicate_succ,List.set_cons_zero,List.take_succ_eq_append_getElem h,List.map_append,List.append_assoc];rfl
theorem fill_end {α:Type}(xs:List α)(f:α→List D)(Z:List D):(xs.take xs.length).map f++List.replicate (xs.length-xs.length) Z=xs.map f:=by simp
structure CapsOK (caps:List D):Prop where
  owny:ownyL caps=false
  pr:∀ q,pruneL q caps=caps
  d8:∀ s,caps.map (deep s 8)=caps
  d7:∀ s,caps.map (deep s 7)=caps
def vIdx {α:Type}(p:α→Bool)(xs:List α):Int:=match xs.findIdx? p with
  | some i=>(i:Int)
  | none => -1
theorem vIdx_any {α:Type}(p:α→Bool)(xs:List α):decide (0≤vIdx p xs)=xs.any p:=by
  unfold vIdx;cases h:xs.findIdx? p with
  | none =>
    rw [List.findIdx?_eq_none_iff] at h;have:xs.any p=false:=by simpa using h
    simp [this]
  | some i=>have h2:(xs.findIdx? p).isSome=true:=(by rw [h];rfl);rw [List.findIdx?_isSome] at h2;simp [h2]
theorem vIdx_hit {α:Type}(p:α→Bool)(xs:List α)(i:Nat)(hi:i<xs.length)(h0:∀ j (hj:j<xs.length),j<i→p xs[j]=false)(h:p xs[i]=true):vIdx p xs=(i:Int):=by have:xs.findIdx? p=some i:=(by rw [List.findIdx?_eq_some_iff_getElem];exact ⟨hi,h,fun j hj=>by simpa using h0 j (by omega) hj⟩);simp [vIdx,this]
theorem vIdx_miss {α:Type}(p:α→Bool)(xs:List α)(h0:∀ j (hj:j<xs.length),p xs[j]=false):vIdx p xs = -1:=by have:xs.findIdx? p=none:=(by rw [List.findIdx?_eq_none_iff];intro x hx;obtain ⟨i,hi,rfl⟩:=List.getElem_of_mem hx;exact h0 i hi);simp [vIdx,this]
theorem Contract.at {P:Program}{G:World→(Nat→Prop)→Prop}{f:FuncId}{args:List D}{d:D}(h:Contract P G f args d){w:World}{B:Nat}{us:List Value}(hG:GI G w (fun b=>b<B))(hB:B≤w.heap.size)(hV:Vals (fun b=>b<B) w args nil us []) :
    Calls P f us.toArray w fun e w'=>(∃ v I F,e=.returned v∧T I w' d nil v F∧F.Nodup∧∀ b,b∈F→w.heap.size≤b∧b<w'.heap.size)∧Below w.heap.size w w' :=
  (h.2 w (fun b=>b<B) us hG (fun b hb=>Nat.lt_of_lt_of_le hb hB) hV).mono fun e w' ⟨v,F,I,h1,h2,h3,h4,h5,_,_⟩ =>
    ⟨⟨v,I,F,h1,h3,h4,fun b hb=>⟨(h5 b hb).1,(h5 b hb).2.1⟩⟩,h2⟩
theorem vals_cons {I:Nat→Prop}{w:World}{x:D}{xs:List D}{u:Value}{us:List Value}(h:T I w x nil u [])(k:Vals I w xs nil us []):Vals I w (x::xs) nil (u::us) []:=by simp only [Vals];exact ⟨u,us,[],[],rfl,rfl,h,k⟩
theorem vals_nil {I:Nat→Prop}{w:World}:Vals I w [] nil [] []:=by simp [Vals]
theorem vals_v {I:Nat→Prop}{w:World}(u:Value):T I w (.v u) nil u []:=by simp [T]
theorem vals_split {I:Nat→Prop}{w:World}{x:D}{xs:List D}{vs:List Value}{F:List Nat}(h:Vals I w (x::xs) nil vs F):∃ u us F1 F2,vs=u::us∧F=F1++F2∧T I w x nil u F1∧Vals I w xs nil us F2:=by simpa only [Vals] using h
theorem TD.agg_dn {α:Type}{t:Ty α}(a:TD t){I:Nat→Prop}{w:World}{v:Value}{x:α}{F:List Nat}(hk:a.ok x)(hI:∀ b,I b→b<w.heap.size)(hF:F=[])(h:T I w (.agg (a.d false x)) nil v F):∃ cs,v=.agg cs.toArray∧t.rep w w.heap.size cs x:=by subst hF;simp only [T] at h;obtain ⟨cs,e,hc⟩:=h;exact ⟨cs,e,a.dn hk (Cells.mono hI _ hc)⟩
theorem contract_plain {P:Program}{f:FuncId}{args:List D}{u:Value}(hen:∀ (us:Array Value) (W:World),(callFunc f us).run P W=.ok (.enter f us) W)
    (h:∀ (w:World) (I:Nat→Prop) (us:List Value),(∀ b,I b→b<w.heap.size)→Vals I w args nil us []→Calls P f us.toArray w fun e w'=>e=.returned u∧Below w.heap.size w w'):Contract P NoG f args (.v u):=by
  refine ⟨hen,fun w I us _ hI hV=>(h w I us hI hV).mono ?_⟩;rintro e w' ⟨rfl,hb⟩;exact ⟨u,[],I,rfl,hb,by simp [T],List.nodup_nil,fun b hb=>(List.not_mem_nil hb).elim,fun _ h=>h,fun b h=>⟨.inl h,Nat.lt_of_lt_of_le (hI b h) hb.size⟩⟩
theorem vals_one {I:Nat→Prop}{w:World}{x:D}{xs:List D}{vs:List Value}(h:Vals I w (x::xs) nil vs []):∃ u us,vs=u::us∧T I w x nil u []∧Vals I w xs nil us []:=by obtain ⟨u,us,F1,F2,e,eF,h1,h2⟩:=vals_split h;have eF:=eF.symm;simp only [List.append_eq_nil_iff] at eF;obtain ⟨rfl,rfl⟩:=eF;exact ⟨u,us,e,h1,h2⟩
theorem vals_none {I:Nat→Prop}{w:World}{vs:List Value}(h:Vals I w [] nil vs []):vs=[]:=by simpa [Vals] using h
theorem T_v {I:Nat→Prop}{w:World}{x u:Value}{F:List Nat}(h:T I w (.v x) nil u F):u=x:=by simp only [T] at h;exact h.1
theorem contract_mark {P:Program}{f:FuncId}{d0 d1:D}{k:Value}{r:Value}(hen:∀ (us:Array Value) (W:World),(callFunc f us).run P W=.ok (.enter f us) W)
    (h:∀ (w:World) (I:Nat→Prop) (u:Value) (X:List Nat),T I w d0 nil u X→X.Nodup→(∀ b,b∈X→b<w.heap.size)→Calls P f #[u,k] w fun e w'=>e=.returned r∧T (fun b=>b∈X) w' d1 nil u []∧Chg X w w'):ContractL P NoG f 0 [.undef,.v k] d0 (.v r) d1:=by
  refine ⟨hen,fun w I us u X _ hI hu hV hT hn hX=>?_⟩;obtain ⟨u0,us,rfl,_,hV⟩:=vals_one hV;obtain ⟨u1,us,rfl,h1,hV⟩:=vals_one hV;obtain rfl:=vals_none hV;obtain rfl:=T_v h1;simp only [List.getElem?_cons_zero,Option.some.injEq] at hu;subst hu;refine (h w I u0 X hT hn (fun b hb=>(hX b hb).1)).mono ?_;rintro e w' ⟨rfl,hT',hc⟩;refine ⟨r,[],[],fun b=>I b∨b∈X,rfl,⟨hc.below.os,hc.below.tape,hc.below.output,hc.below.size,fun b hb=>?_⟩,by simp [T],T.mono (fun b hb=>.inr hb) _ hT',List.nodup_nil,fun b hb=>(List.not_mem_nil hb).elim,fun b hb=>.inl hb,fun b hb=>⟨hb.elim .inl (fun h=>.inr (.inr h)),?_⟩⟩
  · have hb:¬ (w.heap.size≤b∨b∈X):=hb;exact hc.keep b (by omega) (fun hx=>hb (.inr hx))
  · have:=hc.size;rcases hb with hb | hb
    · have:=hI b hb;omega
    · have:=(hX b hb).1;omega
theorem mark_agg {α:Type}{t:Ty α}(a:TD t){P:Program}{f:FuncId}{x y:α}{k r:Value}(hen:∀ (us:Array Value) (W:World),(callFunc f us).run P W=.ok (.enter f us) W)(hk:a.ok x)
    (h:∀ (w:World) (cs:List Value) (X:List Nat),t.own w cs x X→X.Nodup→(∀ b,b∈X→b<w.heap.size)→Calls P f #[.agg cs.toArray,k] w fun e' w'=>e'=.returned r∧t.own w' cs y X∧Chg X w w'):ContractL P NoG f 0 [.undef,.v k] (.agg (a.d true x)) (.v r) (.agg (a.d false y)):=by
  refine contract_mark hen fun w I u X hT hn hX=>?_;simp only [T] at hT;obtain ⟨cs,rfl,hc⟩:=hT;refine (h w cs X (a.own hk hc) hn hX).mono ?_;rintro e' w' ⟨rfl,ho,hc'⟩;exact ⟨rfl,by simp only [T];exact ⟨cs,rfl,a.up ho⟩,hc'⟩
theorem any_not {α:Type}(p:α→Bool)(xs:List α):xs.any (fun x=>!p x)=!xs.all p:=by
  induction xs with
  | nil=>rfl
  | cons x xs ih=>simp only [List.any_cons,List.all_cons,ih,Bool.not_and]
section
variable {P:Program} {G:World→(Nat→Prop)→Prop} {s:List D} {K:D→List D→Prop}
theorem call_B {f:FuncId}{args:List Operand}{A args':List D}{d:D}(hC:Contract P G f args' d)(hA:(args.map fun x=>deep s 8 (raw s x))=A)(hK:K d s)(he:leL A args':=by repeat (first | exact leL_nil | refine leL_cons ?_ ?_ | exact le_of_eq rfl | exact le_iptrN (leL_of_eq rfl) | refine le_agg ?_ | exact le_slf rfl (TD.rows ..) | refine le_iptr ?_ | refine le_fn ?_ ?_ | exact le_nilsl_))(hi:d.noImm=true∨((args.map fun x=>raw s x).all D.noRef)=true:=by first | exact .inl rfl | exact .inr rfl | exact .inl (by simp only [D.noImm,noImmL,go_sem,TD.nims,TD.nim,nim_rI,nim_rB8,nim_rBo,nim_rS])):evalK (CT P G) s (.callX f args) K :=
  call_leA hC hA he hi hK
theorem call_PB {f:FuncId}{args:List Operand}{i r:Nat}{tag:Option Nat}{cells A args' cells0:List D}{d:D}{cells':List D}(hC:ContractX P G f i args' cells0 d cells')(hi:(args.map fun x=>raw s x)[i]?=some (.ptr r [] 0 0))(hs:s[r]?=some (.box tag cells))
    (hA:((args.map fun x=>raw s x).map (D.prune (notRoot r))).map (deep ((pruneL (notRoot r) s).set r .undef) 8)=A) (hK:K d ((pruneL (keepB r) s).set r (.box tag cells'))) (hle:leL A args':=by repeat (first | exact leL_nil | refine leL_cons ?_ ?_ | exact le_of_eq rfl | exact le_iptrN (leL_of_eq rfl) | refine le_agg ?_ | exact le_slf rfl (TD.rows ..) | refine le_iptr ?_ | refine le_fn ?_ ?_ | exact le_nilsl_)) (hlc:leL (pruneL (fun _=>false) cells) cells0:=by repeat (first | exact leL_nil | refine leL_cons ?_ ?_ | exact le_of_eq rfl | exact le_iptrN (leL_of_eq rfl) | refine le_agg ?_ | exact le_slf rfl (TD.rows ..) | refine le_iptr ?_ | refine le_fn ?_ ?_ | exact le_nilsl_)) (hn:(d.noImm=true∧noImmL cells'=true)∨((args.map fun x=>raw s x).map (D.prune (notRoot r))).all D.noRef=true:=by first | exact .inr rfl | exact .inl ⟨rfl,rfl⟩ | exact .inl ⟨by simp only [D.noImm,noImmL,go_sem,TD.nims,TD.nim,nim_rI,nim_rB8,nim_rBo,nim_rS],by simp only [D.noImm,noImmL,go_sem,TD.nims,TD.nim,nim_rI,nim_rB8,nim_rBo,nim_rS]⟩):evalK (CT P G) s (.callX f args) K :=
  call_ioA hC hi hs hA hle hlc hn hK
theorem call_NB {f:FuncId}{args:List Operand}{A args':List D}{d:D}(hC:Contract P G f args' d)(hA:(args.map fun x=>deep s 8 (raw s x))=A)(hK:K d s)(he:leL A args':=by repeat (first | exact leL_nil | refine leL_cons ?_ ?_ | exact le_of_eq rfl | exact le_iptrN (leL_of_eq rfl) | refine le_agg ?_ | exact le_slf rfl (TD.rows ..) | refine le_iptr ?_ | refine le_fn ?_ ?_ | exact le_nilsl_))(hi:d.noImm=true∨((args.map fun x=>raw s x).all D.noRef)=true:=by first | exact .inl rfl | exact .inr rfl | exact .inl (by simp only [D.noImm,noImmL,go_sem,TD.nims,TD.nim,nim_rI,nim_rB8,nim_rBo,nim_rS])):evalK (CT P G) s (.call f args) K :=
  call_leNA hC hA he hi hK
theorem nleA {xs ys:List D}(h:nleL xs ys:=by (try simp -implicitDefEqProofs only [nleL_cc,nleL_nn,nle_self,nle_boxs,nle_aggs,nle_nils,and_self,and_true,true_and])<;>repeat' (first | exact nle_of_eq rfl | exact nle_nil | apply And.intro | apply nle_sl | apply nleLL_cons | apply nleL_cons | exact nleL_nil | exact nleLL_nil | apply nle_box | apply nle_agg)):nleL xs ys:=h
end
end Go.Proofs.Ytaleehohmpohoaa
