/- Laws that the proof stands on. -/
import Derived.Test.YtaleehohmpohoaaZLib
set_option linter.all false
namespace Go.Proofs.Ytaleehohmpohoaa
open Go.RowKit Go.ChangeShapes Go.WideShapes Go.Deep
structure Chg (F:List Nat) (w w':World):Prop where
  below:Below 0 w w'
  keep:∀ b,b<w.heap.size→b∉F→w'.heap[b]?=w.heap[b]?
theorem Chg.refl (F:List Nat)(w:World):Chg F w w:=⟨Below.refl _ _,fun _ _ _=>rfl⟩
theorem Chg.size {F:List Nat}{w w':World}(h:Chg F w w'):w.heap.size≤w'.heap.size:=h.below.size
theorem Chg.trans {F:List Nat}{a b c:World}(h:Chg F a b)(k:Chg F b c):Chg F a c:=⟨h.below.trans k.below,fun x hx hF=>(k.keep x (Nat.lt_of_lt_of_le hx h.size) hF).trans (h.keep x hx hF)⟩
theorem Chg.mono {F G:List Nat}{w w':World}(h:Chg F w w')(hs:∀ b,b∈F→b∈G):Chg G w w':=⟨h.below,fun b hb hG=>h.keep b hb (fun hF=>hG (hs b hF))⟩
theorem Chg.of_below {F:List Nat}{w w':World}(h:Below w.heap.size w w'):Chg F w w':=⟨h.mono (Nat.zero_le _),fun b hb _=>h.block b hb⟩
theorem Chg.set {F:List Nat}{a w:World}(h:Chg F a w){g:Nat}(hg:g∈F)(i:Nat)(v:Value):Chg F a (w.setCell ⟨g,i,none⟩ v) :=
  h.trans ⟨(Below.refl 0 w).setCell (p:=⟨g,i,none⟩) (Nat.zero_le _) v,fun b _ hF=>Below.heap_setCell _ _ _ _ (fun e=>hF (by rw [e];exact hg))⟩
theorem Chg.own {F G:List Nat}{w w':World}{α:Type}{t:Ty α}{cs:List Value}{x:α}(h:Chg F w w')(ho:t.own w cs x G)(hd:∀ b,b∈G→b∉F)(hs:∀ b,b∈G→b<w.heap.size):t.own w' cs x G :=
  t.own_keep (fun b hb=>h.keep b (hs b hb) (hd b hb)) ho
/-! ### A hole in a block: s cells from q on -/
def HoleAt (w:World)(g:Nat)(e:TypeId)(arr0:Array Value)(q s:Nat)(cs:List Value):Prop :=
  ∃ arr ew,w.heap[g]?=some (.cells arr ew (0,0))∧(∀ j,(j<q∨q+s≤j)→arr[j]?=arr0[j]?)∧cs.length=s∧∀ j u,cs[j]?=some u→arr[q+j]?=some u
theorem HoleAt.set {w:World}{g:Nat}{e:TypeId}{arr0:Array Value}{q s:Nat}{cs:List Value}(h:HoleAt w g e arr0 q s cs)(j:Nat)(hj:j<s)(v:Value):HoleAt (w.setCell ⟨g,q+j,none⟩ v) g e arr0 q s (cs.set j v):=by
  obtain ⟨arr,ew,hh,ho,hl,hc⟩:=h;refine ⟨_,ew,blk_set (i:=q+j) hh v,fun i hi=>?_,by simpa using hl,fun i u hu=>?_⟩
  · rw [Array.getElem?_setIfInBounds,if_neg (by omega)];exact ho i hi
  · rw [Array.getElem?_setIfInBounds];have hil:i<cs.length:=by have:=(List.getElem?_eq_some_iff.1 hu).1;simpa using this
    by_cases hij:j=i
    · subst hij;have hb:q+j<arr.size:=by have h1:=hc j cs[j] (by simp);exact (Array.getElem?_eq_some_iff.1 h1).1
      rw [if_pos rfl,if_pos hb];simp only [List.getElem?_set_self hil] at hu;exact hu
    · rw [if_neg (by omega)];rw [List.getElem?_set_ne hij] at hu;exact hc i u hu
theorem HoleAt.keep {w w':World}{g:Nat}{e:TypeId}{arr0:Array Value}{q s:Nat}{cs:List Value}(h:HoleAt w g e arr0 q s cs)(hk:w'.heap[g]?=w.heap[g]?):HoleAt w' g e arr0 q s cs:=by obtain ⟨arr,ew,hh,ho,hl,hc⟩:=h;exact ⟨arr,ew,hk.trans hh,ho,hl,hc⟩
theorem HoleAt.cell {w:World}{g:Nat}{e:TypeId}{arr0:Array Value}{q s:Nat}{cs:List Value}(h:HoleAt w g e arr0 q s cs){j:Nat}{u:Value}(hu:cs[j]?=some u):w.cell? ⟨g,q+j,none⟩=some u:=by obtain ⟨arr,ew,hh,ho,hl,hc⟩:=h;rw [cell_of_row w g (q+j) arr _ _ hh];exact hc j u hu
theorem HoleAt.froz {w:World}{g:Nat}{e:TypeId}{arr0:Array Value}{q s:Nat}{cs:List Value}(h:HoleAt w g e arr0 q s cs):∀ j,w.frozen? ⟨g,j,none⟩=false:=by obtain ⟨arr,ew,hh,ho,hl,hc⟩:=h;intro j;simp [World.frozen?,hh]
/-! ### An element of a row, taken out and put back -/
theorem RowsO.split {α:Type}{R:List Value→α→List Nat→Prop}{size:Nat}(hsz:∀ cs x F,R cs x F→cs.length=size):∀ {raw:List Value} {xs:List α} {F:List Nat},RowsO R raw xs F→∀ k (hk:k<xs.length),
    ∃ A cs C F1 Fk F2,raw=A++(cs++C)∧F=F1++(Fk++F2)∧R cs xs[k] Fk∧A.length=k*size ∧
      ∀ {R':List Value→α→List Nat→Prop} {cs':List Value} {x':α},(∀ c x G,(∀ b,b∈G→b∈F1∨b∈F2)→R c x G→R' c x G)→R' cs' x' Fk→RowsO R' (A++(cs'++C)) (xs.set k x') F
  | _,[],_,_,k,hk=>absurd hk (by simp)
  | _,x::xs,_,⟨cs,raw',F1,F2,e,eF,hx,hr⟩,0,_=>by refine ⟨[],cs,raw',[],F1,F2,by simpa using e,by simpa using eF,hx,by simp,fun hR hx'=>?_⟩;exact ⟨_,raw',F1,F2,rfl,eF,hx',RowsO.mono (P:=fun b=>b∈F2) (fun c y G hy hG=>hR c y G (fun b hb=>.inr (hG b hb)) hy) hr (fun _ h=>h)⟩
  | _,x::xs,_,⟨cs,raw',F1,F2,e,eF,hx,hr⟩,k+1,hk=>by
    obtain ⟨A,c,C,G1,Gk,G2,er,eG,hc,hA,hput⟩:=RowsO.split hsz hr k (by simpa using hk);refine ⟨cs++A,c,C,F1++G1,Gk,G2,by rw [e,er,List.append_assoc],by rw [eF,eG,List.append_assoc],by simpa using hc,?_,fun hR hx'=>?_⟩
    · rw [List.length_append,hA,hsz _ _ _ hx,Nat.add_mul];omega
    · refine ⟨cs,A++(_++C),F1,F2,by rw [List.append_assoc],eF,hR _ _ _ (fun b hb=>.inl (List.mem_append_left _ hb)) hx,?_⟩;exact hput (fun c y G hG=>hR c y G (fun b hb=>by rcases hG b hb with h | h;exact .inl (List.mem_append_right _ h);exact .inr h)) hx'
theorem own_elem {α:Type} {t:Ty α} {e:TypeId} {w:World} {a:Option Addr} {n c:Nat} {xs:List α} {F:List Nat} (h:(Ty.slice e t).own w [.slice a n c] xs F) (hn:F.Nodup) (k:Nat) (hk:k<xs.length) :
    ∃ g o cs Fk arr0,a=some ⟨g,o,none⟩∧n=xs.length∧g∈F∧g∉Fk∧Fk.Nodup∧(∀ b,b∈Fk→b∈F)∧t.own w cs xs[k] Fk∧HoleAt w g e arr0 (o+k*t.size) t.size cs ∧
      ∀ (w':World) (cs':List Value) (x':α),HoleAt w' g e arr0 (o+k*t.size) t.size cs'→t.own w' cs' x' Fk→(∀ b,b∈F→b≠g→b∉Fk→w'.heap[b]?=w.heap[b]?)→(Ty.slice e t).own w' [.slice a n c] (xs.set k x') F:=by
  obtain ⟨a',c',hv,h1,h2,h3⟩:=h;simp only [List.cons.injEq,Value.slice.injEq,and_true] at hv;obtain ⟨rfl,rfl,rfl⟩:=hv;rcases h3 with ⟨rfl,_⟩ | ⟨g,o,cells,ew,raw,F',ha,hh,hc,hr,hF⟩
  · simp at hk
  obtain ⟨A,cs,C,F1,Fk,F2,er,eF,hx,hA,hput⟩:=RowsO.split (fun _ _ _=>t.own_len) hr k hk;subst hF;rw [List.nodup_cons] at hn;obtain ⟨hg,hn'⟩:=hn;have hcl:cs.length=t.size:=t.own_len hx;have hsub:∀ b,b∈Fk→b∈F':=fun b hb=>by rw [eF];exact List.mem_append_right _ (List.mem_append_left _ hb)
  rw [eF,List.nodup_append] at hn';obtain ⟨hn1,hn2,hd1⟩:=hn';rw [List.nodup_append] at hn2;obtain ⟨hn3,hn4,hd2⟩:=hn2;refine ⟨g,o,cs,Fk,cells,ha,rfl,by simp,fun hb=>hg (hsub g hb),hn3,fun b hb=>List.mem_cons_of_mem _ (hsub b hb),hx,⟨cells,ew,hh,fun _ _=>rfl,hcl,fun j u hu=>?_⟩,fun w' cs' x' hH ho hk'=>?_⟩
  · rw [Nat.add_assoc];refine hc _ u ?_;rw [er,← hA,List.getElem?_append_right (by omega),Nat.add_sub_cancel_left,List.getElem?_append_left (List.getElem?_eq_some_iff.1 hu).1];exact hu
  · obtain ⟨arr,ew',hh',hout,hl',hin⟩:=hH;refine ⟨a,c,by simp,by simpa using h1,h2,.inr ⟨g,o,arr,ew',A++(cs'++C),F',ha,hh',fun j u hu=>?_,hput (R':=t.own w') (fun c y G hG hy=>t.own_keep (fun b hb=>?_) hy) ho,rfl⟩⟩
    · rcases Nat.lt_or_ge j A.length with h | h
      · rw [List.getElem?_append_left h] at hu;rw [hout _ (by omega)];exact hc j u (by rw [er,List.getElem?_append_left h];exact hu)
      · rw [List.getElem?_append_right h] at hu;rcases Nat.lt_or_ge (j-A.length) cs'.length with h' | h'
        · rw [List.getElem?_append_left h'] at hu;have:=hin _ _ hu;rw [← hA] at this;rw [show o+j=o+A.length+(j-A.length) by omega];exact this
        · rw [List.getElem?_append_right h'] at hu;rw [hout _ (by rw [← hA];omega)];refine hc j u ?_;rw [er,List.getElem?_append_right h,List.getElem?_append_right (by omega),hcl,← hl'];exact hu
    · have hbF:b∈F'∧b∉Fk:=by
        rcases hG b hb with h | h
        · exact ⟨by rw [eF];exact List.mem_append_left _ h,fun hb2=>hd1 b h b (List.mem_append_left _ hb2) rfl⟩
        · exact ⟨by rw [eF];exact List.mem_append_right _ (List.mem_append_right _ h),fun hb2=>hd2 b hb2 b h rfl⟩
      exact hk' b (List.mem_cons_of_mem _ hbF.1) (fun e=>hg (e▸hbF.1)) hbF.2
/-! ### What a row of marks is -/
def mkL {α:Type}(mk:α→Int→α)(cn:α→Nat):List α→Int→List α
  | [],_=>[]
  | x::xs,k=>mk x k::mkL mk cn xs (k+cn x)
theorem mkL_len {α:Type}(mk:α→Int→α)(cn:α→Nat):∀ (xs:List α) (k:Int),(mkL mk cn xs k).length=xs.length
  | [],_=>rfl
  | x::xs,k=>by simp [mkL,mkL_len mk cn xs]
def cnS {α:Type}(cn:α→Nat)(xs:List α):Nat:=(xs.map cn).sum
theorem sumT_cons {α:Type}(cn:α→Nat)(x:α)(xs:List α)(j:Nat):sumT cn (x::xs) (j+1)=cn x+sumT cn xs j:=by simp [sumT]
theorem mkL_get {α:Type}(mk:α→Int→α)(cn:α→Nat):∀ (xs:List α) (k:Int) (j:Nat) (h:j<xs.length) (h':j<(mkL mk cn xs k).length),(mkL mk cn xs k)[j]=mk xs[j] (k+sumT cn xs j)
  | x::xs,k,0,h,h'=>by simp [mkL,sumT]
  | x::xs,k,j+1,h,h'=>by have:=mkL_get mk cn xs (k+cn x) j (by simpa using h) (by rw [mkL_len];simpa using h);simp only [mkL,List.getElem_cons_succ,this,sumT_cons];congr 1;omega
def mkAt {α:Type}(mk:α→Int→α)(cn:α→Nat)(xs:List α)(k:Int)(j:Nat):List α:=(mkL mk cn xs k).take j++xs.drop j
theorem mkAt_len {α:Type}(mk:α→Int→α)(cn:α→Nat)(xs:List α)(k:Int)(j:Nat):(mkAt mk cn xs k j).length=xs.length:=by simp only [mkAt,List.length_append,List.length_take,mkL_len,List.length_drop];omega
theorem mkAt_zero {α:Type}(mk:α→Int→α)(cn:α→Nat)(xs:List α)(k:Int):mkAt mk cn xs k 0=xs:=by simp [mkAt]
theorem mkAt_all {α:Type}(mk:α→Int→α)(cn:α→Nat)(xs:List α)(k:Int):mkAt mk cn xs k xs.length=mkL mk cn xs k:=by simp only [mkAt,List.drop_length,List.append_nil];rw [List.take_of_length_le (by rw [mkL_len];exact Nat.le_refl _)]
theorem mkAt_get {α:Type}(mk:α→Int→α)(cn:α→Nat)(xs:List α)(k:Int)(j:Nat)(h:j<xs.length)(h':j<(mkAt mk cn xs k j).length):(mkAt mk cn xs k j)[j]=xs[j]:=by have e:((mkL mk cn xs k).take j).length=j:=(by rw [List.length_take,mkL_len];omega);simp only [mkAt];rw [List.getElem_append_right (by omega)];simp [e]
theorem mkAt_succ {α:Type}(mk:α→Int→α)(cn:α→Nat)(xs:List α)(k:Int)(j:Nat)(h:j<xs.length):mkAt mk cn xs k (j+1)=(mkAt mk cn xs k j).set j (mk xs[j] (k+sumT cn xs j)):=by
  refine List.ext_getElem (by simp [mkAt_len]) (fun i h1 h2=>?_);have hL:∀ m,m≤xs.length→((mkL mk cn xs k).take m).length=m:=fun m hm=>by rw [List.length_take,mkL_len];omega
  have hi:i<xs.length:=(by rw [mkAt_len] at h1;exact h1);rw [List.getElem_set];by_cases hij:j=i
  · subst hij;rw [if_pos rfl];simp only [mkAt];rw [List.getElem_append_left (by rw [hL _ (by omega)];omega),List.getElem_take,mkL_get mk cn xs k j h]
  · rw [if_neg hij];simp only [mkAt];rcases Nat.lt_or_ge i j with h3 | h3
    · rw [List.getElem_append_left (by rw [hL _ (by omega)];omega),List.getElem_append_left (by rw [hL _ (by omega)];omega)];simp
    · rw [List.getElem_append_right (by rw [hL _ (by omega)];omega),List.getElem_append_right (by rw [hL _ (by omega)];omega)];simp only [List.getElem_drop,hL _ (show j+1≤xs.length by omega),hL _ (show j≤xs.length by omega)];congr 1;omega
theorem sumT_cnS {α:Type}(f:α→Nat)(xs:List α):sumT f xs xs.length=cnS f xs:=sumT_all f xs
theorem sumT_cn_lt {α:Type}(f:α→Nat)(xs:List α)(k:Nat)(h:k<xs.length):sumT f xs k+f xs[k]≤cnS f xs:=by rw [← sumT_succ f xs k h];exact sumT_le f xs (k+1)
theorem cnS_len {α:Type}{f:α→Nat}{K:Nat}(h:∀ x,f x≤K):∀ xs:List α,cnS f xs≤K*xs.length
  | []=>by simp [cnS]
  | x::xs=>by have h1:=cnS_len h xs;have h2:=h x;simp only [cnS,List.map_cons,List.sum_cons,List.length_cons,Nat.mul_add,Nat.mul_one] at *;omega
/-! ### Marks in data of one's own -/
end Go.Proofs.Ytaleehohmpohoaa
