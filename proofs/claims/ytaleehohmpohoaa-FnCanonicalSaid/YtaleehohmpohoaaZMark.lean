/- Laws that the proof stands on. -/
import Derived.Test.YtaleehohmpohoaaZLib
set_option linter.all false
namespace Go.Proofs.Ytaleehohmpohoaa
open Go.RowKit Go.ChangeShapes Go.WideShapes Go.Deep
structure Chg (F:List Nat) (w w':World):Prop where
  below:Below 0 w w'
  keep:∀ b,b<w.heap.size→b∉F→w'.heap[b]?=w.heap[b]?
theorem Chg.refl (F:List Nat)(w:World):Chg F w w:=⟨Below.refl _ _,fun _ _ _=>rfl⟩
theorem Chg.size {F:List Nat}{w w':World}(h:Chg F w w'):w.heap.size≤w'.heap.size:=h.below.size
theorem Chg.trans {F:List Nat}{a b c:World}(h:Chg F a b)(k:Chg F b c):Chg F a c:=⟨h.below.trans k.below,fun x hx hF=>(k.keep x (xCj hx h.size) hF).trans (h.keep x hx hF)⟩
theorem Chg.mono {F G:List Nat}{w w':World}(h:Chg F w w')(hs:∀ b,b∈F→b∈G):Chg G w w':=⟨h.below,fun b hb hG=>h.keep b hb (fun hF=>hG (hs b hF))⟩
theorem Chg.of_below {F:List Nat}{w w':World}(h:Below w.heap.size w w'):Chg F w w':=⟨h.mono (xCs _),fun b hb _=>h.block b hb⟩
theorem Chg.set {F:List Nat}{a w:World}(h:Chg F a w){g:Nat}(hg:g∈F)(i:Nat)(v:Value):Chg F a (w.setCell ⟨g,i,none⟩ v) :=
  h.trans ⟨(Below.refl 0 w).setCell (p:=⟨g,i,none⟩) (xCs _) v,fun b _ hF=>Below.heap_setCell _ _ _ _ (fun e=>hF (by rw [e];exact hg))⟩
theorem Chg.own {F G:List Nat}{w w':World}{α:Type}{t:Ty α}{cs:List Value}{x:α}(h:Chg F w w')(ho:t.own w cs x G)(hd:∀ b,b∈G→b∉F)(hs:∀ b,b∈G→b<w.heap.size):t.own w' cs x G :=
  t.own_keep (fun b hb=>h.keep b (hs b hb) (hd b hb)) ho
/-! ### A hole in a block: s cells from q on -/
def HoleAt (w:World)(g:Nat)(e:TypeId)(arr0:Array Value)(q s:Nat)(cs:List Value):Prop :=
  ∃ arr ew,w.heap[g]?=some (.cells arr ew (0,0))∧(∀ j,(j<q∨q+s≤j)→arr[j]?=arr0[j]?)∧cs.length=s∧∀ j u,cs[j]?=some u→arr[q+j]?=some u
theorem HoleAt.set {w:World}{g:Nat}{e:TypeId}{arr0:Array Value}{q s:Nat}{cs:List Value}(h:HoleAt w g e arr0 q s cs)(j:Nat)(hj:j<s)(v:Value):HoleAt (w.setCell ⟨g,q+j,none⟩ v) g e arr0 q s (cs.set j v):=by
  obtain ⟨arr,ew,hh,ho,hl,hc⟩:=h;refine ⟨_,ew,yT3 (i:=q+j) hh v,fun i hi=>?_,by simpa using hl,fun i u hu=>?_⟩
  · rw [xEj,if_neg qAc];exact ho i hi
  · rw [xEj];have hil:i<cs.length:=by have:=(xA4.1 hu).1;simpa using this
    by_cases hij:j=i
    · subst hij;have hb:q+j<arr.size:=by have h1:=hc j cs[j] qAh;exact (xBg.1 h1).1
      rw [if_pos rfl,if_pos hb];simp only [xBq hil] at hu;exact hu
    · rw [if_neg qAc];rw [xA9 hij] at hu;exact hc i u hu
theorem HoleAt.keep {w w':World}{g:Nat}{e:TypeId}{arr0:Array Value}{q s:Nat}{cs:List Value}(h:HoleAt w g e arr0 q s cs)(hk:w'.heap[g]?=w.heap[g]?):HoleAt w' g e arr0 q s cs:=by obtain ⟨arr,ew,hh,ho,hl,hc⟩:=h;exact ⟨arr,ew,hk.trans hh,ho,hl,hc⟩
theorem HoleAt.cell {w:World}{g:Nat}{e:TypeId}{arr0:Array Value}{q s:Nat}{cs:List Value}(h:HoleAt w g e arr0 q s cs){j:Nat}{u:Value}(hu:cs[j]?=some u):w.cell? ⟨g,q+j,none⟩=some u:=by obtain ⟨arr,ew,hh,ho,hl,hc⟩:=h;rw [cell_of_row w g (q+j) arr _ _ hh];exact hc j u hu
theorem HoleAt.froz {w:World}{g:Nat}{e:TypeId}{arr0:Array Value}{q s:Nat}{cs:List Value}(h:HoleAt w g e arr0 q s cs):∀ j,w.frozen? ⟨g,j,none⟩=false:=by obtain ⟨arr,ew,hh,ho,hl,hc⟩:=h;intro j;simp [World.frozen?,hh]
/-! ### An element of a row, taken out and put back -/
theorem RowsO.split {α:Type}{R:List Value→α→List Nat→Prop}{size:Nat}(hsz:∀ cs x F,R cs x F→cs.length=size):∀ {raw:List Value} {xs:List α} {F:List Nat},RowsO R raw xs F→∀ k (hk:k<xs.length),
    ∃ A cs C F1 Fk F2,raw=A++(cs++C)∧F=F1++(Fk++F2)∧R cs xs[k] Fk∧A.length=k*size ∧
      ∀ {R':List Value→α→List Nat→Prop} {cs':List Value} {x':α},(∀ c x G,(∀ b,b∈G→b∈F1∨b∈F2)→R c x G→R' c x G)→R' cs' x' Fk→RowsO R' (A++(cs'++C)) (xs.set k x') F
  | _,[],_,_,k,hk=>absurd hk qAh
  | _,x::xs,_,⟨cs,raw',F1,F2,e,eF,hx,hr⟩,0,_=>by refine ⟨[],cs,raw',[],F1,F2,by simpa using e,by simpa using eF,hx,by simp,fun hR hx'=>?_⟩;exact ⟨_,raw',F1,F2,rfl,eF,hx',RowsO.mono (P:=fun b=>b∈F2) (fun c y G hy hG=>hR c y G (fun b hb=>.inr (hG b hb)) hy) hr (fun _ h=>h)⟩
  | _,x::xs,_,⟨cs,raw',F1,F2,e,eF,hx,hr⟩,k+1,hk=>by
    obtain ⟨A,c,C,G1,Gk,G2,er,eG,hc,hA,hput⟩:=RowsO.split hsz hr k (by simpa using hk);refine ⟨cs++A,c,C,F1++G1,Gk,G2,by rw [e,er,xDn],by rw [eF,eG,xDn],by simpa using hc,?_,fun hR hx'=>?_⟩
    · rw [xC4,hA,hsz _ _ _ hx,xC8];omega
    · refine ⟨cs,A++(_++C),F1,F2,by rw [xDn],eF,hR _ _ _ (fun b hb=>.inl (xCt _ hb)) hx,?_⟩;exact hput (fun c y G hG=>hR c y G (fun b hb=>by rcases hG b hb with h | h;exact .inl (xC3 _ h);exact .inr h)) hx'
/-! ### What a row of marks is -/
/-! ### Marks in data of one's own -/
end Go.Proofs.Ytaleehohmpohoaa
