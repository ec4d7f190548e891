/- Laws that the proof stands on. -/
import Derived.Test.YtdlchnlpmofpmaaGreatDoorZVB
import Derived.Shelf.GgSortFunc.InsertionK
import Derived.Sort.Statements
set_option linter.all false
namespace Go.V
open Go.RowKit
/-! ### A sort that the library does in place -/
section
variable {α:Type} [Inhabited α]
def yQy (enc:α→List Value)(x:α):List D:=(enc x).map D.v
theorem yDr {I:Nat→Prop}{w:World}{ρ:D→Value→Prop}:∀ (l:List Value) {us:List Value} {F:List Nat},Cells I w (l.map D.v) ρ us F→us=l∧F=[]
  | [],us,F,h=>by simpa [Cells] using h
  | x::l,us,F,h=>by simp only [List.map_cons,Cells] at h;obtain ⟨u,us',F1,F2,rfl,rfl,_,ht,hc⟩:=h;simp only [T] at ht;obtain ⟨rfl,rfl⟩:=ht;obtain ⟨rfl,rfl⟩:=yDr l hc;exact ⟨rfl,rfl⟩
theorem zZq {I:Nat→Prop}{w:World}{ρ:D→Value→Prop}:∀ (l:List Value),(∀ v,v∈l→v.oneCell'=true)→Cells I w (l.map D.v) ρ l []
  | [],_=>by simp [Cells]
  | x::l,h=>by simp only [List.map_cons,Cells];exact ⟨x,l,[],[],rfl,rfl,h x (by simp),by simp [T],zZq l (fun v hv=>h v (by simp [hv]))⟩
theorem zRl {I:Nat→Prop}{w:World}{enc:α→List Value}{k:Nat}:∀ (xs:List α) {raw:List Value} {F:List Nat},Rows I w k (xs.map (yQy enc)) raw F→raw=xs.flatMap enc∧F=[]
  | [],raw,F,h=>by simpa [Rows] using h
  | x::xs,raw,F,h=>by simp only [List.map_cons,Rows] at h;obtain ⟨us,raw',F1,F2,rfl,rfl,_,hc,hr⟩:=h;obtain ⟨rfl,rfl⟩:=yDr _ hc;obtain ⟨rfl,rfl⟩:=zRl xs hr;exact ⟨by simp,rfl⟩
theorem zSi {I:Nat→Prop}{w:World}{enc:α→List Value}{k:Nat}(hk:∀ x,(enc x).length=k)(h1:∀ x,∀ v∈enc x,v.oneCell'=true):∀ (xs:List α),Rows I w k (xs.map (yQy enc)) (xs.flatMap enc) []
  | []=>by simp [Rows]
  | x::xs=>by simp only [List.map_cons,Rows,List.flatMap_cons];exact ⟨enc x,xs.flatMap enc,[],[],rfl,rfl,hk x,zZq _ (h1 x),zSi hk h1 xs⟩
theorem zV0 {enc:α→List Value}{k:Nat}(hk:∀ x,(enc x).length=k):∀ xs:List α,(xs.flatMap enc).length=xs.length*k
  | []=>by simp
  | x::xs=>by rw [List.flatMap_cons,List.length_append,hk,zV0 hk xs,List.length_cons,Nat.succ_mul,Nat.add_comm]
theorem flat_get {enc:α→List Value}{k:Nat}(hk:∀ x,(enc x).length=k)(hk0:0<k):∀ (xs:List α) (t:Nat),t<xs.length*k→(xs.flatMap enc)[t]?=some (Go.Sort.flatK enc k xs.toArray)[t]!
  | [],t,h=>by simp at h
  | x :: xs,t,h=>by
    rw [Go.Sort.get_flatK _ _ _ _ (by simpa using h),List.flatMap_cons];by_cases ht:t<k
    · rw [List.getElem?_append_left (by rw [hk];exact ht)];have e1:t / k=0:=Nat.div_eq_of_lt ht;have e2:t % k=t:=Nat.mod_eq_of_lt ht;rw [e1,e2];have hx:(x::xs).toArray[0]! = x:=by simp
      rw [hx,List.getElem?_eq_getElem (by rw [hk];exact ht),List.getElem!_eq_getElem?_getD,List.getElem?_eq_getElem (by rw [hk];exact ht)];rfl
    · have hlt:t-k<xs.length*k:=(by rw [List.length_cons,Nat.succ_mul] at h;omega);rw [List.getElem?_append_right (by rw [hk];omega),hk,flat_get hk hk0 xs (t-k) hlt,Go.Sort.get_flatK _ _ _ _ (by simpa using hlt)];have e1:t / k=(t-k) / k+1:=(by have:=Nat.add_div_right (t-k) hk0;rw [show t-k+k=t by omega] at this;exact this);have e2:t % k=(t-k) % k:=(by have:=Nat.add_mod_right (t-k) k;rw [show t-k+k=t by omega] at this;exact this);rw [e1,e2];have hx:(x::xs).toArray[(t-k) / k+1]! = xs.toArray[(t-k) / k]!:=(by have hb:(t-k) / k<xs.length:=Nat.div_lt_of_lt_mul (by rw [Nat.mul_comm];exact hlt);simp [hb]);rw [hx]
theorem zTj {enc:α→List Value}{k n b o:Nat}{w:World}{d':Array α}{os:Array Obj}{cells:Array Value}{e:TypeId}(hh:w.heap[b]?=some (.cells cells e (0,0))) :
    (Go.Proofs.sortWorldK enc k w b o n d' os).heap[b]?=some (.cells (Go.Sort.putCells id o (Go.Sort.flatK enc k d') cells) e (0,0))∧(∀ j,j<w.heap.size→j≠b→(Go.Proofs.sortWorldK enc k w b o n d' os).heap[j]?=w.heap[j]?)∧w.heap.size≤(Go.Proofs.sortWorldK enc k w b o n d' os).heap.size:=by
  have hb:b<w.heap.size:=(Array.getElem?_eq_some_iff.1 hh).1;unfold Go.Proofs.sortWorldK Go.Sort.putRowK Go.Sort.putRow Go.Sort.mapBlock Go.Sort.grow Go.Sort.ahead;refine ⟨?_,fun j hj hne=>?_,by simp⟩
  · simp only;rw [Array.getElem?_append_left (by simpa using hb),Array.getElem?_modify,if_pos rfl,hh];rfl
  · simp only;rw [Array.getElem?_append_left (by simpa using hj),Array.getElem?_modify,if_neg (fun e=>hne e.symm)]
variable {P:Program} {G:World→(Nat→Prop)→Prop}
theorem zOc {f g k:Nat}{enc:α→List Value}(lt:α→α→Bool)(hk:∀ x,(enc x).length=k)(hk0:0<k)(h1:∀ x,∀ v∈enc x,v.oneCell'=true)
    (HE:∀ (us:Array Value) (W:World),(callFunc f us).run P W=.ok (.enter f us) W) (xs ys:List α) (hx:xs.length<4611686018427387904)
    (HS:∀ (blk off cap:Nat) (w:World),Go.Sort.HoldsK enc k w blk off xs.toArray→blk<w.heap.size→Calls P f #[.slice (some ⟨blk,off,none⟩) xs.toArray.size cap,.func (.func g) #[] #[]] w fun e w'=>e=.returned (.tuple #[])∧∃ d' n os,Go.Sort.PermIn 0 xs.toArray.size xs.toArray d'∧Go.Sort.SortedIn lt 0 xs.toArray.size d'∧w'=Go.Proofs.sortWorldK enc k w blk off n d' os)
    (H0:xs=[]→∀ w:World,Calls P f #[.slice none 0 0,.func (.func g) #[] #[]] w fun e w'=>e=.returned (.tuple #[])∧Below w.heap.size w w')
    (hu:∀ d':Array α,Go.Sort.PermIn 0 xs.toArray.size xs.toArray d'→Go.Sort.SortedIn lt 0 xs.toArray.size d'→d'.toList=ys) (hys:xs=[]→ys=[]) :
    zBj P G f 0 [.undef,.fn g [] []] (.sl true k (xs.map (yQy enc))) (.tup []) (.sl true k (ys.map (yQy enc))):=by
  refine ⟨HE,fun w I us u X hG hI hu0 hV hT hnd hX=>?_⟩;have hus:us=[u,.func (.func g) #[] #[]]:=by simp only [List.set_cons_zero,Vals,T] at hV;obtain ⟨u1,us',F1,F2,rfl,hF,_,u2,us'',F3,F4,rfl,hF',⟨a1,a2,F5,F6,rfl,_,⟨rfl,_⟩,⟨rfl,_⟩⟩,rfl,_⟩:=hV;simp only [List.getElem?_cons_zero,Option.some.injEq] at hu0;subst hu0;rfl
  subst hus;have hT0:=hT;simp only [T] at hT;obtain ⟨a,c,rfl,hlc,hcm,hT⟩:=hT;rcases hT with ⟨hf,_⟩ | ⟨_,⟨rfl,rfl,rfl⟩ | ⟨b,o,cells,e,raw,F',rfl,hh,hcs,hr,rfl,hR⟩⟩
  · cases hf
  · have hx0:xs=[]:=(by rw [List.length_map] at hlc;exact List.length_eq_zero_iff.1 (by omega));subst hx0;rw [hys rfl];refine (H0 rfl w).mono ?_;rintro e w' ⟨rfl,hb⟩;refine ⟨.tuple #[],[],[],I,rfl,⟨hb.os,hb.tape,hb.output,hb.size,fun k hk=>hb.block k (Nat.lt_of_not_le (fun hle=>hk (.inl hle)))⟩,by simp [T,Vals],?_,by simp,(by simp),fun _ h=>h,fun b hb'=>⟨.inl hb',Nat.lt_of_lt_of_le (hI b hb') hb.size⟩⟩;have h0:T I w' (.sl true k []) nil (.slice none 0 0) []:=(by simp [T,maxLen];exact ⟨none,0,⟨rfl,rfl⟩,by omega,rfl,rfl⟩);exact h0
  · obtain ⟨rfl,rfl⟩:=zRl xs hR;have hbs:b<w.heap.size:=(Array.getElem?_eq_some_iff.1 hh).1;rw [List.length_map] at hlc hT0 ⊢;have hH:Go.Sort.HoldsK enc k w b o xs.toArray:=(by intro j hj;rw [Go.Sort.size_flatK] at hj;refine ⟨hr j _ (flat_get hk hk0 xs j (by simpa using hj)),?_⟩;unfold World.frozen?;rw [hh];simp);have hc:=HS b o c w hH hbs;rw [List.size_toArray] at hc;refine hc.mono ?_;rintro e' w' ⟨rfl,d',n,os,hp,hs,rfl⟩;have hd:=hu d' (by rw [List.size_toArray];exact hp) (by rw [List.size_toArray];exact hs);have hsz:d'.size=xs.length:=(by have:=hp.1;simpa using this);have hyl:ys.length=xs.length:=(by rw [← hd];simpa using hsz);have hdy:d'=ys.toArray:=(by rw [← hd]);obtain ⟨g1,g2,g3⟩:=zTj (enc:=enc) (k:=k) (n:=n) (o:=o) (d':=d') (os:=os) hh;refine ⟨.tuple #[],[],[b],I,rfl,⟨rfl,rfl,rfl,g3,fun j hj=>g2 j (Nat.lt_of_not_le (fun hle=>hj (.inl hle))) (fun e=>hj (.inr (by simp [e])))⟩,by simp [T,Vals],?_,by simp,fun x hx=>?_,fun _ h=>h,fun b' hb'=>⟨.inl hb',Nat.lt_of_lt_of_le (hI b' hb') g3⟩⟩
    · simp only [T,List.length_map];refine ⟨some ⟨b,o,none⟩,c,by rw [hyl],by omega,hcm,.inr ⟨trivial,.inr ⟨b,o,_,e,ys.flatMap enc,[],rfl,g1,by simpa [Go.Sort.putCells] using hcs,fun t v hv=>?_,rfl,zSi hk h1 ys⟩⟩⟩;have hlt:t<ys.length*k:=by have h2:=(List.getElem?_eq_some_iff.1 hv).1;have h3:=zV0 (enc:=enc) hk ys;omega
      rw [flat_get hk hk0 ys t hlt] at hv;have gc:∀ j,(Go.Proofs.sortWorldK enc k w b o n d' os).cell? ⟨b,j,none⟩=(Go.Sort.putCells id o (Go.Sort.flatK enc k d') cells)[j]?:=fun j=>by unfold World.cell?;rw [g1];rfl
      rw [gc];have hin:o+t<cells.size:=by have h4:ys.length*k≤c*k:=Nat.mul_le_mul_right _ (by omega);omega
      unfold Go.Sort.putCells;rw [Array.getElem?_mapIdx,Array.getElem?_eq_getElem hin];simp only [Option.map_some];rw [if_pos ⟨by omega,by rw [Go.Sort.size_flatK,hdy];simp;omega⟩,show o+t-o=t by omega,hdy];exact hv
    · simp only [List.nil_append,List.mem_singleton] at hx;subst hx;exact ⟨.inr (by simp),Nat.lt_of_lt_of_le hbs g3,(hX x (by simp)).2⟩
variable {s:List D} {K:D→List D→Prop}
theorem zY2 {f:FuncId}{r:Nat}{x y:Operand}{d d':D}{g:FuncId}{res:D}(hC:zBj P G f 0 [.undef,.fn g [] []] d res d')(hs:s[r]?=some d)(hx:lk s x=.ref r [])(hy:raw s y=.fn g [] [])(he:d.exact=true)(hK:K res ((zAh (zAg r) s).set r d')):zAl (CT P G) s (.callX f [x,y]) K :=
  zSv (x:=x) true hC rfl (by unfold zX6;rw [hs];exact .inl ⟨rfl,.inr hx,he,rfl,rfl⟩) (by simp [hy,D.owny,zCb]) (by simp [hy,D.prune,deep,leL,D.le,zAh]) (.inr ⟨rfl,by simp [hy,D.prune,D.noRef,zAh,zG7]⟩) hK
end
end Go.V
