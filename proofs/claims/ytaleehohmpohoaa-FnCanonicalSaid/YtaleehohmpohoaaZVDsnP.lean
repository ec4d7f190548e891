/- Laws that the proof stands on. -/
import Derived.Test.YtaleehohmpohoaaZg13
import Derived.Test.YtaleehohmpohoaaZg16
set_option linter.all false
namespace Go.Proofs.Ytaleehohmpohoaa
open Go.RowKit Go.V
set_option maxRecDepth 100000
theorem nodup_rev {α:Type}{l:List α}:l.reverse.Nodup↔l.Nodup:=by simp only [List.Nodup,List.pairwise_reverse];exact ⟨fun h=>h.imp Ne.symm,fun h=>h.imp Ne.symm⟩
/-! Tables filled by a list: keys, values. -/
section
variable {α κ:Type} [DecidableEq κ]
structure KeyG (kk:α→κ) (key:α→Value):Prop where
  eq:∀ a b,keq (key a) (key b)=decide (kk b=kk a)
def tbG (key val:α→Value)(xs:List α):List (Value×Value):=xs.foldl (fun e v=>zQ2 e (key v) (val v)) []
def zYq (key val:α→Value)(v:α):Value×Value:=(key v,val v)
theorem yJ5 {key val:α→Value}{xs:List α}{i:Nat}(h:i<xs.length):zQ2 (tbG key val (xs.take i)) (key xs[i]) (val xs[i])=tbG key val (xs.take (i+1)):=by unfold tbG;rw [xCd h,xDx];rfl
theorem xAf {kk:α→κ}{key val:α→Value}{q:Value}{c:κ}(hq:∀ b,keq q (key b)=decide (kk b=c))(xs:List α):(xs.map (zYq key val)).findIdx? (fun x=>keq q x.1)=xs.findIdx? (fun x=>decide (kk x=c)):=by rw [List.findIdx?_map];congr 1;funext v;exact hq v
theorem yHi {kk:α→κ}{key val:α→Value}(hK:KeyG kk key){xs:List α}{v:α}(h:kk v∉xs.map kk):zQ2 (xs.map (zYq key val)) (key v) (val v)=(xs++[v]).map (zYq key val):=by
  unfold zQ2;rw [xAf (hK.eq v)];have:xs.findIdx? (fun x=>decide (kk x=kk v))=none:=by rw [xEb];intro x hx;rw [decide_eq_false_iff_not];exact fun e=>h (xB1.2 ⟨x,hx,e⟩)
  rw [this,xBo];rfl
theorem yHj {e:List (Value×Value)}{k v:Value}:(zQ2 e k v).length≤e.length+1:=by unfold zQ2;split<;>simp
theorem yHh {kk:α→κ}{key val:α→Value}(hK:KeyG kk key){xs:List α}{v:α}(h:kk v∈xs.map kk):(zQ2 (xs.map (zYq key val)) (key v) (val v)).length=xs.length:=by
  unfold zQ2;rw [xAf (hK.eq v)];cases hi:xs.findIdx? (fun x=>decide (kk x=kk v)) with
  | none=>obtain ⟨x,hx,hxk⟩:=xB1.1 h;have:=(xEb.1 hi) x hx;rw [decide_eq_true hxk] at this;cases this
  | some i=>simp
theorem zX8 {key val:α→Value}:∀ (ys:List α) (e:List (Value×Value)),(ys.foldl (fun e v=>zQ2 e (key v) (val v)) e).length≤e.length+ys.length
  | [],e=>by simp
  | y::ys,e=>by have h1:=zX8 (key:=key) (val:=val) ys (zQ2 e (key y) (val y));have h2:=yHj (e:=e) (k:=key y) (v:=val y);rw [xDm,xBk];omega
theorem zTg {kk:α→κ}{key val:α→Value}(hK:KeyG kk key):∀ (ys pre:List α),(pre.map kk).Nodup→(((pre++ys).map kk).Nodup→ys.foldl (fun e v=>zQ2 e (key v) (val v)) (pre.map (zYq key val))=(pre++ys).map (zYq key val)) ∧
    (¬ ((pre++ys).map kk).Nodup→(ys.foldl (fun e v=>zQ2 e (key v) (val v)) (pre.map (zYq key val))).length<pre.length+ys.length)
  | [],pre,h=>by simp [h]
  | y::ys,pre,h=>by
    by_cases hy:kk y∈pre.map kk
    · have hno:¬ ((pre++y::ys).map kk).Nodup:=(by rw [xBo,xA6,xA5];intro ⟨_,_,h3⟩;exact h3 _ hy (kk y) qAh rfl);refine ⟨fun hn=>absurd hn hno,fun _=>?_⟩;have h1:=zX8 (key:=key) (val:=val) ys (zQ2 (pre.map (zYq key val)) (key y) (val y));rw [yHh hK hy] at h1;rw [xDm,xBk];omega
    · have hn':((pre++[y]).map kk).Nodup:=(by rw [xBo,xA5];refine ⟨h,by simp,fun a ha b hb e=>?_⟩;simp at hb;subst hb;subst e;exact hy ha);obtain ⟨h1,h2⟩:=zTg hK ys (pre++[y]) hn';rw [xDn,List.singleton_append] at h1 h2;rw [xDm,yHi hK hy];refine ⟨h1,fun hn=>?_⟩;have:=h2 hn;rw [xC4] at this;simp only [xBk,xBy] at this ⊢;omega
theorem yAh {kk:α→κ}{key val:α→Value}(hK:KeyG kk key){xs:List α}(h:(xs.map kk).Nodup):tbG key val xs=xs.map (zYq key val):=(zTg hK xs [] xC2).1 qBp
theorem yPr {kk:α→κ}{key val:α→Value}(hK:KeyG kk key)(xs:List α):decide (((tbG key val xs).length:Int)=(xs.length:Int))=decide ((xs.map kk).Nodup):=by
  by_cases h:(xs.map kk).Nodup
  · rw [yAh hK h,xAw,decide_eq_true h,decide_eq_true rfl]
  · have:=(zTg (val:=val) hK xs [] xC2).2 qBp;simp only [xBl,xBy,xB2] at this;rw [decide_eq_false h,decide_eq_false_iff_not];unfold tbG;omega
theorem zV8 {kk:α→κ}{key val:α→Value}(hK:KeyG kk key){xs:List α}(h:(xs.map kk).Nodup){q:Value}{c:κ}(hq:∀ b,keq q (key b)=decide (kk b=c)){x:α}(hx:x∈xs)(hc:kk x=c):zXx (tbG key val xs) q=some (val x):=by
  rw [yAh hK h];unfold zXx;have:(xs.map (zYq key val)).find? (fun x=>keq q x.1)=some (zYq key val x):=by
    rw [List.find?_map];have:xs.find? ((fun x=>keq q x.1) ∘ zYq key val)=some x:=by obtain ⟨i,hi,rfl⟩:=xFk hx;rw [List.find?_eq_some_iff_getElem];refine ⟨by simp [zYq,hq,hc],i,hi,rfl,fun j hj=>?_⟩;simp only [Function.comp,zYq,hq];rw [xDy,decide_eq_false_iff_not];intro e;have hlt:j<xs.length:=qAc;have h1:(xs.map kk)[j]'qAg=(xs.map kk)[i]'qAp:=(by simp only [xFg];rw [e,hc]);exact (xFb.1 h j i qAg qAp hj) h1
    rw [this];rfl
  rw [this];rfl
theorem zTd {kk:α→κ}{key val:α→Value}(hK:KeyG kk key){xs:List α}(h:(xs.map kk).Nodup){q:Value}{c:κ}(hq:∀ b,keq q (key b)=decide (kk b=c))(hc:∀ x,x∈xs→kk x≠c):zXx (tbG key val xs) q=none:=by
  rw [yAh hK h];unfold zXx;have:(xs.map (zYq key val)).find? (fun x=>keq q x.1)=none:=by rw [xEy];intro x hx;obtain ⟨y,hy,rfl⟩:=xB1.1 hx;simp only [zYq,hq,xB9,decide_eq_false_iff_not];exact hc y hy
  rw [this]
end
/-! Pieces and their inlets. -/
def kkP (p:Piece):Int×Int:=(p.South,p.West)
def zTy (p:Piece):Bool:=inR 0 5 p.Color&&(inR 0 119 p.North&&(inR 0 119 p.East&&(inR 0 119 p.South&&inR 0 119 p.West)))
def zFv (xs:List Int):Bool:=inR 1 10 xs.length&&xs.all (inR 0 119)
def zC1 (d:Design):Bool:=zFv d.Bottom&&(zFv d.Left&&(decide (d.Pieces.length≤100)&&(d.Pieces.all zTy&&decide ((d.Pieces.map kkP).Nodup))))
def zRc (s w:Int)(p:Piece):Bool:=decide (p.South=s)&&decide (p.West=w)
def yD3 (ps:List Piece)(s w:Int):Int:=yJk (zRc s w) ps
theorem isInl_iff {s w:Int}{p:Piece}:zRc s w p=true↔kkP p=(s,w):=by unfold zRc kkP;rw [xA2,decide_eq_true_eq,decide_eq_true_eq,xBd]
def zRi (ps:List Piece):List (Piece×Nat):=ps.zipIdx.reverse
theorem zRh (ps:List Piece):(zRi ps).length=ps.length:=by simp [zRi]
theorem yK7 {ps:List Piece}{i:Nat}(h:i<ps.length):(zRi ps)[i]'(by rw [zRh];exact h)=(ps[ps.length-1-i]'qAc,ps.length-1-i):=by unfold zRi;rw [List.getElem_reverse];simp
def yUw (p:Piece×Nat):Value:=.agg #[.int .i64 p.1.South,.int .i64 p.1.West]
def yUy (p:Piece×Nat):Value:=.int .i64 (p.2:Nat)
def yEn (xs:List (Piece×Nat)):List (Value×Value):=tbG yUw yUy xs
theorem yZf (s w:Int)(b:Piece×Nat):keq (.agg #[.int .i64 s,.int .i64 w]) (yUw b)=decide (kkP b.1=(s,w)):=by
  have:keq (.agg #[.int .i64 s,.int .i64 w]) (yUw b)=zRc s w b.1:=by unfold yUw zRc;simp only [keq,zZi,zZj,xCp];by_cases h1:b.1.South=s<;>by_cases h2:b.1.West=w<;>simp [h1,h2]<;>first | exact fun h=>absurd h.symm h1 | exact fun h=>absurd h.symm h2
  rw [this,xEq,isInl_iff,decide_eq_true_eq]
theorem yH4:KeyG (fun p:Piece×Nat=>kkP p.1) yUw:=⟨fun a b=>by
  have:=yZf a.1.South a.1.West b;exact this⟩
theorem zYw (ps:List Piece):(zRi ps).map (fun p=>kkP p.1)=(ps.map kkP).reverse:=by unfold zRi;rw [List.map_reverse];congr 1;rw [show (fun p:Piece×Nat=>kkP p.1)=kkP ∘ Prod.fst from rfl,← xDl,List.zipIdx_map_fst]
theorem yIg (ps:List Piece):decide (((yEn (zRi ps)).length:Int)=(ps.length:Int))=decide ((ps.map kkP).Nodup):=by have:=yPr (val:=yUy) yH4 (zRi ps);rw [zRh,zYw] at this;unfold yEn;rw [this];exact decide_eq_decide.2 nodup_rev
theorem ySm {ps:List Piece}(h:(ps.map kkP).Nodup){s w:Int}{k:Nat}(hk:k<ps.length)(hf:kkP ps[k]=(s,w)):zXx (yEn (zRi ps)) (.agg #[.int .i64 s,.int .i64 w])=some (.int .i64 (k:Nat)):=by have hm:(ps[k],k)∈zRi ps:=(by unfold zRi;rw [xGs,xFz];exact xA1 hk);exact zV8 (val:=yUy) yH4 (by rw [zYw];exact nodup_rev.2 h) (yZf s w) hm hf
theorem yMl {ps:List Piece}(h:(ps.map kkP).Nodup){s w:Int}(hf:∀ p,p∈ps→kkP p≠(s,w)):zXx (yEn (zRi ps)) (.agg #[.int .i64 s,.int .i64 w])=none :=
  zTd (val:=yUy) yH4 (by rw [zYw];exact nodup_rev.2 h) (yZf s w) (fun x hx=>by
    unfold zRi at hx;rw [xGs] at hx;have:=(xFz.1 hx)
    exact hf x.1 (xDi this))
theorem zHw (ps:List Piece)(s w:Int):(yD3 ps s w = -1∧∀ p,p∈ps→kkP p≠(s,w))∨∃ (k:Nat) (hk:k<ps.length),yD3 ps s w=(k:Int)∧kkP ps[k]=(s,w):=by
  unfold yD3 yJk;cases h:ps.findIdx? (zRc s w) with
  | none=>refine .inl ⟨rfl,fun p hp e=>?_⟩;have:=(xEb.1 h) p hp;rw [isInl_iff.2 e] at this;cases this
  | some k=>obtain ⟨hk,h1,_⟩:=xEn.1 h;exact .inr ⟨k,hk,rfl,isInl_iff.1 h1⟩
/-! The run: row by row. -/
structure RunS where
  out:List Int
  bel:List Int
  west:Int
def zYn (ps:List Piece)(st:RunS)(x:Nat):RunS:=match ps[(yD3 ps (st.bel.getD x 0) st.west).toNat]? with
  | some p=>⟨st.out++[yD3 ps (st.bel.getD x 0) st.west],st.bel.set x p.North,p.East⟩
  | none=>st
def zJh (ps:List Piece)(st:RunS)(x:Nat):Bool:=decide (0≤yD3 ps (st.bel.getD x 0) st.west)
def zG9 (ps:List Piece)(st:RunS)(x:Nat):RunS:=(List.range x).foldl (zYn ps) st
theorem zGq (ps:List Piece)(st:RunS)(x:Nat):zG9 ps st (x+1)=zYn ps (zG9 ps st x) x:=by unfold zG9;rw [xEd,xDx];rfl
def zOh (ps:List Piece)(st:RunS)(n:Nat):Bool:=(List.range n).all fun x=>zJh ps (zG9 ps st x) x
def yF9 (ps:List Piece)(n:Nat)(st:RunS)(left:List Int):RunS:=left.foldl (fun st w=>zG9 ps { st with west:=w } n) st
def yQq (d:Design):RunS:=⟨[],d.Bottom,0⟩
def zG4 (d:Design)(y:Nat):RunS:=yF9 d.Pieces d.Bottom.length (yQq d) (d.Left.take y)
def zBk (d:Design)(y:Nat):RunS:={ zG4 d y with west:=d.Left.getD y 0 }
theorem zHo {d:Design}{y:Nat}(h:y<d.Left.length):zG4 d (y+1)=zG9 d.Pieces (zBk d y) d.Bottom.length:=by unfold zG4 yF9 zBk;rw [xCd h,xDx,xA3,xA1 h];rfl
def zE6 (d:Design):Bool:=(List.range d.Left.length).all fun y=>zOh d.Pieces (zBk d y) d.Bottom.length
def zJa (d:Design):List Int:=(zG4 d d.Left.length).out
def zA7 (d:Design):Int:=if zC1 d then (if zE6 d then 0 else 3) else 1
def zBl (d:Design):List Int:=if zC1 d then (if zE6 d then zJa d else []) else []
theorem yK5 (ps:List Piece)(st:RunS)(x:Nat):(zYn ps st x).bel.length=st.bel.length:=by unfold zYn;split<;>simp
theorem zRg (ps:List Piece)(st:RunS):∀ x:Nat,(zG9 ps st x).bel.length=st.bel.length
  | 0=>rfl
  | x+1=>by rw [zGq,yK5,zRg ps st x]
theorem yAu (ps:List Piece)(n:Nat):∀ (left:List Int) (st:RunS),(yF9 ps n st left).bel.length=st.bel.length
  | [],st=>rfl
  | w::left,st=>by have:=yAu ps n left (zG9 ps { st with west:=w } n);unfold yF9 at this ⊢;rw [xDm,this,zRg]
theorem zSj (d:Design)(y:Nat):(zG4 d y).bel.length=d.Bottom.length:=yAu ..
theorem zUf (d:Design)(y:Nat):(zBk d y).bel.length=d.Bottom.length:=zSj d y
theorem yK4 (ps:List Piece)(st:RunS)(x:Nat):(zYn ps st x).out.length≤st.out.length+1:=by unfold zYn;split<;>simp
theorem zVr (ps:List Piece)(st:RunS):∀ x:Nat,(zG9 ps st x).out.length≤st.out.length+x
  | 0=>xBj _
  | x+1=>by have:=yK4 ps (zG9 ps st x) x;have:=zVr ps st x;rw [zGq];omega
theorem yAt (ps:List Piece)(n:Nat):∀ (left:List Int) (st:RunS),(yF9 ps n st left).out.length≤st.out.length+left.length*n
  | [],st=>by simp [yF9]
  | w::left,st=>by have h1:=yAt ps n left (zG9 ps { st with west:=w } n);have h2:=zVr ps { st with west:=w } n;unfold yF9 at h1 ⊢;rw [xDm,xBk,xC8];simp only at h2;omega
theorem zA1 {d:Design}(h:zC1 d=true):(1≤d.Bottom.length∧d.Bottom.length≤10)∧(1≤d.Left.length∧d.Left.length≤10)∧d.Pieces.length≤100∧(∀ p,p∈d.Pieces→zTy p=true)∧(d.Pieces.map kkP).Nodup∧(∀ x,x∈d.Bottom→0≤x∧x≤119)∧(∀ x,x∈d.Left→0≤x∧x≤119):=by unfold zC1 zFv at h;simp only [xA2,decide_eq_true_eq,xBx,zDq] at h;obtain ⟨⟨h1,h2⟩,⟨h3,h4⟩,h5,h6,h7⟩:=h;exact ⟨by omega,by omega,h5,h6,h7,h2,h4⟩
theorem zXh {d:Design}(h:zC1 d=true){y:Nat}:(zG4 d y).out.length≤100:=by obtain ⟨⟨_,h1⟩,⟨_,h2⟩,_⟩:=zA1 h;have:=yAt d.Pieces d.Bottom.length (d.Left.take y) (yQq d);have h3:(d.Left.take y).length≤10:=(by rw [xDh];omega);have h4:(d.Left.take y).length*d.Bottom.length≤10*10:=xG1 h3 h1;unfold zG4;simp only [yQq,xBy] at this ⊢;omega
theorem yQp {ps:List Piece}{st:RunS}{x:Nat}(h:∀ k,k∈st.out→0≤k∧k<ps.length)(hok:zJh ps st x=true):∀ k,k∈(zYn ps st x).out→0≤k∧k<ps.length:=by
  intro k hk;unfold zJh at hok;rw [decide_eq_true_eq] at hok;unfold zYn at hk;split at hk
  · rename_i p hp;have:=(xA4.1 hp).1;rcases xBf.1 hk with hk | hk
    · exact h k hk
    · rw [xCa] at hk;subst hk;omega
  · exact h k hk
theorem yGa {ps:List Piece}{st:RunS}(h:∀ k,k∈st.out→0≤k∧k<ps.length):∀ {x:Nat},(∀ j,j<x→zJh ps (zG9 ps st j) j=true)→∀ k,k∈(zG9 ps st x).out→0≤k∧k<ps.length
  | 0,_=>h
  | x+1,hx=>by rw [zGq];exact yQp (yGa h fun j hj=>hx j qAc) (hx x qAc)
theorem yAs {d:Design}:∀ {y:Nat},y≤d.Left.length→(∀ j,j<y→zOh d.Pieces (zBk d j) d.Bottom.length=true)→∀ k,k∈(zG4 d y).out→0≤k∧k<d.Pieces.length
  | 0,_,_=>fun k hk=>by simp [zG4,yF9,yQq] at hk
  | y+1,hy,hx=>by rw [zHo qAc];refine yGa (st:=zBk d y) (yAs (y:=y) qAc fun j hj=>hx j qAc) fun j hj=>?_;have:=hx y qAc;unfold zOh at this;rw [xBx] at this;exact this j qBk
theorem yGb {d:Design}(h:zE6 d=true):∀ k,k∈zJa d→0≤k∧k<d.Pieces.length:=by refine yAs (xBj _) fun j hj=>?_;unfold zE6 at h;rw [xBx] at h;exact h j qBk
end Go.Proofs.Ytaleehohmpohoaa
