/- Laws that the proof stands on. -/
import Derived.Test.YtaleehohmpohoaaZg12
import Derived.Test.YtaleehohmpohoaaZg14
set_option linter.all false
namespace Go.Proofs.Ytaleehohmpohoaa
open Go.RowKit Go.V
set_option maxRecDepth 100000
theorem nodup_rev {α:Type}{l:List α}:l.reverse.Nodup↔l.Nodup:=by simp only [List.Nodup,List.pairwise_reverse];exact ⟨fun h=>h.imp Ne.symm,fun h=>h.imp Ne.symm⟩
/-! Tables filled by a list: keys, values. -/
section
variable {α κ:Type} [DecidableEq κ]
structure KeyG (kk:α→κ) (key:α→Value):Prop where
  eq:∀ a b,keq (key a) (key b)=decide (kk b=kk a)
def tbG (key val:α→Value)(xs:List α):List (Value×Value):=xs.foldl (fun e v=>zP3 e (key v) (val v)) []
def zWp (key val:α→Value)(v:α):Value×Value:=(key v,val v)
theorem yI0 {key val:α→Value}{xs:List α}{i:Nat}(h:i<xs.length):zP3 (tbG key val (xs.take i)) (key xs[i]) (val xs[i])=tbG key val (xs.take (i+1)):=by unfold tbG;rw [xFb h,xG3];rfl
theorem xC0 {kk:α→κ}{key val:α→Value}{q:Value}{c:κ}(hq:∀ b,keq q (key b)=decide (kk b=c))(xs:List α):(xs.map (zWp key val)).findIdx? (fun x=>keq q x.1)=xs.findIdx? (fun x=>decide (kk x=c)):=by rw [List.findIdx?_map];congr 1;funext v;exact hq v
theorem yFz {kk:α→κ}{key val:α→Value}(hK:KeyG kk key){xs:List α}{v:α}(h:kk v∉xs.map kk):zP3 (xs.map (zWp key val)) (key v) (val v)=(xs++[v]).map (zWp key val):=by
  unfold zP3;rw [xC0 (hK.eq v)];have:xs.findIdx? (fun x=>decide (kk x=kk v))=none:=by rw [xGw];intro x hx;rw [decide_eq_false_iff_not];exact fun e=>h (xEg.2 ⟨x,hx,e⟩)
  rw [this,xEz];rfl
theorem yF0 {e:List (Value×Value)}{k v:Value}:(zP3 e k v).length≤e.length+1:=by unfold zP3;split<;>simp
theorem yFy {kk:α→κ}{key val:α→Value}(hK:KeyG kk key){xs:List α}{v:α}(h:kk v∈xs.map kk):(zP3 (xs.map (zWp key val)) (key v) (val v)).length=xs.length:=by
  unfold zP3;rw [xC0 (hK.eq v)];cases hi:xs.findIdx? (fun x=>decide (kk x=kk v)) with
  | none=>obtain ⟨x,hx,hxk⟩:=xEg.1 h;have:=(xGw.1 hi) x hx;rw [decide_eq_true hxk] at this;cases this
  | some i=>simp
theorem zV9 {key val:α→Value}:∀ (ys:List α) (e:List (Value×Value)),(ys.foldl (fun e v=>zP3 e (key v) (val v)) e).length≤e.length+ys.length
  | [],e=>by simp
  | y::ys,e=>by have h1:=zV9 (key:=key) (val:=val) ys (zP3 e (key y) (val y));have h2:=yF0 (e:=e) (k:=key y) (v:=val y);rw [xGf,xD9];omega
theorem zRl {kk:α→κ}{key val:α→Value}(hK:KeyG kk key):∀ (ys pre:List α),(pre.map kk).Nodup→(((pre++ys).map kk).Nodup→ys.foldl (fun e v=>zP3 e (key v) (val v)) (pre.map (zWp key val))=(pre++ys).map (zWp key val)) ∧
    (¬ ((pre++ys).map kk).Nodup→(ys.foldl (fun e v=>zP3 e (key v) (val v)) (pre.map (zWp key val))).length<pre.length+ys.length)
  | [],pre,h=>by simp [h]
  | y::ys,pre,h=>by
    by_cases hy:kk y∈pre.map kk
    · have hno:¬ ((pre++y::ys).map kk).Nodup:=(by rw [xEz,xDu,xDs];intro ⟨_,_,h3⟩;exact h3 _ hy (kk y) (by simp) rfl);refine ⟨fun hn=>absurd hn hno,fun _=>?_⟩;have h1:=zV9 (key:=key) (val:=val) ys (zP3 (pre.map (zWp key val)) (key y) (val y));rw [yFy hK hy] at h1;rw [xGf,xD9];omega
    · have hn':((pre++[y]).map kk).Nodup:=(by rw [xEz,xDs];refine ⟨h,by simp,fun a ha b hb e=>?_⟩;simp at hb;subst hb;subst e;exact hy ha);obtain ⟨h1,h2⟩:=zRl hK ys (pre++[y]) hn';rw [xF9,List.singleton_append] at h1 h2;rw [xGf,yFz hK hy];refine ⟨h1,fun hn=>?_⟩;have:=h2 hn;rw [xFx] at this;simp only [xD9,xEn] at this ⊢;omega
theorem yDb {kk:α→κ}{key val:α→Value}(hK:KeyG kk key){xs:List α}(h:(xs.map kk).Nodup):tbG key val xs=xs.map (zWp key val):=(zRl hK xs [] xFr).1 (by simpa using h)
theorem yPv {kk:α→κ}{key val:α→Value}(hK:KeyG kk key)(xs:List α):decide (((tbG key val xs).length:Int)=(xs.length:Int))=decide ((xs.map kk).Nodup):=by
  by_cases h:(xs.map kk).Nodup
  · rw [yDb hK h,xDj,decide_eq_true h,decide_eq_true rfl]
  · have:=(zRl (val:=val) hK xs [] xFr).2 (by simpa using h);simp only [xEb,xEn,xEm] at this;rw [decide_eq_false h,decide_eq_false_iff_not];unfold tbG;omega
theorem zZh {kk:α→κ}{key val:α→Value}(hK:KeyG kk key){xs:List α}(h:(xs.map kk).Nodup){q:Value}{c:κ}(hq:∀ b,keq q (key b)=decide (kk b=c)){x:α}(hx:x∈xs)(hc:kk x=c):zXh (tbG key val xs) q=some (val x):=by
  rw [yDb hK h];unfold zXh;have:(xs.map (zWp key val)).find? (fun x=>keq q x.1)=some (zWp key val x):=by
    rw [List.find?_map];have:xs.find? ((fun x=>keq q x.1) ∘ zWp key val)=some x:=by obtain ⟨i,hi,rfl⟩:=xF6 hx;rw [List.find?_eq_some_iff_getElem];refine ⟨by simp [zWp,hq,hc],i,hi,rfl,fun j hj=>?_⟩;simp only [Function.comp,zWp,hq];rw [xGb,decide_eq_false_iff_not];intro e;have hlt:j<xs.length:=(by omega);have h1:(xs.map kk)[j]'(by simpa using hlt)=(xs.map kk)[i]'(by simpa using hi):=(by simp only [xGo];rw [e,hc]);exact (xHw.1 h j i (by simpa using hlt) (by simpa using hi) hj) h1
    rw [this];rfl
  rw [this];rfl
theorem zV6 {kk:α→κ}{key val:α→Value}(hK:KeyG kk key){xs:List α}(h:(xs.map kk).Nodup){q:Value}{c:κ}(hq:∀ b,keq q (key b)=decide (kk b=c))(hc:∀ x,x∈xs→kk x≠c):zXh (tbG key val xs) q=none:=by
  rw [yDb hK h];unfold zXh;have:(xs.map (zWp key val)).find? (fun x=>keq q x.1)=none:=by rw [xHn];intro x hx;obtain ⟨y,hy,rfl⟩:=xEg.1 hx;simp only [zWp,hq,xEs,decide_eq_false_iff_not];exact hc y hy
  rw [this]
end
/-! Pieces and their inlets. -/
def kkP (p:Piece):Int×Int:=(p.South,p.West)
def zUx (p:Piece):Bool:=inR 0 5 p.Color&&(inR 0 119 p.North&&(inR 0 119 p.East&&(inR 0 119 p.South&&inR 0 119 p.West)))
def zFi (xs:List Int):Bool:=inR 1 10 xs.length&&xs.all (inR 0 119)
def zC2 (d:Design):Bool:=zFi d.Bottom&&(zFi d.Left&&(decide (d.Pieces.length≤100)&&(d.Pieces.all zUx&&decide ((d.Pieces.map kkP).Nodup))))
def zPr (s w:Int)(p:Piece):Bool:=decide (p.South=s)&&decide (p.West=w)
def yB0 (ps:List Piece)(s w:Int):Int:=yId (zPr s w) ps
theorem isInl_iff {s w:Int}{p:Piece}:zPr s w p=true↔kkP p=(s,w):=by unfold zPr kkP;rw [xDn,decide_eq_true_eq,decide_eq_true_eq,xD0]
def zPx (ps:List Piece):List (Piece×Nat):=ps.zipIdx.reverse
theorem zPw (ps:List Piece):(zPx ps).length=ps.length:=by simp [zPx]
theorem yJ7 {ps:List Piece}{i:Nat}(h:i<ps.length):(zPx ps)[i]'(by rw [zPw];exact h)=(ps[ps.length-1-i]'(by omega),ps.length-1-i):=by unfold zPx;rw [List.getElem_reverse];simp
def yV1 (p:Piece×Nat):Value:=.agg #[.int .i64 p.1.South,.int .i64 p.1.West]
def yV7 (p:Piece×Nat):Value:=.int .i64 (p.2:Nat)
def yCo (xs:List (Piece×Nat)):List (Value×Value):=tbG yV1 yV7 xs
theorem xAm (s w:Int)(b:Piece×Nat):keq (.agg #[.int .i64 s,.int .i64 w]) (yV1 b)=decide (kkP b.1=(s,w)):=by
  have:keq (.agg #[.int .i64 s,.int .i64 w]) (yV1 b)=zPr s w b.1:=by unfold yV1 zPr;simp only [keq,zXn,yBm,xFf];by_cases h1:b.1.South=s<;>by_cases h2:b.1.West=w<;>simp [h1,h2]<;>first | exact fun h=>absurd h.symm h1 | exact fun h=>absurd h.symm h2
  rw [this,xHf,isInl_iff,decide_eq_true_eq]
theorem yGn:KeyG (fun p:Piece×Nat=>kkP p.1) yV1:=⟨fun a b=>by
  have:=xAm a.1.South a.1.West b;exact this⟩
theorem zWz (ps:List Piece):(zPx ps).map (fun p=>kkP p.1)=(ps.map kkP).reverse:=by unfold zPx;rw [List.map_reverse];congr 1;rw [show (fun p:Piece×Nat=>kkP p.1)=kkP ∘ Prod.fst from rfl,← xFw,List.zipIdx_map_fst]
theorem yG0 (ps:List Piece):decide (((yCo (zPx ps)).length:Int)=(ps.length:Int))=decide ((ps.map kkP).Nodup):=by have:=yPv (val:=yV7) yGn (zPx ps);rw [zPw,zWz] at this;unfold yCo;rw [this];exact decide_eq_decide.2 nodup_rev
theorem yS7 {ps:List Piece}(h:(ps.map kkP).Nodup){s w:Int}{k:Nat}(hk:k<ps.length)(hf:kkP ps[k]=(s,w)):zXh (yCo (zPx ps)) (.agg #[.int .i64 s,.int .i64 w])=some (.int .i64 (k:Nat)):=by have hm:(ps[k],k)∈zPx ps:=(by unfold zPx;rw [xI4,xIh];exact xDl hk);exact zZh (val:=yV7) yGn (by rw [zWz];exact nodup_rev.2 h) (xAm s w) hm hf
theorem yMh {ps:List Piece}(h:(ps.map kkP).Nodup){s w:Int}(hf:∀ p,p∈ps→kkP p≠(s,w)):zXh (yCo (zPx ps)) (.agg #[.int .i64 s,.int .i64 w])=none :=
  zV6 (val:=yV7) yGn (by rw [zWz];exact nodup_rev.2 h) (xAm s w) (fun x hx=>by
    unfold zPx at hx;rw [xI4] at hx;have:=(xIh.1 hx)
    exact hf x.1 (xG1 this))
theorem zJr (ps:List Piece)(s w:Int):(yB0 ps s w = -1∧∀ p,p∈ps→kkP p≠(s,w))∨∃ (k:Nat) (hk:k<ps.length),yB0 ps s w=(k:Int)∧kkP ps[k]=(s,w):=by
  unfold yB0 yId;cases h:ps.findIdx? (zPr s w) with
  | none=>refine .inl ⟨rfl,fun p hp e=>?_⟩;have:=(xGw.1 h) p hp;rw [isInl_iff.2 e] at this;cases this
  | some k=>obtain ⟨hk,h1,_⟩:=xHa.1 h;exact .inr ⟨k,hk,rfl,isInl_iff.1 h1⟩
/-! The run: row by row. -/
structure RunS where
  out:List Int
  bel:List Int
  west:Int
def zWn (ps:List Piece)(st:RunS)(x:Nat):RunS:=match ps[(yB0 ps (st.bel.getD x 0) st.west).toNat]? with
  | some p=>⟨st.out++[yB0 ps (st.bel.getD x 0) st.west],st.bel.set x p.North,p.East⟩
  | none=>st
def zJv (ps:List Piece)(st:RunS)(x:Nat):Bool:=decide (0≤yB0 ps (st.bel.getD x 0) st.west)
def zIl (ps:List Piece)(st:RunS)(x:Nat):RunS:=(List.range x).foldl (zWn ps) st
theorem zGe (ps:List Piece)(st:RunS)(x:Nat):zIl ps st (x+1)=zWn ps (zIl ps st x) x:=by unfold zIl;rw [xHb,xG3];rfl
def zQx (ps:List Piece)(st:RunS)(n:Nat):Bool:=(List.range n).all fun x=>zJv ps (zIl ps st x) x
def yEe (ps:List Piece)(n:Nat)(st:RunS)(left:List Int):RunS:=left.foldl (fun st w=>zIl ps { st with west:=w } n) st
def yQt (d:Design):RunS:=⟨[],d.Bottom,0⟩
def zG5 (d:Design)(y:Nat):RunS:=yEe d.Pieces d.Bottom.length (yQt d) (d.Left.take y)
def zCk (d:Design)(y:Nat):RunS:={ zG5 d y with west:=d.Left.getD y 0 }
theorem zJi {d:Design}{y:Nat}(h:y<d.Left.length):zG5 d (y+1)=zIl d.Pieces (zCk d y) d.Bottom.length:=by unfold zG5 yEe zCk;rw [xFb h,xG3,xDt,xDl h];rfl
def zF2 (d:Design):Bool:=(List.range d.Left.length).all fun y=>zQx d.Pieces (zCk d y) d.Bottom.length
def zJ7 (d:Design):List Int:=(zG5 d d.Left.length).out
def zCt (d:Design):Int:=if zC2 d then (if zF2 d then 0 else 3) else 1
def zC1 (d:Design):List Int:=if zC2 d then (if zF2 d then zJ7 d else []) else []
theorem yJ4 (ps:List Piece)(st:RunS)(x:Nat):(zWn ps st x).bel.length=st.bel.length:=by unfold zWn;split<;>simp
theorem zTy (ps:List Piece)(st:RunS):∀ x:Nat,(zIl ps st x).bel.length=st.bel.length
  | 0=>rfl
  | x+1=>by rw [zGe,yJ4,zTy ps st x]
theorem zYl (ps:List Piece)(n:Nat):∀ (left:List Int) (st:RunS),(yEe ps n st left).bel.length=st.bel.length
  | [],st=>rfl
  | w::left,st=>by have:=zYl ps n left (zIl ps { st with west:=w } n);unfold yEe at this ⊢;rw [xGf,this,zTy]
theorem zVg (d:Design)(y:Nat):(zG5 d y).bel.length=d.Bottom.length:=zYl ..
theorem yAs (d:Design)(y:Nat):(zCk d y).bel.length=d.Bottom.length:=zVg d y
theorem yJ3 (ps:List Piece)(st:RunS)(x:Nat):(zWn ps st x).out.length≤st.out.length+1:=by unfold zWn;split<;>simp
theorem zTx (ps:List Piece)(st:RunS):∀ x:Nat,(zIl ps st x).out.length≤st.out.length+x
  | 0=>xD8 _
  | x+1=>by have:=yJ3 ps (zIl ps st x) x;have:=zTx ps st x;rw [zGe];omega
theorem zYk (ps:List Piece)(n:Nat):∀ (left:List Int) (st:RunS),(yEe ps n st left).out.length≤st.out.length+left.length*n
  | [],st=>by simp [yEe]
  | w::left,st=>by have h1:=zYk ps n left (zIl ps { st with west:=w } n);have h2:=zTx ps { st with west:=w } n;unfold yEe at h1 ⊢;rw [xGf,xD9,xFn];simp only at h2;omega
theorem zA8 {d:Design}(h:zC2 d=true):(1≤d.Bottom.length∧d.Bottom.length≤10)∧(1≤d.Left.length∧d.Left.length≤10)∧d.Pieces.length≤100∧(∀ p,p∈d.Pieces→zUx p=true)∧(d.Pieces.map kkP).Nodup∧(∀ x,x∈d.Bottom→0≤x∧x≤119)∧(∀ x,x∈d.Left→0≤x∧x≤119):=by unfold zC2 zFi at h;simp only [xDn,decide_eq_true_eq,xEh,inR_iff] at h;obtain ⟨⟨h1,h2⟩,⟨h3,h4⟩,h5,h6,h7⟩:=h;exact ⟨by omega,by omega,h5,h6,h7,h2,h4⟩
theorem zVf {d:Design}(h:zC2 d=true){y:Nat}:(zG5 d y).out.length≤100:=by obtain ⟨⟨_,h1⟩,⟨_,h2⟩,_⟩:=zA8 h;have:=zYk d.Pieces d.Bottom.length (d.Left.take y) (yQt d);have h3:(d.Left.take y).length≤10:=(by rw [xFy];omega);have h4:(d.Left.take y).length*d.Bottom.length≤10*10:=xJd h3 h1;unfold zG5;simp only [yQt,xEn] at this ⊢;omega
theorem yQs {ps:List Piece}{st:RunS}{x:Nat}(h:∀ k,k∈st.out→0≤k∧k<ps.length)(hok:zJv ps st x=true):∀ k,k∈(zWn ps st x).out→0≤k∧k<ps.length:=by
  intro k hk;unfold zJv at hok;rw [decide_eq_true_eq] at hok;unfold zWn at hk;split at hk
  · rename_i p hp;have:=(xDq.1 hp).1;rcases xD6.1 hk with hk | hk
    · exact h k hk
    · rw [xFp] at hk;subst hk;omega
  · exact h k hk
theorem yEg {ps:List Piece}{st:RunS}(h:∀ k,k∈st.out→0≤k∧k<ps.length):∀ {x:Nat},(∀ j,j<x→zJv ps (zIl ps st j) j=true)→∀ k,k∈(zIl ps st x).out→0≤k∧k<ps.length
  | 0,_=>h
  | x+1,hx=>by rw [zGe];exact yQs (yEg h fun j hj=>hx j (by omega)) (hx x (by omega))
theorem zYj {d:Design}:∀ {y:Nat},y≤d.Left.length→(∀ j,j<y→zQx d.Pieces (zCk d j) d.Bottom.length=true)→∀ k,k∈(zG5 d y).out→0≤k∧k<d.Pieces.length
  | 0,_,_=>fun k hk=>by simp [zG5,yEe,yQt] at hk
  | y+1,hy,hx=>by rw [zJi (by omega)];refine yEg (st:=zCk d y) (zYj (y:=y) (by omega) fun j hj=>hx j (by omega)) fun j hj=>?_;have:=hx y (by omega);unfold zQx at this;rw [xEh] at this;exact this j (by simpa using hj)
theorem yEh {d:Design}(h:zF2 d=true):∀ k,k∈zJ7 d→0≤k∧k<d.Pieces.length:=by refine zYj (xD8 _) fun j hj=>?_;unfold zF2 at h;rw [xEh] at h;exact h j (by simpa using hj)
end Go.Proofs.Ytaleehohmpohoaa
