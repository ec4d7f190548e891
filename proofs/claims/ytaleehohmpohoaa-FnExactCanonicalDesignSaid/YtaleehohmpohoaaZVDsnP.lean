/- Laws that the proof stands on. -/
import Derived.Test.YtaleehohmpohoaaZg10
import Derived.Test.YtaleehohmpohoaaZg12
set_option linter.all false
namespace Go.Proofs.Ytaleehohmpohoaa
open Go.RowKit Go.V
set_option maxRecDepth 100000
theorem nodup_rev {α:Type}{l:List α}:l.reverse.Nodup↔l.Nodup:=by simp only [List.Nodup,List.pairwise_reverse];exact ⟨fun h=>h.imp Ne.symm,fun h=>h.imp Ne.symm⟩
/-! Tables filled by a list: keys, values. -/
section
variable {α κ:Type} [DecidableEq κ]
structure KeyG (kk:α→κ) (key:α→Value):Prop where
  eq:∀ a b,keq (key a) (key b)=decide (kk b=kk a)
def tbG (key val:α→Value)(xs:List α):List (Value×Value):=xs.foldl (fun e v=>mset e (key v) (val v)) []
def entG (key val:α→Value)(v:α):Value×Value:=(key v,val v)
theorem tbG_next {key val:α→Value}{xs:List α}{i:Nat}(h:i<xs.length):mset (tbG key val (xs.take i)) (key xs[i]) (val xs[i])=tbG key val (xs.take (i+1)):=by unfold tbG;rw [List.take_succ_eq_append_getElem h,List.foldl_append];rfl
theorem idxG {kk:α→κ}{key val:α→Value}{q:Value}{c:κ}(hq:∀ b,keq q (key b)=decide (kk b=c))(xs:List α):(xs.map (entG key val)).findIdx? (fun x=>keq q x.1)=xs.findIdx? (fun x=>decide (kk x=c)):=by rw [List.findIdx?_map];congr 1;funext v;exact hq v
theorem msetG_new {kk:α→κ}{key val:α→Value}(hK:KeyG kk key){xs:List α}{v:α}(h:kk v∉xs.map kk):mset (xs.map (entG key val)) (key v) (val v)=(xs++[v]).map (entG key val):=by
  unfold mset;rw [idxG (hK.eq v)];have:xs.findIdx? (fun x=>decide (kk x=kk v))=none:=by rw [List.findIdx?_eq_none_iff];intro x hx;rw [decide_eq_false_iff_not];exact fun e=>h (List.mem_map.2 ⟨x,hx,e⟩)
  rw [this,List.map_append];rfl
theorem msetG_len {e:List (Value×Value)}{k v:Value}:(mset e k v).length≤e.length+1:=by unfold mset;split<;>simp
theorem msetG_old {kk:α→κ}{key val:α→Value}(hK:KeyG kk key){xs:List α}{v:α}(h:kk v∈xs.map kk):(mset (xs.map (entG key val)) (key v) (val v)).length=xs.length:=by
  unfold mset;rw [idxG (hK.eq v)];cases hi:xs.findIdx? (fun x=>decide (kk x=kk v)) with
  | none=>obtain ⟨x,hx,hxk⟩:=List.mem_map.1 h;have:=(List.findIdx?_eq_none_iff.1 hi) x hx;rw [decide_eq_true hxk] at this;cases this
  | some i=>simp
theorem foldG_len {key val:α→Value}:∀ (ys:List α) (e:List (Value×Value)),(ys.foldl (fun e v=>mset e (key v) (val v)) e).length≤e.length+ys.length
  | [],e=>by simp
  | y::ys,e=>by have h1:=foldG_len (key:=key) (val:=val) ys (mset e (key y) (val y));have h2:=msetG_len (e:=e) (k:=key y) (v:=val y);rw [List.foldl_cons,List.length_cons];omega
theorem foldG_tab {kk:α→κ}{key val:α→Value}(hK:KeyG kk key):∀ (ys pre:List α),(pre.map kk).Nodup→(((pre++ys).map kk).Nodup→ys.foldl (fun e v=>mset e (key v) (val v)) (pre.map (entG key val))=(pre++ys).map (entG key val)) ∧
    (¬ ((pre++ys).map kk).Nodup→(ys.foldl (fun e v=>mset e (key v) (val v)) (pre.map (entG key val))).length<pre.length+ys.length)
  | [],pre,h=>by simp [h]
  | y::ys,pre,h=>by
    by_cases hy:kk y∈pre.map kk
    · have hno:¬ ((pre++y::ys).map kk).Nodup:=(by rw [List.map_append,List.map_cons,List.nodup_append];intro ⟨_,_,h3⟩;exact h3 _ hy (kk y) (by simp) rfl);refine ⟨fun hn=>absurd hn hno,fun _=>?_⟩;have h1:=foldG_len (key:=key) (val:=val) ys (mset (pre.map (entG key val)) (key y) (val y));rw [msetG_old hK hy] at h1;rw [List.foldl_cons,List.length_cons];omega
    · have hn':((pre++[y]).map kk).Nodup:=(by rw [List.map_append,List.nodup_append];refine ⟨h,by simp,fun a ha b hb e=>?_⟩;simp at hb;subst hb;subst e;exact hy ha);obtain ⟨h1,h2⟩:=foldG_tab hK ys (pre++[y]) hn';rw [List.append_assoc,List.singleton_append] at h1 h2;rw [List.foldl_cons,msetG_new hK hy];refine ⟨h1,fun hn=>?_⟩;have:=h2 hn;rw [List.length_append] at this;simp only [List.length_cons,List.length_nil] at this ⊢;omega
theorem tbG_nd {kk:α→κ}{key val:α→Value}(hK:KeyG kk key){xs:List α}(h:(xs.map kk).Nodup):tbG key val xs=xs.map (entG key val):=(foldG_tab hK xs [] List.nodup_nil).1 (by simpa using h)
theorem tbG_len {kk:α→κ}{key val:α→Value}(hK:KeyG kk key)(xs:List α):decide (((tbG key val xs).length:Int)=(xs.length:Int))=decide ((xs.map kk).Nodup):=by
  by_cases h:(xs.map kk).Nodup
  · rw [tbG_nd hK h,List.length_map,decide_eq_true h,decide_eq_true rfl]
  · have:=(foldG_tab (val:=val) hK xs [] List.nodup_nil).2 (by simpa using h);simp only [List.map_nil,List.length_nil,Nat.zero_add] at this;rw [decide_eq_false h,decide_eq_false_iff_not];unfold tbG;omega
theorem getG_hit {kk:α→κ}{key val:α→Value}(hK:KeyG kk key){xs:List α}(h:(xs.map kk).Nodup){q:Value}{c:κ}(hq:∀ b,keq q (key b)=decide (kk b=c)){x:α}(hx:x∈xs)(hc:kk x=c):mget (tbG key val xs) q=some (val x):=by
  rw [tbG_nd hK h];unfold mget;have:(xs.map (entG key val)).find? (fun x=>keq q x.1)=some (entG key val x):=by
    rw [List.find?_map];have:xs.find? ((fun x=>keq q x.1) ∘ entG key val)=some x:=by obtain ⟨i,hi,rfl⟩:=List.getElem_of_mem hx;rw [List.find?_eq_some_iff_getElem];refine ⟨by simp [entG,hq,hc],i,hi,rfl,fun j hj=>?_⟩;simp only [Function.comp,entG,hq];rw [Bool.not_eq_true',decide_eq_false_iff_not];intro e;have hlt:j<xs.length:=(by omega);have h1:(xs.map kk)[j]'(by simpa using hlt)=(xs.map kk)[i]'(by simpa using hi):=(by simp only [List.getElem_map];rw [e,hc]);exact (List.pairwise_iff_getElem.1 h j i (by simpa using hlt) (by simpa using hi) hj) h1
    rw [this];rfl
  rw [this];rfl
theorem getG_miss {kk:α→κ}{key val:α→Value}(hK:KeyG kk key){xs:List α}(h:(xs.map kk).Nodup){q:Value}{c:κ}(hq:∀ b,keq q (key b)=decide (kk b=c))(hc:∀ x,x∈xs→kk x≠c):mget (tbG key val xs) q=none:=by
  rw [tbG_nd hK h];unfold mget;have:(xs.map (entG key val)).find? (fun x=>keq q x.1)=none:=by rw [List.find?_eq_none];intro x hx;obtain ⟨y,hy,rfl⟩:=List.mem_map.1 hx;simp only [entG,hq,Bool.not_eq_true,decide_eq_false_iff_not];exact hc y hy
  rw [this]
end
/-! Pieces and their inlets. -/
def kkP (p:Piece):Int×Int:=(p.South,p.West)
def okPc (p:Piece):Bool:=inR 0 5 p.Color&&(inR 0 119 p.North&&(inR 0 119 p.East&&(inR 0 119 p.South&&inR 0 119 p.West)))
def okEdge (xs:List Int):Bool:=inR 1 10 xs.length&&xs.all (inR 0 119)
def okDsn (d:Design):Bool:=okEdge d.Bottom&&(okEdge d.Left&&(decide (d.Pieces.length≤100)&&(d.Pieces.all okPc&&decide ((d.Pieces.map kkP).Nodup))))
def isInl (s w:Int)(p:Piece):Bool:=decide (p.South=s)&&decide (p.West=w)
def fitP (ps:List Piece)(s w:Int):Int:=vIdx (isInl s w) ps
theorem isInl_iff {s w:Int}{p:Piece}:isInl s w p=true↔kkP p=(s,w):=by unfold isInl kkP;rw [Bool.and_eq_true,decide_eq_true_eq,decide_eq_true_eq,Prod.mk.injEq]
def revI (ps:List Piece):List (Piece×Nat):=ps.zipIdx.reverse
theorem revI_len (ps:List Piece):(revI ps).length=ps.length:=by simp [revI]
theorem revI_get {ps:List Piece}{i:Nat}(h:i<ps.length):(revI ps)[i]'(by rw [revI_len];exact h)=(ps[ps.length-1-i]'(by omega),ps.length-1-i):=by unfold revI;rw [List.getElem_reverse];simp
def keyI (p:Piece×Nat):Value:=.agg #[.int .i64 p.1.South,.int .i64 p.1.West]
def valI (p:Piece×Nat):Value:=.int .i64 (p.2:Nat)
def inlE (xs:List (Piece×Nat)):List (Value×Value):=tbG keyI valI xs
theorem keqI (s w:Int)(b:Piece×Nat):keq (.agg #[.int .i64 s,.int .i64 w]) (keyI b)=decide (kkP b.1=(s,w)):=by
  have:keq (.agg #[.int .i64 s,.int .i64 w]) (keyI b)=isInl s w b.1:=by unfold keyI isInl;simp only [keq,keqL,keqC,Bool.and_true];by_cases h1:b.1.South=s<;>by_cases h2:b.1.West=w<;>simp [h1,h2]<;>first | exact fun h=>absurd h.symm h1 | exact fun h=>absurd h.symm h2
  rw [this,Bool.eq_iff_iff,isInl_iff,decide_eq_true_eq]
theorem keyG_I:KeyG (fun p:Piece×Nat=>kkP p.1) keyI:=⟨fun a b=>by
  have:=keqI a.1.South a.1.West b;exact this⟩
theorem revI_kk (ps:List Piece):(revI ps).map (fun p=>kkP p.1)=(ps.map kkP).reverse:=by unfold revI;rw [List.map_reverse];congr 1;rw [show (fun p:Piece×Nat=>kkP p.1)=kkP ∘ Prod.fst from rfl,← List.map_map,List.zipIdx_map_fst]
theorem inl_len (ps:List Piece):decide (((inlE (revI ps)).length:Int)=(ps.length:Int))=decide ((ps.map kkP).Nodup):=by have:=tbG_len (val:=valI) keyG_I (revI ps);rw [revI_len,revI_kk] at this;unfold inlE;rw [this];exact decide_eq_decide.2 nodup_rev
theorem inl_hit {ps:List Piece}(h:(ps.map kkP).Nodup){s w:Int}{k:Nat}(hk:k<ps.length)(hf:kkP ps[k]=(s,w)):mget (inlE (revI ps)) (.agg #[.int .i64 s,.int .i64 w])=some (.int .i64 (k:Nat)):=by have hm:(ps[k],k)∈revI ps:=(by unfold revI;rw [List.mem_reverse,List.mem_zipIdx_iff_getElem?];exact List.getElem?_eq_getElem hk);exact getG_hit (val:=valI) keyG_I (by rw [revI_kk];exact nodup_rev.2 h) (keqI s w) hm hf
theorem inl_miss {ps:List Piece}(h:(ps.map kkP).Nodup){s w:Int}(hf:∀ p,p∈ps→kkP p≠(s,w)):mget (inlE (revI ps)) (.agg #[.int .i64 s,.int .i64 w])=none :=
  getG_miss (val:=valI) keyG_I (by rw [revI_kk];exact nodup_rev.2 h) (keqI s w) (fun x hx=>by
    unfold revI at hx;rw [List.mem_reverse] at hx;have:=(List.mem_zipIdx_iff_getElem?.1 hx)
    exact hf x.1 (List.mem_of_getElem? this))
theorem fitP_cases (ps:List Piece)(s w:Int):(fitP ps s w = -1∧∀ p,p∈ps→kkP p≠(s,w))∨∃ (k:Nat) (hk:k<ps.length),fitP ps s w=(k:Int)∧kkP ps[k]=(s,w):=by
  unfold fitP vIdx;cases h:ps.findIdx? (isInl s w) with
  | none=>refine .inl ⟨rfl,fun p hp e=>?_⟩;have:=(List.findIdx?_eq_none_iff.1 h) p hp;rw [isInl_iff.2 e] at this;cases this
  | some k=>obtain ⟨hk,h1,_⟩:=List.findIdx?_eq_some_iff_getElem.1 h;exact .inr ⟨k,hk,rfl,isInl_iff.1 h1⟩
/-! The run: row by row. -/
structure RunS where
  out:List Int
  bel:List Int
  west:Int
def runC (ps:List Piece)(st:RunS)(x:Nat):RunS:=match ps[(fitP ps (st.bel.getD x 0) st.west).toNat]? with
  | some p=>⟨st.out++[fitP ps (st.bel.getD x 0) st.west],st.bel.set x p.North,p.East⟩
  | none=>st
def runOK (ps:List Piece)(st:RunS)(x:Nat):Bool:=decide (0≤fitP ps (st.bel.getD x 0) st.west)
def runX (ps:List Piece)(st:RunS)(x:Nat):RunS:=(List.range x).foldl (runC ps) st
theorem runX_next (ps:List Piece)(st:RunS)(x:Nat):runX ps st (x+1)=runC ps (runX ps st x) x:=by unfold runX;rw [List.range_succ,List.foldl_append];rfl
def rowOK (ps:List Piece)(st:RunS)(n:Nat):Bool:=(List.range n).all fun x=>runOK ps (runX ps st x) x
def runY (ps:List Piece)(n:Nat)(st:RunS)(left:List Int):RunS:=left.foldl (fun st w=>runX ps { st with west:=w } n) st
def run0 (d:Design):RunS:=⟨[],d.Bottom,0⟩
def runYi (d:Design)(y:Nat):RunS:=runY d.Pieces d.Bottom.length (run0 d) (d.Left.take y)
def runRow (d:Design)(y:Nat):RunS:={ runYi d y with west:=d.Left.getD y 0 }
theorem runYi_next {d:Design}{y:Nat}(h:y<d.Left.length):runYi d (y+1)=runX d.Pieces (runRow d y) d.Bottom.length:=by unfold runYi runY runRow;rw [List.take_succ_eq_append_getElem h,List.foldl_append,List.getD_eq_getElem?_getD,List.getElem?_eq_getElem h];rfl
def runAll (d:Design):Bool:=(List.range d.Left.length).all fun y=>rowOK d.Pieces (runRow d y) d.Bottom.length
def runOut (d:Design):List Int:=(runYi d d.Left.length).out
def runCode (d:Design):Int:=if okDsn d then (if runAll d then 0 else 3) else 1
def runRes (d:Design):List Int:=if okDsn d then (if runAll d then runOut d else []) else []
theorem runC_bel (ps:List Piece)(st:RunS)(x:Nat):(runC ps st x).bel.length=st.bel.length:=by unfold runC;split<;>simp
theorem runX_bel (ps:List Piece)(st:RunS):∀ x:Nat,(runX ps st x).bel.length=st.bel.length
  | 0=>rfl
  | x+1=>by rw [runX_next,runC_bel,runX_bel ps st x]
theorem runY_bel (ps:List Piece)(n:Nat):∀ (left:List Int) (st:RunS),(runY ps n st left).bel.length=st.bel.length
  | [],st=>rfl
  | w::left,st=>by have:=runY_bel ps n left (runX ps { st with west:=w } n);unfold runY at this ⊢;rw [List.foldl_cons,this,runX_bel]
theorem runYi_bel (d:Design)(y:Nat):(runYi d y).bel.length=d.Bottom.length:=runY_bel ..
theorem runRow_bel (d:Design)(y:Nat):(runRow d y).bel.length=d.Bottom.length:=runYi_bel d y
theorem runC_out (ps:List Piece)(st:RunS)(x:Nat):(runC ps st x).out.length≤st.out.length+1:=by unfold runC;split<;>simp
theorem runX_out (ps:List Piece)(st:RunS):∀ x:Nat,(runX ps st x).out.length≤st.out.length+x
  | 0=>Nat.le_refl _
  | x+1=>by have:=runC_out ps (runX ps st x) x;have:=runX_out ps st x;rw [runX_next];omega
theorem runY_out (ps:List Piece)(n:Nat):∀ (left:List Int) (st:RunS),(runY ps n st left).out.length≤st.out.length+left.length*n
  | [],st=>by simp [runY]
  | w::left,st=>by have h1:=runY_out ps n left (runX ps { st with west:=w } n);have h2:=runX_out ps { st with west:=w } n;unfold runY at h1 ⊢;rw [List.foldl_cons,List.length_cons,Nat.add_mul];simp only at h2;omega
theorem dsn_parts {d:Design}(h:okDsn d=true):(1≤d.Bottom.length∧d.Bottom.length≤10)∧(1≤d.Left.length∧d.Left.length≤10)∧d.Pieces.length≤100∧(∀ p,p∈d.Pieces→okPc p=true)∧(d.Pieces.map kkP).Nodup∧(∀ x,x∈d.Bottom→0≤x∧x≤119)∧(∀ x,x∈d.Left→0≤x∧x≤119):=by unfold okDsn okEdge at h;simp only [Bool.and_eq_true,decide_eq_true_eq,List.all_eq_true,inR_iff] at h;obtain ⟨⟨h1,h2⟩,⟨h3,h4⟩,h5,h6,h7⟩:=h;exact ⟨by omega,by omega,h5,h6,h7,h2,h4⟩
theorem runYi_out {d:Design}(h:okDsn d=true){y:Nat}:(runYi d y).out.length≤100:=by obtain ⟨⟨_,h1⟩,⟨_,h2⟩,_⟩:=dsn_parts h;have:=runY_out d.Pieces d.Bottom.length (d.Left.take y) (run0 d);have h3:(d.Left.take y).length≤10:=(by rw [List.length_take];omega);have h4:(d.Left.take y).length*d.Bottom.length≤10*10:=Nat.mul_le_mul h3 h1;unfold runYi;simp only [run0,List.length_nil] at this ⊢;omega
theorem runC_in {ps:List Piece}{st:RunS}{x:Nat}(h:∀ k,k∈st.out→0≤k∧k<ps.length)(hok:runOK ps st x=true):∀ k,k∈(runC ps st x).out→0≤k∧k<ps.length:=by
  intro k hk;unfold runOK at hok;rw [decide_eq_true_eq] at hok;unfold runC at hk;split at hk
  · rename_i p hp;have:=(List.getElem?_eq_some_iff.1 hp).1;rcases List.mem_append.1 hk with hk | hk
    · exact h k hk
    · rw [List.mem_singleton] at hk;subst hk;omega
  · exact h k hk
theorem runX_in {ps:List Piece}{st:RunS}(h:∀ k,k∈st.out→0≤k∧k<ps.length):∀ {x:Nat},(∀ j,j<x→runOK ps (runX ps st j) j=true)→∀ k,k∈(runX ps st x).out→0≤k∧k<ps.length
  | 0,_=>h
  | x+1,hx=>by rw [runX_next];exact runC_in (runX_in h fun j hj=>hx j (by omega)) (hx x (by omega))
theorem runYi_in {d:Design}:∀ {y:Nat},y≤d.Left.length→(∀ j,j<y→rowOK d.Pieces (runRow d j) d.Bottom.length=true)→∀ k,k∈(runYi d y).out→0≤k∧k<d.Pieces.length
  | 0,_,_=>fun k hk=>by simp [runYi,runY,run0] at hk
  | y+1,hy,hx=>by rw [runYi_next (by omega)];refine runX_in (st:=runRow d y) (runYi_in (y:=y) (by omega) fun j hj=>hx j (by omega)) fun j hj=>?_;have:=hx y (by omega);unfold rowOK at this;rw [List.all_eq_true] at this;exact this j (by simpa using hj)
theorem runOut_in {d:Design}(h:runAll d=true):∀ k,k∈runOut d→0≤k∧k<d.Pieces.length:=by refine runYi_in (Nat.le_refl _) fun j hj=>?_;unfold runAll at h;rw [List.all_eq_true] at h;exact h j (by simpa using hj)
end Go.Proofs.Ytaleehohmpohoaa
