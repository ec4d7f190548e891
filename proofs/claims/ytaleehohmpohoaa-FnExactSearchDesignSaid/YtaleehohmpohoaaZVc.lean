/- Laws that the proof stands on. -/
import Derived.Test.YtaleehohmpohoaaZVb
set_option linter.all false
namespace Go.V
open Go.RowKit
mutual
theorem D.prune_prune (q1 q2:D→Bool):∀ d:D,(d.prune q2).prune q1=d.prune (fun x=>q2 x&&q1 x)
  | .undef=>by simp [D.prune]
  | .nils=>by simp [D.prune]
  | .v _=>by simp [D.prune]
  | .sl _ _ _=>by simp [D.prune]
  | .agg cs=>by simp only [D.prune,pruneL_pruneL q1 q2 cs]
  | .tup cs=>by simp only [D.prune,pruneL_pruneL q1 q2 cs]
  | .ref r p=>by cases h:q2 (.ref r p)<;>simp [D.prune,h]
  | .ptr r p i j=>by cases h:q2 (.ptr r p i j)<;>simp [D.prune,h]
  | .sub r p i n=>by cases h:q2 (.sub r p i n)<;>simp [D.prune,h]
  | .iptr _ _=>by simp [D.prune]
  | .box _ cs=>by simp only [D.prune,pruneL_pruneL q1 q2 cs]
  | .mp _ _=>by simp [D.prune]
  | .imp _ _=>by simp [D.prune]
  | .fn _ a b=>by simp only [D.prune,pruneL_pruneL q1 q2 a,pruneL_pruneL q1 q2 b]
theorem pruneL_pruneL (q1 q2:D→Bool):∀ ds:List D,pruneL q1 (pruneL q2 ds)=pruneL (fun x=>q2 x&&q1 x) ds
  | []=>rfl
  | d::ds=>by simp only [pruneL,D.prune_prune q1 q2 d,pruneL_pruneL q1 q2 ds]
end
theorem prune_congr {q q':D→Bool}(h:∀ x,q x=q' x)(d:D):d.prune q=d.prune q':=by rw [show q=q' from funext h]
theorem prune_cont_rev {d:D}{q:D→Bool}{sz:Nat}{rows':List (List D)}(hd:(d.prune q).cont=some (sz,rows')):∃ rows,d.cont=some (sz,rows) ∧
    ∀ (i:Nat) (row':List D),rows'[i]?=some row'→∃ row:List D,rows[i]?=some row∧∀ (j:Nat) (x':D),row'[j]?=some x'→∃ (x:D) (q':D→Bool),row[j]?=some x∧x'=x.prune q':=by
  cases d with
  | sl own sz0 rows=>cases own with
    | false=>simp [D.prune,D.cont] at hd
    | true=>simp only [D.prune,D.cont,Option.some.injEq,Prod.mk.injEq] at hd;obtain ⟨rfl,rfl⟩:=hd;exact ⟨rows,rfl,fun i row' hi=>⟨row',hi,fun j x' hj=>⟨x',fun _=>true,hj,(D.prune_yes x').symm⟩⟩⟩
  | mp k e=>simp only [D.prune,D.cont,Option.some.injEq,Prod.mk.injEq] at hd;obtain ⟨rfl,rfl⟩:=hd;exact ⟨[],rfl,fun i row' hi=>by simp at hi⟩
  | box tag cells =>
    simp only [D.prune,D.cont,Option.some.injEq,Prod.mk.injEq] at hd;obtain ⟨rfl,rfl⟩:=hd;refine ⟨[cells],by simp [D.cont,pruneL_len],fun i row' hi=>?_⟩;cases i with
    | succ i=>simp at hi
    | zero =>
      obtain rfl:pruneL q cells=row':=(by simpa using hi);refine ⟨cells,rfl,fun j x' hj=>?_⟩;rw [pruneL_get] at hj;cases hc:cells[j]? with
      | none=>simp [hc] at hj
      | some x=>exact ⟨x,q,rfl,by simpa [hc,eq_comm] using hj⟩
  | ref r p=>simp only [D.prune] at hd;split at hd<;>simp [D.cont] at hd
  | ptr r p i j=>simp only [D.prune] at hd;split at hd<;>simp [D.cont] at hd
  | sub r p i n=>simp only [D.prune] at hd;split at hd<;>simp [D.cont] at hd
  | _=>simp [D.prune,D.cont] at hd
theorem tree_prune_rev:∀ (p:Path) (d:D) (q:D→Bool) {t':D},treeAt (d.prune q) p=some t'→∃ t q',treeAt d p=some t∧t'=t.prune q'
  | [],d,q,t',h=>⟨d,q,rfl,by simpa [treeAt,eq_comm] using h⟩
  | (i,j)::p,d,q,t',h=>by
    simp only [treeAt] at h;cases hd:(d.prune q).cont with
    | none=>simp [hd] at h
    | some x =>
    obtain ⟨sz,rows'⟩:=x;simp only [hd] at h;cases hi:rows'[i]? with
    | none=>simp [hi] at h
    | some row' =>
    cases hj:row'[j]? with
    | none=>simp [hi,hj] at h
    | some c' =>
    simp only [hi,hj] at h;obtain ⟨rows,h1,h2⟩:=prune_cont_rev hd;obtain ⟨row,h3,h4⟩:=h2 i row' hi;obtain ⟨c,q',h5,rfl⟩:=h4 j c' hj;obtain ⟨t,q'',h6,h7⟩:=tree_prune_rev p c q' h;exact ⟨t,q'',by simp only [treeAt,h1,h3,h5,h6],h7⟩
theorem ρS.unclr {s:List D}{tm:Array Value}{w:World}{m:List Bool}{x:D}{v:Value}(h:ρS (clr m s) tm w x v):ρS s tm w x v:=by
  have key:∀ (r:Nat) (d':D),(clr m s)[r]?=some d'→d'=.undef∨∃ d q,s[r]?=some d∧d'=d.prune q:=by
    intro r d' h;unfold V.clr at h;rw [clrL_get] at h;cases hs:s[r]? with
    | none=>simp [hs] at h
    | some d =>
      simp only [hs,Option.map_some,Option.some.injEq] at h;split at h
      · exact .inl h.symm
      · exact .inr ⟨d,_,rfl,h.symm⟩
  have nou:∀ (p:Path) (t:D) (y:Nat×List (List D)),treeAt .undef p=some t→t.cont=some y→False:=by
    intro p t y h1 h2;cases p with
    | nil=>simp only [treeAt,Option.some.injEq] at h1;subst h1;simp [D.cont] at h2
    | cons z p=>obtain ⟨i,j⟩:=z;simp [treeAt,D.cont] at h1
  cases x with
  | ref r p =>
    obtain ⟨d',u0,t1,k1,k2,k3,ko,k4⟩:=h;rcases key r d' k1 with rfl | ⟨d,q,hs,rfl⟩
    · obtain ⟨sz,rows,hcc⟩:=ownv_cont ko;exact (nou p _ _ k3 hcc).elim
    · obtain ⟨t,q',h1,h2⟩:=tree_prune_rev p d q k3;exact ⟨d,u0,t,hs,k2,h1,ownv_unprune (q:=q') (by rw [← h2];exact ko),by rw [← val_prune p d q h1];exact k4⟩
  | ptr r p i j =>
    obtain ⟨d',u0,t',sz,rows,u1,b,o,k1,k2,k3,k4,k5,k6⟩:=h;rcases key r d' k1 with rfl | ⟨d,q,hs,rfl⟩
    · exact (nou p _ _ k3 k4).elim
    · obtain ⟨t,q',h1,rfl⟩:=tree_prune_rev p d q k3;obtain ⟨rows2,h3,_⟩:=prune_cont_rev k4;exact ⟨d,u0,t,sz,rows2,u1,b,o,hs,k2,h1,h3,by rw [← val_prune p d q h1];exact k5,k6⟩
  | sub r p i n =>
    obtain ⟨d',u0,t',sz,rows,u1,b,o,cc,k1,k2,k3,k4,k5,k6⟩:=h;rcases key r d' k1 with rfl | ⟨d,q,hs,rfl⟩
    · exact (nou p _ _ k3 k4).elim
    · obtain ⟨t,q',h1,rfl⟩:=tree_prune_rev p d q k3;obtain ⟨rows2,h3,_⟩:=prune_cont_rev k4;exact ⟨d,u0,t,sz,rows2,u1,b,o,cc,hs,k2,h1,h3,by rw [← val_prune p d q h1];exact k5,k6⟩
  | _=>exact h.elim
theorem ρS.clr {s:List D}{tm:Array Value}{w:World}{m:List Bool}{x:D}{v:Value}(hq:keepQ m x=true)(hx:ρS s tm w x v):ρS (clr m s) tm w x v:=by
  cases x with
  | ref r' p=>obtain ⟨d1,u0,t1,k1,k2,k3,ko,k4⟩:=hx;have hm':m.getD r' false=false:=(by simpa [keepQ] using hq);obtain ⟨q',hq'⟩:=tree_prune p d1 (keepQ m) k3;refine ⟨d1.prune (keepQ m),u0,t1,?_,k2,by rw [ownv_prune ko] at hq';exact hq',ko,by rw [val_prune p d1 _ k3];exact k4⟩;unfold V.clr;rw [clrL_get,k1];simp only [Option.map_some,hm',Bool.false_eq_true,if_false]
  | ptr r' p i j=>obtain ⟨d1,u0,t',sz,rows,u1,b,o,k1,k2,k3,k4,k5,k6,k7⟩:=hx;have hm':m.getD r' false=false:=(by simpa [keepQ] using hq);obtain ⟨q',hq'⟩:=tree_prune p d1 (keepQ m) k3;obtain ⟨rows',hr'⟩:=(like_prune k4 q').cont k4;refine ⟨d1.prune (keepQ m),u0,t'.prune q',sz,rows',u1,b,o,?_,k2,hq',hr',by rw [val_prune p d1 _ k3];exact k5,k6,k7⟩;unfold V.clr;rw [clrL_get,k1];simp only [Option.map_some,hm',Bool.false_eq_true,if_false]
  | sub r' p i n=>obtain ⟨d1,u0,t',sz,rows,u1,b,o,cc,k1,k2,k3,k4,k5,k6,k7⟩:=hx;have hm':m.getD r' false=false:=(by simpa [keepQ] using hq);obtain ⟨q',hq'⟩:=tree_prune p d1 (keepQ m) k3;obtain ⟨rows',hr'⟩:=(like_prune k4 q').cont k4;refine ⟨d1.prune (keepQ m),u0,t'.prune q',sz,rows',u1,b,o,cc,?_,k2,hq',hr',by rw [val_prune p d1 _ k3];exact k5,k6,k7⟩;unfold V.clr;rw [clrL_get,k1];simp only [Option.map_some,hm',Bool.false_eq_true,if_false]
  | _=>exact hx.elim
theorem clr_get (m:List Bool)(s:List D)(r:Nat):(clr m s)[r]?=(s[r]?).map fun d=>if m.getD r false then .undef else d.prune (keepQ m):=clrL_get _ _ _ _
theorem clr_len (m:List Bool)(s:List D):(clr m s).length=s.length:=clrL_len _ _ _
theorem clr_comm (m1 m2:List Bool)(s:List D):clr m1 (clr m2 s)=clr m2 (clr m1 s):=by
  apply List.ext_getElem?;intro r;simp only [clr_get,Option.map_map];cases s[r]? with
  | none=>rfl
  | some d=>simp only [Option.map_some,Function.comp_def];cases m1.getD r false<;>cases m2.getD r false<;>simp [D.prune,D.prune_prune];apply prune_congr;intro x;exact Bool.and_comm _ _
theorem prune_undef {d:D}{q:D→Bool}(h:d.prune q=.undef):d.owny=false:=by
  cases d with
  | undef=>rfl
  | ref r p=>rfl
  | ptr r p i j=>rfl
  | sub r p i n=>rfl
  | _=>simp [D.prune] at h
end Go.V
namespace Go.V
open Go.RowKit
theorem pruneL_set (q:D→Bool):∀ (l:List D) (j:Nat) (x:D),pruneL q (l.set j x)=(pruneL q l).set j (x.prune q)
  | [],j,x=>rfl
  | d::l,0,x=>rfl
  | d::l,j+1,x=>by simp only [List.set_cons_succ,pruneL,pruneL_set q l j x]
theorem setAt_prune (k:D→Bool):∀ (p:Path) (d:D),(setAt d p .undef).prune k=setAt (d.prune k) p .undef
  | [],d=>by cases d<;>simp [setAt,D.prune]
  | (i, j)::p,d=>by
    cases d with
    | sl own sz rows=>cases own with
      | false=>simp [setAt,D.cont,D.prune]
      | true =>
        simp only [setAt,D.cont,D.prune,D.withCont];cases rows[i]? with
        | none=>rfl
        | some row=>cases hx:row[j]? with
          | none=>simp only [hx,D.prune]
          | some x=>simp only [hx,D.prune]
    | box tag cells =>
      simp only [setAt,D.cont,D.prune];cases i with
      | succ i=>simp [D.prune]
      | zero =>
        simp only [List.getElem?_cons_zero,pruneL_get];cases hc:cells[j]? with
        | none=>simp [D.prune]
        | some x=>simp [D.withCont,D.prune,pruneL_set,setAt_prune k p x]
    | ref r p=>simp only [setAt,D.cont,D.prune];split<;>simp [setAt,D.cont]
    | ptr r p i j=>simp only [setAt,D.cont,D.prune];split<;>simp [setAt,D.cont]
    | sub r p i n=>simp only [setAt,D.cont,D.prune];split<;>simp [setAt,D.cont]
    | _=>simp [setAt,D.cont,D.prune]
theorem treeAt_undef (p:Path)(t:D)(y:Nat×List (List D))(h1:treeAt .undef p=some t)(h2:t.cont=some y):False:=by
  cases p with
  | nil=>simp only [treeAt,Option.some.injEq] at h1;subst h1;simp [D.cont] at h2
  | cons z p=>obtain ⟨i,j⟩:=z;simp [treeAt,D.cont] at h1
def isOwn (t:D)(_:Nat):Prop:=t.ownv=true
theorem tree_unhole {w:World}:∀ (q p:Path) (d:D) {t':D} {sz:Nat} {rows':List (List D)},treeAt (setAt d q .undef) p=some t'→t'.cont=some (sz,rows') →
    ∃ t,treeAt d p=some t∧(∃ rows,t.cont=some (sz,rows))∧(isOwn t' sz→isOwn t sz)∧∀ u,valAt w u (setAt d q .undef) p=valAt w u d p
  | [],p,d,t',sz,rows',h,hc=>by simp only [setAt] at h;exact (treeAt_undef p t' _ h hc).elim
  | (i, j) :: q,p,d,t',sz,rows',h,hc=>by
    have same:setAt d ((i,j)::q) .undef=d→∃ t,treeAt d p=some t∧(∃ rows,t.cont=some (sz,rows))∧(isOwn t' sz→isOwn t sz)∧∀ u,valAt w u (setAt d ((i,j)::q) .undef) p=valAt w u d p:=fun e=>by rw [e] at h ⊢;exact ⟨t',h,⟨rows',hc⟩,id,fun _=>rfl⟩
    cases hd:d.cont with
    | none=>exact same (by simp only [setAt,hd])
    | some x =>
      obtain ⟨sz0,rows0⟩:=x;cases hi:rows0[i]? with
      | none=>exact same (by simp only [setAt,hd,hi])
      | some row=>cases hj:row[j]? with
        | none=>exact same (by simp only [setAt,hd,hi,hj])
        | some x =>
          have hset:setAt d ((i,j)::q) .undef=d.withCont (rows0.set i (row.set j (setAt x q .undef))):=(by simp only [setAt,hd,hi,hj]);have hcont:=withCont_cont hd i j row (setAt x q .undef) hi;have hil:=(List.getElem?_eq_some_iff.1 hi).1;have hjl:=(List.getElem?_eq_some_iff.1 hj).1;rw [hset] at h ⊢;cases p with
          | nil =>
            simp only [treeAt,Option.some.injEq] at h;subst h;rw [hcont] at hc;simp only [Option.some.injEq,Prod.mk.injEq] at hc;obtain ⟨rfl,_⟩:=hc;refine ⟨d,rfl,⟨rows0,hd⟩,fun ho=>?_,fun u=>rfl⟩;cases d with
            | sl own z r=>cases own with
              | false=>simp [D.cont] at hd
              | true=>rfl
            | box tag cells=>unfold isOwn at ho;cases hrs:rows0.set i (row.set j (setAt x q .undef))<;>simp [D.withCont,hrs,D.ownv] at ho
            | mp k e=>rfl
            | _=>simp [D.cont] at hd
          | cons y p =>
            obtain ⟨i2,j2⟩:=y;simp only [treeAt,hcont] at h;by_cases hii:i2=i
            · subst hii;rw [List.getElem?_set_self hil] at h;simp only at h;by_cases hjj:j2=j
              · subst hjj;rw [List.getElem?_set_self hjl] at h;simp only at h;obtain ⟨t,k1,k2,k3,k4⟩:=tree_unhole (w:=w) q p x h hc;refine ⟨t,by simp only [treeAt,hd,hi,hj,k1],k2,k3,fun u=>?_⟩;simp only [valAt,hcont,hd,hi,hj,List.getElem?_set_self hil,List.getElem?_set_self hjl,k4];cases baseOf u with
                | none=>rfl
                | some y =>
                  obtain ⟨y1,y2⟩:=y;simp only [hi,hj,List.getElem?_set_self hil,List.getElem?_set_self hjl,k4];cases w.cell? ⟨y1,y2+i2*sz0+j2,none⟩ with
                  | none=>simp only [hi,hj,List.getElem?_set_self hil,List.getElem?_set_self hjl,k4]
                  | some u'=>simp only [hi,hj,List.getElem?_set_self hil,List.getElem?_set_self hjl,k4]
              · rw [List.getElem?_set_ne (Ne.symm hjj)] at h;refine ⟨t',by simp only [treeAt,hd,hi];exact h,⟨rows',hc⟩,id,fun u=>?_⟩;simp only [valAt,hcont,hd,hi,List.getElem?_set_self hil,List.getElem?_set_ne (Ne.symm hjj)];cases baseOf u with
                | none=>rfl
                | some y=>obtain ⟨y1,y2⟩:=y;simp only [hi,List.getElem?_set_self hil,List.getElem?_set_ne (Ne.symm hjj)]
            · rw [List.getElem?_set_ne (Ne.symm hii)] at h;refine ⟨t',by simp only [treeAt,hd];exact h,⟨rows',hc⟩,id,fun u=>?_⟩;simp only [valAt,hcont,hd,List.getElem?_set_ne (Ne.symm hii)];cases baseOf u with
              | none=>rfl
              | some y=>obtain ⟨y1,y2⟩:=y;simp only [List.getElem?_set_ne (Ne.symm hii)]
theorem prune_own {d:D}{q:D→Bool}{sz:Nat}(h:isOwn (d.prune q) sz):isOwn d sz:=ownv_unprune h
theorem hole_get {r:Nat}{q:Path}{s:List D}{d:D}(hs:s[r]?=some d)(j:Nat):(holeS r q s)[j]?=if j=r then some (setAt (d.prune (notThrough r q)) q .undef) else (s[j]?).map (D.prune (notThrough r q)):=by
  unfold holeS;rw [hs];simp only;have hlt:=(List.getElem?_eq_some_iff.1 hs).1;by_cases hj:j=r
  · subst hj;rw [if_pos rfl,List.getElem?_set_self (by rw [pruneL_len];exact hlt)]
  · rw [if_neg hj,List.getElem?_set_ne (Ne.symm hj),pruneL_get]
theorem hole_len {r:Nat}{q:Path}{s:List D}:(holeS r q s).length=s.length:=by unfold holeS;split<;>simp [pruneL_len]
theorem ρS.unhole {s:List D} {tm:Array Value} {w:World} {r:Nat} {q:Path} {x:D} {v:Value} (h:ρS (holeS r q s) tm w x v):ρS s tm w x v:=by
  cases hsr:s[r]? with
  | none=>unfold holeS at h;rw [hsr] at h;exact h
  | some d0 =>
    have key:∀ (r':Nat) (d':D) (p:Path) (t':D) (sz:Nat) (rows':List (List D)),(holeS r q s)[r']?=some d'→treeAt d' p=some t'→t'.cont=some (sz,rows') →
        ∃ d t,s[r']?=some d∧treeAt d p=some t∧(∃ rows,t.cont=some (sz,rows))∧(isOwn t' sz→isOwn t sz)∧∀ u,valAt w u d' p=valAt w u d p:=by
      intro r' d' p t' sz rows' h1 h2 h3;rw [hole_get hsr] at h1;split at h1
      · rename_i e;subst e;simp only [Option.some.injEq] at h1;subst h1;obtain ⟨t,k1,⟨rows,k2⟩,k3,k4⟩:=tree_unhole (w:=w) q p _ h2 h3;obtain ⟨t0,q',m1,rfl⟩:=tree_prune_rev p d0 _ k1;obtain ⟨rows0,m2,_⟩:=prune_cont_rev k2;exact ⟨d0,t0,hsr,m1,⟨rows0,m2⟩,fun ho=>prune_own (k3 ho),fun u=>(k4 u).trans (val_prune p d0 _ m1)⟩
      · cases hr':s[r']? with
        | none=>simp [hr'] at h1
        | some d=>simp only [hr',Option.map_some,Option.some.injEq] at h1;subst h1;obtain ⟨t0,q',m1,rfl⟩:=tree_prune_rev p d _ h2;obtain ⟨rows0,m2,_⟩:=prune_cont_rev h3;exact ⟨d,t0,rfl,m1,⟨rows0,m2⟩,prune_own,fun u=>val_prune p d _ m1⟩
    cases x with
    | ref r' p=>obtain ⟨d',u0,t1,k1,k2,k3,ko,k4⟩:=h;obtain ⟨sz,rows,hcc⟩:=ownv_cont ko;obtain ⟨d,t,m1,m2,_,m4,m5⟩:=key r' d' p _ sz rows k1 k3 hcc;exact ⟨d,u0,t,m1,k2,m2,m4 ko,by rw [← m5];exact k4⟩
    | ptr r' p i j=>obtain ⟨d',u0,t',sz,rows,u1,b,o,k1,k2,k3,k4,k5,k6⟩:=h;obtain ⟨d,t,m1,m2,⟨rows2,m3⟩,_,m5⟩:=key r' d' p _ sz rows k1 k3 k4;exact ⟨d,u0,t,sz,rows2,u1,b,o,m1,k2,m2,m3,by rw [← m5];exact k5,k6⟩
    | sub r' p i n=>obtain ⟨d',u0,t',sz,rows,u1,b,o,cc,k1,k2,k3,k4,k5,k6⟩:=h;obtain ⟨d,t,m1,m2,⟨rows2,m3⟩,_,m5⟩:=key r' d' p _ sz rows k1 k3 k4;exact ⟨d,u0,t,sz,rows2,u1,b,o,cc,m1,k2,m2,m3,by rw [← m5];exact k5,k6⟩
    | _=>exact h.elim
theorem hole_clr {r:Nat}{q:Path}{m:List Bool}(hm:m.getD r false=false)(s:List D):holeS r q (clr m s)=clr m (holeS r q s):=by
  cases hsr:s[r]? with
  | none=>have h1:(clr m s)[r]?=none:=(by rw [clr_get,hsr];rfl);unfold holeS;rw [hsr,h1]
  | some d =>
    have h1:(clr m s)[r]?=some (d.prune (keepQ m)):=(by rw [clr_get,hsr];simp only [Option.map_some,hm,Bool.false_eq_true,if_false]);apply List.ext_getElem?;intro j;rw [hole_get h1,clr_get,clr_get,hole_get hsr];by_cases hj:j=r
    · subst hj;rw [if_pos rfl,if_pos rfl];simp only [Option.map_some,hm,Bool.false_eq_true,if_false,setAt_prune,D.prune_prune];rw [prune_congr (q:=fun x=>keepQ m x&&notThrough j q x) (q':=fun x=>notThrough j q x&&keepQ m x) (fun x=>Bool.and_comm _ _)]
    · rw [if_neg hj,if_neg hj];simp only [Option.map_map];cases s[j]? with
      | none=>rfl
      | some e=>simp only [Option.map_some,Function.comp_def];cases m.getD j false<;>simp [D.prune,D.prune_prune];exact prune_congr (fun x=>Bool.and_comm _ _) _
theorem clr_view {hid:List Bool}{s s':List D}(hl:s.length=s'.length)(h:∀ r,hid.getD r false=false→s[r]?=s'[r]?):clr hid s=clr hid s':=by
  apply List.ext_getElem?;intro r;rw [clr_get,clr_get];cases hr:hid.getD r false with
  | false=>rw [h r hr]
  | true =>
    by_cases hlt:r<s.length
    · rw [List.getElem?_eq_getElem hlt,List.getElem?_eq_getElem (hl▸hlt)];rfl
    · rw [List.getElem?_eq_none (by omega),List.getElem?_eq_none (by omega)]
theorem clr_clr {hid m:List Bool} (h:∀ r,m.getD r false=true→hid.getD r false=true) (s:List D):clr hid (clr m s)=clr hid s:=by
  apply List.ext_getElem?;intro r;rw [clr_get,clr_get,clr_get,Option.map_map];cases s[r]? with
  | none=>rfl
  | some d =>
    simp only [Option.map_some,Function.comp_def];cases hr:hid.getD r false with
    | true=>rfl
    | false =>
      have hm:m.getD r false=false:=by
        cases hm:m.getD r false with
        | false=>rfl
        | true=>rw [h r hm] at hr;cases hr
      simp only [hm,Bool.false_eq_true,if_false,D.prune_prune];rw [prune_congr];intro x;cases x with
      | ref r p=>simp only [keepQ];cases hx:m.getD r false<;>simp;have:=h r hx;simpa using this
      | ptr r p i j=>simp only [keepQ];cases hx:m.getD r false<;>simp;have:=h r hx;simpa using this
      | sub r p i n=>simp only [keepQ];cases hx:m.getD r false<;>simp;have:=h r hx;simpa using this
      | _=>rfl
theorem hole_agree {hid:List Bool}{r:Nat}{q:Path}{s s':List D}(hr:hid.getD r false=false)(h:∀ r,hid.getD r false=false→s[r]?=s'[r]?):∀ j,hid.getD j false=false→(holeS r q s)[j]?=(holeS r q s')[j]?:=by
  intro j hj;cases hsr:s[r]? with
  | none=>have h1:s'[r]?=none:=(by rw [← h r hr];exact hsr);unfold holeS;rw [hsr,h1];exact h j hj
  | some d=>have h1:s'[r]?=some d:=(by rw [← h r hr];exact hsr);rw [hole_get hsr,hole_get h1,h j hj]
theorem RelI.hole {w0:Base}{I0:Nat→Prop}{s:List D}{a:Act}{w:World}{I:Nat→Prop}{Fs:Nat→List Nat}(h:RelI w0 I0 s a.tmps w I Fs){r:Nat}{q:Path}{d:D}{sz:Nat}{rows:List (List D)}(hs:s[r]?=some d)(ht:treeAt d q=some (.sl true sz rows)):∃ Fs',RelI w0 I0 (holeS r q s) a.tmps w I Fs'∧∀ r b,b∈Fs' r→b∈Fs r:=by
  obtain ⟨u0,hu,hT⟩:=h.slot0 hs;obtain ⟨u,F',ρ',h1,_⟩:=val_T q d hT ht;obtain ⟨t',s',Fs',F,_,hK,hr,_,_,hsub,_⟩:=steal_T h (r:=r) (q:=q) (u:=u) ⟨d,u0,_,hs,hu,ht,rfl,h1⟩ (KK:=fun _ s'=>s'=holeS r q s) (by
    unfold stealK holeS;simp only [hs,ht])
  subst hK;exact ⟨Fs',hr,hsub⟩
end Go.V
namespace Go.V
open Go.RowKit
theorem recomb2 {w0:Base} {I0:Nat→Prop} {s sv:List D} {tm:Array Value} {w:World} {I:Nat→Prop} {Fs Fv:Nat→List Nat} (h:RelI w0 I0 s tm w I Fs) (hv:RelI w0 I0 sv tm w I Fv) (hsub:∀ r b,b∈Fv r→b∈Fs r) {cl:List Bool} {d:D} {s1:List D} {I':Nat→Prop} {Fs':Nat→List Nat} {F:List Nat} {v:Value} {w':World}
    (hun:∀ x u,ρS (clr cl sv) tm w' x u→ρS (clr cl s) tm w' x u) (hs:clr cl s1=clr cl sv) (h':RelI w0 I0 s1 tm w' I' Fs') (hT:T I' w' d (ρS s1 tm w') v F) (hF:Fresh w0 w' I' Fs' F) (hfr:Frame Fv I I' Fs' F s1 w w') :
    RelI w0 I0 (clr cl s) tm w' I' (fun r=>if cl.getD r false then [] else Fs r)∧T I' w' (d.prune (keepQ cl)) (ρS (clr cl s) tm w') v F∧Fresh w0 w' I' (fun r=>if cl.getD r false then [] else Fs r) F:=by
  obtain ⟨f1,f2,f3,f4,f5⟩:=hfr;have hc:=h.clr cl;have hdis:∀ b,b∈F→∀ r,b∉(if cl.getD r false then [] else Fs r):=by
    intro b hb r hr;cases hcl:cl.getD r false with
    | true=>rw [hcl,if_pos rfl] at hr;cases hr
    | false =>
      simp only [hcl,Bool.false_eq_true,if_false] at hr;rcases f3 b hb with hn | ⟨r',hr'⟩
      · have:=(h.own r b hr).2.1;omega
      · obtain rfl:=h.disj r r' b hr (hsub r' b hr');rcases f5 r with hu | he
        · have h1:(clr cl s1)[r]?=some .undef:=(by rw [clr_get,hu];simp [D.prune]);rw [hs,clr_get] at h1;cases hsr:sv[r]? with
          | none=>simp [hsr] at h1
          | some d0=>simp only [hsr,Option.map_some,hcl,Bool.false_eq_true,if_false,Option.some.injEq] at h1;obtain ⟨u,hu,hT0⟩:=hv.slot0 hsr;rw [T.nofoot d0 hT0 (prune_undef h1)] at hr';cases hr'
        · exact (hF.2 b hb).2.2.2 r (by rw [he];exact hr')
  have hsize:w.heap.size≤w'.heap.size:=by
    apply Nat.le_of_not_lt;intro hlt;by_cases hb:w'.heap.size∈F
    · exact absurd (hF.2 _ hb).2.1 (by omega)
    · have:=f4 _ hlt hb;rw [Array.getElem?_eq_none (Nat.le_refl _)] at this;rw [Array.getElem?_eq_getElem hlt] at this;cases this
  have hbel:w0.Keeps w w':=⟨h'.below.os.trans h.below.os.symm,h'.below.tape.trans h.below.tape.symm,h'.below.output.trans h.below.output.symm,hsize,fun k hk=>(h'.below.block k hk).trans (h.below.block k hk).symm⟩
  have hk:∀ x,(I x∨∃ r,x∈(if cl.getD r false then [] else Fs r))→w'.heap[x]?=w.heap[x]?:=by
    intro x hx;rcases hx with hx | ⟨r,hr⟩
    · exact f4 x (h.imm x hx) (fun hxF=>(hF.2 x hxF).2.2.1 (f1 x hx))
    · refine f4 x ?_ (fun hxF=>hdis x hxF r hr);split at hr
      · cases hr
      · exact (h.own r x hr).2.1
  have h2:=(hc.same hbel hk).immMore (I':=I') f1 (fun b hb=>(f2 b hb).imp_right (fun hn=>⟨Base.N_of h.below hn,h'.imm b hb,fun r hr=>by
    split at hr
    · cases hr
    · have:=(h.own r b hr).2.1;omega⟩))
  refine ⟨h2,T.turn (fun x u hq hx=>?_) d hT,⟨hF.1,fun b hb=>⟨(hF.2 b hb).1,(hF.2 b hb).2.1,(hF.2 b hb).2.2.1,fun r hr=>hdis b hb r hr⟩⟩⟩;have h3:=ρS.clr hq hx;rw [hs] at h3;exact hun x u h3
section
variable (Ctr:CtrT)
def NF (V:List D)(cl:List Bool)(v:VOp)(d:D):Prop:=∃ s',clr cl s'=clr cl V∧evalK Ctr V v fun d' s''=>d'=d∧s''=s'
def noD:D:=.v (.tuple #[])
def DF (V:List D) (cl:List Bool) (o:VO) (d:D):Prop :=
  match o.guard with
  | none=>NF Ctr V cl o.op d
  | some (g,want)=>match lkT V g with
    | .v (.bool b)=>(b=want→NF Ctr V cl o.op d)∧(b≠want→d=noD)
    | .v _=>d=noD
    | _=>False
end
theorem drawE_pick {Ctr:CtrT}{V:List D}{cl:List Bool}{v:VOp}{K:D→Prop}(hf:v.framed=true)(h:drawE Ctr V cl v K):∃ d,K d∧NF Ctr V cl v d:=by obtain ⟨d,s',⟨h1,h2⟩,h3⟩:=evalK_pick hf h;exact ⟨d,h2,s',h1,h3⟩
theorem drawK_pick {Ctr:CtrT}{V:List D}{cl:List Bool}{o:VO}{K:D→Prop}(hf:o.op.framed=true)(h:drawK Ctr V cl o K):∃ d,K d∧DF Ctr V cl o d:=by
  unfold drawK at h;unfold DF;split at h
  · rename_i hg;simp only [hg];exact drawE_pick hf h
  · rename_i g want hg;simp only [hg];split at h
    · rename_i b e;simp only [e];by_cases hb:b=want
      · obtain ⟨d,h1,h2⟩:=drawE_pick hf (h.1 hb);exact ⟨d,h1,fun _=>h2,fun hn=>absurd hb hn⟩
      · exact ⟨noD,h.2 hb,fun hn=>absurd hn hb,fun _=>rfl⟩
    · rename_i x hx e;refine ⟨noD,h,?_⟩;split
      · rename_i b e2;exact absurd (D.v.inj (e.symm.trans e2)) (hx b)
      · rfl
      · rename_i h1 h2;exact h2 x e
    · exact h.elim
/-! ### The data that are there so far -/
theorem setO_len {s:List D}{dst:Option Nat}{d:D}:(setO s dst d).length=s.length:=by cases dst<;>simp [setO]
theorem setO_ne {s:List D}{dst:Option Nat}{d:D}{r:Nat}(h:dst≠some r):(setO s dst d)[r]?=s[r]?:=by
  cases dst with
  | none=>rfl
  | some t=>simp only [setO];rw [List.getElem?_set_ne (fun e=>h (by rw [e]))]
theorem setO_eq {s:List D}{d:D}{r:Nat}:(setO s (some r) d)[r]?=(s[r]?).map fun _=>d:=by
  simp only [setO];by_cases h:r<s.length
  · rw [List.getElem?_set_self h,List.getElem?_eq_getElem h];rfl
  · rw [List.getElem?_eq_none (by simpa using h),List.getElem?_eq_none (by omega)];rfl
def ovE (S:Nat→Bool):List (DOp×D)→List D→List D
  | [],s=>s
  | e::E,s=>ovE S E (if S e.1.idx then setO s e.1.vo.dst e.2 else s)
theorem ovE_len {S:Nat→Bool}:∀ (E:List (DOp×D)) (s:List D),(ovE S E s).length=s.length
  | [],s=>rfl
  | e::E,s=>by
    simp only [ovE];rw [ovE_len E];split
    · exact setO_len
    · rfl
theorem ovE_app {S:Nat→Bool}:∀ (E E':List (DOp×D)) (s:List D),ovE S (E++E') s=ovE S E' (ovE S E s)
  | [],E',s=>rfl
  | e::E,E',s=>by simp only [List.cons_append,ovE,ovE_app E E']
theorem ovE_agree {S S':Nat→Bool} {r:Nat}:∀ (E:List (DOp×D)) (s s':List D),(∀ e,e∈E→e.1.vo.dst=some r→S e.1.idx=S' e.1.idx)→s[r]?=s'[r]?→(ovE S E s)[r]?=(ovE S' E s')[r]?
  | [],s,s',_,h=>h
  | e :: E,s,s',hE,h=>by
    simp only [ovE];refine ovE_agree E _ _ (fun e' he'=>hE e' (by simp [he'])) ?_;by_cases hd:e.1.vo.dst=some r
    · have:=hE e (by simp) hd;rw [← this];cases S e.1.idx with
      | true=>simp only [if_true];rw [hd,setO_eq,setO_eq,h]
      | false=>simpa using h
    · have h1:∀ (b:Bool) (s:List D),(if b=true then setO s e.1.vo.dst e.2 else s)[r]?=s[r]?:=fun b s=>by
        cases b with
        | true=>simp only [if_true];exact setO_ne hd
        | false=>simp
      rw [h1,h1,h]
theorem ovE_out {S:Nat→Bool}{r:Nat}:∀ (E:List (DOp×D)) (s:List D),(∀ e,e∈E→e.1.vo.dst=some r→S e.1.idx=false)→(ovE S E s)[r]?=s[r]?
  | [],s,_=>rfl
  | e :: E,s,hE=>by
    simp only [ovE];rw [ovE_out E _ (fun e' he'=>hE e' (by simp [he']))];by_cases hd:e.1.vo.dst=some r
    · rw [hE e (by simp) hd];simp
    · split
      · exact setO_ne hd
      · rfl
theorem ovE_in {S:Nat→Bool} {r:Nat}:∀ (E:List (DOp×D)) (s:List D) (e:DOp×D),e∈E→E.Pairwise (fun e e'=>e.1.vo.dst=none∨e.1.vo.dst≠e'.1.vo.dst)→e.1.vo.dst=some r→S e.1.idx=true→(ovE S E s)[r]?=(s[r]?).map fun _=>e.2
  | [],s,e,he,_,_,_=>by cases he
  | e'::E,s,e,he,hp,hd,hS=>by
    simp only [ovE];rw [List.pairwise_cons] at hp;rcases List.mem_cons.1 he with rfl | he
    · rw [hS,if_pos rfl,ovE_out E _ (fun e' he' hd'=>by
        rcases hp.1 e' he' with h | h
        · rw [hd] at h;cases h
        · exact absurd (hd.trans hd'.symm) h)]
      rw [hd,setO_eq]
    · rw [ovE_in E _ e he hp.2 hd hS];have hne:e'.1.vo.dst≠some r:=by
        intro h;rcases hp.1 e he with h' | h'
        · rw [h] at h';cases h'
        · exact h' (h.trans hd.symm)
      split
      · rw [setO_ne hne]
      · rfl
def orM:List Bool→List Bool→List Bool
  | [],m=>m
  | m,[]=>m
  | a::x,b::y=>(a||b)::orM x y
theorem orM_get:∀ (x y:List Bool) (r:Nat),(orM x y).getD r false=(x.getD r false||y.getD r false)
  | [],m,r=>by simp [orM]
  | a::x,[],r=>by simp [orM]
  | a::x,b::y,0=>by simp [orM]
  | a::x,b::y,r+1=>by have:=orM_get x y r;simpa [orM] using this
def clE (S:Nat→Bool):List (DOp×D)→List Bool
  | []=>[]
  | e::E=>orM (if S e.1.idx then e.1.cl else []) (clE S E)
theorem clE_get {S:Nat→Bool} {r:Nat}:∀ (E:List (DOp×D)),(clE S E).getD r false=true↔∃ e,e∈E∧S e.1.idx=true∧e.1.cl.getD r false=true
  | []=>by simp [clE]
  | e :: E=>by
    simp only [clE,orM_get,Bool.or_eq_true,clE_get E,List.mem_cons];constructor
    · rintro (h | ⟨e',h1,h2,h3⟩)
      · cases hS:S e.1.idx with
        | true=>rw [hS,if_pos rfl] at h;exact ⟨e,.inl rfl,hS,h⟩
        | false=>rw [hS] at h;simp at h
      · exact ⟨e',.inr h1,h2,h3⟩
    · rintro ⟨e',rfl | h1,h2,h3⟩
      · rw [h2,if_pos rfl];exact .inl h3
      · exact .inr ⟨e',h1,h2,h3⟩
def hwS (hw:Option (Nat×Nat×Path))(S:Nat→Bool)(s:List D):List D:=match hw with
  | some (i,r,q)=>if S i then holeS r q s else s
  | none=>s
def sig (E:List (DOp×D))(hw:Option (Nat×Nat×Path))(S:Nat→Bool)(s:List D):List D:=clr (clE S E) (hwS hw S (ovE S E s))
theorem hwS_len {hw S s}:(hwS hw S s).length=s.length:=by
  unfold hwS;split
  · split
    · exact hole_len
    · rfl
  · rfl
theorem place_app {Ctr:CtrT} {start hid cl:List Bool} {A:List D} {sz bytes:Nat} {x y:Operand} {K:Nat→Path→D→Prop} (hy:∀ t,y=.tmp t→cl.getD t false=true) (hh:∀ r,hid.getD r false=true→start.getD r false=true) (h:placeK start (clr hid A) sz bytes x y K) :
    ∃ r q rows d0 rows0,start.getD r false=false∧A[r]?=some d0∧treeAt d0 q=some (.sl true sz rows0)∧K r q (.sl true sz rows)∧evalK Ctr A (.app sz bytes x y) fun d' s'=>d'=.sl true sz rows∧clr cl s'=clr cl (holeS r q A):=by
  -- what a slot of the view says of the slot
  have slot:∀ (X:List D) (t:Nat) (d:D),(clr hid X)[t]?=some d→d=.undef∨(hid.getD t false=false∧∃ e,X[t]?=some e∧d=e.prune (keepQ hid)):=by
    intro X t d h;rw [clr_get] at h;cases hX:X[t]? with
    | none=>simp [hX] at h
    | some e =>
      simp only [hX,Option.map_some,Option.some.injEq] at h;split at h
      · exact .inl h.symm
      · rename_i hn;exact .inr ⟨by simpa using hn,e,rfl,h.symm⟩
  have pref:∀ (e:D) (r:Nat) (q:Path),e.prune (keepQ hid)=.ref r q→e=.ref r q:=by
    intro e r q h;cases e with
    | ref r p=>simp only [D.prune] at h;split at h<;>first | exact h | cases h
    | ptr r p i j=>simp only [D.prune] at h;split at h<;>cases h
    | sub r p i n=>simp only [D.prune] at h;split at h<;>cases h
    | _=>simp [D.prune] at h
  have tkref:∀ (X:List D) (x:Operand) (r:Nat) (q:Path),(tk (clr hid X) x).1=.ref r q→tk X x=(.ref r q,X):=by
    intro X x r q h;cases x with
    | tmp t =>
      simp only [tk,tkT] at h ⊢;cases hs:(clr hid X)[t]? with
      | none=>simp [hs] at h
      | some d =>
        simp only [hs] at h;have hd:d=.ref r q:=by
          cases d with
          | sl own sz rows=>cases own<;>simp at h
          | box tag cells=>simp at h
          | _=>simpa using h
        subst hd;rcases slot X t _ hs with h' | ⟨_,e,h1,h2⟩
        · cases h'
        · rw [h1,pref e r q h2.symm];rfl
    | const v=>simp only [tk,lk,ofV] at h;split at h<;>first | (split at h<;>simp at h;done) | (simp at h;done) | (unfold ofC at h;split at h<;>simp at h)
    | func f=>simp [tk,lk] at h
    | global g=>simp [tk,lk] at h
  have psub:∀ (e:D) (r:Nat) (q:Path) (i n:Nat),e.prune (keepQ hid)=.sub r q i n→e=.sub r q i n:=by
    intro e r q i n h;cases e with
    | ref r p=>simp only [D.prune] at h;split at h<;>cases h
    | ptr r p i j=>simp only [D.prune] at h;split at h<;>cases h
    | sub r p i n=>simp only [D.prune] at h;split at h<;>first | exact h | cases h
    | _=>simp [D.prune] at h
  have tksub:∀ (X:List D) (x:Operand) (r:Nat) (q:Path) (i n:Nat),(tk (clr hid X) x).1=.sub r q i n→tk X x=(.sub r q i n,X):=by
    intro X x r q i n h;cases x with
    | tmp t =>
      simp only [tk,tkT] at h ⊢;cases hs:(clr hid X)[t]? with
      | none=>simp [hs] at h
      | some d =>
        simp only [hs] at h;have hd:d=.sub r q i n:=by
          cases d with
          | sl own sz rows=>cases own<;>simp at h
          | box tag cells=>simp at h
          | _=>simpa using h
        subst hd;rcases slot X t _ hs with h' | ⟨_,e,h1,h2⟩
        · cases h'
        · rw [h1,psub e r q i n h2.symm];rfl
    | const v=>simp only [tk,lk,ofV] at h;split at h<;>first | (split at h<;>simp at h;done) | (simp at h;done) | (unfold ofC at h;split at h<;>simp at h)
    | func f=>simp [tk,lk] at h
    | global g=>simp [tk,lk] at h
  have own1:∀ (X:List D) (r:Nat) (q:Path) (d:D) (sz:Nat) (rows:List (List D)),(clr hid X)[r]?=some d→treeAt d q=some (.sl true sz rows)→∃ e,X[r]?=some e∧hid.getD r false=false∧treeAt e q=some (.sl true sz rows):=by
    intro X r q d sz rows h1 h2;rcases slot X r _ h1 with rfl | ⟨hr,e,h3,rfl⟩
    · exact (treeAt_undef q _ _ h2 rfl).elim
    · obtain ⟨t,q',m1,m2⟩:=tree_prune_rev q e _ h2;have:t=.sl true sz rows:=by
        cases t with
        | sl own z r=>simpa [D.prune,eq_comm] using m2
        | ref r p=>simp only [D.prune] at m2;split at m2<;>cases m2
        | ptr r p i j=>simp only [D.prune] at m2;split at m2<;>cases m2
        | sub r p i n=>simp only [D.prune] at m2;split at m2<;>cases m2
        | _=>simp [D.prune] at m2
      subst this;exact ⟨e,h3,hr,m1⟩
  unfold placeK at h;split at h
  · rename_i r q ex;obtain ⟨hst,h⟩:=h;have hX:=tkref A x r q ex;unfold stealK at h;split at h
    · rename_i d1 hd1;split at h
      · rename_i sz' rows0 ht;simp only at h;obtain ⟨rfl,h⟩:=h;obtain ⟨d0,hA,hhr,ht0⟩:=own1 A r q d1 sz' rows0 hd1 ht;have hV1:(pruneL (notThrough r q) (clr hid A)).set r (setAt (d1.prune (notThrough r q)) q .undef)=clr hid (holeS r q A):=by rw [← hole_clr hhr];unfold holeS;rw [hd1]
        rw [hV1] at h;generalize hXX:holeS r q A=X at h;have fin:∀ (rows:List (List D)) (s2:List D),clr cl s2=clr cl X→addK X sz' y (fun more s'=>more=rows∧s'=s2)→(rows0.length+rows.length)*(bytes+1)≤2 ^ 40→evalK Ctr A (.app sz' bytes x y) fun d' s'=>d'=.sl true sz' (rows0++rows)∧clr cl s'=clr cl X:=by
          intro rows s2 hs2 hadd hb;simp only [evalK,growK];rw [hX];simp only [stealK,hA,ht0];refine ⟨trivial,?_⟩;have he:(pruneL (notThrough r q) A).set r (setAt (d0.prune (notThrough r q)) q .undef)=X:=by rw [← hXX];unfold holeS;rw [hA]
          rw [he];refine addK_mono ?_ hadd;rintro m s ⟨rfl,rfl⟩;exact ⟨hb,rfl,hs2⟩
        have hpr:∀ (t:Nat),y=.tmp t→t<X.length→clr cl ((pruneL (notRoot t) X).set t .undef)=clr cl X:=by
          intro t ht hlt;have hcl:=hy t ht;apply List.ext_getElem?;intro j;rw [clr_get,clr_get];by_cases hj:j=t
          · subst hj;rw [List.getElem?_set_self (by rw [pruneL_len];exact hlt),List.getElem?_eq_getElem hlt];simp only [Option.map_some,hcl,if_true]
          · rw [List.getElem?_set_ne (Ne.symm hj),pruneL_get];cases X[j]? with
            | none=>rfl
            | some e =>
              simp only [Option.map_some,D.prune_prune];have:e.prune (fun x=>notRoot t x&&keepQ cl x)=e.prune (keepQ cl):=prune_congr (fun z=>by
                cases z with
                | ref r' p =>
                  simp only [notRoot,keepQ];by_cases hr:r'=t
                  · subst hr;simp only [hcl];simp
                  · simp [hr]
                | ptr r' p i j =>
                  simp only [notRoot,keepQ];by_cases hr:r'=t
                  · subst hr;simp only [hcl];simp
                  · simp [hr]
                | sub r' p i n =>
                  simp only [notRoot,keepQ];by_cases hr:r'=t
                  · subst hr;simp only [hcl];simp
                  · simp [hr]
                | _=>rfl) e
              rw [this]
        -- what is added
        have slY:∀ (t:Nat) (own:Bool) (sz2:Nat) (rows:List (List D)),(tk (clr hid X) (.tmp t)).1=.sl own sz2 rows→X[t]?=some (.sl own sz2 rows):=by
          intro t own sz2 rows e;simp only [tk,tkT] at e;cases hs:(clr hid X)[t]? with
          | none=>simp [hs] at e
          | some d =>
            simp only [hs] at e;have hd:d=.sl own sz2 rows:=by
              cases d with
              | sl own' sz rows=>cases own' <;> simpa using e
              | box tag cells=>simp at e
              | _=>simpa using e
            subst hd;rcases slot X t _ hs with h' | ⟨_,e',h1,h2⟩
            · cases h'
            · obtain ⟨rr,hrr⟩:∃ rr,e'=.sl own sz2 rr:=by
                cases e' with
                | sl o z r=>simp only [D.prune,D.sl.injEq] at h2;obtain ⟨rfl,rfl,rfl⟩:=h2;exact ⟨_,rfl⟩
                | ref r p=>simp only [D.prune] at h2;split at h2<;>cases h2
                | ptr r p i j=>simp only [D.prune] at h2;split at h2<;>cases h2
                | sub r p i n=>simp only [D.prune] at h2;split at h2<;>cases h2
                | _=>simp [D.prune] at h2
              subst hrr;simp only [D.prune,D.sl.injEq] at h2;rw [h1,h2.2.2]
        have noSl:∀ (y:Operand) (own:Bool) (sz2:Nat) (rows:List (List D)),(tk (clr hid X) y).1=.sl own sz2 rows→∃ t,y=.tmp t:=by
          intro y own sz2 rows e;cases y with
          | tmp t=>exact ⟨t,rfl⟩
          | const v=>simp only [tk,lk,ofV] at e;split at e<;>first | (split at e<;>simp at e;done) | (simp at e;done) | (unfold ofC at e;split at e<;>simp at e)
          | func f=>simp [tk,lk] at e
          | global g=>simp [tk,lk] at e
        unfold addK at h;split at h
        · rename_i sz2 rows e;obtain ⟨h1,h2,h3⟩:=h;obtain ⟨t,rfl⟩:=noSl y _ _ _ e;have hXt:=slY t _ _ _ e;have htk:tk X (.tmp t)=(.sl true sz2 rows,(pruneL (notRoot t) X).set t .undef):=by simp [tk,tkT,hXt]
          refine ⟨r,q,rows0++rows,d0,rows0,hst,hA,ht0,h3,?_⟩;rw [← hXX] at *;exact fin rows _ (hpr t rfl (List.getElem?_eq_some_iff.1 hXt).1) (by unfold addK;rw [htk];exact ⟨h1,rfl,rfl⟩) h2
        · rename_i sz2 rows e;obtain ⟨h1,h2,h3⟩:=h;obtain ⟨t,rfl⟩:=noSl y _ _ _ e;have hXt:=slY t _ _ _ e;have htk:tk X (.tmp t)=(.sl false sz2 rows,X):=by simp [tk,tkT,hXt,D.owny]
          refine ⟨r,q,rows0++rows,d0,rows0,hst,hA,ht0,h3,?_⟩;rw [← hXX] at *;exact fin rows _ rfl (by unfold addK;rw [htk];exact ⟨h1,rfl,rfl⟩) h2
        · rename_i e;obtain ⟨h2,h3⟩:=h;have htk:tk X y=(.nils,X):=by
            cases y with
            | tmp t =>
              simp only [tk,tkT] at e ⊢;cases hs:(clr hid X)[t]? with
              | none=>simp [hs] at e
              | some d =>
                simp only [hs] at e;have hd:d=.nils:=by
                  cases d with
                  | sl own' sz rows=>cases own' <;> simp at e
                  | box tag cells=>simp at e
                  | _=>simpa using e
                subst hd;rcases slot X t _ hs with h' | ⟨_,e',h1,h2⟩
                · cases h'
                · have:e'=.nils:=by
                    cases e' with
                    | nils=>rfl
                    | ref r p=>simp only [D.prune] at h2;split at h2<;>cases h2
                    | ptr r p i j=>simp only [D.prune] at h2;split at h2<;>cases h2
                    | sub r p i n=>simp only [D.prune] at h2;split at h2<;>cases h2
                    | _=>simp [D.prune] at h2
                  rw [h1,this];simp [D.owny]
            | const v=>simp only [tk] at e ⊢;rw [show lk (clr hid X) (.const v)=lk X (.const v) from rfl] at e;rw [e]
            | func f=>simp [tk,lk] at e
            | global g=>simp [tk,lk] at e
          refine ⟨r,q,rows0++[],d0,rows0,hst,hA,ht0,h3,?_⟩;rw [← hXX] at *;exact fin [] _ rfl (by unfold addK;rw [htk];exact ⟨rfl,rfl⟩) h2
        · rename_i r2 q2 e;split at h
          · rename_i sz2 rows e1;obtain ⟨h1,hno,h2,h3⟩:=h;have htk:=tkref X y r2 q2 e;have hsl:slAt X (.ref r2 q2)=some (sz2,rows):=by
              simp only [slAt] at e1 ⊢;cases hs:(clr hid X)[r2]? with
              | none=>simp [hs] at e1
              | some d =>
                simp only [hs] at e1;split at e1
                · rename_i ht2;simp only [Option.some.injEq,Prod.mk.injEq] at e1;obtain ⟨rfl,rfl⟩:=e1;obtain ⟨e',k1,_,k2⟩:=own1 X r2 q2 d _ _ hs ht2;rw [k1];simp only [k2]
                · cases e1
            refine ⟨r,q,rows0++rows,d0,rows0,hst,hA,ht0,h3,?_⟩;rw [← hXX] at *;exact fin rows _ rfl (by unfold addK;rw [htk];simp only [hsl];exact ⟨h1,hno,trivial,trivial⟩) h2
          · exact h.elim
        · rename_i r2 q2 i2 n2 e;split at h
          · rename_i sz2 rows e1;obtain ⟨h1,hno,h2,h3⟩:=h;have htk:=tksub X y r2 q2 i2 n2 e;have hsl:slAt X (.sub r2 q2 i2 n2)=some (sz2,rows):=by
              simp only [slAt] at e1 ⊢;cases hs:(clr hid X)[r2]? with
              | none=>simp [hs] at e1
              | some d =>
                simp only [hs] at e1;split at e1
                · rename_i ht2;obtain ⟨e',k1,_,k2⟩:=own1 X r2 q2 d _ _ hs ht2;rw [k1];simp only [k2];exact e1
                · cases e1
            refine ⟨r,q,rows0++rows,d0,rows0,hst,hA,ht0,h3,?_⟩;rw [← hXX] at *;exact fin rows _ rfl (by unfold addK;rw [htk];simp only [hsl];exact ⟨h1,hno,trivial,trivial⟩) h2
          · exact h.elim
        · exact h.elim
      · exact h.elim
      · exact h.elim
    · exact h.elim
  · exact h.elim
end Go.V
namespace Go.V
open Go.RowKit
/-! ### Which operations come before which -/
def befStep (acc:List Nat)(o:Oper):Nat:=o.after.toList.foldl (fun m e=>if Region.binds .any e then m ||| (1 <<< e.on) ||| acc.getD e.on 0 else m) 0
def befGo:List Oper→List Nat→List Nat
  | [],acc=>acc
  | o::os,acc=>befGo os (acc++[befStep acc o])
def befs (ops:Array Oper):List Nat:=befGo ops.toList []
theorem befStep_spec {acc:List Nat} {x:Nat}:∀ (l:List Edge) (m:Nat),(l.foldl (fun m e=>if Region.binds .any e then m ||| (1 <<< e.on) ||| acc.getD e.on 0 else m) m).testBit x=true→m.testBit x=true∨∃ e∈l,Region.binds .any e=true∧(x=e.on∨(acc.getD e.on 0).testBit x=true)
  | [],m,h=>.inl h
  | e :: l,m,h=>by
    simp only [List.foldl_cons] at h;rcases befStep_spec l _ h with h | ⟨e',h1,h2⟩
    · split at h
      · rename_i hb;simp only [Nat.testBit_or,Bool.or_eq_true] at h;rcases h with (h | h) | h
        · exact .inl h
        · refine .inr ⟨e,by simp,hb,.inl ?_⟩;rw [Nat.one_shiftLeft,Nat.testBit_two_pow] at h;simpa [eq_comm] using h
        · exact .inr ⟨e,by simp,hb,.inr h⟩
      · exact .inl h
    · exact .inr ⟨e',by simp [h1],h2⟩
theorem befGo_pre:∀ (l:List Oper) (acc:List Nat) (k:Nat),k<acc.length→(befGo l acc).getD k 0=acc.getD k 0
  | [],acc,k,_=>rfl
  | o::l,acc,k,h=>by simp only [befGo];rw [befGo_pre l _ k (by simp;omega)];simp only [List.getD_eq_getElem?_getD];rw [List.getElem?_append_left h]
theorem befGo_spec:∀ (l:List Oper) (acc:List Nat) (k x:Nat),acc.length≤k→((befGo l acc).getD k 0).testBit x=true→∃ o,l[k-acc.length]?=some o∧∃ e∈o.after.toList,Region.binds .any e=true∧(x=e.on∨((befGo l acc).getD e.on 0).testBit x=true)
  | [],acc,k,x,hk,h=>by simp only [befGo,List.getD_eq_getElem?_getD] at h;rw [List.getElem?_eq_none (by omega)] at h;simp at h
  | o :: l,acc,k,x,hk,h=>by
    simp only [befGo] at h ⊢;by_cases hk':k=acc.length
    · subst hk';rw [befGo_pre l _ _ (by simp)] at h;simp only [List.getD_eq_getElem?_getD] at h;rw [List.getElem?_append_right (Nat.le_refl _)] at h;simp only [Nat.sub_self,List.getElem?_cons_zero,Option.getD_some] at h;refine ⟨o,by simp,?_⟩;rcases befStep_spec _ _ h with h | ⟨e,h1,h2,h3⟩
      · simp at h
      · refine ⟨e,h1,h2,h3.imp_right (fun h=>?_)⟩;have hlt:e.on<acc.length:=by apply Nat.lt_of_not_le;intro hle;simp only [List.getD_eq_getElem?_getD] at h;rw [List.getElem?_eq_none hle] at h;simp at h
        rw [befGo_pre l _ _ (by simp;omega)];simp only [List.getD_eq_getElem?_getD] at h ⊢;rw [List.getElem?_append_left hlt];exact h
    · obtain ⟨o',h1,h2⟩:=befGo_spec l _ k x (by simp;omega) h;refine ⟨o',?_,h2⟩;rw [List.length_append,List.length_singleton] at h1;rw [show k-acc.length=(k-(acc.length+1))+1 by omega,List.getElem?_cons_succ];exact h1
theorem befs_spec {ops:Array Oper}{k x:Nat}(h:((befs ops).getD k 0).testBit x=true):∃ o,ops[k]?=some o∧∃ e∈o.after.toList,Region.binds .any e=true∧(x=e.on∨((befs ops).getD e.on 0).testBit x=true):=by obtain ⟨o,h1,h2⟩:=befGo_spec ops.toList [] k x (Nat.zero_le _) h;exact ⟨o,by simpa using h1,h2⟩
def subM:List Bool→List Bool→Bool
  | [],_=>true
  | x::a,[]=>!x&&subM a []
  | x::a,y::b=>(!x||y)&&subM a b
theorem subM_spec:∀ (a b:List Bool),subM a b=true→∀ r,a.getD r false=true→b.getD r false=true
  | [],b,_,r,h=>by simp at h
  | x::a,[],h,r,hr=>by
    simp only [subM,Bool.and_eq_true,Bool.not_eq_true'] at h;cases r with
    | zero=>simp [h.1] at hr
    | succ r=>have:=subM_spec a [] h.2 r (by simpa using hr);simp at this
  | x :: a,y::b,h,r,hr=>by
    simp only [subM,Bool.and_eq_true,Bool.or_eq_true,Bool.not_eq_true'] at h;cases r with
    | zero =>
      rcases h.1 with h1 | h1
      · simp [h1] at hr
      · simpa using h1
    | succ r=>have:=subM_spec a b h.2 r (by simpa using hr);simpa using this
def okE (ops:Array Oper)(H:List DOp)(bs:List Nat)(start:List Bool)(nh:Nat)(pre:List Nat)(o:DOp):Bool :=
  (match o.vo.dst with | some t=>start.getD t false | none=>true)&&subM o.hid start &&
  H.all (fun e=>match e.vo.dst with | none=>true | some t=>o.hid.getD t false||(pre.contains e.idx&&(bs.getD o.idx 0).testBit e.idx)) &&
  (match ops[o.idx]? with | some op=>op.after.toList.all (fun ed=>!Region.binds .any ed||pre.contains ed.on) | none=>false) &&
  H.all (fun k=>k.idx==o.idx||(bs.getD o.idx 0).testBit k.idx||subM o.cl k.hid) &&
  (List.range o.cl.length).all (fun r=>!o.cl.getD r false||H.any (fun e=>e.vo.dst==some r&&(bs.getD o.idx 0).testBit e.idx)) &&
  decide (o.idx<nh)&&!pre.contains o.idx&&H.all (fun e=>e.idx==o.idx||e.vo.dst != o.vo.dst||e.vo.dst.isNone)
def okL (ops:Array Oper)(H:List DOp)(bs:List Nat)(start:List Bool)(nh:Nat):List Nat→List DOp→Bool
  | _,[]=>true
  | pre,o::R=>okE ops H bs start nh pre o&&okL ops H bs start nh (o.idx::pre) R
structure OkE (ops:Array Oper) (E:List (DOp×D)) (start:List Bool) (nh:Nat) (P:List (DOp×D)) (o:DOp):Prop where
  dst:∀ t,o.vo.dst=some t→start.getD t false=true
  hid:∀ r,o.hid.getD r false=true→start.getD r false=true
  vis:∀ e∈E,∀ t,e.1.vo.dst=some t→o.hid.getD t false=true∨((∃ p∈P,p.1.idx=e.1.idx)∧((befs ops).getD o.idx 0).testBit e.1.idx=true)
  edge:∃ op,ops[o.idx]?=some op∧∀ ed∈op.after.toList,Region.binds .any ed=true→∃ p∈P,p.1.idx=ed.on
  cl:∀ k∈E,k.1.idx=o.idx∨((befs ops).getD o.idx 0).testBit k.1.idx=true∨∀ r,o.cl.getD r false=true→k.1.hid.getD r false=true
  cld:∀ r,o.cl.getD r false=true→∃ e∈E,e.1.vo.dst=some r∧((befs ops).getD o.idx 0).testBit e.1.idx=true
  lt:o.idx<nh
  new:∀ p∈P,p.1.idx≠o.idx
  uniq:∀ e∈E,e.1.idx=o.idx∨e.1.vo.dst≠o.vo.dst∨e.1.vo.dst=none
theorem okE_spec {ops:Array Oper}{E P:List (DOp×D)}{start:List Bool}{nh:Nat}{pre:List Nat}{o:DOp}(hP:∀ i,pre.contains i=true→∃ p∈P,p.1.idx=i)(hP':∀ p∈P,pre.contains p.1.idx=true)(h:okE ops (E.map (·.1)) (befs ops) start nh pre o=true):OkE ops E start nh P o:=by
  simp only [okE,Bool.and_eq_true] at h;obtain ⟨⟨⟨⟨⟨⟨⟨⟨h1,h2⟩,h3⟩,h4⟩,h5⟩,h6⟩,h7⟩,h8⟩,h9⟩:=h;rw [List.all_eq_true] at h3 h5 h6 h9;refine ⟨fun t ht=>by rw [ht] at h1;exact h1,subM_spec _ _ h2,fun e he t ht=>?_,?_,fun k hk=>?_,fun r hr=>?_,by simpa using h7,fun p hp he=>?_,fun e he=>?_⟩
  · have:=h3 e.1 (List.mem_map.2 ⟨e,he,rfl⟩);rw [ht] at this;simp only [Bool.or_eq_true,Bool.and_eq_true] at this;exact this.imp_right (fun h=>⟨hP _ h.1,h.2⟩)
  · split at h4
    · rename_i op hop;refine ⟨op,hop,fun ed hed hb=>?_⟩;rw [List.all_eq_true] at h4;have:=h4 ed hed;rw [hb] at this;exact hP _ (by simpa using this)
    · cases h4
  · have:=h5 k.1 (List.mem_map.2 ⟨k,hk,rfl⟩);simp only [Bool.or_eq_true,beq_iff_eq] at this;rcases this with (h | h) | h
    · exact .inl h
    · exact .inr (.inl h)
    · exact .inr (.inr (subM_spec _ _ h))
  · have hlt:r<o.cl.length:=(by apply Nat.lt_of_not_le;intro hle;rw [List.getD_eq_getElem?_getD,List.getElem?_eq_none hle] at hr;cases hr);have:=h6 r (by simpa using hlt);rw [hr] at this;simp only [Bool.not_true,Bool.false_or,List.any_eq_true,Bool.and_eq_true,beq_iff_eq] at this;obtain ⟨x,hx,h1,h2⟩:=this;obtain ⟨e,he,rfl⟩:=List.mem_map.1 hx;exact ⟨e,he,h1,h2⟩
  · have:=hP' p hp;rw [he] at this;rw [this] at h8;cases h8
  · have:=h9 e.1 (List.mem_map.2 ⟨e,he,rfl⟩);simp only [Bool.or_eq_true,beq_iff_eq,bne_iff_ne] at this;rcases this with (h | h) | h
    · exact .inl h
    · exact .inr (.inl h)
    · exact .inr (.inr (by simpa using h))
theorem okL_spec {ops:Array Oper} {E:List (DOp×D)} {start:List Bool} {nh:Nat}:∀ (L:List (DOp×D)) (pre:List Nat) (P0:List (DOp×D)),(∀ i,pre.contains i=true→∃ p∈P0,p.1.idx=i)→(∀ p∈P0,pre.contains p.1.idx=true)→okL ops (E.map (·.1)) (befs ops) start nh pre (L.map (·.1))=true →
    ∀ P e R,L=P++e::R→OkE ops E start nh (P0++P) e.1
  | [],_,_,_,_,_,P,e,R,h=>by simp at h
  | x :: L,pre,P0,hP,hP',hok,P,e,R,h=>by
    simp only [List.map_cons,okL,Bool.and_eq_true] at hok;cases P with
    | nil=>simp only [List.nil_append,List.cons.injEq] at h;obtain ⟨rfl,rfl⟩:=h;rw [List.append_nil];exact okE_spec hP hP' hok.1
    | cons y P =>
      simp only [List.cons_append,List.cons.injEq] at h;obtain ⟨rfl,h⟩:=h;have:=okL_spec L (x.1.idx::pre) (P0++[x]) (fun i hi=>?_) (fun p hp=>?_) hok.2 P e R h
      · rw [List.append_assoc] at this;exact this
      · simp only [List.contains_cons,Bool.or_eq_true,beq_iff_eq] at hi;rcases hi with rfl | hi
        · exact ⟨x,by simp,rfl⟩
        · obtain ⟨p,h1,h2⟩:=hP i hi;exact ⟨p,by simp [h1],h2⟩
      · simp only [List.contains_cons,Bool.or_eq_true,beq_iff_eq];rcases List.mem_append.1 hp with hp | hp
        · exact .inr (hP' p hp)
        · simp only [List.mem_singleton] at hp;exact .inl (by rw [hp])
end Go.V
namespace Go.V
open Go.RowKit
def memP (P:List (DOp×D))(i:Nat):Bool:=P.any (fun e=>e.1.idx==i)
def rs (hw:Option (Nat×Nat×Path))(P:List (DOp×D))(s0:List D):List D:=hwS hw (memP P) (ovE (fun _=>true) P s0)
section
variable (Ctr:CtrT)
def EF (hw:Option (Nat×Nat×Path)) (start:List Bool) (s0:List D) (P:List (DOp×D)) (e:DOp×D):Prop :=
  match hw with
  | none=>e.1.vo.op.framed=true∧DF Ctr (clr e.1.hid (rs hw P s0)) e.1.cl e.1.vo e.2
  | some (iw,r,q) =>
    if e.1.idx=iw then ∃ sz bytes x y,e.1.vo.op=.app sz bytes x y∧e.1.vo.guard=none∧(∀ t,y=.tmp t→e.1.cl.getD t false=true)∧placeK start (clr e.1.hid (ovE (fun _=>true) P s0)) sz bytes x y (fun r' q' d'=>r'=r∧q'=q∧d'=e.2)
    else e.1.vo.op.framed=true∧DF Ctr (clr e.1.hid (rs hw P s0)) e.1.cl e.1.vo e.2
end
theorem memP_iff {P:List (DOp×D)}{i:Nat}:memP P i=true↔∃ p∈P,p.1.idx=i:=by simp [memP]
theorem sig_len {E hw S s}:(sig E hw S s).length=s.length:=by unfold sig;rw [clr_len,hwS_len,ovE_len]
theorem idx_pairwise {L:List (DOp×D)}:(∀ P e R,L=P++e::R→∀ p∈P,p.1.idx≠e.1.idx)→L.Pairwise (fun e e'=>e.1.idx≠e'.1.idx):=by
  induction L with
  | nil=>intro _;exact List.Pairwise.nil
  | cons x L ih=>intro h;rw [List.pairwise_cons];refine ⟨fun y hy=>?_,ih fun P e R hL p hp=>h (x::P) e R (by rw [hL];rfl) p (by simp [hp])⟩;obtain ⟨A,B,hAB⟩:=List.append_of_mem hy;exact h (x::A) y B (by rw [hAB];rfl) x (by simp)
theorem clE_false {S:Nat→Bool}{E:List (DOp×D)}{r:Nat}(h:∀ e∈E,S e.1.idx=true→e.1.cl.getD r false=false):(clE S E).getD r false=false:=by
  cases hc:(clE S E).getD r false with
  | false=>rfl
  | true=>obtain ⟨e,h1,h2,h3⟩:=(clE_get E).1 hc;rw [h e h1 h2] at h3;cases h3
theorem ovE_congr {S S':Nat→Bool}:∀ (E:List (DOp×D)) (s:List D),(∀ e∈E,S e.1.idx=S' e.1.idx)→ovE S E s=ovE S' E s
  | [],s,_=>rfl
  | e::E,s,h=>by simp only [ovE];rw [h e (by simp)];exact ovE_congr E _ (fun e' he'=>h e' (by simp [he']))
theorem clE_congr {S S':Nat→Bool}:∀ (E:List (DOp×D)),(∀ e∈E,S e.1.idx=S' e.1.idx)→clE S E=clE S' E
  | [],_=>rfl
  | e::E,h=>by simp only [clE];rw [h e (by simp),clE_congr E (fun e' he'=>h e' (by simp [he']))]
theorem first_split {α:Type} {p:α→Prop} [DecidablePred p]:∀ (L:List α),(∃ x∈L,p x)→∃ P x R,L=P++x::R∧p x∧∀ y∈P,¬ p y
  | [],h=>by obtain ⟨_,h,_⟩:=h;cases h
  | x :: L,h=>by
    by_cases hx:p x
    · exact ⟨[],x,L,rfl,hx,fun _ h=>by cases h⟩
    · obtain ⟨y,hy,hp⟩:=h;rcases List.mem_cons.1 hy with rfl | hy
      · exact absurd hp hx
      · obtain ⟨P,z,R,h1,h2,h3⟩:=first_split L ⟨y,hy,hp⟩;refine ⟨x::P,z,R,by rw [h1];rfl,h2,fun w hw=>?_⟩;rcases List.mem_cons.1 hw with rfl | hw
        · exact hx
        · exact h3 w hw
def cnt (S:Nat→Bool):Nat→Nat
  | 0=>0
  | n+1=>cnt S n+(if S n then 0 else 1)
theorem cnt_zero {S:Nat→Bool}:∀ {n:Nat},cnt S n=0→∀ i,i<n→S i=true
  | n + 1,h,i,hi=>by
    simp only [cnt] at h;have h1:cnt S n=0:=by omega
    by_cases e:i=n
    · subst e;cases hS:S i with
      | true=>rfl
      | false=>simp [hS] at h
    · exact cnt_zero h1 i (by omega)
theorem cnt_all {S:Nat→Bool}:∀ {n:Nat},(∀ i,i<n→S i=true)→cnt S n=0
  | 0,_=>rfl
  | n+1,h=>by have ih:=cnt_all (S:=S) (n:=n) (fun i hi=>h i (by omega));simp [cnt,ih,h n (by omega)]
theorem cnt_same {S S':Nat→Bool}:∀ {n:Nat},(∀ i,i<n→S i=S' i)→cnt S n=cnt S' n
  | 0,_=>rfl
  | n+1,h=>by have ih:=cnt_same (S:=S) (S':=S') (n:=n) (fun i hi=>h i (by omega));simp [cnt,ih,h n (by omega)]
theorem cnt_set {S S':Nat→Bool}{i:Nat}(hi:S i=false)(hi':S' i=true)(h:∀ j,j≠i→S' j=S j):∀ {n:Nat},i<n→cnt S' n+1=cnt S n
  | n+1,hlt=>by
    simp only [cnt];by_cases e:i=n
    · subst e;rw [hi,hi',cnt_same (S:=S') (S':=S) (fun j hj=>h j (by omega))];simp
    · have:=cnt_set hi hi' h (n:=n) (by omega);rw [h n (by omega)];omega
section
variable {ops:Array Oper} {E:List (DOp×D)} {start:List Bool} {nh:Nat} {hw:Option (Nat×Nat×Path)} {s0:List D}
def Closed (ops:Array Oper)(S:Nat→Bool):Prop:=∀ j x,S j=true→((befs ops).getD j 0).testBit x=true→S x=true
structure Setup (ops:Array Oper) (E:List (DOp×D)) (start:List Bool) (nh:Nat) (hw:Option (Nat×Nat×Path)) (s0:List D):Prop where
  ok:∀ P e R,E=P++e::R→OkE ops E start nh P e.1
  zero:∀ r,start.getD r false=true→s0[r]?=some .undef∨s0[r]?=none
  place:∀ iw r q,hw=some (iw,r,q)→start.getD r false=false∧(∃ d0 sz rows,s0[r]?=some d0∧treeAt d0 q=some (.sl true sz rows))∧(∃ e∈E,e.1.idx=iw)∧∀ P e R,E=P++e::R→e.1.idx=iw→∀ p∈P,((befs ops).getD iw 0).testBit p.1.idx=true
theorem Setup.idx (h:Setup ops E start nh hw s0):E.Pairwise (fun e e'=>e.1.idx≠e'.1.idx):=idx_pairwise fun P e R hE=>(h.ok P e R hE).new
theorem Setup.same (h:Setup ops E start nh hw s0){e e':DOp×D}(he:e∈E)(he':e'∈E)(hi:e.1.idx=e'.1.idx):e=e':=by
  have hp:=h.idx;generalize E=L at he he' hp;clear h;induction L with
  | nil=>cases he
  | cons x L ih =>
    rw [List.pairwise_cons] at hp;rcases List.mem_cons.1 he with h1 | h1
    · rcases List.mem_cons.1 he' with h2 | h2
      · rw [h1,h2]
      · exact absurd (h1▸hi) (hp.1 e' h2)
    · rcases List.mem_cons.1 he' with h2 | h2
      · exact absurd (h2▸hi.symm) (hp.1 e h1)
      · exact ih h1 h2 hp.2
theorem Setup.dsts (h:Setup ops E start nh hw s0):E.Pairwise (fun e e'=>e.1.vo.dst=none∨e.1.vo.dst≠e'.1.vo.dst):=by
  have key:∀ L:List (DOp×D),(∀ x∈L,x∈E)→L.Pairwise (fun e e'=>e.1.idx≠e'.1.idx)→L.Pairwise (fun e e'=>e.1.vo.dst=none∨e.1.vo.dst≠e'.1.vo.dst):=by
    intro L;induction L with
    | nil=>intro _ _;exact List.Pairwise.nil
    | cons x L ih =>
      intro hL hp;rw [List.pairwise_cons] at hp ⊢;refine ⟨fun y hy=>?_,ih (fun z hz=>hL z (by simp [hz])) hp.2⟩;obtain ⟨A,B,hAB⟩:=List.append_of_mem (hL x (by simp));rcases (h.ok A x B hAB).uniq y (hL y (by simp [hy])) with h1 | h1 | h1
      · exact absurd h1.symm (hp.1 y hy)
      · exact .inr (Ne.symm h1)
      · cases hx:x.1.vo.dst with
        | none=>exact .inl rfl
        | some t=>exact .inr (by rw [h1];simp)
  exact key E (fun _ h=>h) h.idx
theorem Setup.agree (h:Setup ops E start nh hw s0){P:List (DOp×D)}{e:DOp×D}{R:List (DOp×D)}(hE:E=P++e::R){S:Nat→Bool}(hb:∀ x,((befs ops).getD e.1.idx 0).testBit x=true→S x=true)(r:Nat)(hr:e.1.hid.getD r false=false):(ovE S E s0)[r]?=(ovE (fun _=>true) P s0)[r]?:=by
  have ok:=h.ok P e R hE;have hp:=h.idx;have:ovE S E s0=ovE S (e::R) (ovE S P s0):=(by rw [hE,ovE_app]);rw [this,ovE_out]
  · refine ovE_agree P _ _ (fun p hp hd=>?_) rfl;rcases ok.vis p (by rw [hE];simp [hp]) r hd with h1 | ⟨_,h1⟩
    · rw [h1] at hr;cases hr
    · exact hb _ h1
  · intro e' he' hd;exfalso;rcases ok.vis e' (by rw [hE];simp at he' ⊢;exact .inr he') r hd with h1 | ⟨⟨p,hp1,hp2⟩,_⟩
    · rw [h1] at hr;cases hr
    · rw [hE,List.pairwise_append] at hp;exact hp.2.2 p hp1 e' he' hp2
theorem Setup.clE_hid (h:Setup ops E start nh hw s0){e:DOp×D}(he:e∈E){S:Nat→Bool}(hS:S e.1.idx=false)(hc:Closed ops S)(r:Nat)(hr:(clE S E).getD r false=true):e.1.hid.getD r false=true:=by
  obtain ⟨j,h1,h2,h3⟩:=(clE_get E).1 hr;obtain ⟨A,B,hAB⟩:=List.append_of_mem h1;rcases (h.ok A j B hAB).cl e he with h4 | h4 | h4
  · rw [← h4,hS] at h2;cases h2
  · rw [hc _ _ h2 h4] at hS;cases hS
  · exact h4 r h3
theorem Setup.hidStart (h:Setup ops E start nh hw s0){e:DOp×D}(he:e∈E)(r:Nat)(hr:start.getD r false=false):e.1.hid.getD r false=false:=by
  obtain ⟨A,B,hAB⟩:=List.append_of_mem he;cases hh:e.1.hid.getD r false with
  | false=>rfl
  | true=>rw [(h.ok A e B hAB).hid r hh] at hr;cases hr
theorem Setup.clStart (h:Setup ops E start nh hw s0){e:DOp×D}(he:e∈E)(r:Nat)(hr:start.getD r false=false):e.1.cl.getD r false=false:=by
  obtain ⟨A,B,hAB⟩:=List.append_of_mem he;cases hh:e.1.cl.getD r false with
  | false=>rfl
  | true=>obtain ⟨e',he',hd,_⟩:=(h.ok A e B hAB).cld r hh;obtain ⟨A',B',hAB'⟩:=List.append_of_mem he';rw [(h.ok A' e' B' hAB').dst r hd] at hr;cases hr
theorem Setup.clEStart (h:Setup ops E start nh hw s0){S:Nat→Bool}(r:Nat)(hr:start.getD r false=false):(clE S E).getD r false=false:=clE_false fun e he _=>h.clStart he r hr
theorem Setup.dstUndef (h:Setup ops E start nh hw s0) {e:DOp×D} (he:e∈E) {t:Nat} (ht:e.1.vo.dst=some t) {S:Nat→Bool} (hS:S e.1.idx=false):(sig E hw S s0)[t]?=some .undef∨(sig E hw S s0)[t]?=none:=by
  obtain ⟨A,B,hAB⟩:=List.append_of_mem he;have hst:=(h.ok A e B hAB).dst t ht;have h1:(ovE S E s0)[t]?=s0[t]?:=ovE_out E s0 fun e' he' hd=>by
    rcases (h.ok A e B hAB).uniq e' he' with h2 | h2 | h2
    · rw [h2];exact hS
    · exact absurd (hd.trans ht.symm) h2
    · rw [h2] at hd;cases hd
  have h2 : (hwS hw S (ovE S E s0))[t]?=some .undef∨(hwS hw S (ovE S E s0))[t]?=none:=by
    have h0:=h.zero t hst;rw [← h1] at h0;unfold hwS;cases hw with
    | none=>exact h0
    | some x =>
      obtain ⟨iw,r,q⟩:=x;simp only;split
      · obtain ⟨hr,⟨d0,sz,rows,k1,k2⟩,_⟩:=h.place iw r q rfl;have hne:t≠r:=fun e=>by rw [e,hr] at hst;cases hst
        cases hs:(ovE S E s0)[r]? with
        | none=>unfold holeS;rw [hs];exact h0
        | some d =>
          rw [hole_get hs,if_neg hne];rcases h0 with h0 | h0<;>rw [h0]
          · exact .inl (by simp [D.prune])
          · exact .inr rfl
      · exact h0
  unfold sig;rw [clr_get];rcases h2 with h2 | h2<;>rw [h2]
  · refine .inl ?_;simp only [Option.map_some,D.prune];split<;>rfl
  · exact .inr rfl
end
end Go.V
namespace Go.V
open Go.RowKit
def prW (hw:Option (Nat×Nat×Path))(S:Nat→Bool)(d:D):D:=match hw with
  | some (iw,r,q)=>if S iw then d.prune (notThrough r q) else d
  | none=>d
section
variable {ops:Array Oper} {E:List (DOp×D)} {start:List Bool} {nh:Nat} {hw:Option (Nat×Nat×Path)} {s0:List D} {S S':Nat→Bool} {e:DOp×D}
theorem Setup.cl_or (h:Setup ops E start nh hw s0)(he:e∈E)(hS':S' e.1.idx=true)(hne:∀ j,j≠e.1.idx→S' j=S j)(hS:S e.1.idx=false)(r:Nat):(clE S' E).getD r false=((clE S E).getD r false||e.1.cl.getD r false):=by
  rw [Bool.eq_iff_iff,Bool.or_eq_true,clE_get,clE_get];constructor
  · rintro ⟨e',h1,h2,h3⟩;by_cases hi:e'.1.idx=e.1.idx
    · rw [h.same h1 he hi] at h3;exact .inr h3
    · exact .inl ⟨e',h1,by rw [← hne _ hi];exact h2,h3⟩
  · rintro (⟨e',h1,h2,h3⟩ | h3)
    · refine ⟨e',h1,?_,h3⟩;rw [hne _ (fun hi=>by rw [hi,hS] at h2;cases h2)];exact h2
    · exact ⟨e,he,hS',h3⟩
theorem Setup.cl_dst (h:Setup ops E start nh hw s0)(he:e∈E)(hS:S e.1.idx=false)(hc:Closed ops S)(hb:∀ x,((befs ops).getD e.1.idx 0).testBit x=true→S x=true)(hS':S' e.1.idx=true)(hne:∀ j,j≠e.1.idx→S' j=S j){t:Nat}(ht:e.1.vo.dst=some t):(clE S' E).getD t false=false:=by
  apply clE_false;intro j hj hSj;obtain ⟨A,B,hAB⟩:=List.append_of_mem hj;obtain ⟨A',B',hAB'⟩:=List.append_of_mem he;cases hcl:j.1.cl.getD t false with
  | false=>rfl
  | true =>
    obtain ⟨e'',h1,h2,h3⟩:=(h.ok A j B hAB).cld t hcl;have hee:e''.1.idx=e.1.idx:=by
      rcases (h.ok A' e B' hAB').uniq e'' h1 with h4 | h4 | h4
      · exact h4
      · exact absurd (h2.trans ht.symm) h4
      · rw [h4] at h2;cases h2
    rw [hee] at h3;by_cases hji:j.1.idx=e.1.idx
    · rw [hji] at h3;have:=hb _ h3;rw [hS] at this;cases this
    · rw [hne _ hji] at hSj;have:=hc _ _ hSj h3;rw [hS] at this;cases this
theorem keepQ_or {m m1 m2:List Bool}(h:∀ r,m.getD r false=(m1.getD r false||m2.getD r false))(x:D):keepQ m x=(keepQ m1 x&&keepQ m2 x):=by
  cases x with
  | ref r p=>simp only [keepQ,h r,Bool.not_or]
  | ptr r p i j=>simp only [keepQ,h r,Bool.not_or]
  | sub r p i n=>simp only [keepQ,h r,Bool.not_or]
  | _=>rfl
theorem clr_or {m m1 m2:List Bool}(h:∀ r,m.getD r false=(m1.getD r false||m2.getD r false))(s:List D):clr m2 (clr m1 s)=clr m s:=by
  apply List.ext_getElem?;intro r;rw [clr_get,clr_get,clr_get,Option.map_map];cases s[r]? with
  | none=>rfl
  | some d=>simp only [Option.map_some,Function.comp_def,h r];cases m1.getD r false<;>cases m2.getD r false<;>simp [D.prune,D.prune_prune];exact prune_congr (fun x=>(keepQ_or h x).symm) d
theorem Setup.ov_ne (h:Setup ops E start nh hw s0)(he:e∈E)(hne:∀ j,j≠e.1.idx→S' j=S j){r:Nat}(hr:e.1.vo.dst≠some r):(ovE S' E s0)[r]?=(ovE S E s0)[r]? :=
  ovE_agree E _ _ (fun e' he' hd=>hne _ (fun hi=>hr (by rw [← h.same he' he hi];exact hd))) rfl
theorem Setup.put_eq (h:Setup ops E start nh hw s0) (he:e∈E) (hS:S e.1.idx=false) (hc:Closed ops S) (hb:∀ x,((befs ops).getD e.1.idx 0).testBit x=true→S x=true) (hS':S' e.1.idx=true) (hne:∀ j,j≠e.1.idx→S' j=S j) (hW:∀ iw r q,hw=some (iw,r,q)→e.1.idx≠iw) :
    setO (clr e.1.cl (sig E hw S s0)) e.1.vo.dst ((prW hw S e.2).prune (keepQ (clE S' E)))=sig E hw S' s0:=by
  unfold sig;rw [clr_or (fun r=>h.cl_or he hS' hne hS r)];have hX:∀ r,e.1.vo.dst≠some r→(hwS hw S' (ovE S' E s0))[r]?=(hwS hw S (ovE S E s0))[r]?:=by
    intro r hr;unfold hwS;cases hw with
    | none=>exact h.ov_ne he hne hr
    | some x =>
      obtain ⟨iw,r0,q⟩:=x;simp only;rw [hne iw (Ne.symm (hW iw r0 q rfl))];split
      · have hr0:e.1.vo.dst≠some r0:=fun hd=>by obtain ⟨A,B,hAB⟩:=List.append_of_mem he;have:=(h.ok A e B hAB).dst r0 hd;rw [(h.place iw r0 q rfl).1] at this;cases this
        have h1:=h.ov_ne he hne hr0;cases hs:(ovE S E s0)[r0]? with
        | none=>rw [hs] at h1;unfold holeS;rw [hs,h1];exact h.ov_ne he hne hr
        | some d=>rw [hs] at h1;rw [hole_get hs,hole_get h1,h.ov_ne he hne hr]
      · exact h.ov_ne he hne hr
  apply List.ext_getElem?;intro r;by_cases hr:e.1.vo.dst=some r
  · rw [hr,setO_eq,clr_get,clr_get,Option.map_map];have hcl:=h.cl_dst he hS hc hb hS' hne hr;have hov:=ovE_in (S:=S') E s0 e he h.dsts hr hS';have hlen:((hwS hw S (ovE S E s0))[r]?).isSome=(s0[r]?).isSome:=by rw [Bool.eq_iff_iff];simp only [isSome_getElem?,hwS_len,ovE_len]
    have hRHS:(hwS hw S' (ovE S' E s0))[r]?=(s0[r]?).map fun _=>prW hw S e.2:=by
      unfold hwS prW;cases hw with
      | none=>exact hov
      | some x =>
        obtain ⟨iw,r0,q⟩:=x;simp only;rw [hne iw (Ne.symm (hW iw r0 q rfl))];split
        · have hrr:r≠r0:=fun hd=>by obtain ⟨A,B,hAB⟩:=List.append_of_mem he;have:=(h.ok A e B hAB).dst r hr;rw [hd,(h.place iw r0 q rfl).1] at this;cases this
          cases hs:(ovE S' E s0)[r0]? with
          | none=>exfalso;obtain ⟨_,⟨d0,sz,rows,k1,_⟩,_⟩:=h.place iw r0 q rfl;have h1:r0<s0.length:=(List.getElem?_eq_some_iff.1 k1).1;have h2:(ovE S' E s0).length=s0.length:=ovE_len E s0;rw [List.getElem?_eq_none_iff] at hs;omega
          | some d=>rw [hole_get hs,if_neg hrr,hov];cases s0[r]? <;> rfl
        · exact hov
    rw [hRHS,Option.map_map];cases hs0:s0[r]? with
    | none =>
      rw [hs0] at hlen;cases hx:(hwS hw S (ovE S E s0))[r]? with
      | none=>rfl
      | some d=>rw [hx] at hlen;cases hlen
    | some d0 =>
      rw [hs0] at hlen;cases hx:(hwS hw S (ovE S E s0))[r]? with
      | none=>rw [hx] at hlen;cases hlen
      | some d=>simp only [Option.map_some,Function.comp_def,hcl,Bool.false_eq_true,if_false]
  · rw [setO_ne hr,clr_get,clr_get,hX r hr]
theorem Setup.put_eqW (h:Setup ops E start nh hw s0)(he:e∈E)(hS:S e.1.idx=false)(hc:Closed ops S)(hb:∀ x,((befs ops).getD e.1.idx 0).testBit x=true→S x=true)(hS':S' e.1.idx=true)(hne:∀ j,j≠e.1.idx→S' j=S j){r0:Nat}{q:Path}(hW:hw=some (e.1.idx,r0,q))(hown:∀ k:D→Bool,e.2.prune k=e.2) :
    setO (clr e.1.cl (holeS r0 q (sig E hw S s0))) e.1.vo.dst e.2=sig E hw S' s0:=by
  obtain ⟨hr0,⟨d0,sz,rows,k1,k2⟩,_⟩:=h.place _ r0 q hW;have e1:sig E hw S s0=clr (clE S E) (ovE S E s0):=(by unfold sig hwS;rw [hW];simp [hS]);have e2:sig E hw S' s0=clr (clE S' E) (holeS r0 q (ovE S' E s0)):=(by unfold sig hwS;rw [hW];simp [hS']);rw [e1,e2,hole_clr (h.clEStart r0 hr0),clr_or (fun r=>h.cl_or he hS' hne hS r)];have hdr:e.1.vo.dst≠some r0:=fun hd=>by obtain ⟨A,B,hAB⟩:=List.append_of_mem he;have:=(h.ok A e B hAB).dst r0 hd;rw [hr0] at this;cases this
  have hlt:r0<s0.length:=(List.getElem?_eq_some_iff.1 k1).1;obtain ⟨d,hs⟩:∃ d,(ovE S E s0)[r0]?=some d:=⟨_,List.getElem?_eq_getElem (by rw [ovE_len];exact hlt)⟩
  have hs':(ovE S' E s0)[r0]?=some d:=(by rw [h.ov_ne he hne hdr];exact hs);apply List.ext_getElem?;intro r;by_cases hr:e.1.vo.dst=some r
  · have hrr:r≠r0:=fun hd=>hdr (by rw [← hd];exact hr);rw [hr,setO_eq,clr_get,clr_get,Option.map_map,hole_get hs,hole_get hs',if_neg hrr,if_neg hrr,Option.map_map,Option.map_map];have hcl:=h.cl_dst he hS hc hb hS' hne hr;have hov:=ovE_in (S:=S') E s0 e he h.dsts hr hS';rw [hov];cases hs0:s0[r]? with
    | none=>have:(ovE S E s0)[r]?=none:=(by rw [List.getElem?_eq_none_iff] at hs0 ⊢;rw [ovE_len];exact hs0);rw [this];rfl
    | some dd =>
      obtain ⟨d2,hd2⟩:∃ d2,(ovE S E s0)[r]?=some d2:=⟨_,List.getElem?_eq_getElem (by rw [ovE_len];exact (List.getElem?_eq_some_iff.1 hs0).1)⟩
      rw [hd2];simp only [Option.map_some,Function.comp_def,hcl,Bool.false_eq_true,if_false,hown]
  · rw [setO_ne hr,clr_get,clr_get,hole_get hs,hole_get hs',h.ov_ne he hne hr]
end
end Go.V
namespace Go.V
open Go.RowKit
def qW (hw:Option (Nat×Nat×Path))(S:Nat→Bool):D→Bool:=match hw with
  | some (iw,r,q)=>fun x=>if S iw then notThrough r q x else true
  | none=>fun _=>true
theorem prW_eq (hw:Option (Nat×Nat×Path))(S:Nat→Bool)(d:D):prW hw S d=d.prune (qW hw S):=by
  unfold prW qW;cases hw with
  | none=>exact (D.prune_yes d).symm
  | some x =>
    obtain ⟨iw,r,q⟩:=x;simp only;cases S iw with
    | true=>simp
    | false=>simp [D.prune_yes]
theorem putD_undef {s:List D}{t:Nat}{d:D}(h:s[t]?=some .undef∨s[t]?=none):putD s t d=s.set t d:=by unfold putD;rcases h with h | h<;>rw [h]
section
variable {P:Program} {G:World→(Nat→Prop)→Prop} {w0:Base} {I0:Nat→Prop} {ops:Array Oper} {E:List (DOp×D)} {start:List Bool} {nh:Nat} {hw:Option (Nat×Nat×Path)} {s0:List D} {S S':Nat→Bool} {e:DOp×D} {Pre R:List (DOp×D)}
theorem Setup.view (h:Setup ops E start nh hw s0) (hE:E=Pre++e::R) (hS:S e.1.idx=false) (hc:Closed ops S) (hb:∀ x,((befs ops).getD e.1.idx 0).testBit x=true→S x=true) (hW:∀ iw r q,hw=some (iw,r,q)→e.1.idx≠iw) {a:Act} {w:World} {I:Nat→Prop} {Fs:Nat→List Nat} (hR:RelI w0 I0 (sig E hw S s0) a.tmps w I Fs) :
    ∃ Fv,RelI w0 I0 (clr e.1.hid (rs hw Pre s0)) a.tmps w I Fv∧(∀ r b,b∈Fv r→b∈Fs r)∧∀ tm w' x u,ρS (clr e.1.cl (clr e.1.hid (rs hw Pre s0))) tm w' x u→ρS (clr e.1.cl (sig E hw S s0)) tm w' x u:=by
  have he:e∈E:=(by rw [hE];simp);have hag:=fun r hr=>h.agree hE hb r hr;have hlen:∀ S P,(ovE S E s0).length=(ovE (fun _=>true) P s0).length:=fun S P=>by rw [ovE_len,ovE_len]
  have plain:clr e.1.hid (rs hw Pre s0)=clr e.1.hid (sig E hw S s0)→∃ Fv,RelI w0 I0 (clr e.1.hid (rs hw Pre s0)) a.tmps w I Fv∧(∀ r b,b∈Fv r→b∈Fs r)∧∀ tm w' x u,ρS (clr e.1.cl (clr e.1.hid (rs hw Pre s0))) tm w' x u→ρS (clr e.1.cl (sig E hw S s0)) tm w' x u:=by
    intro heq;rw [heq];refine ⟨_,hR.clr e.1.hid,fun r b hb=>?_,fun tm w' x u hx=>?_⟩
    · split at hb
      · cases hb
      · exact hb
    · rw [clr_comm] at hx;exact hx.unclr
  cases hw with
  | none=>refine plain ?_;unfold sig rs hwS;rw [clr_clr (h.clE_hid he hS hc)];exact clr_view (by rw [ovE_len,ovE_len]) (fun r hr=>(hag r hr).symm)
  | some x =>
    obtain ⟨iw,r,q⟩:=x;obtain ⟨hr0,⟨d0,sz,rows,k1,k2⟩,⟨eW,hWE,hWi⟩,hbef⟩:=h.place iw r q rfl;have hhr:=h.hidStart he r hr0;have hne:=hW iw r q rfl;cases hm:memP Pre iw with
    | false =>
      have hSiw:S iw=false:=by
        cases hs:S iw with
        | false=>rfl
        | true =>
          exfalso;rw [hE] at hWE;rcases List.mem_append.1 hWE with h1 | h1
          · rw [memP_iff.2 ⟨eW,h1,hWi⟩] at hm;cases hm
          · rcases List.mem_cons.1 h1 with rfl | h1
            · exact hne hWi
            · obtain ⟨A,B,hAB⟩:=List.append_of_mem h1;have:=hbef (Pre++e::A) eW B (by rw [hE,hAB];simp) hWi e (by simp);have:=hc _ _ hs this;rw [hS] at this;cases this
      refine plain ?_;unfold sig rs hwS;simp only [hm,hSiw,Bool.false_eq_true,if_false];rw [clr_clr (h.clE_hid he hS hc)];exact clr_view (by rw [ovE_len,ovE_len]) (fun r hr=>(hag r hr).symm)
    | true =>
      have hrs:rs (some (iw,r,q)) Pre s0=holeS r q (ovE (fun _=>true) Pre s0):=(by unfold rs hwS;simp [hm]);cases hs:S iw with
      | true=>refine plain ?_;rw [hrs];unfold sig hwS;simp only [hs,if_true];rw [clr_clr (h.clE_hid he hS hc)];exact clr_view (by rw [hole_len,hole_len,ovE_len,ovE_len]) (hole_agree hhr (fun r hr=>(hag r hr).symm))
      | false =>
        have hsig:sig E (some (iw,r,q)) S s0=clr (clE S E) (ovE S E s0):=(by unfold sig hwS;simp [hs]);have hcr:=h.clEStart (S:=S) r hr0;have hov:(ovE S E s0)[r]?=some d0:=(by rw [ovE_out E s0 (fun e' he' hd=>?_),k1];obtain ⟨A,B,hAB⟩:=List.append_of_mem he';have:=(h.ok A e' B hAB).dst r hd;rw [hr0] at this;cases this);obtain ⟨q',hq'⟩:=tree_prune q d0 (keepQ (clE S E)) k2;have hslot:(sig E (some (iw,r,q)) S s0)[r]?=some (d0.prune (keepQ (clE S E))):=(by rw [hsig,clr_get,hov];simp only [Option.map_some,hcr,Bool.false_eq_true,if_false]);obtain ⟨Fh,hh,hsubh⟩:=hR.hole hslot (by simpa [D.prune] using hq');have heq:clr e.1.hid (rs (some (iw,r,q)) Pre s0)=clr e.1.hid (holeS r q (sig E (some (iw,r,q)) S s0)):=(by rw [hrs,hsig,hole_clr hcr,clr_clr (h.clE_hid he hS hc)];exact clr_view (by rw [hole_len,hole_len,ovE_len,ovE_len]) (hole_agree hhr (fun r hr=>(hag r hr).symm)));rw [heq];refine ⟨_,hh.clr e.1.hid,fun r b hb=>?_,fun tm w' x u hx=>?_⟩
        · split at hb
          · cases hb
          · exact hsubh r b hb
        · rw [clr_comm,← hole_clr (h.clStart he r hr0)] at hx;exact hx.unclr.unhole
theorem head_step (hcl:∀ w',w0.Below w'→GI G w' I0) (h:Setup ops E start nh hw s0) (hE:E=Pre++e::R) (fact:EF (CT P G) hw start s0 Pre e) {o:Oper} {n:Bool} (hop:ops[e.1.idx]?=some o) (hcomp:cVO P n ops o=some e.1.vo)
    (hS:S e.1.idx=false) (hc:Closed ops S) (hb:∀ x,((befs ops).getD e.1.idx 0).testBit x=true→S x=true) (hS':S' e.1.idx=true) (hne:∀ j,j≠e.1.idx→S' j=S j) {a:Act} {w:World} {I:Nat→Prop} {Fs:Nat→List Nat} (hd:a.defers=[]) (hR:RelI w0 I0 (sig E hw S s0) a.tmps w I Fs)
    {Q:Exit→Act→World→Prop} {K:Act→World→Prop} (hK:∀ a w,Rel w0 I0 (sig E hw S' s0) a w→K a w):wpOp P ops Q e.1.idx K a w:=by
  have he:e∈E:=(by rw [hE];simp);have hGw:GI G w I0:=hcl _ hR.below;simp only [cVO] at hcomp;cases hg:cGuard ops o.guard with
  | none=>simp [hg] at hcomp
  | some g =>
  cases hopc:cOp P n o.op with
  | none=>simp [hg,hopc] at hcomp
  | some vop =>
  simp only [hg,hopc,Option.some.injEq] at hcomp;have hdst:e.1.vo.dst=o.dst:=by rw [← hcomp]
  have hvop:e.1.vo.op=vop:=(by rw [← hcomp]);have hguard:e.1.vo.guard=g:=(by rw [← hcomp]);unfold wpOp;rw [hop];simp only
  -- what is left to do once there is a result
  have put:∀ {A2:List D} {d':D} {v:Value} {w':World} {I':Nat→Prop} {Fs':Nat→List Nat} {F:List Nat},RelI w0 I0 A2 a.tmps w' I' Fs'→T I' w' d' (ρS A2 a.tmps w') v F→Fresh w0 w' I' Fs' F→(∀ t,e.1.vo.dst=some t→A2[t]?=some .undef∨A2[t]?=none)→setO A2 e.1.vo.dst d'=sig E hw S' s0→K (a.put o.dst v) w':=by
    intro A2 d' v w' I' Fs' F h1 h2 h3 h4 h5;have:=put_rel (dst:=o.dst) hd h1 h2 h3;refine hK _ _ ?_;rw [← h5,hdst];rw [hdst] at h4;cases hdd:o.dst with
    | none=>rw [hdd] at this;exact this
    | some t=>rw [hdd] at this h4;simp only at this;rw [putD_undef (h4 t rfl)] at this;exact this
  have clrU:∀ {X:List D} {m:List Bool} {t:Nat},(X[t]?=some .undef∨X[t]?=none)→(clr m X)[t]?=some .undef∨(clr m X)[t]?=none:=by
    intro X m t hX;rw [clr_get];rcases hX with hX | hX<;>rw [hX]
    · refine .inl ?_;simp only [Option.map_some,D.prune];split<;>rfl
    · exact .inr rfl
  have normal : (∀ iw r q,hw=some (iw,r,q)→e.1.idx≠iw)→e.1.vo.op.framed=true→DF (CT P G) (clr e.1.hid (rs hw Pre s0)) e.1.cl e.1.vo e.2→if Region.wanted o (yielded ops a.tmps) then o.wp P a w K Q∨(o.asks P a w∧LetsOut Q) else K (a.put o.dst undef) w:=by
    intro hW hfr hDF;obtain ⟨Fv,hv,hsub,hun⟩:=h.view hE hS hc hb hW hR;have heq:=h.put_eq he hS hc hb hS' hne hW;have hU:∀ t,e.1.vo.dst=some t→(clr e.1.cl (sig E hw S s0))[t]?=some .undef∨(clr e.1.cl (sig E hw S s0))[t]?=none:=fun t ht=>clrU (h.dstUndef he ht hS);have run:NF (CT P G) (clr e.1.hid (rs hw Pre s0)) e.1.cl e.1.vo.op e.2→o.wp P a w K Q:=by
      rintro ⟨s',hs',hk⟩;rw [hvop] at hk hfr;refine wp_of_runs (sim_op (nn:=true) hGw hv (fun _=>hfr) hopc hk) ?_;rintro v w' ⟨d',s1,I',Fs',F,⟨rfl,rfl⟩,hR',hT,hF,hfrm⟩;obtain ⟨h1,h2,h3⟩:=recomb2 hR hv hsub (hun a.tmps w') hs' hR' hT hF (hfrm rfl);have h4:=T.turn (q:=fun x=>qW hw S x&&keepQ (clE S' E) x) (fun x u _ hx=>hx) _ h2;have hd2:(e.2.prune (keepQ e.1.cl)).prune (fun x=>qW hw S x&&keepQ (clE S' E) x)=(prW hw S e.2).prune (keepQ (clE S' E)):=by rw [D.prune_prune,prW_eq,D.prune_prune];refine prune_congr (fun x=>?_) _;rw [keepQ_or (fun r=>h.cl_or he hS' hne hS r) x];cases keepQ e.1.cl x<;>cases qW hw S x<;>simp
      rw [hd2] at h4;exact put h1 h4 h3 hU heq
    have skip:e.2=noD→K (a.put o.dst undef) w:=(by intro hno;refine put (d':=(prW hw S e.2).prune (keepQ (clE S' E))) (hR.clr e.1.cl) ?_ Fresh.nil hU heq;rw [hno,prW_eq];simp only [noD,D.prune,T];exact ⟨rfl,trivial⟩);unfold DF at hDF;rw [hguard] at hDF;cases hgo:o.guard with
    | none=>rw [hgo] at hg;simp only [cGuard,Option.some.injEq] at hg;subst hg;rw [if_pos (by simp [Region.wanted,hgo])];exact .inl (run hDF)
    | some jw =>
      obtain ⟨j,want⟩:=jw;rw [hgo] at hg;simp only [cGuard] at hg;cases hj:(ops[j]?).bind (·.dst) with
      | none=>simp [hj] at hg
      | some t =>
        simp only [hj,Option.some.injEq] at hg;subst hg;simp only at hDF;have hTt:=lkT_T hv t;have hyv:∀ x:Value,lkT (clr e.1.hid (rs hw Pre s0)) t=.v x→a.tmps[t]?=some x∨(a.tmps[t]?=none∧x=undef):=by
          intro x e;rw [e] at hTt;have:=(T_v hTt).1;cases ht:a.tmps[t]? with
          | none=>simp [ht] at this;exact .inr ⟨rfl,this.symm⟩
          | some y=>simp [ht] at this;exact .inl (by rw [this])
        split at hDF
        · rename_i b e;have hy:yielded ops a.tmps j=some b:=by
            unfold yielded;rw [hj];rcases hyv _ e with h1 | ⟨_,h1⟩
            · simp [h1]
            · cases h1
          by_cases hbw:b=want
          · rw [if_pos (by simp [Region.wanted,hgo,hy,hbw])];exact .inl (run (hDF.1 hbw))
          · rw [if_neg (by simp [Region.wanted,hgo,hy,hbw])];exact skip (hDF.2 hbw)
        · rename_i x hne' e;have hy:yielded ops a.tmps j=none:=by
            unfold yielded;rw [hj];rcases hyv _ e with h1 | ⟨h1,_⟩
            · simp only [Option.bind_some,h1];split
              · rename_i b hb;cases hb;exact absurd rfl (hne' b)
              · rfl
            · simp [h1]
          rw [if_neg (by simp [Region.wanted,hgo,hy])];exact skip hDF
        · exact hDF.elim
  unfold EF at fact;cases hw with
  | none=>exact normal (fun _ _ _ h=>by cases h) fact.1 fact.2
  | some x =>
    obtain ⟨iw,r,q⟩:=x;simp only at fact;by_cases hi:e.1.idx=iw
    · rw [if_pos hi] at fact;subst hi;obtain ⟨sz,bytes,x,y,hap,hgn,hy,hpl⟩:=fact;have hg0:o.guard=none:=by
        rw [hguard] at hgn;subst hgn;cases hgo:o.guard with
        | none=>rfl
        | some jw=>obtain ⟨j,want⟩:=jw;rw [hgo] at hg;simp only [cGuard] at hg;split at hg<;>simp at hg
      rw [if_pos (by simp [Region.wanted,hg0])];refine .inl ?_;have hsig:sig E (some (e.1.idx,r,q)) S s0=clr (clE S E) (ovE S E s0):=by unfold sig hwS;simp [hS]
      have hv:clr e.1.hid (ovE (fun _=>true) Pre s0)=clr e.1.hid (sig E (some (e.1.idx,r,q)) S s0):=(by rw [hsig,clr_clr (h.clE_hid he hS hc)];exact clr_view (by rw [ovE_len,ovE_len]) (fun r hr=>(h.agree hE hb r hr).symm));rw [hv] at hpl;obtain ⟨r',q',rows,d0,rows0,k1,k2,k3,⟨rfl,rfl,k4⟩,k5⟩:=place_app hy (fun r hr=>by
        obtain ⟨A,B,hAB⟩:=List.append_of_mem he;exact (h.ok A e B hAB).hid r hr) hpl
      rw [hap] at hvop;rw [← hvop] at hopc;refine wp_of_runs (sim_op (nn:=false) hGw hR (fun h=>by cases h) hopc k5) ?_;rintro v w' ⟨d',s1,I',Fs',F,⟨rfl,hs1⟩,hR',hT,hF,_⟩;have h1:=hR'.clr e.1.cl;rw [hs1] at h1;have heq:=h.put_eqW he hS hc hb hS' hne rfl (fun k=>by rw [← k4];simp [D.prune]);refine put (d':=e.2) h1 (by rw [← k4];simpa only [T] using hT) (hF.sub (fun r b hb=>by
        split at hb
        · cases hb
        · exact hb)) (fun t ht=>clrU ?_) heq
      have hu:=h.dstUndef he ht hS;have hne0:t≠r':=fun e'=>by obtain ⟨A,B,hAB⟩:=List.append_of_mem he;have:=(h.ok A e B hAB).dst t ht;rw [e',k1] at this;cases this
      rw [hole_get k2,if_neg hne0];rcases hu with hu | hu<;>rw [hu]
      · exact .inl (by simp [D.prune])
      · exact .inr rfl
    · rw [if_neg hi] at fact;exact normal (fun iw' r' q' h'=>by cases h';exact hi) fact.1 fact.2
end
end Go.V
namespace Go.V
open Go.RowKit
def headArr (n nh:Nat):Array Bool:=((List.range n).map fun i=>decide (i<nh)).toArray
theorem headArr_get {n nh i:Nat}(hi:i<n):(headArr n nh)[i]?=some (decide (i<nh)):=by unfold headArr;simp [hi]
section
variable {P:Program} {G:World→(Nat→Prop)→Prop} {w0:Base} {I0:Nat→Prop} {ops:Array Oper} {E:List (DOp×D)} {start:List Bool} {nh:Nat} {hw:Option (Nat×Nat×Path)} {s0:List D}
theorem sig_congr {S S':Nat→Bool}(h:∀ e∈E,S e.1.idx=S' e.1.idx)(hW:∀ iw r q,hw=some (iw,r,q)→S iw=S' iw):sig E hw S s0=sig E hw S' s0:=by
  unfold sig;rw [clE_congr E h,ovE_congr E s0 h];congr 1;unfold hwS;cases hw with
  | none=>rfl
  | some x=>obtain ⟨iw,r,q⟩:=x;simp only;rw [hW iw r q rfl]
theorem head_any (hcl:∀ w',w0.Below w'→GI G w' I0) (h:Setup ops E start nh hw s0) (fact:∀ Pre e R,E=Pre++e::R→EF (CT P G) hw start s0 Pre e) (hall:∀ i,i<nh→∃ e∈E,e.1.idx=i) (hcomp:∀ e∈E,∃ o n,ops[e.1.idx]?=some o∧cVO P n ops o=some e.1.vo) (hnh:nh≤ops.size)
    (htail:∀ t,nh≤t→t<ops.size→∀ i,i<nh→((befs ops).getD t 0).testBit i=true) {Q:Exit→Act→World→Prop}
    (hend:∀ a w,Rel w0 I0 (sig E hw (fun _=>true) s0) a w→wpAny P .any ops Q (ops.size-nh) (headArr ops.size nh) a w) :
    ∀ (fuel:Nat) (listed:Array Bool) (a:Act) (w:World),listed.size=ops.size→Closed ops (fun i=>listed.getD i false)→(∀ i,nh≤i→listed.getD i false=false)→fuel=cnt (fun i=>listed.getD i false) nh+(ops.size-nh)→Rel w0 I0 (sig E hw (fun i=>listed.getD i false) s0) a w→wpAny P .any ops Q fuel listed a w:=by
  intro fuel;induction fuel with
  | zero =>
    intro listed a w hsz hc ht hf hR;have hcnt:cnt (fun i=>listed.getD i false) nh=0:=by omega
    have hz:=cnt_zero hcnt;have hlist:listed=headArr ops.size nh:=by
      apply Array.ext_getElem?;intro i;by_cases hi:i<ops.size
      · rw [headArr_get hi,Array.getElem?_eq_getElem (by omega)];congr 1;have h1:listed.getD i false=listed[i]'(by omega):=by simp [hsz,hi]
        rw [← h1];by_cases hin:i<nh
        · simp only [hin,decide_true];exact hz i hin
        · simp only [hin,decide_false];exact ht i (by omega)
      · rw [Array.getElem?_eq_none (by omega),Array.getElem?_eq_none (by unfold headArr;simp;omega)]
    have hsig:sig E hw (fun i=>listed.getD i false) s0=sig E hw (fun _=>true) s0:=sig_congr (fun e he=>hz _ (by
      obtain ⟨A,B,hAB⟩:=List.append_of_mem he;exact (h.ok A e B hAB).lt)) (fun iw r q hwe=>hz _ (by
      obtain ⟨_,_,⟨e,he,hei⟩,_⟩:=h.place iw r q hwe;obtain ⟨A,B,hAB⟩:=List.append_of_mem he;rw [← hei];exact (h.ok A e B hAB).lt))
    rw [hsig] at hR;have:=hend a w hR;rw [show ops.size-nh=0 by omega] at this;rw [hlist];exact this
  | succ fuel ih =>
    intro listed a w hsz hc ht hf hR;by_cases hcnt:cnt (fun i=>listed.getD i false) nh=0
    · have hz:=cnt_zero hcnt;have hlist:listed=headArr ops.size nh:=by
        apply Array.ext_getElem?;intro i;by_cases hi:i<ops.size
        · rw [headArr_get hi,Array.getElem?_eq_getElem (by omega)];congr 1;have h1:listed.getD i false=listed[i]'(by omega):=by simp [hsz,hi]
          rw [← h1];by_cases hin:i<nh
          · simp only [hin,decide_true];exact hz i hin
          · simp only [hin,decide_false];exact ht i (by omega)
        · rw [Array.getElem?_eq_none (by omega),Array.getElem?_eq_none (by unfold headArr;simp;omega)]
      have hsig:sig E hw (fun i=>listed.getD i false) s0=sig E hw (fun _=>true) s0:=sig_congr (fun e he=>hz _ (by
        obtain ⟨A,B,hAB⟩:=List.append_of_mem he;exact (h.ok A e B hAB).lt)) (fun iw r q hwe=>hz _ (by
        obtain ⟨_,_,⟨e,he,hei⟩,_⟩:=h.place iw r q hwe;obtain ⟨A,B,hAB⟩:=List.append_of_mem he;rw [← hei];exact (h.ok A e B hAB).lt))
      rw [hsig] at hR;have:=hend a w hR;rw [hlist,hf,hcnt,Nat.zero_add];exact this
    · -- some operation of the head is still to come
      have hex:∃ i,i<nh∧listed.getD i false=false:=by
        apply Classical.byContradiction;intro hn;apply hcnt;apply cnt_all;intro i hi;cases hS:listed.getD i false with
        | true=>rfl
        | false=>exact absurd ⟨i,hi,hS⟩ hn
      have getB:∀ i,i<ops.size→listed.getD i true=listed.getD i false:=fun i hi=>by have:i<listed.size:=(by omega);simp [this]
      refine ⟨fun h0=>?_,fun i hi=>?_⟩
      · exfalso;obtain ⟨i,hi,hS⟩:=hex;obtain ⟨e,he,rfl⟩:=hall i hi;obtain ⟨A,x,B,hAB,hx,hA⟩:=first_split (p:=fun e:DOp×D=>listed.getD e.1.idx false=false) E ⟨e,he,hS⟩;obtain ⟨op,hop,hedge⟩:=(h.ok A x B hAB).edge;have hlt:x.1.idx<ops.size:=Nat.lt_of_lt_of_le (h.ok A x B hAB).lt hnh;have:x.1.idx∈Region.ready .any ops listed:=by rw [mem_ready];refine ⟨by rw [getB _ hlt];exact hx,op,hop,fun ed hed hb=>?_⟩;obtain ⟨p,hp,hpe⟩:=hedge ed (by simpa using hed) hb;have:=hA p hp;rw [hpe] at this;simpa using this
        rw [h0] at this;cases this
      · obtain ⟨hun,o,hoi,hed⟩:=mem_ready.1 hi;have hilt:i<ops.size:=(by apply Nat.lt_of_not_le;intro hle;rw [Array.getElem?_eq_none hle] at hoi;cases hoi);have hS:listed.getD i false=false:=(by rw [← getB i hilt];exact hun);have hb:∀ x,((befs ops).getD i 0).testBit x=true→listed.getD x false=true:=by
          intro x hx;obtain ⟨o',ho',ed,h1,h2,h3⟩:=befs_spec hx;rw [hoi] at ho';cases ho';have:=hed ed (by simpa using h1) h2;rcases h3 with rfl | h3
          · exact this
          · exact hc _ _ this h3
        have hin:i<nh:=(by apply Nat.lt_of_not_le;intro hle;obtain ⟨j,hj,hjS⟩:=hex;rw [hb j (htail i hle hilt j hj)] at hjS;cases hjS);obtain ⟨e,he,rfl⟩:=hall i hin;obtain ⟨A,B,hAB⟩:=List.append_of_mem he;obtain ⟨o',n,ho',hco⟩:=hcomp e he;rw [hoi] at ho';cases ho';have hset:∀ j,(listed.setIfInBounds e.1.idx true).getD j false=if j=e.1.idx then true else listed.getD j false:=by
          intro j;by_cases hj:j=e.1.idx
          · subst hj;have:e.1.idx<listed.size:=by omega
            simp [this]
          · rw [if_neg hj,getD_set_ne false (Ne.symm hj)]
        obtain ⟨hd,I,Fs,hRI⟩:=hR;refine head_step hcl h hAB (fact A e B hAB) hoi hco (S:=fun i=>listed.getD i false) (S':=fun i=>(listed.setIfInBounds e.1.idx true).getD i false) hS hc hb (by simp only [hset];simp) (fun j hj=>by simp only [hset,if_neg hj]) hd hRI ?_;intro a' w' hR';refine ih _ a' w' (by simp [hsz]) ?_ (fun j hj=>?_) ?_ hR'
        · intro j x hj hx;simp only [hset] at hj ⊢;by_cases hxe:x=e.1.idx
          · rw [if_pos hxe]
          · rw [if_neg hxe];by_cases hje:j=e.1.idx
            · subst hje;exact hb x hx
            · rw [if_neg hje] at hj;exact hc j x hj hx
        · rw [hset,if_neg (by omega)];exact ht j hj
        · have:=cnt_set (S:=fun i=>listed.getD i false) (S':=fun i=>(listed.setIfInBounds e.1.idx true).getD i false) hS (by simp only [hset];simp) (fun j hj=>by simp only [hset,if_neg hj]) hin;omega
end
end Go.V
namespace Go.V
open Go.RowKit
def runE (pr:Option (Nat×Path)):List (DOp×D)→List D→List D
  | [],s=>s
  | e::P,s=>runE pr P (setO s e.1.vo.dst (prO pr e.2))
theorem runE_none:∀ (P:List (DOp×D)) (s:List D),runE none P s=ovE (fun _=>true) P s
  | [],s=>rfl
  | e::P,s=>by simp only [runE,ovE,prO,if_true,runE_none P]
theorem head_pick {Ctr:CtrT}{pr:Option (Nat×Path)}:∀ (l:List DOp) {s:List D} {K:List D→Prop},l.all (fun o=>o.vo.op.framed)=true→headK Ctr pr s l K →
    ∃ E:List (DOp×D),E.map (·.1)=l∧(∀ P e R,E=P++e::R→e.1.vo.op.framed=true∧DF Ctr (clr e.1.hid (runE pr P s)) e.1.cl e.1.vo e.2)∧K (runE pr E s)
  | [],s,K,_,h=>⟨[],rfl,fun P e R h=>by simp at h,h⟩
  | o::l,s,K,hf,h=>by
    simp only [List.all_cons,Bool.and_eq_true] at hf;simp only [headK] at h;obtain ⟨d,h1,h2⟩:=drawK_pick hf.1 h;obtain ⟨E,e1,e2,e3⟩:=head_pick l hf.2 h1;refine ⟨(o,d)::E,by simp [e1],fun P e R hE=>?_,e3⟩;cases P with
    | nil=>simp only [List.nil_append,List.cons.injEq] at hE;obtain ⟨rfl,rfl⟩:=hE;exact ⟨hf.1,h2⟩
    | cons x P=>simp only [List.cons_append,List.cons.injEq] at hE;obtain ⟨rfl,hE⟩:=hE;exact e2 P e R hE
theorem hole_setO {r:Nat}{q:Path}{s:List D}{dst:Option Nat}{d d0:D}(hs:s[r]?=some d0)(hr:dst≠some r):setO (holeS r q s) dst (d.prune (notThrough r q))=holeS r q (setO s dst d):=by
  have h1:(setO s dst d)[r]?=some d0:=(by rw [setO_ne hr];exact hs);apply List.ext_getElem?;intro j;rw [hole_get h1];by_cases hj:j=r
  · subst hj;rw [if_pos rfl,setO_ne hr,hole_get hs,if_pos rfl]
  · rw [if_neg hj];by_cases hd:dst=some j
    · rw [hd,setO_eq,setO_eq,hole_get hs,if_neg hj,Option.map_map,Option.map_map];rfl
    · rw [setO_ne hd,setO_ne hd,hole_get hs,if_neg hj]
theorem runE_hole {r:Nat}{q:Path}:∀ (P:List (DOp×D)) {s:List D} {d0:D},s[r]?=some d0→(∀ e∈P,e.1.vo.dst≠some r)→runE (some (r,q)) P (holeS r q s)=holeS r q (ovE (fun _=>true) P s)
  | [],s,d0,_,_=>rfl
  | e::P,s,d0,hs,hP=>by simp only [runE,ovE,prO,if_true];rw [hole_setO hs (hP e (by simp))];exact runE_hole P (d0:=d0) (by rw [setO_ne (hP e (by simp))];exact hs) (fun e' he'=>hP e' (by simp [he']))
def clAll:List DOp→List Bool
  | []=>[]
  | o::l=>orM o.cl (clAll l)
theorem clE_all:∀ (E:List (DOp×D)),clE (fun _=>true) E=clAll (E.map (·.1))
  | []=>rfl
  | e::E=>by simp only [clE,List.map_cons,clAll,if_true,clE_all E]
def drawB (ops:Array Oper)(H:List DOp)(start:List Bool)(nh:Nat):Bool :=
  okL ops H (befs ops) start nh [] H&&(List.range nh).all (fun i=>H.any (fun o=>o.idx==i))&&decide (nh≤ops.size) &&
  (List.range ops.size).all (fun t=>decide (t<nh)||(List.range nh).all fun i=>((befs ops).getD t 0).testBit i) &&
  Region.seqB .any ops (ops.size-nh) nh (headArr ops.size nh)
section
variable {P:Program} {G:World→(Nat→Prop)→Prop} {w0:Base} {I0:Nat→Prop}
theorem clr_zero {start:List Bool}{s:List D}{r:Nat}(h:start.getD r false=true):(clr start s)[r]?=some .undef∨(clr start s)[r]?=none:=by
  rw [clr_get];cases s[r]? with
  | none=>exact .inr rfl
  | some d=>rw [h];exact .inl rfl
theorem draw_core (hcl:∀ w',w0.Below w'→GI G w' I0) {ops:Array Oper} (hm:P.follows .mixedOrders=true) {E:List (DOp×D)} {start:List Bool} {nh:Nat} {hw:Option (Nat×Nat×Path)} {s:List D}
    (hB:drawB ops (E.map (·.1)) start nh=true) (hplace:∀ iw r q,hw=some (iw,r,q)→start.getD r false=false∧(∃ d0 sz rows,(clr start s)[r]?=some d0∧treeAt d0 q=some (.sl true sz rows))∧(∃ e∈E,e.1.idx=iw)∧∀ P e R,E=P++e::R→e.1.idx=iw→∀ p∈P,((befs ops).getD iw 0).testBit p.1.idx=true)
    (fact:∀ Pre e R,E=Pre++e::R→EF (CT P G) hw start (clr start s) Pre e) (hcomp:∀ e∈E,∃ o n,ops[e.1.idx]?=some o∧cVO P n ops o=some e.1.vo) {tail:List VO} (htl:cVOs P ops (ops.toList.drop nh)=some tail) {KK:List D→Prop} {Q:Exit→Act→World→Prop}
    (hk:opsK (CT P G) (sig E hw (fun _=>true) (clr start s)) tail KK) (hQ:∀ s a w,KK s→Rel w0 I0 s a w→Q .normal a w) {a:Act} {w:World} (h:Rel w0 I0 s a w):RegAny P ops Q a w:=by
  simp only [drawB,Bool.and_eq_true,decide_eq_true_eq] at hB;obtain ⟨⟨⟨⟨hok,hall⟩,hnh⟩,htail⟩,hseq⟩:=hB;rw [List.all_eq_true] at hall htail;obtain ⟨hd,I,Fs,hR⟩:=h;have hset:Setup ops E start nh hw (clr start s):=⟨fun P e R hE=>by
    have:=okL_spec E [] [] (fun _ h=>by simp at h) (fun _ h=>by cases h) hok P e R hE;simpa using this,fun r hr=>clr_zero hr,hplace⟩
  refine ⟨hm,?_⟩;have hgF:∀ i,(Array.replicate ops.size false).getD i false=false:=fun i=>by by_cases hi:i<ops.size<;>simp [hi]
  have hgFun:(fun i=>(Array.replicate ops.size false).getD i false)=fun _=>false:=funext hgF;refine head_any (w0:=w0) (I0:=I0) hcl hset fact (fun i hi=>?_) hcomp hnh (fun t ht1 ht2 i hi=>?_) (fun a' w' hR'=>?_) ops.size _ a _ (by simp) (fun j x hj _=>by simp only [hgF] at hj;cases hj) (fun i _=>hgF i) ?_ ?_
  · have:=hall i (by simpa using hi);rw [List.any_eq_true] at this;obtain ⟨o,ho,hoi⟩:=this;obtain ⟨e,he,rfl⟩:=List.mem_map.1 ho;exact ⟨e,he,by simpa using hoi⟩
  · have:=htail t (by simpa using ht2);simp only [Bool.or_eq_true,decide_eq_true_eq] at this;rcases this with h1 | h1
    · omega
    · rw [List.all_eq_true] at h1;exact h1 i (by simpa using hi)
  · have hl:(ops.toList.drop nh).length=ops.size-nh:=(by simp);have:=wpAny_of_seq (P:=P) (md:=.any) (ops:=ops) (Q':=Q) (ops.toList.drop nh) nh (headArr ops.size nh) a' w' (fun j=>by simp [List.getElem?_drop]) (by rw [hl];exact hseq)
      (sim_ops hcl ops (KK:=KK) hQ _ tail _ a' w' htl hk hR')
    rw [hl] at this;exact this
  · rw [hgFun];have:∀ n,cnt (fun _=>false) n=n:=by
      intro n;induction n with
      | zero=>rfl
      | succ n ih=>simp only [cnt,Bool.false_eq_true,if_false];omega
    rw [this];omega
  · refine ⟨hd,I,?_⟩;rw [hgFun];have h1:=(hR.clr start).world (w':={ w with drawn:=w.drawn+1 }) ((Below.refl _ w).drew);have h2:=h1.clr (clE (fun _=>false) E);have h3:ovE (fun _=>false) E (clr start s)=clr start s:=by
      have:∀ (E:List (DOp×D)) (s:List D),ovE (fun _=>false) E s=s:=by
        intro E;induction E with
        | nil=>intro s;rfl
        | cons e E ih=>intro s;simp only [ovE,Bool.false_eq_true,if_false];exact ih s
      exact this E _
    have h4:hwS hw (fun _=>false) (clr start s)=clr start s:=by
      unfold hwS;cases hw with
      | none=>rfl
      | some x=>obtain ⟨iw,r,q⟩:=x;simp only [Bool.false_eq_true,if_false]
    unfold sig;rw [h3,h4];exact ⟨_,h2⟩
end
end Go.V
namespace Go.V
open Go.RowKit
theorem split3 {α:Type}{x e:α}:∀ {A B Pre R:List α},A++x::B=Pre++e::R→(∃ R1,A=Pre++e::R1)∨(Pre=A∧e=x∧R=B)∨(∃ P2,Pre=A++x::P2∧B=P2++e::R)
  | [],B,[],R,h=>by simp only [List.nil_append,List.cons.injEq] at h;exact .inr (.inl ⟨rfl,h.1.symm,h.2.symm⟩)
  | [],B,y::Pre,R,h=>by simp only [List.nil_append,List.cons_append,List.cons.injEq] at h;exact .inr (.inr ⟨Pre,by rw [h.1];rfl,h.2⟩)
  | a::A,B,[],R,h=>by simp only [List.nil_append,List.cons_append,List.cons.injEq] at h;exact .inl ⟨A,by rw [h.1];rfl⟩
  | a::A,B,y::Pre,R,h=>by
    simp only [List.cons_append,List.cons.injEq] at h;obtain ⟨rfl,h⟩:=h;rcases split3 h with ⟨R1,h1⟩ | ⟨h1,h2⟩ | ⟨P2,h1,h2⟩
    · exact .inl ⟨R1,by rw [h1];rfl⟩
    · exact .inr (.inl ⟨by rw [h1],h2⟩)
    · exact .inr (.inr ⟨P2,by rw [h1];rfl,h2⟩)
theorem placeK_pick {start:List Bool}{V:List D}{sz bytes:Nat}{x y:Operand}{K:Nat→Path→D→Prop}(h:placeK start V sz bytes x y K) :
    ∃ r q d,K r q d∧placeK start V sz bytes x y (fun r' q' d'=>r'=r∧q'=q∧d'=d)∧start.getD r false=false∧(∀ k:D→Bool,d.prune k=d)∧∃ d1 sz' rows,V[r]?=some d1∧treeAt d1 q=some (.sl true sz' rows):=by
  unfold placeK at h ⊢;split at h
  · rename_i r q e;simp only [e];obtain ⟨h0,h⟩:=h;unfold stealK at h ⊢;split at h
    · rename_i d1 hd;split at h
      · rename_i sz' rows ht;simp only at h;obtain ⟨h1,h⟩:=h;obtain ⟨more,s',⟨h2,h3⟩,h4⟩:=addK_pick h;refine ⟨r,q,_,h3,⟨h0,?_⟩,h0,fun k=>by simp [D.prune],d1,sz',rows,hd,ht⟩;simp only [hd,ht];refine ⟨h1,addK_mono ?_ h4⟩;rintro m s ⟨rfl,rfl⟩;exact ⟨h2,trivial,trivial,rfl⟩
      · exact h.elim
      · exact h.elim
    · exact h.elim
  · exact h.elim
section
variable {P:Program} {G:World→(Nat→Prop)→Prop} {w0:Base} {I0:Nat→Prop}
theorem sim_draw (hcl:∀ w',w0.Below w'→GI G w' I0){ops:Array Oper}(hm:P.follows .mixedOrders=true){H:List DOp}{start:List Bool}{nh:Nat}{s:List D}(hB:drawB ops H start nh=true)(hf:H.all (fun o=>o.vo.op.framed)=true)(hcomp:∀ o∈H,∃ op n,ops[o.idx]?=some op∧cVO P n ops op=some o.vo)
    {tail:List VO} (htl:cVOs P ops (ops.toList.drop nh)=some tail) {VQ:VExit→List D→Prop} {Q:Exit→Act→World→Prop} (hk:(VCode.draw start (clAll H) H tail).wp (CT P G) VQ s) (hQ:∀ s a w,VQ .normal s→Rel w0 I0 s a w→Q .normal a w) {a:Act} {w:World} (h:Rel w0 I0 s a w):RegAny P ops Q a w:=by
  simp only [VCode.wp] at hk;obtain ⟨E,rfl,e2,e3⟩:=head_pick H hf hk;refine draw_core hcl hm (hw:=none) hB (fun _ _ _ h=>by cases h) (fun Pre e R hE=>?_) (fun e he=>hcomp e.1 (List.mem_map.2 ⟨e,he,rfl⟩)) htl (KK:=VQ .normal) ?_ hQ h
  · have:=e2 Pre e R hE;rw [runE_none] at this;exact this
  · rw [runE_none] at e3;have:sig E none (fun _=>true) (clr start s)=clr (clAll (E.map (·.1))) (ovE (fun _=>true) E (clr start s)):=by unfold sig hwS;rw [clE_all]
    rw [this];exact e3
theorem sim_drawW (hcl:∀ w',w0.Below w'→GI G w' I0) {ops:Array Oper} (hm:P.follows .mixedOrders=true) {l1 l2:List DOp} {o:DOp} {start:List Bool} {nh:Nat} {s:List D} (hB:drawB ops (l1++o::l2) start nh=true) (hf1:l1.all (fun o=>o.vo.op.framed)=true) (hf2:l2.all (fun o=>o.vo.op.framed)=true) (hbef:l1.all (fun k=>((befs ops).getD o.idx 0).testBit k.idx)=true)
    (hg:o.vo.guard=none) (hyc:∀ sz bytes x y,o.vo.op=.app sz bytes x y→∀ t,y=.tmp t→o.cl.getD t false=true) (hcomp:∀ k∈l1++o::l2,∃ op n,ops[k.idx]?=some op∧cVO P n ops op=some k.vo)
    {tail:List VO} (htl:cVOs P ops (ops.toList.drop nh)=some tail) {VQ:VExit→List D→Prop} {Q:Exit→Act→World→Prop} (hk:(VCode.drawW start (clAll (l1++o::l2)) l1 o l2 tail).wp (CT P G) VQ s) (hQ:∀ s a w,VQ .normal s→Rel w0 I0 s a w→Q .normal a w) {a:Act} {w:World} (h:Rel w0 I0 s a w):RegAny P ops Q a w:=by
  simp only [VCode.wp] at hk;obtain ⟨E1,rfl,f1,hk⟩:=head_pick l1 hf1 hk;rw [runE_none] at hk;unfold midK at hk;split at hk
  · rename_i sz bytes x y hop;obtain ⟨r,q,d,hk,hpl,hst,hown,d1,sz',rows,hV,htr⟩:=placeK_pick hk;obtain ⟨E2,rfl,f2,hk⟩:=head_pick l2 hf2 hk;have hmap:(E1++(o,d)::E2).map (·.1)=E1.map (·.1)++o::E2.map (·.1):=by simp
    rw [← hmap] at hB hcomp;have hok:∀ P e R,E1++(o,d)::E2=P++e::R→OkE ops (E1++(o,d)::E2) start nh P e.1:=fun P e R hE=>by have hB':=hB;simp only [drawB,Bool.and_eq_true] at hB';have:=okL_spec (E1++(o,d)::E2) [] [] (fun _ h=>by simp at h) (fun _ h=>by cases h) hB'.1.1.1.1 P e R hE;simpa using this
    have hidx:=idx_pairwise (L:=E1++(o,d)::E2) (fun P e R hE=>(hok P e R hE).new);rw [List.pairwise_append] at hidx;obtain ⟨_,hi2,hi12⟩:=hidx;rw [List.pairwise_cons] at hi2;have hdst:∀ e∈E1++(o,d)::E2,e.1.vo.dst≠some r:=fun e he hd=>by obtain ⟨A,B,hAB⟩:=List.append_of_mem he;have:=(hok A e B hAB).dst r hd;rw [hst] at this;cases this
    have hhid:o.hid.getD r false=false:=by
      cases hh:o.hid.getD r false with
      | false=>rfl
      | true=>rw [(hok E1 (o,d) E2 rfl).hid r hh] at hst;cases hst
    -- the place, as it stands at the start
    have hs1:(ovE (fun _=>true) E1 (clr start s))[r]?=(clr start s)[r]?:=ovE_out E1 _ (fun e he hd=>absurd hd (hdst e (by simp [he])));have hplace:∃ d0 sz rows,(clr start s)[r]?=some d0∧treeAt d0 q=some (.sl true sz rows):=by
      rw [clr_get,hs1] at hV;cases hx:(clr start s)[r]? with
      | none=>simp [hx] at hV
      | some d0 =>
        simp only [hx,Option.map_some,hhid,Bool.false_eq_true,if_false,Option.some.injEq] at hV;subst hV;obtain ⟨t,q',m1,m2⟩:=tree_prune_rev q d0 _ htr;have:t=.sl true sz' rows:=by
          cases t with
          | sl own z r=>simpa [D.prune,eq_comm] using m2
          | ref r p=>simp only [D.prune] at m2;split at m2<;>cases m2
          | ptr r p i j=>simp only [D.prune] at m2;split at m2<;>cases m2
          | sub r p i n=>simp only [D.prune] at m2;split at m2<;>cases m2
          | _=>simp [D.prune] at m2
        subst this;exact ⟨d0,sz',rows,rfl,m1⟩
    have hrun:∀ P2:List (DOp×D),(∀ e∈P2,e∈E2)→runE (some (r,q)) P2 (setO (holeS r q (ovE (fun _=>true) E1 (clr start s))) o.vo.dst d)=holeS r q (ovE (fun _=>true) (E1++(o,d)::P2) (clr start s)):=(by intro P2 hP2;obtain ⟨d0,_,_,k1,_⟩:=hplace;have h1:=hs1.trans k1;have h2:=hole_setO (q:=q) (dst:=o.vo.dst) (d:=d) h1 (hdst (o,d) (by simp));rw [hown] at h2;rw [h2,runE_hole P2 (d0:=d0) (by rw [setO_ne (hdst (o,d) (by simp))];exact h1) (fun e he=>hdst e (by simp [hP2 e he])),ovE_app];rfl);refine draw_core hcl hm (hw:=some (o.idx,r,q)) hB ?_ (fun Pre e R hE=>?_) (fun e he=>hcomp e.1 (List.mem_map.2 ⟨e,he,rfl⟩)) htl (KK:=VQ .normal) ?_ hQ h
    · rintro iw r' q' hw;simp only [Option.some.injEq,Prod.mk.injEq] at hw;obtain ⟨rfl,rfl,rfl⟩:=hw;refine ⟨hst,hplace,⟨(o,d),by simp,rfl⟩,fun Pre e R hE hei p hp=>?_⟩;rw [List.all_eq_true] at hbef;rcases split3 hE with ⟨R1,h1⟩ | ⟨h1,_⟩ | ⟨P2,h1,h2⟩
      · exact absurd hei (hi12 e (by rw [h1];simp) (o,d) (by simp))
      · rw [h1] at hp;exact hbef p.1 (List.mem_map.2 ⟨p,hp,rfl⟩)
      · exact absurd hei.symm (hi2.1 e (by rw [h2];simp))
    · unfold EF;simp only;rcases split3 hE with ⟨R1,h1⟩ | ⟨h1,h2,_⟩ | ⟨P2,h1,h2⟩
      · have hne:e.1.idx≠o.idx:=hi12 e (by rw [h1];simp) (o,d) (by simp);rw [if_neg hne];have hm:memP Pre o.idx=false:=by
          cases hm:memP Pre o.idx with
          | false=>rfl
          | true=>obtain ⟨p,hp,hpe⟩:=memP_iff.1 hm;exact absurd hpe (hi12 p (by rw [h1];simp [hp]) (o,d) (by simp))
        have:=f1 Pre e R1 h1;rw [runE_none] at this;unfold rs hwS;simp only [hm,Bool.false_eq_true,if_false];exact this
      · subst h1;subst h2;rw [if_pos rfl];exact ⟨sz,bytes,x,y,hop,hg,hyc sz bytes x y hop,hpl⟩
      · have hne:e.1.idx≠o.idx:=Ne.symm (hi2.1 e (by rw [h2];simp));rw [if_neg hne];have hm:memP Pre o.idx=true:=memP_iff.2 ⟨(o,d),by rw [h1];simp,rfl⟩;have:=f2 P2 e R h2;rw [hrun P2 (fun e he=>by rw [h2];simp [he])] at this;unfold rs hwS;simp only [hm,if_true];rw [h1];exact this
    · rw [hrun E2 (fun _ h=>h)] at hk;have:sig (E1++(o,d)::E2) (some (o.idx,r,q)) (fun _=>true) (clr start s)=clr (clAll (E1.map (·.1)++o::E2.map (·.1))) (holeS r q (ovE (fun _=>true) (E1++(o,d)::E2) (clr start s))):=by unfold sig hwS;rw [clE_all,hmap];simp
      rw [this];exact hk
  · exact hk.elim
end
end Go.V
namespace Go.V
open Go.RowKit
/-! ### Regions that draw and fill boxes of their own: a block that waits to be filled is owned by no slot, but by a number beyond all slots -/
structure Fl where
  t:Nat
  n:Nat
  js:Nat
  ia:Option Nat
def Held (N0:Nat)(tm:Array Value)(w:World)(Fs:Nat→List Nat)(f:Fl):Prop :=
  ∃ b cs e,tm[f.t]?=some (.pointer (some ⟨b,0,none⟩))∧w.heap[b]?=some (.cells cs e (0,0))∧cs.size=f.n∧Fs (N0+f.t)=[b]
def HeldAll (N0:Nat)(fl:List Fl)(S:Nat→Bool)(tm:Array Value)(w:World)(Fs:Nat→List Nat):Prop :=
  ∀ f∈fl,(∀ i,f.ia=some i→S i=true)→S f.js=false→Held N0 tm w Fs f
section
variable {w0:Base} {I0:Nat→Prop}
theorem RelI.ghost {s:List D}{tm:Array Value}{w:World}{I:Nat→Prop}{Fs:Nat→List Nat}(h:RelI w0 I0 s tm w I Fs){g:Nat}(hg:s.length≤g){F:List Nat}(hn:F.Nodup)(hF:∀ b,b∈F→w0.N b∧b<w.heap.size∧¬ I b∧∀ r,r≠g→b∉Fs r):RelI w0 I0 s tm w I (upd Fs g F) where
  below:=h.below
  len:=h.len
  slot:=by
    intro r d u h1 h2;have hr:r≠g:=by have:=(List.getElem?_eq_some_iff.1 h1).1;omega
    simp only [upd,hr,if_false];exact h.slot r d u h1 h2
  nd:=by intro r;unfold upd;split;exact hn;exact h.nd r
  disj:=by
    intro r r' b hb hb';unfold upd at hb hb';split at hb<;>split at hb'
    · omega
    · exact absurd hb' ((hF b hb).2.2.2 r' (by assumption))
    · exact absurd hb ((hF b hb').2.2.2 r (by assumption))
    · exact h.disj r r' b hb hb'
  own:=by
    intro r b hb;unfold upd at hb;split at hb
    · exact ⟨(hF b hb).1,(hF b hb).2.1,(hF b hb).2.2.1⟩
    · exact h.own r b hb
  imm:=h.imm
  imm0:=h.imm0
  immN:=h.immN
theorem recomb3 {s sv:List D} {tm:Array Value} {w:World} {I:Nat→Prop} {Fs Fv:Nat→List Nat} (h:RelI w0 I0 s tm w I Fs) (hv:RelI w0 I0 sv tm w I Fv) (hsub:∀ r b,b∈Fv r→b∈Fs r) {cl:List Bool} {d:D} {s1:List D} {I':Nat→Prop} {Fs':Nat→List Nat} {F:List Nat} {v:Value} {w':World}
    (hun:∀ x u,ρS (clr cl sv) tm w' x u→ρS (clr cl s) tm w' x u) (hs:clr cl s1=clr cl sv) (h':RelI w0 I0 s1 tm w' I' Fs') (hT:T I' w' d (ρS s1 tm w') v F) (hF:Fresh w0 w' I' Fs' F)
    (f1:∀ b,I b→I' b) (f2:∀ b,I' b→I b∨w.heap.size≤b) (f3:∀ b,b∈F→w.heap.size≤b∨(∃ r,b∈Fv r)∨∀ r,b∉Fs r) (f4:∀ b,b<w.heap.size→b∉F→w'.heap[b]?=w.heap[b]?) (f5:∀ r,s1[r]?=some .undef∨Fs' r=Fv r) :
    RelI w0 I0 (clr cl s) tm w' I' (fun r=>if cl.getD r false then [] else Fs r)∧T I' w' (d.prune (keepQ cl)) (ρS (clr cl s) tm w') v F∧Fresh w0 w' I' (fun r=>if cl.getD r false then [] else Fs r) F:=by
  have hc := h.clr cl;have hdis:∀ b,b∈F→∀ r,b∉(if cl.getD r false then [] else Fs r):=by
    intro b hb r hr;cases hcl:cl.getD r false with
    | true=>rw [hcl,if_pos rfl] at hr;cases hr
    | false =>
      simp only [hcl,Bool.false_eq_true,if_false] at hr;rcases f3 b hb with hn | ⟨r',hr'⟩ | hno
      · have:=(h.own r b hr).2.1;omega
      · obtain rfl:=h.disj r r' b hr (hsub r' b hr');rcases f5 r with hu | he
        · have h1:(clr cl s1)[r]?=some .undef:=(by rw [clr_get,hu];simp [D.prune]);rw [hs,clr_get] at h1;cases hsr:sv[r]? with
          | none=>simp [hsr] at h1
          | some d0=>simp only [hsr,Option.map_some,hcl,Bool.false_eq_true,if_false,Option.some.injEq] at h1;obtain ⟨u,hu,hT0⟩:=hv.slot0 hsr;rw [T.nofoot d0 hT0 (prune_undef h1)] at hr';cases hr'
        · exact (hF.2 b hb).2.2.2 r (by rw [he];exact hr')
      · exact hno r hr
  have hsize:w.heap.size≤w'.heap.size:=by
    apply Nat.le_of_not_lt;intro hlt;by_cases hb:w'.heap.size∈F
    · exact absurd (hF.2 _ hb).2.1 (by omega)
    · have:=f4 _ hlt hb;rw [Array.getElem?_eq_none (Nat.le_refl _)] at this;rw [Array.getElem?_eq_getElem hlt] at this;cases this
  have hbel:w0.Keeps w w':=⟨h'.below.os.trans h.below.os.symm,h'.below.tape.trans h.below.tape.symm,h'.below.output.trans h.below.output.symm,hsize,fun k hk=>(h'.below.block k hk).trans (h.below.block k hk).symm⟩
  have hk:∀ x,(I x∨∃ r,x∈(if cl.getD r false then [] else Fs r))→w'.heap[x]?=w.heap[x]?:=by
    intro x hx;rcases hx with hx | ⟨r,hr⟩
    · exact f4 x (h.imm x hx) (fun hxF=>(hF.2 x hxF).2.2.1 (f1 x hx))
    · refine f4 x ?_ (fun hxF=>hdis x hxF r hr);split at hr
      · cases hr
      · exact (h.own r x hr).2.1
  have h2:=(hc.same hbel hk).immMore (I':=I') f1 (fun b hb=>(f2 b hb).imp_right (fun hn=>⟨Base.N_of h.below hn,h'.imm b hb,fun r hr=>by
    split at hr
    · cases hr
    · have:=(h.own r b hr).2.1;omega⟩))
  refine ⟨h2,T.turn (fun x u hq hx=>?_) d hT,⟨hF.1,fun b hb=>⟨(hF.2 b hb).1,(hF.2 b hb).2.1,(hF.2 b hb).2.2.1,fun r hr=>hdis b hb r hr⟩⟩⟩;have h3:=ρS.clr hq hx;rw [hs] at h3;exact hun x u h3
theorem storeAll {P:Program}{b:Nat}{e:TypeId}(hN:w0.N b):∀ (us:List Value) (k:Nat) (w:World) (cs:Array Value),w.heap[b]?=some (.cells cs e (0,0))→k+us.length=cs.size→us.all (·.oneCell')=true →
    ∃ w',(storeCells ⟨b,0,none⟩ us k).run P w=.ok () w'∧w'.heap[b]?=some (.cells (cs.toList.take k++us).toArray e (0,0))∧(∀ x,x≠b→w'.heap[x]?=w.heap[x]?)∧w0.Keeps w w'∧w'.heap.size=w.heap.size
  | [],k,w,cs,hh,hk,_=>by refine ⟨w,rfl,?_,fun _ _=>rfl,Base.Keeps.refl,rfl⟩;rw [List.take_of_length_le (by simp at hk ⊢;omega)];simpa using hh
  | u::us,k,w,cs,hh,hk,ho=>by
    simp only [List.all_cons,Bool.and_eq_true] at ho;have hlt:k<cs.size:=by simp at hk;omega
    have hcell:w.cell? ⟨b,0+k,none⟩=some cs[k]:=(by rw [cell_row hh,Nat.zero_add];simp [hlt]);have h2:=setCell_here w b (0+k) u cs e (0,0) hh;obtain ⟨w',r1,r2,r3,r4,r5⟩:=storeAll hN us (k+1) _ _ h2 (by simp at hk ⊢;omega) ho.2;refine ⟨w',?_,?_,fun x hx=>?_,(Base.Keeps.setCell hN _ _).trans r4,by rw [r5];simp [World.setCell]⟩
    · rw [store_step ho.1 (by rw [hcell];rfl) (by simp [World.frozen?,hh])];exact r1
    · rw [r2];congr 2;rw [Nat.zero_add,Array.toList_setIfInBounds,List.take_succ_eq_append_getElem (by simp;omega)];simp [List.take_set_of_le]
    · rw [r3 x hx];simp only [World.setCell,Array.getElem?_modify];rw [if_neg (fun h=>hx h.symm)]
end
end Go.V
namespace Go.V
open Go.RowKit
section
variable {P:Program} {G:World→(Nat→Prop)→Prop} {w0:Base} {I0:Nat→Prop} {ops:Array Oper} {E:List (DOp×D)} {start:List Bool} {nh:Nat} {s0:List D} {S S':Nat→Bool} {e:DOp×D} {Pre R:List (DOp×D)}
theorem put_undef {s:List D}{tm:Array Value}{w:World}{I:Nat→Prop}{Fs:Nat→List Nat}(h:RelI w0 I0 s tm w I Fs){t:Nat}(hu:s[t]?=some .undef∨s[t]?=none){d:D}{v:Value}{F:List Nat}(hT:T I w d (ρS s tm w) v F)(hF:Fresh w0 w I Fs F) :
    ∃ Fs',RelI w0 I0 (s.set t d) (tm.setIfInBounds t v) w I Fs'∧(∀ g,s.length≤g→Fs' g=Fs g)∧∀ r b,b∈Fs' r→b∈Fs r∨b∈F:=by
  rcases hu with hu | hu
  · refine ⟨upd Fs t F,h.put hu rfl hT hF.1 (fun b hb=>⟨(hF.2 b hb).1,(hF.2 b hb).2.1,(hF.2 b hb).2.2.1,fun r _=>(hF.2 b hb).2.2.2 r⟩),fun g hg=>?_,fun r b hb=>?_⟩
    · have:=(List.getElem?_eq_some_iff.1 hu).1;unfold upd;rw [if_neg (by omega)]
    · unfold upd at hb;split at hb
      · exact .inr hb
      · exact .inl hb
  · have hl:s.length≤t:=List.getElem?_eq_none_iff.1 hu;rw [List.set_eq_of_length_le hl];have:tm.setIfInBounds t v=tm:=by
      apply Array.ext_getElem?;intro i;rw [Array.getElem?_setIfInBounds];split
      · rename_i hi;subst hi;rw [if_neg (by rw [h.len];omega),Array.getElem?_eq_none (by rw [h.len];omega)]
      · rfl
    rw [this];exact ⟨Fs,h,fun _ _=>rfl,fun _ _ h=>.inl h⟩
def RelH (w0:Base)(I0:Nat→Prop)(N0:Nat)(fl:List Fl)(S:Nat→Bool)(s:List D)(a:Act)(w:World):Prop:=a.defers=[]∧∃ I Fs,RelI w0 I0 s a.tmps w I Fs∧HeldAll N0 fl S a.tmps w Fs
theorem clrU {X:List D}{m:List Bool}{t:Nat}(hX:X[t]?=some .undef∨X[t]?=none):(clr m X)[t]?=some .undef∨(clr m X)[t]?=none:=by
  rw [clr_get];rcases hX with hX | hX<;>rw [hX]
  · refine .inl ?_;simp only [Option.map_some,D.prune];split<;>rfl
  · exact .inr rfl
theorem head_stepN {N0:Nat} {fl:List Fl} (hcl:∀ w',w0.Below w'→GI G w' I0) (h:Setup ops E start nh none s0) (hE:E=Pre++e::R) (fact:EF (CT P G) none start s0 Pre e) {o:Oper} {n:Bool} (hop:ops[e.1.idx]?=some o) (hcomp:cVO P n ops o=some e.1.vo)
    (hN0:s0.length≤N0) (hcN:∀ e∈E,e.1.cl.length≤N0) (hfd:∀ f∈fl,o.dst≠some f.t) (hfj:∀ f∈fl,f.js≠e.1.idx) (hfa:∀ f∈fl,f.ia≠some e.1.idx)
    (hS:S e.1.idx=false) (hc:Closed ops S) (hb:∀ x,((befs ops).getD e.1.idx 0).testBit x=true→S x=true) (hS':S' e.1.idx=true) (hne:∀ j,j≠e.1.idx→S' j=S j) {a:Act} {w:World}
    (hRH:RelH w0 I0 N0 fl S (sig E none S s0) a w) {Q:Exit→Act→World→Prop} {K:Act→World→Prop} (hK:∀ a w,RelH w0 I0 N0 fl S' (sig E none S' s0) a w→K a w):wpOp P ops Q e.1.idx K a w:=by
  obtain ⟨hd,I,Fs,hR,hJ⟩:=hRH;have he:e∈E:=(by rw [hE];simp);have hGw:GI G w I0:=hcl _ hR.below;simp only [cVO] at hcomp;cases hg:cGuard ops o.guard with
  | none=>simp [hg] at hcomp
  | some g =>
  cases hopc:cOp P n o.op with
  | none=>simp [hg,hopc] at hcomp
  | some vop =>
  simp only [hg,hopc,Option.some.injEq] at hcomp;have hdst:e.1.vo.dst=o.dst:=by rw [← hcomp]
  have hvop:e.1.vo.op=vop:=(by rw [← hcomp]);have hguard:e.1.vo.guard=g:=(by rw [← hcomp]);unfold wpOp;rw [hop];simp only;have hslen:(sig E none S s0).length=s0.length:=sig_len;have hclg:∀ t,e.1.cl.getD (N0+t) false=false:=fun t=>by have:=hcN e he;rw [List.getD_eq_getElem?_getD,List.getElem?_eq_none (by omega)];rfl
  have held:∀ {w':World} {Fs':Nat→List Nat},(∀ f∈fl,Fs' (N0+f.t)=Fs (N0+f.t))→(∀ f∈fl,∀ b,b∈Fs (N0+f.t)→w'.heap[b]?=w.heap[b]?)→∀ v,HeldAll N0 fl S' (a.put o.dst v).tmps w' Fs':=by
    intro w' Fs' h1 h2 v f hf hi hj;have hjS:S f.js=false:=by rw [← hne _ (hfj f hf)];exact hj
    obtain ⟨b,cs,ee,k1,k2,k3,k4⟩:=hJ f hf (fun i hi'=>by
      have:=hi i hi';rwa [hne i (fun e'=>hfa f hf (e' ▸ hi'))] at this) hjS
    refine ⟨b,cs,ee,?_,by rw [h2 f hf b (by rw [k4];simp)];exact k2,k3,by rw [h1 f hf];exact k4⟩;have hne':=hfd f hf;cases hdd:o.dst with
    | none=>exact k1
    | some t=>rw [hdd] at hne';show (a.tmps.setIfInBounds t v)[f.t]?=_;rw [Array.getElem?_setIfInBounds_ne (fun h=>hne' (by rw [h]))];exact k1
  -- what is left to do once there is a result
  have put:∀ {A2:List D} {d':D} {v:Value} {w':World} {I':Nat→Prop} {Fs':Nat→List Nat} {F:List Nat},A2.length=s0.length→RelI w0 I0 A2 a.tmps w' I' Fs'→T I' w' d' (ρS A2 a.tmps w') v F→Fresh w0 w' I' Fs' F→(∀ t,e.1.vo.dst=some t→A2[t]?=some .undef∨A2[t]?=none)→setO A2 e.1.vo.dst d'=sig E none S' s0 →
      (∀ f∈fl,Fs' (N0+f.t)=Fs (N0+f.t))→(∀ f∈fl,∀ b,b∈Fs (N0+f.t)→w'.heap[b]?=w.heap[b]?)→K (a.put o.dst v) w':=by
    intro A2 d' v w' I' Fs' F hl h1 h2 h3 h4 h5 h6 h7;refine hK _ _ ?_;rw [← h5,hdst];rw [hdst] at h4;cases hdd:o.dst with
    | none=>have:=held (w':=w') h6 h7 v;rw [hdd] at this;exact ⟨hd,I',Fs',h1,this⟩
    | some t=>rw [hdd] at h4;obtain ⟨Fs2,k1,k2,_⟩:=put_undef h1 (h4 t rfl) h2 h3;have:=held (w':=w') (Fs':=Fs2) (fun f hf=>by rw [k2 _ (by omega)];exact h6 f hf) h7 v;rw [hdd] at this;exact ⟨hd,I',Fs2,k1,this⟩
  have hW:∀ iw r q,(none:Option (Nat×Nat×Path))=some (iw,r,q)→e.1.idx≠iw:=fun _ _ _ h=>by cases h
  unfold EF at fact;obtain ⟨hfr,hDF⟩:=fact;obtain ⟨Fv,hv,hsub,hun⟩:=h.view hE hS hc hb hW hR;have heq:=h.put_eq he hS hc hb hS' hne hW;have hU:∀ t,e.1.vo.dst=some t→(clr e.1.cl (sig E none S s0))[t]?=some .undef∨(clr e.1.cl (sig E none S s0))[t]?=none:=fun t ht=>clrU (h.dstUndef he ht hS);have hAl:(clr e.1.cl (sig E none S s0)).length=s0.length:=by rw [clr_len];exact hslen
  have run:NF (CT P G) (clr e.1.hid (rs none Pre s0)) e.1.cl e.1.vo.op e.2→o.wp P a w K Q:=by
    rintro ⟨s',hs',hk⟩;rw [hvop] at hk hfr;refine wp_of_runs (sim_op (nn:=true) hGw hv (fun _=>hfr) hopc hk) ?_;rintro v w' ⟨d',s1,I',Fs',F,⟨rfl,rfl⟩,hR',hT,hF,hfrm⟩;have hfrm2:=hfrm rfl;obtain ⟨h1,h2,h3⟩:=recomb2 hR hv hsub (hun a.tmps w') hs' hR' hT hF (hfrm rfl);have h4:=T.turn (q:=fun x=>qW none S x&&keepQ (clE S' E) x) (fun x u _ hx=>hx) _ h2;have hd2:(e.2.prune (keepQ e.1.cl)).prune (fun x=>qW none S x&&keepQ (clE S' E) x)=(prW none S e.2).prune (keepQ (clE S' E)):=by rw [D.prune_prune,prW_eq,D.prune_prune];refine prune_congr (fun x=>?_) _;rw [keepQ_or (fun r=>h.cl_or he hS' hne hS r) x];cases keepQ e.1.cl x<;>cases qW none S x<;>simp
    rw [hd2] at h4;refine put hAl h1 h4 h3 hU heq (fun f _=>by simp only [hclg f.t,Bool.false_eq_true,if_false]) (fun f _ b hb=>?_);refine hfrm2.2.2.2.1 b (hR.own _ b hb).2.1 (fun hbF=>(h3.2 b hbF).2.2.2 (N0+f.t) ?_);simp only [hclg f.t,Bool.false_eq_true,if_false];exact hb
  have skip:e.2=noD→K (a.put o.dst undef) w:=(by intro hno;refine put (d':=(prW none S e.2).prune (keepQ (clE S' E))) hAl (hR.clr e.1.cl) ?_ Fresh.nil hU heq (fun f _=>by simp only [hclg f.t,Bool.false_eq_true,if_false]) (fun _ _ _ _=>rfl);rw [hno,prW_eq];simp only [noD,D.prune,T];exact ⟨rfl,trivial⟩);unfold DF at hDF;rw [hguard] at hDF;cases hgo:o.guard with
  | none=>rw [hgo] at hg;simp only [cGuard,Option.some.injEq] at hg;subst hg;rw [if_pos (by simp [Region.wanted,hgo])];exact .inl (run hDF)
  | some jw =>
    obtain ⟨j,want⟩:=jw;rw [hgo] at hg;simp only [cGuard] at hg;cases hj:(ops[j]?).bind (·.dst) with
    | none=>simp [hj] at hg
    | some t =>
      simp only [hj,Option.some.injEq] at hg;subst hg;simp only at hDF;have hTt:=lkT_T hv t;have hyv:∀ x:Value,lkT (clr e.1.hid (rs none Pre s0)) t=.v x→a.tmps[t]?=some x∨(a.tmps[t]?=none∧x=undef):=by
        intro x e;rw [e] at hTt;have:=(T_v hTt).1;cases ht:a.tmps[t]? with
        | none=>simp [ht] at this;exact .inr ⟨rfl,this.symm⟩
        | some y=>simp [ht] at this;exact .inl (by rw [this])
      split at hDF
      · rename_i b e;have hy:yielded ops a.tmps j=some b:=by
          unfold yielded;rw [hj];rcases hyv _ e with h1 | ⟨_,h1⟩
          · simp [h1]
          · cases h1
        by_cases hbw:b=want
        · rw [if_pos (by simp [Region.wanted,hgo,hy,hbw])];exact .inl (run (hDF.1 hbw))
        · rw [if_neg (by simp [Region.wanted,hgo,hy,hbw])];exact skip (hDF.2 hbw)
      · rename_i x hne' e;have hy:yielded ops a.tmps j=none:=by
          unfold yielded;rw [hj];rcases hyv _ e with h1 | ⟨h1,_⟩
          · simp only [Option.bind_some,h1];split
            · rename_i b hb;cases hb;exact absurd rfl (hne' b)
            · rfl
          · simp [h1]
        rw [if_neg (by simp [Region.wanted,hgo,hy])];exact skip hDF
      · exact hDF.elim
theorem head_stepA {N0:Nat}{fl:List Fl}(hcl:∀ w',w0.Below w'→GI G w' I0)(h:Setup ops E start nh none s0)(hE:E=Pre++e::R){o:Oper}(hop:ops[e.1.idx]?=some o)(hog:o.guard=none){f:Fl}(hf:f∈fl)(hfi:f.ia=some e.1.idx){ty:TypeId}(hoo:o.op=.alloc ty)(hod:o.dst=some f.t){ti:TypeInfo}{z:Value}(hti:P.info? ty=some ti)(hz:ti.zero=some z)(hzn:z.cells.size=f.n)
    (hvd:e.1.vo.dst=none) (hft:start.getD f.t false=true) (hN0:s0.length≤N0) (hcN:∀ e∈E,e.1.cl.length≤N0) (hft2:f.t<s0.length) (hjs:S f.js=false) (hdj:∃ e2∈E,e2.1.idx=f.js∧e2.1.vo.dst=some f.t) (hdis:∀ f'∈fl,f'.t=f.t→f'=f) (hia:∀ f'∈fl,f'.ia=some e.1.idx→f'=f) (hjj:∀ f'∈fl,f'.js≠e.1.idx)
    (hS:S e.1.idx=false) (hc:Closed ops S) (hb:∀ x,((befs ops).getD e.1.idx 0).testBit x=true→S x=true) (hS':S' e.1.idx=true) (hne:∀ j,j≠e.1.idx→S' j=S j) {a:Act} {w:World}
    (hRH:RelH w0 I0 N0 fl S (sig E none S s0) a w) {Q:Exit→Act→World→Prop} {K:Act→World→Prop} (hK:∀ a w,RelH w0 I0 N0 fl S' (sig E none S' s0) a w→K a w):wpOp P ops Q e.1.idx K a w:=by
  obtain ⟨hd,I,Fs,hR,hJ⟩:=hRH;have he:e∈E:=(by rw [hE];simp);have hW:∀ iw r q,(none:Option (Nat×Nat×Path))=some (iw,r,q)→e.1.idx≠iw:=fun _ _ _ h=>by cases h
  have heq:=h.put_eq he hS hc hb hS' hne hW;rw [hvd] at heq;have heq':clr e.1.cl (sig E none S s0)=sig E none S' s0:=heq;unfold wpOp;rw [hop];simp only;rw [if_pos (by simp [Region.wanted,hog])];refine .inl ?_;have hclg:∀ t,e.1.cl.getD (N0+t) false=false:=fun t=>by have:=hcN e he;rw [List.getD_eq_getElem?_getD,List.getElem?_eq_none (by omega)];rfl
  have hrun:(execOp a.eval o).run P w=.ok (.value (.pointer (some ⟨w.heap.size,0,none⟩))) { w with heap:=w.heap.push (.cells z.cells ty) }:=(by simp [execOp,hoo,Instr.alloc,zeroValue,typeInfo,hti,hz,newVar,newRow]);refine wp_of_runs (RunsTo.value (R:=fun v w'=>v=.pointer (some ⟨w.heap.size,0,none⟩)∧w'={ w with heap:=w.heap.push (.cells z.cells ty) }) hrun ⟨rfl,rfl⟩) ?_;rintro v w' ⟨rfl,rfl⟩;refine hK _ _ ?_;have hbel:Go.RowKit.Below w.heap.size w { w with heap:=w.heap.push (.cells z.cells ty) }:=⟨rfl,rfl,rfl,by simp,fun k hk=>by
    rw [Array.getElem?_push,if_neg (by omega)]⟩
  have h1:=(hR.clr e.1.cl).world hbel;rw [heq'] at h1;have hlen:(sig E none S' s0).length=s0.length:=sig_len;obtain ⟨e2,he2,hei,hed⟩:=hdj;have hjS':S' f.js=false:=(by rw [hne _ (hjj f hf)];exact hjs);have hu:=h.dstUndef he2 hed (S:=S') (by rw [hei];exact hjS');obtain ⟨Fs2,k1,k2,k3⟩:=put_undef h1 hu (d:=.undef) (v:=.pointer (some ⟨w.heap.size,0,none⟩)) (F:=[]) (by simp [T]) Fresh.nil;have hset:(sig E none S' s0).set f.t .undef=sig E none S' s0:=by
    apply List.ext_getElem?;intro i;rw [List.getElem?_set];split
    · rename_i hi;subst hi;rcases hu with hu | hu
      · rw [if_pos (by rw [hlen];exact hft2),hu]
      · rw [hu,if_neg (by have:=List.getElem?_eq_none_iff.1 hu;omega)]
    · rfl
  rw [hset] at k1;have hbnew:∀ r,w.heap.size∉Fs2 r:=by
    intro r hr;rcases k3 r _ hr with hr | hr
    · split at hr
      · cases hr
      · have:=(hR.own r _ hr).2.1;omega
    · cases hr
  have hghost:=k1.ghost (g:=N0+f.t) (F:=[w.heap.size]) (by rw [hlen];omega) (by simp) (fun b hb=>by
    simp only [List.mem_singleton] at hb;subst hb;exact ⟨Base.N_of hR.below (Nat.le_refl _),by simp,fun hI=>by have:=hR.imm _ hI;omega,fun r _=>hbnew r⟩)
  refine ⟨(by rw [hod];exact hd),I,_,(by rw [hod];exact hghost),?_⟩;rw [hod];intro f' hf' hi hj;by_cases hff:f'=f
  · subst hff;refine ⟨w.heap.size,z.cells,ty,?_,by simp,hzn,by simp [upd]⟩;show (a.tmps.setIfInBounds f'.t _)[f'.t]?=_;have:f'.t<a.tmps.size:=by rw [hR.len,sig_len];exact hft2
    simp [this]
  · have hjS:S f'.js=false:=(by rw [← hne _ (hjj f' hf')];exact hj);obtain ⟨b,cs,ee,m1,m2,m3,m4⟩:=hJ f' hf' (fun i hi'=>by
      have:=hi i hi';rwa [hne i (fun e'=>hff (hia f' hf' (e' ▸ hi')))] at this) hjS
    have htne:f'.t≠f.t:=fun h=>hff (hdis f' hf' h);have hbl:=(hR.own (N0+f'.t) b (by rw [m4];simp)).2.1;refine ⟨b,cs,ee,?_,?_,m3,?_⟩
    · show (a.tmps.setIfInBounds f.t _)[f'.t]?=_;rw [Array.getElem?_setIfInBounds_ne (Ne.symm htne)];exact m1
    · rw [Array.getElem?_push,if_neg (by omega)];exact m2
    · unfold upd;rw [if_neg (by omega),k2 _ (by rw [hlen];omega)];simp only [hclg f'.t,Bool.false_eq_true,if_false];exact m4
end
end Go.V
namespace Go.V
open Go.RowKit
theorem Cells.ones {I:Nat→Prop}{w:World}{ρ:D→Value→Prop}:∀ (ds:List D) {us:List Value} {F:List Nat},Cells I w ds ρ us F→us.all (·.oneCell')=true
  | [],us,F,h=>by simp only [Cells] at h;rw [h.1];rfl
  | d::ds,us,F,h=>by simp only [Cells] at h;obtain ⟨u,us',F1,F2,e,_,ho,_,h2⟩:=h;rw [e,List.all_cons,ho,Cells.ones ds h2];rfl
section
variable {P:Program} {G:World→(Nat→Prop)→Prop} {w0:Base} {I0:Nat→Prop} {ops:Array Oper} {E:List (DOp×D)} {start:List Bool} {nh:Nat} {s0:List D} {S S':Nat→Bool} {e:DOp×D} {Pre R:List (DOp×D)}
theorem head_stepF {N0:Nat} {fl:List Fl} (h:Setup ops E start nh none s0) (hE:E=Pre++e::R) (fact:EF (CT P G) none start s0 Pre e) {o:Oper} (hop:ops[e.1.idx]?=some o) (hog:o.guard=none) {f:Fl} (hf:f∈fl) (hfj:f.js=e.1.idx) {ty:TypeId} {x:Operand} (hoo:o.op=.store ty (.tmp f.t) x) (hod:o.dst=none) (hti:(P.info? ty).map (·.size)=some f.n)
    (hvo:e.1.vo=⟨some f.t,none,.box x⟩) (hlen:∃ cells,e.2=.box none cells∧cells.length=f.n) (hN0:s0.length≤N0) (hcN:∀ e∈E,e.1.cl.length≤N0) (hia:∀ i,f.ia=some i→((befs ops).getD e.1.idx 0).testBit i=true) (hdis:∀ f'∈fl,f'.t=f.t→f'=f) (haa:∀ f'∈fl,f'.ia≠some e.1.idx)
    (hS:S e.1.idx=false) (hc:Closed ops S) (hb:∀ x,((befs ops).getD e.1.idx 0).testBit x=true→S x=true) (hS':S' e.1.idx=true) (hne:∀ j,j≠e.1.idx→S' j=S j) {a:Act} {w:World}
    (hRH:RelH w0 I0 N0 fl S (sig E none S s0) a w) {Q:Exit→Act→World→Prop} {K:Act→World→Prop} (hK:∀ a w,RelH w0 I0 N0 fl S' (sig E none S' s0) a w→K a w):wpOp P ops Q e.1.idx K a w:=by
  obtain ⟨hd,I,Fs,hR,hJ⟩:=hRH;have he:e∈E:=(by rw [hE];simp);have hslen:(sig E none S s0).length=s0.length:=sig_len;have hclg:∀ t,e.1.cl.getD (N0+t) false=false:=fun t=>by have:=hcN e he;rw [List.getD_eq_getElem?_getD,List.getElem?_eq_none (by omega)];rfl
  obtain ⟨b,cs,ee,k1,k2,k3,k4⟩:=hJ f hf (fun i hi=>hb i (hia i hi)) (by rw [hfj];exact hS);have hown:=hR.own (N0+f.t) b (by rw [k4];simp);have hRD:=hR.ghost (g:=N0+f.t) (F:=[]) (by rw [hslen];omega) List.nodup_nil (fun _ h=>by cases h);have hnob:∀ r,b∉upd Fs (N0+f.t) [] r:=by
    intro r hr;unfold upd at hr;split at hr
    · cases hr
    · rename_i hrg;exact hrg (hR.disj r (N0+f.t) b hr (by rw [k4];simp))
  have hW:∀ iw r q,(none:Option (Nat×Nat×Path))=some (iw,r,q)→e.1.idx≠iw:=fun _ _ _ h=>by cases h
  obtain ⟨Fv,hv,hsub,hun⟩:=h.view hE hS hc hb hW hRD;have heq:=h.put_eq he hS hc hb hS' hne hW;have hvd:e.1.vo.dst=some f.t:=(by rw [hvo]);have hU:(clr e.1.cl (sig E none S s0))[f.t]?=some .undef∨(clr e.1.cl (sig E none S s0))[f.t]?=none:=clrU (h.dstUndef he hvd hS);have hAl:(clr e.1.cl (sig E none S s0)).length=s0.length:=(by rw [clr_len];exact hslen);unfold EF at fact;obtain ⟨_,hDF⟩:=fact;rw [hvo] at hDF;unfold DF at hDF;simp only at hDF;obtain ⟨s',hs',hk⟩:=hDF;simp only [evalK] at hk;obtain ⟨hok,hd2,hs2⟩:=hk;obtain ⟨Fs1,F,h1,hT,hF,hsub1,hin,hst⟩:=tk_T hv x;have hC:=cells_T h1 hT hok;obtain ⟨cells,hc1,hc2⟩:=hlen;rw [hc1] at hd2;simp only [D.box.injEq,true_and] at hd2;have hul:(a.eval x).cells.toList.length=f.n:=(by have:=hC.len;rw [hd2] at this;omega);obtain ⟨w',r1,r2,r3,r4,r5⟩:=storeAll (P:=P) (e:=ee) hown.1 (a.eval x).cells.toList 0 w cs k2 (by rw [Nat.zero_add,hul,k3]) (Cells.ones _ hC);rw [List.take_zero,List.nil_append] at r2;have hnF:b∉F:=fun hbF=>by obtain ⟨r,hr⟩:=hin b hbF;exact hnob r (hsub r b hr)
  have hn1:∀ r,b∉Fs1 r:=fun r hr=>hnob r (hsub r b (hsub1 r b hr));have hkp:∀ y,(I y∨∃ r,y∈Fs1 r)→w'.heap[y]?=w.heap[y]?:=fun y hy=>r3 y (by
    rintro rfl;rcases hy with hy | ⟨r,hr⟩
    · exact hown.2.2 hy
    · exact hn1 r hr)
  have h1':=h1.same r4 hkp;have hC':Cells I w' cells (ρS (tk (clr e.1.hid (rs none Pre s0)) x).2 a.tmps w') (a.eval x).cells.toList F:=by
    rw [← hd2];refine (Cells.keep _ hC (fun y hy=>r3 y ?_)).res (fun y v hx=>ρS_same h1 hkp hx);rintro rfl;rcases hy with hy | hy
    · exact hown.2.2 hy
    · exact hnF hy
  have hT':T I w' (.box none cells) (ρS (tk (clr e.1.hid (rs none Pre s0)) x).2 a.tmps w') (.pointer (some ⟨b,0,none⟩)) (b::F):=(by simp only [T];exact ⟨b,_,ee,F,rfl,(fun _ h=>by cases h),r2,rfl,by simpa using hC'⟩);have hF':Fresh w0 w' I Fs1 (b::F):=by
    refine ⟨List.nodup_cons.2 ⟨hnF,hF.1⟩,fun y hy=>?_⟩;rcases List.mem_cons.1 hy with rfl | hy
    · exact ⟨hown.1,by rw [r5];exact hown.2.1,hown.2.2,hn1⟩
    · have:=hF.2 y hy;exact ⟨this.1,by rw [r5];exact this.2.1,this.2.2.1,this.2.2.2⟩
  rw [hs2] at h1' hT' hst;obtain ⟨g1,g2,g3⟩:=recomb3 hRD hv hsub (hun a.tmps w') hs' h1' hT' hF' (fun _ h=>h) (fun _ h=>.inl h) (fun y hy=>by
    rcases List.mem_cons.1 hy with rfl | hy
    · exact .inr (.inr hnob)
    · exact .inr (.inl (hin y hy))) (fun y _ hy=>r3 y (fun h=>hy (by rw [h];simp))) hst
  have g4:=T.turn (q:=fun x=>qW none S x&&keepQ (clE S' E) x) (fun x u _ hx=>hx) _ g2;have hd3:((D.box none cells).prune (keepQ e.1.cl)).prune (fun x=>qW none S x&&keepQ (clE S' E) x)=(prW none S e.2).prune (keepQ (clE S' E)):=(by rw [hc1,D.prune_prune,prW_eq,D.prune_prune];refine prune_congr (fun x=>?_) _;rw [keepQ_or (fun r=>h.cl_or he hS' hne hS r) x];cases keepQ e.1.cl x<;>cases qW none S x<;>simp);rw [hd3] at g4;rw [hvd] at heq;obtain ⟨Fs2,p1,p2,_⟩:=put_undef g1 hU g4 g3;have htm:a.tmps.setIfInBounds f.t (.pointer (some ⟨b,0,none⟩))=a.tmps:=by
    apply Array.ext_getElem?;intro i;rw [Array.getElem?_setIfInBounds];split
    · rename_i hi;subst hi;rw [k1,if_pos (Array.getElem?_eq_some_iff.1 k1).1]
    · rfl
  have heq':(clr e.1.cl (sig E none S s0)).set f.t ((prW none S e.2).prune (keepQ (clE S' E)))=sig E none S' s0:=heq;rw [htm,heq'] at p1;unfold wpOp;rw [hop];simp only;rw [if_pos (by simp [Region.wanted,hog])];refine .inl ?_;have hev:a.eval (.tmp f.t)=.pointer (some ⟨b,0,none⟩):=(by show a.tmps.getD f.t undef=_;simp [k1]);have hrun:(execOp a.eval o).run P w=.ok .skip w':=by
    cases hq:P.info? ty with
    | none=>simp [hq] at hti
    | some ii =>
      simp [hq] at hti;have hsz:(a.eval x).cells.size=f.n:=by simpa using hul
      simp [execOp,hoo,hev,Instr.storeAt,Instr.sureAddr,storeVar,sizeOf,typeInfo,hq,hti,hsz,r1]
  refine wp_of_runs (R:=fun v w2=>w2=w') (by unfold RunsTo;rw [hrun]) ?_;rintro v w2 rfl;rw [hod];refine hK _ _ ⟨hd,I,Fs2,p1,?_⟩;intro f' hf' hi hj;by_cases hff:f'=f
  · subst hff;rw [hfj,hS'] at hj;cases hj
  · have htne:f'.t≠f.t:=fun h=>hff (hdis f' hf' h);by_cases hjs:f'.js=e.1.idx
    · rw [hjs,hS'] at hj;cases hj
    · obtain ⟨b',cs',ee',m1,m2,m3,m4⟩:=hJ f' hf' (fun i hi'=>by
        have:=hi i hi';rwa [hne i (fun e'=>haa f' hf' (e' ▸ hi'))] at this) (by rw [← hne _ hjs];exact hj)
      refine ⟨b',cs',ee',m1,?_,m3,?_⟩
      · rw [r3 b' (fun h=>?_)]
        · exact m2
        · have:=hR.disj (N0+f'.t) (N0+f.t) b (by rw [m4,h];simp) (by rw [k4];simp);omega
      · rw [p2 _ (by rw [hAl];omega)];simp only [hclg f'.t,Bool.false_eq_true,if_false];unfold upd;rw [if_neg (by omega)];exact m4
end
end Go.V
namespace Go.V
open Go.RowKit
def pwF:List Fl→Bool
  | []=>true
  | f::l=>l.all (fun g=>f.t != g.t&&f.js != g.js&&(f.ia.isNone||f.ia != g.ia))&&pwF l
theorem pwF_eq {p:Fl→Fl→Prop}(hp:∀ f g,(f.t != g.t&&f.js != g.js&&(f.ia.isNone||f.ia != g.ia))=true→¬ p f g∧¬ p g f):∀ {l:List Fl},pwF l=true→∀ f∈l,∀ g∈l,p f g→f=g
  | [],_,f,hf,_,_,_=>by cases hf
  | x::l,h,f,hf,g,hg,hpq=>by
    simp only [pwF,Bool.and_eq_true] at h;obtain ⟨h1,h2⟩:=h;rw [List.all_eq_true] at h1;rcases List.mem_cons.1 hf with e1 | hf' <;> rcases List.mem_cons.1 hg with e2 | hg'
    · rw [e1,e2]
    · subst e1;exact absurd hpq (hp _ _ (h1 g hg')).1
    · subst e2;exact absurd hpq (hp _ _ (h1 f hf')).2
    · exact pwF_eq hp h2 f hf' g hg' hpq
theorem pwF_t {l:List Fl}(h:pwF l=true){f g:Fl}(hf:f∈l)(hg:g∈l)(e:f.t=g.t):f=g :=
  pwF_eq (p:=fun f g=>f.t=g.t) (fun f g h=>by simp only [Bool.and_eq_true,bne_iff_ne] at h;exact ⟨h.1.1,fun e=>h.1.1 e.symm⟩) h f hf g hg e
theorem pwF_js {l:List Fl}(h:pwF l=true){f g:Fl}(hf:f∈l)(hg:g∈l)(e:f.js=g.js):f=g :=
  pwF_eq (p:=fun f g=>f.js=g.js) (fun f g h=>by simp only [Bool.and_eq_true,bne_iff_ne] at h;exact ⟨h.1.2,fun e=>h.1.2 e.symm⟩) h f hf g hg e
theorem pwF_ia {l:List Fl}(h:pwF l=true){f g:Fl}(hf:f∈l)(hg:g∈l){i:Nat}(e:f.ia=some i)(e':g.ia=some i):f=g :=
  pwF_eq (p:=fun f g=>∃ i,f.ia=some i∧g.ia=some i) (fun f g h=>by
    simp only [Bool.and_eq_true,Bool.or_eq_true,bne_iff_ne] at h;have:=h.2;refine ⟨?_,?_⟩
    · rintro ⟨i,e1,e2⟩;rcases this with h | h
      · rw [e1] at h;cases h
      · exact h (e1.trans e2.symm)
    · rintro ⟨i,e1,e2⟩;rcases this with h | h
      · rw [e2] at h;cases h
      · exact h (e2.trans e1.symm)) h f hf g hg ⟨i,e,e'⟩
section
variable (P:Program)
def cVB (ops:Array Oper) (fl:List Fl) (i:Nat):Option VO:=match ops[i]? with
  | none=>none
  | some o => match fl.find? (fun f=>f.js==i) with
    | some f=>if (o.guard.isNone&&o.dst.isNone)=true then match o.op with
        | .store ty (.tmp t) x=>if (t==f.t&&(P.info? ty).map (·.size)==some f.n)=true then some ⟨some f.t,none,.box x⟩ else none
        | _=>none
      else none
    | none => match fl.find? (fun f=>f.ia==some i) with
      | some f=>if (o.guard.isNone&&o.dst==some f.t)=true then match o.op with
          | .alloc ty=>match P.info? ty with
            | some ti=>match ti.zero with
              | some z=>if (z.cells.size==f.n)=true then some ⟨none,none,.mv (.const (.tuple #[]))⟩ else none
              | none=>none
            | none=>none
          | _=>none
        else none
      | none=>if fl.any (fun f=>o.dst==some f.t)=true then none else cVO P true ops o
def flOK (bs:List Nat)(nh:Nat)(fl:List Fl):Bool:=pwF fl&&fl.all (fun f=>decide (f.js<nh)&&(match f.ia with | some i=>(bs.getD f.js 0).testBit i | none=>true)&&fl.all (fun g=>g.ia != some f.js))
end
theorem boxesS_mem {s:List D}:∀ {l:List (Nat×Nat)},boxesS s l→∀ p∈l,boxS s p.1 p.2
  | [],_,p,hp=>by cases hp
  | x::l,h,p,hp=>by
    rcases List.mem_cons.1 hp with rfl | hp
    · exact h.1
    · exact boxesS_mem h.2 p hp
theorem boxesZ_mem {s:List D}:∀ {l:List (Nat×Nat)},boxesZ s l→∀ p∈l,boxZ s p.1 p.2
  | [],_,p,hp=>by cases hp
  | x::l,h,p,hp=>by
    rcases List.mem_cons.1 hp with rfl | hp
    · exact h.1
    · exact boxesZ_mem h.2 p hp
def preOf (fl:List Fl):List (Nat×Nat):=(fl.filter fun f=>f.ia.isNone).map fun f=>(f.t,f.n)
def filOf (fl:List Fl):List (Nat×Nat):=fl.map fun f=>(f.t,f.n)
section
variable {P:Program} {G:World→(Nat→Prop)→Prop} {w0:Base} {I0:Nat→Prop} {ops:Array Oper} {E:List (DOp×D)} {start:List Bool} {nh:Nat} {s0:List D} {S S':Nat→Bool} {e:DOp×D} {Pre R:List (DOp×D)}
theorem head_stepB {N0:Nat} {fl:List Fl} (hcl:∀ w',w0.Below w'→GI G w' I0) (h:Setup ops E start nh none s0) (hE:E=Pre++e::R) (fact:EF (CT P G) none start s0 Pre e) (hcb:∀ e∈E,cVB P ops fl e.1.idx=some e.1.vo) (hall:∀ i,i<nh→∃ e∈E,e.1.idx=i) (hfl:flOK (befs ops) nh fl=true) (hbz:∀ f∈fl,boxZ (ovE (fun _=>true) E s0) f.t f.n)
    (hN0:s0.length≤N0) (hcN:∀ e∈E,e.1.cl.length≤N0)
    (hS:S e.1.idx=false) (hc:Closed ops S) (hb:∀ x,((befs ops).getD e.1.idx 0).testBit x=true→S x=true) (hS':S' e.1.idx=true) (hne:∀ j,j≠e.1.idx→S' j=S j) {a:Act} {w:World}
    (hRH:RelH w0 I0 N0 fl S (sig E none S s0) a w) {Q:Exit→Act→World→Prop} {K:Act→World→Prop} (hK:∀ a w,RelH w0 I0 N0 fl S' (sig E none S' s0) a w→K a w):wpOp P ops Q e.1.idx K a w:=by
  have he:e∈E:=(by rw [hE];simp);simp only [flOK,Bool.and_eq_true] at hfl;obtain ⟨hpw,hfa⟩:=hfl;rw [List.all_eq_true] at hfa;have hfa':∀ f∈fl,f.js<nh∧(∀ i,f.ia=some i→((befs ops).getD f.js 0).testBit i=true)∧∀ g∈fl,g.ia≠some f.js:=by
    intro f hf;have:=hfa f hf;simp only [Bool.and_eq_true,decide_eq_true_eq] at this;refine ⟨this.1.1,fun i hi=>?_,fun g hg=>?_⟩
    · have h2:=this.1.2;rw [hi] at h2;exact h2
    · have h2:=this.2;rw [List.all_eq_true] at h2;simpa using h2 g hg
  -- the entry of a box's store
  have entry:∀ f∈fl,∃ e2∈E,e2.1.idx=f.js∧e2.1.vo.dst=some f.t:=by
    intro f hf;obtain ⟨e2,h1,h2⟩:=hall f.js (hfa' f hf).1;refine ⟨e2,h1,h2,?_⟩;have:=hcb e2 h1;rw [h2] at this;unfold cVB at this;split at this
    · cases this
    · split at this
      · rename_i f2 hf2;have hm:=List.mem_of_find?_eq_some hf2;have hj:=List.find?_some hf2;have hff:f2=f:=pwF_js hpw hm hf (by simpa using hj);subst hff;split at this
        · split at this
          · split at this
            · simp only [Option.some.injEq] at this;rw [← this]
            · cases this
          · cases this
        · cases this
      · rename_i hn;rw [List.find?_eq_none] at hn;exact absurd (beq_self_eq_true f.js) (hn f hf)
  have hco:=hcb e he;unfold cVB at hco;split at hco
  · cases hco
  · rename_i o hop; split at hco
    · rename_i f hfind;have hf:=List.mem_of_find?_eq_some hfind;have hj:f.js=e.1.idx:=by simpa using List.find?_some hfind
      split at hco
      · rename_i hgd;simp only [Bool.and_eq_true,Option.isNone_iff_eq_none] at hgd;split at hco
        · rename_i ty t x hoo;split at hco
          · rename_i htn;simp only [Bool.and_eq_true,beq_iff_eq] at htn;obtain ⟨rfl,hti⟩:=htn;simp only [Option.some.injEq] at hco;have hval:(ovE (fun _=>true) E s0)[f.t]?=(s0[f.t]?).map fun _=>e.2:=ovE_in E s0 e he h.dsts (by rw [← hco]) rfl;have hz:=hbz f hf;unfold boxZ at hz;rw [hval] at hz;have hlen:∃ cells,e.2=.box none cells∧cells.length=f.n:=by
              cases hs:s0[f.t]? with
              | none=>rw [hs] at hz;exact hz.elim
              | some d0 =>
                rw [hs] at hz;simp only [Option.map_some] at hz;split at hz
                · rename_i cells hcs;simp only [Option.some.injEq] at hcs;exact ⟨cells,hcs,hz⟩
                · exact hz.elim
            exact head_stepF h hE fact hop hgd.1 hf hj hoo hgd.2 hti hco.symm hlen hN0 hcN (fun i hi=>by rw [← hj];exact (hfa' f hf).2.1 i hi) (fun f' hf' ht=>pwF_t hpw hf' hf ht) (fun f' hf'=>by rw [← hj];exact (hfa' f hf).2.2 f' hf') hS hc hb hS' hne hRH hK
          · cases hco
        · cases hco
      · cases hco
    · rename_i hnj; rw [List.find?_eq_none] at hnj;have hnj':∀ f∈fl,f.js≠e.1.idx:=fun f hf=>by simpa using hnj f hf
      split at hco
      · rename_i f hfind;have hf:=List.mem_of_find?_eq_some hfind;have hi:f.ia=some e.1.idx:=by simpa using List.find?_some hfind
        split at hco
        · rename_i hgd;simp only [Bool.and_eq_true,Option.isNone_iff_eq_none,beq_iff_eq] at hgd;split at hco
          · rename_i ty hoo;split at hco
            · rename_i ti hti;split at hco
              · rename_i z hz;split at hco
                · rename_i hzn;simp only [Option.some.injEq] at hco;obtain ⟨e2,m1,m2,m3⟩:=entry f hf;obtain ⟨A,B,hAB⟩:=List.append_of_mem m1;have hst:=(h.ok A e2 B hAB).dst f.t m3;have hlt:f.t<s0.length:=by have hzz:=hbz f hf;unfold boxZ at hzz;apply Nat.lt_of_not_le;intro hle;rw [List.getElem?_eq_none (by rw [ovE_len];exact hle)] at hzz;exact hzz
                  have hjs:S f.js=false:=by
                    cases hs:S f.js with
                    | false=>rfl
                    | true=>have:=hc _ _ hs ((hfa' f hf).2.1 _ hi);rw [hS] at this;cases this
                  exact head_stepA hcl h hE hop hgd.1 hf hi hoo hgd.2 hti hz (by simpa using hzn) (by rw [← hco]) hst hN0 hcN hlt hjs ⟨e2,m1,m2,m3⟩ (fun f' hf' ht=>pwF_t hpw hf' hf ht) (fun f' hf' hi'=>pwF_ia hpw hf' hf hi' hi) hnj' hS hc hb hS' hne hRH hK
                · cases hco
              · cases hco
            · cases hco
          · cases hco
        · cases hco
      · rename_i hni;rw [List.find?_eq_none] at hni;split at hco
        · cases hco
        · rename_i hna;refine head_stepN hcl h hE fact hop hco hN0 hcN (fun f hf hd=>hna ?_) hnj' (fun f hf hi=>?_) hS hc hb hS' hne hRH hK
          · rw [List.any_eq_true];exact ⟨f,hf,by simpa using hd⟩
          · have:=hni f hf;rw [hi] at this;simp at this
end
end Go.V
namespace Go.V
open Go.RowKit
section
variable {P:Program} {G:World→(Nat→Prop)→Prop} {w0:Base} {I0:Nat→Prop} {ops:Array Oper} {E:List (DOp×D)} {start:List Bool} {nh:Nat} {s0:List D}
theorem head_anyB (hcl:∀ w',w0.Below w'→GI G w' I0) {N0:Nat} {fl:List Fl} (h:Setup ops E start nh none s0) (fact:∀ Pre e R,E=Pre++e::R→EF (CT P G) none start s0 Pre e) (hall:∀ i,i<nh→∃ e∈E,e.1.idx=i) (hcb:∀ e∈E,cVB P ops fl e.1.idx=some e.1.vo) (hfl:flOK (befs ops) nh fl=true) (hbz:∀ f∈fl,boxZ (ovE (fun _=>true) E s0) f.t f.n) (hN0:s0.length≤N0) (hcN:∀ e∈E,e.1.cl.length≤N0) (hnh:nh≤ops.size)
    (htail:∀ t,nh≤t→t<ops.size→∀ i,i<nh→((befs ops).getD t 0).testBit i=true) {Q:Exit→Act→World→Prop}
    (hend:∀ a w,Rel w0 I0 (sig E none (fun _=>true) s0) a w→wpAny P .any ops Q (ops.size-nh) (headArr ops.size nh) a w) :
    ∀ (fuel:Nat) (listed:Array Bool) (a:Act) (w:World),listed.size=ops.size→Closed ops (fun i=>listed.getD i false)→(∀ i,nh≤i→listed.getD i false=false)→fuel=cnt (fun i=>listed.getD i false) nh+(ops.size-nh)→RelH w0 I0 N0 fl (fun i=>listed.getD i false) (sig E none (fun i=>listed.getD i false) s0) a w→wpAny P .any ops Q fuel listed a w:=by
  intro fuel;induction fuel with
  | zero =>
    intro listed a w hsz hc ht hf hR;have hcnt:cnt (fun i=>listed.getD i false) nh=0:=by omega
    have hz:=cnt_zero hcnt;have hlist:listed=headArr ops.size nh:=by
      apply Array.ext_getElem?;intro i;by_cases hi:i<ops.size
      · rw [headArr_get hi,Array.getElem?_eq_getElem (by omega)];congr 1;have h1:listed.getD i false=listed[i]'(by omega):=by simp [hsz,hi]
        rw [← h1];by_cases hin:i<nh
        · simp only [hin,decide_true];exact hz i hin
        · simp only [hin,decide_false];exact ht i (by omega)
      · rw [Array.getElem?_eq_none (by omega),Array.getElem?_eq_none (by unfold headArr;simp;omega)]
    have hsig:sig E none (fun i=>listed.getD i false) s0=sig E none (fun _=>true) s0:=sig_congr (fun e he=>hz _ (by
      obtain ⟨A,B,hAB⟩:=List.append_of_mem he;exact (h.ok A e B hAB).lt)) (fun _ _ _ hwe=>by cases hwe)
    obtain ⟨hd,I,Fs,hRI,_⟩:=hR;have hR:Rel w0 I0 (sig E none (fun i=>listed.getD i false) s0) a w:=⟨hd,I,Fs,hRI⟩
    rw [hsig] at hR;have:=hend a w hR;rw [show ops.size-nh=0 by omega] at this;rw [hlist];exact this
  | succ fuel ih =>
    intro listed a w hsz hc ht hf hR;by_cases hcnt:cnt (fun i=>listed.getD i false) nh=0
    · have hz:=cnt_zero hcnt;have hlist:listed=headArr ops.size nh:=by
        apply Array.ext_getElem?;intro i;by_cases hi:i<ops.size
        · rw [headArr_get hi,Array.getElem?_eq_getElem (by omega)];congr 1;have h1:listed.getD i false=listed[i]'(by omega):=by simp [hsz,hi]
          rw [← h1];by_cases hin:i<nh
          · simp only [hin,decide_true];exact hz i hin
          · simp only [hin,decide_false];exact ht i (by omega)
        · rw [Array.getElem?_eq_none (by omega),Array.getElem?_eq_none (by unfold headArr;simp;omega)]
      have hsig:sig E none (fun i=>listed.getD i false) s0=sig E none (fun _=>true) s0:=sig_congr (fun e he=>hz _ (by
        obtain ⟨A,B,hAB⟩:=List.append_of_mem he;exact (h.ok A e B hAB).lt)) (fun _ _ _ hwe=>by cases hwe)
      obtain ⟨hd,I,Fs,hRI,_⟩:=hR;have hR:Rel w0 I0 (sig E none (fun i=>listed.getD i false) s0) a w:=⟨hd,I,Fs,hRI⟩
      rw [hsig] at hR;have:=hend a w hR;rw [hlist,hf,hcnt,Nat.zero_add];exact this
    · -- some operation of the head is still to come
      have hex:∃ i,i<nh∧listed.getD i false=false:=by
        apply Classical.byContradiction;intro hn;apply hcnt;apply cnt_all;intro i hi;cases hS:listed.getD i false with
        | true=>rfl
        | false=>exact absurd ⟨i,hi,hS⟩ hn
      have getB:∀ i,i<ops.size→listed.getD i true=listed.getD i false:=fun i hi=>by have:i<listed.size:=(by omega);simp [this]
      refine ⟨fun h0=>?_,fun i hi=>?_⟩
      · exfalso;obtain ⟨i,hi,hS⟩:=hex;obtain ⟨e,he,rfl⟩:=hall i hi;obtain ⟨A,x,B,hAB,hx,hA⟩:=first_split (p:=fun e:DOp×D=>listed.getD e.1.idx false=false) E ⟨e,he,hS⟩;obtain ⟨op,hop,hedge⟩:=(h.ok A x B hAB).edge;have hlt:x.1.idx<ops.size:=Nat.lt_of_lt_of_le (h.ok A x B hAB).lt hnh;have:x.1.idx∈Region.ready .any ops listed:=by rw [mem_ready];refine ⟨by rw [getB _ hlt];exact hx,op,hop,fun ed hed hb=>?_⟩;obtain ⟨p,hp,hpe⟩:=hedge ed (by simpa using hed) hb;have:=hA p hp;rw [hpe] at this;simpa using this
        rw [h0] at this;cases this
      · obtain ⟨hun,o,hoi,hed⟩:=mem_ready.1 hi;have hilt:i<ops.size:=(by apply Nat.lt_of_not_le;intro hle;rw [Array.getElem?_eq_none hle] at hoi;cases hoi);have hS:listed.getD i false=false:=(by rw [← getB i hilt];exact hun);have hb:∀ x,((befs ops).getD i 0).testBit x=true→listed.getD x false=true:=by
          intro x hx;obtain ⟨o',ho',ed,h1,h2,h3⟩:=befs_spec hx;rw [hoi] at ho';cases ho';have:=hed ed (by simpa using h1) h2;rcases h3 with rfl | h3
          · exact this
          · exact hc _ _ this h3
        have hin:i<nh:=(by apply Nat.lt_of_not_le;intro hle;obtain ⟨j,hj,hjS⟩:=hex;rw [hb j (htail i hle hilt j hj)] at hjS;cases hjS);obtain ⟨e,he,rfl⟩:=hall i hin;obtain ⟨A,B,hAB⟩:=List.append_of_mem he;have hset:∀ j,(listed.setIfInBounds e.1.idx true).getD j false=if j=e.1.idx then true else listed.getD j false:=by
          intro j;by_cases hj:j=e.1.idx
          · subst hj;have:e.1.idx<listed.size:=by omega
            simp [this]
          · rw [if_neg hj,getD_set_ne false (Ne.symm hj)]
        refine head_stepB hcl h hAB (fact A e B hAB) hcb hall hfl hbz hN0 hcN (S:=fun i=>listed.getD i false) (S':=fun i=>(listed.setIfInBounds e.1.idx true).getD i false) hS hc hb (by simp only [hset];simp) (fun j hj=>by simp only [hset,if_neg hj]) hR ?_;intro a' w' hR';refine ih _ a' w' (by simp [hsz]) ?_ (fun j hj=>?_) ?_ hR'
        · intro j x hj hx;simp only [hset] at hj ⊢;by_cases hxe:x=e.1.idx
          · rw [if_pos hxe]
          · rw [if_neg hxe];by_cases hje:j=e.1.idx
            · subst hje;exact hb x hx
            · rw [if_neg hje] at hj;exact hc j x hj hx
        · rw [hset,if_neg (by omega)];exact ht j hj
        · have:=cnt_set (S:=fun i=>listed.getD i false) (S':=fun i=>(listed.setIfInBounds e.1.idx true).getD i false) hS (by simp only [hset];simp) (fun j hj=>by simp only [hset,if_neg hj]) hin;omega
theorem ghosts {s:List D} {tm:Array Value} {w:World} {I:Nat→Prop} {Fs:Nat→List Nat} (h:RelI w0 I0 s tm w I Fs) {N0:Nat} {fl:List Fl} {m:List Bool} (hN0:s.length≤N0) (hm:∀ f∈fl,m.getD f.t false=true) (hb:∀ f∈fl,f.ia=none→boxS s f.t f.n) :
    ∃ Fs',RelI w0 I0 (clr m s) tm w I Fs'∧∀ f∈fl,f.ia=none→Held N0 tm w Fs' f:=by
  have hc:=h.clr m
  let gs:Nat→Bool:=fun t=>fl.any fun f=>f.ia.isNone&&f.t==t
  have hgs:∀ t,gs t=true→m.getD t false=true:=by intro t ht;simp only [gs,List.any_eq_true,Bool.and_eq_true,beq_iff_eq] at ht;obtain ⟨f,hf,_,rfl⟩:=ht;exact hm f hf
  let Fs':Nat→List Nat:=fun r=>if N0≤r∧gs (r-N0)=true then (Fs (r-N0)).take 1 else if m.getD r false then [] else Fs r
  have mem:∀ r b,b∈Fs' r→(N0≤r∧gs (r-N0)=true∧b∈Fs (r-N0))∨(¬ (N0≤r∧gs (r-N0)=true)∧m.getD r false=false∧b∈Fs r):=by
    intro r b hb;simp only [Fs'] at hb;split at hb
    · rename_i hr;exact .inl ⟨hr.1,hr.2,List.mem_of_mem_take hb⟩
    · rename_i hr;split at hb
      · cases hb
      · rename_i hmr;exact .inr ⟨hr,by simpa using hmr,hb⟩
  refine ⟨Fs',{
    below:=h.below
    len:=hc.len
    slot:=fun r d u h1 h2=>by have hr:r<s.length:=(by have:=(List.getElem?_eq_some_iff.1 h1).1;rwa [clr_len] at this);have:=hc.slot r d u h1 h2;simp only [Fs'];rw [if_neg (fun h=>by omega)];exact this
    nd:=fun r=>by
      simp only [Fs'];split
      · exact (h.nd _).sublist (List.take_sublist _ _)
      · split
        · exact List.nodup_nil
        · exact h.nd r
    disj:=fun r r' b hb hb'=>by
      rcases mem r b hb with ⟨a1,a2,a3⟩ | ⟨a1,a2,a3⟩<;>rcases mem r' b hb' with ⟨c1,c2,c3⟩ | ⟨c1,c2,c3⟩
      · have:=h.disj _ _ b a3 c3;omega
      · have e:=h.disj _ _ b a3 c3;have:=hgs _ a2;rw [e,c2] at this;cases this
      · have e:=h.disj _ _ b a3 c3;have:=hgs _ c2;rw [← e,a2] at this;cases this
      · exact h.disj _ _ b a3 c3
    own:=fun r b hb=>by rcases mem r b hb with ⟨_,_,a3⟩ | ⟨_,_,a3⟩<;>exact h.own _ b a3
    imm:=h.imm
    imm0:=h.imm0
    immN:=h.immN },fun f hf hi=>?_⟩
  have hbx:=hb f hf hi;unfold boxS at hbx;split at hbx
  · rename_i tag cells hs;obtain ⟨u,hu,hT⟩:=h.slot0 hs;simp only [T] at hT;obtain ⟨b,cs,e,F',rfl,_,hh,hF,hcs⟩:=hT;refine ⟨b,cs,e,hu,hh,?_,?_⟩
    · have:=hcs.len;simp only [Array.length_toList] at this;omega
    · have hg:gs f.t=true:=(by simp only [gs,List.any_eq_true,Bool.and_eq_true,beq_iff_eq];exact ⟨f,hf,by rw [hi];rfl,rfl⟩);simp only [Fs'];rw [if_pos ⟨by omega,by rw [Nat.add_sub_cancel_left];exact hg⟩,Nat.add_sub_cancel_left,hF];rfl
  · exact hbx.elim
theorem le_sum:∀ {l:List Nat} {x:Nat},x∈l→x≤l.sum
  | y::l,x,h=>by
    rw [List.sum_cons];rcases List.mem_cons.1 h with rfl | h
    · omega
    · have:=le_sum h;omega
theorem entryB {fl:List Fl} (hcb:∀ e∈E,cVB P ops fl e.1.idx=some e.1.vo) (hall:∀ i,i<nh→∃ e∈E,e.1.idx=i) (hfl:flOK (befs ops) nh fl=true):∀ f∈fl,∃ e2∈E,e2.1.idx=f.js∧e2.1.vo.dst=some f.t:=by
  simp only [flOK,Bool.and_eq_true] at hfl;obtain ⟨hpw,hfa⟩:=hfl;rw [List.all_eq_true] at hfa;intro f hf;obtain ⟨e2,h1,h2⟩:=hall f.js (by have:=hfa f hf;simp only [Bool.and_eq_true,decide_eq_true_eq] at this;exact this.1.1);refine ⟨e2,h1,h2,?_⟩;have:=hcb e2 h1;rw [h2] at this;unfold cVB at this;split at this
  · cases this
  · split at this
    · rename_i f2 hf2;have hm:=List.mem_of_find?_eq_some hf2;have hj:=List.find?_some hf2;have hff:f2=f:=pwF_js hpw hm hf (by simpa using hj);subst hff;split at this
      · split at this
        · split at this
          · simp only [Option.some.injEq] at this;rw [← this]
          · cases this
        · cases this
      · cases this
    · rename_i hn;rw [List.find?_eq_none] at hn;exact absurd (beq_self_eq_true f.js) (hn f hf)
theorem sim_drawB (hcl:∀ w',w0.Below w'→GI G w' I0) (hm:P.follows .mixedOrders=true) {H:List DOp} {s:List D} {fl:List Fl} (hB:drawB ops H start nh=true) (hf:H.all (fun o=>o.vo.op.framed)=true) (hcb:∀ o∈H,cVB P ops fl o.idx=some o.vo) (hfl:flOK (befs ops) nh fl=true)
    {tail:List VO} (htl:cVOs P ops (ops.toList.drop nh)=some tail) {KK:List D→Prop} {Q:Exit→Act→World→Prop} (hpre:boxesS s (preOf fl)) (hk:headK (CT P G) none (clr start s) H (fun s'=>boxesZ s' (filOf fl)∧opsK (CT P G) (clr (clAll H) s') tail KK)) (hQ:∀ s a w,KK s→Rel w0 I0 s a w→Q .normal a w) {a:Act} {w:World} (h:Rel w0 I0 s a w):RegAny P ops Q a w:=by
  obtain ⟨E,rfl,e2,e3⟩:=head_pick H hf hk;rw [runE_none] at e3;obtain ⟨hbz,hk⟩:=e3;have fact:∀ Pre e R,E=Pre++e::R→EF (CT P G) none start (clr start s) Pre e:=fun Pre e R hE=>by have:=e2 Pre e R hE;rw [runE_none] at this;exact this
  have hB':=hB;simp only [drawB,Bool.and_eq_true,decide_eq_true_eq] at hB';obtain ⟨⟨⟨⟨hok,hall⟩,hnh⟩,htail⟩,hseq⟩:=hB';rw [List.all_eq_true] at hall htail;obtain ⟨hd,I,Fs,hR⟩:=h;have hset:Setup ops E start nh none (clr start s):=⟨fun P e R hE=>by
    have:=okL_spec E [] [] (fun _ h=>by simp at h) (fun _ h=>by cases h) hok P e R hE;simpa using this,fun r hr=>clr_zero hr,fun _ _ _ h=>by cases h⟩
  have hcb':∀ e∈E,cVB P ops fl e.1.idx=some e.1.vo:=fun e he=>hcb e.1 (List.mem_map.2 ⟨e,he,rfl⟩);have hall':∀ i,i<nh→∃ e∈E,e.1.idx=i:=fun i hi=>by have:=hall i (by simpa using hi);rw [List.any_eq_true] at this;obtain ⟨o,ho,hoi⟩:=this;obtain ⟨e,he,rfl⟩:=List.mem_map.1 ho;exact ⟨e,he,by simpa using hoi⟩
  let N0:=(clr start s).length+(E.map fun e=>e.1.cl.length).sum
  have hN0:(clr start s).length≤N0:=Nat.le_add_right _ _;have hcN:∀ e∈E,e.1.cl.length≤N0:=fun e he=>by have:=le_sum (List.mem_map.2 ⟨e,he,rfl⟩:e.1.cl.length∈E.map fun e=>e.1.cl.length);simp only [N0];omega
  have hbz':∀ f∈fl,boxZ (ovE (fun _=>true) E (clr start s)) f.t f.n:=fun f hf'=>boxesZ_mem hbz (f.t,f.n) (List.mem_map.2 ⟨f,hf',rfl⟩);have hsf:∀ f∈fl,start.getD f.t false=true:=(by intro f hf';obtain ⟨e2,m1,_,m3⟩:=entryB hcb' hall' hfl f hf';obtain ⟨A,B,hAB⟩:=List.append_of_mem m1;exact (hset.ok A e2 B hAB).dst f.t m3);refine ⟨hm,?_⟩;have hgF:∀ i,(Array.replicate ops.size false).getD i false=false:=fun i=>by by_cases hi:i<ops.size<;>simp [hi]
  have hgFun:(fun i=>(Array.replicate ops.size false).getD i false)=fun _=>false:=funext hgF;refine head_anyB (w0:=w0) (I0:=I0) (N0:=N0) (fl:=fl) hcl hset fact hall' hcb' hfl hbz' hN0 hcN hnh (fun t ht1 ht2 i hi=>?_) (fun a' w' hR'=>?_) ops.size _ a _ (by simp) (fun j x hj _=>by simp only [hgF] at hj;cases hj) (fun i _=>hgF i) ?_ ?_
  · have:=htail t (by simpa using ht2);simp only [Bool.or_eq_true,decide_eq_true_eq] at this;rcases this with h1 | h1
    · omega
    · rw [List.all_eq_true] at h1;exact h1 i (by simpa using hi)
  · have hl:(ops.toList.drop nh).length=ops.size-nh:=(by simp);have hsig:sig E none (fun _=>true) (clr start s)=clr (clAll (E.map (·.1))) (ovE (fun _=>true) E (clr start s)):=(by unfold sig hwS;rw [clE_all]);rw [hsig] at hR';have:=wpAny_of_seq (P:=P) (md:=.any) (ops:=ops) (Q':=Q) (ops.toList.drop nh) nh (headArr ops.size nh) a' w' (fun j=>by simp [List.getElem?_drop]) (by rw [hl];exact hseq)
      (sim_ops hcl ops (KK:=KK) hQ _ tail _ a' w' htl hk hR')
    rw [hl] at this;exact this
  · rw [hgFun];have:∀ n,cnt (fun _=>false) n=n:=by
      intro n;induction n with
      | zero=>rfl
      | succ n ih=>simp only [cnt,Bool.false_eq_true,if_false];omega
    rw [this];omega
  · rw [hgFun];have h0:=hR.world (w':={ w with drawn:=w.drawn+1 }) ((Below.refl _ w).drew);obtain ⟨Fs',h1,hH⟩:=ghosts (N0:=N0) (fl:=fl) (m:=start) h0 (by rw [← clr_len start s];exact hN0) hsf (fun f hf' hi=>boxesS_mem hpre (f.t,f.n) (List.mem_map.2 ⟨f,List.mem_filter.2 ⟨hf',by rw [hi];rfl⟩,rfl⟩));have h2:=h1.clr (clE (fun _=>false) E);have h3:ovE (fun _=>false) E (clr start s)=clr start s:=by
      have:∀ (E:List (DOp×D)) (s:List D),ovE (fun _=>false) E s=s:=by
        intro E;induction E with
        | nil=>intro s;rfl
        | cons e E ih=>intro s;simp only [ovE,Bool.false_eq_true,if_false];exact ih s
      exact this E _
    refine ⟨hd,I,_,by unfold sig hwS;rw [h3];exact h2,fun f hf' hi _=>?_⟩;have hnone:f.ia=none:=by
      cases hia:f.ia with
      | none=>rfl
      | some i=>have:=hi i hia;cases this
    obtain ⟨b,cs,e,k1,k2,k3,k4⟩:=hH f hf' hnone;refine ⟨b,cs,e,k1,k2,k3,?_⟩;simp only;rw [clE_false (fun _ _ h=>by cases h),if_neg (by simp)];exact k4
end
end Go.V
namespace Go.V
open Go.RowKit
/-! ### Regions that draw, order by order: moves go at once -/
def isMove (o:Oper):Bool:=o.guard.isNone&&match o.op with
  | .move _=>true
  | _=>false
def depB (ops:Array Oper) (i j:Nat):Bool:=match ops[i]?,ops[j]? with
  | some x,some y=>match x.dst with
    | none=>true
    | some d=>(!(y.looksAt ops).contains d||(y.after.toList.any fun e=>Region.binds .any e&&e.on==i&&decide (i<j)))&&(i==j||y.dst != some d)
  | _,_=>true
def edgeB (ops:Array Oper)(j:Nat):Bool:=match ops[j]? with
  | some y=>y.after.toList.all fun e=>!Region.binds .any e||decide (e.on<j)
  | none=>true
def sepB (ops:Array Oper)(nh:Nat):Bool:=(List.range nh).all fun j=>edgeB ops j&&(List.range nh).all fun i=>depB ops i j
def tailB (ops:Array Oper)(nh:Nat):Bool:=(List.range ops.size).all fun t=>decide (t<nh)||(List.range nh).all fun i=>((befs ops).getD t 0).testBit i
section
variable (P:Program)
def genL (g:Nat→Nat→Option (VT×Nat)) (ops:Array Oper):List Nat→Nat→Option (VT×Nat)
  | [],bud=>some (.nil,bud)
  | i :: is,bud=>match ops[i]? with
    | some op=>match cVO P false ops op with
      | some o=>match g i bud with
        | some (sub,b1)=>match genL g ops is b1 with
          | some (rest,b2)=>some (.br i o sub rest,b2)
          | none=>none
        | none=>none
      | none=>none
    | none=>none
def genH (g:Nat→Nat→Option (VT×Nat)) (ops:Array Oper) (i bud:Nat):Option (VT×Nat):=match ops[i]? with
  | some op=>match cVO P false ops op with
    | some o=>match g i bud with
      | some (sub,b1)=>some (.h i o sub,b1)
      | none=>none
    | none=>none
  | none=>none
def genT (ops:Array Oper) (nh:Nat):Nat→Nat→Array Bool→Option (VT×Nat)
  | fuel,bud,listed =>
    if (bud==0)=true then none else
    if (decide (fuel=ops.size-nh)&&listed==headArr ops.size nh&&Region.seqB .any ops (ops.size-nh) nh listed)=true then some (.done,bud-1) else
    match fuel with
    | 0=>none
    | f+1=>match (Region.ready .any ops listed).find? (fun i=>decide (i<nh)&&(ops[i]?.map isMove).getD false) with
      | some i=>genH P (fun i b=>genT ops nh f b (listed.setIfInBounds i true)) ops i (bud-1)
      | none=>if ((Region.ready .any ops listed).isEmpty||!(Region.ready .any ops listed).all (fun i=>decide (i<nh)))=true then none else genL P (fun i b=>genT ops nh f b (listed.setIfInBounds i true)) ops (Region.ready .any ops listed) (bud-1)
def cDrawT (ops:Array Oper) (nh:Nat):Option VCode :=
  if (P.follows .mixedOrders&&sepB ops nh&&tailB ops nh&&decide (nh≤ops.size))=true then
    match genT P ops nh ops.size 700 (Array.replicate ops.size false),cVOs P ops (ops.toList.drop nh) with
    | some (t,_),some tail=>some (.drawT t tail)
    | _,_=>none
  else none
end
section
variable {P:Program} {G:World→(Nat→Prop)→Prop} {w0:Base} {I0:Nat→Prop}
theorem cOp_nosel {n:Bool}{op:Op}{v:VOp}(h:cOp P n op=some v):∀ cs b,op≠.select cs b:=by rintro cs b rfl;simp [cOp] at h
theorem cVO_nosel {n:Bool}{ops:Array Oper}{o:Oper}{v:VO}(h:cVO P n ops o=some v):∀ cs b,o.op≠.select cs b:=by
  simp only [cVO] at h;split at h
  · rename_i g vop _ h2;exact cOp_nosel h2
  · cases h
theorem sim_step (hcl:∀ w',w0.Below w'→GI G w' I0) {ops:Array Oper} {Q:Exit→Act→World→Prop} {i:Nat} {o:Oper} {v:VO} {next:Act→World→Prop} {KK:List D→Prop} {s:List D} {a a':Act} {w:World} (hi:ops[i]?=some o) (hv:cVO P false ops o=some v) (hk:stepK (CT P G) s v KK)
    (he:execOp a.eval o=execOp a'.eval o) (hw:Region.wanted o (yielded ops a.tmps)=Region.wanted o (yielded ops a'.tmps)) (hn:∀ s' u w',KK s'→Rel w0 I0 s' (a'.put o.dst u) w'→next (a.put o.dst u) w') (h:Rel w0 I0 s a' w):wpOp P ops Q i next a w:=by
  obtain ⟨hd,I,Fs,hR⟩:=h;have hGw:GI G w I0:=hcl _ hR.below;simp only [cVO] at hv;cases hg:cGuard ops o.guard with
  | none=>simp [hg] at hv
  | some g =>
  cases hop:cOp P false o.op with
  | none=>simp [hg,hop] at hv
  | some vop =>
  simp only [hg,hop,Option.some.injEq] at hv;subst hv;have run:evalK (CT P G) s vop (fun d s'=>KK (match o.dst with | some t=>putD s' t d | none=>s'))→o.wp P a w next Q:=by
    intro hk;refine wp_of_runs (R:=fun u w'=>next (a.put o.dst u) w') ?_ (fun u w' h=>h);rw [he];have:=sim_op (nn:=false) hGw hR (fun h=>by cases h) hop hk;unfold RunsTo at this ⊢;have key:∀ u w',OutOK false Fs I w w0 I0 a'.tmps (fun d s'=>KK (match o.dst with | some t=>putD s' t d | none=>s')) u w'→next (a.put o.dst u) w':=by rintro u w' ⟨d,s',I',Fs',F,hK,hR',hT,hF,_⟩;exact hn _ _ _ hK (put_rel hd hR' hT hF)
    split
    · rename_i u w' e;rw [e] at this;exact key _ _ this
    · rename_i w' e;rw [e] at this;exact key _ _ this
    · rename_i f args w' e;rw [e] at this;exact this.mono (fun e w'' ⟨u,h1,h2⟩=>⟨u,h1,key _ _ h2⟩)
    · rename_i r h1 h2 h3;split at this
      · rename_i u w' e;exact (h1 _ _ e).elim
      · rename_i w' e;exact (h2 _ e).elim
      · rename_i f args w' e;exact (h3 _ _ _ e).elim
      · exact this
  have skip:KK (match o.dst with | some t=>putD s t (.v (.tuple #[])) | none=>s)→next (a.put o.dst undef) w:=by intro hk;exact hn _ _ _ hk (put_rel (d:=.v (.tuple #[])) (v:=undef) hd hR (by simp only [T];exact ⟨rfl,trivial⟩) Fresh.nil)
  unfold wpOp;simp only [hi];rw [hw];simp only [stepK] at hk;cases hgo:o.guard with
  | none=>rw [hgo] at hg;simp only [cGuard,Option.some.injEq] at hg;subst hg;rw [if_pos (by simp [Region.wanted,hgo])];exact .inl (run hk)
  | some jw =>
    obtain ⟨j,want⟩:=jw;rw [hgo] at hg;simp only [cGuard] at hg;cases hj:(ops[j]?).bind (·.dst) with
    | none=>simp [hj] at hg
    | some t =>
      simp only [hj,Option.some.injEq] at hg;subst hg;simp only at hk;have hTt:=lkT_T hR t;have hyv:∀ x:Value,lkT s t=.v x→a'.tmps[t]?=some x∨(a'.tmps[t]?=none∧x=undef):=by
        intro x e;rw [e] at hTt;have:=(T_v hTt).1;cases ht:a'.tmps[t]? with
        | none=>simp [ht] at this;exact .inr ⟨rfl,this.symm⟩
        | some y=>simp [ht] at this;exact .inl (by rw [this])
      split at hk
      · rename_i b e;have hy:yielded ops a'.tmps j=some b:=by
          unfold yielded;rw [hj];rcases hyv _ e with h1 | ⟨_,h1⟩
          · simp [h1]
          · cases h1
        by_cases hbw:b=want
        · rw [if_pos (by simp [Region.wanted,hgo,hy,hbw])];exact .inl (run (hk.1 hbw))
        · rw [if_neg (by simp [Region.wanted,hgo,hy,hbw])];exact skip (hk.2 hbw)
      · rename_i x hne e;have hy:yielded ops a'.tmps j=none:=by
          unfold yielded;rw [hj];rcases hyv _ e with h1 | ⟨h1,_⟩
          · simp only [Option.bind_some,h1];split
            · rename_i b hb;cases hb;exact absurd rfl (hne b)
            · rfl
          · simp [h1]
        rw [if_neg (by simp [Region.wanted,hgo,hy])];exact skip hk
      · exact hk.elim
inductive OKT (P:Program) (ops:Array Oper) (nh:Nat):VT→Nat→Array Bool→List Nat→Prop
  | done {fuel listed rdy}:fuel=ops.size-nh→listed=headArr ops.size nh→Region.seqB .any ops (ops.size-nh) nh listed=true→OKT P ops nh .done fuel listed rdy
  | nil {fuel listed}:OKT P ops nh .nil fuel listed []
  | h {i o op sub f listed rdy}:ops[i]?=some op→cVO P false ops op=some o→isMove op=true→i<nh→i∈Region.ready .any ops listed→OKT P ops nh sub f (listed.setIfInBounds i true) (Region.ready .any ops (listed.setIfInBounds i true))→(sub=.nil→False)→OKT P ops nh (.h i o sub) (f+1) listed rdy
  | br {i o op sub rest f listed is}:ops[i]?=some op→cVO P false ops op=some o→i<nh→OKT P ops nh sub f (listed.setIfInBounds i true) (Region.ready .any ops (listed.setIfInBounds i true))→(sub=.nil→False)→OKT P ops nh rest (f+1) listed is→(rest=.done→False)→(∀ a b c,rest=.h a b c→False)→OKT P ops nh (.br i o sub rest) (f+1) listed (i::is)
theorem genL_spec {ops:Array Oper} {nh f:Nat} {listed:Array Bool} {g:Nat→Nat→Option (VT×Nat)} (hg:∀ i b t b',g i b=some (t,b')→OKT P ops nh t f (listed.setIfInBounds i true) (Region.ready .any ops (listed.setIfInBounds i true))∧(t=.nil→False)):∀ (is:List Nat) {bud:Nat} {t:VT} {b':Nat},(∀ i∈is,i<nh)→genL P g ops is bud=some (t,b')→OKT P ops nh t (f+1) listed is∧(t=.done→False)∧(∀ a b c,t=.h a b c→False)∧(t=.nil→is=[])
  | [],bud,t,b',_,h=>by simp only [genL,Option.some.injEq,Prod.mk.injEq] at h;obtain ⟨rfl,_⟩:=h;exact ⟨.nil,(fun h=>by cases h),(fun _ _ _ h=>by cases h),fun _=>rfl⟩
  | i :: is,bud,t,b',hlt,h=>by
    simp only [genL] at h;split at h
    · rename_i op hop;split at h
      · rename_i o ho;split at h
        · rename_i sub b1 hs;split at h
          · rename_i rest b2 hr;simp only [Option.some.injEq,Prod.mk.injEq] at h;obtain ⟨rfl,_⟩:=h;obtain ⟨h1,h2⟩:=hg _ _ _ _ hs;obtain ⟨h3,h4,h5,_⟩:=genL_spec hg is (fun j hj=>hlt j (by simp [hj])) hr;exact ⟨.br hop ho (hlt i (by simp)) h1 h2 h3 h4 h5,(fun h=>by cases h),(fun _ _ _ h=>by cases h),(fun h=>by cases h)⟩
          · cases h
        · cases h
      · cases h
    · cases h
theorem genT_spec {ops:Array Oper} {nh:Nat}:∀ (fuel:Nat) {bud:Nat} {listed:Array Bool} {t:VT} {b':Nat},genT P ops nh fuel bud listed=some (t,b')→OKT P ops nh t fuel listed (Region.ready .any ops listed)∧(t=.nil→False)
  | fuel, bud,listed,t,b',h=>by
    unfold genT at h;split at h
    · cases h
    · split at h
      · rename_i hd;simp only [Bool.and_eq_true,decide_eq_true_eq,beq_iff_eq] at hd;simp only [Option.some.injEq,Prod.mk.injEq] at h;obtain ⟨rfl,_⟩:=h;exact ⟨.done hd.1.1 hd.1.2 hd.2,(fun h=>by cases h)⟩
      · cases fuel with
        | zero=>cases h
        | succ f =>
          simp only at h;split at h
          · rename_i i hf;have hmem:=List.mem_of_find?_eq_some hf;have hp:=List.find?_some hf;simp only [Bool.and_eq_true,decide_eq_true_eq] at hp;unfold genH at h;split at h
            · rename_i op hop;split at h
              · rename_i o ho;split at h
                · rename_i sub b1 hs;simp only [Option.some.injEq,Prod.mk.injEq] at h;obtain ⟨rfl,_⟩:=h;obtain ⟨h1,h2⟩:=genT_spec f hs;exact ⟨.h hop ho (by rw [hop] at hp;simpa using hp.2) hp.1 hmem h1 h2,(fun h=>by cases h)⟩
                · cases h
              · cases h
            · cases h
          · split at h
            · cases h
            · rename_i hne;simp only [Bool.or_eq_true,Bool.not_eq_true',not_or] at hne;have hall:∀ i∈Region.ready .any ops listed,i<nh:=by have:=hne.2;simp only [Bool.not_eq_false] at this;rw [List.all_eq_true] at this;exact fun i hi=>by simpa using this i hi
              obtain ⟨h1,h2,_,h3⟩:=genL_spec (nh:=nh) (f:=f) (listed:=listed) (fun i b t b' hgt=>genT_spec f hgt) _ hall h;refine ⟨h1,fun h=>?_⟩;rw [h3 h] at hne;exact hne.1 rfl
theorem sep_dep {ops:Array Oper}{nh i j:Nat}{x y:Oper}(h:sepB ops nh=true)(hi:i<nh)(hj:j<nh)(hx:ops[i]?=some x)(hy:ops[j]?=some y){d:Tmp}(hd:x.dst=some d):(d∈y.looksAt ops→i<j∧∃ e∈y.after,Region.binds .any e=true∧e.on=i)∧(i=j∨y.dst≠some d):=by
  unfold sepB at h;rw [List.all_eq_true] at h;have:=h j (by simpa using hj);rw [Bool.and_eq_true,List.all_eq_true] at this;have:=this.2 i (by simpa using hi);simp only [depB,hx,hy,hd,Bool.and_eq_true,Bool.or_eq_true,Bool.not_eq_true',beq_iff_eq,bne_iff_ne] at this;refine ⟨fun hm=>?_,this.2⟩;rcases this.1 with h1 | h1
  · rw [List.contains_iff_mem.2 hm] at h1;cases h1
  · rw [List.any_eq_true] at h1;obtain ⟨e,he,h2⟩:=h1;simp only [Bool.and_eq_true,beq_iff_eq,decide_eq_true_eq] at h2;exact ⟨h2.2,e,by simpa using he,h2.1.1,h2.1.2⟩
theorem sep_edge {ops:Array Oper}{nh j:Nat}{y:Oper}(h:sepB ops nh=true)(hj:j<nh)(hy:ops[j]?=some y):∀ e∈y.after,Region.binds .any e=true→e.on<j:=by unfold sepB at h;rw [List.all_eq_true] at h;have:=h j (by simpa using hj);rw [Bool.and_eq_true] at this;have:=this.1;simp only [edgeB,hy,List.all_eq_true] at this;intro e he hb;have:=this e (by simpa using he);simpa [hb] using this
structure PInv (ops:Array Oper) (nh:Nat) (L:List Nat) (AL VL:Array Bool) (a a':Act):Prop where
  size:AL.size=ops.size
  vsize:VL.size=ops.size
  sub:∀ i,VL.getD i false=true↔(AL.getD i false=true∨i∈L)
  nd:L.Nodup
  out:∀ i∈L,AL.getD i false=false
  mv:∀ i∈L,∃ o x,ops[i]?=some o∧i<nh∧o.guard=none∧o.op=.move x∧a'.put o.dst (a'.eval x)=a'∧∀ e∈o.after,Region.binds .any e=true→VL.getD e.on false=true
  tm:a'.tmps.size=a.tmps.size
  df:a'.defers=a.defers
  agree:∀ t,(∀ i∈L,∀ o,ops[i]?=some o→o.dst≠some t)→a'.tmps[t]?=a.tmps[t]?
  closed:Closed ops (fun i=>AL.getD i false)
section
variable {ops:Array Oper} {nh:Nat} {L:List Nat} {AL VL:Array Bool} {a a':Act}
theorem PInv.same (h:PInv ops nh L AL VL a a')(hs:sepB ops nh=true){j:Nat}{y:Oper}(hj:j<nh)(hy:ops[j]?=some y)(hr:j∈Region.ready .any ops AL):∀ t∈y.looksAt ops,a'.tmps[t]?=a.tmps[t]?:=by intro t ht;refine h.agree t (fun i hi o ho hd=>?_);obtain ⟨o',x,h1,h2,_⟩:=h.mv i hi;rw [ho] at h1;cases h1;obtain ⟨_,e,he,hb,rfl⟩:=(sep_dep hs h2 hj ho hy hd).1 ht;obtain ⟨_,o',ho',hed⟩:=mem_ready.1 hr;rw [hy] at ho';cases ho';have:=hed e he hb;rw [h.out _ hi] at this;cases this
theorem PInv.eval (h:PInv ops nh L AL VL a a')(hs:sepB ops nh=true){j:Nat}{y:Oper}(hj:j<nh)(hy:ops[j]?=some y)(hr:j∈Region.ready .any ops AL):∀ x∈y.op.operands,a.eval x=a'.eval x:=by
  intro x hx;cases x with
  | tmp t=>have:=h.same hs hj hy hr t (List.mem_append_left _ (List.mem_filterMap.2 ⟨.tmp t,by simpa using hx,rfl⟩));simp only [Act.eval,Array.getD_eq_getD_getElem?,this]
  | _=>rfl
theorem PInv.wanted (h:PInv ops nh L AL VL a a')(hs:sepB ops nh=true){j:Nat}{y:Oper}(hj:j<nh)(hy:ops[j]?=some y)(hr:j∈Region.ready .any ops AL):Region.wanted y (yielded ops a.tmps)=Region.wanted y (yielded ops a'.tmps):=by
  unfold Region.wanted;cases hg:y.guard with
  | none=>rfl
  | some gw =>
    obtain ⟨g,want⟩:=gw;have:yielded ops a.tmps g=yielded ops a'.tmps g:=by
      unfold yielded;cases hd:(ops[g]?).bind (·.dst) with
      | none=>rfl
      | some t=>have:=h.same hs hj hy hr t (by unfold Oper.looksAt;simp [hg,hd]);simp only [Option.bind_some,this]
    simp only [this]
theorem getD_set {A:Array Bool}{i j:Nat}(hi:i<A.size):(A.setIfInBounds i true).getD j false=if j=i then true else A.getD j false:=by
  by_cases h:j=i
  · subst h;simp [hi]
  · rw [if_neg h,getD_set_ne false (Ne.symm h)]
theorem ready_lt {AL:Array Bool}{j:Nat}(h:j∈Region.ready .any ops AL)(hs:AL.size=ops.size):j<AL.size∧AL.getD j false=false:=by obtain ⟨h1,o,ho,_⟩:=mem_ready.1 h;have:=(Array.getElem?_eq_some_iff.1 ho).1;have hlt:j<AL.size:=(by omega);refine ⟨hlt,?_⟩;simp only [Array.getD_eq_getD_getElem?,Array.getElem?_eq_getElem hlt,Option.getD_some] at h1 ⊢;exact h1
theorem closed_set {AL:Array Bool}(hc:Closed ops (fun i=>AL.getD i false)){i:Nat}(hr:i∈Region.ready .any ops AL)(hlt:i<AL.size):Closed ops (fun j=>(AL.setIfInBounds i true).getD j false):=by
  intro j x hj hx;simp only [getD_set hlt] at hj ⊢;by_cases hxi:x=i
  · rw [if_pos hxi]
  · rw [if_neg hxi];by_cases hji:j=i
    · subst hji;obtain ⟨o,ho,e,he,hb,h3⟩:=befs_spec hx;obtain ⟨_,o',ho',hed⟩:=mem_ready.1 hr;rw [ho] at ho';cases ho';have:=hed e (by simpa using he) hb;rcases h3 with rfl | h3
      · exact this
      · exact hc _ _ this h3
    · rw [if_neg hji] at hj;exact hc j x hj hx
theorem PInv.exec (h:PInv ops nh L AL VL a a') (hs:sepB ops nh=true) {i:Nat} (hi:i∈L) (hr:i∈Region.ready .any ops AL):∃ o x,ops[i]?=some o∧o.guard=none∧o.op=.move x∧PInv ops nh (L.erase i) (AL.setIfInBounds i true) VL (a.put o.dst (a.eval x)) a':=by
  obtain ⟨o,x,h1,h2,h3,h4,h5,h6⟩:=h.mv i hi;obtain ⟨hlt,hal⟩:=ready_lt hr h.size;have hx:a.eval x=a'.eval x:=h.eval hs h2 h1 hr x (by rw [h4];simp [Op.operands]);refine ⟨o,x,h1,h3,h4,?_⟩;rw [hx];have hmem:∀ k,k∈L.erase i→k∈L∧k≠i:=fun k hk=>⟨List.mem_of_mem_erase hk,fun e=>by subst e;exact (List.Nodup.not_mem_erase h.nd) hk⟩
  refine ⟨by simp [h.size],h.vsize,fun k=>?_,h.nd.erase i,fun k hk=>?_,fun k hk=>h.mv k (hmem k hk).1,?_,?_,fun t ht=>?_,?_⟩
  · rw [h.sub k,getD_set hlt];by_cases hk:k=i
    · subst hk;simp [hi]
    · rw [if_neg hk,List.mem_erase_of_ne hk]
  · obtain ⟨k1,k2⟩:=hmem k hk;rw [getD_set hlt,if_neg k2];exact h.out k k1
  · cases hd:o.dst with
    | none=>exact h.tm
    | some d=>simp [Act.put,h.tm]
  · cases hd:o.dst with
    | none=>exact h.df
    | some d=>simp [Act.put,h.df]
  · cases hd:o.dst with
    | none =>
      refine h.agree t (fun k hk o' ho'=>?_);by_cases hki:k=i
      · subst hki;rw [h1] at ho';cases ho';rw [hd];exact fun e=>by cases e
      · exact ht k ((List.mem_erase_of_ne hki).2 hk) o' ho'
    | some d =>
      by_cases htd:t=d
      · subst htd;rw [hd] at h5;have h7:=congrArg (fun b:Act=>b.tmps[t]?) h5;simp only [Act.put] at h7 ⊢;rw [← h7];by_cases hb:t<a.tmps.size
        · have hb':t<a'.tmps.size:=(by rw [h.tm];exact hb);simp [hb,hb']
        · have hb':¬ t<a'.tmps.size:=(by rw [h.tm];exact hb);simp [hb,hb']
      · have:(a.put (some d) (a'.eval x)).tmps[t]?=a.tmps[t]?:=(by simp only [Act.put];exact Array.getElem?_setIfInBounds_ne (Ne.symm htd));rw [this];refine h.agree t (fun k hk o' ho'=>?_);by_cases hki:k=i
        · subst hki;rw [h1] at ho';cases ho';rw [hd];exact fun e=>htd (Option.some.inj e).symm
        · exact ht k ((List.mem_erase_of_ne hki).2 hk) o' ho'
  · exact closed_set h.closed hr hlt
theorem PInv.progress (h:PInv ops nh L AL VL a a') (hs:sepB ops nh=true) (hL:L≠[]∨Region.ready .any ops VL≠[]):Region.ready .any ops AL≠[]:=by
  by_cases hL0:L=[]
  · rcases hL with hL | hL
    · exact absurd hL0 hL
    · have:AL=VL:=by
        apply Array.ext_getElem?;intro k;by_cases hk:k<ops.size
        · have h1:k<AL.size:=(by rw [h.size];exact hk);have h2:k<VL.size:=(by rw [h.vsize];exact hk);have:=h.sub k;simp only [Array.getD_eq_getD_getElem?,Array.getElem?_eq_getElem h1,Array.getElem?_eq_getElem h2,Option.getD_some,hL0,List.not_mem_nil,or_false] at this;rw [Array.getElem?_eq_getElem h1,Array.getElem?_eq_getElem h2];congr 1;exact (Bool.eq_iff_iff.2 this).symm
        · rw [Array.getElem?_eq_none (by rw [h.size];omega),Array.getElem?_eq_none (by rw [h.vsize];omega)]
      rw [this];exact hL
  · obtain ⟨m,hm,hmin⟩:∃ m∈L,∀ k∈L,m≤k:=by
      have key:∀ L:List Nat,L≠[]→∃ m∈L,∀ k∈L,m≤k:=by
        intro L;induction L with
        | nil=>intro h;exact absurd rfl h
        | cons x L ih =>
          intro _;by_cases hn:L=[]
          · subst hn;exact ⟨x,by simp,fun k hk=>by simp at hk;omega⟩
          · obtain ⟨m,h1,h2⟩:=ih hn;by_cases hx:x≤m
            · exact ⟨x,by simp,fun k hk=>by rcases List.mem_cons.1 hk with rfl | hk;omega;have:=h2 k hk;omega⟩
            · exact ⟨m,by simp [h1],fun k hk=>by rcases List.mem_cons.1 hk with rfl | hk;omega;exact h2 k hk⟩
      exact key L hL0
    obtain ⟨o,x,h1,h2,h3,h4,h5,h6⟩:=h.mv m hm;intro h0;have hlt:m<AL.size:=(by rw [h.size];exact (Array.getElem?_eq_some_iff.1 h1).1);have:m∈Region.ready .any ops AL:=by
      rw [mem_ready];refine ⟨?_,o,h1,fun e he hb=>?_⟩
      · have:=h.out m hm;simp only [Array.getD_eq_getD_getElem?,Array.getElem?_eq_getElem hlt,Option.getD_some] at this ⊢;exact this
      · rcases (h.sub e.on).1 (h6 e he hb) with h7 | h7
        · exact h7
        · have:=sep_edge hs h2 h1 e he hb;have:=hmin _ h7;omega
    rw [h0] at this;cases this
theorem PInv.readyV (h:PInv ops nh L AL VL a a'){i:Nat}(hr:i∈Region.ready .any ops AL)(hi:i∉L):i∈Region.ready .any ops VL:=by
  obtain ⟨hlt,hal⟩:=ready_lt hr h.size;obtain ⟨_,o,ho,he⟩:=mem_ready.1 hr;rw [mem_ready];have hlt':i<VL.size:=(by rw [h.vsize,← h.size];exact hlt);refine ⟨?_,o,ho,fun e h1 h2=>(h.sub _).2 (.inl (he e h1 h2))⟩;have:¬ VL.getD i false=true:=fun hv=>by
    rcases (h.sub i).1 hv with h1 | h1
    · rw [hal] at h1;cases h1
    · exact hi h1
  simp only [Array.getD_eq_getD_getElem?,Array.getElem?_eq_getElem hlt',Option.getD_some] at this ⊢;simpa using this
end
theorem root_of {ops:Array Oper}{nh:Nat}{Q:Exit→Act→World→Prop}{KT:List D→Prop}(hs:sepB ops nh=true){t:VT}{f:Nat}{VL:Array Bool}{rdy:List Nat}(hrdy:rdy=Region.ready .any ops VL)(hne:rdy≠[])
    (hbr:∀ (L:List Nat) (AL:Array Bool) (s:List D) (a a':Act) (w:World),PInv ops nh L AL VL a a'→t.wp (CT P G) KT s→Rel w0 I0 s a' w→∀ i∈rdy,i∈Region.ready .any ops AL→i∉L→wpOp P ops Q i (wpAny P .any ops Q (f+L.length) (AL.setIfInBounds i true)) a w) :
    ∀ (n:Nat) (L:List Nat) (AL:Array Bool) (s:List D) (a a':Act) (w:World),L.length=n→PInv ops nh L AL VL a a'→t.wp (CT P G) KT s→Rel w0 I0 s a' w→wpAny P .any ops Q (f+1+n) AL a w:=by
  intro n;induction n with
  | zero =>
    intro L AL s a a' w hL hI hk hR;refine ⟨fun h0=>absurd h0 (hI.progress hs (.inr (by rw [← hrdy];exact hne))),fun i hi=>?_⟩;have hni:i∉L:=by rw [List.length_eq_zero_iff.1 hL];simp
    have:=hbr L AL s a a' w hI hk hR i (by rw [hrdy];exact hI.readyV hi hni) hi hni;rw [hL] at this;exact this
  | succ n ih =>
    intro L AL s a a' w hL hI hk hR;refine ⟨fun h0=>absurd h0 (hI.progress hs (.inr (by rw [← hrdy];exact hne))),fun i hi=>?_⟩;by_cases hni:i∈L
    · obtain ⟨o,x,h1,h2,h3,hI'⟩:=hI.exec hs hni hi;have hl:(L.erase i).length=n:=(by rw [List.length_erase_of_mem hni,hL];rfl);have:=ih (L.erase i) (AL.setIfInBounds i true) s _ a' w hl hI' hk hR;unfold wpOp;simp only [h1];rw [if_pos (by simp [Region.wanted,h2])];refine .inl ?_;unfold Oper.wp;simp only [execOp,h3];exact this
    · have:=hbr L AL s a a' w hI hk hR i (by rw [hrdy];exact hI.readyV hi hni) hi hni;rw [hL,show f+(n+1)=f+1+n by omega] at this;exact this
theorem pend_wp {ops:Array Oper}{Q:Exit→Act→World→Prop}{i:Nat}{o:Oper}{x:Operand}{K:Act→World→Prop}{a:Act}{w:World}(h1:ops[i]?=some o)(h2:o.guard=none)(h3:o.op=.move x)(h:K (a.put o.dst (a.eval x)) w):wpOp P ops Q i K a w:=by unfold wpOp;simp only [h1];rw [if_pos (by simp [Region.wanted,h2])];refine .inl ?_;unfold Oper.wp;simp only [execOp,h3];exact h
theorem done_of {ops:Array Oper} {nh:Nat} {Q:Exit→Act→World→Prop} {KT:List D→Prop} (hs:sepB ops nh=true) (htl:tailB ops nh=true) (hT:∀ s a w,KT s→Rel w0 I0 s a w→wpList P ops Q (ops.toList.drop nh) a w) (hseq:Region.seqB .any ops (ops.size-nh) nh (headArr ops.size nh)=true) :
    ∀ (n:Nat) (L:List Nat) (AL:Array Bool) (s:List D) (a a':Act) (w:World),L.length=n→PInv ops nh L AL (headArr ops.size nh) a a'→KT s→Rel w0 I0 s a' w→wpAny P .any ops Q (ops.size-nh+n) AL a w:=by
  intro n;induction n with
  | zero =>
    intro L AL s a a' w hL hI hk hR;have hL0:L=[]:=List.length_eq_zero_iff.1 hL;subst hL0;have hAL:AL=headArr ops.size nh:=by
      apply Array.ext_getElem?;intro k;by_cases hk:k<ops.size
      · have h1:k<AL.size:=(by rw [hI.size];exact hk);have h2:k<(headArr ops.size nh).size:=(by rw [hI.vsize];exact hk);have:=hI.sub k;simp only [Array.getD_eq_getD_getElem?,Array.getElem?_eq_getElem h1,Array.getElem?_eq_getElem h2,Option.getD_some,List.not_mem_nil,or_false] at this;rw [Array.getElem?_eq_getElem h1,Array.getElem?_eq_getElem h2];congr 1;exact (Bool.eq_iff_iff.2 this).symm
      · rw [Array.getElem?_eq_none (by rw [hI.size];omega),Array.getElem?_eq_none (by rw [hI.vsize];omega)]
    have ha:a'=a:=(by have h1:a'.tmps=a.tmps:=Array.ext_getElem? fun t=>hI.agree t (fun i hi=>by cases hi);have h2:=hI.df;cases a;cases a';simp only at h1 h2;rw [h1,h2]);subst ha;subst hAL;have hl:(ops.toList.drop nh).length=ops.size-nh:=(by simp);have:=wpAny_of_seq (P:=P) (md:=.any) (ops:=ops) (Q':=Q) (ops.toList.drop nh) nh (headArr ops.size nh) a' w (fun j=>by simp [List.getElem?_drop]) (by rw [hl];exact hseq) (hT s a' w hk hR);rw [hl] at this;exact this
  | succ n ih =>
    intro L AL s a a' w hL hI hk hR;have hne:L≠[]:=fun e=>by rw [e] at hL;cases hL
    refine ⟨fun h0=>absurd h0 (hI.progress hs (.inl hne)),fun i hi=>?_⟩;obtain ⟨hlt,hal⟩:=ready_lt hi hI.size;have hiL:i∈L:=by
      by_cases hin:i<nh
      · have hV:(headArr ops.size nh).getD i false=true:=(by rw [Array.getD_eq_getD_getElem?,headArr_get (by rw [← hI.size];exact hlt)];simpa using hin);rcases (hI.sub i).1 hV with h1 | h1
        · rw [hal] at h1;cases h1
        · exact h1
      · exfalso;obtain ⟨m,hm⟩:∃ m,m∈L:=by
          cases L with
          | nil=>exact absurd rfl hne
          | cons m _=>exact ⟨m,by simp⟩
        obtain ⟨_,_,_,hmn,_⟩:=hI.mv m hm;unfold tailB at htl;rw [List.all_eq_true] at htl;have:=htl i (by simp;rw [← hI.size];exact hlt);simp only [Bool.or_eq_true,decide_eq_true_eq,List.all_eq_true] at this;rcases this with h1 | h1
        · exact hin h1
        · have hb:=h1 m (by simpa using hmn);obtain ⟨o,ho,e,he,hbd,h3⟩:=befs_spec hb;obtain ⟨_,o',ho',hed⟩:=mem_ready.1 hi;rw [ho] at ho';cases ho';have h4:=hed e (by simpa using he) hbd;have h5:AL.getD m false=true:=by
            rcases h3 with rfl | h3
            · exact h4
            · exact hI.closed _ _ h4 h3
          rw [hI.out m hm] at h5;cases h5
    obtain ⟨o,x,h1,h2,h3,hI'⟩:=hI.exec hs hiL hi;exact pend_wp h1 h2 h3 (ih (L.erase i) (AL.setIfInBounds i true) s _ a' w (by rw [List.length_erase_of_mem hiL,hL];rfl) hI' hk hR)
theorem sim_tree (hcl:∀ w',w0.Below w'→GI G w' I0) {ops:Array Oper} {nh:Nat} {Q:Exit→Act→World→Prop} {KT:List D→Prop} (hs:sepB ops nh=true) (htl:tailB ops nh=true) (hT:∀ s a w,KT s→Rel w0 I0 s a w→wpList P ops Q (ops.toList.drop nh) a w) {t:VT} {fuel:Nat} {VL:Array Bool} {rdy:List Nat} (ok:OKT P ops nh t fuel VL rdy) :
    ((t=.done∨∃ i o sub,t=.h i o sub)→∀ (L:List Nat) (AL:Array Bool) (s:List D) (a a':Act) (w:World),PInv ops nh L AL VL a a'→t.wp (CT P G) KT s→Rel w0 I0 s a' w→wpAny P .any ops Q (fuel+L.length) AL a w) ∧
    ((t=.nil∨∃ i o sub rest,t=.br i o sub rest)→∀ (L:List Nat) (AL:Array Bool) (s:List D) (a a':Act) (w:World),PInv ops nh L AL VL a a'→t.wp (CT P G) KT s→Rel w0 I0 s a' w→∀ i∈rdy,i∈Region.ready .any ops AL→i∉L→wpOp P ops Q i (wpAny P .any ops Q (fuel-1+L.length) (AL.setIfInBounds i true)) a w):=by
  have up:∀ {t:VT} {f:Nat} {VL:Array Bool},OKT P ops nh t f VL (Region.ready .any ops VL)→(t=.nil→False) →
      (((t=.done∨∃ i o sub,t=.h i o sub)→∀ (L:List Nat) (AL:Array Bool) (s:List D) (a a':Act) (w:World),PInv ops nh L AL VL a a'→t.wp (CT P G) KT s→Rel w0 I0 s a' w→wpAny P .any ops Q (f+L.length) AL a w) ∧
      ((t=.nil∨∃ i o sub rest,t=.br i o sub rest)→∀ (L:List Nat) (AL:Array Bool) (s:List D) (a a':Act) (w:World),PInv ops nh L AL VL a a'→t.wp (CT P G) KT s→Rel w0 I0 s a' w→∀ i∈Region.ready .any ops VL,i∈Region.ready .any ops AL→i∉L→wpOp P ops Q i (wpAny P .any ops Q (f-1+L.length) (AL.setIfInBounds i true)) a w)) →
      ∀ (L:List Nat) (AL:Array Bool) (s:List D) (a a':Act) (w:World),PInv ops nh L AL VL a a'→t.wp (CT P G) KT s→Rel w0 I0 s a' w→wpAny P .any ops Q (f+L.length) AL a w:=by
    intro t f VL ok hnn ih L AL s a a' w hI hk hR;cases t with
    | done=>exact ih.1 (.inl rfl) L AL s a a' w hI hk hR
    | nil=>exact (hnn rfl).elim
    | h i o sub=>exact ih.1 (.inr ⟨_,_,_,rfl⟩) L AL s a a' w hI hk hR
    | br i o sub rest =>
      obtain ⟨f2,is,rfl,hrr⟩:∃ f2 is,f=f2+1∧Region.ready .any ops VL=i::is:=by
        generalize Region.ready .any ops VL=rr at ok;cases ok with
        | br=>exact ⟨_,_,rfl,rfl⟩
      refine root_of hs (t:=.br i o sub rest) (f:=f2) rfl (by rw [hrr];simp) (fun L AL s a a' w hI hk hR j hj hjr hjL=>?_) L.length L AL s a a' w rfl hI hk hR;have:=ih.2 (.inr ⟨_,_,_,_,rfl⟩) L AL s a a' w hI hk hR j hj hjr hjL;simpa using this
  induction ok with
  | @done fuel listed rdy h1 h2 h3=>subst h1;subst h2;exact ⟨fun _ L AL s a a' w hI hk hR=>done_of hs htl hT h3 L.length L AL s a a' w rfl hI hk hR,(fun h=>by rcases h with h | ⟨_,_,_,_,h⟩<;>cases h)⟩
  | nil=>exact ⟨(fun h=>by rcases h with h | ⟨_,_,_,h⟩<;>cases h),(fun _ _ _ _ _ _ _ _ _ _ i hi=>by cases hi)⟩
  | @h i o op sub f listed rdy hop ho hmv hin hrd hsub hsn ih =>
    refine ⟨fun _ L AL s a a' w hI hk hR=>?_,(fun h=>by rcases h with h | ⟨_,_,_,_,h⟩<;>cases h)⟩;simp only [VT.wp] at hk;obtain ⟨hg,x,hx⟩:op.guard=none∧∃ x,op.op=.move x:=by
      unfold isMove at hmv;rw [Bool.and_eq_true] at hmv;refine ⟨by simpa using hmv.1,?_⟩;have h2:=hmv.2;split at h2
      · rename_i x e;exact ⟨x,e⟩
      · cases h2
    -- the move, made at once
    obtain ⟨hd,I,Fs,hRI⟩:=hR;have hGw:GI G w I0:=hcl _ hRI.below;have hv:=ho;simp only [cVO,hg,cGuard] at hv;cases hcop:cOp P false op.op with
    | none=>simp [hcop] at hv
    | some vop =>
    simp only [hcop,Option.some.injEq] at hv;subst hv;simp only [stepK] at hk;have hrun:=sim_op (nn:=false) hGw hRI (fun h=>by cases h) hcop hk;unfold RunsTo at hrun;simp only [execOp,hx] at hrun;obtain ⟨d,s',I',Fs',F,hK,hR',hT',hF,_⟩:=hrun;have hR2:Rel w0 I0 (match op.dst with | some t=>putD s' t d | none=>s') (a'.put op.dst (a'.eval x)) w:=put_rel hd hR' hT' hF;obtain ⟨hlt,hvl⟩:=ready_lt hrd hI.vsize;obtain ⟨_,o',ho',hed⟩:=mem_ready.1 hrd;rw [hop] at ho';cases ho';have hiL:i∉L:=fun hi=>by have:=(hI.sub i).2 (.inr hi);rw [hvl] at this;cases this
    have hal:AL.getD i false=false:=by
      cases h:AL.getD i false with
      | false=>rfl
      | true=>have:=(hI.sub i).2 (.inl h);rw [hvl] at this;cases this
    have hnoself:∀ t,op.dst=some t→t∉op.looksAt ops:=fun t ht hm=>by have:=((sep_dep hs hin hin hop hop ht).1 hm).1;omega
    have hopnd:∀ {k:Nat} {ok:Oper} {y:Operand},ops[k]?=some ok→ok.op=.move y→∀ t,y=.tmp t→t∈ok.looksAt ops:=fun h1 h2 t h3=>by unfold Oper.looksAt;refine List.mem_append_left _ (List.mem_filterMap.2 ⟨.tmp t,?_,rfl⟩);rw [h2,h3];simp [Op.operands]
    have hI2:PInv ops nh (L++[i]) AL (listed.setIfInBounds i true) a (a'.put op.dst (a'.eval x)):=by
      refine ⟨hI.size,by simp [hI.vsize],fun k=>?_,?_,fun k hk=>?_,fun k hk=>?_,?_,?_,fun t ht=>?_,hI.closed⟩
      · rw [getD_set hlt];by_cases hk:k=i
        · subst hk;simp
        · rw [if_neg hk,hI.sub k];simp [hk]
      · rw [List.nodup_append];exact ⟨hI.nd,by simp,fun u hu v hv=>by simp at hv;subst hv;exact fun e=>hiL (e▸hu)⟩
      · rcases List.mem_append.1 hk with hk | hk
        · exact hI.out k hk
        · simp at hk;subst hk;exact hal
      · rcases List.mem_append.1 hk with hk | hk
        · obtain ⟨ok,y,h1,h2,h3,h4,h5,h6⟩:=hI.mv k hk;have hne:∀ t,op.dst=some t→y≠.tmp t:=fun t ht hy=>by obtain ⟨_,e,he,hb,hei⟩:=(sep_dep hs hin h2 hop h1 ht).1 (hopnd h1 h4 t hy);have:=h6 e he hb;rw [hei,hvl] at this;cases this
          have hki:k≠i:=fun e=>hiL (e▸hk);refine ⟨ok,y,h1,h2,h3,h4,?_,fun e he hb=>?_⟩
          · rw [Act.eval_put hne,Act.put_comm _ _ _ (fun t ht=>?_),h5];rcases (sep_dep hs hin h2 hop h1 ht).2 with h7 | h7
            · exact absurd h7.symm hki
            · exact h7
          · rw [getD_set hlt];split
            · rfl
            · exact h6 e he hb
        · simp at hk;subst hk;refine ⟨op,x,hop,hin,hg,hx,?_,fun e he hb=>?_⟩
          · rw [Act.eval_put (fun t ht hy=>hnoself t ht (hopnd hop hx t hy))];cases hdst:op.dst with
            | none=>rfl
            | some t=>simp [Act.put]
          · rw [getD_set hlt];split
            · rfl
            · exact hed e he hb
      · cases hdst:op.dst with
        | none=>exact hI.tm
        | some t=>simp [Act.put,hI.tm]
      · cases hdst:op.dst with
        | none=>exact hI.df
        | some t=>simp [Act.put,hI.df]
      · have h1:=ht i (by simp) op hop;have h2:(a'.put op.dst (a'.eval x)).tmps[t]?=a'.tmps[t]?:=by
          cases hdst:op.dst with
          | none=>rfl
          | some u=>simp only [Act.put];exact Array.getElem?_setIfInBounds_ne (fun e=>h1 (by rw [hdst,e]))
        rw [h2];exact hI.agree t (fun k hk o ho=>ht k (by simp [hk]) o ho)
    have:=up hsub hsn ih (L++[i]) AL _ a _ w hI2 hK hR2;rw [List.length_append,List.length_singleton] at this;rw [show f+1+L.length=f+(L.length+1) by omega];exact this
  | @br i o op sub rest f listed is hop ho hin hsub hsn hrest hrd hrh ih1 ih2 =>
    refine ⟨(fun h=>by rcases h with h | ⟨_,_,_,h⟩<;>cases h),fun _ L AL s a a' w hI hk hR j hj hjr hjL=>?_⟩;simp only [VT.wp] at hk;by_cases hji:j=i
    · subst hji;obtain ⟨hlt,hal⟩:=ready_lt hjr hI.size;refine sim_step hcl hop ho hk.1 (execOp_congr op (cVO_nosel ho) (hI.eval hs hin hop hjr)) (hI.wanted hs hin hop hjr) (fun s' u w' hk' hR'=>?_) hR;have hvl:j<listed.size:=by rw [hI.vsize,← hI.size];exact hlt
      have hnV:listed.getD j false=false:=by
        cases h:listed.getD j false with
        | false=>rfl
        | true =>
          rcases (hI.sub j).1 h with h1 | h1
          · rw [hal] at h1;cases h1
          · exact absurd h1 hjL
      have hI2:PInv ops nh L (AL.setIfInBounds j true) (listed.setIfInBounds j true) (a.put op.dst u) (a'.put op.dst u):=by
        refine ⟨by simp [hI.size],by simp [hI.vsize],fun k=>?_,hI.nd,fun k hk=>?_,fun k hk=>?_,?_,?_,fun t ht=>?_,closed_set hI.closed hjr hlt⟩
        · rw [getD_set hlt,getD_set hvl];by_cases hkj:k=j
          · subst hkj;simp
          · rw [if_neg hkj,if_neg hkj];exact hI.sub k
        · have hkj:k≠j:=fun e=>hjL (e▸hk);rw [getD_set hlt,if_neg hkj];exact hI.out k hk
        · obtain ⟨ok,y,h1,h2,h3,h4,h5,h6⟩:=hI.mv k hk;have hkj:k≠j:=fun e=>hjL (e▸hk);have hne:∀ t,op.dst=some t→y≠.tmp t:=fun t ht hy=>by have hm:t∈ok.looksAt ops:=(by unfold Oper.looksAt;refine List.mem_append_left _ (List.mem_filterMap.2 ⟨.tmp t,?_,rfl⟩);rw [h4,hy];simp [Op.operands]);obtain ⟨_,e,he,hb,hei⟩:=(sep_dep hs hin h2 hop h1 ht).1 hm;have:=h6 e he hb;rw [hei,hnV] at this;cases this
          refine ⟨ok,y,h1,h2,h3,h4,?_,fun e he hb=>?_⟩
          · rw [Act.eval_put hne,Act.put_comm _ _ _ (fun t ht=>?_),h5];rcases (sep_dep hs hin h2 hop h1 ht).2 with h7 | h7
            · exact absurd h7.symm hkj
            · exact h7
          · rw [getD_set hvl];split
            · rfl
            · exact h6 e he hb
        · cases hdst:op.dst with
          | none=>exact hI.tm
          | some t=>simp [Act.put,hI.tm]
        · cases hdst:op.dst with
          | none=>exact hI.df
          | some t=>simp [Act.put,hI.df]
        · have h2:=hI.agree t ht;cases hdst:op.dst with
          | none=>exact h2
          | some q =>
            simp only [Act.put];by_cases htq:q=t
            · subst htq;by_cases hb:q<a.tmps.size
              · have hb':q<a'.tmps.size:=(by rw [hI.tm];exact hb);simp [hb,hb']
              · have hb':¬ q<a'.tmps.size:=(by rw [hI.tm];exact hb);simp [hb,hb']
            · rw [Array.getElem?_setIfInBounds_ne htq,Array.getElem?_setIfInBounds_ne htq];exact h2
      have:=up hsub hsn ih1 L (AL.setIfInBounds j true) s' _ _ w' hI2 hk' hR';simpa using this
    · have hj':j∈is:=by
        rcases List.mem_cons.1 hj with h | h
        · exact absurd h hji
        · exact h
      cases rest with
      | done=>exact (hrd rfl).elim
      | nil=>cases hrest;cases hj'
      | h i2 o2 s2=>exact (hrh _ _ _ rfl).elim
      | br i2 o2 s2 r2=>exact ih2.2 (.inr ⟨_,_,_,_,rfl⟩) L AL s a a' w hI hk.2 hR j hj' hjr hjL
theorem sim_drawT (hcl:∀ w',w0.Below w'→GI G w' I0) {ops:Array Oper} {nh:Nat} {vc:VCode} (hc:cDrawT P ops nh=some vc) {VQ:VExit→List D→Prop} {Q:Exit→Act→World→Prop} {s:List D} (hk:vc.wp (CT P G) VQ s) (hQ:∀ s a w,VQ .normal s→Rel w0 I0 s a w→Q .normal a w) {a:Act} {w:World} (h:Rel w0 I0 s a w):RegAny P ops Q a w:=by
  unfold cDrawT at hc;split at hc
  · rename_i hm;simp only [Bool.and_eq_true] at hm;split at hc
    · rename_i t b tail hg ht;simp only [Option.some.injEq] at hc;subst hc;simp only [VCode.wp] at hk;obtain ⟨ok,hnn⟩:=genT_spec _ hg;obtain ⟨hd,I,Fs,hR⟩:=h;have hR':Rel w0 I0 s a { w with drawn:=w.drawn+1 }:=⟨hd,I,Fs,hR.world (w':={ w with drawn:=w.drawn+1 }) ((Below.refl _ w).drew)⟩
      have hT:∀ s a w,opsK (CT P G) s tail (VQ .normal)→Rel w0 I0 s a w→wpList P ops Q (ops.toList.drop nh) a w:=fun s a w hk h=>sim_ops hcl ops (KK:=VQ .normal) hQ _ tail s a w ht hk h;have hgF:∀ i,(Array.replicate ops.size false).getD i false=false:=fun i=>by by_cases hi:i<ops.size<;>simp [hi]
      have hI:PInv ops nh [] (Array.replicate ops.size false) (Array.replicate ops.size false) a a :=
        ⟨by simp,by simp,fun i=>by simp,List.nodup_nil,(fun i hi=>by cases hi),(fun i hi=>by cases hi),rfl,rfl,fun _ _=>rfl,fun j x hj _=>by simp only [hgF] at hj;cases hj⟩
      have:=sim_tree (nh:=nh) (Q:=Q) hcl hm.1.1.2 hm.1.2 (KT:=fun s'=>opsK (CT P G) s' tail (VQ .normal)) hT ok;refine ⟨hm.1.1.1,?_⟩;cases t with
      | done=>exact this.1 (.inl rfl) [] _ s a a _ hI hk hR'
      | nil=>exact (hnn rfl).elim
      | h i o sub=>exact this.1 (.inr ⟨_,_,_,rfl⟩) [] _ s a a _ hI hk hR'
      | br i o sub rest =>
        obtain ⟨f2,is,hf,hrr⟩:∃ f2 is,ops.size=f2+1∧Region.ready .any ops (Array.replicate ops.size false)=i::is:=by
          generalize Region.ready .any ops (Array.replicate ops.size false)=rr at ok;generalize Array.replicate ops.size false=ll at ok;generalize ops.size=nn at ok;cases ok with
          | br=>exact ⟨_,_,rfl,rfl⟩
        have h2:=root_of (KT:=fun s'=>opsK (CT P G) s' tail (VQ .normal)) hm.1.1.2 (t:=.br i o sub rest) (f:=f2) rfl (by rw [hrr];simp) (fun L AL s a a' w hI hk hR j hj hjr hjL=>by
          have:=this.2 (.inr ⟨_,_,_,_,rfl⟩) L AL s a a' w hI hk hR j hj hjr hjL;rw [hf] at this;simpa using this) 0 [] _ s a a _ rfl hI hk hR'
        rw [hf];rw [hf] at h2;exact h2
    · cases hc
  · cases hc
end
end Go.V
namespace Go.V
open Go.RowKit
/-! ### Plain moves ahead of a region that draws -/
def NoX (Q:Exit→Act→World→Prop):Prop:=∀ e a w,Q e a w→e=.normal
def isMv1 (o:Oper):Bool:=match o.op with
  | .move _=>true
  | _=>false
def mvOK (ops:Array Oper)(i:Nat):Bool:=match ops[i]? with
  | some o=>isMv1 o&&o.guard.isNone&&o.after.all (fun e=>!Region.binds .any e)&&Region.free .any ops (Array.replicate ops.size false) i
  | none=>false
def moves (ops:Array Oper):List Nat:=(List.range ops.size).filter (mvOK ops)
def aheadO (M:List Nat)(i:Nat)(o:Oper):Oper:=if M.contains i=true then o else { o with after:=o.after++(M.map fun j=>(⟨j,.data⟩:Edge)).toArray }
def ahead (M:List Nat)(ops:Array Oper):Array Oper:=ops.mapIdx (aheadO M)
section
variable {P:Program} {Q:Exit→Act→World→Prop} {M:List Nat} {ops:Array Oper}
theorem ahead_size:(ahead M ops).size=ops.size:=by simp [ahead]
theorem ahead_get (i:Nat):(ahead M ops)[i]?=(ops[i]?).map (aheadO M i):=by simp [ahead]
theorem aheadO_dst (i:Nat)(o:Oper):(aheadO M i o).dst=o.dst:=by unfold aheadO;split<;>rfl
theorem aheadO_guard (i:Nat)(o:Oper):(aheadO M i o).guard=o.guard:=by unfold aheadO;split<;>rfl
theorem ahead_yield (tm:Array Value):yielded (ahead M ops) tm=yielded ops tm:=by
  funext j;unfold yielded;rw [ahead_get];cases ops[j]? with
  | none=>rfl
  | some o=>simp only [Option.map_some,Option.bind_some,aheadO_dst]
theorem ahead_op {i:Nat}{K:Act→World→Prop}{a:Act}{w:World}:wpOp P (ahead M ops) Q i K a w=wpOp P ops Q i K a w:=by
  unfold wpOp;rw [ahead_get];cases ops[i]? with
  | none=>rfl
  | some o =>
    simp only [Option.map_some,ahead_yield];have h1:Region.wanted (aheadO M i o) (yielded ops a.tmps)=Region.wanted o (yielded ops a.tmps):=by unfold Region.wanted;rw [aheadO_guard]
    rw [h1,aheadO_dst];have h2:(aheadO M i o).wp P a w K Q=o.wp P a w K Q:=by unfold aheadO;split<;>rfl
    have h3:(aheadO M i o).asks P a w=o.asks P a w:=(by unfold aheadO;split<;>rfl);rw [h2,h3]
theorem ahead_ready {md:Region.Mode}{listed:Array Bool}(hM:∀ i,i∈M→listed.getD i false=true):Region.ready md (ahead M ops) listed=Region.ready md ops listed:=by
  unfold Region.ready;rw [ahead_size];refine List.filter_congr fun i _=>?_;rw [ahead_get];cases ops[i]? with
  | none=>rfl
  | some o =>
    simp only [Option.map_some,Option.getD_some];congr 1;unfold aheadO;split
    · rfl
    · have:((M.map fun j=>(⟨j,.data⟩:Edge)).toArray.all fun e=>!Region.binds md e||listed.getD e.on false)=true:=(by rw [Array.all_eq_true_iff_forall_mem];intro e he;obtain ⟨j,hj,rfl⟩:=List.mem_map.1 (by simpa using he);simp only [hM j hj,Bool.or_true]);rw [Array.all_append,this,Bool.and_true]
theorem ahead_any {md:Region.Mode}:∀ (fuel:Nat) (listed:Array Bool) (a:Act) (w:World),(∀ i,i∈M→listed.getD i false=true)→wpAny P md (ahead M ops) Q fuel listed a w→wpAny P md ops Q fuel listed a w
  | 0,listed,a,w,hM,h=>by obtain ⟨h1,h2⟩:=h;rw [ahead_ready hM] at h1;exact ⟨h1,h2⟩
  | fuel+1,listed,a,w,hM,h=>by
    obtain ⟨h1,h2⟩:=h;rw [ahead_ready hM] at h1 h2;refine ⟨h1,fun i hi=>?_⟩;have:=h2 i hi;rw [ahead_op] at this;refine wpOp_mono (fun a' w' h3=>ahead_any fuel _ a' w' (fun j hj=>?_) h3) this;by_cases hji:i=j
    · subst hji;have:=hM i hj;have hlt:i<listed.size:=by
        rcases Nat.lt_or_ge i listed.size with h' | h'
        · exact h'
        · simp [Array.getElem?_eq_none h'] at this
      simp [hlt]
    · have:=hM j hj;simpa [Array.getD_eq_getD_getElem?,Array.getElem?_setIfInBounds_ne hji] using this
theorem free_none {i:Nat}(h:Region.free .any ops (Array.replicate ops.size false) i=true)(listed:Array Bool):Region.free .any ops listed i=true:=by
  unfold Region.free at h ⊢;split at h
  · cases h
  · rename_i oi hoi;rw [List.all_eq_true] at h ⊢;intro j hj;have:=h j hj;have hlt:j<ops.size:=by simpa using hj
    have hf:(Array.replicate ops.size false).getD j true=false:=(by simp [hlt]);rw [hf,Bool.or_false] at this;rcases Bool.or_eq_true_iff.1 this with h1 | h1
    · rw [h1];simp
    · rw [Bool.or_assoc,h1];simp
theorem moves_first (hs:Region.noSelect ops=true) (hQ:NoX Q) (f:Nat):∀ (L:List Nat) (listed:Array Bool) (a:Act) (w:World),listed.size=ops.size→(∀ i,i∈M→i∈L∨listed.getD i false=true)→(∀ i,i∈L→mvOK ops i=true∧i∈M∧listed.getD i true=false)→L.Nodup→wpAny P .any (ahead M ops) Q (f+L.length) listed a w→wpAny P .any ops Q (f+L.length) listed a w
  | [],listed,a,w,_,hM,_,_,h=>ahead_any _ _ _ _ (fun i hi=>(hM i hi).resolve_left (by simp)) h
  | i :: L,listed,a,w,hsz,hM,hL,hnd,h=>by
    obtain ⟨hok,hiM,hli⟩:=hL i (by simp);unfold mvOK at hok;cases ho:ops[i]? with
    | none=>rw [ho] at hok;cases hok
    | some o =>
    rw [ho] at hok;simp only [Bool.and_eq_true] at hok;obtain ⟨⟨⟨hmv,hg⟩,haf⟩,hfr⟩:=hok;have hlt:i<ops.size:=(Array.getElem?_eq_some_iff.1 ho).1;obtain ⟨x,hx⟩:∃ x,o.op=.move x:=by unfold isMv1 at hmv;cases hop:o.op<;>rw [hop] at hmv<;>first | exact ⟨_,rfl⟩ | simp at hmv
    have hgn:o.guard=none:=(by simpa using hg);have hall:(o.after.all fun e=>!Region.binds .any e||listed.getD e.on false)=true:=(by rw [Array.all_eq_true_iff_forall_mem] at haf ⊢;intro e he;rw [haf e he];rfl);have hself:aheadO M i o=o:=(by unfold aheadO;rw [if_pos (by simpa using hiM)]);have hr1:i∈Region.ready .any (ahead M ops) listed:=(by unfold Region.ready;rw [List.mem_filter,ahead_size,ahead_get,ho];refine ⟨by simpa using hlt,?_⟩;simp only [Option.map_some,Option.getD_some,hself,hli,hall];rfl);have hr2:i∈Region.ready .any ops listed:=(by unfold Region.ready;rw [List.mem_filter,ho];refine ⟨by simpa using hlt,?_⟩;simp only [Option.map_some,Option.getD_some,hli,hall];rfl);have hrun:∀ w,(execOp a.eval o).run P w=.ok (.value (a.eval x)) w:=fun w=>by unfold execOp;rw [hx];rfl
    have hwant:∀ y,Region.wanted o y=true:=fun y=>by unfold Region.wanted;rw [hgn]
    have h2:=h.2 i hr1;rw [ahead_op] at h2;unfold wpOp at h2;simp only [ho,hwant,if_true] at h2;have h3:wpAny P .any (ahead M ops) Q (f+L.length) (listed.setIfInBounds i true) (a.put o.dst (a.eval x)) w:=by
      rcases h2 with h2 | ⟨_,b,v,h2⟩
      · unfold Oper.wp at h2;rw [hrun] at h2;exact h2
      · have:=hQ _ _ _ h2;cases this
    have h4:=moves_first hs hQ f L (listed.setIfInBounds i true) (a.put o.dst (a.eval x)) w (by simpa using hsz) (fun j hj=>?_) (fun j hj=>?_) (List.nodup_cons.1 hnd).2 h3
    · exact wpAny_take ho hs (free_none hfr listed) (by simpa using hr2) (fun c a w h=>by have:=hQ _ _ _ h;cases this) (.inl ⟨hwant _,hrun⟩) h4
    · by_cases hji:i=j
      · subst hji;exact .inr (by simp [hsz,hlt])
      · rcases hM j hj with h5 | h5
        · rcases List.mem_cons.1 h5 with h6 | h6
          · exact absurd h6.symm hji
          · exact .inl h6
        · exact .inr (by simpa [Array.getD_eq_getD_getElem?,Array.getElem?_setIfInBounds_ne hji] using h5)
    · obtain ⟨k1,k2,k3⟩:=hL j (List.mem_cons_of_mem _ hj);have hji:i≠j:=fun e=>by subst e;exact (List.nodup_cons.1 hnd).1 hj
      exact ⟨k1,k2,by simpa [Array.getD_eq_getD_getElem?,Array.getElem?_setIfInBounds_ne hji] using k3⟩
theorem reg_ahead (hs:Region.noSelect ops=true)(hQ:NoX Q){a:Act}{w:World}(h:RegAny P (ahead (moves ops) ops) Q a w):RegAny P ops Q a w:=by
  refine ⟨h.1,?_⟩;have h2:=h.2;rw [ahead_size] at h2;have hle:(moves ops).length≤ops.size:=by have:=List.length_filter_le (mvOK ops) (List.range ops.size);simpa [moves] using this
  obtain ⟨f,hf⟩:∃ f,ops.size=f+(moves ops).length:=⟨ops.size-(moves ops).length,by omega⟩
  have key:=moves_first (P:=P) (M:=moves ops) hs hQ f (moves ops) (Array.replicate ops.size false) a { w with drawn:=w.drawn+1 } (by simp) (fun i hi=>.inl hi) (fun i hi=>?_) ?_
  · rw [← hf] at key;exact key h2
  · have hi':=hi;unfold moves at hi;rw [List.mem_filter] at hi;have hlt:i<ops.size:=(by simpa using hi.1);exact ⟨hi.2,hi',by simp [hlt]⟩
  · exact List.Nodup.sublist List.filter_sublist List.nodup_range
end
end Go.V
namespace Go.V
open Go.RowKit
/-! ### Regions that draw, order by order: what hangs on no memory goes first -/
def freeV:Op→VOp→Bool
  | .move _,.mv _=>true
  | .fieldAddr _ _ _,.fa _ _=>true
  | .indexAddr _ _ _,.ia _ _ _=>true
  | .call _,.len _=>true
  | .binOp _ _ _ _ _,.bin _ _ _=>true
  | _,_=>false
section
variable (P:Program)
def freeE (ops:Array Oper)(oi:Oper)(i:Nat):Bool:=(List.range ops.size).all fun j=>j==i||match ops[j]? with
  | some oj=>oj.after.any (fun e=>Region.binds .any e&&e.on==i)||oi.after.any (fun e=>Region.binds .any e&&e.on==j)||oi.apart ops oj
  | none=>true
def frOK (ops:Array Oper)(i:Nat):Bool:=match ops[i]? with
  | some o=>o.guard.isNone&&(match cOp P false o.op with | some v=>freeV o.op v | none=>false)&&freeE ops o i
  | none=>false
def frees (ops:Array Oper)(nh:Nat):List Nat:=(List.range nh).filter (frOK P ops)
def genTF (ops:Array Oper) (M:List Nat) (nh:Nat):Nat→Nat→Array Bool→Option (VT×Nat)
  | fuel,bud,listed =>
    if (bud==0)=true then none else
    if (decide (fuel=ops.size-nh)&&listed==headArr ops.size nh&&Region.seqB .any ops (ops.size-nh) nh listed)=true then some (.done,bud-1) else
    match fuel with
    | 0=>none
    | f+1=>match (Region.ready .any ops listed).find? (fun i=>M.contains i) with
      | some i=>genH P (fun i b=>genTF ops M nh f b (listed.setIfInBounds i true)) ops i (bud-1)
      | none=>if ((Region.ready .any ops listed).isEmpty||!(Region.ready .any ops listed).all (fun i=>decide (i<nh)))=true then none else genL P (fun i b=>genTF ops M nh f b (listed.setIfInBounds i true)) ops (Region.ready .any ops listed) (bud-1)
def cDrawFr (ops:Array Oper) (nh:Nat):Option VCode :=
  if (P.follows .mixedOrders&&Region.noSelect ops&&decide (nh≤ops.size))=true then
    match genTF P ops (frees P ops nh) nh ops.size 1200 (Array.replicate ops.size false),cVOs P ops (ops.toList.drop nh) with
    | some (t,_),some tail=>some (.drawT t tail)
    | _,_=>none
  else none
end
section
variable {P:Program} {G:World→(Nat→Prop)→Prop} {w0:Base} {I0:Nat→Prop}
theorem freeE_free {ops:Array Oper} {i:Nat} {oi:Oper} {listed:Array Bool} (hi:ops[i]?=some oi) (h:freeE ops oi i=true) (hr:i∈Region.ready .any ops listed):Region.free .any ops listed i=true:=by
  obtain ⟨_,o',ho',hed⟩:=mem_ready.1 hr;rw [hi] at ho';cases ho';unfold Region.free;rw [hi];simp only;unfold freeE at h;rw [List.all_eq_true] at h ⊢;intro j hj;have h1:=h j hj;cases ho:ops[j]? with
  | none=>simp
  | some oj =>
    rw [ho] at h1;simp only at h1;rcases Bool.or_eq_true_iff.1 h1 with h2 | h2
    · rw [h2];rfl
    · rcases Bool.or_eq_true_iff.1 h2 with h3 | h3
      · rcases Bool.or_eq_true_iff.1 h3 with h4 | h4
        · simp only [h4,Bool.true_or,Bool.or_true]
        · obtain ⟨e,he,hb⟩:=Array.any_eq_true'.1 h4;simp only [Bool.and_eq_true,beq_iff_eq] at hb;have h5:=hed e he hb.1;rw [hb.2] at h5;have h6:listed.getD j true=true:=by
            rcases Nat.lt_or_ge j listed.size with h' | h'
            · simp [h'] at h5 ⊢;exact h5
            · simp [Array.getElem?_eq_none h']
          simp only [h6,Bool.or_true,Bool.true_or]
      · simp only [h3,Bool.or_true]
def Still (P:Program)(m:Sem Next):Prop:=∃ v,∀ w,m.run P w=.ok (.value v) w
variable {Ctr:CtrT} {s:List D} {a:Act} {w:World} {I:Nat→Prop} {Fs:Nat→List Nat} {K:D→List D→Prop}
theorem still_fa (h:RelI w0 I0 s a.tmps w I Fs){off n:Nat}{x:Operand}{st:TypeId}{f:Nat}{fs:Array Field}{fd:Field}{o:Oper}(ho:o.op=.fieldAddr st x f)(hs:P.underlying st=some (.struct fs))(hf:fs[f]?=some fd)(hn:(P.info? fd.type).map (·.size)=some (n+1))(hk:evalK Ctr s (.fa off x) K):Still P (execOp a.eval o):=by
  have hx:=lk_T h x;simp only [evalK] at hk;split at hk
  · rename_i r q i j e;rw [e] at hx;simp only [T] at hx;obtain ⟨⟨d,u0,t,sz,rows,u1,b,oo,h1,h2,h3,h4,h5,h6,h7⟩,_⟩:=hx;exact ⟨.pointer (some ⟨b,oo+i*sz+j+fd.offset,none⟩),fun w'=>by simp [execOp,ho,h7,Instr.fieldAt,run_underlying hs,hf,Instr.sureAddr,fieldPlace_run hn]⟩
  · rename_i c j e;rw [e] at hx;simp only [T] at hx;obtain ⟨_,b,oo,raw,e',hI,hr,hc⟩:=hx;exact ⟨.pointer (some ⟨b,oo+j+fd.offset,none⟩),fun w'=>by simp [execOp,ho,e',Instr.fieldAt,run_underlying hs,hf,Instr.sureAddr,fieldPlace_run hn]⟩
  · exact hk.elim
theorem still_ia (h:RelI w0 I0 s a.tmps w I Fs) {sz:Nat} {x i:Operand} {xt et:TypeId} {o:Oper} (ho:o.op=.indexAddr xt x i) (hx:P.underlying xt=some (.slice et)) (hsz:(P.info? et).map (·.size)=some sz) (hk:evalK Ctr s (.ia sz x i) K):Still P (execOp a.eval o):=by
  have hX:=lk_T h x;have hI:=lk_T h i;have hrun:∀ (k:IntKind) (n:Int) (b oo l c:Nat),a.eval i=.int k n→a.eval x=.slice (some ⟨b,oo,none⟩) l c→0≤n→n<l→Still P (execOp a.eval o):=by
    intro k n b oo l c e1 e2 h1 h2;cases hq:P.info? et with
    | none=>simp [hq] at hsz
    | some ii=>simp [hq] at hsz;exact ⟨.pointer (some ⟨b,oo+n.toNat*sz,none⟩),fun w'=>by simp [execOp,ho,e1,e2,Instr.indexAt,asIntOf,run_underlying hx,h1,h2,sizeOf,typeInfo,hq,hsz,Addr.add_mid]⟩
  simp only [evalK] at hk;split at hk
  · rename_i k n r q e1 e2;rw [e1] at hI;rw [e2] at hX;split at hk
    · rename_i sz' rows e3;obtain ⟨h1,h2,rfl,hK⟩:=hk;obtain ⟨F',ρ',k2,_⟩:=ref_form h hX e3;have hlt:n.toNat<rows.length:=by omega
      obtain ⟨b,oo,us,F2,ρ2,hb,_⟩:=row_T k2 (by rfl) (List.getElem?_eq_getElem hlt);obtain ⟨ad,c,e4,_,_⟩:=T_sl_form k2;rw [e4] at hb;have:ad=some ⟨b,oo,none⟩:=by
        cases ad with
        | none=>simp [baseOf] at hb
        | some z=>obtain ⟨z1,z2,z3⟩:=z;cases z3<;>simp [baseOf] at hb;simp [hb]
      subst this;exact hrun k n b oo _ c (T_v hI).1 e4 h1 h2
    · exact hk.elim
  · rename_i k n sz' rows e1 e2;rw [e1] at hI;rw [e2] at hX;obtain ⟨h1,h2,rfl,row,hrow,hK⟩:=hk;simp only [T] at hX;obtain ⟨ad,c,e4,_,_,h3⟩:=hX;rcases h3 with ⟨_,_,h3⟩ | ⟨h3,_⟩
    · rcases h3 with h3 | ⟨b,oo,raw,rfl,hIb,hr,hR⟩
      · subst h3;simp at hrow
      · exact hrun k n b oo _ c (T_v hI).1 e4 h1 h2
    · simp at h3
  · exact hk.elim
theorem still_len (h:RelI w0 I0 s a.tmps w I Fs){x:Operand}{xt e:TypeId}{args:Array TypeId}{o:Oper}(ho:o.op=.call { callee:=.builtin .len,args:=#[x],argTypes:=args })(ha:args[0]?=some xt)(hx:P.underlying xt=some (.slice e))(hk:evalK Ctr s (.len x) K):Still P (execOp a.eval o):=by
  have hX:=lk_T h x;simp only [evalK] at hk;split at hk
  · rename_i sz rows e1;obtain ⟨b,c,e2,_⟩:=sl_form h hX e1;exact ⟨.int .i64 rows.length,fun w'=>by simp [execOp,ho,resolve,invoke,builtin,Builtin.len_,ha,e2,run_underlying hx,goInt]⟩
  · exact hk.elim
theorem still_bin (h:RelI w0 I0 s a.tmps w I Fs){op:BinOp}{x y:Operand}{xt yt:TypeId}{o:Oper}(ho:o.op=.binOp op xt x y yt)(hk:evalK Ctr s (.bin op x y) K):Still P (execOp a.eval o):=by
  have hx:=lk_T h x;have hy:=lk_T h y;simp only [evalK] at hk;split at hk
  · rename_i k b1 k' b2 e1 e2;rw [e1] at hx;rw [e2] at hy;obtain ⟨v,hv,hr⟩:=intK_run (P:=P) hk xt;refine ⟨v,fun w'=>?_⟩;have hg:(eqGuard op xt x y (.int k b1) (.int k' b2)).run P w'=.ok () w':=by unfold eqGuard;split<;>rfl
    simp only [execOp,ho,(T_v hx).1,(T_v hy).1,Sem.run_bind,hg,Result.andThen_ok,hr];rfl
  · rename_i b1 b2 e1 e2;rw [e1] at hx;rw [e2] at hy;obtain ⟨v,hv,hr⟩:=strK_run (P:=P) hk xt;refine ⟨v,fun w'=>?_⟩;have hg:(eqGuard op xt x y (.string b1) (.string b2)).run P w'=.ok () w':=by unfold eqGuard;split<;>rfl
    simp only [execOp,ho,(T_v hx).1,(T_v hy).1,Sem.run_bind,hg,Result.andThen_ok,hr];rfl
  · exact hk.elim
theorem still_op (h:RelI w0 I0 s a.tmps w I Fs) {o:Oper} {v:VOp} (hf:freeV o.op v=true) (hc:cOp P false o.op=some v) (hk:evalK Ctr s v K):Still P (execOp a.eval o):=by
  cases hop:o.op with
  | move x=>exact ⟨a.eval x,fun w'=>by simp only [execOp,hop];rfl⟩
  | fieldAddr st x f =>
    rw [hop] at hc;simp only [cOp] at hc;split at hc
    · rename_i fs hs;split at hc
      · rename_i fd hfd;split at hc
        · rename_i i hi;split at hc
          · rename_i hpos;simp only [Option.some.injEq] at hc;subst hc;exact still_fa (n:=i.size-1) h hop hs hfd (by rw [hi];simp;omega) hk
          · cases hc
        · cases hc
      · cases hc
    · cases hc
  | indexAddr t x i =>
    rw [hop] at hc hf;simp only [cOp] at hc;split at hc
    · rename_i e hs;split at hc
      · rename_i ie hi;simp only [Option.some.injEq] at hc;subst hc;exact still_ia h hop hs (by rw [hi];rfl) hk
      · cases hc
    · split at hc
      · simp only [Option.some.injEq] at hc;subst hc;simp [freeV] at hf
      · cases hc
    · cases hc
  | binOp op xt x y yt =>
    rw [hop] at hc hf;have:∀ op2 x2 y2,v=.bin op2 x2 y2→op2=op∧x2=x∧y2=y:=by
      rintro op2 x2 y2 rfl;simp only [cOp] at hc
      repeat' split at hc
      all_goals simp_all
    cases v<;>simp only [freeV,Bool.false_eq_true] at hf;obtain ⟨rfl,rfl,rfl⟩:=this _ _ _ rfl;exact still_bin h hop hk
  | call c =>
    rw [hop] at hc hf;obtain ⟨callee,args,ats⟩:=c;cases v<;>simp only [freeV,Bool.false_eq_true] at hf;rename_i x;simp only [cOp] at hc;split at hc
    · simp at hc
    · simp at hc
    · split at hc
      · rename_i y t ha ht;split at hc
        · simp at hc
        · rename_i e hu;simp only [Option.some.injEq,VOp.len.injEq] at hc;subst hc;rw [arr1 ha] at hop;exact still_len h hop ht hu hk
        · simp at hc
        · cases hc
      · cases hc
    all_goals exfalso;revert hc;repeat' split
    all_goals simp
  | _=>rw [hop] at hf;simp [freeV] at hf
inductive OKF (P:Program) (ops:Array Oper) (nh:Nat):VT→Nat→Array Bool→List Nat→Prop
  | done {fuel listed rdy}:fuel=ops.size-nh→listed=headArr ops.size nh→Region.seqB .any ops (ops.size-nh) nh listed=true→OKF P ops nh .done fuel listed rdy
  | nil {fuel listed}:OKF P ops nh .nil fuel listed []
  | h {i o op sub f listed rdy}:ops[i]?=some op→cVO P false ops op=some o→frOK P ops i=true→i∈Region.ready .any ops listed→OKF P ops nh sub f (listed.setIfInBounds i true) (Region.ready .any ops (listed.setIfInBounds i true))→(sub=.nil→False)→OKF P ops nh (.h i o sub) (f+1) listed rdy
  | br {i o op sub rest f listed is}:ops[i]?=some op→cVO P false ops op=some o→OKF P ops nh sub f (listed.setIfInBounds i true) (Region.ready .any ops (listed.setIfInBounds i true))→(sub=.nil→False)→OKF P ops nh rest (f+1) listed is→(rest=.done→False)→(∀ a b c,rest=.h a b c→False)→OKF P ops nh (.br i o sub rest) (f+1) listed (i::is)
theorem genL_specF {ops:Array Oper} {nh f:Nat} {listed:Array Bool} {g:Nat→Nat→Option (VT×Nat)} (hg:∀ i b t b',g i b=some (t,b')→OKF P ops nh t f (listed.setIfInBounds i true) (Region.ready .any ops (listed.setIfInBounds i true))∧(t=.nil→False)):∀ (is:List Nat) {bud:Nat} {t:VT} {b':Nat},genL P g ops is bud=some (t,b')→OKF P ops nh t (f+1) listed is∧(t=.done→False)∧(∀ a b c,t=.h a b c→False)∧(t=.nil→is=[])
  | [],bud,t,b',h=>by simp only [genL,Option.some.injEq,Prod.mk.injEq] at h;obtain ⟨rfl,_⟩:=h;exact ⟨.nil,(fun h=>by cases h),(fun _ _ _ h=>by cases h),fun _=>rfl⟩
  | i :: is,bud,t,b',h=>by
    simp only [genL] at h;split at h
    · rename_i op hop;split at h
      · rename_i o ho;split at h
        · rename_i sub b1 hs;split at h
          · rename_i rest b2 hr;simp only [Option.some.injEq,Prod.mk.injEq] at h;obtain ⟨rfl,_⟩:=h;obtain ⟨h1,h2⟩:=hg _ _ _ _ hs;obtain ⟨h3,h4,h5,_⟩:=genL_specF hg is hr;exact ⟨.br hop ho h1 h2 h3 h4 h5,(fun h=>by cases h),(fun _ _ _ h=>by cases h),(fun h=>by cases h)⟩
          · cases h
        · cases h
      · cases h
    · cases h
theorem genTF_spec {ops:Array Oper} {M:List Nat} (hM:∀ i,i∈M→frOK P ops i=true) {nh:Nat}:∀ (fuel:Nat) {bud:Nat} {listed:Array Bool} {t:VT} {b':Nat},genTF P ops M nh fuel bud listed=some (t,b')→OKF P ops nh t fuel listed (Region.ready .any ops listed)∧(t=.nil→False)
  | fuel, bud,listed,t,b',h=>by
    unfold genTF at h;split at h
    · cases h
    · split at h
      · rename_i hd;simp only [Bool.and_eq_true,decide_eq_true_eq,beq_iff_eq] at hd;simp only [Option.some.injEq,Prod.mk.injEq] at h;obtain ⟨rfl,_⟩:=h;exact ⟨.done hd.1.1 hd.1.2 hd.2,(fun h=>by cases h)⟩
      · cases fuel with
        | zero=>cases h
        | succ f =>
          simp only at h;split at h
          · rename_i i hf;have hmem:=List.mem_of_find?_eq_some hf;have hp:=List.find?_some hf;unfold genH at h;split at h
            · rename_i op hop;split at h
              · rename_i o ho;split at h
                · rename_i sub b1 hs;simp only [Option.some.injEq,Prod.mk.injEq] at h;obtain ⟨rfl,_⟩:=h;obtain ⟨h1,h2⟩:=genTF_spec hM f hs;exact ⟨.h hop ho (hM i (by simpa using hp)) hmem h1 h2,(fun h=>by cases h)⟩
                · cases h
              · cases h
            · cases h
          · split at h
            · cases h
            · rename_i hne;simp only [Bool.or_eq_true,Bool.not_eq_true',not_or] at hne;obtain ⟨h1,h2,_,h3⟩:=genL_specF (nh:=nh) (f:=f) (listed:=listed) (fun i b t b' hgt=>genTF_spec hM f hgt) _ h;refine ⟨h1,fun h=>?_⟩;rw [h3 h] at hne;exact hne.1 rfl
theorem sim_treeF (hcl:∀ w',w0.Below w'→GI G w' I0) {ops:Array Oper} {nh:Nat} {Q:Exit→Act→World→Prop} (hQn:NoX Q) {KT:List D→Prop} (hs:Region.noSelect ops=true) (hT:∀ s a w,KT s→Rel w0 I0 s a w→wpList P ops Q (ops.toList.drop nh) a w) {t:VT} {fuel:Nat} {VL:Array Bool} {rdy:List Nat} (ok:OKF P ops nh t fuel VL rdy) :
    ((t=.done∨∃ i o sub,t=.h i o sub)→∀ (s:List D) (a:Act) (w:World),t.wp (CT P G) KT s→Rel w0 I0 s a w→wpAny P .any ops Q fuel VL a w) ∧
    ((t=.nil∨∃ i o sub rest,t=.br i o sub rest)→∀ (s:List D) (a:Act) (w:World),t.wp (CT P G) KT s→Rel w0 I0 s a w→∀ i∈rdy,wpOp P ops Q i (wpAny P .any ops Q (fuel-1) (VL.setIfInBounds i true)) a w):=by
  have up:∀ {t:VT} {f:Nat} {VL:Array Bool},OKF P ops nh t f VL (Region.ready .any ops VL)→(t=.nil→False) →
      (((t=.done∨∃ i o sub,t=.h i o sub)→∀ (s:List D) (a:Act) (w:World),t.wp (CT P G) KT s→Rel w0 I0 s a w→wpAny P .any ops Q f VL a w) ∧
      ((t=.nil∨∃ i o sub rest,t=.br i o sub rest)→∀ (s:List D) (a:Act) (w:World),t.wp (CT P G) KT s→Rel w0 I0 s a w→∀ i∈Region.ready .any ops VL,wpOp P ops Q i (wpAny P .any ops Q (f-1) (VL.setIfInBounds i true)) a w)) →
      ∀ (s:List D) (a:Act) (w:World),t.wp (CT P G) KT s→Rel w0 I0 s a w→wpAny P .any ops Q f VL a w:=by
    intro t f VL ok hnn ih s a w hk hR;cases t with
    | done=>exact ih.1 (.inl rfl) s a w hk hR
    | nil=>exact (hnn rfl).elim
    | h i o sub=>exact ih.1 (.inr ⟨_,_,_,rfl⟩) s a w hk hR
    | br i o sub rest =>
      obtain ⟨f2,is,rfl,hrr⟩:∃ f2 is,f=f2+1∧Region.ready .any ops VL=i::is:=by
        generalize Region.ready .any ops VL=rr at ok;cases ok with
        | br=>exact ⟨_,_,rfl,rfl⟩
      have:=ih.2 (.inr ⟨_,_,_,_,rfl⟩) s a w hk hR;exact ⟨fun h0=>(by rw [hrr] at h0;cases h0),this⟩
  induction ok with
  | @done fuel listed rdy h1 h2 h3 =>
    subst h1;subst h2;refine ⟨fun _ s a w hk hR=>?_,(fun h=>by rcases h with h | ⟨_,_,_,_,h⟩<;>cases h)⟩;have hl:(ops.toList.drop nh).length=ops.size-nh:=by simp
    have:=wpAny_of_seq (P:=P) (md:=.any) (ops:=ops) (Q':=Q) (ops.toList.drop nh) nh (headArr ops.size nh) a w (fun j=>by simp [List.getElem?_drop]) (by rw [hl];exact h3) (hT s a w hk hR);rw [hl] at this;exact this
  | nil=>exact ⟨(fun h=>by rcases h with h | ⟨_,_,_,h⟩<;>cases h),(fun _ _ _ _ _ _ i hi=>by cases hi)⟩
  | @h i o op sub f listed rdy hop ho hfr hrd hsub hsn ih =>
    refine ⟨fun _ s a w hk hR=>?_,(fun h=>by rcases h with h | ⟨_,_,_,_,h⟩<;>cases h)⟩;simp only [VT.wp] at hk;unfold frOK at hfr;rw [hop] at hfr;simp only [Bool.and_eq_true] at hfr;obtain ⟨⟨hg,hfv⟩,hfree⟩:=hfr;have hg:op.guard=none:=by simpa using hg
    obtain ⟨hd,I,Fs,hRI⟩:=hR;have hGw:GI G w I0:=hcl _ hRI.below;have hv:=ho;simp only [cVO,hg,cGuard] at hv;cases hcop:cOp P false op.op with
    | none=>simp [hcop] at hv
    | some vop =>
    simp only [hcop,Option.some.injEq] at hv;rw [hcop] at hfv;subst hv;simp only [stepK] at hk;obtain ⟨u,hu⟩:=still_op hRI hfv hcop hk;have hrun:=sim_op (nn:=false) hGw hRI (fun h=>by cases h) hcop hk;unfold RunsTo at hrun;rw [hu] at hrun;obtain ⟨d,s',I',Fs',F,hK,hR',hT',hF,_⟩:=hrun;have hR2:Rel w0 I0 (match op.dst with | some t=>putD s' t d | none=>s') (a.put op.dst u) w:=put_rel hd hR' hT' hF;have hwant:∀ y,Region.wanted op y=true:=fun y=>by unfold Region.wanted;rw [hg]
    exact wpAny_take hop hs (freeE_free hop hfree hrd) (by simpa using hrd) (fun c a w h=>by have:=hQn _ _ _ h;cases this) (.inl ⟨hwant _,hu⟩) (up hsub hsn ih _ _ w hK hR2)
  | @br i o op sub rest f listed is hop ho hsub hsn hrest hrd hrh ih1 ih2 =>
    refine ⟨(fun h=>by rcases h with h | ⟨_,_,_,h⟩<;>cases h),fun _ s a w hk hR j hj=>?_⟩;simp only [VT.wp] at hk;by_cases hji:j=i
    · subst hji;exact sim_step hcl hop ho hk.1 rfl rfl (fun s' u w' hk' hR'=>up hsub hsn ih1 s' _ w' hk' hR') hR
    · have hj':j∈is:=by
        rcases List.mem_cons.1 hj with h | h
        · exact absurd h hji
        · exact h
      cases rest with
      | done=>exact (hrd rfl).elim
      | nil=>cases hrest;cases hj'
      | h i2 o2 s2=>exact (hrh _ _ _ rfl).elim
      | br i2 o2 s2 r2=>exact ih2.2 (.inr ⟨_,_,_,_,rfl⟩) s a w hk.2 hR j hj'
theorem sim_drawFr (hcl:∀ w',w0.Below w'→GI G w' I0) {ops:Array Oper} {nh:Nat} {vc:VCode} (hc:cDrawFr P ops nh=some vc) {VQ:VExit→List D→Prop} {Q:Exit→Act→World→Prop} (hQn:NoX Q) {s:List D} (hk:vc.wp (CT P G) VQ s) (hQ:∀ s a w,VQ .normal s→Rel w0 I0 s a w→Q .normal a w) {a:Act} {w:World} (h:Rel w0 I0 s a w):RegAny P ops Q a w:=by
  unfold cDrawFr at hc;split at hc
  · rename_i hm;simp only [Bool.and_eq_true] at hm;split at hc
    · rename_i t b tail hg ht;simp only [Option.some.injEq] at hc;subst hc;simp only [VCode.wp] at hk;obtain ⟨ok,hnn⟩:=genTF_spec (fun i hi=>by unfold frees at hi;exact (List.mem_filter.1 hi).2) _ hg;obtain ⟨hd,I,Fs,hR⟩:=h;have hR':Rel w0 I0 s a { w with drawn:=w.drawn+1 }:=⟨hd,I,Fs,hR.world (w':={ w with drawn:=w.drawn+1 }) ((Below.refl _ w).drew)⟩
      have hT:∀ s a w,opsK (CT P G) s tail (VQ .normal)→Rel w0 I0 s a w→wpList P ops Q (ops.toList.drop nh) a w:=fun s a w hk h=>sim_ops hcl ops (KK:=VQ .normal) hQ _ tail s a w ht hk h;have:=sim_treeF (nh:=nh) (Q:=Q) hcl hQn hm.1.2 (KT:=fun s'=>opsK (CT P G) s' tail (VQ .normal)) hT ok;refine ⟨hm.1.1,?_⟩;cases t with
      | done=>exact this.1 (.inl rfl) s a _ hk hR'
      | nil=>exact (hnn rfl).elim
      | h i o sub=>exact this.1 (.inr ⟨_,_,_,rfl⟩) s a _ hk hR'
      | br i o sub rest =>
        obtain ⟨f2,is,hf,hrr⟩:∃ f2 is,ops.size=f2+1∧Region.ready .any ops (Array.replicate ops.size false)=i::is:=by
          generalize Region.ready .any ops (Array.replicate ops.size false)=rr at ok;generalize Array.replicate ops.size false=ll at ok;generalize ops.size=nn at ok;cases ok with
          | br=>exact ⟨_,_,rfl,rfl⟩
        have h2:=this.2 (.inr ⟨_,_,_,_,rfl⟩) s a _ hk hR';rw [hf] at h2 ⊢;refine ⟨fun h0=>?_,?_⟩
        · rw [← hf,hrr] at h0;cases h0
        · exact h2
    · cases hc
  · cases hc
end
end Go.V
namespace Go.V
open Go.RowKit
def tmpsOf:List Operand→List Nat
  | []=>[]
  | .tmp t::l=>t::tmpsOf l
  | _::l=>tmpsOf l
def VOp.eats:VOp→List Nat
  | .asg x=>tmpsOf [x]
  | .box x=>tmpsOf [x]
  | .build _ ps=>tmpsOf (ps.map (·.2.2))
  | .bslN _ ps=>tmpsOf ps
  | .appN _ _ x y=>tmpsOf [x,y]
  | .app _ _ x y=>tmpsOf [x,y]
  | _=>[]
def topOf (l:List Nat):Nat:=l.foldl (fun m t=>max m (t+1)) 0
def maskOf (l:List Nat):List Bool:=(List.range (topOf l)).map fun i=>l.contains i
def isPlace (ops:Array Oper) (o:Oper):Bool :=
  match o.op with
  | .call c=>match c.callee with
    | .builtin .append=>match c.args.toList with
      | .tmp t::_=>ops.toList.any fun p=>p.dst==some t&&(match p.op with | .load _ _=>true | .move _=>true | _=>false)
      | _=>false
    | _=>false
  | _=>false
section
variable (P:Program)
def cDops (ops:Array Oper) (w:Option Nat):List Nat→Option (List (Nat×VO))
  | []=>some []
  | i :: is=>match ops[i]? with
    | some o=>match cVO P (w != some i) ops o,cDops ops w is with
      | some v,some vs=>some ((i,v)::vs)
      | _,_=>none
    | none=>none
end
def dstsOf (vos:List (Nat×VO)):List Nat:=vos.filterMap fun v=>v.2.dst
def mkDop (bs:List Nat)(start:List Bool)(vos:List (Nat×VO))(v:Nat×VO):DOp where
  idx:=v.1
  hid:=(List.range start.length).map fun r=>start.getD r false&&!(vos.any (fun e=>e.2.dst==some r&&(bs.getD v.1 0).testBit e.1)&&vos.all (fun j=>j.1==v.1||(bs.getD j.1 0).testBit v.1||!(j.2.op.eats.contains r)))
  cl:=maskOf (v.2.op.eats.filter fun t=>vos.any fun e=>e.2.dst==some t&&(bs.getD v.1 0).testBit e.1)
  vo:=v.2
def yOK (o:DOp):Bool:=match o.vo.op with
  | .app _ _ _ (.tmp t)=>o.cl.getD t false
  | _=>true
section
variable (P:Program)
def cDrawH (ops:Array Oper) (bs:List Nat) (nh n1:Nat) (start:List Bool) (H:List DOp) (tail:List VO):Option VCode :=
  if (P.follows .mixedOrders&&drawB ops H start nh)=true then
    match H.drop n1 with
    | []=>if H.all (fun o=>o.vo.op.framed)=true then some (.draw start (clAll H) H tail) else none
    | o::l2=>if ((H.take n1).all (fun o=>o.vo.op.framed)&&l2.all (fun o=>o.vo.op.framed)&&(H.take n1).all (fun k=>(bs.getD o.idx 0).testBit k.idx)&&o.vo.guard.isNone&&yOK o)=true then some (.drawW start (clAll H) (H.take n1) o l2 tail) else none
  else none
def cDrawV (ops:Array Oper) (bs:List Nat) (nh n1:Nat):Option (List (Nat×VO))→Option VCode
  | some vos=>match cVOs P ops (ops.toList.drop nh) with
    | some tail=>cDrawH P ops bs nh n1 (maskOf (dstsOf vos)) (vos.map (mkDop bs (maskOf (dstsOf vos)) vos)) tail
    | none=>none
  | none=>none
def cDrawW (ops:Array Oper)(bs:List Nat)(nh:Nat):Option Nat→Option VCode
  | none=>cDrawV P ops bs nh nh (cDops P ops none (List.range nh))
  | some w=>cDrawV P ops bs nh ((List.range nh).filter fun i=>(bs.getD w 0).testBit i).length (cDops P ops (some w) (((List.range nh).filter fun i=>(bs.getD w 0).testBit i)++w::(List.range nh).filter fun i=>i != w&&!(bs.getD w 0).testBit i))
def headLen (ops:Array Oper)(bs:List Nat):Nat:=((List.range (ops.size+1)).find? fun i=>(List.range ops.size).all fun t=>decide (t<i)||bs.getD t 0==2 ^ t-1).getD ops.size
def placeAt (ops:Array Oper)(nh:Nat):Option Nat:=(List.range nh).find? fun i=>match ops[i]? with | some o=>isPlace ops o | none=>false
def cDraw0 (ops:Array Oper):Option VCode:=cDrawW P ops (befs ops) (headLen ops (befs ops)) (placeAt ops (headLen ops (befs ops)))
def flCand (ops:Array Oper) (nh:Nat):List Fl:=(List.range nh).filterMap fun j=>match ops[j]? with
  | some o=>match o.op with
    | .store ty (.tmp t) _=>match P.info? ty with
      | some ti=>some ⟨t,ti.size,j,(List.range nh).find? fun i=>match ops[i]? with
        | some o'=>o'.dst==some t
        | none=>false⟩
      | none=>none
    | _=>none
  | none=>none
def cDopsB (ops:Array Oper) (fl:List Fl):List Nat→Option (List (Nat×VO))
  | []=>some []
  | i::is=>match cVB P ops fl i,cDopsB ops fl is with
    | some v,some vs=>some ((i,v)::vs)
    | _,_=>none
def cDrawF (ops:Array Oper)(bs:List Nat)(nh:Nat)(fl:List Fl)(start:List Bool)(H:List DOp)(tail:List VO):Option VCode :=
  if (P.follows .mixedOrders&&drawB ops H start nh&&H.all (fun o=>o.vo.op.framed)&&flOK bs nh fl)=true then some (.drawB (preOf fl) (filOf fl) start (clAll H) H tail) else none
def cDrawG (ops:Array Oper) (bs:List Nat) (nh:Nat) (fl:List Fl):Option (List (Nat×VO))→Option VCode
  | some vos=>match cVOs P ops (ops.toList.drop nh) with
    | some tail=>cDrawF P ops bs nh fl (maskOf (dstsOf vos)) (vos.map (mkDop bs (maskOf (dstsOf vos)) vos)) tail
    | none=>none
  | none=>none
def cDraw1 (ops:Array Oper)(bs:List Nat)(nh:Nat)(fl:List Fl):Option VCode:=cDrawG P ops bs nh fl (cDopsB P ops fl (List.range nh))
def cDraw (ops:Array Oper):Option VCode:=match cDraw0 P ops with
  | some l=>some l
  | none=>match cDraw1 P ops (befs ops) (headLen ops (befs ops)) (flCand P ops (headLen ops (befs ops))) with
    | some l=>some l
    | none=>cDrawT P ops (headLen ops (befs ops))
def cDrawM0 (ops:Array Oper)(M:List Nat)(nh:Nat):Option VCode:=cDrawV P ops (befs ops) nh nh (cDops P ops none (M++(List.range nh).filter fun i=>!M.contains i))
def cDrawM (ops:Array Oper):Option VCode:=if Region.noSelect ops=true then cDrawM0 P (ahead (moves ops) ops) (moves ops) (headLen (ahead (moves ops) ops) (befs (ahead (moves ops) ops))) else none
def cDrawX (pm pt:Bool)(ops:Array Oper):Option VCode:=if pm=true then (if pt=true then cDrawFr P ops (headLen ops (befs ops)) else cDrawM P ops) else if pt=true then (match cDrawT P ops (headLen ops (befs ops)) with
  | some l=>some l
  | none=>cDraw P ops) else cDraw P ops
variable (pt:Nat)
def cCode:Code→List (List Bool)→Option (VCode×List (List Bool))
  | .skip,ms=>some (.skip,ms)
  | .region _ ops false,ms=>match cVOs P ops ops.toList with
    | some l=>some (.ops l,ms)
    | none=>none
  | .region id ops true,ms=>match cDrawX P (pt.testBit (2*id+1)) (pt.testBit (2*id)) ops with
    | some l=>some (l,ms)
    | none=>none
  | .seq a b,ms=>match cCode a ms with
    | some (x,ms1)=>match cCode b ms1 with
      | some (y,ms2)=>some (.seq x y,ms2)
      | none=>none
    | none=>none
  | .cond c a b,ms=>match cCode a ms with
    | some (x,ms1)=>match cCode b ms1 with
      | some (y,ms2)=>some (.cond c x y,ms2)
      | none=>none
    | none=>none
  | .block id c,ms=>match cCode c ms with
    | some (x,ms1)=>some (.block id x,ms1)
    | none=>none
  | .loop c,ms=>match ms with
    | m::ms=>match cCode c ms with
      | some (x,ms1)=>some (.loop m x,ms1)
      | none=>none
    | []=>none
  | .exit id,ms=>some (.exit id,ms)
  | .ret,ms=>some (.ret,ms)
  | _,_=>none
end
section
variable {P:Program} {G:World→(Nat→Prop)→Prop} {w0:Base} {I0:Nat→Prop}
theorem cDops_spec {ops:Array Oper} {w:Option Nat}:∀ {l:List Nat} {vos:List (Nat×VO)},cDops P ops w l=some vos→∀ v∈vos,∃ op n,ops[v.1]?=some op∧cVO P n ops op=some v.2
  | [],vos,h,v,hv=>by simp only [cDops,Option.some.injEq] at h;subst h;cases hv
  | i :: l,vos,h,v,hv=>by
    simp only [cDops] at h;split at h
    · rename_i o ho;split at h
      · rename_i v' vs h1 h2;simp only [Option.some.injEq] at h;subst h;rcases List.mem_cons.1 hv with rfl | hv
        · exact ⟨o,_,ho,h1⟩
        · exact cDops_spec h2 v hv
      · cases h
    · cases h
theorem sim_cDrawH (hcl:∀ w',w0.Below w'→GI G w' I0) {ops:Array Oper} {nh n1:Nat} {start:List Bool} {H:List DOp} {tail:List VO} {vc:VCode} (hc:cDrawH P ops (befs ops) nh n1 start H tail=some vc) (hcomp:∀ o∈H,∃ op n,ops[o.idx]?=some op∧cVO P n ops op=some o.vo) (htl:cVOs P ops (ops.toList.drop nh)=some tail) {VQ:VExit→List D→Prop} {Q:Exit→Act→World→Prop} {s:List D} (hk:vc.wp (CT P G) VQ s) (hQ:∀ s a w,VQ .normal s→Rel w0 I0 s a w→Q .normal a w) {a:Act} {w:World} (h:Rel w0 I0 s a w):RegAny P ops Q a w:=by
  unfold cDrawH at hc;by_cases hB:(P.follows .mixedOrders&&drawB ops H start nh)=true
  · rw [if_pos hB] at hc;simp only [Bool.and_eq_true] at hB;cases hdrop:H.drop n1 with
    | nil =>
      rw [hdrop] at hc;simp only at hc;by_cases hf:H.all (fun o=>o.vo.op.framed)=true
      · rw [if_pos hf] at hc;simp only [Option.some.injEq] at hc;subst hc;exact sim_draw hcl hB.1 hB.2 hf hcomp htl hk hQ h
      · rw [if_neg hf] at hc;cases hc
    | cons o l2 =>
      rw [hdrop] at hc;simp only at hc;by_cases hf:((H.take n1).all (fun o=>o.vo.op.framed)&&l2.all (fun o=>o.vo.op.framed)&&(H.take n1).all (fun k=>((befs ops).getD o.idx 0).testBit k.idx)&&o.vo.guard.isNone&&yOK o)=true
      · rw [if_pos hf] at hc;simp only [Option.some.injEq] at hc;subst hc;simp only [Bool.and_eq_true] at hf;obtain ⟨⟨⟨⟨f1,f2⟩,f3⟩,f4⟩,f5⟩:=hf;have hH:H=H.take n1++o::l2:=by rw [← hdrop,List.take_append_drop]
        refine sim_drawW hcl hB.1 (by rw [← hH];exact hB.2) f1 f2 f3 (by simpa using f4) ?_ (by rw [← hH];exact hcomp) htl (by rw [← hH];exact hk) hQ h;intro sz bytes x y hop t ht;subst ht;unfold yOK at f5;rw [hop] at f5;exact f5
      · rw [if_neg hf] at hc;cases hc
  · rw [if_neg hB] at hc;cases hc
theorem sim_cDrawV (hcl:∀ w',w0.Below w'→GI G w' I0){ops:Array Oper}{nh n1:Nat}{w:Option Nat}{l:List Nat}{vc:VCode}(hc:cDrawV P ops (befs ops) nh n1 (cDops P ops w l)=some vc){VQ:VExit→List D→Prop}{Q:Exit→Act→World→Prop}{s:List D}(hk:vc.wp (CT P G) VQ s)(hQ:∀ s a w,VQ .normal s→Rel w0 I0 s a w→Q .normal a w){a:Act}{W:World}(h:Rel w0 I0 s a W):RegAny P ops Q a W:=by
  cases hv:cDops P ops w l with
  | none=>rw [hv] at hc;cases hc
  | some vos =>
    rw [hv] at hc;simp only [cDrawV] at hc;cases ht:cVOs P ops (ops.toList.drop nh) with
    | none=>rw [ht] at hc;cases hc
    | some tail=>rw [ht] at hc;refine sim_cDrawH hcl hc (fun o ho=>?_) ht hk hQ h;obtain ⟨v,hv',rfl⟩:=List.mem_map.1 ho;exact cDops_spec hv v hv'
theorem sim_cDraw0 (hcl:∀ w',w0.Below w'→GI G w' I0){ops:Array Oper}{vc:VCode}(hc:cDraw0 P ops=some vc){VQ:VExit→List D→Prop}{Q:Exit→Act→World→Prop}{s:List D}(hk:vc.wp (CT P G) VQ s)(hQ:∀ s a w,VQ .normal s→Rel w0 I0 s a w→Q .normal a w){a:Act}{w:World}(h:Rel w0 I0 s a w):RegAny P ops Q a w:=by
  unfold cDraw0 at hc;cases hp:placeAt ops (headLen ops (befs ops)) with
  | none=>rw [hp] at hc;exact sim_cDrawV hcl hc hk hQ h
  | some w=>rw [hp] at hc;exact sim_cDrawV hcl hc hk hQ h
end
section
variable {P:Program} {G:World→(Nat→Prop)→Prop} {w0:Base} {I0:Nat→Prop}
theorem cDopsB_spec {ops:Array Oper}{fl:List Fl}:∀ {l:List Nat} {vos:List (Nat×VO)},cDopsB P ops fl l=some vos→∀ v∈vos,cVB P ops fl v.1=some v.2
  | [],vos,h,v,hv=>by simp only [cDopsB,Option.some.injEq] at h;subst h;cases hv
  | i :: l,vos,h,v,hv=>by
    simp only [cDopsB] at h;split at h
    · rename_i v' vs h1 h2;simp only [Option.some.injEq] at h;subst h;rcases List.mem_cons.1 hv with rfl | hv
      · exact h1
      · exact cDopsB_spec h2 v hv
    · cases h
theorem sim_cDraw (hcl:∀ w',w0.Below w'→GI G w' I0) {ops:Array Oper} {vc:VCode} (hc:cDraw P ops=some vc) {VQ:VExit→List D→Prop} {Q:Exit→Act→World→Prop} {s:List D} (hk:vc.wp (CT P G) VQ s) (hQ:∀ s a w,VQ .normal s→Rel w0 I0 s a w→Q .normal a w) {a:Act} {w:World} (h:Rel w0 I0 s a w):RegAny P ops Q a w:=by
  unfold cDraw at hc;split at hc
  · rename_i l hl;simp only [Option.some.injEq] at hc;subst hc;exact sim_cDraw0 hcl hl hk hQ h
  · split at hc
    case h_2=>exact sim_drawT hcl hc hk hQ h
    rename_i l hl;simp only [Option.some.injEq] at hc;subst hc;revert hl;unfold cDraw1;intro hc;revert hc;generalize flCand P ops (headLen ops (befs ops))=fl;generalize headLen ops (befs ops)=nh;intro hc;cases hv:cDopsB P ops fl (List.range nh) with
    | none=>rw [hv] at hc;cases hc
    | some vos =>
      rw [hv] at hc;simp only [cDrawG] at hc;split at hc
      · rename_i tail ht;unfold cDrawF at hc;split at hc
        · rename_i hB;simp only [Bool.and_eq_true] at hB;simp only [Option.some.injEq] at hc;subst hc;simp only [VCode.wp] at hk;refine sim_drawB hcl hB.1.1.1 hB.1.1.2 hB.1.2 (fun o ho=>?_) hB.2 ht hk.1 hk.2 hQ h;obtain ⟨v,hv',rfl⟩:=List.mem_map.1 ho;exact cDopsB_spec hv v hv'
        · cases hc
      · cases hc
theorem sim_cDrawX (hcl:∀ w',w0.Below w'→GI G w' I0){pm pt:Bool}{ops:Array Oper}{vc:VCode}(hc:cDrawX P pm pt ops=some vc){VQ:VExit→List D→Prop}{Q:Exit→Act→World→Prop}(hQn:NoX Q){s:List D}(hk:vc.wp (CT P G) VQ s)(hQ:∀ s a w,VQ .normal s→Rel w0 I0 s a w→Q .normal a w){a:Act}{w:World}(h:Rel w0 I0 s a w):RegAny P ops Q a w:=by
  unfold cDrawX at hc;split at hc
  · split at hc
    · exact sim_drawFr hcl hc hQn hk hQ h
    · unfold cDrawM at hc;split at hc
      · rename_i hs;exact reg_ahead hs hQn (sim_cDrawV hcl hc hk hQ h)
      · cases hc
  split at hc
  · split at hc
    · rename_i l hl;simp only [Option.some.injEq] at hc;subst hc;exact sim_drawT hcl hl hk hQ h
    · exact sim_cDraw hcl hc hk hQ h
  · exact sim_cDraw hcl hc hk hQ h
theorem sim_code {pt:Nat} (hcl:∀ w',w0.Below w'→GI G w' I0):∀ (c:Code) (ms ms':List (List Bool)) (vc:VCode) (VQ:VExit→List D→Prop) (Q:Exit→Act→World→Prop) (s:List D) (a:Act) (w:World),
    cCode P pt c ms=some (vc,ms')→vc.wp (CT P G) VQ s→Rel w0 I0 s a w→(∀ e s a w,VQ e s→Rel w0 I0 s a w→Q e.to a w)→c.wp P Q a w
  | .skip,ms,ms',vc,VQ,Q,s,a,w,hc,hk,h,hQ=>by simp only [cCode,Option.some.injEq,Prod.mk.injEq] at hc;obtain ⟨rfl,_⟩:=hc;exact wp_skip (hQ .normal s a w hk h)
  | .region id ops draw,ms,ms',vc,VQ,Q,s,a,w,hc,hk,h,hQ=>by
    cases draw with
    | true =>
      simp only [cCode] at hc;cases hl:cDrawX P (pt.testBit (2*id+1)) (pt.testBit (2*id)) ops with
      | none=>simp [hl] at hc
      | some l=>simp only [hl,Option.some.injEq,Prod.mk.injEq] at hc;obtain ⟨rfl,_⟩:=hc;exact Code.wp_mono (fun e a w h=>by obtain ⟨rfl,h⟩:=h;exact h) (sim_cDrawX (Q:=fun e a w=>e=.normal∧Q .normal a w) hcl hl (fun _ _ _ h=>h.1) hk (fun s a w hk h=>⟨rfl,hQ .normal s a w hk h⟩) h).wp
    | false =>
      simp only [cCode] at hc;cases hl:cVOs P ops ops.toList with
      | none=>simp [hl] at hc
      | some l=>simp only [hl,Option.some.injEq,Prod.mk.injEq] at hc;obtain ⟨rfl,_⟩:=hc;simp only [VCode.wp] at hk;exact wp_region_list (sim_ops hcl ops (KK:=VQ .normal) (fun s a w hk h=>hQ .normal s a w hk h) ops.toList l s a w hl hk h)
  | .seq x y,ms,ms',vc,VQ,Q,s,a,w,hc,hk,h,hQ=>by
    simp only [cCode] at hc;cases hx:cCode P pt x ms with
    | none=>simp [hx] at hc
    | some r =>
      obtain ⟨vx,ms1⟩:=r;simp only [hx] at hc;cases hy:cCode P pt y ms1 with
      | none=>simp [hy] at hc
      | some r =>
        obtain ⟨vy,ms2⟩:=r;simp only [hy,Option.some.injEq,Prod.mk.injEq] at hc;obtain ⟨rfl,_⟩:=hc;simp only [VCode.wp] at hk;refine wp_seq (sim_code hcl x ms ms1 vx _ _ s a w hx hk h ?_);intro e s' a' w' hq hr;cases e with
        | normal=>exact sim_code hcl y ms1 ms2 vy VQ Q s' a' w' hy hq hr hQ
        | exit id=>exact hQ (.exit id) s' a' w' hq hr
        | ret=>exact hQ .ret s' a' w' hq hr
  | .cond c x y,ms,ms',vc,VQ,Q,s,a,w,hc,hk,h,hQ=>by
    simp only [cCode] at hc;cases hx:cCode P pt x ms with
    | none=>simp [hx] at hc
    | some r =>
      obtain ⟨vx,ms1⟩:=r;simp only [hx] at hc;cases hy:cCode P pt y ms1 with
      | none=>simp [hy] at hc
      | some r =>
        obtain ⟨vy,ms2⟩:=r;simp only [hy,Option.some.injEq,Prod.mk.injEq] at hc;obtain ⟨rfl,_⟩:=hc;simp only [VCode.wp] at hk;obtain ⟨hd,I,Fs,hR⟩:=h;have hT:=lk_T hR c;split at hk
        · rename_i t e;rw [e] at hT;refine wp_cond_split (T_v hT).1 (fun ht=>?_) (fun ht=>?_)
          · exact sim_code hcl x ms ms1 vx VQ Q s a w hx (hk.1 ht) ⟨hd,I,Fs,hR⟩ hQ
          · exact sim_code hcl y ms1 ms2 vy VQ Q s a w hy (hk.2 ht) ⟨hd,I,Fs,hR⟩ hQ
        · exact hk.elim
  | .block id c,ms,ms',vc,VQ,Q,s,a,w,hc,hk,h,hQ=>by
    simp only [cCode] at hc;cases hx:cCode P pt c ms with
    | none=>simp [hx] at hc
    | some r =>
      obtain ⟨vx,ms1⟩:=r;simp only [hx,Option.some.injEq,Prod.mk.injEq] at hc;obtain ⟨rfl,_⟩:=hc;simp only [VCode.wp] at hk;refine wp_block (sim_code hcl c ms ms1 vx _ _ s a w hx hk h ?_);intro e s' a' w' hq hr;cases e with
      | normal=>exact hQ .normal s' a' w' hq hr
      | ret=>exact hQ .ret s' a' w' hq hr
      | exit i =>
        simp only [vblock] at hq;by_cases hi:i=id
        · rw [if_pos hi] at hq;simp only [VExit.to,Exit.inBlock,hi,if_true];exact hQ .normal s' a' w' hq hr
        · rw [if_neg hi] at hq;simp only [VExit.to,Exit.inBlock,hi,if_false];exact hQ (.exit i) s' a' w' hq hr
  | .loop c,ms,ms',vc,VQ,Q,s,a,w,hc,hk,h,hQ=>by
    simp only [cCode] at hc;cases ms with
    | nil=>simp at hc
    | cons m ms =>
      simp only at hc;cases hx:cCode P pt c ms with
      | none=>simp [hx] at hc
      | some r =>
        obtain ⟨vx,ms1⟩:=r;simp only [hx,Option.some.injEq,Prod.mk.injEq] at hc;obtain ⟨rfl,_⟩:=hc;simp only [VCode.wp] at hk;obtain ⟨J,⟨n,s1,hle,h0⟩,hround⟩:=hk;have hclr:∀ s a w,Rel w0 I0 s a w→Rel w0 I0 (clr m s) a w:=fun s a w ⟨hd,I,Fs,hR⟩=>⟨hd,I,_,hR.clr m⟩
        have hnle:∀ s s1 a w,Rel w0 I0 s a w→nleL s s1→Rel w0 I0 s1 a w:=fun s s1 a w ⟨hd,I,Fs,hR⟩ hl=>⟨hd,I,_,hR.nle hl⟩
        refine wp_loop_ghost (fun n a w=>∃ s,J n s∧Rel w0 I0 s a w) n ⟨_,h0,hnle _ _ _ _ (hclr _ _ _ h) hle⟩ ?_;rintro n a w ⟨s,hJ,hr⟩;refine sim_code hcl c ms ms1 vx _ _ s a w hx (hround n s hJ) hr ?_;intro e s' a' w' hq hr';cases e with
        | normal=>obtain ⟨m',hlt,s1,hle,hJ'⟩:=hq;exact ⟨m',hlt,_,hJ',hnle _ _ _ _ (hclr _ _ _ hr') hle⟩
        | exit id=>exact hQ (.exit id) s' a' w' hq hr'
        | ret=>exact hQ .ret s' a' w' hq hr'
  | .exit id,ms,ms',vc,VQ,Q,s,a,w,hc,hk,h,hQ=>by simp only [cCode,Option.some.injEq,Prod.mk.injEq] at hc;obtain ⟨rfl,_⟩:=hc;exact wp_exit (hQ (.exit id) s a w hk h)
  | .ret,ms,ms',vc,VQ,Q,s,a,w,hc,hk,h,hQ=>by simp only [cCode,Option.some.injEq,Prod.mk.injEq] at hc;obtain ⟨rfl,_⟩:=hc;exact wp_ret (hQ .ret s a w hk h)
  | .rangeFunc _ _ _ _,_,_,_,_,_,_,_,_,hc,_,_,_=>by simp [cCode] at hc
  | .scope _,_,_,_,_,_,_,_,_,hc,_,_,_=>by simp [cCode] at hc
  | .label _,_,_,_,_,_,_,_,_,hc,_,_,_=>by simp [cCode] at hc
  | .goto _,_,_,_,_,_,_,_,_,hc,_,_,_=>by simp [cCode] at hc
  | .refuse _,_,_,_,_,_,_,_,_,hc,_,_,_=>by simp [cCode] at hc
end
end Go.V
namespace Go.V
open Go.RowKit
def resFn (tmps:Array Value):ResultVar→Sem Value
  | .tmp t=>pure (tmps.getD t undef)
  | .cell x t=>do loadVar t (← asAddr (tmps.getD x undef))
theorem results_eq (fn:Func)(tmps:Array Value):results fn tmps=(do let vs ← fn.results.mapM (resFn tmps);pure (if h:vs.size=1 then vs[0] else .tuple vs)):=by have:(fun v:ResultVar=>(match v with | .tmp t=>pure (tmps.getD t undef) | .cell a t=>do loadVar t (← asAddr (tmps.getD a undef)):Sem Value))=resFn tmps:=(by funext v;cases v<;>rfl);rw [← this];rfl
section
variable {P:Program} {G:World→(Nat→Prop)→Prop} {w0:Base} {I0:Nat→Prop} {s:List D} {a:Act} {w:World} {I:Nat→Prop} {Fs:Nat→List Nat}
theorem resolve_T (h:RelI w0 I0 s a.tmps w I Fs) {d:D} {u:Value} {F:List Nat} {KK:D→List D→Prop} (hok:d.okCells=true) (hT:T I w d (ρS s a.tmps w) u F) (hF:Fresh w0 w I Fs F) (hk:resolveK s d KK) :
    ∃ d' s' Fs' F',KK d' s'∧RelI w0 I0 s' a.tmps w I Fs'∧T I w d' nil u F'∧Fresh w0 w I Fs' F'∧(∀ r b,b∈Fs' r→b∈Fs r)∧(∀ b,b∈F'→b∈F∨∃ r,b∈Fs r):=by
  unfold resolveK at hk;split at hk
  · rename_i r;split at hk
    · rename_i tag cells hs;obtain ⟨u0,hu0,hTb⟩:=h.slot0 hs;simp only [T] at hT;obtain ⟨⟨d1,u1,t1,sz,rows,u2,b1,o1,m1,m2,m3,m4,m5,m6,m7⟩,_⟩:=hT;rw [hu0] at m2;cases m2;simp only [valAt,Option.some.injEq] at m5;subst m5;have hTb':=hTb;simp only [T] at hTb;obtain ⟨b,cs,et,F',hub,_,hh,hFr,hcs⟩:=hTb;rw [hub] at m6;simp only [baseOf,Option.some.injEq,Prod.mk.injEq] at m6;obtain ⟨rfl,rfl⟩:=m6;obtain ⟨hro,hk⟩:=hk;have hq:∀ x v,refNot r x=true→ρS s a.tmps w x v→ρS ((pruneL (notRoot r) s).set r .undef) a.tmps w x v:=fun x v hx hv=>by refine hv.forget r ?_;cases x<;>simp only [refNot] at hx<;>first | exact hx | cases hx
      have hb:b∈Fs r:=(by rw [hFr];simp);have hndr:=h.nd r;rw [hFr] at hndr;have hfr:Fresh w0 w I (upd Fs r []) F':=⟨(List.nodup_cons.1 hndr).2,fun x hx=>by
        have hxr:x∈Fs r:=(by rw [hFr];simp [hx]);refine ⟨(h.own r x hxr).1,(h.own r x hxr).2.1,(h.own r x hxr).2.2,fun r' hr=>?_⟩;unfold upd at hr;split at hr
        · cases hr
        · rename_i hne;exact hne (h.disj r' r x hr hxr)⟩
      obtain ⟨cs',s2,Fs2,F2,hK,h2,hC2,hF2,hsub2,hin2,_⟩:=resC_T _ (h.forget r) (Cells.turn hq cells hcs) hfr hro hk;have hnb:b∉F2:=fun hx=>by
        rcases hin2 b hx with hy | ⟨r',hy⟩
        · exact (List.nodup_cons.1 hndr).1 hy
        · unfold upd at hy;split at hy
          · cases hy
          · rename_i hne;exact hne (h.disj r' r b hy hb)
      have hbn:∀ r',b∉Fs2 r':=fun r' hr=>by
        have:=hsub2 r' b hr;unfold upd at this;split at this
        · cases this
        · rename_i hne;exact hne (h.disj r' r b this hb)
      refine ⟨_,s2,Fs2,b::F2,hK,h2,?_,⟨List.nodup_cons.2 ⟨hnb,hF2.1⟩,fun x hx=>?_⟩,fun r' x hx=>?_,fun x hx=>?_⟩
      · simp only [T];exact ⟨b,cs,et,F2,by rw [m7];simp,(fun _ h=>by cases h),hh,rfl,hC2⟩
      · rcases List.mem_cons.1 hx with rfl | hx
        · exact ⟨(h.own r x hb).1,(h.own r x hb).2.1,(h.own r x hb).2.2,hbn⟩
        · exact hF2.2 x hx
      · have:=hsub2 r' x hx;unfold upd at this;split at this
        · cases this
        · exact this
      · rcases List.mem_cons.1 hx with rfl | hx
        · exact .inr ⟨r,hb⟩
        · rcases hin2 x hx with hy | ⟨r',hy⟩
          · exact .inr ⟨r,by rw [hFr];simp [hy]⟩
          · unfold upd at hy;split at hy
            · cases hy
            · exact .inr ⟨r',hy⟩
    · exact hk.elim
  obtain ⟨hro,hk⟩:=hk;obtain ⟨cs',s2,Fs2,F',hK,h2,hC2,hF',hsub2,hin2,_⟩:=resC_T _ h (cells_T h hT hok) hF hro hk;refine ⟨_,s2,Fs2,F',hK,h2,?_,hF',hsub2,hin2⟩;by_cases hd:∃ cs,d=.agg cs
  · obtain ⟨cs,rfl⟩:=hd;simp only [T] at hT;obtain ⟨us,e,_⟩:=hT;simp only [rebuild,T];refine ⟨us,e,?_⟩;rw [e] at hC2;simpa [Value.cells] using hC2
  · have hn:∀ cs,d≠.agg cs:=fun cs e=>hd ⟨cs,e⟩;obtain ⟨h1,h3⟩:=ok_one h hT hok hn;rw [h3] at hC2;have hr:rebuild d cs'=cs'.headD .undef:=by cases d<;>first | rfl | exact absurd rfl (hn _)
    rw [hr];cases cs' with
    | nil=>simp only [Cells] at hC2;simp at hC2
    | cons c cs =>
      simp only [Cells] at hC2;obtain ⟨v,vs,F1,F2,e,hFe,_,ht,hc⟩:=hC2;simp only [List.cons.injEq] at e;obtain ⟨rfl,rfl⟩:=e;have:=hc.len;cases cs with
      | cons x y=>simp at this
      | nil=>simp only [Cells] at hc;rw [hFe,hc.2,List.append_nil];exact ht
theorem rv_T (h : RelI w0 I0 s a.tmps w I Fs) {rv:RV} {v:ResultVar} {KK:D→List D→Prop} (hc:cRes P [v]=some [rv]) (hk:rvK s rv KK) :
    ∃ u d' s' Fs' F',(resFn a.tmps v).run P w=.ok u w∧KK d' s'∧RelI w0 I0 s' a.tmps w I Fs'∧T I w d' nil u F'∧Fresh w0 w I Fs' F'∧(∀ r b,b∈Fs' r→b∈Fs r)∧(∀ b,b∈F'→∃ r,b∈Fs r):=by
  cases v with
  | tmp t =>
    simp only [cRes,Option.map_some,Option.some.injEq,List.cons.injEq,and_true] at hc;subst hc;obtain ⟨hok,hk⟩:=hk;obtain ⟨Fs1,F,h1,hT,hF,hsub⟩:=tkT_T h t;obtain ⟨d',s',Fs',F',k1,k2,k3,k4,k5,k6⟩:=resolve_T h1 hok hT hF hk;exact ⟨_,d',s',Fs',F',rfl,k1,k2,k3,k4,fun r b hb=>hsub.1 r b (k5 r b hb),fun b hb=>by
      rcases k6 b hb with hb | ⟨r,hr⟩
      · exact hsub.2.1 b hb
      · exact ⟨r,hsub.1 r b hr⟩⟩
  | cell x t =>
    simp only [cRes] at hc;split at hc
    · rename_i d i hu hi;have key:∀ (agg:Bool) (n:Nat),rv=.c x n agg→d.isRow=agg→i.size=n→(agg=false→n=1)→∃ u d' s' Fs' F',(do loadVar t (← asAddr (a.tmps.getD x undef)):Sem Value).run P w=.ok u w∧KK d' s'∧RelI w0 I0 s' a.tmps w I Fs'∧T I w d' nil u F'∧Fresh w0 w I Fs' F'∧(∀ r b,b∈Fs' r→b∈Fs r)∧(∀ b,b∈F'→∃ r,b∈Fs r):=by
        intro agg n hrv hd hn h1;subst hrv;simp only [rvK] at hk;split at hk
        · rename_i cells hs;obtain ⟨hlen,hok2,hk⟩:=hk;obtain ⟨u,hu',hT⟩:=h.slot0 hs;simp only [T] at hT;obtain ⟨b,cs,e,F',hub,_,hh,hFe,hcs⟩:=hT;have hf:=h.forget x;have hcl:=hcs.len;have hcs':Cells I w (pruneL (notRoot x) cells) (ρS ((pruneL (notRoot x) s).set x .undef) a.tmps w) cs.toList F':=Cells.turn (fun y v hq hy=>hy.forget x hq) cells hcs;have hnd:=h.nd x;rw [hFe] at hnd;have hF':Fresh w0 w I (upd Fs x []) F':=⟨(List.nodup_cons.1 hnd).2,fun b' hb'=>by
            have hbx:b'∈Fs x:=(by rw [hFe];simp [hb']);refine ⟨(h.own x b' hbx).1,(h.own x b' hbx).2.1,(h.own x b' hbx).2.2,fun r hr=>?_⟩;unfold upd at hr;split at hr
            · cases hr
            · rename_i hne;exact hne (h.disj r x b' hr hbx)⟩
          have hmk:T I w (mkAgg agg (pruneL (notRoot x) cells)) (ρS ((pruneL (notRoot x) s).set x .undef) a.tmps w) (if agg then .agg cs else cs.toList.headD undef) F':=by
            cases agg with
            | true=>simp only [mkAgg,if_true,T];exact ⟨cs.toList,by simp,hcs'⟩
            | false =>
              have hn1:=h1 rfl;cases hp:pruneL (notRoot x) cells with
              | nil=>have:=pruneL_len (notRoot x) cells;rw [hp] at this;simp at this;omega
              | cons c cc =>
                rw [hp] at hcs';simp only [Cells] at hcs';obtain ⟨v,vs,F1,F2,e1,e2,_,ht,hc2⟩:=hcs';have hccl:cc=[]:=by have:=pruneL_len (notRoot x) cells;rw [hp] at this;exact List.eq_nil_of_length_eq_zero (by simp at this;omega)
                subst hccl;simp only [Cells] at hc2;rw [e2,hc2.2,List.append_nil,e1];simpa [mkAgg] using ht
          have hrun:(do loadVar t (← asAddr (a.tmps.getD x undef)):Sem Value).run P w=.ok (if agg then .agg cs else cs.toList.headD undef) w:=by
            have hg:a.tmps.getD x undef=u:=(by simp [hu']);rw [hg,hub];have hr:w.rangeAt b 0 cs.toList:=fun j v hj=>by rw [cell_row hh,Nat.zero_add];simpa using hj
            have:=load_run (P:=P) hu hd (by rw [hi];simp [hn]) h1 (us:=cs.toList) (by rw [hcl,hlen]) hr;simp only [Instr.loadAt,Instr.sureAddr] at this;simp only [asAddr];cases agg<;>simpa using this
          obtain ⟨d',s',Fs',F'',k1,k2,k3,k4,k5,k6⟩:=resolve_T hf hok2 hmk hF' hk;have hsub:∀ r b,b∈upd Fs x [] r→b∈Fs r:=fun r b hb=>by
            unfold upd at hb;split at hb
            · cases hb
            · exact hb
          exact ⟨_,d',s',Fs',F'',hrun,k1,k2,k3,k4,fun r b hb=>hsub r b (k5 r b hb),fun b hb=>by
            rcases k6 b hb with hb | ⟨r,hr⟩
            · exact ⟨x,by rw [hFe];simp [hb]⟩
            · exact ⟨r,hsub r b hr⟩⟩
        · exact hk.elim
      split at hc
      · rename_i hd;simp only [cRes,Option.map_some,Option.some.injEq,List.cons.injEq,and_true] at hc;exact key true i.size hc.symm hd rfl (fun h=>by cases h)
      · rename_i hd;split at hc
        · rename_i h1;simp only [cRes,Option.map_some,Option.some.injEq,List.cons.injEq,and_true] at hc;exact key false 1 hc.symm (by simpa using hd) h1 (fun _=>rfl)
        · cases hc
    · cases hc
theorem cRes_cons {v:ResultVar} {vs:List ResultVar} {rvs:List RV} (h:cRes P (v::vs)=some rvs):∃ rv rs,rvs=rv::rs∧cRes P [v]=some [rv]∧cRes P vs=some rs:=by
  cases v with
  | tmp t=>simp only [cRes,Option.map_eq_some_iff] at h;obtain ⟨rs,h1,rfl⟩:=h;exact ⟨_,rs,rfl,by simp [cRes],h1⟩
  | cell x t =>
    simp only [cRes] at h ⊢;split at h
    · rename_i d i hu hi;split at h
      · rename_i hd;simp only [Option.map_eq_some_iff] at h;obtain ⟨rs,h1,rfl⟩:=h;exact ⟨_,rs,rfl,by simp [hd],h1⟩
      · rename_i hd;split at h
        · rename_i h1;simp only [Option.map_eq_some_iff] at h;obtain ⟨rs,h2,rfl⟩:=h;exact ⟨_,rs,rfl,by simp [hd,h1],h2⟩
        · cases h
    · cases h
theorem rvs_T:∀ (vs:List ResultVar) {s:List D} {Fs:Nat→List Nat} {rvs:List RV} {KK:List D→List D→Prop},RelI w0 I0 s a.tmps w I Fs→cRes P vs=some rvs→rvsK s rvs KK →
    ∃ us ds F s2 Fs2,(vs.mapM (resFn a.tmps)).run P w=.ok us w∧us.length=vs.length∧KK ds s2∧Vals I w ds nil us F∧F.Nodup∧(∀ b,b∈F→w0.N b∧b<w.heap.size∧¬ I b)∧(∀ b,b∈F→∃ r,b∈Fs r)∧RelI w0 I0 s2 a.tmps w I Fs2∧(∀ r b,b∈Fs2 r→b∈Fs r)∧∀ b,b∈F→∀ r,b∉Fs2 r
  | [],s,Fs,rvs,KK,h,hc,hk=>by simp only [cRes,Option.some.injEq] at hc;subst hc;exact ⟨[],[],[],s,Fs,by simp,rfl,hk,by simp [Vals],List.nodup_nil,(fun _ h=>by cases h),(fun _ h=>by cases h),h,fun _ _ h=>h,fun _ h=>by cases h⟩
  | v :: vs,s,Fs,rvs,KK,h,hc,hk=>by
    obtain ⟨rv,rs,rfl,h1,h2⟩:=cRes_cons hc;simp only [rvsK] at hk;obtain ⟨u,d',s',Fs',F',k1,k2,k3,k4,k5,k6,k7⟩:=rv_T h h1 hk;obtain ⟨us,ds,F,s2,Fs2,m1,m2,m3,m4,m5,m6,m7,m8,m9,m10⟩:=rvs_T vs k3 h2 k2;refine ⟨u::us,d'::ds,F'++F,s2,Fs2,?_,by simp [m2],m3,?_,List.nodup_append.2 ⟨k5.1,m5,fun x hx y hy hxy=>?_⟩,fun b hb=>?_,fun b hb=>?_,m8,fun r b hb=>k6 r b (m9 r b hb),fun b hb r hr=>?_⟩
    · rw [List.mapM_cons,Sem.run_bind,k1,Result.andThen_ok,Sem.run_bind,m1,Result.andThen_ok,Sem.run_pure]
    · simp only [Vals];exact ⟨u,us,F',F,rfl,rfl,k4,m4⟩
    · subst hxy;obtain ⟨r,hr⟩:=m7 x hy;exact (k5.2 x hx).2.2.2 r hr
    · rcases List.mem_append.1 hb with hb | hb
      · exact ⟨(k5.2 b hb).1,(k5.2 b hb).2.1,(k5.2 b hb).2.2.1⟩
      · exact m6 b hb
    · rcases List.mem_append.1 hb with hb | hb
      · exact k7 b hb
      · obtain ⟨r,hr⟩:=m7 b hb;exact ⟨r,k6 r b hr⟩
    · rcases List.mem_append.1 hb with hb | hb
      · exact (k5.2 b hb).2.2.2 r (m9 r b hr)
      · exact m10 b hb r hr
end
def finK (rvs:List RV)(KK:List D→List D→Prop):VExit→List D→Prop
  | .normal,s=>rvsK s rvs KK
  | .ret,s=>rvsK s rvs KK
  | .exit _,_=>False
def leK (d:D):List D→List D→Prop:=fun ds _=>(one ds).le d
def endQ (rvs:List RV)(d:D):VExit→List D→Prop:=finK rvs (leK d)
def outX (i b:Nat)(cells':List D)(s:List D):Prop:=match s[i]? with
  | some (.box (some b') cs)=>b'=b∧leL (pruneL (fun _=>false) cs) cells'
  | _=>False
def leX (d:D)(i b:Nat)(cells':List D):List D→List D→Prop:=fun ds s=>(one ds).le d∧outX i b cells' s
def endX (rvs:List RV)(d:D)(i b:Nat)(cells':List D):VExit→List D→Prop:=finK rvs (leX d i b cells')
theorem body_core {pt:Nat} {P:Program} {G:World→(Nat→Prop)→Prop} {f:FuncId} {fn:Func} {c:Code} {ms ms':List (List Bool)} {vc:VCode} {rvs:List RV} {KK:List D→List D→Prop} {w:World} {I:Nat→Prop} {us:List Value} {X:List Nat} {s0:List D} {Fs0:Nat→List Nat} (hG:∀ w',(ioB w X).Below w'→GI G w' I) (hf:P.funcs[f]?=some fn) (hb:fn.body=some c)
    (hc:cCode P pt c ms=some (vc,ms')) (hr:cRes P fn.results.toList=some rvs) (hrel:RelI (ioB w X) I s0 (us.toArray++Array.replicate (fn.ntmps-us.toArray.size) undef) w I Fs0) (hk:vc.wp (CT P G) (finK rvs KK) s0) :
    Calls P f us.toArray w fun e w'=>∃ v ds F s2 Fs2 I' tm,e=.returned v∧KK ds s2∧(ioB w X).Below w'∧T I' w' (one ds) nil v F∧F.Nodup∧(∀ b,b∈F→(ioB w X).N b∧b<w'.heap.size∧¬ I' b)∧RelI (ioB w X) I s2 tm w' I' Fs2∧∀ b,b∈F→∀ r,b∉Fs2 r:=by
  refine calls_of_wp hf hb ?_;refine sim_code hG c ms ms' vc (finK rvs KK) _ _ _ w hc hk ⟨rfl,I,Fs0,hrel⟩ ?_;intro e s a w' hq hr';obtain ⟨hd,I',Fs,hR⟩:=hr';have key:rvsK s rvs KK→a.defers=[]∧∃ v,(results fn a.tmps).run P w'=.ok v w'∧∃ v' ds F s2 Fs2 I' tm,Ending.returned v=.returned v'∧KK ds s2∧(ioB w X).Below w'∧T I' w' (one ds) nil v' F∧F.Nodup∧(∀ b,b∈F→(ioB w X).N b∧b<w'.heap.size∧¬ I' b)∧RelI (ioB w X) I s2 tm w' I' Fs2∧∀ b,b∈F→∀ r,b∉Fs2 r:=by
    intro hq;obtain ⟨us',ds,F,s2,Fs2,m1,m2,m3,m4,m5,m6,m7,m8,m9,m10⟩:=rvs_T fn.results.toList hR hr hq;have hrun:(results fn a.tmps).run P w'=.ok (if us'.length=1 then us'.headD undef else .tuple us'.toArray) w':=by
      rw [results_eq,Sem.run_bind,Array.mapM_eq_mapM_toList,Sem.run_map,m1];simp only [Result.andThen_ok,Sem.run_pure];by_cases h1:us'.length=1
      · rw [if_pos h1,dif_pos (by simpa using h1)];cases us' with
        | nil=>simp at h1
        | cons u us2=>simp
      · rw [if_neg h1,dif_neg (by simpa using h1)]
    have hT : T I' w' (one ds) nil (if us'.length=1 then us'.headD undef else .tuple us'.toArray) F:=by
      have hl:=m4.len;by_cases h1:us'.length=1
      · rw [if_pos h1];cases ds with
        | nil=>rw [h1] at hl;simp at hl
        | cons d1 ds =>
          cases ds with
          | nil=>simp only [Vals] at m4;obtain ⟨u,us2,F1,F2,e1,e2,ht,e3,e4⟩:=m4;subst e1;subst e2;subst e3;subst e4;simpa [one] using ht
          | cons d2 ds=>rw [h1] at hl;simp at hl
      · rw [if_neg h1];have:one ds=.tup ds:=by
          cases ds with
          | nil=>rfl
          | cons d1 ds=>cases ds with
            | nil=>exact absurd hl h1
            | cons d2 ds=>rfl
        rw [this];simp only [T];exact ⟨us',rfl,m4⟩
    exact ⟨hd,_,hrun,_,ds,F,s2,Fs2,I',a.tmps,rfl,m3,hR.below,hT,m5,m6,m8,m10⟩
  cases e with
  | normal=>exact key hq
  | ret=>exact key hq
  | exit id=>exact hq.elim
theorem start_slots {w:World}{I:Nat→Prop}{args:List D}{us:List Value}{n:Nat}(hV:Vals I w args nil us []){r:Nat}{d':D}{u:Value}{ρ:D→Value→Prop}(h1:(args++List.replicate (n-args.length) D.undef)[r]?=some d')(h2:(us.toArray++Array.replicate (n-us.toArray.size) undef)[r]?=some u):T I w d' ρ u []:=by
  have hlen:=hV.len;by_cases hr:r<args.length
  · rw [List.getElem?_append_left hr] at h1;have hu:us[r]?=some u:=by rw [Array.getElem?_append_left (by simp;omega)] at h2;simpa using h2
    obtain ⟨u',A,F',B,k1,k2,k3,_⟩:=Vals.get r hV h1;rw [hu] at k1;cases k1;have hF':F'=[]:=(by have:=congrArg List.length k2;simp at this;exact List.eq_nil_of_length_eq_zero (by omega));rw [hF'] at k3;exact k3.res (fun _ _ h=>h.elim)
  · rw [List.getElem?_append_right (by omega),List.getElem?_replicate] at h1;split at h1
    · cases h1;simp [T]
    · cases h1
theorem contract_of {pt:Nat}{P:Program}{G:World→(Nat→Prop)→Prop}{f:FuncId}{fn:Func}{c:Code}{ms ms':List (List Bool)}{vc:VCode}{rvs:List RV}{args:List D}{d:D}(hcl:Stab G)(hf:P.funcs[f]?=some fn)(hen:∀ (us:Array Value) (W:World),(callFunc f us).run P W=.ok (.enter f us) W)(hb:fn.body=some c)
    (hc:cCode P pt c ms=some (vc,ms')) (hr:cRes P fn.results.toList=some rvs) (hk:vc.wp (CT P G) (endQ rvs d) (args++List.replicate (fn.ntmps-args.length) .undef)):Contract P G f args d:=by
  refine ⟨hen,fun w I us hG hI hV=>?_⟩;have hlen:=hV.len;refine (body_core (I:=I) (X:=[]) (us:=us) (Fs0:=fun _=>[]) (fun w' hb'=>hG.keep hcl fun b hb=>hb'.block b (fun hn=>hn.elim (fun h=>absurd (hI b hb) (by omega)) (fun h=>by cases h))) hf hb hc hr ?_ hk).mono ?_
  · exact {
      below:=Base.Below.refl
      len:=by simp [hlen]
      slot:=fun r d' u h1 h2=>start_slots hV h1 h2
      nd:=fun _=>List.nodup_nil
      disj:=fun _ _ _ h=>by cases h
      own:=fun _ _ h=>by cases h
      imm:=hI
      imm0:=fun _ h=>h
      immN:=fun _ h=>.inl h }
  · rintro e w' ⟨v,ds,F,s2,Fs2,I',tm,he,hle,hbel,hT,hnd,hF,hR,_⟩;obtain ⟨F',k1,k2⟩:=T.leF _ _ hT hle;have hN:∀ x,(ioB w []).N x→w.heap.size≤x:=fun x h=>h.elim id (fun h=>by cases h);exact ⟨v,F',I',he,⟨hbel.os,hbel.tape,hbel.output,hbel.size,fun k hk=>hbel.block k (fun h=>by have:=hN k h;omega)⟩,k1,k2.nodup hnd,fun b hb=>⟨hN b (hF b (k2.subset hb)).1,(hF b (k2.subset hb)).2⟩,hR.imm0,fun b hb=>⟨(hR.immN b hb).imp_right (hN b),hR.imm b hb⟩⟩
theorem set_undef_get {args:List D}{i r:Nat}{d:D}(h:r≠i)(n:Nat):(args.set i d++List.replicate n D.undef)[r]?=(args.set i .undef++List.replicate n D.undef)[r]?:=by
  by_cases hr:r<args.length
  · rw [List.getElem?_append_left (by simpa using hr),List.getElem?_append_left (by simpa using hr),List.getElem?_set_ne (Ne.symm h),List.getElem?_set_ne (Ne.symm h)]
  · rw [List.getElem?_append_right (by simpa using hr),List.getElem?_append_right (by simpa using hr)];simp
theorem contract_ofX {pt:Nat} {P:Program} {G:World→(Nat→Prop)→Prop} {f:FuncId} {fn:Func} {c:Code} {ms ms':List (List Bool)} {vc:VCode} {rvs:List RV} {args:List D} {d:D} {i:Nat} {cells cells':List D} (hcl:Stab G) (hf:P.funcs[f]?=some fn) (hen:∀ (us:Array Value) (W:World),(callFunc f us).run P W=.ok (.enter f us) W) (hb:fn.body=some c)
    (hc:cCode P pt c ms=some (vc,ms')) (hr:cRes P fn.results.toList=some rvs) (hi:i<args.length) (hk:∀ b,vc.wp (CT P G) (endX rvs d i b cells') (args.set i (.box (some b) cells)++List.replicate (fn.ntmps-args.length) .undef)):ContractX P G f i args cells d cells':=by
  refine ⟨hen,fun w I us b X hG hI hu hV hTb hXn hX=>?_⟩;have hlen:us.length=args.length:=by have:=hV.len;simpa using this
  refine (body_core (I:=I) (X:=X) (us:=us) (Fs0:=fun r=>if r=i then X else []) (fun w' hb'=>hG.keep hcl fun b hb=>hb'.block b (fun hn=>hn.elim (fun h=>absurd (hI b hb) (by omega)) (fun h=>(hX b h).2 hb))) hf hb hc hr ?_ (hk b)).mono ?_
  · exact {
      below:=Base.Below.refl
      len:=by simp [hlen]
      slot:=by
        intro r d' u h1 h2;by_cases hri:r=i
        · subst hri;rw [List.getElem?_append_left (by simpa using hi),List.getElem?_set_self hi] at h1;cases h1;have:us[r]?=some u:=by rw [Array.getElem?_append_left (by simp;omega)] at h2;simpa using h2
          rw [hu] at this;cases this;simp only [if_true];exact hTb.res (fun _ _ h=>h.elim)
        · simp only [hri,if_false];rw [set_undef_get hri] at h1;exact start_slots hV (by simpa using h1) h2
      nd:=fun r=>by split;exact hXn;exact List.nodup_nil
      disj:=fun r r' x h h'=>by
        split at h
        · split at h'
          · omega
          · cases h'
        · cases h
      own:=fun r x h=>by
        split at h
        · exact ⟨.inr h,(hX x h).1,(hX x h).2⟩
        · cases h
      imm:=hI
      imm0:=fun _ h=>h
      immN:=fun _ h=>.inl h }
  · rintro e w' ⟨v,ds,F,s2,Fs2,I',tm,he,⟨hle,hout⟩,hbel,hT,hnd,hF,hR,hFo⟩;obtain ⟨F',k1,k2⟩:=T.leF _ _ hT hle;unfold outX at hout;split at hout
    · rename_i b' cs hs;obtain ⟨rfl,hlc⟩:=hout;obtain ⟨u2,hu2,hT2⟩:=hR.slot0 hs;simp only [T] at hT2;obtain ⟨b2,cs2,et,F2,hub,htg,hh,hFr,hcs⟩:=hT2;have hb2:=htg b' rfl;subst hb2;obtain ⟨F3,hc3,hs3⟩:=Cells.leF _ _ (Cells.turn (ρ':=nil) (fun x v hq _=>by cases hq) cs hcs) hlc;have hsub:∀ x,x∈b2::F3→x∈Fs2 i:=fun x hx=>by
        rw [hFr];rcases List.mem_cons.1 hx with rfl | hx
        · simp
        · exact List.mem_cons_of_mem _ (hs3.subset hx)
      have hnr:=hR.nd i;rw [hFr] at hnr;refine ⟨v,F',b2::F3,I',he,hbel,k1,?_,?_,fun x hx=>?_,hR.imm0,fun x hx=>⟨?_,hR.imm x hx⟩⟩
      · simp only [T];exact ⟨b2,cs2,et,F3,rfl,fun k hk=>by cases hk;rfl,hh,rfl,hc3⟩
      · refine List.nodup_append.2 ⟨k2.nodup hnd,List.nodup_cons.2 ⟨fun hb=>(List.nodup_cons.1 hnr).1 (hs3.subset hb),hs3.nodup (List.nodup_cons.1 hnr).2⟩,fun x hx y hy hxy=>?_⟩;subst hxy;exact hFo x (k2.subset hx) i (hsub x hy)
      · rcases List.mem_append.1 hx with hx | hx
        · exact hF x (k2.subset hx)
        · exact hR.own i x (hsub x hx)
      · exact (hR.immN x hx)
    · exact hout.elim
def outL (b:Nat)(cells':List D)(s:List D):Prop:=∃ (r:Nat) (d:D) (q:Path) (b':Nat) (cs:List D),s[r]?=some d∧treeAt d q=some (.box (some b') cs)∧b'=b∧leL (pruneL (fun _=>false) cs) cells'
def leG (d:D)(b:Nat)(cells':List D):List D→List D→Prop:=fun ds s=>(one ds).le d∧outL b cells' s
def endG (rvs:List RV)(d:D)(b:Nat)(cells':List D):VExit→List D→Prop:=finK rvs (leG d b cells')
def outK (i b:Nat)(cells':List D)(s:List D):Prop:=match s[i]? with
  | some (.fn _ [.box (some b') cs] [])=>b'=b∧leL (pruneL (fun _=>false) cs) cells'
  | _=>False
def leK2 (d:D)(i b:Nat)(cells':List D):List D→List D→Prop:=fun ds s=>(one ds).le d∧outK i b cells' s
def endKK (rvs:List RV)(d:D)(i b:Nat)(cells':List D):VExit→List D→Prop:=finK rvs (leK2 d i b cells')
/-! A function whose result is a struct whose first cell is the address of a variable. -/
def rvP (x n:Nat)(s:List D)(K:D→List D→Prop):Prop:=match s[x]? with
  | some (.box _ (.ptr r [] 0 0::rest))=>rest.length+1=n∧r≠x∧rest.all D.flatI=true∧resolveK ((pruneL (notRoot x) s).set x .undef) (.ptr r [] 0 0) (fun d' s'=>K (.agg (d'::rest)) s')
  | _=>False
def endP (x n:Nat)(d:D):VExit→List D→Prop
  | .exit _,_=>False
  | _,s=>rvP x n s (fun d' _=>d'.le d)
end Go.V
namespace Go.V
open Go.RowKit
/-! ### Code within a round, and behind one -/
section
variable {P:Program} {ro:Option Nat} {n:Nat} {ds:List Deferred} {Q Q':Exit→Act→World→Prop}
end
end Go.V
