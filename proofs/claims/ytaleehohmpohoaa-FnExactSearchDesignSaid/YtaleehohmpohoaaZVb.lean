/- Laws that the proof stands on. -/
import Derived.Test.YtaleehohmpohoaaZVa
set_option linter.all false
namespace Go.V
open Go.RowKit
section
variable {P:Program} {w0:Base} {I0:Nat→Prop} {s:List D} {a:Act} {w:World} {I:Nat→Prop} {Fs:Nat→List Nat} {K:D→List D→Prop} {Ctr:CtrT} {nn:Bool}
theorem splice_T {ρ:D→Value→Prop} (off0:Nat):∀ (ps:List D) (vs:List Value) (i:Nat) (cells:List D) (cv:Array Value) (F G:List Nat),Cells I w ps ρ vs G→Cells I w cells ρ cv.toList F→off0+i+ps.length≤cells.length→(F++G).Nodup →
    ∃ F',Cells I w (splice cells (off0+i) ps) ρ ((vs.zipIdx i).foldl (fun cs (x:Value×Nat)=>cs.setIfInBounds (off0+x.2) x.1) cv).toList F'∧F'.Nodup∧(∀ b,b∈F'→b∈F∨b∈G)∧(splice cells (off0+i) ps).length=cells.length
  | [],vs,i,cells,cv,F,G,hp,hc,hl,hnd=>by simp only [Cells] at hp;obtain ⟨rfl,rfl⟩:=hp;exact ⟨F,by simpa [splice] using hc,(List.nodup_append.1 hnd).1,fun b hb=>.inl hb,rfl⟩
  | p :: ps,vs,i,cells,cv,F,G,hp,hc,hl,hnd=>by
    simp only [Cells] at hp;obtain ⟨v,vs',G1,G2,e,hG,ho,ht,h2⟩:=hp;subst e;subst hG;have hlt:off0+i<cells.length:=by simp at hl;omega
    obtain ⟨pre,u,post,A,F',B,hus,hpl,hF,_,_,hup⟩:=Cells.focus (off0+i) hc (List.getElem?_eq_getElem hlt);have hup':=hup w ρ (fun _=>true) p v G1 (fun _ _=>rfl) (fun _ _ _ h=>h) ho ht;rw [pruneL_yes] at hup';have hset:(cv.setIfInBounds (off0+i) v).toList=pre++v::post:=(by rw [Array.toList_setIfInBounds,hus,← hpl];simp);rw [← hset] at hup';have hnd2:((A++G1++B)++G2).Nodup:=by
      rw [hF] at hnd;simp only [List.nodup_append,List.mem_append] at hnd ⊢;obtain ⟨⟨⟨hA,hF',hAF⟩,hB,hAFB⟩,⟨hG1,hG2,hG12⟩,hall⟩:=hnd;refine ⟨⟨⟨hA,hG1,fun x hx y hy=>hall x (.inl (.inl hx)) y (.inl hy)⟩,hB,fun x hx y hy hxy=>?_⟩,hG2,fun x hx y hy hxy=>?_⟩
      · rcases hx with hx | hx
        · exact hAFB x (.inl hx) y hy hxy
        · exact hall y (.inr hy) x (.inl hx) hxy.symm
      · rcases hx with (hx | hx) | hx
        · exact hall x (.inl (.inl hx)) y (.inr hy) hxy
        · exact hG12 x hx y hy hxy
        · exact hall x (.inr hx) y (.inr hy) hxy
    obtain ⟨F'',k1,k2,k3,k4⟩:=splice_T off0 ps vs' (i+1) (cells.set (off0+i) p) (cv.setIfInBounds (off0+i) v) (A++G1++B) G2 h2 hup' (by simp at hl ⊢;omega) hnd2;refine ⟨F'',?_,k2,fun b hb=>?_,by simp only [splice];rw [show off0+i+1=off0+(i+1) by omega,k4];simp⟩
    · simp only [splice,List.zipIdx_cons,List.foldl_cons];rw [show off0+i+1=off0+(i+1) by omega];exact k1
    · rcases k3 b hb with hb | hb
      · rw [hF];simp only [List.mem_append] at hb ⊢;rcases hb with (hb | hb) | hb
        · exact .inl (.inl (.inl hb))
        · exact .inr (.inl hb)
        · exact .inl (.inr hb)
      · exact .inr (by simp [hb])
theorem fill_T (h:RelI w0 I0 s a.tmps w I Fs) {place:Nat→Option (Nat×Nat)}:∀ (ps:List (Nat×Nat)) (ds:List D) (parts:List (Nat×Value)) (cells cells':List D) (cv:Array Value) (F G:List Nat),fillB ps ds cells=some cells'→(parts.map fun p=>place p.1)=ps.map some→Vals I w ds (ρS s a.tmps w) (parts.map (·.2)) G→ds.all D.okCells=true→Cells I w cells (ρS s a.tmps w) cv.toList F→(F++G).Nodup →
    ∃ cv' F',Instr.fill place cv parts=some cv'∧Cells I w cells' (ρS s a.tmps w) cv'.toList F'∧F'.Nodup∧(∀ b,b∈F'→b∈F∨b∈G)
  | [],ds,parts,cells,cells',cv,F,G,hf,hp,hv,ho,hc,hnd=>by
    cases parts with
    | cons p ps=>simp at hp
    | nil =>
      cases ds with
      | cons d ds=>simp [fillB] at hf
      | nil=>simp only [fillB,Option.some.injEq] at hf;subst hf;exact ⟨cv,F,rfl,hc,(List.nodup_append.1 hnd).1,fun b hb=>.inl hb⟩
  | (off, n)::ps,ds,parts,cells,cells',cv,F,G,hf,hp,hv,ho,hc,hnd=>by
    cases parts with
    | nil=>simp at hp
    | cons p parts =>
      obtain ⟨pi,pv⟩:=p;cases ds with
      | nil=>simp [fillB] at hf
      | cons d ds =>
        simp only [List.map_cons,List.cons.injEq] at hp;simp only [fillB] at hf;split at hf
        · rename_i hcond;simp only [List.map_cons,Vals] at hv;obtain ⟨u,us',G1,G2,e,hG,hT,h2⟩:=hv;simp only [List.cons.injEq] at e;obtain ⟨rfl,rfl⟩:=e;subst hG;simp only [List.all_cons,Bool.and_eq_true] at ho;have hcd:=cells_T h hT ho.1;have hlen:=hcd.len;have hcl:=hc.len;have hnd1:(F++G1).Nodup:=by rw [← List.append_assoc] at hnd;exact (List.nodup_append.1 hnd).1
          obtain ⟨F1,k1,k2,k3,k4⟩:=splice_T off d.cells pv.cells.toList 0 cells cv F G1 hcd hc (by omega) hnd1;rw [Nat.add_zero] at k1 k4;have hnd2:(F1++G2).Nodup:=by
            refine List.nodup_append.2 ⟨k2,(List.nodup_append.1 (List.nodup_append.1 hnd).2.1).2.1,fun x hx y hy hxy=>?_⟩;subst hxy;rcases k3 x hx with hx | hx
            · exact (List.nodup_append.1 hnd).2.2 x hx x (by simp [hy]) rfl
            · exact (List.nodup_append.1 (List.nodup_append.1 hnd).2.1).2.2 x hx x hy rfl
          obtain ⟨cv',F',m1,m2,m3,m4⟩:=fill_T h ps ds parts (splice cells off d.cells) cells' _ F1 G2 hf hp.2 h2 ho.2 k1 hnd2;refine ⟨cv',F',?_,m2,m3,fun b hb=>?_⟩
          · have hs1:pv.cells.size=n:=(by simp at hlen;omega);have hs2:¬ off+pv.cells.size>cv.size:=(by simp at hcl;omega);simp only [Instr.fill,hp.1,hs1];rw [if_neg (by simp at hcl ⊢;omega)];rw [← m1];congr 1;rw [← Array.foldl_toList,Array.toList_zipIdx]
          · rcases m4 b hb with hb | hb
            · rcases k3 b hb with hb | hb
              · exact .inl hb
              · exact .inr (by simp [hb])
            · exact .inr (by simp [hb])
        · cases hf
theorem sim_build (h:RelI w0 I0 s a.tmps w I Fs) {zero:List Value} {parts:List (Nat×Nat×Operand)} {t:TypeId} {it:TypeInfo} {z:Value} {fs:Array Field} {places:List (Nat×Nat)} {ps:Array (Nat×Operand)} {o:Oper} (ho:o.op=.build t ps) (hit:P.info? t=some it) (hu:P.underlying t=some (.struct fs)) (hz:it.zero=some z) (hzz:z.cells.toList=zero) (hone:zero.all (·.oneCell')=true)
    (hpl:fs.toList.mapM (fun f=>(P.info? f.type).map fun i=>(f.offset,i.size))=some places) (hps:ps.toList.map (fun p=>(places[p.1]?,p.2))=parts.map fun p=>(some (p.1,p.2.1),p.2.2)) (hk:evalK Ctr s (.build zero parts) K):RunsTo P (execOp a.eval o) w (OutOK nn Fs I w w0 I0 a.tmps K):=by
  obtain ⟨hok,hk⟩:=hk;split at hk
  · rename_i cells hf;obtain ⟨Fs1,G,h1,hV,hG,hsub1,hin1,hst1⟩:=tkL_T (parts.map (·.2.2)) h;have hz0:Cells I w (zero.map ofC) (ρS (tkL s (parts.map (·.2.2))).2 a.tmps w) z.cells.toList []:=by rw [hzz];exact ofC_Cells _ zero hone
    have hsnd:ps.toList.map (·.2)=parts.map (·.2.2):=(by have:=congrArg (List.map (·.2)) hps;simpa [List.map_map,Function.comp_def] using this);have hfst:ps.toList.map (fun p=>places[p.1]?)=parts.map fun p=>some (p.1,p.2.1):=(by have:=congrArg (List.map (·.1)) hps;simpa [List.map_map,Function.comp_def] using this);obtain ⟨cv',F',m1,m2,m3,m4⟩:=fill_T (place:=(places.toArray[·]?)) h1 (parts.map fun p=>(p.1,p.2.1)) _ ((ps.map fun (i,x)=>(i,a.eval x)).toList) _ _ z.cells [] G hf (by
        rw [Array.toList_map,List.map_map,List.map_map];simpa [Function.comp_def] using hfst) (by
        rw [Array.toList_map,List.map_map];have:List.map ((fun x:Nat×Value=>x.2) ∘ fun x:Nat×Operand=>(x.1,a.eval x.2)) ps.toList=(ps.toList.map (·.2)).map a.eval:=by simp [List.map_map,Function.comp_def]
        rw [show (List.map ((fun x:Nat×Value=>x.2) ∘ fun (x:Nat×Operand)=>match x with | (i,x)=>(i,a.eval x)) ps.toList)=(ps.toList.map (·.2)).map a.eval from this,hsnd];exact hV) hok hz0 (by simpa using hG.1)
    have hbuilt:P.built t (ps.map fun (i,x)=>(i,a.eval x)).toList=some cv':=(by unfold Program.built;simp only [hit,hu,hz,hpl];exact m1);have hrun:=run_build (P:=P) w t (ps.map fun (i,x)=>(i,a.eval x)) cv' hbuilt;refine .value (v:=.agg cv') ?_ ⟨_,_,I,Fs1,F',hk,h1,?_,⟨m3,fun b hb=>hG.2 b ((m4 b hb).resolve_left (by simp))⟩,fun _=>Frame.below (Below.refl _ _) (fun b hb=>.inr (hin1 b ((m4 b hb).resolve_left (by simp)))) (fun r=>(hst1 r).2)⟩
    · simp only [execOp,ho,Sem.run_bind,hrun,Result.andThen_ok];rfl
    · simp only [T];exact ⟨cv'.toList,by simp,m2⟩
  · exact hk.elim
theorem sim_buildA (h:RelI w0 I0 s a.tmps w I Fs) {zero:List Value} {parts:List (Nat×Nat×Operand)} {t:TypeId} {it:TypeInfo} {z:Value} {len:Nat} {e:TypeId} {ie:TypeInfo} {ps:Array (Nat×Operand)} {o:Oper} (ho:o.op=.build t ps) (hit:P.info? t=some it) (hu:P.underlying t=some (.array len e)) (hie:P.info? e=some ie) (hz:it.zero=some z) (hzz:z.cells.toList=zero) (hone:zero.all (·.oneCell')=true)
    (hps:ps.toList.map (fun p=>(some (p.1*ie.size,ie.size),p.2))=parts.map fun p=>(some (p.1,p.2.1),p.2.2)) (hk:evalK Ctr s (.build zero parts) K):RunsTo P (execOp a.eval o) w (OutOK nn Fs I w w0 I0 a.tmps K):=by
  obtain ⟨hok,hk⟩:=hk;split at hk
  · rename_i cells hf;obtain ⟨Fs1,G,h1,hV,hG,hsub1,hin1,hst1⟩:=tkL_T (parts.map (·.2.2)) h;have hz0:Cells I w (zero.map ofC) (ρS (tkL s (parts.map (·.2.2))).2 a.tmps w) z.cells.toList []:=by rw [hzz];exact ofC_Cells _ zero hone
    have hsnd:ps.toList.map (·.2)=parts.map (·.2.2):=(by have:=congrArg (List.map (·.2)) hps;simpa [List.map_map,Function.comp_def] using this);have hfst:ps.toList.map (fun p=>some (p.1*ie.size,ie.size))=parts.map fun p=>some (p.1,p.2.1):=(by have:=congrArg (List.map (·.1)) hps;simpa [List.map_map,Function.comp_def] using this);obtain ⟨cv',F',m1,m2,m3,m4⟩:=fill_T (place:=fun i=>some (i*ie.size,ie.size)) h1 (parts.map fun p=>(p.1,p.2.1)) _ ((ps.map fun (i,x)=>(i,a.eval x)).toList) _ _ z.cells [] G hf (by
        rw [Array.toList_map,List.map_map,List.map_map];simpa [Function.comp_def] using hfst) (by
        rw [Array.toList_map,List.map_map];have:List.map ((fun x:Nat×Value=>x.2) ∘ fun x:Nat×Operand=>(x.1,a.eval x.2)) ps.toList=(ps.toList.map (·.2)).map a.eval:=by simp [List.map_map,Function.comp_def]
        rw [show (List.map ((fun x:Nat×Value=>x.2) ∘ fun (x:Nat×Operand)=>match x with | (i,x)=>(i,a.eval x)) ps.toList)=(ps.toList.map (·.2)).map a.eval from this,hsnd];exact hV) hok hz0 (by simpa using hG.1)
    have hbuilt:P.built t (ps.map fun (i,x)=>(i,a.eval x)).toList=some cv':=(by unfold Program.built;simp only [hit,hu,hz,hie];exact m1);have hrun:=run_build (P:=P) w t (ps.map fun (i,x)=>(i,a.eval x)) cv' hbuilt;refine .value (v:=.agg cv') ?_ ⟨_,_,I,Fs1,F',hk,h1,?_,⟨m3,fun b hb=>hG.2 b ((m4 b hb).resolve_left (by simp))⟩,fun _=>Frame.below (Below.refl _ _) (fun b hb=>.inr (hin1 b ((m4 b hb).resolve_left (by simp)))) (fun r=>(hst1 r).2)⟩
    · simp only [execOp,ho,Sem.run_bind,hrun,Result.andThen_ok];rfl
    · simp only [T];exact ⟨cv'.toList,by simp,m2⟩
  · exact hk.elim
theorem zeros_T {sz:Nat}{zero:List Value}(hz:zero.length=sz)(hone:zero.all (·.oneCell')=true):∀ n:Nat,Rows I w sz (List.replicate n (zero.map ofC)) ((List.replicate n zero).flatten) []
  | 0=>by simp [Rows]
  | n+1=>by simp only [List.replicate_succ,Rows,List.flatten_cons];exact ⟨zero,_,[],[],rfl,rfl,hz,ofC_Cells nil zero hone,zeros_T hz hone n⟩
theorem madeCells_get {z:Array Value}{n sz:Nat}(hz:z.size=sz)(j:Nat)(v:Value)(h:((List.replicate n z.toList).flatten)[j]?=some v)(m:Nat)(hm:n*sz≤m):(madeCells z m)[j]?=some v:=by
  have key:∀ (n j:Nat),((List.replicate n z.toList).flatten)[j]?=some v→j<n*sz∧z[j % sz]?=some v:=by
    intro n;induction n with
    | zero=>intro j h;simp at h
    | succ n ih =>
      intro j h;rw [List.replicate_succ,List.flatten_cons] at h;by_cases hj:j<sz
      · rw [List.getElem?_append_left (by simp [hz];exact hj)] at h;refine ⟨by rw [Nat.add_mul];omega,?_⟩;rw [Nat.mod_eq_of_lt hj];simpa using h
      · rw [List.getElem?_append_right (by simp [hz];omega)] at h;simp only [Array.length_toList,hz] at h;obtain ⟨i1,i2⟩:=ih _ h;refine ⟨by rw [Nat.add_mul];omega,?_⟩;rw [Nat.mod_eq_sub_mod (by omega)];exact i2
  obtain ⟨k1,k2⟩:=key n j h;unfold madeCells;have hjm:j<m:=(by omega);simp only [Array.getElem?_map,Array.getElem?_range,hjm,if_true,Option.map_some];rw [hz];have hlt:=(Array.getElem?_eq_some_iff.1 k2).1;rw [Array.getElem?_eq_getElem hlt] at k2;simp only [Option.some.injEq] at k2 ⊢;rw [← k2];simp [hlt]
theorem sim_mks (h:RelI w0 I0 s a.tmps w I Fs){sz bytes:Nat}{zero:List Value}{l c:Operand}{t e:TypeId}{i:TypeInfo}{z:Value}{o:Oper}(ho:o.op=.makeSlice t l c)(ht:P.underlying t=some (.slice e))(hi:P.info? e=some i)(hz:i.zero=some z)(hsz:i.size=sz)(hby:i.bytes=bytes)(hzz:z.cells.toList=zero)(hzs:zero.length=sz)(hone:zero.all (·.oneCell')=true)
    (hk:evalK Ctr s (.mks sz bytes zero l c) K):RunsTo P (execOp a.eval o) w (OutOK nn Fs I w w0 I0 a.tmps K):=by
  have hL:=lk_T h l;have hC:=lk_T h c;simp only [evalK] at hk;split at hk
  · rename_i k1 n k2 m e1 e2;rw [e1] at hL;rw [e2] at hC;obtain ⟨h1,h2,h3,hK⟩:=hk;have hm0:0≤m:=by omega
    have hmn:m.toNat*(bytes+1)≤2 ^ 40:=(by have hmm:((m.toNat:Nat):Int)=m:=Int.toNat_of_nonneg hm0;have:((m.toNat*(bytes+1):Nat):Int)≤((2 ^ 40:Nat):Int):=(by rw [Int.natCast_mul,hmm];simpa using h3);exact Int.ofNat_le.1 this);have hml:m.toNat≤2 ^ 40:=Nat.le_trans (Nat.le_mul_of_pos_right _ (by omega)) hmn;have hmb:m.toNat*bytes≤2 ^ 40:=Nat.le_trans (Nat.mul_le_mul_left _ (by omega:bytes≤bytes+1)) hmn;have hbm:(i.bytes:Int)*m≤281474976710656:=(by have hmm:((m.toNat:Nat):Int)=m:=Int.toNat_of_nonneg hm0;rw [hby,← hmm,Int.mul_comm];have:=Int.ofNat_le.2 hmb;rw [Int.natCast_mul] at this;omega);have hrun:=run_make (P:=P) w t e i z ht hi hz k1 k2 n m h1 h2 hbm (by omega);have hzl:z.cells.size=sz:=(by rw [← hzs,← hzz];simp);refine .value (v:=.slice (some ⟨w.heap.size,0,none⟩) n.toNat m.toNat) (w':=w.alloc (.cells (madeCells z.cells (m.toNat*i.size)) e)) ?_ ?_
    · simp only [execOp,ho,(T_v hL).1,(T_v hC).1,Sem.run_bind,hrun,Result.andThen_ok];rfl
    · have hr:=new_row (a:=a) (K:=K) (nn:=nn) (Fs0:=Fs) h (sz:=sz) (rows:=List.replicate n.toNat (zero.map ofC)) (cs:=madeCells z.cells (m.toNat*i.size)) (raw:=(List.replicate n.toNat zero).flatten) (F:=[]) e m.toNat (zeros_T hzs hone n.toNat) (fun j v hj=>madeCells_get hzl j v (by rw [hzz];exact hj) _ (by rw [hsz];exact Nat.mul_le_mul_right _ (by omega))) (by simp;omega) (by unfold maxLen;omega) (by rw [size_madeCells,hsz];exact Nat.le_refl _) Fresh.nil hK (Below.refl _ w) rfl (fun _ _ h=>by cases h) (fun _ _=>.inr rfl);simpa using hr
  · exact hk.elim
end
end Go.V
namespace Go.V
open Go.RowKit
section
variable {P:Program} {w0:Base} {I0:Nat→Prop} {s:List D} {a:Act} {w:World} {I:Nat→Prop} {Fs:Nat→List Nat} {K:D→List D→Prop} {Ctr:CtrT} {nn:Bool}
theorem setC_T (h:RelI w0 I0 s a.tmps w I Fs) {r:Nat} {p:Path} {c:D} {KK:List D→(D→Bool)→Prop} (hk:setC s r p c KK) (hp:p≠[]) {d:D} {u0 u2:Value} {b o:Nat} {F2:List Nat} (hs:s[r]?=some d) (hu:a.tmps[r]?=some u0) (ha:adrAt w u0 d p=some (b,o)) (ho2:u2.oneCell'=true) (hT:T I w c (resAt d p (ρS s a.tmps w)) u2 F2) (hF2:Fresh w0 w I Fs F2) :
    ∃ s' q Fs',KK s' q∧RelI w0 I0 s' a.tmps (w.setCell ⟨b,o,none⟩ u2) I Fs'∧(w.cell? ⟨b,o,none⟩).isSome=true∧w.frozen? ⟨b,o,none⟩=false∧w0.N b ∧
      (∃ d',s'[r]?=some d'∧∀ q' t sz rows,¬ p <+: q'→treeAt d q'=some t→t.cont=some (sz,rows)→valAt (w.setCell ⟨b,o,none⟩ u2) u0 d' q'=valAt w u0 d q'∧∃ t',treeAt d' q'=some t'∧like t t') ∧
      (∀ x v,q x=true→ρS s a.tmps w x v→ρS s' a.tmps (w.setCell ⟨b,o,none⟩ u2) x v)∧(∀ r' b',b'∈Fs' r'→b'∈Fs r'∨b'∈F2)∧(∀ x,I x→(w.setCell ⟨b,o,none⟩ u2).heap[x]?=w.heap[x]?)∧(∀ x,(∀ r,x∉Fs r)→(w.setCell ⟨b,o,none⟩ u2).heap[x]?=w.heap[x]?):=by
  simp only [setC,hs] at hk;cases hc:treeAt d p with
  | none=>simp [hc] at hk
  | some old =>
    simp only [hc] at hk;have hwp:(w.setCell ⟨b,o,none⟩ u2).os=w.os∧(w.setCell ⟨b,o,none⟩ u2).tape=w.tape∧(w.setCell ⟨b,o,none⟩ u2).output=w.output∧(w.setCell ⟨b,o,none⟩ u2).heap.size=w.heap.size:=⟨rfl,rfl,rfl,by simp [World.setCell]⟩
    have hw1:∀ x,x≠b→(w.setCell ⟨b,o,none⟩ u2).heap[x]?=w.heap[x]?:=fun x hx=>Below.heap_setCell w ⟨b,o,none⟩ u2 x hx;have hTd:=h.slot r d u0 hs hu;have hbF:=adr_mem p d hTd (by rw [hc];rfl) ha;have main:∀ q:D→Bool,(∀ x v,q x=true→ρS s a.tmps w x v→notThrough r p x=true)→∃ Fs',RelI w0 I0 ((pruneL q s).set r (setAt (d.prune q) p (c.prune q))) a.tmps (w.setCell ⟨b,o,none⟩ u2) I Fs'∧(w.cell? ⟨b,o,none⟩).isSome=true∧w.frozen? ⟨b,o,none⟩=false∧w0.N b ∧
      (∃ d',((pruneL q s).set r (setAt (d.prune q) p (c.prune q)))[r]?=some d'∧∀ q' t sz rows,¬ p <+: q'→treeAt d q'=some t→t.cont=some (sz,rows)→valAt (w.setCell ⟨b,o,none⟩ u2) u0 d' q'=valAt w u0 d q'∧∃ t',treeAt d' q'=some t'∧like t t') ∧
      (∀ x v,q x=true→ρS s a.tmps w x v→ρS ((pruneL q s).set r (setAt (d.prune q) p (c.prune q))) a.tmps (w.setCell ⟨b,o,none⟩ u2) x v)∧(∀ r' b',b'∈Fs' r'→b'∈Fs r'∨b'∈F2):=by
      intro q hq;obtain ⟨A,F',B,u',hF,hcl,_,hfz,_,hrel,hρ⟩:=h.store (q:=q) (c2:=c) (u2:=u2) (F2:=F2) (w2:=w.setCell ⟨b,o,none⟩ u2) hq hs hu hp hc ha ho2 hT hF2.1 hF2.2 hwp hw1 (fun cells e f hr=>setCell_here w b o u2 cells e f hr);refine ⟨_,hrel,by rw [hcl];rfl,hfz,(h.own r b hbF).1,⟨setAt (d.prune q) p (c.prune q),by have hlt:=(List.getElem?_eq_some_iff.1 hs).1;simp [pruneL_len,hlt],fun q' t sz rows hn hq' ht=>?_⟩,hρ,fun r' b' hb'=>?_⟩
      · obtain ⟨b1,o1,u1,A1,F1,B1,cells,e,ha1,hcl1,hrow,_⟩:=T.focus p d hTd (h.nd r) (fun b hb=>(h.own r b hb).2.2) hp hc;obtain ⟨rfl,rfl⟩:b1=b∧o1=o:=(by rw [ha] at ha1;simpa [eq_comm] using ha1);exact val_keep p d q (c.prune q) hTd (h.nd r) ha (by rw [hc];rfl) hrow (setCell_here w _ _ u2 cells e (0,0) hrow) (fun x _ hx=>hw1 x hx) q' hn hq' ht
      · unfold upd at hb';split at hb'
        · rename_i hr;subst hr;rw [hF];simp only [List.mem_append] at hb' ⊢;rcases hb' with (hb' | hb') | hb'
          · exact .inl (.inl (.inl hb'))
          · exact .inr hb'
          · exact .inl (.inr hb')
        · exact .inl hb'
    have hI:∀ x,I x→(w.setCell ⟨b,o,none⟩ u2).heap[x]?=w.heap[x]?:=fun x hx=>hw1 x (by rintro rfl;exact (h.own r x hbF).2.2 hx);have hN:∀ x,(∀ r,x∉Fs r)→(w.setCell ⟨b,o,none⟩ u2).heap[x]?=w.heap[x]?:=fun x hx=>hw1 x (by rintro rfl;exact hx r hbF);cases hoc:old.cont with
    | some y=>simp only [hoc] at hk;obtain ⟨Fs',k1,k2,k3,k4,k5,k6,k7⟩:=main (notThrough r p) (fun _ _ hq _=>hq);exact ⟨_,_,Fs',hk,k1,k2,k3,k4,k5,k6,k7,hI,hN⟩
    | none =>
      simp only [hoc] at hk;have hval:∀ x v,ρS s a.tmps w x v→notThrough r p x=true:=by
        intro x v hx;cases x with
        | ref r1 q1 =>
          obtain ⟨d1,u1,t1,m1,m2,m3,mo,m4⟩:=hx;obtain ⟨sz,rows,hcc⟩:=ownv_cont mo;simp only [notThrough,Bool.not_eq_true',Bool.and_eq_false_iff,beq_eq_false_iff_ne];by_cases hr:r1=r
          · subst hr;rw [hs] at m1;cases m1;refine .inr ?_;by_cases hpq:p.isPrefixOf q1=true
            · obtain ⟨q2,rfl⟩:=List.isPrefixOf_iff_prefix.1 hpq;rw [treeAt_append,hc] at m3;exact absurd hoc (treeAt_cont (d:=old) (q:=q2) (t:=t1) (by simpa using m3) hcc)
            · exact eq_false_of_ne_true hpq
          · exact .inl hr
        | ptr r1 q1 i j =>
          obtain ⟨d1,u1,t,sz,rows,u3,b3,o3,m1,m2,m3,m4,m5⟩:=hx;simp only [notThrough,Bool.not_eq_true',Bool.and_eq_false_iff,beq_eq_false_iff_ne];by_cases hr:r1=r
          · subst hr;rw [hs] at m1;cases m1;refine .inr ?_;by_cases hpq:p.isPrefixOf q1=true
            · obtain ⟨q2,rfl⟩:=List.isPrefixOf_iff_prefix.1 hpq;rw [treeAt_append,hc] at m3;exact absurd hoc (treeAt_cont (d:=old) (q:=q2) (t:=t) (by simpa using m3) m4)
            · exact eq_false_of_ne_true hpq
          · exact .inl hr
        | sub r1 q1 i n =>
          obtain ⟨d1,u1,t,sz,rows,u3,b3,o3,cc,m1,m2,m3,m4,m5⟩:=hx;simp only [notThrough,Bool.not_eq_true',Bool.and_eq_false_iff,beq_eq_false_iff_ne];by_cases hr:r1=r
          · subst hr;rw [hs] at m1;cases m1;refine .inr ?_;by_cases hpq:p.isPrefixOf q1=true
            · obtain ⟨q2,rfl⟩:=List.isPrefixOf_iff_prefix.1 hpq;rw [treeAt_append,hc] at m3;exact absurd hoc (treeAt_cont (d:=old) (q:=q2) (t:=t) (by simpa using m3) m4)
            · exact eq_false_of_ne_true hpq
          · exact .inl hr
        | _=>exact hx.elim
      obtain ⟨Fs',k1,k2,k3,k4,k5,k6,k7⟩:=main (fun _=>true) (fun x v _ hx=>hval x v hx);rw [pruneL_yes,D.prune_yes,D.prune_yes] at k1 k5 k6;exact ⟨_,_,Fs',hk,k1,k2,k3,k4,k5,k6,k7,hI,hN⟩
theorem store_step {b oo k:Nat}{u:Value}{us:List Value}(ho:u.oneCell'=true)(hs:(w.cell? ⟨b,oo+k,none⟩).isSome=true)(hf:w.frozen? ⟨b,oo+k,none⟩=false):(storeCells ⟨b,oo,none⟩ (u::us) k).run P w=(storeCells ⟨b,oo,none⟩ us (k+1)).run P (w.setCell ⟨b,oo+k,none⟩ u):=by obtain ⟨v,hv⟩:=Option.isSome_iff_exists.1 hs;rw [storeCells,Sem.run_bind,Addr.add_mid,run_store P w _ u _ ho,hv];simp [hf]
theorem setB_T {r i b:Nat} {u0:Value} (hu:a.tmps[r]?=some u0) (hb:baseOf u0=some (b,0)):∀ (n:Nat) (s:List D) (Fs:Nat→List Nat) (w:World) (j oo k:Nat) (cs:List D) (us:List Value) (F:List Nat) (KK:List D→Prop),RelI w0 I0 s a.tmps w I Fs→setB r i n s j cs KK→n=cs.length→(i=0→oo+k=j)→Cells I w cs (ρS s a.tmps w) us F→Fresh w0 w I Fs F →
    ∃ s' Fs' w',KK s'∧RelI w0 I0 s' a.tmps w' I Fs'∧(storeCells ⟨b,oo,none⟩ us k).run P w=.ok () w'
  | 0,s,Fs,w,j,oo,k,cs,us,F,KK,h,hk,hn,_,hc,_=>by have:cs=[]:=List.eq_nil_of_length_eq_zero hn.symm;subst this;simp only [Cells] at hc;obtain ⟨rfl,_⟩:=hc;exact ⟨s,Fs,w,hk,h,rfl⟩
  | n+1,s,Fs,w,j,oo,k,[],us,F,KK,h,hk,hn,_,hc,_=>by simp at hn
  | n + 1,s,Fs,w,j,oo,k,c::cs,us,F,KK,h,hk,hn,hj,hc,hF=>by
    simp only [setB] at hk;obtain ⟨hbox,hk⟩:=hk;simp only [Cells] at hc;obtain ⟨u,us',F1,F2,e,hFe,ho,hT,h2⟩:=hc;subst e;subst hFe;have hF1:Fresh w0 w I Fs F1:=⟨(List.nodup_append.1 hF.1).1,fun b hb=>hF.2 b (by simp [hb])⟩
    cases hs:s[r]? with
    | none=>simp [isBox,hs] at hbox
    | some d =>
      have hd:∃ tag cells,d=.box tag cells:=by cases d<;>first | exact ⟨_,_,rfl⟩ | simp [isBox,hs,treeAt] at hbox
      obtain ⟨tag,cells,rfl⟩:=hd;cases i with
      | succ i=>simp [setC,hs,treeAt,D.cont] at hk
      | zero =>
        have hjj:=hj rfl;have ha:adrAt w u0 (.box tag cells) [(0,j)]=some (b,oo+k):=(by simp [adrAt,D.cont,hb,hjj]);obtain ⟨s',q,Fs',hK,hrel,hsome,hfz,hwb,⟨d',hd',hkeep⟩,hρ,hFs',hI',hN'⟩:=setC_T h hk (by simp) hs hu ha ho hT hF1;have hc':Cells I (w.setCell ⟨b,oo+k,none⟩ u) (pruneL q cs) (ρS s' a.tmps (w.setCell ⟨b,oo+k,none⟩ u)) us' F2 :=
          Cells.turn hρ cs (Cells.keep cs h2 (fun x hx=>by
            rcases hx with hx | hx
            · exact hI' x hx
            · exact hN' x (hF.2 x (by simp [hx])).2.2.2))
        have hF2:Fresh w0 (w.setCell ⟨b,oo+k,none⟩ u) I Fs' F2:=⟨(List.nodup_append.1 hF.1).2.1,fun x hx=>by
          have:=hF.2 x (by simp [hx]);refine ⟨this.1,by simpa [World.setCell] using this.2.1,this.2.2.1,fun r' hr=>?_⟩;rcases hFs' r' x hr with hr | hr
          · exact this.2.2.2 r' hr
          · exact (List.nodup_append.1 hF.1).2.2 x hr x hx rfl⟩
        obtain ⟨s'',Fs'',w'',k1,k2,k3⟩:=setB_T hu hb n s' Fs' _ (j+1) oo (k+1) (pruneL q cs) us' F2 KK hrel hK (by rw [pruneL_len];simpa using hn) (fun _=>by omega) hc' hF2;exact ⟨s'',Fs'',w'',k1,k2,by rw [store_step ho hsome hfz];exact k3⟩
theorem setR_T {r i:Nat}{q:Path}{u0 u1:Value}{b o sz:Nat}(hu:a.tmps[r]?=some u0)(hb:baseOf u1=some (b,o)):∀ (cs:List D) (s:List D) (Fs:Nat→List Nat) (w:World) (j oo k:Nat) (us:List Value) (F:List Nat) (KK:List D→Prop),RelI w0 I0 s a.tmps w I Fs→setR r q i s j cs KK→oo+k=o+i*sz+j→Cells I w cs nil us F→Fresh w0 w I Fs F →
    (∃ d rows,s[r]?=some d∧treeAt d q=some (.sl true sz rows)∧valAt w u0 d q=some u1) →
    ∃ s' Fs' w',KK s'∧RelI w0 I0 s' a.tmps w' I Fs'∧(storeCells ⟨b,oo,none⟩ us k).run P w=.ok () w'
  | [],s,Fs,w,j,oo,k,us,F,KK,h,hk,_,hc,_,_=>by simp only [Cells] at hc;obtain ⟨rfl,_⟩:=hc;exact ⟨s,Fs,w,hk,h,rfl⟩
  | c :: cs,s,Fs,w,j,oo,k,us,F,KK,h,hk,hj,hc,hF,⟨d,rows,hs,ht,hv⟩=>by
    simp only [setR] at hk;obtain ⟨hleaf,hk⟩:=hk;simp only [Cells] at hc;obtain ⟨u,us',F1,F2,e,hFe,ho,hT,h2⟩:=hc;subst e;subst hFe;have hF1:Fresh w0 w I Fs F1:=⟨(List.nodup_append.1 hF.1).1,fun b hb=>hF.2 b (by simp [hb])⟩
    have ha:adrAt w u0 d (q++[(i,j)])=some (b,oo+k):=(by rw [hj];exact adr_snoc q d u0 i j ht rfl hv hb);obtain ⟨s',qq,Fs',hK,hrel,hsome,hfz,hwb,⟨d',hd',hkeep⟩,hρ,hFs',hI',hN'⟩:=setC_T h hk (by simp) hs hu ha ho (leaf_T hleaf hT) hF1;have hn:¬ (q++[(i,j)]) <+: q:=fun hp=>by have:=hp.length_le;simp only [List.length_append,List.length_singleton] at this;omega
    obtain ⟨m1,t',m2,m3⟩:=hkeep q _ sz rows hn ht rfl;obtain ⟨rows',rfl⟩:=like_sl m3;have hc':Cells I (w.setCell ⟨b,oo+k,none⟩ u) cs nil us' F2:=Cells.keep cs h2 (fun x hx=>by
      rcases hx with hx | hx
      · exact hI' x hx
      · exact hN' x (hF.2 x (by simp [hx])).2.2.2)
    have hF2:Fresh w0 (w.setCell ⟨b,oo+k,none⟩ u) I Fs' F2:=⟨(List.nodup_append.1 hF.1).2.1,fun x hx=>by
      have:=hF.2 x (by simp [hx]);refine ⟨this.1,by simpa [World.setCell] using this.2.1,this.2.2.1,fun r' hr=>?_⟩;rcases hFs' r' x hr with hr | hr
      · exact this.2.2.2 r' hr
      · exact (List.nodup_append.1 hF.1).2.2 x hr x hx rfl⟩
    obtain ⟨s'',Fs'',w'',k1,k2,k3⟩:=setR_T hu hb cs s' Fs' _ (j+1) oo (k+1) us' F2 KK hrel hK (by omega) hc' hF2 ⟨d',rows',hd',m2,by rw [m1];exact hv⟩;exact ⟨s'',Fs'',w'',k1,k2,by rw [store_step ho hsome hfz];exact k3⟩
theorem like_box {tg:Option Nat}{cells:List D}{t':D}(h:like (.box tg cells) t'):∃ tg' cells',t'=.box tg' cells':=by cases t' <;> simp_all [like]
theorem setN_T {r:Nat}{q:Path}{u0 u1:Value}{b o:Nat}(hu:a.tmps[r]?=some u0)(hb:baseOf u1=some (b,o)):∀ (cs:List D) (s:List D) (Fs:Nat→List Nat) (w:World) (j oo k:Nat) (us:List Value) (F:List Nat) (KK:List D→Prop),RelI w0 I0 s a.tmps w I Fs→setR r q 0 s j cs KK→oo+k=o+j→Cells I w cs nil us F→Fresh w0 w I Fs F →
    (∃ d tg cells,s[r]?=some d∧treeAt d q=some (.box tg cells)∧valAt w u0 d q=some u1) →
    ∃ s' Fs' w',KK s'∧RelI w0 I0 s' a.tmps w' I Fs'∧(storeCells ⟨b,oo,none⟩ us k).run P w=.ok () w'
  | [],s,Fs,w,j,oo,k,us,F,KK,h,hk,_,hc,_,_=>by simp only [Cells] at hc;obtain ⟨rfl,_⟩:=hc;exact ⟨s,Fs,w,hk,h,rfl⟩
  | c :: cs,s,Fs,w,j,oo,k,us,F,KK,h,hk,hj,hc,hF,⟨d,tg,cells,hs,ht,hv⟩=>by
    simp only [setR] at hk;obtain ⟨hleaf,hk⟩:=hk;simp only [Cells] at hc;obtain ⟨u,us',F1,F2,e,hFe,ho,hT,h2⟩:=hc;subst e;subst hFe;have hF1:Fresh w0 w I Fs F1:=⟨(List.nodup_append.1 hF.1).1,fun b hb=>hF.2 b (by simp [hb])⟩
    have ha:adrAt w u0 d (q++[(0,j)])=some (b,oo+k):=(by rw [hj,show o+j=o+0*cells.length+j by simp];exact adr_snoc q d u0 0 j ht rfl hv hb);obtain ⟨s',qq,Fs',hK,hrel,hsome,hfz,hwb,⟨d',hd',hkeep⟩,hρ,hFs',hI',hN'⟩:=setC_T h hk (by simp) hs hu ha ho (leaf_T hleaf hT) hF1;have hn:¬ (q++[(0,j)]) <+: q:=fun hp=>by have:=hp.length_le;simp only [List.length_append,List.length_singleton] at this;omega
    obtain ⟨m1,t',m2,m3⟩:=hkeep q _ _ _ hn ht rfl;obtain ⟨tg',cells',rfl⟩:=like_box m3;have hc':Cells I (w.setCell ⟨b,oo+k,none⟩ u) cs nil us' F2:=Cells.keep cs h2 (fun x hx=>by
      rcases hx with hx | hx
      · exact hI' x hx
      · exact hN' x (hF.2 x (by simp [hx])).2.2.2)
    have hF2:Fresh w0 (w.setCell ⟨b,oo+k,none⟩ u) I Fs' F2:=⟨(List.nodup_append.1 hF.1).2.1,fun x hx=>by
      have:=hF.2 x (by simp [hx]);refine ⟨this.1,by simpa [World.setCell] using this.2.1,this.2.2.1,fun r' hr=>?_⟩;rcases hFs' r' x hr with hr | hr
      · exact this.2.2.2 r' hr
      · exact (List.nodup_append.1 hF.1).2.2 x hr x hx rfl⟩
    obtain ⟨s'',Fs'',w'',k1,k2,k3⟩:=setN_T hu hb cs s' Fs' _ (j+1) oo (k+1) us' F2 KK hrel hK (by omega) hc' hF2 ⟨d',tg',cells',hd',m2,by rw [m1];exact hv⟩;exact ⟨s'',Fs'',w'',k1,k2,by rw [store_step ho hsome hfz];exact k3⟩
theorem Cells.rise {ρ:D→Value→Prop}(cs:List D){us:List Value}{F:List Nat}(h:Cells I w cs nil us F):Cells I w cs ρ us F:=by have h1:=Cells.turn (q:=fun _=>true) (ρ':=ρ) (fun x u _ hx=>hx.elim) cs h;rwa [pruneL_yes] at h1
theorem sim_store (h:RelI w0 I0 s a.tmps w I Fs) {n:Nat} {x y:Operand} {ty:TypeId} {o:Oper} (ho:o.op=.store ty x y) (hn:(P.info? ty).map (·.size)=some n) (hk:evalK Ctr s (.store n x y) K):RunsTo P (execOp a.eval o) w (OutOK false Fs I w w0 I0 a.tmps K):=by
  obtain ⟨Fs1,F,h1,hT,hF,hsub⟩:=tk_T h y;have hX:=lk_T h1 x;simp only [evalK] at hk;split at hk
  · rename_i r q i j e;rw [e] at hX;obtain ⟨hok,hlen,hk⟩:=hk;simp only [T] at hX;obtain ⟨⟨d,u0,t,sz,rows,u1,b,oo,m1,m2,m3,m4,m5,m6,m7⟩,_⟩:=hX;have hc:=cells_T h1 hT hok;have hsz:(a.eval y).cells.size=n:=by have:=hc.len;simp at this;omega
    have fin:∀ (w':World),(storeCells ⟨b,oo+i*sz+j,none⟩ (a.eval y).cells.toList 0).run P w=.ok () w'→(execOp a.eval o).run P w=.ok .skip w':=by
      intro w' hr;cases hq:P.info? ty with
      | none=>simp [hq] at hn
      | some ii=>simp [hq] at hn;simp [execOp,ho,m7,Instr.storeAt,Instr.sureAddr,storeVar,sizeOf,typeInfo,hq,hn,hsz,hr]
    split at hk
    · rename_i hbox;cases q with
      | cons y q =>
        obtain ⟨rfl,hro,hnt,hk⟩:=hk;obtain ⟨cs',s2,Fs2,F',⟨hnb,hK⟩,h2,hC2,hF',hsub2,hin2,hρ2⟩:=resC_T _ h1 hc hF hro hk;have hp:=hρ2 (.ptr r (y::q) 0 j) _ hnt ⟨d,u0,t,sz,rows,u1,b,oo,m1,m2,m3,m4,m5,m6,m7⟩;obtain ⟨d2,u02,t2,sz2,rows2,u12,b2,o2,n1,n2,n3,n4,n5,n6,n7⟩:=hp;rw [m7] at n7;simp only [Value.pointer.injEq,Option.some.injEq,Addr.mk.injEq,and_true] at n7;obtain ⟨rfl,n7⟩:=n7;have ht2:∃ tg2 cells2,t2=.box tg2 cells2:=by cases t2<;>first | exact ⟨_,_,rfl⟩ | simp [isBox,n1,n3] at hnb
        obtain ⟨tg2,cells2,rfl⟩:=ht2;obtain ⟨s',Fs',w',k1,k2,k3⟩:=setN_T (P:=P) n2 n6 cs' s2 Fs2 w j (oo+0*sz+j) 0 _ F' _ h2 hK (by omega) hC2 hF' ⟨d2,tg2,cells2,n1,n3,n5⟩;unfold RunsTo;rw [fin w' k3];exact ⟨.undef,s',I,Fs',[],k1,k2,by simp [T],Fresh.nil,fun h=>by cases h⟩
      | nil =>
      dsimp only at hk;simp only [treeAt,Option.some.injEq] at m3;simp only [valAt,Option.some.injEq] at m5;subst m3;subst m5;have hd:∃ tag cells,d=.box tag cells:=by cases d<;>first | exact ⟨_,_,rfl⟩ | simp [isBox,m1,treeAt] at hbox
      obtain ⟨tag,cells,rfl⟩:=hd;have hTd:=h1.slot r _ u0 m1 m2;simp only [T] at hTd;obtain ⟨b',cs,e',F',hu',_,hh,hF',hcs⟩:=hTd;rw [hu'] at m6;simp only [baseOf,Option.some.injEq,Prod.mk.injEq] at m6;obtain ⟨rfl,rfl⟩:=m6;split at hk
      · obtain ⟨hro,hnt,hk⟩:=hk;obtain ⟨cs',s2,Fs2,F',⟨hcl,hK⟩,h2,hC2,hF',hsub2,hin2,hρ2⟩:=resC_T _ h1 hc hF hro hk;have hC3:Cells I w cs' (ρS s2 a.tmps w) (a.eval y).cells.toList F':=Cells.rise cs' hC2;obtain ⟨s',Fs',w',k1,k2,k3⟩:=setB_T (P:=P) m2 (by rw [hu'];rfl) n _ Fs2 w j (0+i*sz+j) 0 _ _ F' _ h2 hK hcl.symm (fun hi=>by subst hi;omega) hC3 hF';unfold RunsTo;rw [fin w' k3];exact ⟨.undef,s',I,Fs',[],k1,k2,by simp [T],Fresh.nil,fun h=>by cases h⟩
      obtain ⟨s',Fs',w',k1,k2,k3⟩:=setB_T (P:=P) m2 (by rw [hu'];rfl) n _ Fs1 w j (0+i*sz+j) 0 _ _ F _ h1 hk hlen.symm (fun hi=>by subst hi;omega) hc hF;unfold RunsTo;rw [fin w' k3];exact ⟨.undef,s',I,Fs',[],k1,k2,by simp [T],Fresh.nil,fun h=>by cases h⟩
    · rename_i hbox;obtain ⟨hro,hnt,hk⟩:=hk;obtain ⟨cs',s2,Fs2,F',⟨hnb,hK⟩,h2,hC2,hF',hsub2,hin2,hρ2⟩:=resC_T _ h1 hc hF hro hk;have hp:=hρ2 (.ptr r q i j) _ hnt ⟨d,u0,t,sz,rows,u1,b,oo,m1,m2,m3,m4,m5,m6,m7⟩;obtain ⟨d2,u02,t2,sz2,rows2,u12,b2,o2,n1,n2,n3,n4,n5,n6,n7⟩:=hp;rw [m7] at n7;simp only [Value.pointer.injEq,Option.some.injEq,Addr.mk.injEq,and_true] at n7;obtain ⟨rfl,n7⟩:=n7;by_cases hnil:cs'=[]
      · subst hnil;simp only [setR] at hK;simp only [Cells] at hC2;obtain ⟨hz1,_⟩:=hC2;unfold RunsTo;rw [fin w (by rw [hz1];rfl)];exact ⟨.undef,s2,I,Fs2,[],hK,h2,by simp [T],Fresh.nil,fun h=>by cases h⟩
      have ht2:t2=.sl true sz2 rows2:=by
        cases t2 with
        | sl own z1 z2=>cases own<;>simp [D.cont] at n4;rw [n4.1,n4.2]
        | box tag cells=>simp [isBox,n1,n3] at hnb
        | mp k e =>
          exfalso;obtain ⟨u',_,_,k1,k2,_⟩:=val_T q d2 (h2.slot r d2 u02 n1 n2) n3;rw [n5] at k1;cases k1;simp only [T] at k2;cases k with
          | bld ty e1 =>
            cases cs' with
            | nil=>exact hnil rfl
            | cons c cs=>simp only [setR] at hK;have hK2:=hK.2;simp [setC,n1,treeAt_append,n3,treeAt,D.cont] at hK2
          | err ty =>
            cases cs' with
            | nil=>exact hnil rfl
            | cons c cs=>simp only [setR] at hK;have hK2:=hK.2;simp [setC,n1,treeAt_append,n3,treeAt,D.cont] at hK2
          | _=>obtain ⟨_,_,_,e2,_⟩:=k2;rw [e2] at n6;simp [baseOf] at n6
        | _=>simp [D.cont] at n4
      subst ht2;obtain ⟨s',Fs',w',k1,k2,k3⟩:=setR_T (P:=P) n2 n6 cs' s2 Fs2 w j (oo+i*sz+j) 0 _ F' _ h2 hK (by omega) hC2 hF' ⟨d2,rows2,n1,n3,n5⟩;unfold RunsTo;rw [fin w' k3];exact ⟨.undef,s',I,Fs',[],k1,k2,by simp [T],Fresh.nil,fun h=>by cases h⟩
  · exact hk.elim
end
end Go.V
namespace Go.V
open Go.RowKit
mutual
theorem T.imm {I I':Nat→Prop}{w:World}(hI:∀ b,I b→I' b):∀ (d:D) {ρ u F},T I w d ρ u F→(∀ b,b∈F→I' b)→T I' w d.imm ρ u []
  | .undef,_,_,_,h,_=>by simp [T,D.imm]
  | .nils,_,_,_,h,_=>by simp only [T,D.imm] at h ⊢;exact ⟨h.1,trivial⟩
  | .v _,_,_,_,h,_=>by simp only [T,D.imm] at h ⊢;exact ⟨h.1,trivial⟩
  | .sl own sz rows,ρ,u,F,h,hF=>by
    simp only [T,D.imm,immLL_length] at h ⊢;obtain ⟨a,c,e,h1,h2,h3⟩:=h;refine ⟨a,c,e,h1,h2,.inl ⟨trivial,trivial,?_⟩⟩;rcases h3 with ⟨ho,hF',hr⟩ | ⟨ho,hr⟩
    · rcases hr with hr | ⟨b,o,raw,ha,hb,hr,hR⟩
      · exact .inl (immLL_nil.2 hr)
      · exact .inr ⟨b,o,raw,ha,hI b hb,hr,Rows.imm hI sz rows hR (fun _ h=>by cases h)⟩
    · rcases hr with ⟨ha,hc,hF'⟩ | ⟨b,o,cells,e,raw,F',ha,hh,hs,hr,hF',hR⟩
      · exact .inl (immLL_nil.2 (List.eq_nil_of_length_eq_zero (by omega)))
      · exact .inr ⟨b,o,raw,ha,hF b (by simp [hF']),hr,Rows.imm hI sz rows hR (fun x hx=>hF x (by simp [hF',hx]))⟩
  | .agg cs,ρ,u,F,h,hF=>by simp only [T,D.imm] at h ⊢;obtain ⟨us,e,hc⟩:=h;exact ⟨us,e,Cells.imm hI cs hc hF⟩
  | .tup vs,ρ,u,F,h,hF=>by simp only [T,D.imm] at h ⊢;obtain ⟨us,e,hc⟩:=h;exact ⟨us,e,Vals.imm hI vs hc hF⟩
  | .ref _ _,_,_,_,h,_=>by simp only [T,D.imm] at h ⊢;exact ⟨h.1,trivial⟩
  | .ptr _ _ _ _,_,_,_,h,_=>by simp only [T,D.imm] at h ⊢;exact ⟨h.1,trivial⟩
  | .sub _ _ _ _,_,_,_,h,_=>by simp only [T,D.imm] at h ⊢;exact ⟨h.1,trivial⟩
  | .iptr cells j,ρ,u,F,h,hF=>by simp only [T,D.imm] at h ⊢;obtain ⟨hF',b,o,raw,e,hb,hr,hc⟩:=h;exact ⟨trivial,b,o,raw,e,hI b hb,hr,Cells.mono hI cells hc⟩
  | .box _ cells,ρ,u,F,h,hF=>by simp [T,D.imm]
  | .mp k e,ρ,u,F,h,hF=>by simp only [T,D.imm] at h ⊢;exact ⟨trivial,F,h,hF⟩
  | .imp k e,ρ,u,F,h,hF=>by simp only [T,D.imm] at h ⊢;obtain ⟨_,F',h1,h2⟩:=h;exact ⟨trivial,F',h1,fun b hb=>hI b (h2 b hb)⟩
  | .fn f first caps,ρ,u,F,h,hF=>by simp only [T,D.imm] at h ⊢;obtain ⟨us,vs,F1,F2,hu,hF',h1,h2⟩:=h;subst hF';exact ⟨us,vs,[],[],hu,rfl,Vals.imm hI first h1 (fun x hx=>hF x (by simp [hx])),Vals.imm hI caps h2 (fun x hx=>hF x (by simp [hx]))⟩
theorem Cells.imm {I I':Nat→Prop}{w:World}(hI:∀ b,I b→I' b):∀ (ds:List D) {ρ us F},Cells I w ds ρ us F→(∀ b,b∈F→I' b)→Cells I' w (immL ds) ρ us []
  | [],_,_,_,h,_=>by simp only [Cells,immL] at h ⊢;exact ⟨h.1,trivial⟩
  | d::ds,ρ,us,F,h,hF=>by simp only [Cells,immL] at h ⊢;obtain ⟨u,us',F1,F2,e,hF',ho,h1,h2⟩:=h;subst hF';exact ⟨u,us',[],[],e,rfl,ho,T.imm hI d h1 (fun x hx=>hF x (by simp [hx])),Cells.imm hI ds h2 (fun x hx=>hF x (by simp [hx]))⟩
theorem Vals.imm {I I':Nat→Prop}{w:World}(hI:∀ b,I b→I' b):∀ (ds:List D) {ρ us F},Vals I w ds ρ us F→(∀ b,b∈F→I' b)→Vals I' w (immL ds) ρ us []
  | [],_,_,_,h,_=>by simp only [Vals,immL] at h ⊢;exact ⟨h.1,trivial⟩
  | d::ds,ρ,us,F,h,hF=>by simp only [Vals,immL] at h ⊢;obtain ⟨u,us',F1,F2,e,hF',h1,h2⟩:=h;subst hF';exact ⟨u,us',[],[],e,rfl,T.imm hI d h1 (fun x hx=>hF x (by simp [hx])),Vals.imm hI ds h2 (fun x hx=>hF x (by simp [hx]))⟩
theorem Rows.imm {I I':Nat→Prop}{w:World}(hI:∀ b,I b→I' b)(sz:Nat):∀ (rs:List (List D)) {raw F},Rows I w sz rs raw F→(∀ b,b∈F→I' b)→Rows I' w sz (immLL rs) raw []
  | [],_,_,h,_=>by simp only [Rows,immLL] at h ⊢;exact ⟨h.1,trivial⟩
  | r::rs,raw,F,h,hF=>by simp only [Rows,immLL] at h ⊢;obtain ⟨us,raw',F1,F2,e,hF',hl,h1,h2⟩:=h;subst hF';exact ⟨us,raw',[],[],e,rfl,hl,Cells.imm hI r h1 (fun x hx=>hF x (by simp [hx])),Rows.imm hI sz rs h2 (fun x hx=>hF x (by simp [hx]))⟩
end
mutual
theorem T.le {I:Nat→Prop} {w:World}:∀ (d e:D) {ρ u},T I w d ρ u []→d.le e→T I w e ρ u []:=by
  intro d e ρ u h hl;cases e with
  | undef=>simp [T]
  | nils=>cases d<;>simp [D.le] at hl;exact h
  | v x=>cases d<;>simp [D.le] at hl;subst hl;exact h
  | sl own sz rows =>
    cases d with
    | nils =>
      simp only [D.le] at hl;subst hl;simp only [T] at h ⊢;refine ⟨none,0,by simpa using h.1,by simp,by unfold maxLen;omega,?_⟩;cases own
      · exact .inl (by simp)
      · exact .inr (by simp)
    | sl o z r=>simp only [D.le] at hl;cases hl;exact h
    | _=>simp [D.le] at hl
  | agg es =>
    cases d with
    | agg ds=>simp only [D.le] at hl;simp only [T] at h ⊢;obtain ⟨us,e,hc⟩:=h;exact ⟨us,e,Cells.le ds es hc hl⟩
    | _=>simp [D.le] at hl
  | tup es =>
    cases d with
    | tup ds=>simp only [D.le] at hl;simp only [T] at h ⊢;obtain ⟨us,e,hc⟩:=h;exact ⟨us,e,Vals.le ds es hc hl⟩
    | _=>simp [D.le] at hl
  | ref r q=>cases d<;>simp [D.le] at hl;obtain ⟨rfl,rfl⟩:=hl;exact h
  | ptr r q i j=>cases d<;>simp [D.le] at hl;obtain ⟨rfl,rfl,rfl,rfl⟩:=hl;exact h
  | sub r q i n=>cases d<;>simp [D.le] at hl;obtain ⟨rfl,rfl,rfl,rfl⟩:=hl;exact h
  | iptr es j =>
    cases d with
    | iptr ds i =>
      simp only [D.le] at hl;obtain ⟨m,rfl,hl⟩:=hl;simp only [T] at h ⊢;obtain ⟨hF,b,o,raw,e,hb,hr,hc⟩:=h;refine ⟨hF,b,o+m,(raw.drop m).take es.length,by rw [e,Nat.add_assoc],hb,fun k v hk'=>?_,Cells.le _ es ((hc.drop m).take es.length) hl⟩;have:raw[m+k]?=some v:=by
        rw [List.getElem?_take] at hk';split at hk'
        · rw [List.getElem?_drop] at hk';exact hk'
        · cases hk'
      have:=hr _ v this;rw [← this];congr 2;omega
    | _=>simp [D.le] at hl
  | box t es=>cases d<;>simp [D.le] at hl;obtain ⟨rfl,rfl⟩:=hl;exact h
  | mp t es=>cases d<;>simp [D.le] at hl;obtain ⟨rfl,rfl⟩:=hl;exact h
  | imp t es=>cases d<;>simp [D.le] at hl;obtain ⟨rfl,rfl⟩:=hl;exact h
  | fn f a b =>
    cases d with
    | fn g c e=>simp only [D.le] at hl;obtain ⟨rfl,hl1,hl2⟩:=hl;simp only [T] at h ⊢;obtain ⟨us,vs,F1,F2,hu,hF,h1,h2⟩:=h;simp at hF;obtain ⟨rfl,rfl⟩:=hF;exact ⟨us,vs,[],[],hu,rfl,Vals.le c a h1 hl1,Vals.le e b h2 hl2⟩
    | _=>simp [D.le] at hl
theorem Cells.le {I:Nat→Prop}{w:World}:∀ (ds es:List D) {ρ us},Cells I w ds ρ us []→leL ds es→Cells I w es ρ us []:=by
  intro ds es ρ us h hl;cases ds with
  | nil=>cases es<;>simp [leL] at hl;exact h
  | cons d ds =>
    cases es with
    | nil=>simp [leL] at hl
    | cons e es=>simp only [leL] at hl;simp only [Cells] at h ⊢;obtain ⟨u,us',F1,F2,e',hF,ho,h1,h2⟩:=h;simp at hF;obtain ⟨rfl,rfl⟩:=hF;exact ⟨u,us',[],[],e',rfl,ho,T.le d e h1 hl.1,Cells.le ds es h2 hl.2⟩
theorem Vals.le {I:Nat→Prop}{w:World}:∀ (ds es:List D) {ρ us},Vals I w ds ρ us []→leL ds es→Vals I w es ρ us []:=by
  intro ds es ρ us h hl;cases ds with
  | nil=>cases es<;>simp [leL] at hl;exact h
  | cons d ds =>
    cases es with
    | nil=>simp [leL] at hl
    | cons e es=>simp only [leL] at hl;simp only [Vals] at h ⊢;obtain ⟨u,us',F1,F2,e',hF,h1,h2⟩:=h;simp at hF;obtain ⟨rfl,rfl⟩:=hF;exact ⟨u,us',[],[],e',rfl,T.le d e h1 hl.1,Vals.le ds es h2 hl.2⟩
end
mutual
theorem T.leF {I:Nat→Prop}{w:World}:∀ (d e:D) {ρ u F},T I w d ρ u F→d.le e→∃ F',T I w e ρ u F'∧F'.Sublist F:=by
  intro d e ρ u F h hl;cases e with
  | undef=>exact ⟨[],by simp [T],List.nil_sublist _⟩
  | nils=>cases d<;>simp [D.le] at hl;exact ⟨F,h,List.Sublist.refl _⟩
  | v x=>cases d<;>simp [D.le] at hl;subst hl;exact ⟨F,h,List.Sublist.refl _⟩
  | sl own sz rows =>
    cases d with
    | nils=>simp only [T] at h;obtain ⟨h1,rfl⟩:=h;exact ⟨[],T.le .nils (.sl own sz rows) (by simp only [T];exact ⟨h1,trivial⟩) hl,List.Sublist.refl _⟩
    | sl o z r=>simp only [D.le] at hl;cases hl;exact ⟨F,h,List.Sublist.refl _⟩
    | _=>simp [D.le] at hl
  | agg es =>
    cases d with
    | agg ds=>simp only [D.le] at hl;simp only [T] at h ⊢;obtain ⟨us,e,hc⟩:=h;obtain ⟨F',k1,k2⟩:=Cells.leF ds es hc hl;exact ⟨F',⟨us,e,k1⟩,k2⟩
    | _=>simp [D.le] at hl
  | tup es =>
    cases d with
    | tup ds=>simp only [D.le] at hl;simp only [T] at h ⊢;obtain ⟨us,e,hc⟩:=h;obtain ⟨F',k1,k2⟩:=Vals.leF ds es hc hl;exact ⟨F',⟨us,e,k1⟩,k2⟩
    | _=>simp [D.le] at hl
  | ref r q=>cases d<;>simp [D.le] at hl;obtain ⟨rfl,rfl⟩:=hl;exact ⟨F,h,List.Sublist.refl _⟩
  | ptr r q i j=>cases d<;>simp [D.le] at hl;obtain ⟨rfl,rfl,rfl,rfl⟩:=hl;exact ⟨F,h,List.Sublist.refl _⟩
  | sub r q i n=>cases d<;>simp [D.le] at hl;obtain ⟨rfl,rfl,rfl,rfl⟩:=hl;exact ⟨F,h,List.Sublist.refl _⟩
  | iptr es j =>
    cases d with
    | iptr ds i=>have hF:F=[]:=(by simp only [T] at h;exact h.1);subst hF;exact ⟨[],T.le _ _ h hl,List.Sublist.refl _⟩
    | _=>simp [D.le] at hl
  | box t es=>cases d<;>simp [D.le] at hl;obtain ⟨rfl,rfl⟩:=hl;exact ⟨F,h,List.Sublist.refl _⟩
  | mp t es=>cases d<;>simp [D.le] at hl;obtain ⟨rfl,rfl⟩:=hl;exact ⟨F,h,List.Sublist.refl _⟩
  | imp t es=>cases d<;>simp [D.le] at hl;obtain ⟨rfl,rfl⟩:=hl;exact ⟨F,h,List.Sublist.refl _⟩
  | fn f a b =>
    cases d with
    | fn g c e=>simp only [D.le] at hl;obtain ⟨rfl,hl1,hl2⟩:=hl;simp only [T] at h ⊢;obtain ⟨us,vs,F1,F2,hu,hF,h1,h2⟩:=h;obtain ⟨F1',k1,k2⟩:=Vals.leF c a h1 hl1;obtain ⟨F2',k3,k4⟩:=Vals.leF e b h2 hl2;exact ⟨F1'++F2',⟨us,vs,F1',F2',hu,rfl,k1,k3⟩,by rw [hF];exact k2.append k4⟩
    | _=>simp [D.le] at hl
theorem Cells.leF {I:Nat→Prop}{w:World}:∀ (ds es:List D) {ρ us F},Cells I w ds ρ us F→leL ds es→∃ F',Cells I w es ρ us F'∧F'.Sublist F:=by
  intro ds es ρ us F h hl;cases ds with
  | nil=>cases es<;>simp [leL] at hl;exact ⟨F,h,List.Sublist.refl _⟩
  | cons d ds =>
    cases es with
    | nil=>simp [leL] at hl
    | cons e es=>simp only [leL] at hl;simp only [Cells] at h ⊢;obtain ⟨u,us',F1,F2,e',hF,ho,h1,h2⟩:=h;obtain ⟨F1',k1,k2⟩:=T.leF d e h1 hl.1;obtain ⟨F2',k3,k4⟩:=Cells.leF ds es h2 hl.2;exact ⟨F1'++F2',⟨u,us',F1',F2',e',rfl,ho,k1,k3⟩,by rw [hF];exact k2.append k4⟩
theorem Vals.leF {I:Nat→Prop}{w:World}:∀ (ds es:List D) {ρ us F},Vals I w ds ρ us F→leL ds es→∃ F',Vals I w es ρ us F'∧F'.Sublist F:=by
  intro ds es ρ us F h hl;cases ds with
  | nil=>cases es<;>simp [leL] at hl;exact ⟨F,h,List.Sublist.refl _⟩
  | cons d ds =>
    cases es with
    | nil=>simp [leL] at hl
    | cons e es=>simp only [leL] at hl;simp only [Vals] at h ⊢;obtain ⟨u,us',F1,F2,e',hF,h1,h2⟩:=h;obtain ⟨F1',k1,k2⟩:=T.leF d e h1 hl.1;obtain ⟨F2',k3,k4⟩:=Vals.leF ds es h2 hl.2;exact ⟨F1'++F2',⟨u,us',F1',F2',e',rfl,k1,k3⟩,by rw [hF];exact k2.append k4⟩
end
end Go.V
namespace Go.V
open Go.RowKit
section
variable {P:Program} {w0:Base} {I0:Nat→Prop} {s:List D} {a:Act} {w:World} {I:Nat→Prop} {Fs:Nat→List Nat} {K:D→List D→Prop} {nn:Bool}
mutual
theorem T.noImm {I I':Nat→Prop}{w:World}:∀ (d:D) {ρ u F},T I w d ρ u F→d.noImm=true→T I' w d ρ u F
  | .undef,_,_,_,h,_=>by simpa only [T] using h
  | .nils,_,_,_,h,_=>by simpa only [T] using h
  | .v _,_,_,_,h,_=>by simpa only [T] using h
  | .sl own sz rows,ρ,u,F,h,hn=>by
    simp only [D.noImm,Bool.and_eq_true] at hn;obtain ⟨rfl,hn⟩:=hn;simp only [T] at h ⊢;obtain ⟨a,c,e,h1,h2,h3⟩:=h;refine ⟨a,c,e,h1,h2,?_⟩;rcases h3 with ⟨ho,_⟩ | ⟨ho,hr⟩
    · cases ho
    · refine .inr ⟨trivial,?_⟩;rcases hr with hr | ⟨b,o,cells,e,raw,F',ha,hh,hs,hr,hF',hR⟩
      · exact .inl hr
      · exact .inr ⟨b,o,cells,e,raw,F',ha,hh,hs,hr,hF',Rows.noImm sz rows hR hn⟩
  | .agg cs,ρ,u,F,h,hn=>by simp only [T] at h ⊢;obtain ⟨us,e,hc⟩:=h;exact ⟨us,e,Cells.noImm cs hc (by simpa [D.noImm] using hn)⟩
  | .tup vs,ρ,u,F,h,hn=>by simp only [T] at h ⊢;obtain ⟨us,e,hc⟩:=h;exact ⟨us,e,Vals.noImm vs hc (by simpa [D.noImm] using hn)⟩
  | .ref _ _,_,_,_,_,hn=>by simp [D.noImm] at hn
  | .ptr _ _ _ _,_,_,_,_,hn=>by simp [D.noImm] at hn
  | .sub _ _ _ _,_,_,_,_,hn=>by simp [D.noImm] at hn
  | .iptr _ _,_,_,_,_,hn=>by simp [D.noImm] at hn
  | .box tag cs,ρ,u,F,h,hn=>by simp only [T] at h ⊢;obtain ⟨b,c,e,F',hu,htg,hh,hF,hc⟩:=h;exact ⟨b,c,e,F',hu,htg,hh,hF,Cells.noImm cs hc (by simpa [D.noImm] using hn)⟩
  | .mp _ _,_,_,_,h,_=>by simpa only [T] using h
  | .imp _ _,_,_,_,_,hn=>by simp [D.noImm] at hn
  | .fn _ _ _,_,_,_,_,hn=>by simp [D.noImm] at hn
theorem Cells.noImm {I I':Nat→Prop}{w:World}:∀ (ds:List D) {ρ us F},Cells I w ds ρ us F→noImmL ds=true→Cells I' w ds ρ us F
  | [],_,_,_,h,_=>by simpa only [Cells] using h
  | d::ds,ρ,us,F,h,hn=>by simp only [noImmL,Bool.and_eq_true] at hn;simp only [Cells] at h ⊢;obtain ⟨u,us',F1,F2,e,hF',ho,h1,h2⟩:=h;exact ⟨u,us',F1,F2,e,hF',ho,T.noImm d h1 hn.1,Cells.noImm ds h2 hn.2⟩
theorem Vals.noImm {I I':Nat→Prop}{w:World}:∀ (ds:List D) {ρ us F},Vals I w ds ρ us F→noImmL ds=true→Vals I' w ds ρ us F
  | [],_,_,_,h,_=>by simpa only [Vals] using h
  | d::ds,ρ,us,F,h,hn=>by simp only [noImmL,Bool.and_eq_true] at hn;simp only [Vals] at h ⊢;obtain ⟨u,us',F1,F2,e,hF',h1,h2⟩:=h;exact ⟨u,us',F1,F2,e,hF',T.noImm d h1 hn.1,Vals.noImm ds h2 hn.2⟩
theorem Rows.noImm {I I':Nat→Prop}{w:World}(sz:Nat):∀ (rs:List (List D)) {raw F},Rows I w sz rs raw F→noImmLL rs=true→Rows I' w sz rs raw F
  | [],_,_,h,_=>by simpa only [Rows] using h
  | r::rs,raw,F,h,hn=>by simp only [noImmLL,Bool.and_eq_true] at hn;simp only [Rows] at h ⊢;obtain ⟨us,raw',F1,F2,e,hF',hl,h1,h2⟩:=h;exact ⟨us,raw',F1,F2,e,hF',hl,Cells.noImm r h1 hn.1,Rows.noImm sz rs h2 hn.2⟩
end
theorem noRefL_mem:∀ {ds:List D},noRefL ds=true→∀ d,d∈ds→d.noRef=true
  | [],_,d,h=>by cases h
  | e::ds,hn,d,h=>by
    simp only [noRefL,Bool.and_eq_true] at hn;rcases List.mem_cons.1 h with rfl | h
    · exact hn.1
    · exact noRefL_mem hn.2 d h
theorem deep_T (h:RelI w0 I0 s a.tmps w I Fs) {I':Nat→Prop} (hI:∀ b,I b→I' b):∀ (n:Nat) (d:D) {ρ:D→Value→Prop} {u:Value} {F:List Nat},(∀ x v,ρ x v→ρS s a.tmps w x v)→T I w d ρ u F→(∀ b,b∈F→I' b)→(d.noRef=true∨∀ r b,b∈Fs r→I' b)→T I' w (deep s n d) nil u []:=by
  intro n;induction n with
  | zero=>intro d ρ u F _ _ _ _;cases d<;>simp [deep,T]
  | succ n ih =>
    have hcells:∀ (ds:List D) {ρ:D→Value→Prop} {us:List Value} {F:List Nat},(∀ x v,ρ x v→ρS s a.tmps w x v)→Cells I w ds ρ us F→(∀ b,b∈F→I' b)→((∀ d,d∈ds→d.noRef=true)∨∀ r b,b∈Fs r→I' b)→Cells I' w (ds.map (deep s n)) nil us []:=by
      intro ds;induction ds with
      | nil=>intro ρ us F _ hc _ _;simp only [Cells] at hc;simp [Cells,hc.1]
      | cons d ds ihd=>intro ρ us F hρ hc hF hn;simp only [Cells] at hc;obtain ⟨u,us',F1,F2,e,hF',ho,h1,h2⟩:=hc;simp only [List.map_cons,Cells];exact ⟨u,us',[],[],e,rfl,ho,ih d hρ h1 (fun b hb=>hF b (by simp [hF',hb])) (hn.imp_left (fun hn=>hn d (by simp))),ihd hρ h2 (fun b hb=>hF b (by simp [hF',hb])) (hn.imp_left (fun hn x hx=>hn x (by simp [hx])))⟩
    have hvals:∀ (ds:List D) {ρ:D→Value→Prop} {us:List Value} {F:List Nat},(∀ x v,ρ x v→ρS s a.tmps w x v)→Vals I w ds ρ us F→(∀ b,b∈F→I' b)→((∀ d,d∈ds→d.noRef=true)∨∀ r b,b∈Fs r→I' b)→Vals I' w (ds.map (deep s n)) nil us []:=by
      intro ds;induction ds with
      | nil=>intro ρ us F _ hc _ _;simp only [Vals] at hc;simp [Vals,hc.1]
      | cons d ds ihd=>intro ρ us F hρ hc hF hn;simp only [Vals] at hc;obtain ⟨u,us',F1,F2,e,hF',h1,h2⟩:=hc;simp only [List.map_cons,Vals];exact ⟨u,us',[],[],e,rfl,ih d hρ h1 (fun b hb=>hF b (by simp [hF',hb])) (hn.imp_left (fun hn=>hn d (by simp))),ihd hρ h2 (fun b hb=>hF b (by simp [hF',hb])) (hn.imp_left (fun hn x hx=>hn x (by simp [hx])))⟩
    intro d ρ u F hρ hT hF hn;cases d with
    | undef=>simp [deep,T]
    | nils=>simp only [T] at hT;simp [deep,T,hT.1]
    | v x=>simp only [T] at hT;simp [deep,T,hT.1]
    | sl own sz rows=>have:=T.imm hI (.sl own sz rows) hT hF;simp only [D.imm] at this;simp only [deep];simpa only [T] using this
    | agg cs=>simp only [T] at hT;obtain ⟨us,e,hc⟩:=hT;simp only [deep,T];exact ⟨us,e,hcells cs hρ hc hF (hn.imp_left (fun hn=>noRefL_mem (by simpa [D.noRef] using hn)))⟩
    | tup cs=>simp [deep,T]
    | ref r q =>
      simp only [T] at hT;have hT':T I w (.ref r q) (ρS s a.tmps w) u []:=by simp only [T];exact ⟨hρ _ _ hT.1,trivial⟩
      rcases hn with hn | hn
      · simp [D.noRef] at hn
      simp only [deep];cases hs:slAt s (.ref r q) with
      | some y=>obtain ⟨sz,rows⟩:=y;obtain ⟨F',ρ',k2,k3⟩:=ref_form h hT' hs;have:=T.imm hI (.sl true sz rows) k2 (fun b hb=>hn r b (k3 b hb));simp only [D.imm] at this;simpa only [T] using this
      | none =>
        simp only;cases hm:mpAt s (.ref r q) with
        | none=>simp [T]
        | some y=>obtain ⟨k,e⟩:=y;obtain ⟨F',ρ',k2,k3⟩:=map_form h hT' hm;have:=T.imm hI (.mp k e) k2 (fun b hb=>hn r b (k3 b hb));simp only [D.imm] at this;simpa only [T] using this
    | mp k e=>have:=T.imm hI (.mp k e) hT hF;simp only [D.imm] at this;simp only [deep];simpa only [T] using this
    | imp k e=>have:=T.imm hI (.imp k e) hT hF;simp only [D.imm] at this;simp only [deep];simpa only [T] using this
    | sub r q i n =>
      simp only [T] at hT;have hT':T I w (.sub r q i n) (ρS s a.tmps w) u []:=by simp only [T];exact ⟨hT.1.imp_left (hρ _ _),trivial⟩
      rcases hn with hn | hn
      · simp [D.noRef] at hn
      simp only [deep];cases hs:slAt s (.sub r q i n) with
      | none=>simp [T]
      | some y =>
        obtain ⟨sz,rows⟩:=y;obtain ⟨ad,c,raw,F',e,h1,h2,_,h4,h5,h6⟩:=sub_form h hT' hs;simp only [T,immLL_length];refine ⟨ad,c,e,h1,h2,.inl ⟨trivial,trivial,?_⟩⟩;rcases h6 with h6 | ⟨b,o,h6,h7,h8⟩
        · exact .inl (immLL_nil.2 h6)
        · exact .inr ⟨b,o,raw,h6,hn r b h7,h8,Rows.imm hI sz rows h4 (fun x hx=>hn r x (h5 x hx))⟩
    | ptr r q i j =>
      simp only [T] at hT;rcases hn with hn | hn
      · simp [D.noRef] at hn
      obtain ⟨d',u0,t,sz,rows,u1,b,oo,m1,m2,m3,m4,m5,m6,m7⟩:=hρ _ _ hT.1;simp only [deep];cases hr:rowAt s r q i with
      | none=>simp [T]
      | some row =>
        simp only;have hi:rows[i]?=some row:=by simpa [rowAt,m1,m3,m4] using hr
        obtain ⟨u',F',ρ',k1,k2,k3,k4,_⟩:=val_T q d' (h.slot r d' u0 m1 m2) m3;rw [m5] at k1;cases k1;obtain ⟨b',o',us,F2,ρ2,hb,hrr,hc,hρ2,hF2,hbF⟩:=row_T k2 m4 hi;obtain ⟨rfl,rfl⟩:b'=b∧o'=oo:=(by rw [m6] at hb;simpa [eq_comm] using hb);simp only [T];refine ⟨trivial,b',o'+i*sz,us,m7,hn r b' (k4 b' hbF),hrr,hcells row (fun x v hx=>?_) hc (fun x hx=>hn r x (k4 x (hF2 x hx))) (.inr hn)⟩;rcases hρ2 with rfl | rfl
        · rcases k3 with rfl | rfl
          · exact hx
          · exact hx.elim
        · exact hx.elim
    | iptr cs j=>simp only [T] at hT;obtain ⟨_,b,o,raw,e,hb,hr,hc⟩:=hT;simp only [deep,T];exact ⟨trivial,b,o,raw,e,hI b hb,hr,Cells.mono hI cs hc⟩
    | box tag cs=>simp [deep,T]
    | fn f x y =>
      simp only [T] at hT;obtain ⟨us,vs,F1,F2,hu,hF',h1,h2⟩:=hT;simp only [deep,T];refine ⟨us,vs,[],[],hu,rfl,hvals x hρ h1 (fun b hb=>hF b (by simp [hF',hb])) (hn.imp_left (fun hn=>?_)),hvals y hρ h2 (fun b hb=>hF b (by simp [hF',hb])) (hn.imp_left (fun hn=>?_))⟩
      · simp only [D.noRef,Bool.and_eq_true] at hn;exact noRefL_mem hn.1
      · simp only [D.noRef,Bool.and_eq_true] at hn;exact noRefL_mem hn.2
theorem raw_T (h:RelI w0 I0 s a.tmps w I Fs)(x:Operand):∃ F,T I w (raw s x) (ρS s a.tmps w) (a.eval x) F∧((raw s x).owny=true→∃ t,∀ b,b∈F→b∈Fs t)∧((raw s x).owny=false→F=[]):=by
  cases x with
  | tmp t =>
    simp only [raw];cases hs:s[t]? with
    | none=>exact ⟨[],by simp [T],fun h=>by simp [D.owny] at h,fun _=>rfl⟩
    | some d =>
      obtain ⟨u,hu,hT⟩:=h.slot0 hs;have hg:a.eval (.tmp t)=u:=(by simp [Act.eval,hu]);rw [hg];have gen:T I w d (ρS s a.tmps w) u (Fs t)→∃ F,T I w d (ρS s a.tmps w) u F∧(d.owny=true→∃ t,∀ b,b∈F→b∈Fs t)∧(d.owny=false→F=[]):=fun hT=>⟨Fs t,hT,fun _=>⟨t,fun b hb=>hb⟩,fun ho=>T.nofoot d hT ho⟩
      cases d with
      | box tag cells=>have:=lkT_T h t;simp only [lkT,hs] at this;simp only [hu,Array.getD_eq_getD_getElem?,Option.getD_some] at this;exact ⟨[],this,fun h=>by simp [D.owny] at h,fun _=>rfl⟩
      | _=>exact gen hT
  | const v=>exact ⟨[],lk_T h (.const v),fun _=>⟨0,fun b hb=>by cases hb⟩,fun _=>rfl⟩
  | func f=>exact ⟨[],lk_T h (.func f),fun _=>⟨0,fun b hb=>by cases hb⟩,fun _=>rfl⟩
  | global g=>exact ⟨[],lk_T h (.global g),fun _=>⟨0,fun b hb=>by cases hb⟩,fun _=>rfl⟩
mutual
theorem noRef_owny:∀ d:D,d.noRef=true→d.owny=false
  | .undef,_=>rfl
  | .nils,_=>rfl
  | .v _,_=>rfl
  | .sl own _ _,h=>by simpa [D.noRef,D.owny] using h
  | .agg cs,h=>by simp only [D.noRef] at h;simp only [D.owny];exact noRefL_owny cs h
  | .tup cs,h=>by simp only [D.noRef] at h;simp only [D.owny];exact noRefL_owny cs h
  | .ref _ _,h=>by simp [D.noRef] at h
  | .ptr _ _ _ _,h=>by simp [D.noRef] at h
  | .sub _ _ _ _,h=>by simp [D.noRef] at h
  | .iptr _ _,_=>rfl
  | .box _ _,h=>by simp [D.noRef] at h
  | .mp _ _,h=>by simp [D.noRef] at h
  | .imp _ _,_=>rfl
  | .fn _ a b,h=>by simp only [D.noRef,Bool.and_eq_true] at h;simp only [D.owny,Bool.or_eq_false_iff];exact ⟨noRefL_owny a h.1,noRefL_owny b h.2⟩
theorem noRefL_owny:∀ ds:List D,noRefL ds=true→ownyL ds=false
  | [],_=>rfl
  | d::ds,h=>by simp only [noRefL,Bool.and_eq_true] at h;simp only [ownyL,Bool.or_eq_false_iff];exact ⟨noRef_owny d h.1,noRefL_owny ds h.2⟩
end
def GI (G:World→(Nat→Prop)→Prop)(w:World)(I:Nat→Prop):Prop:=∃ J,(∀ b,J b→I b)∧G w J
theorem GI.mono {G:World→(Nat→Prop)→Prop}{w:World}{I I':Nat→Prop}(h:GI G w I)(hI:∀ b,I b→I' b):GI G w I':=by obtain ⟨J,h1,h2⟩:=h;exact ⟨J,fun b hb=>hI b (h1 b hb),h2⟩
def Stab (G:World→(Nat→Prop)→Prop):Prop:=∀ w w' J,(∀ b,J b→w'.heap[b]?=w.heap[b]?)→G w J→G w' J
theorem GI.keep {G:World→(Nat→Prop)→Prop}(hS:Stab G){w w':World}{I:Nat→Prop}(h:GI G w I)(hk:∀ b,I b→w'.heap[b]?=w.heap[b]?):GI G w' I:=by obtain ⟨J,h1,h2⟩:=h;exact ⟨J,h1,hS w w' J (fun b hb=>hk b (h1 b hb)) h2⟩
def Contract (P:Program) (G:World→(Nat→Prop)→Prop) (f:FuncId) (args:List D) (d:D):Prop :=
  (∀ (us:Array Value) (W:World),(callFunc f us).run P W=.ok (.enter f us) W) ∧
  ∀ (w:World) (I:Nat→Prop) (us:List Value),GI G w I→(∀ b,I b→b<w.heap.size)→Vals I w args nil us [] →
    Calls P f us.toArray w fun e w'=>∃ v F I',e=.returned v∧Below w.heap.size w w'∧T I' w' d nil v F∧F.Nodup∧(∀ b,b∈F→w.heap.size≤b∧b<w'.heap.size∧¬ I' b)∧(∀ b,I b→I' b)∧(∀ b,I' b→(I b∨w.heap.size≤b)∧b<w'.heap.size)
def ioB (w:World)(X:List Nat):Base:=⟨w,fun b=>w.heap.size≤b∨b∈X,fun _ h=>.inl h⟩
def ContractX (P:Program) (G:World→(Nat→Prop)→Prop) (f:FuncId) (i:Nat) (args cells:List D) (d:D) (cells':List D):Prop :=
  (∀ (us:Array Value) (W:World),(callFunc f us).run P W=.ok (.enter f us) W) ∧
  ∀ (w:World) (I:Nat→Prop) (us:List Value) (b:Nat) (X:List Nat),GI G w I→(∀ b,I b→b<w.heap.size)→us[i]?=some (.pointer (some ⟨b,0,none⟩))→Vals I w (args.set i .undef) nil us []→T I w (.box (some b) cells) nil (.pointer (some ⟨b,0,none⟩)) X→X.Nodup→(∀ x,x∈X→x<w.heap.size∧¬ I x) →
    Calls P f us.toArray w fun e w'=>∃ v F X' I',e=.returned v∧(ioB w X).Below w'∧T I' w' d nil v F∧T I' w' (.box (some b) cells') nil (.pointer (some ⟨b,0,none⟩)) X'∧(F++X').Nodup∧(∀ x,x∈F++X'→(w.heap.size≤x∨x∈X)∧x<w'.heap.size∧¬ I' x)∧(∀ b,I b→I' b)∧(∀ b,I' b→(I b∨w.heap.size≤b∨b∈X)∧b<w'.heap.size)
def ContractXb (P:Program) (G:World→(Nat→Prop)→Prop) (f:FuncId) (i b:Nat) (args cells:List D) (d:D) (cells':List D):Prop :=
  (∀ (us:Array Value) (W:World),(callFunc f us).run P W=.ok (.enter f us) W) ∧
  ∀ (w:World) (I:Nat→Prop) (us:List Value) (X:List Nat),GI G w I→(∀ b,I b→b<w.heap.size)→us[i]?=some (.pointer (some ⟨b,0,none⟩))→Vals I w (args.set i .undef) nil us []→T I w (.box (some b) cells) nil (.pointer (some ⟨b,0,none⟩)) X→X.Nodup→(∀ x,x∈X→x<w.heap.size∧¬ I x) →
    Calls P f us.toArray w fun e w'=>∃ v F X' I',e=.returned v∧(ioB w X).Below w'∧T I' w' d nil v F∧T I' w' (.box (some b) cells') nil (.pointer (some ⟨b,0,none⟩)) X'∧(F++X').Nodup∧(∀ x,x∈F++X'→(w.heap.size≤x∨x∈X)∧x<w'.heap.size∧¬ I' x)∧(∀ b,I b→I' b)∧(∀ b,I' b→(I b∨w.heap.size≤b∨b∈X)∧b<w'.heap.size)
theorem ContractX.at {P:Program}{G:World→(Nat→Prop)→Prop}{f:FuncId}{i:Nat}{args cells:List D}{d:D}{cells':List D}(h:ContractX P G f i args cells d cells')(b:Nat):ContractXb P G f i b args cells d cells' :=
  ⟨h.1,fun w I us X hG hI hu hV hT hn hX=>h.2 w I us b X hG hI hu hV hT hn hX⟩
def ContractL (P:Program) (G:World→(Nat→Prop)→Prop) (f:FuncId) (i:Nat) (args:List D) (d0 res d':D):Prop :=
  (∀ (us:Array Value) (W:World),(callFunc f us).run P W=.ok (.enter f us) W) ∧
  ∀ (w:World) (I:Nat→Prop) (us:List Value) (u:Value) (X:List Nat),GI G w I→(∀ b,I b→b<w.heap.size)→us[i]?=some u→Vals I w (args.set i .undef) nil us []→T I w d0 nil u X→X.Nodup→(∀ x,x∈X→x<w.heap.size∧¬ I x) →
    Calls P f us.toArray w fun e w'=>∃ v F X' I',e=.returned v∧(ioB w X).Below w'∧T I' w' res nil v F∧T I' w' d' nil u X'∧(F++X').Nodup∧(∀ x,x∈F++X'→(w.heap.size≤x∨x∈X)∧x<w'.heap.size∧¬ I' x)∧(∀ b,I b→I' b)∧(∀ b,I' b→(I b∨w.heap.size≤b∨b∈X)∧b<w'.heap.size)
theorem ContractX.lend {P:Program}{G:World→(Nat→Prop)→Prop}{f:FuncId}{i:Nat}{args cells:List D}{d:D}{cells':List D}(h:ContractX P G f i args cells d cells'):ContractL P G f i args (.box none cells) d (.box none cells'):=by refine ⟨h.1,fun w I us u X hG hI hu hV hT hn hX=>?_⟩;have hT':=hT;simp only [T] at hT';obtain ⟨b,cs,et,F',rfl,_,hh,hF,hcs⟩:=hT';refine (h.2 w I us b X hG hI hu hV (by simp only [T];exact ⟨b,cs,et,F',rfl,(fun k hk=>by cases hk;rfl),hh,hF,hcs⟩) hn hX).mono ?_;rintro e w' ⟨v,F,X',I',he,hb,hTd,hTx,hnd,hF2,hI1,hI2⟩;refine ⟨v,F,X',I',he,hb,hTd,?_,hnd,hF2,hI1,hI2⟩;simp only [T] at hTx ⊢;obtain ⟨b2,cs2,et2,F2,k1,_,k3,k4,k5⟩:=hTx;exact ⟨b2,cs2,et2,F2,k1,(fun k hk=>by cases hk),k3,k4,k5⟩
def ContractR (P:Program)(G:World→(Nat→Prop)→Prop)(f:FuncId)(sz:Nat):Prop :=
  (∀ (us:Array Value) (W:World),(callFunc f us).run P W=.ok (.enter f us) W) ∧
  ∀ (w:World) (J:Nat→Prop) (b o n c:Nat) (raw:List Value),GI G w J→(∀ x,J x→x<w.heap.size)→0<n→n≤c→c≤maxLen→raw.length=n*sz→(∀ u,u∈raw→u.oneCell'=true)→b<w.heap.size→w.rangeAt b o raw→Calls P f #[.slice (some ⟨b,o,none⟩) n c] w fun e w'=>e=.returned (.agg (raw.drop ((n-1)*sz)).toArray)∧Below w.heap.size w w'
def KeepB (I:Nat→Prop)(W W':World):Prop:=∀ b,I b→W'.heap[b]?=W.heap[b]?
def IterS (P:Program) (f:FuncId) (lb:List Value) (encs:Nat→List Value) (N:Nat) (I:Nat→Prop) (w:World) (X:List Nat):Prop :=
  ∀ (l:Nat) (J:Nat→List (Nat×Obj)→World→Prop) (Jx:World→Prop) (W:World) (M0:List (Nat×Obj)),Below w.heap.size w W→M0.map (·.1)=X→(∀ p,p∈M0→w.heap[p.1]?=some p.2)→(∀ k M1 M2 b cs ty fz A j v,J k (M1++(b,.cells cs ty fz)::M2) A→J k (M1++(b,.cells (cs.setIfInBounds j v) ty fz)::M2) (A.setCell ⟨b,j,none⟩ v))→(∀ k M A B,J k M A→Below A.heap.size A B→J k M B)→(∀ k M A o,J k M A→J k ((A.heap.size,o)::M) (A.alloc o))→(∀ k M A p,J k M A→p∈M→A.heap[p.1]?=some p.2)→(∀ A B,Jx A→Below A.heap.size A B→Jx B) →
    (∀ k M W1,k<N→J k M W1→YieldAt Fence.wide 1 P l (encs k).toArray W1 fun e W'=>(e=.returned (.bool true)∧J (k+1) M W'∧KeepB I W1 W')∨(e=.returned (.bool false)∧Jx W'))→J 0 M0 W →
    CallsIn Fence.wide 2 P f (#[.func (.yield l) #[] #[]]++lb.toArray) W fun e W'=>(∃ v,e=.returned v)∧((∃ M,J N M W')∨Jx W')
def IterC (P:Program) (G:World→(Nat→Prop)→Prop) (f:FuncId) (caps:List D) (xs:List (List D)):Prop :=
  (∀ (us:Array Value) (W:World),(callFunc f us).run P W=.ok (.enter f us) W) ∧
  ∀ (w:World) (I:Nat→Prop) (us:List Value) (X:List Nat),GI G w I→(∀ b,I b→b<w.heap.size)→Vals I w caps nil us X→X.Nodup→(∀ b,b∈X→b<w.heap.size∧¬ I b) →
    ∃ encs:Nat→List Value,(∀ k x,xs[k]?=some x→Vals I w x nil (encs k) [])∧IterS P f us encs xs.length I w X
def ContractM (P:Program) (G:World→(Nat→Prop)→Prop) (f:FuncId) (i j:Nat) (args:List D) (d0:List D) (res:D) (d':List D):Prop :=
  (∀ (us:Array Value) (W:World),(callFunc f us).run P W=.ok (.enter f us) W) ∧
  ∀ (w:World) (I:Nat→Prop) (us:List Value) (u1 u2:Value) (X:List Nat),GI G w I→(∀ b,I b→b<w.heap.size)→us[i]?=some u1→us[j]?=some u2→Vals I w args nil us []→Vals I w d0 nil [u1,u2] X→X.Nodup→(∀ x,x∈X→x<w.heap.size∧¬ I x) →
    Calls P f us.toArray w fun e w'=>∃ v F X' I',e=.returned v∧(ioB w X).Below w'∧T I' w' res nil v F∧Vals I' w' d' nil [u1,u2] X'∧(F++X').Nodup∧(∀ x,x∈F++X'→(w.heap.size≤x∨x∈X)∧x<w'.heap.size∧¬ I' x)∧(∀ b,I b→I' b)∧(∀ b,I' b→(I b∨w.heap.size≤b∨b∈X)∧b<w'.heap.size)
def CT (P:Program)(G:World→(Nat→Prop)→Prop):CtrT:=⟨Contract P G,ContractXb P G,ContractL P G,ContractR P G,IterC P G,ContractM P G⟩
theorem call_T {G:World→(Nat→Prop)→Prop}(hG:GI G w I0)(h:RelI w0 I0 s a.tmps w I Fs){f:FuncId}{ds args':List D}{us:List Value}{d:D}(hvs:∀ I':Nat→Prop,(∀ b,I b→I' b)→(ds.all D.noRef=true∨∀ r b,b∈Fs r→I' b)→Vals I' w (ds.map (deep s 8)) nil us [])(hle:leL (ds.map (deep s 8)) args')(hC:Contract P G f args' d)(hi:d.noImm=true∨ds.all D.noRef=true)(hK:K d s) :
    Calls P f us.toArray w fun e w'=>∃ v,e=.returned v∧OutOK nn Fs I w w0 I0 a.tmps K v w':=by
  by_cases hn:ds.all D.noRef=true
  · have hv:=(Vals.le _ _ (hvs I (fun _ h=>h) (.inl hn)) hle)
    refine (hC.2 w I us (hG.mono h.imm0) h.imm hv).mono ?_;rintro e w' ⟨v,F,I',he,hb,hT,hnd,hF,hI1,hI2⟩;have h':=(h.world hb).immMore (I':=I') hI1 (fun b hb'=>by
      obtain ⟨k1,k2⟩:=hI2 b hb';rcases k1 with k1 | k1
      · exact .inl k1
      · exact .inr ⟨Base.N_of h.below k1,k2,fun r hr=>by have:=(h.own r b hr).2.1;omega⟩)
    exact ⟨v,he,d,s,I',Fs,F,hK,h',hT.res (fun _ _ h=>h.elim),⟨hnd,fun b hb'=>⟨Base.N_of h.below (hF b hb').1,(hF b hb').2.1,(hF b hb').2.2,fun r hr=>by have:=(h.own r b hr).2.1;have:=(hF b hb').1;omega⟩⟩,fun _=>⟨hI1,fun b hb'=>(hI2 b hb').1,fun b hb'=>.inl (hF b hb').1,fun b hb' _=>hb.block b hb',fun _=>.inr rfl⟩⟩
  · have hni:=hi.resolve_right hn;have hv:=(Vals.le _ _ (hvs (fun b=>I b∨∃ r,b∈Fs r) (fun _ h=>.inl h) (.inr fun r b hb=>.inr ⟨r,hb⟩)) hle)
    refine (hC.2 w _ us (hG.mono fun b hb=>.inl (h.imm0 b hb)) (fun b hb=>hb.elim (h.imm b) (fun ⟨r,hr⟩=>(h.own r b hr).2.1)) hv).mono ?_;rintro e w' ⟨v,F,I',he,hb,hT,hnd,hF,hI1,hI2⟩;exact ⟨v,he,d,s,I,Fs,F,hK,h.world hb,(T.noImm d hT hni).res (fun _ _ h=>h.elim),⟨hnd,fun b hb'=>⟨Base.N_of h.below (hF b hb').1,(hF b hb').2.1,fun hI=>by have:=h.imm b hI;have:=(hF b hb').1;omega,fun r hr=>by have:=(h.own r b hr).2.1;have:=(hF b hb').1;omega⟩⟩,fun _=>Frame.below hb (fun b hb'=>.inl (hF b hb').1) (fun _=>.inr rfl)⟩
theorem Vals_append {ρ:D→Value→Prop}:∀ {ds:List D} {us:List Value} {ds':List D} {us':List Value},Vals I w ds ρ us []→Vals I w ds' ρ us' []→Vals I w (ds++ds') ρ (us++us') []
  | [],us,ds',us',h,h'=>by simp only [Vals] at h;simpa [h.1] using h'
  | d::ds,us,ds',us',h,h'=>by simp only [Vals] at h;obtain ⟨u,us1,F1,F2,e,hF,ht,h2⟩:=h;simp at hF;obtain ⟨rfl,rfl⟩:=hF;simp only [List.cons_append,Vals];exact ⟨u,us1++us',[],[],by simp [e],rfl,ht,Vals_append h2 h'⟩
theorem args_T (h:RelI w0 I0 s a.tmps w I Fs)(I':Nat→Prop)(hI:∀ b,I b→I' b):∀ (xs:List Operand),((xs.map (raw s)).all D.noRef=true∨∀ r b,b∈Fs r→I' b)→Vals I' w ((xs.map (raw s)).map (deep s 8)) nil (xs.map a.eval) []
  | [],_=>by simp [Vals]
  | x :: xs,hn=>by
    obtain ⟨F,hT,h1,h2⟩:=raw_T h x;simp only [List.map_cons,Vals];refine ⟨_,_,[],[],rfl,rfl,deep_T h hI 8 (raw s x) (fun _ _ h=>h) hT (fun b hb=>?_) (hn.imp_left (fun hn=>by simp only [List.map_cons,List.all_cons,Bool.and_eq_true] at hn;exact hn.1)),args_T h I' hI xs (hn.imp_left (fun hn=>by simp only [List.map_cons,List.all_cons,Bool.and_eq_true] at hn;exact hn.2))⟩;by_cases ho:(raw s x).owny=true
    · rcases hn with hn | hn
      · simp only [List.map_cons,List.all_cons,Bool.and_eq_true] at hn;rw [noRef_owny _ hn.1] at ho;cases ho
      · obtain ⟨t,ht⟩:=h1 ho;exact hn t b (ht b hb)
    · rw [h2 (by simpa using ho)] at hb;cases hb
theorem cells_one' {ρ:D→Value→Prop}:∀ {ds:List D} {us:List Value} {F:List Nat},Cells I w ds ρ us F→∀ u,u∈us→u.oneCell'=true
  | [],us,F,h,u,hu=>by simp only [Cells] at h;rw [h.1] at hu;cases hu
  | d::ds,us,F,h,u,hu=>by
    simp only [Cells] at h;obtain ⟨v,us',F1,F2,e,_,ho,_,h2⟩:=h;rw [e] at hu;rcases List.mem_cons.1 hu with rfl | hu
    · exact ho
    · exact cells_one' h2 u hu
theorem rows_cells {sz:Nat}:∀ {rows:List (List D)} {raw:List Value} {F:List Nat},Rows I w sz rows raw F→raw.length=rows.length*sz∧∀ u,u∈raw→u.oneCell'=true
  | [],raw,F,h=>by simp only [Rows] at h;simp [h.1]
  | r::rs,raw,F,h=>by
    simp only [Rows] at h;obtain ⟨us,raw',F1,F2,e,_,hl,h1,h2⟩:=h;obtain ⟨k1,k2⟩:=rows_cells h2;refine ⟨by rw [e,List.length_append,hl,k1,List.length_cons,Nat.add_mul,Nat.one_mul,Nat.add_comm],fun u hu=>?_⟩;rw [e] at hu;rcases List.mem_append.1 hu with hu | hu
    · exact cells_one' h1 u hu
    · exact k2 u hu
theorem sim_callP {G:World→(Nat→Prop)→Prop}(hG:GI G w I0)(h:RelI w0 I0 s a.tmps w I Fs){f:FuncId}{xs:Array Operand}{ts:Array TypeId}{o:Oper}(ho:o.op=.call { callee:=.value (.func f),args:=xs,argTypes:=ts })(hk:∃ args' d,leL (xs.toList.map fun x=>deep s 8 (raw s x)) args'∧(CT P G).c f args' d∧(d.noImm=true∨((xs.toList.map fun x=>raw s x).all D.noRef)=true)∧K d s):RunsTo P (execOp a.eval o) w (OutOK nn Fs I w w0 I0 a.tmps K):=by obtain ⟨args',d,hle,hC,hi,hK⟩:=hk;have hm:Array.map a.eval xs=(List.map a.eval xs.toList).toArray:=(by apply Array.ext';simp);have hrun:(execOp a.eval o).run P w=.ok (.enter f (List.map a.eval xs.toList).toArray) w:=(by simp only [execOp,ho,resolve,Sem.run_bind];rw [show a.eval (.func f)=.func (.func f) #[] #[] from rfl,hm];simp [Deferred.ofValue,invoke,hC.1]);unfold RunsTo;rw [hrun];exact call_T hG h (fun I' hI hn=>args_T h I' hI xs.toList hn) (by simpa [List.map_map,Function.comp_def] using hle) hC hi hK
theorem call_TI {G:World→(Nat→Prop)→Prop}(hG:GI G w I0)(h:RelI w0 I0 s a.tmps w I Fs){f:FuncId}{ds args':List D}{us:List Value}{d:D}(hvs:∀ I':Nat→Prop,(∀ b,I b→I' b)→(ds.all D.noRef=true∨∀ r b,b∈Fs r→I' b)→Vals I' w (ds.map (deep s 8)) nil us [])(hle:leL (ds.map (deep s 8)) args')(hC:Contract P G f args' d)(hni:d.noImm=true)(hK:K d.imm s) :
    Calls P f us.toArray w fun e w'=>∃ v,e=.returned v∧OutOK nn Fs I w w0 I0 a.tmps K v w':=by
  have hv:=(Vals.le _ _ (hvs (fun b=>I b∨∃ r,b∈Fs r) (fun _ h=>.inl h) (.inr fun r b hb=>.inr ⟨r,hb⟩)) hle)
  refine (hC.2 w _ us (hG.mono fun b hb=>.inl (h.imm0 b hb)) (fun b hb=>hb.elim (h.imm b) (fun ⟨r,hr⟩=>(h.own r b hr).2.1)) hv).mono ?_;rintro e w' ⟨v,F,I',he,hb,hT,hnd,hF,hI1,hI2⟩;have h':=(h.world hb).immMore (I':=fun b=>I b∨b∈F) (fun _ h=>.inl h) (fun b hb'=>hb'.imp id (fun hb'=>⟨Base.N_of h.below (hF b hb').1,(hF b hb').2.1,fun r hr=>by have:=(h.own r b hr).2.1;have:=(hF b hb').1;omega⟩));exact ⟨v,he,d.imm,s,fun b=>I b∨b∈F,Fs,[],hK,h',(T.imm (I:=I) (fun _ h=>.inl h) d (T.noImm d hT hni) (fun b hb=>.inr hb)).res (fun _ _ h=>h.elim),Fresh.nil,fun _=>⟨fun _ h=>.inl h,fun b hb'=>hb'.imp id (fun hb'=>(hF b hb').1),fun b hb=>(by cases hb),fun b hb' _=>hb.block b hb',fun _=>.inr rfl⟩⟩
theorem sim_callI {G:World→(Nat→Prop)→Prop}(hG:GI G w I0)(h:RelI w0 I0 s a.tmps w I Fs){f:FuncId}{xs:Array Operand}{ts:Array TypeId}{o:Oper}(ho:o.op=.call { callee:=.value (.func f),args:=xs,argTypes:=ts })(hk:immK (CT P G) f s xs.toList K):RunsTo P (execOp a.eval o) w (OutOK nn Fs I w w0 I0 a.tmps K):=by obtain ⟨args',d,hle,hC,hi,hK⟩:=hk;have hm:Array.map a.eval xs=(List.map a.eval xs.toList).toArray:=(by apply Array.ext';simp);have hrun:(execOp a.eval o).run P w=.ok (.enter f (List.map a.eval xs.toList).toArray) w:=(by simp only [execOp,ho,resolve,Sem.run_bind];rw [show a.eval (.func f)=.func (.func f) #[] #[] from rfl,hm];simp [Deferred.ofValue,invoke,hC.1]);unfold RunsTo;rw [hrun];exact call_TI hG h (fun I' hI hn=>args_T h I' hI xs.toList hn) (by simpa [List.map_map,Function.comp_def] using hle) hC hi hK
theorem sim_call {G:World→(Nat→Prop)→Prop} (hG:GI G w I0) (h:RelI w0 I0 s a.tmps w I Fs) {f:FuncId} {xs:Array Operand} {ts:Array TypeId} {o:Oper} (ho:o.op=.call { callee:=.value (.func f),args:=xs,argTypes:=ts }) (hk:evalK (CT P G) s (.call f xs.toList) K):RunsTo P (execOp a.eval o) w (OutOK nn Fs I w w0 I0 a.tmps K):=by
  rcases hk with hk | ⟨x,sz,r,q,rows,row,hxs,hC,hlk,hsl,hrow,hrl,hK⟩ | hk
  · exact sim_callP hG h ho hk
  rotate_left
  · exact sim_callI hG h ho hk
  have hm:Array.map a.eval xs=#[a.eval x]:=(by apply Array.ext';simp [hxs]);have hrun:(execOp a.eval o).run P w=.ok (.enter f #[a.eval x]) w:=(by simp only [execOp,ho,resolve,Sem.run_bind];rw [show a.eval (.func f)=.func (.func f) #[] #[] from rfl,hm];simp [Deferred.ofValue,invoke,hC.1]);unfold RunsTo;rw [hrun];have hX:=lk_T h x;rw [hlk] at hX;simp only [T,ρS] at hX;obtain ⟨⟨d',u0,t,m1,m2,m3,m4,m5⟩,_⟩:=hX;simp only [slAt,m1,m3] at hsl;cases t with
  | sl own sz' rows' =>
    cases own with
    | false=>simp at hsl
    | true =>
    simp only [Option.some.injEq,Prod.mk.injEq] at hsl;obtain ⟨rfl,rfl⟩:=hsl;obtain ⟨u',F',ρ',k1,k2,k3,k4,k5⟩:=val_T q d' (h.slot r d' u0 m1 m2) m3;rw [m5] at k1;cases k1;obtain ⟨b,oo,us,F2,ρ2,hb,hr,hc,hρ2,_⟩:=row_T k2 (show (D.sl true sz' rows').cont=some (sz',rows') from rfl) hrow;have hlt:=(List.getElem?_eq_some_iff.1 hrow).1;have hform:∃ c raw,a.eval x=.slice (some ⟨b,oo,none⟩) rows'.length c∧rows'.length≤c∧c≤maxLen∧raw.length=rows'.length*sz'∧(∀ u,u∈raw→u.oneCell'=true)∧b<w.heap.size∧w.rangeAt b oo raw:=by
      simp only [T] at k2;obtain ⟨p,c,e,h1,h2,h3⟩:=k2;rcases h3 with ⟨ho,_⟩ | ⟨_,⟨_,hc0,_⟩ | ⟨b',o',cells,e',raw,F3,ha,hh,_,hra,_,hRw⟩⟩
      · cases ho
      · omega
      · rw [e,ha] at hb;simp only [baseOf,Option.some.injEq,Prod.mk.injEq] at hb;obtain ⟨rfl,rfl⟩:=hb;obtain ⟨n1,n2⟩:=rows_cells hRw;exact ⟨c,raw,by rw [e,ha],h1,h2,n1,n2,(Array.getElem?_eq_some_iff.1 hh).1,hra⟩
    obtain ⟨c,raw,hu,hc1,hc2,hl1,hone,hbl,hra⟩:=hform;have hus:raw.drop ((rows'.length-1)*sz')=us:=by
      have hn:rows'.length*sz'=(rows'.length-1)*sz'+sz':=by
        conv=>lhs;rw [show rows'.length=(rows'.length-1)+1 by omega]
        rw [Nat.add_mul,Nat.one_mul]
      have hl2:(raw.drop ((rows'.length-1)*sz')).length=us.length:=(by rw [List.length_drop,hl1,hc.len,hrl];omega);apply List.ext_getElem hl2;intro j h1 h2;have e1:=hr j _ (List.getElem?_eq_getElem h2);rw [List.getElem_drop];have h3:(rows'.length-1)*sz'+j<raw.length:=(by rw [List.length_drop] at h1;omega);have e2:=hra _ _ (List.getElem?_eq_getElem h3);rw [show oo+((rows'.length-1)*sz'+j)=oo+(rows'.length-1)*sz'+j by omega,e1] at e2;exact (Option.some.inj e2).symm
    have hres:∀ y v,ρ2 y v→ρS s a.tmps w y v:=by
      rcases hρ2 with rfl | rfl
      · rcases k3 with rfl | rfl
        · exact fun _ _ h=>h
        · exact fun _ _ h=>h.elim
      · exact fun _ _ h=>h.elim
    have hcp:Cells I w (cpyL r q (rows'.length-1) 0 row) (ρS s a.tmps w) us []:=by
      refine cpy_T hres row us 0 F2 hc (fun k t' v ho' hk' hv'=>?_) (fun k tg cs v b2 hk' hv' he=>?_)
      · rw [Nat.zero_add];exact ⟨d',u0,t',m1,m2,tree_snoc m3 rfl hrow hk',ho',val_snoc q d' u0 (rows'.length-1) k m3 rfl hrow hk' m5 hb (hr _ v hv')⟩
      · rw [Nat.zero_add];exact ⟨d',u0,.box tg cs,cs.length,[cs],v,b2,0,m1,m2,tree_snoc m3 rfl hrow hk',rfl,val_snoc q d' u0 (rows'.length-1) k m3 rfl hrow hk' m5 hb (hr _ v hv'),by rw [he];rfl,by rw [he];simp⟩
    rw [hu];refine (hC.2 w I b oo rows'.length c raw (hG.mono h.imm0) h.imm (by omega) hc1 hc2 hl1 hone hbl hra).mono ?_;rintro e w' ⟨rfl,hbel⟩;rw [hus];have hR:=h.world hbel;have hT:T I w (.agg (cpyL r q (rows'.length-1) 0 row)) (ρS s a.tmps w) (.agg us.toArray) []:=by simp only [T];exact ⟨us,rfl,hcp⟩
    refine ⟨_,rfl,_,s,I,Fs,[],hK,hR,?_,Fresh.nil,fun _=>Frame.below hbel (fun _ h=>by cases h) (fun _=>.inr rfl)⟩;exact (T.keep _ hT (fun b hb'=>hbel.block b (hb'.elim (h.imm b) (fun hx=>by cases hx)))).res (fun y v hy=>ρS_world h hbel hy)
  | _=>simp at hsl
theorem sim_callv {G:World→(Nat→Prop)→Prop}(hG:GI G w I0)(h:RelI w0 I0 s a.tmps w I Fs){x:Operand}{xs:Array Operand}{ts:Array TypeId}{o:Oper}(ho:o.op=.call { callee:=.value x,args:=xs,argTypes:=ts })(hk:evalK (CT P G) s (.callv x xs.toList) K):RunsTo P (execOp a.eval o) w (OutOK nn Fs I w w0 I0 a.tmps K):=by
  have hX:=lk_T h x;simp only [evalK] at hk;split at hk
  · rename_i f first caps e
    rw [e] at hX;obtain ⟨args',d,hle,hC,hi,hK⟩:=hk;simp only [T] at hX;obtain ⟨us,vs,F1,F2,hu,hF,h1,h2⟩:=hX;simp at hF;obtain ⟨rfl,rfl⟩:=hF;have hrun:(execOp a.eval o).run P w=.ok (.enter f (us++xs.toList.map a.eval++vs).toArray) w:=by have hm:Array.map a.eval xs=(List.map a.eval xs.toList).toArray:=(by apply Array.ext';simp);simp only [execOp,ho,resolve,Sem.run_bind,hu,hm];simp [Deferred.ofValue,invoke,hC.1]
    unfold RunsTo;rw [hrun];have hsub:∀ (I':Nat→Prop),(∀ b,I b→I' b)→∀ (ds:List D) (us:List Value),Vals I w ds (ρS s a.tmps w) us []→(ds.all D.noRef=true∨∀ r b,b∈Fs r→I' b)→Vals I' w (ds.map (deep s 8)) nil us []:=by
      intro I' hI ds;induction ds with
      | nil=>intro us hv _;simp only [Vals] at hv;simp [Vals,hv.1]
      | cons d ds ih=>intro us hv hn;simp only [Vals] at hv;obtain ⟨u,us1,G1,G2,e,hF,ht,h2⟩:=hv;simp at hF;obtain ⟨rfl,rfl⟩:=hF;simp only [List.map_cons,Vals];exact ⟨u,us1,[],[],e,rfl,deep_T h hI 8 d (fun _ _ h=>h) ht (fun b hb=>by cases hb) (hn.imp_left (fun hn=>by simp only [List.all_cons,Bool.and_eq_true] at hn;exact hn.1)),ih us1 h2 (hn.imp_left (fun hn=>by simp only [List.all_cons,Bool.and_eq_true] at hn;exact hn.2))⟩
    refine call_T hG h (ds:=first++xs.toList.map (raw s)++caps) (fun I' hI hn=>?_) (by simpa [List.map_map,Function.comp_def] using hle) hC (by simpa [List.map_map,Function.comp_def] using hi) hK;rw [List.map_append,List.map_append];have hn1:(first.all D.noRef=true∨∀ r b,b∈Fs r→I' b):=hn.imp_left (fun hn=>by simp only [List.all_append,Bool.and_eq_true] at hn;exact hn.1.1);have hn2:((xs.toList.map (raw s)).all D.noRef=true∨∀ r b,b∈Fs r→I' b):=hn.imp_left (fun hn=>by simp only [List.all_append,Bool.and_eq_true] at hn;exact hn.1.2);have hn3:(caps.all D.noRef=true∨∀ r b,b∈Fs r→I' b):=hn.imp_left (fun hn=>by simp only [List.all_append,Bool.and_eq_true] at hn;exact hn.2);exact Vals_append (Vals_append (hsub I' hI first us h1 hn1) (args_T h I' hI xs.toList hn2)) (hsub I' hI caps vs h2 hn3)
  · exact hk.elim
end
end Go.V
namespace Go.V
open Go.RowKit
mutual
theorem nle_rfl:∀ d:D,nle d d
  | .undef=>by simp [nle]
  | .nils=>by simp [nle]
  | .v _=>by simp [nle]
  | .sl o sz rows=>by simp only [nle];exact ⟨rows,rfl,nleLL_rfl rows⟩
  | .agg cs=>by simp only [nle];exact ⟨cs,rfl,nleL_rfl cs⟩
  | .tup cs=>by simp [nle]
  | .ref _ _=>by simp [nle]
  | .ptr _ _ _ _=>by simp [nle]
  | .sub _ _ _ _=>by simp [nle]
  | .iptr cs _=>by simp [nle]
  | .box _ cs=>by simp only [nle];exact ⟨cs,rfl,nleL_rfl cs⟩
  | .mp _ _=>by simp [nle]
  | .imp _ _=>by simp [nle]
  | .fn _ a b=>by simp only [nle];exact ⟨a,rfl,nleL_rfl a⟩
theorem nleL_rfl:∀ ds:List D,nleL ds ds
  | []=>by simp [nleL]
  | d::ds=>by simp only [nleL];exact ⟨d,ds,rfl,nle_rfl d,nleL_rfl ds⟩
theorem nleLL_rfl:∀ ds:List (List D),nleLL ds ds
  | []=>by simp [nleLL]
  | d::ds=>by simp only [nleLL];exact ⟨d,ds,rfl,nleL_rfl d,nleLL_rfl ds⟩
end
theorem nleL_nil:nleL [] []:=by simp [nleL]
theorem nleL_cons {d e:D}{ds es:List D}(h1:nle d e)(h2:nleL ds es):nleL (d::ds) (e::es):=by simp only [nleL];exact ⟨e,es,rfl,h1,h2⟩
theorem nle_of_eq {d e:D}(h:d=e):nle d e:=h▸nle_rfl d
theorem nle_nil {o:Bool}{sz:Nat}:nle .nils (.sl o sz []):=by simp [nle]
theorem nle_box {tag:Option Nat}{cs es:List D}(h:nleL cs es):nle (.box tag cs) (.box tag es):=by simp only [nle];exact ⟨es,rfl,h⟩
theorem nle_agg {cs es:List D}(h:nleL cs es):nle (.agg cs) (.agg es):=by simp only [nle];exact ⟨es,rfl,h⟩
theorem nle_sl {o:Bool}{sz:Nat}{rows rows':List (List D)}(h:nleLL rows rows'):nle (.sl o sz rows) (.sl o sz rows'):=by simp only [nle];exact ⟨rows',rfl,h⟩
theorem nleLL_nil:nleLL [] []:=by simp [nleLL]
theorem nleLL_cons {d e:List D}{ds es:List (List D)}(h1:nleL d e)(h2:nleLL ds es):nleLL (d::ds) (e::es):=by simp only [nleLL];exact ⟨e,es,rfl,h1,h2⟩
theorem nleL_len:∀ {ds es:List D},nleL ds es→es.length=ds.length
  | [],es,h=>by simp only [nleL] at h;rw [h]
  | d::ds,es,h=>by simp only [nleL] at h;obtain ⟨c,cs,rfl,_,h⟩:=h;simp [nleL_len h]
theorem nleLL_len:∀ {ds es:List (List D)},nleLL ds es→es.length=ds.length
  | [],es,h=>by simp only [nleLL] at h;rw [h]
  | d::ds,es,h=>by simp only [nleLL] at h;obtain ⟨c,cs,rfl,_,h⟩:=h;simp [nleLL_len h]
theorem nleL_get:∀ {ds es:List D} {i:Nat} {d:D},nleL ds es→ds[i]?=some d→∃ e,es[i]?=some e∧nle d e
  | [],es,i,d,h,hd=>by simp at hd
  | c::cs,es,i,d,h,hd=>by
    simp only [nleL] at h;obtain ⟨e,es',rfl,h1,h2⟩:=h;cases i with
    | zero=>simp at hd;subst hd;exact ⟨e,by simp,h1⟩
    | succ i=>simp at hd;obtain ⟨e',h3,h4⟩:=nleL_get h2 hd;exact ⟨e',by simpa using h3,h4⟩
theorem nleLL_get:∀ {ds es:List (List D)} {i:Nat} {d:List D},nleLL ds es→ds[i]?=some d→∃ e,es[i]?=some e∧nleL d e
  | [],es,i,d,h,hd=>by simp at hd
  | c::cs,es,i,d,h,hd=>by
    simp only [nleLL] at h;obtain ⟨e,es',rfl,h1,h2⟩:=h;cases i with
    | zero=>simp at hd;subst hd;exact ⟨e,by simp,h1⟩
    | succ i=>simp at hd;obtain ⟨e',h3,h4⟩:=nleLL_get h2 hd;exact ⟨e',by simpa using h3,h4⟩
theorem nleL_none {ds es:List D}{i:Nat}(h:nleL ds es)(hd:ds[i]?=none):es[i]?=none:=by rw [List.getElem?_eq_none_iff] at hd ⊢;rw [nleL_len h];exact hd
theorem nle_cont {d e:D}{sz:Nat}{rows:List (List D)}(h:nle d e)(hc:d.cont=some (sz,rows)):∃ rows',e.cont=some (sz,rows')∧nleLL rows rows':=by
  cases d with
  | sl o z r =>
    simp only [nle] at h;obtain ⟨r',rfl,hr⟩:=h;cases o with
    | false=>simp [D.cont] at hc
    | true=>simp only [D.cont,Option.some.injEq,Prod.mk.injEq] at hc ⊢;obtain ⟨rfl,rfl⟩:=hc;exact ⟨r',⟨rfl,rfl⟩,hr⟩
  | box tag cs=>simp only [nle] at h;obtain ⟨es,rfl,hr⟩:=h;simp only [D.cont,Option.some.injEq,Prod.mk.injEq] at hc ⊢;obtain ⟨rfl,rfl⟩:=hc;refine ⟨[es],⟨nleL_len hr,rfl⟩,?_⟩;simp only [nleLL];exact ⟨es,[],rfl,hr,rfl⟩
  | mp k ents=>simp only [nle] at h;subst h;exact ⟨rows,hc,nleLL_rfl rows⟩
  | _=>simp [D.cont] at hc
theorem nle_tree:∀ (q:Path) {d e t:D},nle d e→treeAt d q=some t→∃ t',treeAt e q=some t'∧nle t t'
  | [],d,e,t,h,ht=>by simp only [treeAt,Option.some.injEq] at ht ⊢;subst ht;exact ⟨e,rfl,h⟩
  | (i, j)::q,d,e,t,h,ht=>by
    simp only [treeAt] at ht;split at ht
    · rename_i sz rows hc;split at ht
      · rename_i row hr;split at ht
        · rename_i c hj;obtain ⟨rows',h1,h2⟩:=nle_cont h hc;obtain ⟨row',h3,h4⟩:=nleLL_get h2 hr;obtain ⟨c',h5,h6⟩:=nleL_get h4 hj;obtain ⟨t',h7,h8⟩:=nle_tree q h6 ht;exact ⟨t',by simp only [treeAt,h1,h3,h5];exact h7,h8⟩
        · cases ht
      · cases ht
    · cases ht
theorem nle_val {w:World}:∀ (q:Path) {d e:D} {u u1:Value},nle d e→valAt w u d q=some u1→valAt w u e q=some u1
  | [],d,e,u,u1,h,hv=>by simpa only [valAt] using hv
  | (i, j)::q,d,e,u,u1,h,hv=>by
    simp only [valAt] at hv;split at hv
    · rename_i sz rows b o hc hb;split at hv
      · rename_i row hr;split at hv
        · rename_i c u' hj hw;obtain ⟨rows',h1,h2⟩:=nle_cont h hc;obtain ⟨row',h3,h4⟩:=nleLL_get h2 hr;obtain ⟨c',h5,h6⟩:=nleL_get h4 hj;simp only [valAt,h1,hb,h3,h5,hw];exact nle_val q h6 hv
        · cases hv
      · cases hv
    · cases hv
theorem ρS.nle {s s':List D}{tm:Array Value}{w:World}(h:nleL s s'){x:D}{v:Value}(hx:ρS s tm w x v):ρS s' tm w x v:=by
  cases x with
  | ref r q =>
    obtain ⟨d,u0,t,h1,h2,h3,ho,h4⟩:=hx;obtain ⟨e,k1,k2⟩:=nleL_get h h1;obtain ⟨t',k3,k4⟩:=nle_tree q k2 h3;refine ⟨e,u0,t',k1,h2,k3,?_,nle_val q k2 h4⟩;cases t with
    | sl own sz rows=>cases own with
      | false=>cases ho
      | true=>simp only [Go.V.nle] at k4;obtain ⟨rows',rfl,_⟩:=k4;rfl
    | mp k ents=>simp only [Go.V.nle] at k4;subst k4;rfl
    | _=>cases ho
  | ptr r q i j=>obtain ⟨d,u0,t,sz,rows,u1,b,o,h1,h2,h3,h4,h5,h6,h7⟩:=hx;obtain ⟨e,k1,k2⟩:=nleL_get h h1;obtain ⟨t',k3,k4⟩:=nle_tree q k2 h3;obtain ⟨rows',k5,_⟩:=nle_cont k4 h4;exact ⟨e,u0,t',sz,rows',u1,b,o,k1,h2,k3,k5,nle_val q k2 h5,h6,h7⟩
  | sub r q i n=>obtain ⟨d,u0,t,sz,rows,u1,b,o,cc,h1,h2,h3,h4,h5,h6,h7⟩:=hx;obtain ⟨e,k1,k2⟩:=nleL_get h h1;obtain ⟨t',k3,k4⟩:=nle_tree q k2 h3;obtain ⟨rows',k5,_⟩:=nle_cont k4 h4;exact ⟨e,u0,t',sz,rows',u1,b,o,cc,k1,h2,k3,k5,nle_val q k2 h5,h6,h7⟩
  | _=>exact hx.elim
mutual
theorem T.nle {I:Nat→Prop}{w:World}{ρ:D→Value→Prop}:∀ (d e:D) {u F},T I w d ρ u F→Go.V.nle d e→T I w e ρ u F
  | .undef,e,u,F,h,hn=>by simp only [Go.V.nle] at hn;rw [hn];exact h
  | .nils,e,u,F,h,hn=>by
    simp only [Go.V.nle] at hn;rcases hn with rfl | ⟨o,sz,rfl⟩
    · exact h
    · simp only [T] at h ⊢;refine ⟨none,0,by simpa using h.1,by simp,by unfold maxLen;omega,?_⟩;cases o
      · exact .inl (by simp [h.2])
      · exact .inr (by simp [h.2])
  | .v _,e,u,F,h,hn=>by simp only [Go.V.nle] at hn;rw [hn];exact h
  | .sl o sz rows,e,u,F,h,hn=>by
    simp only [Go.V.nle] at hn;obtain ⟨rows',rfl,hr⟩:=hn;simp only [T,nleLL_len hr] at h ⊢;obtain ⟨a,c,e,h1,h2,h3⟩:=h;refine ⟨a,c,e,h1,h2,?_⟩;rcases h3 with ⟨ho,hF,hr'⟩ | ⟨ho,hr'⟩
    · refine .inl ⟨ho,hF,?_⟩;rcases hr' with rfl | ⟨b,o,raw,ha,hI,hra,hR⟩
      · simp only [nleLL] at hr;exact .inl hr
      · exact .inr ⟨b,o,raw,ha,hI,hra,Rows.nle sz rows rows' hR hr⟩
    · refine .inr ⟨ho,?_⟩;rcases hr' with hr' | ⟨b,o,cells,e,raw,F',ha,hh,hs,hra,hF,hR⟩
      · exact .inl hr'
      · exact .inr ⟨b,o,cells,e,raw,F',ha,hh,hs,hra,hF,Rows.nle sz rows rows' hR hr⟩
  | .agg cs,e,u,F,h,hn=>by simp only [Go.V.nle] at hn;obtain ⟨es,rfl,hr⟩:=hn;simp only [T] at h ⊢;obtain ⟨us,e,hc⟩:=h;exact ⟨us,e,Cells.nle cs es hc hr⟩
  | .tup _,e,u,F,h,hn=>by simp only [Go.V.nle] at hn;rw [hn];exact h
  | .ref _ _,e,u,F,h,hn=>by simp only [Go.V.nle] at hn;rw [hn];exact h
  | .ptr _ _ _ _,e,u,F,h,hn=>by simp only [Go.V.nle] at hn;rw [hn];exact h
  | .sub _ _ _ _,e,u,F,h,hn=>by simp only [Go.V.nle] at hn;rw [hn];exact h
  | .iptr _ _,e,u,F,h,hn=>by simp only [Go.V.nle] at hn;rw [hn];exact h
  | .box _ cs,e,u,F,h,hn=>by simp only [Go.V.nle] at hn;obtain ⟨es,rfl,hr⟩:=hn;simp only [T] at h ⊢;obtain ⟨b,us,e,F',hu,htg,hh,hF,hc⟩:=h;exact ⟨b,us,e,F',hu,htg,hh,hF,Cells.nle cs es hc hr⟩
  | .mp _ _,e,u,F,h,hn=>by simp only [Go.V.nle] at hn;rw [hn];exact h
  | .imp _ _,e,u,F,h,hn=>by simp only [Go.V.nle] at hn;rw [hn];exact h
  | .fn f cs b,e,u,F,h,hn=>by simp only [Go.V.nle] at hn;obtain ⟨es,rfl,hr⟩:=hn;simp only [T] at h ⊢;obtain ⟨us,vs,F1,F2,hu,hF,h1,h2⟩:=h;exact ⟨us,vs,F1,F2,hu,hF,Vals.nle cs es h1 hr,h2⟩
theorem Vals.nle {I:Nat→Prop}{w:World}{ρ:D→Value→Prop}:∀ (ds es:List D) {us F},Vals I w ds ρ us F→nleL ds es→Vals I w es ρ us F
  | [],es,us,F,h,hn=>by simp only [nleL] at hn;rw [hn];exact h
  | d::ds,es,us,F,h,hn=>by simp only [nleL] at hn;obtain ⟨c,cs,rfl,h1,h2⟩:=hn;simp only [Vals] at h ⊢;obtain ⟨u,us',F1,F2,e,hF,k1,k2⟩:=h;exact ⟨u,us',F1,F2,e,hF,T.nle d c k1 h1,Vals.nle ds cs k2 h2⟩
theorem Cells.nle {I:Nat→Prop}{w:World}{ρ:D→Value→Prop}:∀ (ds es:List D) {us F},Cells I w ds ρ us F→nleL ds es→Cells I w es ρ us F
  | [],es,us,F,h,hn=>by simp only [nleL] at hn;rw [hn];exact h
  | d::ds,es,us,F,h,hn=>by simp only [nleL] at hn;obtain ⟨c,cs,rfl,h1,h2⟩:=hn;simp only [Cells] at h ⊢;obtain ⟨u,us',F1,F2,e,hF,ho,k1,k2⟩:=h;exact ⟨u,us',F1,F2,e,hF,ho,T.nle d c k1 h1,Cells.nle ds cs k2 h2⟩
theorem Rows.nle {I:Nat→Prop}{w:World}(sz:Nat):∀ (rs es:List (List D)) {raw F},Rows I w sz rs raw F→nleLL rs es→Rows I w sz es raw F
  | [],es,raw,F,h,hn=>by simp only [nleLL] at hn;rw [hn];exact h
  | r::rs,es,raw,F,h,hn=>by simp only [nleLL] at hn;obtain ⟨c,cs,rfl,h1,h2⟩:=hn;simp only [Rows] at h ⊢;obtain ⟨us,raw',F1,F2,e,hF,hl,k1,k2⟩:=h;exact ⟨us,raw',F1,F2,e,hF,hl,Cells.nle r c k1 h1,Rows.nle sz rs cs k2 h2⟩
end
theorem RelI.nle {w0:Base}{I0:Nat→Prop}{s s':List D}{tm:Array Value}{w:World}{I:Nat→Prop}{Fs:Nat→List Nat}(h:RelI w0 I0 s tm w I Fs)(hn:nleL s s'):RelI w0 I0 s' tm w I Fs where
  below:=h.below
  len:=by rw [h.len,nleL_len hn]
  slot:=by
    intro r d u h1 h2;cases hs:s[r]? with
    | none=>rw [nleL_none hn hs] at h1;cases h1
    | some d0=>obtain ⟨e,k1,k2⟩:=nleL_get hn hs;rw [k1] at h1;cases h1;exact T.nle d0 d ((h.slot r d0 u hs h2).res (fun _ _ hx=>hx.nle hn)) k2
  nd:=h.nd
  disj:=h.disj
  own:=h.own
  imm:=h.imm
  imm0:=h.imm0
  immN:=h.immN
end Go.V
namespace Go.V
open Go.RowKit
def scalarT (P:Program)(t:TypeId):Bool:=match P.underlying t with
  | some .bool=>true
  | some (.int _)=>true
  | some .string=>true
  | _=>false
def kindT (P:Program)(t:TypeId):Option Nat:=match P.underlying t with
  | some .bool=>some 0
  | some (.int _)=>some 1
  | some .string=>some 2
  | _=>none
def flatEq (P:Program):List Field→Nat→Option (List Nat)
  | [],_=>some []
  | f :: fs, n => if f.name ≠ "_" ∧ f.offset = n then match kindT P f.type, flatEq P fs (n + 1) with
    | some k,some ks=>some (k::ks)
    | _,_=>none
    else none
section
variable {P:Program} {w0:Base} {I0:Nat→Prop} {s:List D} {a:Act} {w:World} {I:Nat→Prop} {Fs:Nat→List Nat} {K:D→List D→Prop} {Ctr:CtrT} {nn:Bool}
theorem part_scalar {t:TypeId}(ht:scalarT P t=true){cs:Array Value}{off:Nat}{v:Value}(hv:cs[off]?=some v):(part t cs off).run P w=.ok v w:=by
  have key:∀ d:TypeDesc,P.underlying t=some d→d.isRow=false→(part t cs off).run P w=.ok v w:=by
    intro d hu hd;have hag:(isAgg t).run P w=.ok false w:=by unfold isAgg;rw [Sem.run_bind,run_underlying hu,Result.andThen_ok];cases d<;>first | rfl | (simp [TypeDesc.isRow] at hd)
    unfold part;rw [Sem.run_bind,hag,Result.andThen_ok];simp [hv]
  unfold scalarT at ht;split at ht
  · rename_i hu;exact key _ hu rfl
  · rename_i hu;exact key _ hu rfl
  · rename_i hu;exact key _ hu rfl
  · cases ht
theorem eqCells_cons {x y:D}{xs ys:List D}{c:Bool}(h:eqCells (x::xs) (y::ys)=some c):∃ u v b c',x=.v u∧y=.v v∧eqCells xs ys=some c'∧c=(b&&c') ∧
    ((∃ k m n,u=.int k m∧v=.int k n∧b=decide (m=n))∨(∃ m n,u=.string m∧v=.string n∧b=decide (m=n))∨∃ m n,u=.bool m∧v=.bool n∧b=(m==n)):=by
  unfold eqCells at h;split at h
  · simp at *
  · rename_i k m xs' k' n ys' e1 e2;cases e1;cases e2;split at h
    · rename_i hk;subst hk;simp only [Option.map_eq_some_iff] at h;obtain ⟨c',h1,rfl⟩:=h;exact ⟨_,_,_,c',rfl,rfl,h1,rfl,.inl ⟨_,_,_,rfl,rfl,rfl⟩⟩
    · cases h
  · rename_i m xs' n ys' e1 e2;cases e1;cases e2;simp only [Option.map_eq_some_iff] at h;obtain ⟨c',h1,rfl⟩:=h;exact ⟨_,_,_,c',rfl,rfl,h1,rfl,.inr (.inl ⟨_,_,rfl,rfl,rfl⟩)⟩
  · rename_i m xs' n ys' e1 e2;cases e1;cases e2;simp only [Option.map_eq_some_iff] at h;obtain ⟨c',h1,rfl⟩:=h;exact ⟨_,_,_,c',rfl,rfl,h1,rfl,.inr (.inr ⟨_,_,rfl,rfl,rfl⟩)⟩
  · cases h
theorem eqFields_run {d:Nat} {xs ys:Array Value}:∀ (fs:List Field) (n:Nat) {ks:List Nat} {ds es:List D} {us vs:List Value} {ρ:D→Value→Prop} {c:Bool},flatEq P fs n=some ks→kindsOK ks ds=true→eqCells ds es=some c→Cells I w ds ρ us []→Cells I w es ρ vs []→(∀ i u,us[i]?=some u→xs[n+i]?=some u)→(∀ i u,vs[i]?=some u→ys[n+i]?=some u)→(Op.eqFields (d+1) xs ys fs).run P w=.ok c w
  | [],n,ks,ds,es,us,vs,ρ,c,hf,hk,he,hd,hes,hx,hy=>by
    simp only [flatEq,Option.some.injEq] at hf;subst hf;cases ds with
    | nil =>
      cases es with
      | nil=>simp only [eqCells,Option.some.injEq] at he;subst he;simp [Op.eqFields]
      | cons e es=>simp [eqCells] at he
    | cons x ds=>simp [kindsOK] at hk
  | f :: fs,n,ks,ds,es,us,vs,ρ,c,hf,hk,he,hd,hes,hx,hy=>by
    simp only [flatEq] at hf;split at hf
    · rename_i hcond;split at hf
      · rename_i k ks' hkt hfs;simp only [Option.some.injEq] at hf;subst hf;cases ds with
        | nil=>simp [kindsOK] at hk
        | cons x ds =>
          cases es with
          | nil=>cases x<;>simp [eqCells] at he
          | cons y es =>
            obtain ⟨u,v,b,c',rfl,rfl,he',rfl,hcase⟩:=eqCells_cons he;simp only [Cells] at hd hes;obtain ⟨u',us',F1,F2,rfl,hF,_,hT1,hd2⟩:=hd;obtain ⟨v',vs',G1,G2,rfl,hG,_,hT2,hes2⟩:=hes;simp at hF hG;obtain ⟨rfl,rfl⟩:=hF;obtain ⟨rfl,rfl⟩:=hG;obtain rfl:=(T_v hT1).1;obtain rfl:=(T_v hT2).1;have hxu:xs[f.offset]?=some u':=(by rw [hcond.2];exact hx 0 u' rfl);have hyv:ys[f.offset]?=some v':=(by rw [hcond.2];exact hy 0 v' rfl);have fin:∀ (hs:scalarT P f.type=true) (hrun:(Op.equalIn (d+1) f.type u' v').run P w=.ok b w) (hk':kindsOK ks' ds=true),(Op.eqFields (d+1) xs ys (f::fs)).run P w=.ok (b&&c') w:=by
              intro hs hrun hk';have ih:=eqFields_run (d:=d) fs (n+1) hfs hk' he' hd2 hes2 (fun i u hi=>by have:=hx (i+1) u (by simpa using hi);rw [← this];congr 1;omega) (fun i u hi=>by have:=hy (i+1) u (by simpa using hi);rw [← this];congr 1;omega);simp only [Op.eqFields,Sem.run_ite,if_pos hcond.1,Sem.run_bind,part_scalar hs hxu,part_scalar hs hyv,Result.andThen_ok,hrun];cases b with
              | true=>simpa using ih
              | false=>simp
            unfold kindT at hkt;split at hkt
            · rename_i hu;simp only [Option.some.injEq] at hkt;subst hkt;rcases hcase with ⟨k,m,n',rfl,rfl,rfl⟩ | ⟨m,n',rfl,rfl,rfl⟩ | ⟨m,n',rfl,rfl,rfl⟩
              · simp [kindsOK] at hk
              · simp [kindsOK] at hk
              · exact fin (by simp [scalarT,hu]) (by simp [Op.equalIn,run_underlying hu];try (by_cases hmn:m=n' <;> simp [hmn])) (by simpa [kindsOK] using hk)
            · rename_i hu;simp only [Option.some.injEq] at hkt;subst hkt;rcases hcase with ⟨k,m,n',rfl,rfl,rfl⟩ | ⟨m,n',rfl,rfl,rfl⟩ | ⟨m,n',rfl,rfl,rfl⟩
              · exact fin (by simp [scalarT,hu]) (by simp [Op.equalIn,run_underlying hu];try (by_cases hmn:m=n' <;> simp [hmn])) (by simpa [kindsOK] using hk)
              · simp [kindsOK] at hk
              · simp [kindsOK] at hk
            · rename_i hu;simp only [Option.some.injEq] at hkt;subst hkt;rcases hcase with ⟨k,m,n',rfl,rfl,rfl⟩ | ⟨m,n',rfl,rfl,rfl⟩ | ⟨m,n',rfl,rfl,rfl⟩
              · simp [kindsOK] at hk
              · exact fin (by simp [scalarT,hu]) (by rw [run_equalIn_string w d _ m n' hu,bytes_eq]) (by simpa [kindsOK] using hk)
              · simp [kindsOK] at hk
            · cases hkt
      · cases hf
    · cases hf
theorem eq_scalar {t:TypeId}{k:Nat}{ks:List Nat}{u v:Value}{b:Bool}{ds:List D}{d:Nat}{w:World}(hkt:kindT P t=some k)(hk:kindsOK (k::ks) (.v u::ds)=true)
    (hcase:(∃ k m n,u=.int k m∧v=.int k n∧b=decide (m=n))∨(∃ m n,u=.string m∧v=.string n∧b=decide (m=n))∨∃ m n,u=.bool m∧v=.bool n∧b=(m==n)):scalarT P t=true∧(Op.equalIn (d+1) t u v).run P w=.ok b w∧kindsOK ks ds=true:=by
  unfold kindT at hkt;split at hkt
  · rename_i hu;simp only [Option.some.injEq] at hkt;subst hkt;rcases hcase with ⟨k,m,n',rfl,rfl,rfl⟩ | ⟨m,n',rfl,rfl,rfl⟩ | ⟨m,n',rfl,rfl,rfl⟩
    · simp [kindsOK] at hk
    · simp [kindsOK] at hk
    · exact ⟨by simp [scalarT,hu],by simp [Op.equalIn,run_underlying hu];try (by_cases hmn:m=n' <;> simp [hmn]),by simpa [kindsOK] using hk⟩
  · rename_i hu;simp only [Option.some.injEq] at hkt;subst hkt;rcases hcase with ⟨k,m,n',rfl,rfl,rfl⟩ | ⟨m,n',rfl,rfl,rfl⟩ | ⟨m,n',rfl,rfl,rfl⟩
    · exact ⟨by simp [scalarT,hu],by simp [Op.equalIn,run_underlying hu];try (by_cases hmn:m=n' <;> simp [hmn]),by simpa [kindsOK] using hk⟩
    · simp [kindsOK] at hk
    · simp [kindsOK] at hk
  · rename_i hu;simp only [Option.some.injEq] at hkt;subst hkt;rcases hcase with ⟨k,m,n',rfl,rfl,rfl⟩ | ⟨m,n',rfl,rfl,rfl⟩ | ⟨m,n',rfl,rfl,rfl⟩
    · simp [kindsOK] at hk
    · exact ⟨by simp [scalarT,hu],by rw [run_equalIn_string w d _ m n' hu,bytes_eq],by simpa [kindsOK] using hk⟩
    · simp [kindsOK] at hk
  · cases hkt
theorem eqCells_mk {u v:Value}{xs ys:List D}{b c:Bool}(h:eqCells xs ys=some c)
    (hcase:(∃ k m n,u=.int k m∧v=.int k n∧b=decide (m=n))∨(∃ m n,u=.string m∧v=.string n∧b=decide (m=n))∨∃ m n,u=.bool m∧v=.bool n∧b=(m==n)):eqCells (.v u::xs) (.v v::ys)=some (b&&c):=by
  rcases hcase with ⟨k,m,n',rfl,rfl,rfl⟩ | ⟨m,n',rfl,rfl,rfl⟩ | ⟨m,n',rfl,rfl,rfl⟩<;>simp [eqCells,h]
theorem eqCells_split:∀ (k:Nat) {ds es:List D} {c:Bool},eqCells ds es=some c→k≤ds.length→∃ c1 c2,eqCells (ds.take k) (es.take k)=some c1∧eqCells (ds.drop k) (es.drop k)=some c2∧c=(c1&&c2)
  | 0,ds,es,c,h,_=>⟨true,c,by simp [eqCells],by simpa using h,by simp⟩
  | k+1,[],es,c,h,hk=>by simp at hk
  | k+1,x::ds,[],c,h,hk=>by cases x<;>simp [eqCells] at h
  | k+1,x::ds,y::es,c,h,hk=>by obtain ⟨u,v,b,c',rfl,rfl,h1,rfl,hcase⟩:=eqCells_cons h;obtain ⟨c1,c2,h2,h3,rfl⟩:=eqCells_split k h1 (by simpa using hk);exact ⟨b&&c1,c2,by simp only [List.take_succ_cons];exact eqCells_mk h2 hcase,by simpa using h3,by rw [Bool.and_assoc]⟩
theorem kindsOK_split:∀ (k1:List Nat) {k2:List Nat} {ds:List D},kindsOK (k1++k2) ds=true→k1.length≤ds.length∧kindsOK k1 (ds.take k1.length)=true∧kindsOK k2 (ds.drop k1.length)=true
  | [],k2,ds,h=>by simpa [kindsOK] using h
  | k::k1,k2,[],h=>by simp [kindsOK] at h
  | k :: k1,k2,x::ds,h=>by
    have key:kindsOK (k1++k2) ds=true∧∀ l,kindsOK (k::k1) (x::l)=kindsOK k1 l:=by
      simp only [List.cons_append] at h;unfold kindsOK at h;split at h
      · simp at *
      · rename_i ks b ds' e1 e2;cases e1;cases e2;exact ⟨h,fun _=>rfl⟩
      · rename_i ks k' n ds' e1 e2;cases e1;cases e2;exact ⟨h,fun _=>rfl⟩
      · rename_i ks b ds' e1 e2;cases e1;cases e2;exact ⟨h,fun _=>rfl⟩
      · cases h
    obtain ⟨h1,h2,h3⟩:=kindsOK_split k1 key.1;exact ⟨by simpa using h1,by simp only [List.length_cons,List.take_succ_cons,key.2];exact h2,by simpa using h3⟩
def flatEq1 (P:Program):List Field→Nat→Option (List Nat)
  | [],_=>some []
  | f :: fs, n => if f.name ≠ "_" ∧ f.offset = n then match kindT P f.type with
      | some k=>match flatEq1 P fs (n+1) with
        | some ks=>some (k::ks)
        | none=>none
      | none=>match P.underlying f.type with
        | some (.struct gs)=>match flatEq P gs.toList 0 with
          | some k1=>if P.stoodInHeld f.type=false∧(P.info? f.type).map (·.size)=some k1.length∧0<k1.length then match flatEq1 P fs (n+k1.length) with
              | some ks=>some (k1++ks)
              | none=>none
            else none
          | none=>none
        | _=>none
    else none
theorem eqFields_run1 {d:Nat} {xs ys:Array Value}:∀ (fs:List Field) (n:Nat) {ks:List Nat} {ds es:List D} {us vs:List Value} {ρ:D→Value→Prop} {c:Bool},flatEq1 P fs n=some ks→kindsOK ks ds=true→eqCells ds es=some c→Cells I w ds ρ us []→Cells I w es ρ vs []→xs.toList.drop n=us→ys.toList.drop n=vs→(Op.eqFields (d+2) xs ys fs).run P w=.ok c w
  | [],n,ks,ds,es,us,vs,ρ,c,hf,hk,he,hd,hes,hx,hy=>by
    simp only [flatEq1,Option.some.injEq] at hf;subst hf;cases ds with
    | nil =>
      cases es with
      | nil=>simp only [eqCells,Option.some.injEq] at he;subst he;simp [Op.eqFields]
      | cons e es=>simp [eqCells] at he
    | cons x ds=>simp [kindsOK] at hk
  | f :: fs,n, ks, ds,es,us,vs,ρ,c,hf,hk,he,hd,hes,hx,hy=>by
    simp only [flatEq1] at hf;split at hf
    · rename_i hcond; split at hf
      · rename_i k hkt;split at hf
        · rename_i ks' hfs;simp only [Option.some.injEq] at hf;subst hf;cases ds with
          | nil=>simp [kindsOK] at hk
          | cons x ds =>
            cases es with
            | nil=>cases x<;>simp [eqCells] at he
            | cons y es =>
              obtain ⟨u,v,b,c',rfl,rfl,he',rfl,hcase⟩:=eqCells_cons he;simp only [Cells] at hd hes;obtain ⟨u',us',F1,F2,rfl,hF,_,hT1,hd2⟩:=hd;obtain ⟨v',vs',G1,G2,rfl,hG,_,hT2,hes2⟩:=hes;simp at hF hG;obtain ⟨rfl,rfl⟩:=hF;obtain ⟨rfl,rfl⟩:=hG;obtain rfl:=(T_v hT1).1;obtain rfl:=(T_v hT2).1;have at0:∀ {zs:Array Value} {z:Value} {zt:List Value},zs.toList.drop n=z::zt→zs[f.offset]?=some z∧zs.toList.drop (n+1)=zt:=by
                intro zs z zt hz;refine ⟨?_,?_⟩
                · rw [hcond.2];have:(zs.toList.drop n)[0]?=some z:=by rw [hz];rfl
                  rw [List.getElem?_drop] at this;simpa using this
                · rw [← List.drop_drop,hz];rfl
              obtain ⟨hxu,hx2⟩:=at0 hx;obtain ⟨hyv,hy2⟩:=at0 hy;obtain ⟨hs,hrun,hk'⟩:=eq_scalar (d:=d+1) (w:=w) hkt hk hcase;have ih:=eqFields_run1 (d:=d) fs (n+1) hfs hk' he' hd2 hes2 hx2 hy2;simp only [Op.eqFields,Sem.run_ite,if_pos hcond.1,Sem.run_bind,part_scalar hs hxu,part_scalar hs hyv,Result.andThen_ok,hrun];cases b with
              | true=>simpa using ih
              | false=>simp
        · cases hf
      · rename_i hkt; split at hf
        · rename_i gs hu;split at hf
          · rename_i k1 hk1;split at hf
            · rename_i hcond2;split at hf
              · rename_i ks' hfs;simp only [Option.some.injEq] at hf;subst hf;obtain ⟨hle,hka,hkb⟩:=kindsOK_split k1 hk;obtain ⟨c1,c2,hea,heb,rfl⟩:=eqCells_split k1.length he hle;have hlu:=hd.len;have hlv:=hes.len;have hll:es.length=ds.length:=by
                  have key:∀ {ds es:List D} {c:Bool},eqCells ds es=some c→es.length=ds.length:=by
                    intro ds;induction ds with
                    | nil=>intro es c h;cases es with
                      | nil=>rfl
                      | cons e es=>simp [eqCells] at h
                    | cons x ds ih=>intro es c h;cases es with
                      | nil=>cases x<;>simp [eqCells] at h
                      | cons e es=>obtain ⟨_,_,_,_,_,_,h1,_,_⟩:=eqCells_cons h;simp [ih h1]
                  exact key he
                have hagg:(TypeDesc.struct gs).isRow=true:=rfl;have hpart:∀ {zs:Array Value} {zt:List Value},zs.toList.drop n=zt→k1.length≤zt.length→(part f.type zs f.offset).run P w=.ok (.agg (zt.take k1.length).toArray) w:=by
                  intro zs zt hz hl;have hle2:n+k1.length≤zs.toList.length:=by have:zt.length=zs.toList.length-n:=(by rw [← hz,List.length_drop]);have:=hcond2.2.2;omega
                  have:=part_run (P:=P) hu (agg:=true) hagg hcond2.2.1 (fun h=>by cases h) (cs:=zs.toList) (off:=n) hle2 w;rw [hcond.2];simpa [hz] using this
                have hpx:=hpart hx (by omega);have hpy:=hpart hy (by omega);have hfo:P.fieldsOf f.type=gs:=(by unfold Program.fieldsOf;rw [hu]);have hin:(Op.equalIn (d+2) f.type (.agg (us.take k1.length).toArray) (.agg (vs.take k1.length).toArray)).run P w=.ok c1 w:=(by rw [run_equalIn_struct w (d+1) f.type _ _ (by rw [hfo];exact hu) hcond2.1,hfo];exact eqFields_run gs.toList 0 hk1 hka hea (hd.take k1.length) (hes.take k1.length) (fun i u hi=>by simpa using hi) (fun i u hi=>by simpa using hi));have ih:=eqFields_run1 (d:=d) fs (n+k1.length) hfs hkb heb (hd.drop k1.length) (hes.drop k1.length) (by rw [← List.drop_drop,hx]) (by rw [← List.drop_drop,hy]);simp only [Op.eqFields,Sem.run_ite,if_pos hcond.1,Sem.run_bind,hpx,hpy,Result.andThen_ok,hin];cases c1 with
                | true=>simpa using ih
                | false=>simp
              · cases hf
            · cases hf
          · cases hf
        · cases hf
    · cases hf
theorem sim_eqs (h:RelI w0 I0 s a.tmps w I Fs){op:BinOp}{neg:Bool}{ks:List Nat}{x y:Operand}{xt yt:TypeId}{o:Oper}(ho:o.op=.binOp op xt x y yt)(hop:(op=.eql∧neg=false)∨(op=.neq∧neg=true)){fs:Array Field}(hu:P.underlying xt=some (.struct fs))(hst:P.stoodInHeld xt=false)(hg:P.eqGuardType P.depth xt=false)(hf:flatEq1 P fs.toList 0=some ks)(hk:evalK Ctr s (.eqs neg ks x y) K):RunsTo P (execOp a.eval o) w (OutOK nn Fs I w w0 I0 a.tmps K):=by
  have hx:=lk_T h x;have hy:=lk_T h y;simp only [evalK] at hk;split at hk
  · rename_i ds es e1 e2;rw [e1] at hx;rw [e2] at hy;obtain ⟨hks,hk⟩:=hk;split at hk
    · rename_i c hc;simp only [T] at hx hy;obtain ⟨us,e3,hcx⟩:=hx;obtain ⟨vs,e4,hcy⟩:=hy;have hfo:P.fieldsOf xt=fs:=by unfold Program.fieldsOf;rw [hu]
      have heq:(Op.equalIn 10000 xt (.agg us.toArray) (.agg vs.toArray)).run P w=.ok c w:=(by rw [run_equalIn_struct w 9999 xt _ _ (by rw [hfo];exact hu) hst,hfo];exact eqFields_run1 fs.toList 0 hf hks hc hcx hcy (by simp) (by simp));refine .value (v:=.bool (if neg then !c else c)) ?_ (.plain h hk T_vI);rcases hop with ⟨rfl,rfl⟩ | ⟨rfl,rfl⟩
      · simp only [execOp,ho,e3,e4,Sem.run_bind,run_eqGuard_agg w .eql xt x y _ _ hg,Result.andThen_ok,run_eql_struct,heq];rfl
      · simp only [execOp,ho,e3,e4,Sem.run_bind,run_eqGuard_agg w .neq xt x y _ _ hg,Result.andThen_ok,run_neq_struct,heq];rfl
    · exact hk.elim
  · exact hk.elim
end
end Go.V
namespace Go.V
open Go.RowKit Go.MapKept
section
variable {P:Program} {w0:Base} {I0:Nat→Prop} {s:List D} {a:Act} {w:World} {I:Nat→Prop} {Fs:Nat→List Nat} {K:D→List D→Prop} {Ctr:CtrT} {nn:Bool}
def kkOf (P:Program)(kt:TypeId):Option KK:=match P.underlying kt with
  | some .string=>some .str
  | some .bool=>some .bool
  | some (.int k)=>some (.int k)
  | some (.struct fs)=>if P.stoodInHeld kt=false then (flatEq P fs.toList 0).map .flat else none
  | _=>none
theorem flatEq_some {o:Option (List Nat)}{k:KK}(h:o.map KK.flat=some k):k.isM=true:=by
  cases o with
  | none=>cases h
  | some l=>cases h;rfl
theorem kkOf_isM {P:Program}{kt:TypeId}{k:KK}(h:kkOf P kt=some k):k.isM=true:=by
  unfold kkOf at h;split at h
  · cases h;rfl
  · cases h;rfl
  · cases h;rfl
  · split at h
    · exact flatEq_some h
    · cases h
  · cases h
theorem isKey_of {kt:TypeId}{d:TypeDesc}{k:KK}{u:Value}(hd:P.underlying kt=some d)(hk:kkOf P kt=some k)(hn:∀ ks,k≠.flat ks)(hu:keyOK k u=true):IsKey d u:=by
  unfold kkOf at hk;rw [hd] at hk;cases d with
  | string=>simp only [Option.some.injEq] at hk;subst hk;cases u<;>simp [keyOK] at hu;trivial
  | bool=>simp only [Option.some.injEq] at hk;subst hk;cases u<;>simp [keyOK] at hu;trivial
  | int kd=>simp only [Option.some.injEq] at hk;subst hk;cases u<;>simp [keyOK] at hu;exact hu.symm
  | struct fs =>
    simp only at hk;split at hk
    · cases hf:flatEq P fs.toList 0 with
      | none=>simp [hf] at hk
      | some ks=>simp [hf] at hk;exact absurd hk.symm (hn ks)
    · cases hk
  | _=>simp at hk
theorem keqC_key {d:TypeDesc}{u v:Value}(hu:IsKey d u)(hv:IsKey d v):Instr.sameNow d u v=some (keq u v):=by cases d<;>cases u<;>cases v<;>simp_all [IsKey,Instr.sameNow,keq,keqC]
theorem findNow_first {d:TypeDesc}{u:Value}(hu:IsKey d u):∀ (l:List MapEntry) (i:Nat),(∀ x∈l,IsKey d x.key)→Instr.findNow d u l i=some ((l.findIdx? (fun e=>keq u e.key)).bind fun j=>(l[j]?).map fun e=>(i+j,e.val))
  | [],_,_=>rfl
  | e :: es,i,h=>by
    rw [Instr.findNow,keqC_key hu (h e (.head _)),List.findIdx?_cons];cases hq:keq u e.key with
    | true=>simp
    | false =>
      simp only [Bool.false_eq_true,if_false];rw [findNow_first hu es (i+1) (fun x hx=>h x (.tail _ hx))];cases hf:es.findIdx? (fun e=>keq u e.key) with
      | none=>rfl
      | some j=>simp only [Option.map_some,Option.bind_some,List.getElem?_cons_succ,show i+1+j=i+(j+1) by omega]
theorem keqL_cells:∀ {ks:List Nat} {us vs:List Value},kindsV ks us=true→kindsV ks vs=true→eqCells (us.map .v) (vs.map .v)=some (keqL us vs)∧kindsOK ks (us.map .v)=true
  | [],us,vs,hu,hv=>by cases us<;>cases vs<;>simp [kindsV] at hu hv;exact ⟨rfl,rfl⟩
  | k :: ks,us,vs,hu,hv=>by
    cases us with
    | nil=>rcases k with _ | _ | _ | k<;>simp [kindsV] at hu
    | cons x us =>
      cases vs with
      | nil=>rcases k with _ | _ | _ | k<;>simp [kindsV] at hv
      | cons y vs =>
        rcases k with _ | _ | _ | k
        · cases x<;>simp [kindsV] at hu;cases y<;>simp [kindsV] at hv;obtain ⟨h1,h2⟩:=keqL_cells hu hv;refine ⟨?_,by simpa [kindsOK] using h2⟩;simp only [List.map_cons,eqCells,h1,Option.map_some,keqL,keqC]
        · cases x with
          | int kx m =>
            cases y with
            | int ky n=>cases kx<;>simp [kindsV] at hu;cases ky<;>simp [kindsV] at hv;obtain ⟨h1,h2⟩:=keqL_cells hu hv;refine ⟨?_,by simpa [kindsOK] using h2⟩;simp only [List.map_cons,eqCells,h1,Option.map_some,keqL,keqC,if_true];by_cases hmn:m=n<;>simp [hmn]
            | _=>simp [kindsV] at hv
          | _=>simp [kindsV] at hu
        · cases x<;>simp [kindsV] at hu;cases y<;>simp [kindsV] at hv;rename_i m n;obtain ⟨h1,h2⟩:=keqL_cells hu hv;refine ⟨?_,by simpa [kindsOK] using h2⟩;simp only [List.map_cons,eqCells,h1,Option.map_some,keqL,keqC];have:decide (m=n)=(m==n):=by rw [Bool.eq_iff_iff];simp [bytes_beq]
          rw [this]
        · simp [kindsV] at hu
theorem kindsV_one:∀ {ks:List Nat} {us:List Value},kindsV ks us=true→us.all (·.oneCell')=true
  | [],us,hu=>by cases us<;>simp [kindsV] at hu;rfl
  | k :: ks,us,hu=>by
    cases us with
    | nil=>rfl
    | cons x us =>
      rcases k with _ | _ | _ | k
      · cases x<;>simp [kindsV] at hu;simp only [List.all_cons,Bool.and_eq_true];exact ⟨rfl,kindsV_one hu⟩
      · cases x with
        | int kx m=>cases kx<;>simp [kindsV] at hu;simp only [List.all_cons,Bool.and_eq_true];exact ⟨rfl,kindsV_one hu⟩
        | _=>simp [kindsV] at hu
      · cases x<;>simp [kindsV] at hu;simp only [List.all_cons,Bool.and_eq_true];exact ⟨rfl,kindsV_one hu⟩
      · simp [kindsV] at hu
theorem cells_plain:∀ (us:List Value),us.all (·.oneCell')=true→Cells I w (us.map .v) nil us []
  | [],_=>by simp [Cells]
  | u::us,h=>by simp only [List.all_cons,Bool.and_eq_true] at h;simp only [List.map_cons,Cells];exact ⟨u,us,[],[],rfl,rfl,h.1,by simp [T],cells_plain us h.2⟩
theorem flat_parts {kt:TypeId}{k:KK}(hk:kkOf P kt=some k){ks:List Nat}(e:k=.flat ks):∃ fs:Array Field,P.underlying kt=some (.struct fs)∧P.stoodInHeld kt=false∧flatEq P fs.toList 0=some ks:=by
  subst e;unfold kkOf at hk;split at hk
  · cases hk
  · cases hk
  · cases hk
  · rename_i fs hu;split at hk
    · rename_i hs;cases hf:flatEq P fs.toList 0 with
      | none=>simp [hf] at hk
      | some ks'=>simp only [hf,Option.map_some,Option.some.injEq,KK.flat.injEq] at hk;subst hk;exact ⟨fs,hu,hs,hf⟩
    · cases hk
  · cases hk
theorem equal_flat {kt:TypeId}{ks:List Nat}(hk:kkOf P kt=some (.flat ks)){u v:Value}(hu:keyOK (.flat ks) u=true)(hv:keyOK (.flat ks) v=true):(Op.equal kt u v).run P w=.ok (keq u v) w:=by obtain ⟨fs,h1,h2,h3⟩:=flat_parts hk rfl;cases u<;>simp [keyOK] at hu;cases v<;>simp [keyOK] at hv;rename_i us vs;obtain ⟨k1,k2⟩:=keqL_cells hu hv;have hfo:P.fieldsOf kt=fs:=(by unfold Program.fieldsOf;rw [h1]);show (Op.equalIn 10000 kt (.agg us) (.agg vs)).run P w=_;rw [run_equalIn_struct w 9999 kt _ _ (by rw [hfo];exact h1) h2,hfo];have:=eqFields_run (P:=P) (w:=w) (I:=fun _=>False) (d:=9998) (xs:=us) (ys:=vs) (us:=us.toList) (vs:=vs.toList) (ρ:=nil) fs.toList 0 h3 k2 k1 (cells_plain _ (kindsV_one hu)) (cells_plain _ (kindsV_one hv)) (fun i u h=>by simpa using h) (fun i u h=>by simpa using h);exact this
theorem findAsking_first {kt:TypeId}{ks:List Nat}(hk:kkOf P kt=some (.flat ks)){u:Value}(hu:keyOK (.flat ks) u=true):∀ (l:List MapEntry) (i:Nat),(∀ x∈l,keyOK (.flat ks) x.key=true)→(Instr.findAsking kt u l i).run P w=.ok ((l.findIdx? (fun e=>keq u e.key)).bind fun j=>(l[j]?).map fun e=>(i+j,e.val)) w
  | [],_,_=>by simp [Instr.findAsking]
  | e :: es,i,h=>by
    rw [Instr.findAsking,Sem.run_bind,equal_flat hk hu (h e (.head _)),Result.andThen_ok,List.findIdx?_cons];cases hq:keq u e.key with
    | true=>simp
    | false =>
      simp only [Bool.false_eq_true,if_false];rw [findAsking_first hk hu es (i+1) (fun x hx=>h x (.tail _ hx))];cases hf:es.findIdx? (fun e=>keq u e.key) with
      | none=>rfl
      | some j=>simp only [Option.map_some,Option.bind_some,List.getElem?_cons_succ,show i+1+j=i+(j+1) by omega]
theorem findKey_first {kt:TypeId} {k:KK} (hk:kkOf P kt=some k) {u:Value} (hu:keyOK k u=true) (l:List MapEntry) (hl:∀ x∈l,keyOK k x.key=true):(Instr.findKey kt u l).run P w=.ok ((l.findIdx? (fun e=>keq u e.key)).bind fun j=>(l[j]?).map fun e=>(j,e.val)) w:=by
  have hz:∀ o:Option Nat,(o.bind fun j=>(l[j]?).map fun e=>(0+j,e.val))=o.bind fun j=>(l[j]?).map fun e=>(j,e.val):=fun o=>by simp only [Nat.zero_add]
  have hd:∃ d,P.underlying kt=some d:=by
    unfold kkOf at hk;cases hd:P.underlying kt with
    | none=>simp [hd] at hk
    | some d=>exact ⟨d,rfl⟩
  obtain ⟨d,hd⟩:=hd;by_cases hn:∀ ks,k≠.flat ks
  · rw [run_findKey hd (findNow_first (isKey_of hd hk hn hu) l 0 (fun x hx=>isKey_of hd hk hn (hl x hx))),hz]
  · have:∃ ks,k=.flat ks:=by
      cases k with
      | flat ks=>exact ⟨ks,rfl⟩
      | _=>exact absurd (fun ks h=>by cases h) hn
    obtain ⟨ks,rfl⟩:=this;obtain ⟨fs,h1,_,_⟩:=flat_parts hk rfl;unfold Instr.findKey;rw [Sem.run_bind,run_underlying h1,Result.andThen_ok];cases l with
    | nil=>rfl
    | cons e es =>
      have hs:Instr.findNow (.struct fs) u (e::es) 0=none:=by
        rw [Instr.findNow];have:Instr.sameNow (.struct fs) u e.key=none:=by cases u<;>rfl
        rw [this]
      rw [hs];simp only;rw [findAsking_first hk hu (e::es) 0 hl,hz]
theorem part_one {t:TypeId}(ht:(kindT P t).isSome=true){cs:Array Value}{off:Nat}{v:Value}(hv:cs[off]?=some v):(part t cs off).run P w=.ok v w:=by
  refine part_scalar ?_ hv;unfold kindT at ht;unfold scalarT;split at ht
  · rename_i h;rfl
  · rename_i h;rfl
  · rename_i h;rfl
  · cases ht
theorem checkField {t:TypeId}(ht:(kindT P t).isSome=true)(e:Bool)(n:Nat)(v:Value):(Instr.checkKey e (n+1) t v).run P w=.ok () w:=by
  unfold kindT at ht;unfold Instr.checkKey;split at ht
  · rename_i h;simp only [Sem.run_bind,run_underlying h,Result.andThen];rfl
  · rename_i h;simp only [Sem.run_bind,run_underlying h,Result.andThen];rfl
  · rename_i h;simp only [Sem.run_bind,run_underlying h,Result.andThen];rfl
  · cases ht
theorem checkFields (e:Bool) (n:Nat) {cs:Array Value}:∀ (fs:List Field) (k:Nat) {ks:List Nat},flatEq P fs k=some ks→(∀ i,i<ks.length→(cs[k+i]?).isSome=true)→(forIn (m:=Sem) fs PUnit.unit (fun f (_:PUnit)=>do
      if f.name ≠ "_" then Instr.checkKey e (n + 1) f.type (← part f.type cs f.offset)
      pure (ForInStep.yield PUnit.unit))).run P w=.ok PUnit.unit w
  | [],k,ks,_,_=>by simp
  | f :: fs,k,ks,hf,hcs=>by
    simp only [flatEq] at hf;split at hf
    · rename_i hc;split at hf
      · rename_i kk ks' h1 h2;simp only [Option.some.injEq] at hf;subst hf;obtain ⟨v,hv⟩:=Option.isSome_iff_exists.1 (hcs 0 (by simp));rw [List.forIn_cons];have hk:(kindT P f.type).isSome=true:=by rw [h1];rfl
        have ih:=checkFields e n fs (k+1) h2 (fun i hi=>by have:=hcs (i+1) (by simp;omega);rwa [show k+1+i=k+(i+1) by omega]);simp only [Sem.run_bind,ne_eq,hc.1,not_false_eq_true,if_true,hc.2,part_one hk (by simpa using hv),checkField hk,Result.andThen_ok,Sem.run_pure];exact ih
      · cases hf
    · cases hf
theorem kindsV_len:∀ {ks:List Nat} {us:List Value},kindsV ks us=true→us.length=ks.length
  | [],us,hu=>by cases us<;>simp [kindsV] at hu;rfl
  | k :: ks,us,hu=>by
    cases us with
    | nil=>rcases k with _ | _ | _ | k<;>simp [kindsV] at hu
    | cons x us =>
      rcases k with _ | _ | _ | k
      · cases x<;>simp [kindsV] at hu;simp [kindsV_len hu]
      · cases x with
        | int kx m=>cases kx<;>simp [kindsV] at hu;simp [kindsV_len hu]
        | _=>simp [kindsV] at hu
      · cases x<;>simp [kindsV] at hu;simp [kindsV_len hu]
      · simp [kindsV] at hu
theorem checkKey_first {kt:TypeId}{k:KK}(hk:kkOf P kt=some k){u:Value}(hu:keyOK k u=true)(e:Bool):(Instr.checkKey e 10000 kt u).run P w=.ok () w:=by
  by_cases hn:∀ ks,k≠.flat ks
  · have hd:∃ d,P.underlying kt=some d:=by
      unfold kkOf at hk;cases hd:P.underlying kt with
      | none=>simp [hd] at hk
      | some d=>exact ⟨d,rfl⟩
    obtain ⟨d,hd⟩:=hd;exact run_checkKey hd (isKey_of hd hk hn hu) e 9999
  · have:∃ ks,k=.flat ks:=by
      cases k with
      | flat ks=>exact ⟨ks,rfl⟩
      | _=>exact absurd (fun ks h=>by cases h) hn
    obtain ⟨ks,rfl⟩:=this;obtain ⟨fs,h1,_,h3⟩:=flat_parts hk rfl;cases u<;>simp [keyOK] at hu;rename_i cs;unfold Instr.checkKey;simp only [Sem.run_bind,run_underlying h1,Result.andThen_ok];have:=checkFields (P:=P) (w:=w) e 9998 (cs:=cs) fs.toList 0 h3 (fun i hi=>by
      have:=kindsV_len hu;simp only [Array.length_toList] at this;simp [this,hi])
    have e2:∀ (f:Field→PUnit→Sem (ForInStep PUnit)),forIn fs PUnit.unit f=forIn fs.toList PUnit.unit f:=fun f=>by simp
    rw [e2];have h5:=congrArg (fun r=>r.andThen fun (_:PUnit) (w':World)=>(Result.ok () w':Result Unit)) this;simp only [Result.andThen_ok] at h5;rw [← h5];simp
/-! ### Operations on maps -/
theorem run_newObj (o:Obj):(newObj o).run P w=.ok w.heap.size { w with heap:=w.heap.push o }:=by simp [newObj,Sem.run]
theorem sim_mkm (h:RelI w0 I0 s a.tmps w I Fs){k:KK}(hkM:k.isM=true){t:TypeId}{o:Oper}(ho:o.op=.makeMap t none)(hk:evalK Ctr s (.mkm k) K):RunsTo P (execOp a.eval o) w (OutOK nn Fs I w w0 I0 a.tmps K):=by
  have hb:Below w.heap.size w { w with heap:=w.heap.push (.map #[] 0) }:=(Below.refl _ w).alloc (Nat.le_refl _) _;refine .value (v:=.map (some w.heap.size)) (w':={ w with heap:=w.heap.push (.map #[] 0) }) (by simp [execOp,ho,Instr.makeMap,run_newObj]) ?_;have he0:k.e0=[]:=by cases k<;>first | rfl | cases hkM
  simp only [evalK,he0] at hk;refine ⟨_,s,I,Fs,[w.heap.size],hk,h.world hb,?_,⟨by simp,fun b hb'=>?_⟩,fun _=>Frame.below hb (fun b hb'=>.inl (by simp at hb';omega)) (fun _=>.inr rfl)⟩
  · simp only [T];rw [mpB_map hkM];exact ⟨_,#[],0,rfl,by simp,rfl,rfl,fun _ h=>by cases h⟩
  · simp only [List.mem_singleton] at hb';subst hb';exact ⟨Base.N_of h.below (Nat.le_refl _),by simp,fun hI=>Nat.lt_irrefl _ (h.imm _ hI),fun r hr=>Nat.lt_irrefl _ (h.own r _ hr).2.1⟩
theorem sim_mkB (h:RelI w0 I0 s a.tmps w I Fs){t e:TypeId}{z:Value}{i:TypeInfo}{o:Oper}(ho:o.op=.alloc t)(hi:P.info? t=some i)(hz:i.zero=some z)(hzz:z.cells.toList=[.pointer none,.slice none 0 0])(hk:evalK Ctr s (.mkm (.bld t e)) K):RunsTo P (execOp a.eval o) w (OutOK nn Fs I w w0 I0 a.tmps K):=by
  have hb:Below w.heap.size w { w with heap:=w.heap.push (.cells z.cells t) }:=(Below.refl _ w).alloc (Nat.le_refl _) _;have hrun:(execOp a.eval o).run P w=.ok (.value (.pointer (some ⟨w.heap.size,0,none⟩))) { w with heap:=w.heap.push (.cells z.cells t) }:=(by simp [execOp,ho,Instr.alloc,zeroValue,typeInfo,hi,hz,newVar,newRow]);refine .value hrun ?_;simp only [evalK,KK.e0] at hk;have hzc:z.cells=#[.pointer none,.slice none 0 0]:=(by apply Array.ext';exact hzz);refine ⟨_,s,I,Fs,[w.heap.size],hk,h.world hb,?_,⟨by simp,fun b hb'=>?_⟩,fun _=>Frame.below hb (fun b hb'=>.inl (by simp at hb';omega)) (fun _=>.inr rfl)⟩
  · simp only [T,mpB];exact ⟨_,_,_,⟨#[]⟩,rfl,by simp [hzc],.inl rfl,rfl,.inl ⟨rfl,rfl,rfl⟩⟩
  · simp only [List.mem_singleton] at hb';subst hb';exact ⟨Base.N_of h.below (Nat.le_refl _),by simp,fun hI=>Nat.lt_irrefl _ (h.imm _ hI),fun r hr=>Nat.lt_irrefl _ (h.own r _ hr).2.1⟩
theorem plainC_T:∀ {ds:List D} {vs:List Value} {ρ:D→Value→Prop} {us:List Value} {F:List Nat},plainC ds=some vs→Cells I w ds ρ us F→us=vs
  | [],vs,ρ,us,F,h,hc=>by simp only [plainC,Option.some.injEq] at h;simp only [Cells] at hc;rw [← h,hc.1]
  | d :: ds,vs,ρ,us,F,h,hc=>by
    cases d with
    | v x =>
      simp only [plainC] at h;split at h
      · cases hp:plainC ds with
        | none=>simp [hp] at h
        | some vs'=>simp [hp] at h;simp only [Cells] at hc;obtain ⟨u,us',F1,F2,e,_,_,ht,h2⟩:=hc;rw [← h,e,(T_v ht).1,plainC_T hp h2]
      · cases h
    | _=>simp [plainC] at h
theorem toV_T {d:D}{v:Value}{ρ:D→Value→Prop}{u:Value}{F:List Nat}(h:toV d=some v)(hT:T I w d ρ u F):u=v:=by
  cases d with
  | v x=>simp only [toV,Option.some.injEq] at h;rw [(T_v hT).1,h]
  | nils=>simp only [toV,Option.some.injEq] at h;simp only [T] at hT;rw [hT.1,h]
  | agg cs=>simp only [toV,Option.map_eq_some_iff] at h;obtain ⟨vs,h1,rfl⟩:=h;simp only [T] at hT;obtain ⟨us,e,hc⟩:=hT;rw [e,plainC_T h1 hc]
  | _=>simp [toV] at h
theorem ents_idx {es:Array MapEntry}{e:List (Value×Value)}(he:es.toList.map (fun x=>(x.key,x.val))=e)(u:Value):e.findIdx? (fun x=>keq u x.1)=es.toList.findIdx? (fun x=>keq u x.key):=by rw [← he,List.findIdx?_map];rfl
theorem sameBits_keq {n:Nat}:∀ {a b:Value},keqC a b=true→(∀ k m k' m',a=.int k m→b=.int k' m'→k=k')→Instr.sameBits n a b=true:=by
  intro a b h hk;cases a<;>cases b<;>simp [keqC] at h
  · simpa [Instr.sameBits] using h
  · rename_i k m k' m';have:=hk k m k' m' rfl rfl;simp [Instr.sameBits,this,h]
  · simpa [Instr.sameBits] using h
theorem keqL_zip {n:Nat}:∀ {ks:List Nat} {us vs:List Value},kindsV ks us=true→kindsV ks vs=true→keqL us vs=true→us.length=vs.length∧(us.zip vs).all (fun (x,y)=>Instr.sameBits n x y)=true
  | [],us,vs,hu,hv,_=>by cases us<;>cases vs<;>simp [kindsV] at hu hv;exact ⟨rfl,rfl⟩
  | k :: ks,us,vs,hu,hv,hq=>by
    cases us with
    | nil=>rcases k with _ | _ | _ | k<;>simp [kindsV] at hu
    | cons x us =>
      cases vs with
      | nil=>rcases k with _ | _ | _ | k<;>simp [kindsV] at hv
      | cons y vs =>
        simp only [keqL,Bool.and_eq_true] at hq;rcases k with _ | _ | _ | k
        · cases x<;>simp [kindsV] at hu;cases y<;>simp [kindsV] at hv;obtain ⟨h1,h2⟩:=keqL_zip (n:=n) hu hv hq.2;refine ⟨by simp [h1],?_⟩;rw [List.zip_cons_cons,List.all_cons,h2,Bool.and_true];exact sameBits_keq hq.1 (fun _ _ _ _ h=>by cases h)
        · cases x with
          | int kx m =>
            cases y with
            | int ky n'=>cases kx<;>simp [kindsV] at hu;cases ky<;>simp [kindsV] at hv;obtain ⟨h1,h2⟩:=keqL_zip (n:=n) hu hv hq.2;refine ⟨by simp [h1],?_⟩;rw [List.zip_cons_cons,List.all_cons,h2,Bool.and_true];exact sameBits_keq hq.1 (fun _ _ _ _ h h'=>by cases h;cases h';rfl)
            | _=>simp [kindsV] at hv
          | _=>simp [kindsV] at hu
        · cases x<;>simp [kindsV] at hu;cases y<;>simp [kindsV] at hv;obtain ⟨h1,h2⟩:=keqL_zip (n:=n) hu hv hq.2;refine ⟨by simp [h1],?_⟩;rw [List.zip_cons_cons,List.all_cons,h2,Bool.and_true];exact sameBits_keq hq.1 (fun _ _ _ _ h=>by cases h)
        · simp [kindsV] at hu
theorem run_stays {k:KK} {u v:Value} (hu:keyOK k u=true) (hv:keyOK k v=true) (hq:keq v u=true):(Instr.keyThatStays u v).run P w=.ok v w:=by
  have:Instr.sameBits 10000 u v=true:=by
    cases k with
    | str => cases u<;>simp [keyOK] at hu;cases v<;>simp [keyOK] at hv;rename_i a b;have:b=a:=by simpa [keq,keqC,bytes_beq] using hq
             subst this;simp [Instr.sameBits,bytes_beq]
    | bld ty e=>cases u<;>simp [keyOK] at hu
    | err ty=>cases u<;>simp [keyOK] at hu
    | bool => cases u<;>simp [keyOK] at hu;cases v<;>simp [keyOK] at hv;rename_i a b;have:b=a:=by simpa [keq,keqC] using hq
              subst this;simp [Instr.sameBits]
    | int kd=>cases u<;>simp [keyOK] at hu;cases v<;>simp [keyOK] at hv;subst hu;subst hv;simp only [keq,keqC,beq_iff_eq] at hq;simp [Instr.sameBits,hq]
    | flat ks =>
      cases u <;> simp [keyOK] at hu;cases v<;>simp [keyOK] at hv;rename_i us vs;have hq':keqL us.toList vs.toList=true:=by
        have sym:∀ (a b:List Value),keqL a b=true→keqL b a=true:=by
          intro a;induction a with
          | nil=>intro b h;cases b<;>simp [keqL] at h ⊢
          | cons x a ih =>
            intro b h;cases b with
            | nil=>simp [keqL] at h
            | cons y b =>
              simp only [keqL,Bool.and_eq_true] at h ⊢;refine ⟨?_,ih b h.2⟩;have h1:=h.1;cases x<;>cases y<;>simp [keqC] at h1 ⊢
              · exact h1.symm
              · exact h1.symm
              · rw [bytes_beq] at h1 ⊢;exact h1.symm
        exact sym _ _ hq
      obtain ⟨h1,h2⟩:=keqL_zip (n:=9999) hu hv hq';have h3:us.size=vs.size:=(by simpa using h1);simp only [Instr.sameBits,h3,beq_self_eq_true,Bool.true_and];exact h2
  unfold Instr.keyThatStays;rw [if_pos this];rfl
end
end Go.V
namespace Go.V
open Go.RowKit Go.MapKept
section
variable {P:Program} {w0:Base} {I0:Nat→Prop} {s:List D} {a:Act} {w:World} {I:Nat→Prop} {Fs:Nat→List Nat} {K:D→List D→Prop} {Ctr:CtrT} {nn:Bool}
theorem modify_ents {es:Array MapEntry}{e:List (Value×Value)}(he:es.toList.map (fun x=>(x.key,x.val))=e)(i:Nat)(u v:Value):(es.modify i fun x=>{ x with key:=u,val:=v }).toList.map (fun x=>(x.key,x.val))=e.set i (u,v):=by
  rw [← he];apply List.ext_getElem?;intro j;simp only [List.getElem?_map,Array.getElem?_toList,Array.getElem?_modify,List.getElem?_set,List.length_map,Array.length_toList];by_cases hij:i=j
  · subst hij;by_cases hl:i<es.size
    · simp [hl]
    · simp [hl]
  · simp [hij]
theorem push_ents {es:Array MapEntry}{e:List (Value×Value)}(he:es.toList.map (fun x=>(x.key,x.val))=e)(u v:Value)(c:Nat):(es.push { key:=u,val:=v,born:=c }).toList.map (fun x=>(x.key,x.val))=e++[(u,v)]:=by rw [← he];simp
theorem keys_of {k:KK}{es:Array MapEntry}{e:List (Value×Value)}(he:es.toList.map (fun x=>(x.key,x.val))=e)(hk:∀ x,x∈e→keyOK k x.1=true):∀ x∈es.toList,keyOK k x.key=true:=by intro x hx;have:=hk (x.key,x.val) (by rw [← he];exact List.mem_map.2 ⟨x,hx,rfl⟩);exact this
theorem mset_keys {k:KK}{e:List (Value×Value)}{u v:Value}(hk:∀ x,x∈e→keyOK k x.1=true)(hu:keyOK k u=true):∀ x,x∈mset e u v→keyOK k x.1=true:=by
  intro x hx;unfold mset at hx;split at hx
  · rcases List.mem_or_eq_of_mem_set hx with hx | rfl
    · exact hk x hx
    · exact hu
  · rcases List.mem_append.1 hx with hx | hx
    · exact hk x hx
    · simp only [List.mem_singleton] at hx;subst hx;exact hu
theorem mdel_keys {k:KK}{e:List (Value×Value)}{u:Value}(hk:∀ x,x∈e→keyOK k x.1=true):∀ x,x∈mdel e u→keyOK k x.1=true:=by
  intro x hx;unfold mdel at hx;split at hx
  · exact hk x (List.mem_of_mem_eraseIdx hx)
  · exact hk x hx
theorem idx_at {es:Array MapEntry}{u:Value}{i:Nat}(h:es.toList.findIdx? (fun e=>keq u e.key)=some i):∃ x,es[i]?=some x∧keq u x.key=true:=by rw [List.findIdx?_eq_some_iff_getElem] at h;obtain ⟨hi,h1,_⟩:=h;exact ⟨es.toList[i],by rw [← Array.getElem?_toList];exact List.getElem?_eq_getElem hi,h1⟩
theorem mapUpdate_run {mt kt et:TypeId}{k:KK}{bm:Nat}{es:Array MapEntry}{clock:Nat}{e:List (Value×Value)}{u v:Value}(hm:P.underlying mt=some (.map kt et))(hk:kkOf P kt=some k)(hu:keyOK k u=true)(hh:w.heap[bm]?=some (.map es clock))(he:es.toList.map (fun x=>(x.key,x.val))=e)(hks:∀ x,x∈e→keyOK k x.1=true) :
    ∃ es' clock',(Instr.mapUpdate mt (.map (some bm)) u v).run P w=.ok () { w with heap:=w.heap.setIfInBounds bm (.map es' clock') }∧es'.toList.map (fun x=>(x.key,x.val))=mset e u v:=by
  have hks':=keys_of he hks;have hf:=findKey_first (P:=P) (w:=w) hk hu es.toList hks';cases hi:es.toList.findIdx? (fun x=>keq u x.key) with
  | none =>
    rw [hi] at hf;refine ⟨es.push { key:=u,val:=v,born:=clock },clock+1,?_,?_⟩
    · simp only [Instr.mapUpdate,Sem.run_bind,run_underlying hm,MapKept.run_getObj_map hh,checkKey_first hk hu,hf,Result.andThen_ok,Option.bind_none];exact run_setObj_map _ hh
    · rw [push_ents he];unfold mset;rw [ents_idx he,hi]
  | some i =>
    rw [hi] at hf;obtain ⟨x,hx,hq⟩:=idx_at hi;refine ⟨es.modify i fun x=>{ x with key:=u,val:=v },clock,?_,?_⟩
    · simp only [Instr.mapUpdate,Sem.run_bind,run_underlying hm,MapKept.run_getObj_map hh,checkKey_first hk hu,hf,Result.andThen_ok,Option.bind_some,Array.getElem?_toList,hx,Option.map_some,Option.getD_some];rw [run_stays (hks' x (by rw [← Array.getElem?_toList] at hx;exact List.mem_of_getElem? hx)) hu hq];simp only [Result.andThen_ok];exact run_setObj_map _ hh
    · rw [modify_ents he];unfold mset;rw [ents_idx he,hi]
theorem sim_mupd (h:RelI w0 I0 s a.tmps w I Fs) {k:KK} {mt kt et:TypeId} {m i x:Operand} {o:Oper} (ho:o.op=.mapUpdate mt m i x∨o.op=.insert mt m i x) (hm:P.underlying mt=some (.map kt et)) (hkk:kkOf P kt=some k) (hk:evalK Ctr s (.mupd k m i x) K):RunsTo P (execOp a.eval o) w (OutOK false Fs I w w0 I0 a.tmps K):=by
  have hM:=lk_T h m;have hI:=lk_T h i;have hX:=lk_T h x;have hex:execOp a.eval o=(do Instr.mapUpdate mt (a.eval m) (a.eval i) (a.eval x);pure .skip):=by rcases ho with ho | ho<;>simp [execOp,ho]
  simp only [evalK] at hk;split at hk
  · rename_i r q em;rw [em] at hM;simp only [T] at hM;obtain ⟨⟨d0,u0,t0,m1,m2,m3,mo,m4⟩,_⟩:=hM;simp only [m1,m3] at hk;split at hk
    · rename_i k' e et0;simp only [Option.some.injEq] at et0;subst et0;obtain ⟨rfl,hk⟩:=hk;split at hk
      · rename_i u v eu ev;obtain ⟨hku,hK⟩:=hk;have e1:=toV_T eu hI;have e2:=toV_T ev hX;obtain ⟨bm,es,clock,k1,k2,k3,k4,k5,k6⟩:=h.mapSet (kkOf_isM hkk) m1 m2 m3;rw [m4] at k1;have e3:a.eval m=.map (some bm):=by simpa using k1
        obtain ⟨es',clock',hrun,hents⟩:=mapUpdate_run (P:=P) (v:=v) hm hkk hku k2 k3 k4;have hset:=heap_set (o':=.map es' clock') k2;have hrel:=k6 { w with heap:=w.heap.setIfInBounds bm (.map es' clock') } (mset e u v) es' clock' ⟨rfl,rfl,rfl,by simp⟩ hset.2 hset.1 hents (mset_keys k4 hku);unfold RunsTo;rw [hex,e1,e2,e3];simp only [Sem.run_bind,hrun,Result.andThen_ok,Sem.run_pure];exact ⟨.undef,_,I,Fs,[],hK,hrel,by simp [T],Fresh.nil,fun h=>by cases h⟩
      · exact hk.elim
    · exact hk.elim
  · exact hk.elim
theorem mp_T (h:RelI w0 I0 s a.tmps w I Fs){x:Operand}{k:KK}{e:List (Value×Value)}(hkM:k.isM=true)(hm:mpAt s (lk s x)=some (k,e)):∃ bm es clock,a.eval x=.map (some bm)∧w.heap[bm]?=some (.map es clock)∧es.toList.map (fun x=>(x.key,x.val))=e∧∀ x,x∈e→keyOK k x.1=true:=by
  have hX:=lk_T h x;cases hl:lk s x with
  | imp k' e'=>rw [hl] at hX hm;simp only [mpAt,Option.some.injEq,Prod.mk.injEq] at hm;obtain ⟨rfl,rfl⟩:=hm;simp only [T] at hX;obtain ⟨_,F',hX,_⟩:=hX;rw [mpB_map hkM] at hX;obtain ⟨b,es,clock,hu,hh,_,he,hk⟩:=hX;exact ⟨b,es,clock,hu,hh,he,hk⟩
  | ref r q=>rw [hl] at hX hm;obtain ⟨F',ρ',k2,_⟩:=map_form h hX hm;simp only [T] at k2;rw [mpB_map hkM] at k2;obtain ⟨b,es,clock,hu,hh,_,he,hk⟩:=k2;exact ⟨b,es,clock,hu,hh,he,hk⟩
  | _=>rw [hl] at hm;simp [mpAt] at hm
theorem mget_idx {es:Array MapEntry}{e:List (Value×Value)}(he:es.toList.map (fun x=>(x.key,x.val))=e)(u:Value):mget e u=(es.toList.findIdx? (fun x=>keq u x.key)).bind fun j=>(es[j]?).map (·.val):=by
  unfold mget;rw [List.find?_eq_bind_findIdx?_getElem?,ents_idx he];cases hi:es.toList.findIdx? (fun x=>keq u x.key) with
  | none=>rfl
  | some i=>obtain ⟨x,hx,_⟩:=idx_at hi;have:e[i]?=some (x.key,x.val):=(by rw [← he,List.getElem?_map,Array.getElem?_toList,hx];rfl);simp [this,hx]
theorem sim_mlk (h:RelI w0 I0 s a.tmps w I Fs){k:KK}{z:Value}{ok:Bool}{mt kt et:TypeId}{m i:Operand}{ie:TypeInfo}{o:Oper}(ho:o.op=.lookup mt m i ok)(hm:P.underlying mt=some (.map kt et))(hkk:kkOf P kt=some k)(hie:P.info? et=some ie)(hz:ie.zero=some z)(hk:evalK Ctr s (.mlk k z ok m i) K):RunsTo P (execOp a.eval o) w (OutOK nn Fs I w w0 I0 a.tmps K):=by
  have hI:=lk_T h i;have hM:=lk_T h m;have hzr:(zeroValue et).run P w=.ok z w:=(by simp [zeroValue,typeInfo,hie,hz]);simp only [evalK] at hk;split at hk
  · rename_i u eu;obtain ⟨hku,hk⟩:=hk;have e1:=toV_T eu hI;have fin:∀ (v:Value) (b:Bool),(Instr.lookup mt (a.eval m) u ok).run P w=.ok (if ok then .tuple #[v,.bool b] else v) w→K (if ok then .tup [ofV v,.v (.bool b)] else ofV v) s→RunsTo P (execOp a.eval o) w (OutOK nn Fs I w w0 I0 a.tmps K):=by
      intro v b hrun hK;refine .value (v:=if ok then .tuple #[v,.bool b] else v) (by simp only [execOp,ho,e1,Sem.run_bind,hrun,Result.andThen_ok];rfl) (.plain h hK ?_);cases ok with
      | true=>simp only [if_true,T];exact ⟨[v,.bool b],rfl,by simp only [Vals,T];exact ⟨v,[.bool b],[],[],rfl,rfl,ofV_T _ v,_,[],[],[],rfl,rfl,⟨rfl,rfl⟩,rfl,rfl⟩⟩
      | false=>simp only [Bool.false_eq_true,if_false];exact ofV_T _ v
    unfold mlkK at hk;split at hk
    · rename_i k' e em;obtain ⟨rfl,hk⟩:=hk;obtain ⟨bm,es,clock,e2,hh,he,hks⟩:=mp_T h (kkOf_isM hkk) em;have hf:=findKey_first (P:=P) (w:=w) hkk hku es.toList (keys_of he hks);have hg:=mget_idx he u;rw [e2] at fin;cases hi:es.toList.findIdx? (fun x=>keq u x.key) with
      | none=>rw [hi] at hf hg;rw [hg] at hk;simp only [Option.bind_none] at hk;refine fin z false ?_ hk;simp only [Instr.lookup,Sem.run_bind,run_underlying hm,MapKept.run_getObj_map hh,checkKey_first hkk hku,hf,hzr,Result.andThen_ok,Option.bind_none,Sem.run_pure]
      | some j=>obtain ⟨x,hx,_⟩:=idx_at hi;rw [hi] at hf hg;rw [hg] at hk;simp only [Option.bind_some,hx,Option.map_some] at hk;refine fin x.val true ?_ hk;simp only [Instr.lookup,Sem.run_bind,run_underlying hm,MapKept.run_getObj_map hh,checkKey_first hkk hku,hf,Result.andThen_ok,Option.bind_some,Array.getElem?_toList,hx,Option.map_some,Sem.run_pure]
    · split at hk
      · rename_i em;rw [em] at hM;have e2:=(T_v hM).1;rw [e2] at fin;have hf:=findKey_first (P:=P) (w:=w) hkk hku [] (fun _ h=>by cases h);refine fin z false ?_ hk;have hf':(Instr.findKey kt u (#[]:Array MapEntry).toList).run P w=.ok none w:=hf;simp only [Instr.lookup,Sem.run_bind,run_underlying hm,checkKey_first hkk hku,hf',hzr,Result.andThen_ok,Sem.run_pure]
      · exact hk.elim
  · exact hk.elim
theorem sim_mlen (h:RelI w0 I0 s a.tmps w I Fs){mt kt et:TypeId}{ats:Array TypeId}{m:Operand}{o:Oper}(ho:o.op=.call { callee:=.builtin .len,args:=#[m],argTypes:=ats })(ha:ats[0]?=some mt)(hm:P.underlying mt=some (.map kt et))(hk:evalK Ctr s (.mlen m) K):RunsTo P (execOp a.eval o) w (OutOK nn Fs I w w0 I0 a.tmps K):=by
  have hM:=lk_T h m;have fin:∀ n:Nat,(Builtin.len_ ats o.type #[a.eval m]).run P w=.ok (.int .i64 n) w→K (.v (.int .i64 (n:Int))) s→RunsTo P (execOp a.eval o) w (OutOK nn Fs I w w0 I0 a.tmps K):=(by intro n hrun hK;refine .value (v:=.int .i64 n) ?_ (.plain h hK T_vI);simp [execOp,ho,resolve,invoke,builtin,hrun]);simp only [evalK] at hk;split at hk
  · rename_i k e em;obtain ⟨hkM,hk⟩:=mlenK_out hk;obtain ⟨bm,es,clock,e2,hh,he,hks⟩:=mp_T h hkM em;refine fin e.length ?_ hk;have hl:e.length=es.size:=by rw [← he];simp
    simp [Builtin.len_,ha,e2,Sem.run_bind,run_underlying hm,MapKept.run_getObj_map hh,Result.andThen,hl,goInt]
  · split at hk
    · rename_i em;rw [em] at hM;refine fin 0 ?_ hk;simp [Builtin.len_,ha,(T_v hM).1,Sem.run_bind,run_underlying hm,Result.andThen,goInt]
    · exact hk.elim
theorem erase_map {α β:Type}(f:α→β):∀ (l:List α) (i:Nat),(l.eraseIdx i).map f=(l.map f).eraseIdx i
  | [],_=>rfl
  | _::_,0=>rfl
  | x::l,i+1=>by simp only [List.eraseIdx_cons_succ,List.map_cons,erase_map f l i]
theorem sim_mdel (h:RelI w0 I0 s a.tmps w I Fs) {k:KK} {mt kt et:TypeId} {ats:Array TypeId} {m i:Operand} {o:Oper} (ho:o.op=.call { callee:=.builtin .delete,args:=#[m,i],argTypes:=ats }) (ha:ats[0]?=some mt) (hm:P.underlying mt=some (.map kt et)) (hkk:kkOf P kt=some k) (hk:evalK Ctr s (.mdel k m i) K):RunsTo P (execOp a.eval o) w (OutOK false Fs I w w0 I0 a.tmps K):=by
  have hM:=lk_T h m;have hI:=lk_T h i;simp only [evalK] at hk;split at hk
  · rename_i r q em;rw [em] at hM;simp only [T] at hM;obtain ⟨⟨d0,u0,t0,m1,m2,m3,mo,m4⟩,_⟩:=hM;simp only [m1,m3] at hk;split at hk
    · rename_i k' e et0;simp only [Option.some.injEq] at et0;subst et0;obtain ⟨rfl,hk⟩:=hk;split at hk
      · rename_i u eu;obtain ⟨hku,hK⟩:=hk;have e1:=toV_T eu hI;obtain ⟨bm,es,clock,k1,k2,k3,k4,k5,k6⟩:=h.mapSet (kkOf_isM hkk) m1 m2 m3;rw [m4] at k1;have e3:a.eval m=.map (some bm):=by simpa using k1
        have hf:=findKey_first (P:=P) (w:=w) hkk hku es.toList (keys_of k3 k4);have main:∀ es':Array MapEntry,es'.toList.map (fun x=>(x.key,x.val))=mdel e u→(Builtin.delete_ ats o.type #[.map (some bm),u]).run P w=.ok (.tuple #[]) { w with heap:=w.heap.setIfInBounds bm (.map es' clock) }→RunsTo P (execOp a.eval o) w (OutOK false Fs I w w0 I0 a.tmps K):=(by intro es' hents hrun;have hset:=heap_set (o':=.map es' clock) k2;have hrel:=k6 { w with heap:=w.heap.setIfInBounds bm (.map es' clock) } (mdel e u) es' clock ⟨rfl,rfl,rfl,by simp⟩ hset.2 hset.1 hents (mdel_keys k4);refine .value (v:=.tuple #[]) (w':={ w with heap:=w.heap.setIfInBounds bm (.map es' clock) }) ?_ ⟨.undef,_,I,Fs,[],hK,hrel,by simp [T],Fresh.nil,fun h=>by cases h⟩;simp [execOp,ho,resolve,invoke,builtin,e1,e3,hrun]);cases hi:es.toList.findIdx? (fun x=>keq u x.key) with
        | none=>rw [hi] at hf;refine main es (by rw [k3];unfold mdel;rw [ents_idx k3,hi]) ?_;simp [Builtin.delete_,ha,Sem.run_bind,run_underlying hm,MapKept.run_getObj_map k2,checkKey_first hkk hku,hf,run_setObj_map _ k2,Result.andThen]
        | some j =>
          obtain ⟨x,hx,_⟩:=idx_at hi;rw [hi] at hf;refine main (es.eraseIdxIfInBounds j) ?_ ?_
          · unfold mdel;rw [ents_idx k3,hi];have hj:j<es.size:=(Array.getElem?_eq_some_iff.1 hx).1;rw [Array.eraseIdxIfInBounds,dif_pos hj,Array.toList_eraseIdx,← k3];simp only;rw [erase_map]
          · simp [Builtin.delete_,ha,Sem.run_bind,run_underlying hm,MapKept.run_getObj_map k2,checkKey_first hkk hku,hf,hx,run_setObj_map _ k2,Result.andThen]
      · exact hk.elim
    · exact hk.elim
  · exact hk.elim
end
end Go.V
namespace Go.V
open Go.RowKit
section
variable {P:Program} {w0:Base} {I0:Nat→Prop} {s:List D} {a:Act} {w:World} {I:Nat→Prop} {Fs:Nat→List Nat} {K:D→List D→Prop}
def ArgOK (s:List D)(tm:Array Value)(w:World)(I:Nat→Prop)(Fs:Nat→List Nat)(u:D)(v:Value):Prop:=∃ F,T I w u (ρS s tm w) v F∧(F=[]∨∃ t,s[t]?=some u∧∀ b,b∈F→b∈Fs t)
def ArgsOK (s:List D)(tm:Array Value)(w:World)(I:Nat→Prop)(Fs:Nat→List Nat):List D→List Value→Prop
  | [],vs=>vs=[]
  | u::us,vs=>∃ v vs',vs=v::vs'∧ArgOK s tm w I Fs u v∧ArgsOK s tm w I Fs us vs'
theorem raw_ok (h:RelI w0 I0 s a.tmps w I Fs)(x:Operand):ArgOK s a.tmps w I Fs (raw s x) (a.eval x):=by
  cases x with
  | tmp t =>
    simp only [raw];cases hs:s[t]? with
    | none=>exact ⟨[],by simp [T],.inl rfl⟩
    | some d =>
      obtain ⟨u,hu,hT⟩:=h.slot0 hs;have hg:a.eval (.tmp t)=u:=(by simp [Act.eval,hu]);rw [hg];cases d with
      | box tag cells=>have:=lkT_T h t;simp only [lkT,hs] at this;simp only [hu,Array.getD_eq_getD_getElem?,Option.getD_some] at this;exact ⟨[],this,.inl rfl⟩
      | _=>exact ⟨Fs t,hT,.inr ⟨t,hs,fun b hb=>hb⟩⟩
  | const v=>exact ⟨[],lk_T h (.const v),.inl rfl⟩
  | func f=>exact ⟨[],lk_T h (.func f),.inl rfl⟩
  | global g=>exact ⟨[],lk_T h (.global g),.inl rfl⟩
theorem args_ok (h:RelI w0 I0 s a.tmps w I Fs):∀ xs:List Operand,ArgsOK s a.tmps w I Fs (xs.map (raw s)) (xs.map a.eval)
  | []=>rfl
  | x::xs=>⟨_,_,rfl,raw_ok h x,args_ok h xs⟩
theorem vals_ok {tm:Array Value}:∀ {us:List D} {vs:List Value},Vals I w us (ρS s tm w) vs []→ArgsOK s tm w I Fs us vs
  | [],vs,h=>by simp only [Vals] at h;exact h.1
  | u::us,vs,h=>by simp only [Vals] at h;obtain ⟨v,vs',F1,F2,e,hF,ht,h2⟩:=h;simp at hF;obtain ⟨rfl,rfl⟩:=hF;exact ⟨v,vs',e,⟨[],ht,.inl rfl⟩,vals_ok h2⟩
theorem argsOK_app {tm:Array Value}:∀ {us us':List D} {vs vs':List Value},ArgsOK s tm w I Fs us vs→ArgsOK s tm w I Fs us' vs'→ArgsOK s tm w I Fs (us++us') (vs++vs')
  | [],us',vs,vs',h,h'=>by have h:vs=[]:=h;rw [h];exact h'
  | u::us,us',vs,vs',h,h'=>by obtain ⟨v,vs1,e,h1,h2⟩:=h;exact ⟨v,vs1++vs',by rw [e];rfl,h1,argsOK_app h2 h'⟩
theorem argsOK_get {tm:Array Value}:∀ {us:List D} {vs:List Value} {i:Nat} {u:D},ArgsOK s tm w I Fs us vs→us[i]?=some u→∃ v,vs[i]?=some v∧ArgOK s tm w I Fs u v
  | [],vs,i,u,h,hu=>by simp at hu
  | x::us,vs,0,u,h,hu=>by obtain ⟨v,vs1,e,h1,h2⟩:=h;obtain rfl:x=u:=(by simpa using hu);exact ⟨v,by rw [e];rfl,h1⟩
  | x::us,vs,i+1,u,h,hu=>by obtain ⟨v,vs1,e,h1,h2⟩:=h;obtain ⟨v',k1,k2⟩:=argsOK_get h2 (by simpa using hu);exact ⟨v',by rw [e];simpa using k1,k2⟩
theorem io_vals {tm:Array Value} (h:RelI w0 I0 s a.tmps w I Fs) {r:Nat} {tag:Option Nat} {cells:List D} (hs:s[r]?=some (.box tag cells)) {I':Nat→Prop} (hI:∀ b,I b→I' b):∀ {us:List D} {vs:List Value},ArgsOK s a.tmps w I Fs us vs→((us.map (D.prune (notRoot r))).all D.noRef=true∨∀ r',r'≠r→∀ b,b∈Fs r'→I' b) →
    Vals I' w ((us.map (D.prune (notRoot r))).map (deep ((pruneL (notRoot r) s).set r .undef) 8)) nil vs []
  | [],vs,hv,_=>by have hv:vs=[]:=hv;simp [Vals,hv]
  | u :: us,vs,hv,hn=>by
    obtain ⟨v,vs',e,⟨F,hT,hF⟩,h2⟩:=hv;simp only [List.map_cons,Vals];refine ⟨v,vs',[],[],e,rfl,?_,io_vals (tm:=tm) h hs hI h2 (hn.imp_left (fun hn=>by simp only [List.map_cons,List.all_cons,Bool.and_eq_true] at hn;exact hn.2))⟩;have hT':T I w (u.prune (notRoot r)) (ρS ((pruneL (notRoot r) s).set r .undef) a.tmps w) v F:=T.turn (fun y v hq hy=>hy.forget r hq) u hT;by_cases hb:∃ tg cs,u=.box tg cs
    · obtain ⟨tg,cs,rfl⟩:=hb;simp [D.prune,deep,T]
    · have hsub:∀ r' b,b∈upd Fs r [] r'→r'≠r∧b∈Fs r':=fun r' b hb=>by
        unfold upd at hb;split at hb
        · cases hb
        · rename_i hne;exact ⟨hne,hb⟩
      refine deep_T (h.forget r) hI 8 (u.prune (notRoot r)) (fun _ _ h=>h) hT' (fun b hbF=>?_) ?_
      · rcases hF with rfl | ⟨t,ht,hF⟩
        · cases hbF
        · have hne:t≠r:=(by rintro rfl;rw [hs] at ht;cases ht;exact hb ⟨_,_,rfl⟩);rcases hn with hn | hn
          · simp only [List.map_cons,List.all_cons,Bool.and_eq_true] at hn;have:=T.nofoot _ hT' (noRef_owny _ hn.1);rw [this] at hbF;cases hbF
          · exact hn t hne b (hF b hbF)
      · rcases hn with hn | hn
        · simp only [List.map_cons,List.all_cons,Bool.and_eq_true] at hn;exact .inl hn.1
        · exact .inr fun r' b hb=>hn r' (hsub r' b hb).1 b (hsub r' b hb).2
theorem vals_setU:∀ {ds:List D} {us:List Value} {ρ:D→Value→Prop} (i:Nat),Vals I w ds ρ us []→Vals I w (ds.set i .undef) ρ us []
  | [],us,ρ,i,h=>by simpa using h
  | d::ds,us,ρ,i,h=>by
    simp only [Vals] at h;obtain ⟨u,us',F1,F2,e,hF,ht,h2⟩:=h;simp at hF;obtain ⟨rfl,rfl⟩:=hF;cases i with
    | zero=>simp only [List.set_cons_zero,Vals];exact ⟨u,us',[],[],e,rfl,by simp [T],h2⟩
    | succ i=>simp only [List.set_cons_succ,Vals];exact ⟨u,us',[],[],e,rfl,ht,vals_setU i h2⟩
theorem RelI.repoint {tm:Array Value} {w':World} {I2:Nat→Prop} {Fs2:Nat→List Nat} {r:Nat} {tag tag':Option Nat} {cells cells':List D} {u0:Value} {X':List Nat} (h:RelI w0 I0 s tm w I Fs) (hs:s[r]?=some (.box tag cells)) (hu:tm[r]?=some u0)
    (h2:RelI w0 I0 ((pruneL (notRoot r) s).set r (.box tag' cells')) tm w' I2 Fs2) (hF:∀ k,k≠r→Fs2 k=Fs k) (hr:Fs2 r=X') (hI:∀ b,I b→I2 b) (hk:∀ b,I b∨(∃ k,k≠r∧b∈Fs k)→w'.heap[b]?=w.heap[b]?) (hB:T I2 w' (.box tag' cells') nil u0 X') :
    RelI w0 I0 ((pruneL (keepB r) s).set r (.box tag' cells')) tm w' I2 Fs2 where
  below:=h2.below
  len:=by have:=h2.len;simpa [pruneL_len] using this
  slot := by
    intro k d u h1 hu';have hlt:r<s.length:=(List.getElem?_eq_some_iff.1 hs).1;by_cases hkr:k=r
    · subst hkr;simp [pruneL_len,hlt] at h1;rw [hu] at hu';cases hu';rw [← h1,hr];exact hB.res (fun _ _ h=>h.elim)
    · rw [List.getElem?_set_ne (Ne.symm hkr),pruneL_get] at h1;cases hsk:s[k]? with
      | none=>simp [hsk] at h1
      | some d1 =>
        simp only [hsk,Option.map_some,Option.some.injEq] at h1;rw [← h1,hF k hkr];refine T.turn (fun x v hq hx=>?_) d1 (T.mono hI d1 (T.keep d1 (h.slot k d1 u hsk hu') (fun b hb=>hk b (hb.imp_right fun hb=>⟨k,hkr,hb⟩))));have hget:∀ r' d',r'≠r→s[r']?=some d'→((pruneL (keepB r) s).set r (.box tag' cells'))[r']?=some (d'.prune (keepB r)):=fun r' d' hne hd=>by rw [List.getElem?_set_ne (Ne.symm hne),pruneL_get,hd];rfl
        have hval:∀ r' d' v0 p t,r'≠r→s[r']?=some d'→tm[r']?=some v0→treeAt d' p=some t→valAt w' v0 (d'.prune (keepB r)) p=valAt w v0 d' p:=fun r' d' v0 p t hne k1 k2 k3=>by rw [val_prune p d' (keepB r) k3,val_frame p d' (h.slot r' d' v0 k1 k2) k3 (fun b hb=>hk b (.inr ⟨r',hne,hb⟩))]
        cases x with
        | ref r' p=>obtain ⟨d',v0,t1,k1,k2,k3,ho,k4⟩:=hx;have hne:r'≠r:=(by simpa [keepB] using hq);obtain ⟨q',hq'⟩:=tree_prune p d' (keepB r) k3;exact ⟨_,v0,t1,hget r' d' hne k1,k2,by rw [ownv_prune ho] at hq';exact hq',ho,by rw [hval r' d' v0 p t1 hne k1 k2 k3];exact k4⟩
        | sub r' p i n=>obtain ⟨d',v0,t',sz,rows,u1,b,o,cc,k1,k2,k3,k4,k5,k6⟩:=hx;have hne:r'≠r:=(by simpa [keepB] using hq);obtain ⟨q',hq'⟩:=tree_prune p d' (keepB r) k3;obtain ⟨rows',hr'⟩:=(like_prune k4 q').cont k4;exact ⟨_,v0,t'.prune q',sz,rows',u1,b,o,cc,hget r' d' hne k1,k2,hq',hr',by rw [hval r' d' v0 p t' hne k1 k2 k3];exact k5,k6⟩
        | ptr r' p i j =>
          obtain ⟨d',v0,t',sz,rows,u1,b,o,k1,k2,k3,k4,k5,k6,k7⟩:=hx;by_cases hne:r'=r
          · subst hne;have hp:p=[]∧i=0:=by simpa [keepB] using hq
            obtain ⟨rfl,rfl⟩:=hp;rw [hu] at k2;cases k2;simp only [valAt,Option.some.injEq] at k5;subst k5;exact ⟨_,u0,_,cells'.length,[cells'],u0,b,o,by simp [pruneL_len,hlt];rfl,hu,rfl,rfl,rfl,k6,by rw [k7];simp⟩
          · obtain ⟨q',hq'⟩:=tree_prune p d' (keepB r) k3;obtain ⟨rows',hr'⟩:=(like_prune k4 q').cont k4;exact ⟨_,v0,t'.prune q',sz,rows',u1,b,o,hget r' d' hne k1,k2,hq',hr',by rw [hval r' d' v0 p t' hne k1 k2 k3];exact k5,k6,k7⟩
        | _=>exact hx.elim
  nd:=h2.nd
  disj:=h2.disj
  own:=h2.own
  imm:=h2.imm
  imm0:=h2.imm0
  immN:=h2.immN
theorem io_T {G:World→(Nat→Prop)→Prop} (hG:GI G w I0) (h:RelI w0 I0 s a.tmps w I Fs) {f:FuncId} {us:List D} {vs:List Value} (hv:ArgsOK s a.tmps w I Fs us vs) (hk:ioK (CT P G) f s us K) :
    Calls P f vs.toArray w fun e w'=>∃ v,e=.returned v∧OutOK false Fs I w w0 I0 a.tmps K v w':=by
  obtain ⟨i,r,tag,cells,args',cells0,hi,hs,hle,hlc,hkb⟩:=hk;obtain ⟨u0,hu0,hTb⟩:=h.slot0 hs;simp only [T] at hTb;obtain ⟨b,cs,et,F',hub,htg0,hh,hFr,hcs⟩:=hTb;obtain ⟨d,cells',tag',htt,hC,hn,hK⟩:=hkb b htg0;have htg:∀ k,tag'=some k→b=k:=by
    rcases htt with rfl | rfl
    · exact htg0
    · intro k e;cases e;rfl
  have hptr:vs[i]?=some (.pointer (some ⟨b,0,none⟩)):=(by obtain ⟨v,hvi,F,hT,_⟩:=argsOK_get hv hi;simp only [T] at hT;obtain ⟨⟨d1,u1,t1,sz,rows,u2,b1,o1,m1,m2,m3,m4,m5,m6,m7⟩,_⟩:=hT;rw [hu0] at m2;cases m2;simp only [valAt,Option.some.injEq] at m5;subst m5;rw [hub] at m6;simp only [baseOf,Option.some.injEq,Prod.mk.injEq] at m6;obtain ⟨rfl,rfl⟩:=m6;rw [hvi,m7];simp);have hcs0:Cells I w (pruneL (fun _=>false) cells) nil cs.toList F':=Cells.turn (fun x v hq _=>by cases hq) cells hcs;obtain ⟨F0,hcs1,hsub⟩:=Cells.leF _ _ hcs0 hlc;have hndr:=h.nd r;rw [hFr] at hndr;have hXr:∀ x,x∈b::F0→x∈Fs r:=fun x hx=>by
    rw [hFr];rcases List.mem_cons.1 hx with rfl | hx
    · simp
    · exact List.mem_cons_of_mem _ (hsub.subset hx)
  have hXnd:(b::F0).Nodup:=List.nodup_cons.2 ⟨fun hb=>(List.nodup_cons.1 hndr).1 (hsub.subset hb),hsub.nodup (List.nodup_cons.1 hndr).2⟩;have hupd:∀ r' x,x∈upd Fs r [] r'→r'≠r∧x∈Fs r':=fun r' x hx=>by
    unfold upd at hx;split at hx
    · cases hx
    · rename_i hne;exact ⟨hne,hx⟩
  have hfg:=h.forget r;have htmr:∀ v,v=u0→a.tmps.setIfInBounds r v=a.tmps:=by
    rintro _ rfl;apply Array.ext_getElem?;intro j;by_cases hj:r=j
    · subst hj;rw [hu0,Array.getElem?_setIfInBounds_self_of_lt (Array.getElem?_eq_some_iff.1 hu0).1]
    · rw [Array.getElem?_setIfInBounds_ne hj]
  have hlt:=(List.getElem?_eq_some_iff.1 hs).1
  -- the end, whichever blocks stay
  have fin:∀ (Ic:Nat→Prop),(∀ x,I x→Ic x)→(∀ x,Ic x→x<w.heap.size)→(∀ x,x∈b::F0→¬ Ic x)→Vals Ic w args' nil vs []→(∀ {v:Value} {w':World} {F X':List Nat} {I':Nat→Prop},(ioB w (b::F0)).Below w'→T I' w' d nil v F→T I' w' (.box (some b) cells') nil (.pointer (some ⟨b,0,none⟩)) X'→(∀ x,Ic x→I' x)→(∀ x,I' x→(Ic x∨w.heap.size≤x∨x∈b::F0)∧x<w'.heap.size)→(F++X').Nodup→(∀ x,x∈F++X'→(w.heap.size≤x∨x∈b::F0)∧x<w'.heap.size∧¬ I' x) →
        ∃ I2,(∀ x,I x→I2 x)∧RelI w0 I0 ((pruneL (notRoot r) s).set r .undef) a.tmps w' I2 (upd Fs r [])∧T I2 w' d nil v F∧T I2 w' (.box (some b) cells') nil (.pointer (some ⟨b,0,none⟩)) X'∧∀ x,x∈F++X'→¬ I2 x) →
      Calls P f vs.toArray w fun e w'=>∃ v,e=.returned v∧OutOK false Fs I w w0 I0 a.tmps K v w':=by
    intro Ic hIc hIlt hIX hvals hend;refine (hC.2 w Ic vs (b::F0) (hG.mono fun b hb=>hIc b (h.imm0 b hb)) hIlt hptr (vals_setU i hvals) ?_ hXnd (fun x hx=>⟨(h.own r x (hXr x hx)).2.1,hIX x hx⟩)).mono ?_
    · refine T.mono hIc (.box (some b) cells0) ?_;simp only [T];exact ⟨b,cs,et,F0,rfl,fun k hk=>by cases hk;rfl,hh,rfl,hcs1⟩
    · rintro e w' ⟨v,F,X',I',he,hbel,hTd,hTx,hnd,hF,hI1,hI2⟩;obtain ⟨I2,hII2,hR,hTd2,hTx2,hnI⟩:=hend hbel hTd hTx hI1 hI2 hnd hF;have hnd1:=List.nodup_append.1 hnd;have hTx3:T I2 w' (.box tag' cells') (ρS ((pruneL (notRoot r) s).set r .undef) a.tmps w') u0 X':=by simp only [T] at hTx2 ⊢;obtain ⟨b2,cs2,e2,F2,k1,_,k3,k4,k5⟩:=hTx2;simp only [Value.pointer.injEq,Option.some.injEq,Addr.mk.injEq,and_true] at k1;subst k1;exact ⟨b,cs2,e2,F2,hub,htg,k3,k4,k5.res (fun _ _ h=>h.elim)⟩
      have hN:∀ x,(w.heap.size≤x∨x∈b::F0)→w0.N x:=fun x hx=>hx.elim (fun h1=>Base.N_of h.below h1) (fun h1=>(h.own r x (hXr x h1)).1);have hout:∀ x,(w.heap.size≤x∨x∈b::F0)→∀ r',x∉upd Fs r [] r':=fun x hx r' hr=>by
        obtain ⟨hne,hr⟩:=hupd r' x hr;rcases hx with hx | hx
        · have:=(h.own r' x hr).2.1;omega
        · exact hne (h.disj r' r x hr (hXr x hx))
      have hput:=hR.put (t:=r) (d0:=.undef) (d:=.box tag' cells') (u:=u0) (F:=X') (by simp [pruneL_len,hlt]) rfl hTx3 hnd1.2.1 (fun x hx=>⟨hN x (hF x (by simp [hx])).1,(hF x (by simp [hx])).2.1,hnI x (by simp [hx]),fun r' _=>hout x (hF x (by simp [hx])).1 r'⟩);rw [htmr u0 rfl,List.set_set] at hput;have hTx4:T I2 w' (.box tag' cells') nil u0 X':=(by simp only [T] at hTx2 ⊢;obtain ⟨b2,cs2,e2,F2,k1,_,k3,k4,k5⟩:=hTx2;simp only [Value.pointer.injEq,Option.some.injEq,Addr.mk.injEq,and_true] at k1;subst k1;exact ⟨b,cs2,e2,F2,hub,htg,k3,k4,k5⟩);have hkeep0:∀ x,x<w.heap.size→x∉b::F0→w'.heap[x]?=w.heap[x]?:=fun x hx hn=>hbel.block x (fun hN=>hN.elim (fun h=>by have h:w.heap.size≤x:=h;omega) hn);have hput:=RelI.repoint h hs hu0 hput (fun k hk=>by unfold upd;rw [if_neg hk,if_neg hk]) (by unfold upd;rw [if_pos rfl]) hII2 (fun x hx=>by
        rcases hx with hx | ⟨k,hk,hx⟩
        · exact hkeep0 x (h.imm x hx) (fun hX=>(h.own r x (hXr x hX)).2.2 hx)
        · exact hkeep0 x (h.own k x hx).2.1 (fun hX=>hk (h.disj k r x hx (hXr x hX)))) hTx4
      refine ⟨v,he,d,_,I2,_,F,hK,hput,hTd2.res (fun _ _ h=>h.elim),⟨hnd1.1,fun x hx=>⟨hN x (hF x (by simp [hx])).1,(hF x (by simp [hx])).2.1,hnI x (by simp [hx]),fun r' hr=>?_⟩⟩,fun h=>by cases h⟩;by_cases hrr:r'=r
      · subst hrr;simp only [upd,if_true] at hr;exact hnd1.2.2 x hx x hr rfl
      · have:x∈upd Fs r [] r':=(by unfold upd at hr ⊢;rw [if_neg hrr] at hr ⊢;rw [if_neg hrr] at hr;exact hr);exact hout x (hF x (by simp [hx])).1 r' this
  have hsame:∀ {w':World},(ioB w (b::F0)).Below w'→RelI w0 I0 ((pruneL (notRoot r) s).set r .undef) a.tmps w' I (upd Fs r []):=by
    intro w' hbel;have hkeep:∀ x,x<w.heap.size→x∉b::F0→w'.heap[x]?=w.heap[x]?:=fun x hx hn=>hbel.block x (fun hN=>hN.elim (fun h=>by have h:w.heap.size≤x:=h;omega) hn);refine hfg.same ⟨hbel.os,hbel.tape,hbel.output,hbel.size,fun k hk=>hkeep k (Nat.lt_of_lt_of_le (Base.not hk) h.below.size) (fun hx=>hk (h.own r k (hXr k hx)).1)⟩ (fun x hx=>?_);rcases hx with hx | ⟨r',hr⟩
    · exact hkeep x (h.imm x hx) (fun hX=>(h.own r x (hXr x hX)).2.2 hx)
    · obtain ⟨hne,hr⟩:=hupd r' x hr;exact hkeep x (h.own r' x hr).2.1 (fun hX=>hne (h.disj r' r x hr (hXr x hX)))
  by_cases hnr:(us.map (D.prune (notRoot r))).all D.noRef=true
  · refine fin I (fun _ h=>h) h.imm (fun x hx=>(h.own r x (hXr x hx)).2.2) (Vals.le _ _ (io_vals (tm:=a.tmps) h hs (fun _ h=>h) hv (.inl hnr)) hle) ?_;intro v w' F X' I' hbel hTd hTx hI1 hI2 hnd hF;refine ⟨I',hI1,(hsame hbel).immMore hI1 (fun x hx=>?_),hTd,hTx,fun x hx=>(hF x hx).2.2⟩;obtain ⟨k1,k2⟩:=hI2 x hx;rcases k1 with k1 | k1
    · exact .inl k1
    · refine .inr ⟨k1.elim (fun h1=>Base.N_of h.below h1) (fun h1=>(h.own r x (hXr x h1)).1),k2,fun r' hr=>?_⟩;obtain ⟨hne,hr⟩:=hupd r' x hr;rcases k1 with k1 | k1
      · have:=(h.own r' x hr).2.1;omega
      · exact hne (h.disj r' r x hr (hXr x k1))
  · have hni:=hn.resolve_right hnr;refine fin (fun x=>I x∨∃ r',r'≠r∧x∈Fs r') (fun _ h=>.inl h) (fun x hx=>hx.elim (h.imm x) (fun ⟨r',_,hr⟩=>(h.own r' x hr).2.1)) (fun x hx hI=>?_) (Vals.le _ _ (io_vals (tm:=a.tmps) h hs (fun _ h=>.inl h) hv (.inr fun r' hne b hb=>.inr ⟨r',hne,hb⟩)) hle) ?_
    · rcases hI with hI | ⟨r',hne,hr⟩
      · exact (h.own r x (hXr x hx)).2.2 hI
      · exact hne (h.disj r' r x hr (hXr x hx))
    · intro v w' F X' I' hbel hTd hTx hI1 hI2 hnd hF;refine ⟨I,fun _ h=>h,hsame hbel,T.noImm d hTd hni.1,T.noImm (.box (some b) cells') hTx (by simpa [D.noImm] using hni.2),fun x hx hI=>?_⟩;rcases (hF x hx).1 with h1 | h1
      · have:=h.imm x hI;omega
      · exact (h.own r x (hXr x h1)).2.2 hI
theorem lend_vals (h:RelI w0 I0 s a.tmps w I Fs)(r:Nat){I':Nat→Prop}(hI:∀ b,I b→I' b):∀ {us:List D} {vs:List Value},ArgsOK s a.tmps w I Fs us vs→us.all (fun u=>!u.owny)=true→((us.map (D.prune (notRoot r))).all D.noRef=true∨∀ r',r'≠r→∀ b,b∈Fs r'→I' b) →
    Vals I' w ((us.map (D.prune (notRoot r))).map (deep ((pruneL (notRoot r) s).set r .undef) 8)) nil vs []
  | [],vs,hv,_,_=>by have hv:vs=[]:=hv;simp [Vals,hv]
  | u :: us,vs,hv,hn,hI'=>by
    obtain ⟨v,vs',e,⟨F,hT,hF⟩,h2⟩:=hv;simp only [List.all_cons,Bool.and_eq_true,Bool.not_eq_true'] at hn;simp only [List.map_cons,Vals];refine ⟨v,vs',[],[],e,rfl,?_,lend_vals h r hI h2 hn.2 (hI'.imp_left fun hn=>by simp only [List.map_cons,List.all_cons,Bool.and_eq_true] at hn;exact hn.2)⟩;have hFn:F=[]:=T.nofoot _ hT hn.1;subst hFn;have hT':T I w (u.prune (notRoot r)) (ρS ((pruneL (notRoot r) s).set r .undef) a.tmps w) v []:=T.turn (fun y v hq hy=>hy.forget r hq) u hT;refine deep_T (h.forget r) hI 8 (u.prune (notRoot r)) (fun _ _ h=>h) hT' (fun b hb=>by cases hb) ?_;rcases hI' with hI' | hI'
    · simp only [List.map_cons,List.all_cons,Bool.and_eq_true] at hI';exact .inl hI'.1
    · refine .inr fun r' b hb=>?_;unfold upd at hb;split at hb
      · cases hb
      · rename_i hne;exact hI' r' hne b hb
theorem argsOK_setU {tm:Array Value}:∀ {us:List D} {vs:List Value} (i:Nat),ArgsOK s tm w I Fs us vs→ArgsOK s tm w I Fs (us.set i .undef) vs
  | [],vs,i,h=>h
  | u::us,vs,i,h=>by
    obtain ⟨v,vs',e,h1,h2⟩:=h;cases i with
    | zero=>exact ⟨v,vs',e,⟨[],by simp [T],.inl rfl⟩,h2⟩
    | succ i=>exact ⟨v,vs',e,h1,argsOK_setU i h2⟩
theorem plain_res {I:Nat→Prop}{w:World}{ρ ρ':D→Value→Prop}:∀ {ds:List D} {us:List Value} {F:List Nat},ds.all D.plain=true→Cells I w ds ρ us F→Cells I w ds ρ' us F
  | [],us,F,_,h=>by simpa only [Cells] using h
  | d::ds,us,F,hx,h=>by
    simp only [List.all_cons,Bool.and_eq_true] at hx;simp only [Cells] at h ⊢;obtain ⟨u,us',F1,F2,e,hF,ho,h1,h2⟩:=h;cases d with
    | v x=>exact ⟨u,us',F1,F2,e,hF,ho,by simpa only [T] using h1,plain_res hx.2 h2⟩
    | undef=>exact ⟨u,us',F1,F2,e,hF,ho,by simpa only [T] using h1,plain_res hx.2 h2⟩
    | _=>simp [D.plain] at hx
theorem exact_res {I:Nat→Prop}{w:World}{ρ ρ':D→Value→Prop}:∀ {ds:List D} {us:List Value} {F:List Nat},exactL ds=true→Cells I w ds ρ us F→Cells I w ds ρ' us F
  | [],us,F,_,h=>by simpa only [Cells] using h
  | d :: ds,us,F,hx,h=>by
    simp only [Cells] at h ⊢;obtain ⟨u,us',F1,F2,e,hF,ho,h1,h2⟩:=h;cases d with
    | v x=>exact ⟨u,us',F1,F2,e,hF,ho,by simpa only [T] using h1,exact_res (by simpa only [exactL] using hx) h2⟩
    | nils=>exact ⟨u,us',F1,F2,e,hF,ho,by simpa only [T] using h1,exact_res (by simpa only [exactL] using hx) h2⟩
    | sl own sz rows =>
      cases own with
      | false=>simp [exactL] at hx
      | true=>exact ⟨u,us',F1,F2,e,hF,ho,by simpa only [T] using h1,exact_res (by simpa only [exactL] using hx) h2⟩
    | box tag cs=>simp only [exactL,Bool.and_eq_true] at hx;refine ⟨u,us',F1,F2,e,hF,ho,?_,exact_res hx.2 h2⟩;simp only [T] at h1 ⊢;obtain ⟨b,cs',et,F',k1,k2,k3,k4,k5⟩:=h1;exact ⟨b,cs',et,F',k1,k2,k3,k4,plain_res hx.1 k5⟩
    | _=>simp [exactL] at hx
theorem exact_T {I:Nat→Prop}{w:World}{ρ ρ':D→Value→Prop}{d:D}{u:Value}{F:List Nat}(hx:d.exact=true)(h:T I w d ρ u F):T I w d ρ' u F:=by
  cases d with
  | sl own sz rows=>simpa only [T] using h
  | mp k e=>simpa only [T] using h
  | agg cs=>simp only [T] at h ⊢;obtain ⟨us,e,hc⟩:=h;exact ⟨us,e,exact_res (by simpa [D.exact] using hx) hc⟩
  | _=>simp [D.exact] at hx
theorem cpy_exact {s:List D} {tm:Array Value} {r:Nat} {tag:Option Nat} {all:List D} {b:Nat} {cs:Array Value} {et:TypeId} (hs:s[r]?=some (.box tag all)) (hu:tm[r]?=some (.pointer (some ⟨b,0,none⟩))) (hh:w.heap[b]?=some (.cells cs et (0,0))):∀ (ds:List D) (j:Nat) {us vs:List Value} {F:List Nat} {ρ:D→Value→Prop},exactL ds=true→all.drop j=ds→cs.toList.drop j=vs→Cells I w ds ρ vs F→Cells I w (cpyL r [] 0 j ds) (ρS s tm w) us []→us=vs
  | [],j,us,vs,F,ρ,_,_,_,h1,h2=>by simp only [cpyL,Cells] at h1 h2;rw [h1.1,h2.1]
  | d :: ds,j,us,vs,F,ρ,hx,hd,hv,h1,h2=>by
    simp only [Cells] at h1;obtain ⟨v,vs',F1,F2,ev,hF,ho,ht,h1⟩:=h1;have hd':all.drop (j+1)=ds:=by rw [← List.drop_drop,hd];rfl
    have hv':cs.toList.drop (j+1)=vs':=(by rw [← List.drop_drop,hv,ev];rfl);have hj:all[j]?=some d:=(by have:=congrArg (fun l=>l[0]?) hd;simpa using this);have hcj:cs[j]?=some v:=(by have:=congrArg (fun l=>l[0]?) hv;rw [ev] at this;simpa using this);cases d with
    | v x=>simp only [cpyL,D.owny,Bool.false_eq_true,if_false,Cells] at h2;obtain ⟨u,us',G1,G2,eu,hG,hou,htu,h2⟩:=h2;simp at hG;obtain ⟨rfl,rfl⟩:=hG;simp only [T] at ht htu;rw [eu,ev,ht.1,htu.1,cpy_exact hs hu hh ds (j+1) (by simpa only [exactL] using hx) hd' hv' h1 h2]
    | nils=>simp only [cpyL,D.owny,Bool.false_eq_true,if_false,Cells] at h2;obtain ⟨u,us',G1,G2,eu,hG,hou,htu,h2⟩:=h2;simp at hG;obtain ⟨rfl,rfl⟩:=hG;simp only [T] at ht htu;rw [eu,ev,ht.1,htu.1,cpy_exact hs hu hh ds (j+1) (by simpa only [exactL] using hx) hd' hv' h1 h2]
    | sl own sz rows =>
      cases own with
      | false=>simp [exactL] at hx
      | true =>
        simp only [cpyL,Cells,List.nil_append] at h2;obtain ⟨u,us',G1,G2,eu,hG,hou,htu,h2⟩:=h2;simp at hG;obtain ⟨rfl,rfl⟩:=hG;have heq:=cpy_exact hs hu hh ds (j+1) (by simpa only [exactL] using hx) hd' hv' h1 h2;simp only [T,ρS] at htu;obtain ⟨⟨d1,u1,t1,k1,k2,k3,k4,k5⟩,_⟩:=htu;rw [hs] at k1;cases k1;rw [hu] at k2;cases k2;have hc:w.cell? ⟨b,0+0*all.length+j,none⟩=some v:=by rw [cell_row hh];simpa using hcj
        simp only [valAt,D.cont,baseOf,List.getElem?_cons_zero,hj,hc,Option.some.injEq] at k5;rw [eu,ev,k5,heq]
    | box tg bs =>
      simp only [exactL,Bool.and_eq_true] at hx;simp only [cpyL,Cells,List.nil_append] at h2;obtain ⟨u,us',G1,G2,eu,hG,hou,htu,h2⟩:=h2;simp at hG;obtain ⟨rfl,rfl⟩:=hG;have heq:=cpy_exact hs hu hh ds (j+1) hx.2 hd' hv' h1 h2;simp only [T,ρS] at htu;obtain ⟨⟨d1,u1,t1,sz,rows,u2,b1,o1,k1,k2,k3,k4,k5,k6,k7⟩,_⟩:=htu;rw [hs] at k1;cases k1;rw [hu] at k2;cases k2;have hc:w.cell? ⟨b,0+0*all.length+j,none⟩=some v:=by rw [cell_row hh];simpa using hcj
      simp only [valAt,D.cont,baseOf,List.getElem?_cons_zero,hj,hc,Option.some.injEq] at k5;subst k5;simp only [T] at ht;obtain ⟨bb,_,_,_,hub,_⟩:=ht;rw [hub] at k6;simp only [baseOf,Option.some.injEq,Prod.mk.injEq] at k6;obtain ⟨rfl,rfl⟩:=k6;rw [eu,ev,heq,k7,hub];simp
    | _=>simp [exactL] at hx
theorem flat_res {I:Nat→Prop} {w:World} {ρ ρ':D→Value→Prop}:∀ {ds:List D} {us:List Value} {F:List Nat},ds.all D.flatI=true→Cells I w ds ρ us F→F=[]∧Cells I w ds ρ' us []
  | [],us,F,_,h=>by simp only [Cells] at h ⊢;exact ⟨h.2,h.1,trivial⟩
  | d :: ds,us,F,hx,h=>by
    simp only [List.all_cons,Bool.and_eq_true] at hx;simp only [Cells] at h ⊢;obtain ⟨u,us',F1,F2,e,hF,ho,h1,h2⟩:=h;obtain ⟨rfl,h3⟩:=flat_res (ρ':=ρ') hx.2 h2;cases d with
    | v x=>simp only [T] at h1;exact ⟨by rw [hF,h1.2];rfl,u,us',[],[],e,rfl,ho,by simp only [T];exact ⟨h1.1,trivial⟩,h3⟩
    | nils=>simp only [T] at h1;exact ⟨by rw [hF,h1.2];rfl,u,us',[],[],e,rfl,ho,by simp only [T];exact ⟨h1.1,trivial⟩,h3⟩
    | sl own sz rows =>
      cases own with
      | true=>simp [D.flatI] at hx
      | false =>
        have h1':=h1;simp only [T] at h1;obtain ⟨aa,c,k1,k2,k3,k4⟩:=h1;rcases k4 with ⟨_,k5,_⟩ | ⟨k5,_⟩
        · subst k5;exact ⟨by rw [hF];rfl,u,us',[],[],e,rfl,ho,by simpa only [T] using h1',h3⟩
        · cases k5
    | _=>simp [D.flatI] at hx
theorem box_retag {I I2:Nat→Prop}{w w2:World}{ρ:D→Value→Prop}{tg:Option Nat}{cs cells':List D}{u:Value}{F X':List Nat}(h:T I w (.box tg cs) ρ u F)(h2:T I2 w2 (.box none cells') nil u X'):T I2 w2 (.box tg cells') nil u X':=by simp only [T] at h h2 ⊢;obtain ⟨b,_,_,_,hu,ht,_⟩:=h;obtain ⟨b2,cs2,e2,F2,k1,_,k3,k4,k5⟩:=h2;rw [hu] at k1;simp only [Value.pointer.injEq,Option.some.injEq,Addr.mk.injEq,and_true] at k1;subst k1;exact ⟨b,cs2,e2,F2,hu,ht,k3,k4,k5⟩
theorem box_untag {I:Nat→Prop}{w:World}{ρ:D→Value→Prop}{tg:Option Nat}{cs:List D}{u:Value}{F:List Nat}(h:T I w (.box tg cs) ρ u F):T I w (.box none (pruneL (fun _=>false) cs)) nil u F:=by have:=T.turn (q:=fun _=>false) (ρ':=nil) (fun x v hq _=>by cases hq) (D.box tg cs) h;simp only [D.prune,T] at this ⊢;obtain ⟨b2,cs2,et2,F2,m1,_,m3,m4,m5⟩:=this;exact ⟨b2,cs2,et2,F2,m1,(fun k hk=>by cases hk),m3,m4,m5⟩
theorem lend_core {G:World→(Nat→Prop)→Prop} (hG:GI G w I0) (h:RelI w0 I0 s a.tmps w I Fs) {f:FuncId} {us:List D} {vs:List Value} (hv:ArgsOK s a.tmps w I Fs us vs) {i r:Nat} {fr:Bool} {d d0 d' dnew dr res:D} {args':List D} {u0 vx:Value} (hs:s[r]?=some d) (hu0:a.tmps[r]?=some u0) (hvx:vs[i]?=some vx)
    (hsp:∃ A X B ur,Fs r=A++X++B∧T I w d0 nil vx X∧(∀ (I2:Nat→Prop) (w2:World) (X':List Nat),T I2 w2 d' nil vx X'→T I2 w2 dr nil ur X')∧∀ (I2:Nat→Prop) (w2:World) (X':List Nat),(fr=true∨I2=I)→(∀ y,I y∨y∈A∨y∈B→w2.heap[y]?=w.heap[y]?)→T I2 w2 dr nil ur X'→T I2 w2 dnew nil u0 (A++X'++B))
    (hoth:(∃ d,s[r]?=some d∧d.boxy=true)∨(us.set i .undef).all (fun u=>!u.owny)=true) (hle:leL (((us.set i .undef).map (D.prune (notRoot r))).map (deep ((pruneL (notRoot r) s).set r .undef) 8)) args') (hC:ContractL P G f i args' d0 res d')
    (hcs:(fr=false∧res.noImm=true∧dr.noImm=true)∨(fr=true∧((us.set i .undef).map (D.prune (notRoot r))).all D.noRef=true)) (hK:K res ((pruneL (notRoot r) s).set r dnew)∨((∃ d,s[r]?=some d∧d.boxy=true)∧dnew.boxy=true∧K res ((pruneL (keepB r) s).set r dnew))) :
    Calls P f vs.toArray w fun e w'=>∃ v,e=.returned v∧OutOK false Fs I w w0 I0 a.tmps K v w':=by
  obtain ⟨A,X,B,ur,hFr,hT0,hred,hreb⟩:=hsp;have hndr:=h.nd r;rw [hFr] at hndr;have hn1:=List.nodup_append.1 hndr;have hn2:=List.nodup_append.1 hn1.1;have hXr:∀ x,x∈X→x∈Fs r:=fun x hx=>by rw [hFr];simp [hx]
  have hupd:∀ r' x,x∈upd Fs r [] r'→r'≠r∧x∈Fs r':=fun r' x hx=>by
    unfold upd at hx;split at hx
    · cases hx
    · rename_i hne;exact ⟨hne,hx⟩
  have hfg:=h.forget r;have hlt:=(List.getElem?_eq_some_iff.1 hs).1;have htmr:a.tmps.setIfInBounds r u0=a.tmps:=by
    apply Array.ext_getElem?;intro j;by_cases hj:r=j
    · subst hj;rw [hu0,Array.getElem?_setIfInBounds_self_of_lt (Array.getElem?_eq_some_iff.1 hu0).1]
    · rw [Array.getElem?_setIfInBounds_ne hj]
  have hsame:∀ {w':World},(ioB w X).Below w'→RelI w0 I0 ((pruneL (notRoot r) s).set r .undef) a.tmps w' I (upd Fs r []):=by
    intro w' hbel;have hkeep:∀ x,x<w.heap.size→x∉X→w'.heap[x]?=w.heap[x]?:=fun x hx hn=>hbel.block x (fun hN=>hN.elim (fun h=>by have h:w.heap.size≤x:=h;omega) hn);refine hfg.same ⟨hbel.os,hbel.tape,hbel.output,hbel.size,fun k hk=>hkeep k (Nat.lt_of_lt_of_le (Base.not hk) h.below.size) (fun hx=>hk (h.own r k (hXr k hx)).1)⟩ (fun x hx=>?_);rcases hx with hx | ⟨r',hr⟩
    · exact hkeep x (h.imm x hx) (fun hX=>(h.own r x (hXr x hX)).2.2 hx)
    · obtain ⟨hne,hr⟩:=hupd r' x hr;exact hkeep x (h.own r' x hr).2.1 (fun hX=>hne (h.disj r' r x hr (hXr x hX)))
  have hA:∀ y,y∈A→y∈Fs r∧y∉X:=fun y hy=>⟨by rw [hFr];simp [hy],fun hx=>hn2.2.2 y hy y hx rfl⟩
  have hB:∀ y,y∈B→y∈Fs r∧y∉X:=fun y hy=>⟨by rw [hFr];simp [hy],fun hx=>hn1.2.2 y (by simp [hx]) y hy rfl⟩
  -- the end, whichever blocks stay
  have fin:∀ (Ic:Nat→Prop),(∀ x,I x→Ic x)→(∀ x,Ic x→x<w.heap.size)→(∀ x,x∈X→¬ Ic x)→Vals Ic w args' nil vs []→(∀ {v:Value} {w':World} {F X':List Nat} {I':Nat→Prop},(ioB w X).Below w'→T I' w' res nil v F→T I' w' dr nil ur X'→(∀ x,Ic x→I' x)→(∀ x,I' x→(Ic x∨w.heap.size≤x∨x∈X)∧x<w'.heap.size)→(F++X').Nodup→(∀ x,x∈F++X'→(w.heap.size≤x∨x∈X)∧x<w'.heap.size∧¬ I' x) →
        ∃ I2,(fr=true∨I2=I)∧(∀ x,I x→I2 x)∧RelI w0 I0 ((pruneL (notRoot r) s).set r .undef) a.tmps w' I2 (upd Fs r [])∧T I2 w' res nil v F∧T I2 w' dr nil ur X'∧(∀ y,y∈F++X'→¬ I2 y)∧∀ y,y∈A∨y∈B→¬ I2 y) →
      Calls P f vs.toArray w fun e w'=>∃ v,e=.returned v∧OutOK false Fs I w w0 I0 a.tmps K v w':=by
    intro Ic hIc hIlt hIX hvals hend;refine (hC.2 w Ic vs vx X (hG.mono fun b hb=>hIc b (h.imm0 b hb)) hIlt hvx (vals_setU i hvals) (T.mono hIc d0 hT0) hn2.2.1 (fun x hx=>⟨(h.own r x (hXr x hx)).2.1,hIX x hx⟩)).mono ?_;rintro e w' ⟨v,F,X',I',he,hbel,hTd1,hTx,hnd,hF,hI1,hI2⟩;obtain ⟨I2,hfr2,hII2,hR,hTd2,hTx2,hnI,hnAB⟩:=hend hbel hTd1 (hred _ _ _ hTx) hI1 hI2 hnd hF;have hkeep:∀ x,x<w.heap.size→x∉X→w'.heap[x]?=w.heap[x]?:=fun x hx hn=>hbel.block x (fun hN=>hN.elim (fun h=>by have h:w.heap.size≤x:=h;omega) hn);have hnd1:=List.nodup_append.1 hnd;have hnew:=hreb I2 w' X' hfr2 (fun y hy=>by
      rcases hy with hy | hy | hy
      · exact hkeep y (h.imm y hy) (fun hX=>(h.own r y (hXr y hX)).2.2 hy)
      · exact hkeep y (h.own r y (hA y hy).1).2.1 (hA y hy).2
      · exact hkeep y (h.own r y (hB y hy).1).2.1 (hB y hy).2) hTx2
    have hX'A:∀ y,y∈X'→y∉A∧y∉B:=fun y hy=>by
      have:=(hF y (by simp [hy])).1;refine ⟨fun hz=>?_,fun hz=>?_⟩
      · rcases this with h1 | h1
        · have:=(h.own r y (hA y hz).1).2.1;omega
        · exact (hA y hz).2 h1
      · rcases this with h1 | h1
        · have:=(h.own r y (hB y hz).1).2.1;omega
        · exact (hB y hz).2 h1
    have hN:∀ x,(w.heap.size≤x∨x∈X)→w0.N x:=fun x hx=>hx.elim (fun h1=>Base.N_of h.below h1) (fun h1=>(h.own r x (hXr x h1)).1);have hout:∀ x,(w.heap.size≤x∨x∈Fs r)→∀ r',x∉upd Fs r [] r':=fun x hx r' hr=>by
      obtain ⟨hne,hr⟩:=hupd r' x hr;rcases hx with hx | hx
      · have:=(h.own r' x hr).2.1;omega
      · exact hne (h.disj r' r x hr hx)
    have hall:∀ y,y∈A++X'++B→(w0.N y∧y<w'.heap.size∧¬ I2 y)∧(w.heap.size≤y∨y∈Fs r):=fun y hy=>by
      rcases List.mem_append.1 hy with hy | hy
      · rcases List.mem_append.1 hy with hy | hy
        · have:=h.own r y (hA y hy).1;exact ⟨⟨this.1,Nat.lt_of_lt_of_le this.2.1 hbel.size,hnAB y (.inl hy)⟩,.inr (hA y hy).1⟩
        · have:=hF y (by simp [hy]);exact ⟨⟨hN y this.1,this.2.1,hnI y (by simp [hy])⟩,this.1.imp_right (hXr y)⟩
      · have:=h.own r y (hB y hy).1;exact ⟨⟨this.1,Nat.lt_of_lt_of_le this.2.1 hbel.size,hnAB y (.inr hy)⟩,.inr (hB y hy).1⟩
    have hnodup:(A++X'++B).Nodup:=by
      refine List.nodup_append.2 ⟨List.nodup_append.2 ⟨hn2.1,hnd1.2.1,fun y hy z hz e=>?_⟩,hn1.2.1,fun y hy z hz e=>?_⟩
      · subst e;exact (hX'A y hz).1 hy
      · subst e;rcases List.mem_append.1 hy with hy | hy
        · exact hn1.2.2 y (by simp [hy]) y hz rfl
        · exact (hX'A y hy).2 hz
    have hput:=hR.put (t:=r) (d0:=.undef) (d:=dnew) (u:=u0) (F:=A++X'++B) (by simp [pruneL_len,hlt]) rfl (hnew.res (fun _ _ h=>h.elim)) hnodup (fun y hy=>⟨(hall y hy).1.1,(hall y hy).1.2.1,(hall y hy).1.2.2,fun r' _=>hout y (hall y hy).2 r'⟩);rw [htmr,List.set_set] at hput;obtain ⟨sK,hput,hK⟩:∃ sK,RelI w0 I0 sK a.tmps w' I2 (upd (upd Fs r []) r (A++X'++B))∧K res sK:=by
      rcases hK with hK | ⟨⟨db,hdb,hbx⟩,hbx2,hK⟩
      · exact ⟨_,hput,hK⟩
      · rw [hs] at hdb;cases hdb;cases d with
        | box tag cells =>
          cases dnew with
          | box tag' cells' =>
            refine ⟨_,RelI.repoint h hs hu0 hput (fun k hk=>by unfold upd;rw [if_neg hk,if_neg hk]) (by unfold upd;rw [if_pos rfl]) hII2 (fun y hy=>?_) hnew,hK⟩;rcases hy with hy | ⟨k,hk,hy⟩
            · exact hkeep y (h.imm y hy) (fun hX=>(h.own r y (hXr y hX)).2.2 hy)
            · exact hkeep y (h.own k y hy).2.1 (fun hX=>hk (h.disj k r y hy (hXr y hX)))
          | _=>simp [D.boxy] at hbx2
        | _=>simp [D.boxy] at hbx
    refine ⟨v,he,res,_,I2,_,F,hK,hput,hTd2.res (fun _ _ h=>h.elim),⟨hnd1.1,fun y hy=>⟨hN y (hF y (by simp [hy])).1,(hF y (by simp [hy])).2.1,hnI y (by simp [hy]),fun r' hr=>?_⟩⟩,fun h=>by cases h⟩;by_cases hrr:r'=r
    · subst hrr;simp only [upd,if_true] at hr;rcases List.mem_append.1 hr with hr | hr
      · rcases List.mem_append.1 hr with hr | hr
        · rcases (hF y (by simp [hy])).1 with h1 | h1
          · have:=(h.own r' y (hA y hr).1).2.1;omega
          · exact (hA y hr).2 h1
        · exact hnd1.2.2 y hy y hr rfl
      · rcases (hF y (by simp [hy])).1 with h1 | h1
        · have:=(h.own r' y (hB y hr).1).2.1;omega
        · exact (hB y hr).2 h1
    · have:y∈upd Fs r [] r':=(by unfold upd at hr ⊢;rw [if_neg hrr] at hr ⊢;rw [if_neg hrr] at hr;exact hr);exact hout y ((hF y (by simp [hy])).1.imp_right (hXr y)) r' this
  have hvals:∀ {I':Nat→Prop},(∀ b,I b→I' b)→((((us.set i .undef).map (D.prune (notRoot r))).all D.noRef=true)∨∀ r',r'≠r→∀ b,b∈Fs r'→I' b)→Vals I' w (((us.set i .undef).map (D.prune (notRoot r))).map (deep ((pruneL (notRoot r) s).set r .undef) 8)) nil vs []:=by
    intro I' hI hn;rcases hoth with ⟨d1,hd1,hb1⟩ | hoth
    · cases d1 with
      | box tg1 cs1=>exact io_vals (tm:=a.tmps) h hd1 hI (argsOK_setU i hv) hn
      | _=>simp [D.boxy] at hb1
    · exact lend_vals h r hI (argsOK_setU i hv) hoth hn
  rcases hcs with ⟨hfr,hni,hnd'⟩ | ⟨hfr,hnr⟩
  · refine fin (fun x=>I x∨∃ r',r'≠r∧x∈Fs r') (fun _ h=>.inl h) (fun x hx=>hx.elim (h.imm x) (fun ⟨r',_,hr⟩=>(h.own r' x hr).2.1)) (fun x hx hI=>?_) (Vals.le _ _ (hvals (fun _ h=>.inl h) (.inr fun r' hne b hb=>.inr ⟨r',hne,hb⟩)) hle) ?_
    · rcases hI with hI | ⟨r',hne,hr⟩
      · exact (h.own r x (hXr x hx)).2.2 hI
      · exact hne (h.disj r' r x hr (hXr x hx))
    · intro v w' F X' I' hbel hTd hTx hI1 hI2 hnd hF;refine ⟨I,.inr rfl,(fun _ h=>h),hsame hbel,T.noImm res hTd hni,T.noImm dr hTx hnd',fun y hy hI=>?_,fun y hy=>hy.elim (fun hy=>(h.own r y (hA y hy).1).2.2) (fun hy=>(h.own r y (hB y hy).1).2.2)⟩;rcases (hF y hy).1 with h1 | h1
      · have:=h.imm y hI;omega
      · exact (h.own r y (hXr y h1)).2.2 hI
  · refine fin I (fun _ h=>h) h.imm (fun x hx=>(h.own r x (hXr x hx)).2.2) (Vals.le _ _ (hvals (fun _ h=>h) (.inl hnr)) hle) ?_;intro v w' F X' I' hbel hTd hTx hI1 hI2 hnd hF;refine ⟨I',.inl hfr,hI1,(hsame hbel).immMore hI1 (fun x hx=>?_),hTd,hTx,fun y hy=>(hF y hy).2.2,fun y hy hI=>?_⟩
    · obtain ⟨k1,k2⟩:=hI2 x hx;rcases k1 with k1 | k1
      · exact .inl k1
      · refine .inr ⟨k1.elim (fun h1=>Base.N_of h.below h1) (fun h1=>(h.own r x (hXr x h1)).1),k2,fun r' hr=>?_⟩;obtain ⟨hne,hr⟩:=hupd r' x hr;rcases k1 with k1 | k1
        · have:=(h.own r' x hr).2.1;omega
        · exact hne (h.disj r' r x hr (hXr x k1))
    · obtain ⟨hy1,hy2⟩:y∈Fs r∧y∉X:=hy.elim (hA y) (hB y);rcases (hI2 y hI).1 with k1 | k1 | k1
      · exact (h.own r y hy1).2.2 k1
      · have:=(h.own r y hy1).2.1;omega
      · exact hy2 k1
theorem lend_T {G:World→(Nat→Prop)→Prop} (hG:GI G w I0) (h:RelI w0 I0 s a.tmps w I Fs) {f:FuncId} {args:List Operand} (hk:lendK (CT P G) f s args K) :
    Calls P f (args.map a.eval).toArray w fun e w'=>∃ v,e=.returned v∧OutOK false Fs I w w0 I0 a.tmps K v w':=by
  obtain ⟨i,r,x,fr,d0,d',dnew,dr,res,args',hix,hlp,hoth,hle,hC,hcs,hK⟩:=hk;unfold lendP at hlp;split at hlp
  case h_2=>exact hlp.elim
  rename_i d hs;obtain ⟨u0,hu0,hTd⟩:=h.slot0 hs;have hvx:(args.map a.eval)[i]?=some (a.eval x):=by rw [List.getElem?_map,hix];rfl
  have hsp:∃ A X B ur,Fs r=A++X++B∧T I w d0 nil (a.eval x) X∧(∀ (I2:Nat→Prop) (w2:World) (X':List Nat),T I2 w2 d' nil (a.eval x) X'→T I2 w2 dr nil ur X')∧∀ (I2:Nat→Prop) (w2:World) (X':List Nat),(fr=true∨I2=I)→(∀ y,I y∨y∈A∨y∈B→w2.heap[y]?=w.heap[y]?)→T I2 w2 dr nil ur X'→T I2 w2 dnew nil u0 (A++X'++B):=by
    rcases hlp with ⟨rfl,hxr,hx,rfl,rfl⟩ | ⟨rfl,tag,cells,cells',rfl,hlk,hx,rfl,rfl,rfl⟩ | ⟨rfl,q,sz,rows,hfr,hq,hlk,rfl,htr,rfl⟩ | ⟨q,tg,cs0,cells',hfr,hq,hlk,htr,rfl,rfl,rfl,rfl⟩ | ⟨q,tg,cs0,rest,cells',hfr,hq,hlk,hfl,htr,rfl,rfl,rfl,rfl⟩ | ⟨tag,tg,cs0,cells',hlk,rfl,rfl,rfl,rfl,rfl⟩ | ⟨F0,tag,cells,cells',hlk,rfl,rfl,rfl,rfl,rfl⟩
    · have hg:a.eval x=u0:=by
        rcases hxr with rfl | hlk
        · simp [Act.eval,hu0]
        · have hlT:=lk_T h x;rw [hlk] at hlT;simp only [T,ρS] at hlT;obtain ⟨⟨d1,u1,t1,k1,k2,k3,k4,k5⟩,_⟩:=hlT;rw [hu0] at k2;cases k2;simp only [valAt,Option.some.injEq] at k5;exact k5.symm
      rw [hg];exact ⟨[],Fs r,[],_,by simp,exact_T hx hTd,fun _ _ _ ht=>ht,fun I2 w2 X' _ _ ht=>by simpa using ht⟩
    · have hlT:=lk_T h x;rw [hlk] at hlT;simp only [T] at hTd hlT;obtain ⟨b,cs,et,F',hub,htg,hh,hFr,hcs⟩:=hTd;obtain ⟨us,eu,hcu⟩:=hlT;have he:us=cs.toList:=cpy_exact hs (by rw [hu0,hub]) hh cells 0 hx rfl rfl hcs hcu;have hea:a.eval x=.agg cs:=(by rw [eu,he]);rw [hea];refine ⟨[b],F',[],.agg cs,by rw [hFr];simp,by simp only [T];exact ⟨cs.toList,by simp,exact_res hx hcs⟩,fun _ _ _ ht=>ht,fun I2 w2 X' _ hkp ht=>?_⟩;simp only [T] at ht ⊢;obtain ⟨vs,ev,hcv⟩:=ht;have hvs:vs=cs.toList:=(by simp only [Value.agg.injEq] at ev;rw [ev]);rw [hvs] at hcv;exact ⟨b,cs,et,X',hub,htg,(hkp b (.inr (.inl (by simp)))).trans hh,by simp,hcv⟩
    · have hlT:=lk_T h x;rw [hlk] at hlT;simp only [T,ρS] at hlT;obtain ⟨⟨d1,u1,t1,k1,k2,k3,k4,k5⟩,_⟩:=hlT;rw [hs] at k1;cases k1;rw [hu0] at k2;cases k2;obtain ⟨b,o,u',A,F',B,cells,e,hadr,hcl,hh,hFF,hbA,hou,htt,hup⟩:=T.focus q d hTd (h.nd r) (fun y hy=>(h.own r y hy).2.2) hq htr;have hv:=adr_val q d (by rw [htr];rfl) hadr hcl;rw [k5] at hv;cases hv;refine ⟨A,F',B,_,hFF,by simpa only [T] using htt,fun _ _ _ ht=>ht,fun I2 w2 X' hI2 hkp ht=>?_⟩;obtain rfl:I2=I:=hI2.resolve_left (by rw [hfr];simp);refine hup w2 nil (fun _=>false) _ _ X' (fun y _ hy=>hkp y hy) ?_ (fun _ _ hq _=>by cases hq) hou (by rw [resAt_nil];exact ht);rw [hkp b (.inr (.inl hbA)),hh];congr 1;congr 1;rw [cell_row hh] at hcl;apply Array.ext_getElem?;intro j;by_cases hj:o=j
      · subst hj;rw [Array.getElem?_setIfInBounds_self_of_lt (Array.getElem?_eq_some_iff.1 hcl).1,hcl]
      · rw [Array.getElem?_setIfInBounds_ne hj]
    · have hlT:=lk_T h x;rw [hlk] at hlT;simp only [T,ρS] at hlT;obtain ⟨⟨d1,v0,t1,sz,rows,u1,b1,o1,k1,k2,k3,k4,k5,k6,k7⟩,_⟩:=hlT;rw [hs] at k1;cases k1;rw [hu0] at k2;cases k2;obtain ⟨b,o,u',A,F',B,cells,e,hadr,hcl,hh,hFF,hbA,hou,htt,hup⟩:=T.focus q d hTd (h.nd r) (fun y hy=>(h.own r y hy).2.2) hq htr;have hv:=adr_val q d (by rw [htr];rfl) hadr hcl;have hu1:u1=u':=(by rw [k5] at hv;simpa using hv);rw [hu1] at k6;have heq:a.eval x=u':=(by have htt':=htt;simp only [T] at htt';obtain ⟨bb,_,_,_,hub,_⟩:=htt';rw [hub] at k6;simp only [baseOf,Option.some.injEq,Prod.mk.injEq] at k6;obtain ⟨rfl,rfl⟩:=k6;rw [k7,hub];simp);rw [heq];refine ⟨A,F',B,_,hFF,box_untag htt,fun _ _ _ ht=>box_retag htt ht,fun I2 w2 X' hI2 hkp ht=>?_⟩;obtain rfl:I2=I:=hI2.resolve_left (by rw [hfr];simp);refine hup w2 nil (fun _=>false) _ _ X' (fun y _ hy=>hkp y hy) ?_ (fun _ _ hq _=>by cases hq) hou (by rw [resAt_nil];exact ht);rw [hkp b (.inr (.inl hbA)),hh];congr 1;congr 1;rw [cell_row hh] at hcl;apply Array.ext_getElem?;intro j;by_cases hj:o=j
      · subst hj;rw [Array.getElem?_setIfInBounds_self_of_lt (Array.getElem?_eq_some_iff.1 hcl).1,hcl]
      · rw [Array.getElem?_setIfInBounds_ne hj]
    · have hlT:=lk_T h x;rw [hlk] at hlT;simp only [T,Cells] at hlT;obtain ⟨us,heu,u1',us',F1,F2,rfl,hF12,ho1,hp1,hrest⟩:=hlT;simp only [ρS] at hp1;obtain ⟨⟨d1,v0,t1,sz,rows,u1,b1,o1,k1,k2,k3,k4,k5,k6,k7⟩,hF1⟩:=hp1;rw [hs] at k1;cases k1;rw [hu0] at k2;cases k2;obtain ⟨b,o,u',A,F',B,cells,e,hadr,hcl,hh,hFF,hbA,hou,htt,hup⟩:=T.focus q d hTd (h.nd r) (fun y hy=>(h.own r y hy).2.2) hq htr;have hv:=adr_val q d (by rw [htr];rfl) hadr hcl;have hu1:u1=u':=(by rw [k5] at hv;simpa using hv);rw [hu1] at k6;have heq:u1'=u':=(by have htt':=htt;simp only [T] at htt';obtain ⟨bb,_,_,_,hub,_⟩:=htt';rw [hub] at k6;simp only [baseOf,Option.some.injEq,Prod.mk.injEq] at k6;obtain ⟨rfl,rfl⟩:=k6;rw [k7,hub];simp);subst heq;obtain ⟨rfl,hrest'⟩:=flat_res (ρ':=nil) hfl hrest;have hbox:=box_untag htt;refine ⟨A,F',B,u1',hFF,?_,fun I2 w2 X' ht=>?_,fun I2 w2 X' hI2 hkp ht=>?_⟩
      · rw [heu];simp only [T,Cells];simp only [T] at hbox;exact ⟨_,rfl,u1',us',F',[],rfl,by simp,hou,hbox,hrest'⟩
      · rw [heu] at ht;simp only [T.eq_5,Cells] at ht;obtain ⟨us2,he2,u2,us3,G1,G2,rfl,hG,_,hb2,hr2⟩:=ht;have he3:=congrArg Array.toList (Value.agg.inj he2);simp only [List.cons.injEq] at he3;obtain ⟨rfl,rfl⟩:=he3;obtain ⟨rfl,_⟩:=flat_res (ρ':=nil) hfl hr2;rw [hG,List.append_nil];exact box_retag htt hb2
      obtain rfl:I2=I:=hI2.resolve_left (by rw [hfr];simp);refine hup w2 nil (fun _=>false) _ _ X' (fun y _ hy=>hkp y hy) ?_ (fun _ _ hq _=>by cases hq) hou (by rw [resAt_nil];exact ht);rw [hkp b (.inr (.inl hbA)),hh];congr 1;congr 1;rw [cell_row hh] at hcl;apply Array.ext_getElem?;intro j;by_cases hj:o=j
      · subst hj;rw [Array.getElem?_setIfInBounds_self_of_lt (Array.getElem?_eq_some_iff.1 hcl).1,hcl]
      · rw [Array.getElem?_setIfInBounds_ne hj]
    · have hlT:=lk_T h x;rw [hlk] at hlT;simp only [T,ρS] at hlT;obtain ⟨⟨d1,v0,t1,sz,rows,u1,b1,o1,k1,k2,k3,k4,k5,k6,k7⟩,_⟩:=hlT;rw [hs] at k1;cases k1;rw [hu0] at k2;cases k2;obtain ⟨b,o,u',A,F',B,cells,e,hadr,hcl,_,_,_,_,_,_⟩:=T.focus [(0,0)] (.box tag [.box tg cs0]) hTd (h.nd r) (fun y hy=>(h.own r y hy).2.2) (by simp) rfl;have hv:=adr_val [(0,0)] (.box tag [.box tg cs0]) rfl hadr hcl;have hu1:u1=u':=(by rw [k5] at hv;simpa using hv);rw [hu1] at k6;simp only [T.eq_11,Cells] at hTd;obtain ⟨b2,cs1,e1,F2,hub,htg,hh2,hFr,u2,us2,G1,G2,hcs1,hG,ho2,htt,hus2,hG2⟩:=hTd;subst hus2;subst hG2;have hbo:b=b2∧o=0:=(by rw [hub] at hadr;simp [adrAt,D.cont,baseOf] at hadr;exact ⟨hadr.1.symm,hadr.2.symm⟩);obtain ⟨rfl,rfl⟩:=hbo;have hu2:u2=u':=(by rw [cell_row hh2] at hcl;rw [← Array.getElem?_toList,hcs1] at hcl;simpa using hcl);subst hu2;have htt:T I w (.box tg cs0) (ρS s a.tmps w) u2 G1:=(by simpa only [T.eq_11] using htt);have heq:a.eval x=u2:=(by have htt':=htt;simp only [T.eq_11] at htt';obtain ⟨bb,_,_,_,hub2,_⟩:=htt';rw [hub2] at k6;simp only [baseOf,Option.some.injEq,Prod.mk.injEq] at k6;obtain ⟨rfl,rfl⟩:=k6;rw [k7,hub2];simp);rw [heq];refine ⟨[b],G1,[],u2,by rw [hFr,hG];simp,box_untag htt,fun _ _ _ ht=>box_retag htt ht,fun I2 w2 X' _ hkp ht=>?_⟩;simp only [T.eq_11,Cells];refine ⟨b,cs1,e1,X',hub,htg,(hkp b (.inr (.inl (by simp)))).trans hh2,by simp,u2,[],X',[],hcs1,by simp,ho2,?_,rfl,rfl⟩;simpa only [T.eq_11] using ht
    · have hlT:=lk_T h x;rw [hlk] at hlT;simp only [T,Vals] at hlT;obtain ⟨us,vs,F1,F2,heu,hF12,⟨u1',us',G1,G2,rfl,hG,hp1,hus,hG2⟩,hvs,hF2⟩:=hlT;subst hus;subst hvs;simp only [ρS] at hp1;obtain ⟨⟨d1,v0,t1,sz,rows,u1,b1,o1,k1,k2,k3,k4,k5,k6,k7⟩,hF1⟩:=hp1;rw [hs] at k1;cases k1;rw [hu0] at k2;cases k2;simp only [valAt,Option.some.injEq] at k5;subst k5;have hTd':=hTd;simp only [T] at hTd';obtain ⟨b,cs,et,F',hub,htg,hh,hFr,hcs⟩:=hTd';have heq:u1'=u0:=(by rw [hub] at k6;simp only [baseOf,Option.some.injEq,Prod.mk.injEq] at k6;obtain ⟨rfl,rfl⟩:=k6;rw [k7,hub];simp);subst heq;have hbox:=box_untag hTd;refine ⟨[],Fs r,[],u1',by simp,?_,fun I2 w2 X' ht=>?_,fun I2 w2 X' _ _ ht=>by simpa using ht⟩
      · rw [heu];simp only [T,Vals];simp only [T] at hbox;exact ⟨_,_,Fs r,[],rfl,by simp,⟨u1',[],Fs r,[],rfl,by simp,hbox,rfl,rfl⟩,rfl,rfl⟩
      · rw [heu] at ht;simp only [T.eq_14,Vals] at ht;obtain ⟨us2,vs2,H1,H2,he2,hH,⟨u2,us3,J1,J2,rfl,hJ,hb2,hr2,hJ2⟩,hv2,hH2⟩:=ht;have he3:=(Value.func.inj he2).2.1;have he3:=congrArg Array.toList he3;simp only [List.cons.injEq] at he3;obtain ⟨rfl,_⟩:=he3;rw [hH,hJ,hJ2,hH2,List.append_nil,List.append_nil];exact box_retag hTd hb2
  exact lend_core hG h (args_ok h args) hs hu0 hvx hsp hoth hle hC hcs hK
theorem keep_T {G:World→(Nat→Prop)→Prop}(hG:GI G w I0)(h:RelI w0 I0 s a.tmps w I Fs){f:FuncId}{us:List D}{vs:List Value}(hv:ArgsOK s a.tmps w I Fs us vs)(hk:keepK (CT P G) f s us K):Calls P f vs.toArray w fun e w'=>∃ v,e=.returned v∧OutOK false Fs I w w0 I0 a.tmps K v w':=by
  obtain ⟨i,r,g,b,cells,cells',cells0,res,args',hi,hs,hoth,hle,hc0,hC,hn,hK⟩:=hk;obtain ⟨u0,hu0,hTd⟩:=h.slot0 hs;obtain ⟨vx,hvi,F,hT,_⟩:=argsOK_get hv hi;simp only [T] at hT;obtain ⟨rfl,_⟩:=hT;have hcs:∃ fr:Bool,(fr=false∧res.noImm=true∧(D.box (some b) cells').noImm=true)∨(fr=true∧((us.set i .undef).map (D.prune (notRoot r))).all D.noRef=true):=by
    rcases hn with ⟨hn1,hn2⟩ | hn
    · exact ⟨false,.inl ⟨rfl,hn1,by simpa [D.noImm] using hn2⟩⟩
    · exact ⟨true,.inr ⟨rfl,hn⟩⟩
  obtain ⟨fr,hcs⟩:=hcs;refine lend_core hG h hv (fr:=fr) (d:=.fn g [.box (some b) cells] []) (d0:=.box none cells0) (d':=.box none cells') (dr:=.box (some b) cells') (dnew:=.fn g [.box (some b) cells'] []) hs hu0 hvi ?_ (.inr hoth) hle hC hcs (.inl hK);simp only [T,Vals] at hTd;obtain ⟨us1,vs1,F1,F2,hu1,hF,⟨u1,us2,G1,G2,rfl,hG1,hbox,rfl,hG2⟩,rfl,hF2⟩:=hTd;have hbox2:T I w (.box (some b) cells) (ρS s a.tmps w) u1 G1:=(by simp only [T];exact hbox);have hu:u1=.pointer (some ⟨b,0,none⟩):=(by obtain ⟨bb,_,_,_,hub,htg,_⟩:=hbox;rw [hub,htg b rfl]);have hFr:Fs r=G1:=(by rw [hF,hG1,hG2,hF2];simp);refine ⟨[],Fs r,[],u1,by simp,?_,fun I2 w2 X' ht=>?_,fun I2 w2 X' _ _ ht=>?_⟩
  · rw [← hu,hFr,← hc0];exact box_untag hbox2
  · rw [← hu] at ht;exact box_retag hbox2 ht
  · rw [hu1];simp only [T,Vals] at ht ⊢;exact ⟨_,_,X',[],rfl,by simp,⟨u1,[],X',[],rfl,by simp,ht,rfl,rfl⟩,rfl,rfl⟩
theorem RelI.freeze (h:RelI w0 I0 s a.tmps w I Fs)(t:Nat):∃ I' Fs',RelI w0 I0 (frz t s) a.tmps w I' Fs'∧(∀ b,I b→I' b):=by
  unfold frz;cases hs:s[t]? with
  | none=>exact ⟨I,Fs,h,fun _ h=>h⟩
  | some d =>
    obtain ⟨u0,hu0,hT⟩:=h.slot0 hs;have hfg:=h.forget t;have hlt:=(List.getElem?_eq_some_iff.1 hs).1;have hT0:T I w (d.prune (fun _=>false)) nil u0 (Fs t):=T.turn (fun x v hq _=>by cases hq) d hT;have hTi:=T.imm (I':=fun b=>I b∨b∈Fs t) (fun _ h=>.inl h) _ hT0 (fun b hb=>.inr hb);have hupd:∀ r' x,x∈upd Fs t [] r'→r'≠t∧x∈Fs r':=fun r' x hx=>by
      unfold upd at hx;split at hx
      · cases hx
      · rename_i hne;exact ⟨hne,hx⟩
    have hm:=hfg.immMore (I':=fun b=>I b∨b∈Fs t) (fun _ h=>.inl h) (fun b hb=>hb.imp_right fun hb=>⟨(h.own t b hb).1,(h.own t b hb).2.1,fun r' hr=>by
      obtain ⟨hne,hr⟩:=hupd r' b hr;exact hne (h.disj r' t b hr hb)⟩)
    have hput:=hm.put (t:=t) (d0:=.undef) (d:=(d.prune (fun _=>false)).imm) (u:=u0) (F:=[]) (by simp [pruneL_len,hlt]) rfl (hTi.res (fun _ _ h=>h.elim)) List.nodup_nil (fun b hb=>by cases hb);have htm:a.tmps.setIfInBounds t u0=a.tmps:=by
      apply Array.ext_getElem?;intro j;by_cases hj:t=j
      · subst hj;rw [hu0,Array.getElem?_setIfInBounds_self_of_lt (Array.getElem?_eq_some_iff.1 hu0).1]
      · rw [Array.getElem?_setIfInBounds_ne hj]
    rw [htm,List.set_set] at hput;exact ⟨_,_,hput,fun _ h=>.inl h⟩
theorem RelI.mvin (h:RelI w0 I0 s a.tmps w I Fs)(r t:Nat):∃ Fs',RelI w0 I0 (mvin r t s) a.tmps w I Fs':=by
  unfold Go.V.mvin;split
  case h_2=>exact ⟨Fs,h⟩
  rename_i tag t' tag2 M hr ht;split
  case isFalse=>exact ⟨Fs,h⟩
  rename_i hc;obtain ⟨rfl,hne⟩:=hc;obtain ⟨ut,hut,hTt⟩:=h.slot0 ht;obtain ⟨ur,hur,hTr⟩:=h.slot0 hr;have hlt:=(List.getElem?_eq_some_iff.1 hr).1;have h1:=h.forget t';have hr1:((pruneL (notRoot t') s).set t' .undef)[r]?=some (.box tag [.undef]):=by rw [List.getElem?_set_ne (Ne.symm hne),pruneL_get,hr];simp [D.prune,pruneL,notRoot]
  have h2:=h1.forget r;have hM:T I w (.box none (pruneL (fun _=>false) M)) nil ut (Fs t'):=(by have:=T.turn (q:=fun _=>false) (ρ':=nil) (fun x v hq _=>by cases hq) (D.box tag2 M) hTt;simp only [D.prune,T] at this ⊢;obtain ⟨b2,cs2,et2,F2,k1,_,k3,k4,k5⟩:=this;exact ⟨b2,cs2,et2,F2,k1,(fun k hk=>by cases hk),k3,k4,k5⟩);have hB:T I w (.box tag [.box none (pruneL (fun _=>false) M)]) nil ur (Fs r++Fs t'):=(by have hTr':=hTr;simp only [T] at hTr';obtain ⟨b,cs,et,F',hub,htg,hh,hFr,hcs⟩:=hTr';simp only [Cells] at hcs;obtain ⟨v,us',F1,F2,e1,e2,ho,hp,e3,e4⟩:=hcs;simp only [T,ρS] at hp;obtain ⟨⟨d1,v0,t1,sz,rows,u1,b1,o1,k1,k2,k3,k4,k5,k6,k7⟩,hF1⟩:=hp;have hv:v=ut:=(by rw [hut] at k2;cases k2;simp only [valAt,Option.some.injEq] at k5;subst k5;have hM':=hM;simp only [T] at hM';obtain ⟨bb,_,_,_,hub',_⟩:=hM';rw [hub'] at k6;simp only [baseOf,Option.some.injEq,Prod.mk.injEq] at k6;obtain ⟨rfl,rfl⟩:=k6;rw [k7,hub'];simp);subst hv;simp only [T];refine ⟨b,cs,et,Fs t',hub,htg,hh,by rw [hFr,e2,hF1,e4];simp,?_⟩;simp only [Cells];exact ⟨v,us',Fs t',[],e1,by simp,ho,hM,e3,rfl⟩);have hupd:∀ k x,x∈upd (upd Fs t' []) r [] k→k≠r∧k≠t'∧x∈Fs k:=fun k x hx=>by
    unfold upd at hx;split at hx
    · cases hx
    · rename_i h1;split at hx
      · cases hx
      · rename_i h2;exact ⟨h1,h2,hx⟩
  have hput:=h2.put (t:=r) (d0:=.undef) (d:=.box tag [.box none (pruneL (fun _=>false) M)]) (u:=ur) (F:=Fs r++Fs t') (by simp [pruneL_len,hlt]) rfl (hB.res (fun _ _ h=>h.elim)) (List.nodup_append.2 ⟨h.nd r,h.nd t',fun x hx y hy e=>hne (h.disj r t' x hx (e▸hy))⟩) (fun x hx=>by
    have hx':∃ k,(k=r∨k=t')∧x∈Fs k:=by
      rcases List.mem_append.1 hx with hx | hx
      · exact ⟨r,.inl rfl,hx⟩
      · exact ⟨t',.inr rfl,hx⟩
    obtain ⟨k,hk,hx⟩:=hx';refine ⟨(h.own k x hx).1,(h.own k x hx).2.1,(h.own k x hx).2.2,fun r' _ hr'=>?_⟩;obtain ⟨n1,n2,hr'⟩:=hupd r' x hr';have:=h.disj r' k x hr' hx;rcases hk with rfl | rfl
    · exact n1 this
    · exact n2 this)
  have htm:a.tmps.setIfInBounds r ur=a.tmps:=by
    apply Array.ext_getElem?;intro j;by_cases hj:r=j
    · subst hj;rw [hur,Array.getElem?_setIfInBounds_self_of_lt (Array.getElem?_eq_some_iff.1 hur).1]
    · rw [Array.getElem?_setIfInBounds_ne hj]
  rw [htm,List.set_set] at hput;exact ⟨_,RelI.repoint h1 hr1 hur hput (fun k hk=>by unfold upd;rw [if_neg hk,if_neg hk]) (by unfold upd;rw [if_pos rfl]) (fun _ h=>h) (fun _ _=>rfl) hB⟩
theorem RelI.pull (h:RelI w0 I0 s a.tmps w I Fs)(r t:Nat):∃ Fs',RelI w0 I0 (pull r t s) a.tmps w I Fs':=by
  unfold Go.V.pull;split
  case h_2=>exact ⟨Fs,h⟩
  rename_i tag t1 t2 t3 tag2 z1 r1 z2 r2 z3 r3 hr ht;split
  case isFalse=>exact ⟨Fs,h⟩
  rename_i hc;obtain ⟨rfl,rfl,rfl,hne⟩:=hc;obtain ⟨ut,hut,hTt⟩:=h.slot0 ht;obtain ⟨ur,hur,hTr⟩:=h.slot0 hr;have hlt:=(List.getElem?_eq_some_iff.1 hr).1;have h1:=h.forget t3;have hr1:((pruneL (notRoot t3) s).set t3 .undef)[r]?=some (.box tag [.undef,.undef,.undef]):=by rw [List.getElem?_set_ne (Ne.symm hne),pruneL_get,hr];simp [D.prune,pruneL,notRoot]
  have h2:=h1.forget r;obtain ⟨Fb,hFb,hFn,hB⟩:∃ Fb,(∀ x,x∈Fb→x∈Fs t3)∧Fb.Nodup∧T I w (.box tag [.sl true z1 r1,.sl true z2 r2,.sl true z3 r3]) nil ur (Fs r++Fb):=by
    simp only [T] at hTr hTt;obtain ⟨b,cs,et,F',hub,htg,hh,hFr,hcs⟩:=hTr;obtain ⟨b2,cs2,et2,F2',hub2,_,hh2,hFt,hcs2⟩:=hTt;simp only [Cells] at hcs hcs2;obtain ⟨v1,us1,A1,B1,e1,f1,o1,p1,v2,us2,A2,B2,e2,f2,o2,p2,v3,us3,A3,B3,e3,f3,o3,p3,e4,f4⟩:=hcs;obtain ⟨x1,ws1,C1,D1,g1,q1,_,hx1,x2,ws2,C2,D2,g2,q2,_,hx2,x3,ws3,C3,D3,g3,q3,_,hx3,g4,q4⟩:=hcs2;subst e4;subst e3;subst e2;subst g4;subst g3;subst g2;have cell:∀ (k:Nat) (x:Value),[x1,x2,x3][k]?=some x→w.cell? ⟨b2,k,none⟩=some x:=fun k x hx=>by rw [cell_of_row w b2 k cs2 _ _ hh2,← Array.getElem?_toList,g1];exact hx
    have key:∀ (k:Nat) (x v:Value) (F:List Nat),[x1,x2,x3][k]?=some x→T I w (.ref t3 [(0,k)]) (ρS s a.tmps w) v F→F=[]∧v=x:=by
      intro k x v F hx hp;simp only [T,ρS] at hp;obtain ⟨⟨d1,v0,tt,k1,k2,k3,k4,k5⟩,hF⟩:=hp;rw [ht] at k1;cases k1;rw [hut] at k2;cases k2;refine ⟨hF,?_⟩;have hck:=cell k x hx;have hk3:k<3:=by have:=(List.getElem?_eq_some_iff.1 hx).1;simpa using this
      rw [hub2] at k5;have:k=0∨k=1∨k=2:=by omega
      rcases this with rfl | rfl | rfl<;>(simp [valAt,D.cont,baseOf,hck] at k5;exact k5.symm)
    obtain ⟨rfl,rfl⟩:=key 0 x1 v1 A1 rfl p1;obtain ⟨rfl,rfl⟩:=key 1 x2 v2 A2 rfl p2;obtain ⟨rfl,rfl⟩:=key 2 x3 v3 A3 rfl p3;have hF2n:F2'.Nodup:=(by have:=h.nd t3;rw [hFt] at this;exact (List.nodup_cons.1 this).2);refine ⟨F2',fun x hx=>by rw [hFt];exact List.mem_cons_of_mem _ hx,hF2n,?_⟩;simp only [T.eq_11,Cells];refine ⟨b,cs,et,F2',hub,htg,hh,?_,_,_,C1,D1,e1,q1,o1,?_,_,_,C2,D2,rfl,q2,o2,?_,_,_,C3,D3,rfl,q3,o3,?_,rfl,q4⟩
    · rw [hFr,f1,f2,f3,f4];simp
    all_goals first
      | (simp only [T] at hx1 ⊢;exact hx1)
      | (simp only [T] at hx2 ⊢;exact hx2)
      | (simp only [T] at hx3 ⊢;exact hx3)
  have hupd:∀ k x,x∈upd (upd Fs t3 []) r [] k→k≠r∧k≠t3∧x∈Fs k:=fun k x hx=>by
    unfold upd at hx;split at hx
    · cases hx
    · rename_i h1;split at hx
      · cases hx
      · rename_i h2;exact ⟨h1,h2,hx⟩
  have hput:=h2.put (t:=r) (d0:=.undef) (d:=.box tag [.sl true z1 r1,.sl true z2 r2,.sl true z3 r3]) (u:=ur) (F:=Fs r++Fb) (by simp [pruneL_len,hlt]) rfl (hB.res (fun _ _ h=>h.elim)) (List.nodup_append.2 ⟨h.nd r,hFn,fun x hx y hy e=>hne (h.disj r t3 x hx (hFb x (e▸hy)))⟩) (fun x hx=>by
    have hx':∃ k,(k=r∨k=t3)∧x∈Fs k:=by
      rcases List.mem_append.1 hx with hx | hx
      · exact ⟨r,.inl rfl,hx⟩
      · exact ⟨t3,.inr rfl,hFb x hx⟩
    obtain ⟨k,hk,hx⟩:=hx';refine ⟨(h.own k x hx).1,(h.own k x hx).2.1,(h.own k x hx).2.2,fun r' _ hr'=>?_⟩;obtain ⟨n1,n2,hr'⟩:=hupd r' x hr';have:=h.disj r' k x hr' hx;rcases hk with rfl | rfl
    · exact n1 this
    · exact n2 this)
  have htm:a.tmps.setIfInBounds r ur=a.tmps:=by
    apply Array.ext_getElem?;intro j;by_cases hj:r=j
    · subst hj;rw [hur,Array.getElem?_setIfInBounds_self_of_lt (Array.getElem?_eq_some_iff.1 hur).1]
    · rw [Array.getElem?_setIfInBounds_ne hj]
  rw [htm,List.set_set] at hput;exact ⟨_,RelI.repoint h1 hr1 hur hput (fun k hk=>by unfold upd;rw [if_neg hk,if_neg hk]) (by unfold upd;rw [if_pos rfl]) (fun _ h=>h) (fun _ _=>rfl) hB⟩
theorem plain_prune:∀ {cs:List D},cs.all D.plain=true→pruneL (fun _=>false) cs=cs
  | [],_=>rfl
  | c::cs,h=>by simp only [List.all_cons,Bool.and_eq_true] at h;have:=plain_prune h.2;cases c<;>simp [D.plain] at h<;>simp [pruneL,D.prune,this]
theorem vals_plain {s:List D} {tm:Array Value}:∀ {us:List D} {vs:List Value},ArgsOK s tm w I Fs us vs→∀ (is:List Nat),(is.foldl (fun l i=>l.set i .undef) us).all D.plain=true→Vals I w (is.foldl (fun l i=>l.set i .undef) us) nil vs []
  | us, vs, h,is,hp=>by
    have gen:∀ {us:List D} {vs:List Value},us.length=vs.length→(∀ (k:Nat) d v,us[k]?=some d→vs[k]?=some v→d=.undef∨d=.v v)→Vals I w us nil vs []:=by
      intro us;induction us with
      | nil=>intro vs hl _;simp only [List.length_nil] at hl;simp [Vals,List.eq_nil_of_length_eq_zero hl.symm]
      | cons d us ih =>
        intro vs hl hk;cases vs with
        | nil=>simp at hl
        | cons v vs=>have h0:=hk 0 d v rfl rfl;simp only [Vals];refine ⟨v,vs,[],[],rfl,rfl,?_,ih (by simpa using hl) (fun k d v h1 h2=>hk (k+1) d v (by simpa using h1) (by simpa using h2))⟩;rcases h0 with rfl | rfl<;>simp [T]
    have hlen:∀ {us:List D} {vs:List Value},ArgsOK s tm w I Fs us vs→us.length=vs.length:=by
      intro us;induction us with
      | nil=>intro vs h;rw [show vs=[] from h];rfl
      | cons u us ih=>intro vs h;obtain ⟨v,vs',rfl,_,h2⟩:=h;simp [ih h2]
    have hfl:∀ (is:List Nat) (l:List D),(is.foldl (fun l i=>l.set i .undef) l).length=l.length:=by
      intro is;induction is with
      | nil=>intro l;rfl
      | cons i is ih=>intro l;rw [List.foldl_cons,ih];simp
    have hfg:∀ (is:List Nat) (l:List D) (k:Nat) d,(is.foldl (fun l i=>l.set i .undef) l)[k]?=some d→d=.undef∨l[k]?=some d:=by
      intro is;induction is with
      | nil=>intro l k d h;exact .inr h
      | cons i is ih =>
        intro l k d h;rw [List.foldl_cons] at h;rcases ih _ k d h with h1 | h1
        · exact .inl h1
        · by_cases hik:i=k
          · subst hik;rw [List.getElem?_set] at h1;split at h1
            · split at h1
              · cases h1;exact .inl rfl
              · cases h1
            · exact .inr h1
          · rw [List.getElem?_set_ne hik] at h1;exact .inr h1
    refine gen (by rw [hfl];exact hlen h) (fun k d v h1 h2=>?_);rcases hfg is us k d h1 with h3 | h3
    · exact .inl h3
    · have hpl:=List.all_eq_true.1 hp d (List.mem_of_getElem? h1);obtain ⟨v',hv',F,hT,_⟩:=argsOK_get h h3;rw [h2] at hv';cases hv';cases d with
      | undef=>exact .inl rfl
      | v x=>simp only [T] at hT;right;rw [hT.1]
      | _=>simp [D.plain] at hpl
theorem lend2_T {G:World→(Nat→Prop)→Prop}(hG:GI G w I0)(h:RelI w0 I0 s a.tmps w I Fs){f:FuncId}{args:List Operand}(hk:lend2K (CT P G) f s args K) :
    Calls P f (args.map a.eval).toArray w fun e w'=>∃ v,e=.returned v∧OutOK false Fs I w w0 I0 a.tmps K v w':=by
  obtain ⟨i,j,r1,r2,x1,x2,d1,d1',tag,cells,cells',res,hi,hj,hne,hs1,hx1,hex,hs2,hx2,hpc,hpa,hC,hK⟩:=hk;obtain ⟨u1,hu1,hT1⟩:=h.slot0 hs1;obtain ⟨u2,hu2,hT2⟩:=h.slot0 hs2;have hv1:(args.map a.eval)[i]?=some (a.eval x1):=(by rw [List.getElem?_map,hi];rfl);have hv2:(args.map a.eval)[j]?=some (a.eval x2):=(by rw [List.getElem?_map,hj];rfl);have hg1:a.eval x1=u1:=by
    rcases hx1 with rfl | hlk
    · simp [Act.eval,hu1]
    · have hlT:=lk_T h x1;rw [hlk] at hlT;simp only [T,ρS] at hlT;obtain ⟨⟨e1,e2,t1,k1,k2,k3,k4,k5⟩,_⟩:=hlT;rw [hu1] at k2;cases k2;simp only [valAt,Option.some.injEq] at k5;exact k5.symm
  have hT2':=hT2;simp only [T] at hT2';obtain ⟨b,cs,et,F',hub,htg,hh,hFr,hcs⟩:=hT2';have hg2:a.eval x2=u2:=(by have hlT:=lk_T h x2;rw [hx2] at hlT;simp only [T,ρS] at hlT;obtain ⟨⟨e1,v0,t1,sz,rows,w1,b1,o1,k1,k2,k3,k4,k5,k6,k7⟩,_⟩:=hlT;rw [hu2] at k2;cases k2;simp only [valAt,Option.some.injEq] at k5;subst k5;rw [hub] at k6;simp only [baseOf,Option.some.injEq,Prod.mk.injEq] at k6;obtain ⟨rfl,rfl⟩:=k6;rw [k7,hub];simp);rw [hg1] at hv1;rw [hg2] at hv2;have hbx:T I w (.box none cells) nil u2 (Fs r2):=(by have:=box_untag hT2;rwa [plain_prune hpc] at this);have hV0:Vals I w [d1,.box none cells] nil [u1,u2] (Fs r1++Fs r2):=(by simp only [Vals];exact ⟨u1,[u2],Fs r1,Fs r2,rfl,rfl,exact_T hex hT1,u2,[],Fs r2,[],rfl,by simp,hbx,rfl,rfl⟩);have hnd:(Fs r1++Fs r2).Nodup:=List.nodup_append.2 ⟨h.nd r1,h.nd r2,fun x hx y hy e=>hne (h.disj r1 r2 x hx (e▸hy))⟩;have hmem:∀ x,x∈Fs r1++Fs r2→∃ k,(k=r1∨k=r2)∧x∈Fs k:=fun x hx=>(List.mem_append.1 hx).elim (fun hx=>⟨r1,.inl rfl,hx⟩) (fun hx=>⟨r2,.inr rfl,hx⟩);have hvals:Vals I w (((args.map fun x=>raw s x).set i .undef).set j .undef) nil (args.map a.eval) []:=vals_plain (args_ok h args) [i,j] hpa;refine (hC.2 w I (args.map a.eval) u1 u2 (Fs r1++Fs r2) (hG.mono h.imm0) h.imm hv1 hv2 hvals hV0 hnd (fun x hx=>by
    obtain ⟨k,_,hk⟩:=hmem x hx;exact ⟨(h.own k x hk).2.1,(h.own k x hk).2.2⟩)).mono ?_
  rintro e w' ⟨v,F,X',I',he,hbel,hTr,hVx,hndr,hF,hI1,hI2⟩;obtain ⟨X1,X2,rfl,hTd1,hTd2⟩:∃ X1 X2,X'=X1++X2∧T I' w' d1' nil u1 X1∧T I' w' (.box none cells') nil u2 X2:=by simp only [Vals] at hVx;obtain ⟨z1,zs,X1,X2',e1,eX,k1,z2,zs2,X2,X3,e2,eX2,k2,e3,e4⟩:=hVx;simp only [List.cons.injEq] at e1;obtain ⟨q1,q2⟩:=e1;rw [← q2] at e2;simp only [List.cons.injEq] at e2;obtain ⟨q3,_⟩:=e2;exact ⟨X1,X2,by rw [eX,eX2,e4];simp,q1▸k1,q3▸k2⟩
  have hkeep:∀ x,x<w.heap.size→x∉Fs r1++Fs r2→w'.heap[x]?=w.heap[x]?:=fun x hx hn=>hbel.block x (fun hN=>hN.elim (fun h=>by have h:w.heap.size≤x:=h;omega) hn);have hup:∀ k x,x∈upd (upd Fs r1 []) r2 [] k→k≠r1∧k≠r2∧x∈Fs k:=fun k x hx=>by
    unfold upd at hx;split at hx
    · cases hx
    · rename_i h1;split at hx
      · cases hx
      · rename_i h2;exact ⟨h2,h1,hx⟩
  have hfg:=(h.forget r1).forget r2;have hN0:∀ x,x∈Fs r1++Fs r2→w0.N x:=fun x hx=>by obtain ⟨k,_,hk⟩:=hmem x hx;exact (h.own k x hk).1
  have hfar:∀ k x,x∈upd (upd Fs r1 []) r2 [] k→x<w.heap.size∧x∉Fs r1++Fs r2:=fun k x hx=>by
    obtain ⟨n1,n2,hx⟩:=hup k x hx;refine ⟨(h.own k x hx).2.1,fun hm=>?_⟩;obtain ⟨k',hk',hx'⟩:=hmem x hm;have:=h.disj k k' x hx hx';rcases hk' with rfl | rfl
    · exact n1 this
    · exact n2 this
  have hsame:RelI w0 I0 ((pruneL (notRoot r2) ((pruneL (notRoot r1) s).set r1 .undef)).set r2 .undef) a.tmps w' I (upd (upd Fs r1 []) r2 []):=by
    refine hfg.same ⟨hbel.os,hbel.tape,hbel.output,hbel.size,fun k hk=>hkeep k (Nat.lt_of_lt_of_le (Base.not hk) h.below.size) (fun hx=>hk (hN0 k hx))⟩ (fun x hx=>?_);rcases hx with hx | ⟨r',hr⟩
    · exact hkeep x (h.imm x hx) (fun hX=>by obtain ⟨k,_,hk⟩:=hmem x hX;exact (h.own k x hk).2.2 hx)
    · exact hkeep x (hfar r' x hr).1 (hfar r' x hr).2
  have hR:=hsame.immMore hI1 (fun x hx=>by
    obtain ⟨k1,k2⟩:=hI2 x hx;rcases k1 with k1 | k1
    · exact .inl k1
    · refine .inr ⟨k1.elim (fun h1=>Base.N_of h.below h1) (hN0 x),k2,fun r' hr=>?_⟩;obtain ⟨q1,q2⟩:=hfar r' x hr;rcases k1 with k1 | k1
      · omega
      · exact q2 k1)
  have hlt1:=(List.getElem?_eq_some_iff.1 hs1).1;have hlt2:=(List.getElem?_eq_some_iff.1 hs2).1;have hn1:=List.nodup_append.1 hndr;have hn2:=List.nodup_append.1 hn1.2.1;have hfr:∀ x,x∈F++(X1++X2)→(w0.N x∧x<w'.heap.size∧¬ I' x)∧∀ k,x∉upd (upd Fs r1 []) r2 [] k:=fun x hx=>by
    obtain ⟨k1,k2,k3⟩:=hF x hx;refine ⟨⟨k1.elim (fun h1=>Base.N_of h.below h1) (hN0 x),k2,k3⟩,fun k hk=>?_⟩;obtain ⟨q1,q2⟩:=hfar k x hk;rcases k1 with k1 | k1
    · omega
    · exact q2 k1
  have tm:∀ (r:Nat) (u:Value),a.tmps[r]?=some u→a.tmps.setIfInBounds r u=a.tmps:=fun r u hu=>by
    apply Array.ext_getElem?;intro k;by_cases hk:r=k
    · subst hk;rw [hu,Array.getElem?_setIfInBounds_self_of_lt (Array.getElem?_eq_some_iff.1 hu).1]
    · rw [Array.getElem?_setIfInBounds_ne hk]
  have hp1:=hR.put (t:=r1) (d0:=.undef) (d:=d1') (u:=u1) (F:=X1) (by
    rw [List.getElem?_set_ne (Ne.symm hne),pruneL_get,List.getElem?_set_self (by simpa [pruneL_len] using hlt1)];simp [D.prune]) rfl (hTd1.res (fun _ _ h=>h.elim)) hn2.1 (fun x hx=>⟨(hfr x (by simp [hx])).1.1,(hfr x (by simp [hx])).1.2.1,(hfr x (by simp [hx])).1.2.2,fun r' _=>(hfr x (by simp [hx])).2 r'⟩)
  rw [tm r1 u1 hu1] at hp1;have hp2:=hp1.put (t:=r2) (d0:=.undef) (d:=.box tag cells') (u:=u2) (F:=X2) (by
    rw [List.getElem?_set_ne hne,List.getElem?_set_self (by simpa [pruneL_len] using hlt2)]) rfl ((box_retag hT2 hTd2).res (fun _ _ h=>h.elim)) hn2.2.1 (fun x hx=>⟨(hfr x (by simp [hx])).1.1,(hfr x (by simp [hx])).1.2.1,(hfr x (by simp [hx])).1.2.2,fun r' hr' hm=>by
      unfold upd at hm;by_cases h1:r'=r1
      · rw [if_pos h1] at hm;exact hn2.2.2 x hm x hx rfl
      · rw [if_neg h1] at hm;exact (hfr x (by simp [hx])).2 r' (by unfold upd;exact hm)⟩)
  rw [tm r2 u2 hu2] at hp2;refine ⟨v,he,res,_,I',_,F,hK,hp2,hTr.res (fun _ _ h=>h.elim),⟨hn1.1,fun x hx=>⟨(hfr x (by simp [hx])).1.1,(hfr x (by simp [hx])).1.2.1,(hfr x (by simp [hx])).1.2.2,fun r' hm=>?_⟩⟩,fun h=>by cases h⟩;unfold upd at hm;by_cases h2:r'=r2
  · rw [if_pos h2] at hm;exact hn1.2.2 x hx x (by simp [hm]) rfl
  · rw [if_neg h2] at hm;by_cases h1:r'=r1
    · rw [if_pos h1] at hm;exact hn1.2.2 x hx x (by simp [hm]) rfl
    · rw [if_neg h1] at hm;exact (hfr x (by simp [hx])).2 r' (by unfold upd;exact hm)
theorem lendB_T {G:World→(Nat→Prop)→Prop}(hG:GI G w I0)(h:RelI w0 I0 s a.tmps w I Fs){f:FuncId}{args:List Operand}(hk:lendBK (CT P G) f s args K) :
    Calls P f (args.map a.eval).toArray w fun e w'=>∃ v,e=.returned v∧OutOK false Fs I w w0 I0 a.tmps K v w':=by
  obtain ⟨x,xs,r1,r2,tg1,tg2,c1,c2,c1',c2',res,args',rfl,hne,hs1,hs2,hx,⟨hp1,hp2⟩,hno,hle,hC,hK⟩:=hk;obtain ⟨u1,hu1,hT1⟩:=h.slot0 hs1;obtain ⟨u2,hu2,hT2⟩:=h.slot0 hs2;have hone:∀ {r:Nat} {tg:Option Nat} {c:List D} {u v:Value} {F:List Nat},s[r]?=some (.box tg c)→a.tmps[r]?=some u→T I w (.box tg c) (ρS s a.tmps w) u (Fs r)→T I w (.ptr r [] 0 0) (ρS s a.tmps w) v F→v=u:=(by intro r tg c u v F hs hu hT hp;simp only [T] at hT;obtain ⟨b,cs,et,F',hub,htg,hh,hFr,hcs⟩:=hT;simp only [T,ρS] at hp;obtain ⟨⟨e1,v0,t1,sz,rows,w1,b1,o1,k1,k2,k3,k4,k5,k6,k7⟩,_⟩:=hp;rw [hu] at k2;cases k2;simp only [valAt,Option.some.injEq] at k5;subst k5;rw [hub] at k6;simp only [baseOf,Option.some.injEq,Prod.mk.injEq] at k6;obtain ⟨rfl,rfl⟩:=k6;rw [k7,hub];simp);have hX:a.eval x=.agg #[u1,u2]∧u1.oneCell'=true∧u2.oneCell'=true:=(by have hlT:=lk_T h x;rw [hx] at hlT;rw [T] at hlT;obtain ⟨us,eu,hc⟩:=hlT;simp only [Cells] at hc;obtain ⟨z1,zs,A1,A2,rfl,_,ho1,hz1,z2,zs2,B1,B2,rfl,_,ho2,hz2,rfl,_⟩:=hc;have q1:=hone hs1 hu1 hT1 hz1;have q2:=hone hs2 hu2 hT2 hz2;subst q1;subst q2;exact ⟨eu,ho1,ho2⟩);have hbx1:T I w (.box none c1) nil u1 (Fs r1):=(by have:=box_untag hT1;rwa [plain_prune hp1] at this);have hbx2:T I w (.box none c2) nil u2 (Fs r2):=(by have:=box_untag hT2;rwa [plain_prune hp2] at this);have hV0:T I w (.agg [.box none c1,.box none c2]) nil (a.eval x) (Fs r1++Fs r2):=(by rw [hX.1,T];simp only [Cells];exact ⟨_,rfl,u1,[u2],Fs r1,Fs r2,rfl,rfl,hX.2.1,hbx1,u2,[],Fs r2,[],rfl,by simp,hX.2.2,hbx2,rfl,rfl⟩);have hnd:(Fs r1++Fs r2).Nodup:=List.nodup_append.2 ⟨h.nd r1,h.nd r2,fun x hx y hy e=>hne (h.disj r1 r2 x hx (e▸hy))⟩;have hmem:∀ x,x∈Fs r1++Fs r2→∃ k,(k=r1∨k=r2)∧x∈Fs k:=fun x hx=>(List.mem_append.1 hx).elim (fun hx=>⟨r1,.inl rfl,hx⟩) (fun hx=>⟨r2,.inr rfl,hx⟩);have hvals:Vals I w ((D.undef::args').set 0 .undef) nil ((x::xs).map a.eval) []:=(by have:=Vals.le _ _ (args_T h I (fun _ h=>h) xs (.inl hno)) hle;show Vals I w (D.undef::args') nil (a.eval x::xs.map a.eval) [];simp only [Vals];exact ⟨a.eval x,xs.map a.eval,[],[],rfl,rfl,by simp [T],this⟩);refine (hC.2 w I ((x::xs).map a.eval) (a.eval x) (Fs r1++Fs r2) (hG.mono h.imm0) h.imm rfl hvals hV0 hnd (fun x hx=>by
    obtain ⟨k,_,hk⟩:=hmem x hx;exact ⟨(h.own k x hk).2.1,(h.own k x hk).2.2⟩)).mono ?_
  rintro e w' ⟨v,F,X',I',he,hbel,hTr,hVx,hndr,hF,hI1,hI2⟩;obtain ⟨X1,X2,rfl,hTd1,hTd2⟩:∃ X1 X2,X'=X1++X2∧T I' w' (.box none c1') nil u1 X1∧T I' w' (.box none c2') nil u2 X2:=by rw [hX.1,T] at hVx;obtain ⟨us,eu,hc⟩:=hVx;simp only [Cells] at hc;obtain ⟨z1,zs,X1,X2',rfl,eX,_,k1,z2,zs2,X2,X3,rfl,eX2,_,k2,rfl,e4⟩:=hc;have he3:=congrArg Array.toList (Value.agg.inj eu);simp only [List.cons.injEq] at he3;obtain ⟨rfl,rfl,_⟩:=he3;exact ⟨X1,X2,by rw [eX,eX2,e4];simp,k1,k2⟩
  have hkeep:∀ x,x<w.heap.size→x∉Fs r1++Fs r2→w'.heap[x]?=w.heap[x]?:=fun x hx hn=>hbel.block x (fun hN=>hN.elim (fun h=>by have h:w.heap.size≤x:=h;omega) hn);have hup:∀ k x,x∈upd (upd Fs r1 []) r2 [] k→k≠r1∧k≠r2∧x∈Fs k:=fun k x hx=>by
    unfold upd at hx;split at hx
    · cases hx
    · rename_i h1;split at hx
      · cases hx
      · rename_i h2;exact ⟨h2,h1,hx⟩
  have hfg:=(h.forget r1).forget r2;have hN0:∀ x,x∈Fs r1++Fs r2→w0.N x:=fun x hx=>by obtain ⟨k,_,hk⟩:=hmem x hx;exact (h.own k x hk).1
  have hfar:∀ k x,x∈upd (upd Fs r1 []) r2 [] k→x<w.heap.size∧x∉Fs r1++Fs r2:=fun k x hx=>by
    obtain ⟨n1,n2,hx⟩:=hup k x hx;refine ⟨(h.own k x hx).2.1,fun hm=>?_⟩;obtain ⟨k',hk',hx'⟩:=hmem x hm;have:=h.disj k k' x hx hx';rcases hk' with rfl | rfl
    · exact n1 this
    · exact n2 this
  have hsame:RelI w0 I0 ((pruneL (notRoot r2) ((pruneL (notRoot r1) s).set r1 .undef)).set r2 .undef) a.tmps w' I (upd (upd Fs r1 []) r2 []):=by
    refine hfg.same ⟨hbel.os,hbel.tape,hbel.output,hbel.size,fun k hk=>hkeep k (Nat.lt_of_lt_of_le (Base.not hk) h.below.size) (fun hx=>hk (hN0 k hx))⟩ (fun x hx=>?_);rcases hx with hx | ⟨r',hr⟩
    · exact hkeep x (h.imm x hx) (fun hX=>by obtain ⟨k,_,hk⟩:=hmem x hX;exact (h.own k x hk).2.2 hx)
    · exact hkeep x (hfar r' x hr).1 (hfar r' x hr).2
  have hR:=hsame.immMore hI1 (fun x hx=>by
    obtain ⟨k1,k2⟩:=hI2 x hx;rcases k1 with k1 | k1
    · exact .inl k1
    · refine .inr ⟨k1.elim (fun h1=>Base.N_of h.below h1) (hN0 x),k2,fun r' hr=>?_⟩;obtain ⟨q1,q2⟩:=hfar r' x hr;rcases k1 with k1 | k1
      · omega
      · exact q2 k1)
  have hlt1:=(List.getElem?_eq_some_iff.1 hs1).1;have hlt2:=(List.getElem?_eq_some_iff.1 hs2).1;have hn1:=List.nodup_append.1 hndr;have hn2:=List.nodup_append.1 hn1.2.1;have hfr:∀ x,x∈F++(X1++X2)→(w0.N x∧x<w'.heap.size∧¬ I' x)∧∀ k,x∉upd (upd Fs r1 []) r2 [] k:=fun x hx=>by
    obtain ⟨k1,k2,k3⟩:=hF x hx;refine ⟨⟨k1.elim (fun h1=>Base.N_of h.below h1) (hN0 x),k2,k3⟩,fun k hk=>?_⟩;obtain ⟨q1,q2⟩:=hfar k x hk;rcases k1 with k1 | k1
    · omega
    · exact q2 k1
  have tm:∀ (r:Nat) (u:Value),a.tmps[r]?=some u→a.tmps.setIfInBounds r u=a.tmps:=fun r u hu=>by
    apply Array.ext_getElem?;intro k;by_cases hk:r=k
    · subst hk;rw [hu,Array.getElem?_setIfInBounds_self_of_lt (Array.getElem?_eq_some_iff.1 hu).1]
    · rw [Array.getElem?_setIfInBounds_ne hk]
  rcases hK with hK | ⟨r3,tg3,hs3,n31,n32,hK⟩
  case inr =>
    obtain ⟨u3,hu3,hT3⟩:=h.slot0 hs3;simp only [T.eq_11] at hT3;obtain ⟨b3,cs3,e3,F3,hub,htg,hh,hFr,hcs⟩:=hT3;simp only [Cells] at hcs;obtain ⟨z1,zs,A1,A2,q1,q2,_,hz1,z2,zs2,B1,B2,q3,q4,_,hz2,q5,q6⟩:=hcs;have v1:=hone hs1 hu1 hT1 hz1;have v2:=hone hs2 hu2 hT2 hz2;have a1:A1=[]:=(by simp only [T] at hz1;exact hz1.2);have a2:B1=[]:=(by simp only [T] at hz2;exact hz2.2);subst v1;subst v2;subst a1;subst a2;subst q6;subst q5;subst q3;have hF3:Fs r3=[b3]:=(by rw [hFr,q2,q4];rfl);have hb3:b3∈Fs r3:=(by rw [hF3];simp);have hh':w'.heap[b3]?=some (.cells cs3 e3 (0,0)):=(hkeep b3 (h.own r3 b3 hb3).2.1 (fun hXX=>by
      obtain ⟨k,hk,hbk⟩:=hmem b3 hXX;have:=h.disj r3 k b3 hb3 hbk;rcases hk with rfl | rfl
      · exact n31 this
      · exact n32 this)).trans hh
    have hmid:upd (upd Fs r1 []) r2 [] r3=[b3]:=(by unfold upd;rw [if_neg n32,if_neg n31,hF3]);have hTn:T I' w' (.box tg3 [.box none c1',.box none c2']) nil u3 (b3::(X1++X2)):=(by simp only [T.eq_11,Cells];exact ⟨b3,cs3,e3,X1++X2,hub,htg,hh',rfl,z1,[z2],X1,X2,q1,rfl,hX.2.1,by simpa only [T.eq_11] using hTd1,z2,[],X2,[],rfl,by simp,hX.2.2,by simpa only [T.eq_11] using hTd2,rfl,rfl⟩);have hR3:=hR.forget r3;have hlt3:=(List.getElem?_eq_some_iff.1 hs3).1;have hnb:b3∉X1++X2:=fun hx=>(hfr b3 (List.mem_append_right _ hx)).2 r3 (by rw [hmid];simp);have hp3:=hR3.put (t:=r3) (d0:=.undef) (d:=.box tg3 [.box none c1',.box none c2']) (u:=u3) (F:=b3::(X1++X2)) (by
      rw [List.getElem?_set_self (by simpa [pruneL_len] using hlt3)]) rfl (hTn.res (fun _ _ h=>h.elim)) (List.nodup_cons.2 ⟨hnb,hn1.2.1⟩) (fun x hx=>by
      rcases List.mem_cons.1 hx with rfl | hx
      · have ho:=hR.own r3 x (by rw [hmid];simp);refine ⟨ho.1,ho.2.1,ho.2.2,fun r' hr' hm=>?_⟩;have hm':x∈upd (upd Fs r1 []) r2 [] r':=(by unfold upd at hm ⊢;rw [if_neg hr'] at hm;exact hm);exact hr' (hR.disj r' r3 x hm' (by rw [hmid];simp))
      · have ho:=hfr x (List.mem_append_right _ hx);refine ⟨ho.1.1,ho.1.2.1,ho.1.2.2,fun r' hr' hm=>ho.2 r' ?_⟩;unfold upd at hm ⊢;rw [if_neg hr'] at hm;exact hm)
    rw [tm r3 u3 hu3,List.set_set] at hp3;refine ⟨v,he,res,_,I',_,F,hK,hp3,hTr.res (fun _ _ h=>h.elim),⟨hn1.1,fun x hx=>⟨(hfr x (by simp [hx])).1.1,(hfr x (by simp [hx])).1.2.1,(hfr x (by simp [hx])).1.2.2,fun r' hm=>?_⟩⟩,fun h=>by cases h⟩;unfold upd at hm;by_cases h3:r'=r3
    · rw [if_pos h3] at hm;rcases List.mem_cons.1 hm with rfl | hm
      · exact (hfr x (by simp [hx])).2 r3 (by rw [hmid];simp)
      · exact hn1.2.2 x hx x hm rfl
    · rw [if_neg h3,if_neg h3] at hm;exact (hfr x (by simp [hx])).2 r' (by unfold upd;exact hm)
  have hp1:=hR.put (t:=r1) (d0:=.undef) (d:=.box tg1 c1') (u:=u1) (F:=X1) (by
    rw [List.getElem?_set_ne (Ne.symm hne),pruneL_get,List.getElem?_set_self (by simpa [pruneL_len] using hlt1)];simp [D.prune]) rfl ((box_retag hT1 hTd1).res (fun _ _ h=>h.elim)) hn2.1 (fun x hx=>⟨(hfr x (by simp [hx])).1.1,(hfr x (by simp [hx])).1.2.1,(hfr x (by simp [hx])).1.2.2,fun r' _=>(hfr x (by simp [hx])).2 r'⟩)
  rw [tm r1 u1 hu1] at hp1;have hp2:=hp1.put (t:=r2) (d0:=.undef) (d:=.box tg2 c2') (u:=u2) (F:=X2) (by
    rw [List.getElem?_set_ne hne,List.getElem?_set_self (by simpa [pruneL_len] using hlt2)]) rfl ((box_retag hT2 hTd2).res (fun _ _ h=>h.elim)) hn2.2.1 (fun x hx=>⟨(hfr x (by simp [hx])).1.1,(hfr x (by simp [hx])).1.2.1,(hfr x (by simp [hx])).1.2.2,fun r' hr' hm=>by
      unfold upd at hm;by_cases h1:r'=r1
      · rw [if_pos h1] at hm;exact hn2.2.2 x hm x hx rfl
      · rw [if_neg h1] at hm;exact (hfr x (by simp [hx])).2 r' (by unfold upd;exact hm)⟩)
  rw [tm r2 u2 hu2] at hp2;refine ⟨v,he,res,_,I',_,F,hK,hp2,hTr.res (fun _ _ h=>h.elim),⟨hn1.1,fun x hx=>⟨(hfr x (by simp [hx])).1.1,(hfr x (by simp [hx])).1.2.1,(hfr x (by simp [hx])).1.2.2,fun r' hm=>?_⟩⟩,fun h=>by cases h⟩;unfold upd at hm;by_cases h2:r'=r2
  · rw [if_pos h2] at hm;exact hn1.2.2 x hx x (by simp [hm]) rfl
  · rw [if_neg h2] at hm;by_cases h1:r'=r1
    · rw [if_pos h1] at hm;exact hn1.2.2 x hx x (by simp [hm]) rfl
    · rw [if_neg h1] at hm;exact (hfr x (by simp [hx])).2 r' (by unfold upd;exact hm)
theorem tag_val {I:Nat→Prop}{w:World}{ρ:D→Value→Prop}{b:Nat}{cs:List D}{u:Value}{F:List Nat}(h:T I w (.box (some b) cs) ρ u F):u=.pointer (some ⟨b,0,none⟩):=by simp only [T] at h;obtain ⟨b',_,_,_,hu,ht,_⟩:=h;rw [hu,ht b rfl]
theorem each_T {G:World→(Nat→Prop)→Prop} (hG:GI G w I0) (h:RelI w0 I0 s a.tmps w I Fs) {f:FuncId} {args:List Operand} (hk:eachK (CT P G) f s args K) :
    Calls P f (args.map a.eval).toArray w fun e w'=>∃ v,e=.returned v∧OutOK false Fs I w w0 I0 a.tmps K v w':=by
  obtain ⟨x,y,F,caps,caps',r,t,q,tg,b,j,C,C',res,c0,c2,rfl,hx,hy,hcase,hdp,hle,hC,hK⟩:=hk;have hR:∃ u,a.tmps[r]?=some u∧∃ tg' cs,s[r]?=some (.box tg' cs):=by
    rcases hcase with ⟨_,_,hs,_⟩ | ⟨_,_,hs⟩
    all_goals
      obtain ⟨u,hu,_⟩:=h.slot0 hs;exact ⟨u,hu,_,_,hs⟩
  obtain ⟨ur,hur,tgr,csr,hsr⟩:=hR
  -- the variable with the address, and what it leads to
  have hbox:∃ X,T I w (.box none [.box (some b) (pruneL (fun _=>false) C)]) nil ur X∧X.Nodup∧∀ z,z∈X→∃ k,(k=r∨k=t)∧z∈Fs k:=by
    rcases hcase with ⟨rfl,hne,hs,ht⟩ | ⟨rfl,rfl,hs⟩
    · obtain ⟨u1,hu1,hT1⟩:=h.slot0 hs;rw [hur] at hu1;cases hu1;obtain ⟨ut,hut,hTt⟩:=h.slot0 ht;have hTt0:=hTt;have hp:T I w (.box (some b) (pruneL (fun _=>false) C)) nil ut (Fs t):=(by have:=T.turn (q:=fun _=>false) (ρ':=nil) (fun x v hq _=>by cases hq) (D.box (some b) C) hTt;simpa only [D.prune] using this);simp only [T.eq_11] at hT1;obtain ⟨b1,cs1,e1,F1,hub,_,hh,hF1,hcs⟩:=hT1;simp only [Cells] at hcs;obtain ⟨z1,zs,A1,A2,q1,q2,ho1,hz1,q3,q4⟩:=hcs;have a1:A1=[]:=(by simp only [T] at hz1;exact hz1.2);subst a1;subst q4;have hz:z1=ut:=(by simp only [T,ρS] at hz1;obtain ⟨⟨d1,v0,t1,sz,rows,w1,b2,o1,k1,k2,k3,k4,k5,k6,k7⟩,_⟩:=hz1;rw [hut] at k2;cases k2;simp only [valAt,Option.some.injEq] at k5;subst k5;rw [tag_val hTt0] at k6 ⊢;simp only [baseOf,Option.some.injEq,Prod.mk.injEq] at k6;obtain ⟨rfl,rfl⟩:=k6;rw [k7];simp);subst hz;have e0:F1=[]:=(by rw [q2];rfl);have hb1:b1∈Fs r:=(by rw [hF1];simp);refine ⟨b1::Fs t,?_,List.nodup_cons.2 ⟨fun hb=>hne (h.disj r t b1 hb1 hb),h.nd t⟩,fun z hz=>?_⟩
      · simp only [T.eq_11,Cells];exact ⟨b1,cs1,e1,Fs t,hub,(fun k hk=>by cases hk),hh,rfl,z1,zs,Fs t,[],q1,by simp,ho1,by simpa only [T.eq_11] using hp,q3,rfl⟩
      · rcases List.mem_cons.1 hz with rfl | hz
        · exact ⟨r,.inl rfl,hb1⟩
        · exact ⟨t,.inr rfl,hz⟩
    · obtain ⟨u1,hu1,hT1⟩:=h.slot0 hs;rw [hur] at hu1;cases hu1;have:=box_untag hT1;simp only [pruneL,D.prune] at this;exact ⟨Fs t,this,h.nd t,fun z hz=>⟨t,.inl rfl,hz⟩⟩
  obtain ⟨X,hbx,hXn,hXm⟩:=hbox;have hfg:RelI w0 I0 (gone2 r t s) a.tmps w I (upd (upd Fs r []) t []):=(h.forget r).forget t;have hfar:∀ k z,z∈upd (upd Fs r []) t [] k→k≠r∧k≠t∧z∈Fs k:=fun k z hz=>by
    unfold upd at hz;split at hz
    · cases hz
    · rename_i h1;split at hz
      · cases hz
      · rename_i h2;exact ⟨h2,h1,hz⟩
  -- the blocks that stay: all but these
  let I2:Nat→Prop:=fun z=>I z∨∃ k,z∈upd (upd Fs r []) t [] k
  have hXI:∀ z,z∈X→z<w.heap.size∧¬ I2 z:=fun z hz=>by
    obtain ⟨k,hk,hm⟩:=hXm z hz;refine ⟨(h.own k z hm).2.1,fun hI=>?_⟩;rcases hI with hI | ⟨k',hk'⟩
    · exact (h.own k z hm).2.2 hI
    · obtain ⟨n1,n2,hm'⟩:=hfar k' z hk';have:=h.disj k k' z hm hm';rcases hk with rfl | rfl
      · exact n1 this.symm
      · exact n2 this.symm
  -- the function value
  have hyT:=lk_T h y;rw [hy] at hyT;simp only [T] at hyT;obtain ⟨us0,vs0,_,_,hyv,_,hus0,hvs0⟩:=hyT;simp only [Vals] at hus0 hvs0;obtain ⟨rfl,_⟩:=hus0;obtain ⟨v0,vs,_,_,rfl,_,hv0,_⟩:=hvs0;have hv0r:v0=ur:=(by obtain ⟨u1,hu1,hT1⟩:=h.slot0 hsr;rw [hur] at hu1;cases hu1;simp only [T] at hT1;obtain ⟨b1,_,_,_,hub,_⟩:=hT1;simp only [T,ρS] at hv0;obtain ⟨⟨d1,w1,t1,sz,rows,w2,b2,o1,k1,k2,k3,k4,k5,k6,k7⟩,_⟩:=hv0;rw [hur] at k2;cases k2;simp only [valAt,Option.some.injEq] at k5;subst k5;rw [hub] at k6;simp only [baseOf,Option.some.injEq,Prod.mk.injEq] at k6;obtain ⟨rfl,rfl⟩:=k6;rw [k7,hub];simp);subst hv0r;have hcaps:Vals I2 w caps' nil vs []:=(by have hy2:=lk_T hfg y;have hd:=deep_T hfg (I':=I2) (fun _ h=>.inl h) 8 (lk (gone2 r t s) y) (fun _ _ h=>h) hy2 (fun b hb=>by cases hb) (.inr fun k z hz=>.inr ⟨k,hz⟩);rw [hdp] at hd;simp only [T] at hd;obtain ⟨us1,vs1,G1,G2,e1,e2,_,hv1⟩:=hd;rw [hyv] at e1;simp only [Value.func.injEq] at e1;have e3:=congrArg Array.toList e1.2.2;simp only at e3;subst e3;have e4:G2=[]:=(by have:=e2.symm;simp at this;exact this.2);subst e4;simp only [Vals] at hv1;obtain ⟨z,zs,H1,H2,q1,q2,_,hv2⟩:=hv1;simp only [List.cons.injEq] at q1;obtain ⟨rfl,rfl⟩:=q1;have:H2=[]:=(by have:=q2.symm;simp at this;exact this.2);subst this;exact Vals.le _ _ hv2 hle);have hxv:a.eval x=.pointer (some ⟨b,j,none⟩):=by
    have hX:=lk_T h x;rw [hx] at hX;simp only [T,ρS] at hX;obtain ⟨⟨d1,w1,t1,sz,rows,w2,b2,o1,k1,k2,k3,k4,k5,k6,k7⟩,_⟩:=hX;obtain ⟨w3,F3,ρ3,m1,m2,_⟩:=val_T q d1 (h.slot t d1 w1 k1 k2) k3;rw [k5] at m1;cases m1;have hb:∃ cs,t1=.box (some b) cs:=by
      rcases hcase with ⟨rfl,_,_,ht⟩ | ⟨rfl,rfl,hs⟩
      · rw [ht] at k1;cases k1;simp only [treeAt,Option.some.injEq] at k3;exact ⟨_,k3.symm⟩
      · rw [hs] at k1;cases k1;simp [treeAt,D.cont] at k3;exact ⟨_,k3.symm⟩
    obtain ⟨cs,rfl⟩:=hb;rw [tag_val m2] at k6;simp only [baseOf,Option.some.injEq,Prod.mk.injEq] at k6;obtain ⟨rfl,rfl⟩:=k6;rw [k7];simp
  have hV:Vals I2 w ([.v (.pointer (some ⟨b,j,none⟩)),.undef].set 1 .undef) nil ([x,y].map a.eval) []:=(by show Vals I2 w [.v (.pointer (some ⟨b,j,none⟩)),.undef] nil [a.eval x,a.eval y] [];simp only [Vals,T];exact ⟨_,_,[],[],rfl,rfl,⟨hxv,rfl⟩,_,_,[],[],rfl,rfl,rfl,rfl,rfl⟩);have hT0:T I2 w (.fn F [] (.box none [.box (some b) (pruneL (fun _=>false) C)]::caps')) nil (a.eval y) X:=(by rw [hyv];rw [T];refine ⟨[],v0::vs,[],X,rfl,rfl,by simp [Vals],?_⟩;rw [Vals];exact ⟨v0,vs,X,[],rfl,by simp,T.mono (fun _ h=>.inl h) _ hbx,hcaps⟩);refine (hC.2 w I2 ([x,y].map a.eval) (a.eval y) X (hG.mono fun z hz=>.inl (h.imm0 z hz)) (fun z hz=>hz.elim (h.imm z) (fun ⟨k,hk⟩=>(h.own k z (hfar k z hk).2.2).2.1)) rfl hV hT0 hXn hXI).mono ?_;rintro e w' ⟨v,Fv,X',I',he,hbel,hTv,hTx,hnd,hFx,hI1,hI2⟩;simp only [T] at hTv;obtain ⟨rfl,rfl⟩:=hTv
  -- the variable behind
  obtain ⟨X1,X2,hXX,hT1⟩:∃ X1 X2,X'=X1++X2∧T I' w' (.box none [.box (some b) C']) nil v0 X1:=(by rw [hyv,T] at hTx;obtain ⟨us2,vs2,G1,G2,e1,e2,hu2,hv2⟩:=hTx;simp only [Value.func.injEq] at e1;have e3:=congrArg Array.toList e1.2.2;simp only at e3;subst e3;simp only [Vals] at hu2;obtain ⟨_,rfl⟩:=hu2;rw [Vals] at hv2;obtain ⟨z,zs,H1,H2,q1,q2,hz,_⟩:=hv2;simp only [List.cons.injEq] at q1;obtain ⟨rfl,rfl⟩:=q1;exact ⟨H1,H2,by rw [e2,q2];rfl,hz⟩);have hN0:∀ z,z∈X→w0.N z:=fun z hz=>by obtain ⟨k,_,hk⟩:=hXm z hz;exact (h.own k z hk).1
  have hbelow:w0.Below w':=h.below.keeps ⟨hbel.os,hbel.tape,hbel.output,hbel.size,fun k hk=>hbel.block k (fun hn=>hn.elim (fun hs=>hk (Base.N_of h.below hs)) (fun hm=>hk (hN0 k hm)))⟩;have hsub:∀ z,z∈X1→w0.N z∧z<w'.heap.size∧¬ I' z:=fun z hz=>by obtain ⟨k1,k2,k3⟩:=hFx z (by simp [hXX,hz]);exact ⟨k1.elim (fun hs=>Base.N_of h.below hs) (hN0 z),k2,k3⟩
  have hn1:X1.Nodup:=by rw [hXX] at hnd;simp only [List.nil_append] at hnd;exact (List.nodup_append.1 hnd).1
  -- what slot t holds
  have hslot:∃ ut D1 F1,a.tmps[t]?=some ut∧D1=(if q=[] then D.box (some b) C' else .box tg [.box (some b) C'])∧T I' w' D1 nil ut F1∧F1.Nodup∧∀ z,z∈F1→z∈X1:=by
    rcases hcase with ⟨rfl,hne,hs,ht⟩ | ⟨rfl,rfl,hs⟩
    · obtain ⟨ut,hut,hTt⟩:=h.slot0 ht;simp only [T.eq_11] at hT1;obtain ⟨b1,cs1,e1,F1,hub,_,hh,hF1,hcs⟩:=hT1;simp only [Cells] at hcs;obtain ⟨z1,zs,A1,A2,q1,q2,ho1,hz1,q3,q4⟩:=hcs;subst q4;have hz1':T I' w' (.box (some b) C') nil z1 A1:=(by simpa only [T.eq_11] using hz1);have e0:F1=A1:=(by rw [q2];simp);refine ⟨ut,_,A1,hut,rfl,?_,?_,fun z hz=>?_⟩
      · rw [if_pos rfl,tag_val hTt,← tag_val hz1'];exact hz1'
      · rw [hF1,e0] at hn1;exact (List.nodup_cons.1 hn1).2
      · rw [hF1,e0];simp [hz]
    · obtain ⟨u1,hu1,hTr⟩:=h.slot0 hs;rw [hur] at hu1;cases hu1;exact ⟨v0,_,X1,hur,rfl,by rw [if_neg (by simp)];exact box_retag hTr hT1,hn1,fun z hz=>hz⟩
  obtain ⟨ut,D1,F1,hut,hD1,hT2,hn2,hF1⟩:=hslot;have htl:t<s.length:=(by rw [← h.len];exact (Array.getElem?_eq_some_iff.1 hut).1);refine ⟨_,he,.v v,_,I',(fun k=>if k=t then F1 else []),[],hK,?_,by simp [T],Fresh.nil,fun hh=>by cases hh⟩;rw [← hD1];exact {
    below:=hbelow
    len:=by simp [h.len]
    slot:=fun k d u hd hu=>by
      by_cases hkt:k=t
      · subst hkt;rw [List.getElem?_set_self (by simpa using htl)] at hd;cases hd;rw [hut] at hu;cases hu;simp only [if_true];exact hT2.res (fun _ _ h=>h.elim)
      · rw [List.getElem?_set_ne (Ne.symm hkt)] at hd;have hd':d=.undef:=by obtain ⟨hl,hd⟩:=List.getElem?_eq_some_iff.1 hd;simpa using hd.symm
        subst hd';simp only [hkt,if_false,T]
    nd:=fun k=>by split;exact hn2;exact List.nodup_nil
    disj:=fun k k' z hz hz'=>by
      split at hz
      · split at hz'
        · omega
        · cases hz'
      · cases hz
    own:=fun k z hz=>by
      split at hz
      · exact hsub z (hF1 z hz)
      · cases hz
    imm:=fun z hz=>(hI2 z hz).2
    imm0:=fun z hz=>hI1 z (.inl (h.imm0 z hz))
    immN:=fun z hz=>by
      rcases (hI2 z hz).1 with (hh | ⟨k,hh⟩) | hh | hh
      · exact h.immN z hh
      · exact .inr (h.own k z (hfar k z hh).2.2).1
      · exact .inr (Base.N_of h.below hh)
      · exact .inr (hN0 z hh) }
theorem OutOK.mono0 {v:Value}{w':World}{I2:Nat→Prop}{Fs2:Nat→List Nat}(h:OutOK false Fs2 I2 w w0 I0 a.tmps K v w'):OutOK false Fs I w w0 I0 a.tmps K v w':=by obtain ⟨d,s',I',Fs',F,h1,h2,h3,h4,_⟩:=h;exact ⟨d,s',I',Fs',F,h1,h2,h3,h4,fun h=>by cases h⟩
theorem sim_callX {G:World→(Nat→Prop)→Prop}(hG:GI G w I0)(h:RelI w0 I0 s a.tmps w I Fs){f:FuncId}{xs:Array Operand}{ts:Array TypeId}{o:Oper}(ho:o.op=.call { callee:=.value (.func f),args:=xs,argTypes:=ts })(hk:evalK (CT P G) s (.callX f xs.toList) K):RunsTo P (execOp a.eval o) w (OutOK false Fs I w w0 I0 a.tmps K):=by
  have hlend:lendK (CT P G) f s xs.toList K→RunsTo P (execOp a.eval o) w (OutOK false Fs I w w0 I0 a.tmps K):=by
    intro hk;have hC:∀ (us:Array Value) (W:World),(callFunc f us).run P W=.ok (.enter f us) W:=by obtain ⟨_,_,_,_,_,_,_,_,_,_,_,_,_,_,hC,_⟩:=hk;exact hC.1
    have hm:Array.map a.eval xs=(List.map a.eval xs.toList).toArray:=(by apply Array.ext';simp);have hrun:(execOp a.eval o).run P w=.ok (.enter f (List.map a.eval xs.toList).toArray) w:=(by simp only [execOp,ho,resolve,Sem.run_bind];rw [show a.eval (.func f)=.func (.func f) #[] #[] from rfl,hm];simp [Deferred.ofValue,invoke,hC]);unfold RunsTo;rw [hrun];exact lend_T hG h hk
  have hio:∀ {s2:List D} {I2:Nat→Prop} {Fs2:Nat→List Nat},RelI w0 I0 s2 a.tmps w I2 Fs2→ioK (CT P G) f s2 (xs.toList.map fun x=>raw s2 x) K→RunsTo P (execOp a.eval o) w (OutOK false Fs I w w0 I0 a.tmps K):=by
    intro s2 I2 Fs2 h hk;have hC:∀ (us:Array Value) (W:World),(callFunc f us).run P W=.ok (.enter f us) W:=by obtain ⟨_,_,tag,_,_,_,_,_,_,_,hk⟩:=hk;obtain ⟨_,_,_,_,hC,_⟩:=hk (tag.getD 0) (fun k e=>by rw [e];rfl);exact hC.1
    have hm:Array.map a.eval xs=(List.map a.eval xs.toList).toArray:=(by apply Array.ext';simp);have hrun:(execOp a.eval o).run P w=.ok (.enter f (List.map a.eval xs.toList).toArray) w:=(by simp only [execOp,ho,resolve,Sem.run_bind];rw [show a.eval (.func f)=.func (.func f) #[] #[] from rfl,hm];simp [Deferred.ofValue,invoke,hC]);unfold RunsTo;rw [hrun];exact (io_T hG h (args_ok h xs.toList) hk).mono (fun e w' he=>by obtain ⟨v,he,hv⟩:=he;exact ⟨v,he,hv.mono0⟩)
  have hlend2:lend2K (CT P G) f s xs.toList K→RunsTo P (execOp a.eval o) w (OutOK false Fs I w w0 I0 a.tmps K):=by
    intro hk;have hC:∀ (us:Array Value) (W:World),(callFunc f us).run P W=.ok (.enter f us) W:=by obtain ⟨_,_,_,_,_,_,_,_,_,_,_,_,_,_,_,_,_,_,_,_,_,_,hC,_⟩:=hk;exact hC.1
    have hm:Array.map a.eval xs=(List.map a.eval xs.toList).toArray:=(by apply Array.ext';simp);have hrun:(execOp a.eval o).run P w=.ok (.enter f (List.map a.eval xs.toList).toArray) w:=(by simp only [execOp,ho,resolve,Sem.run_bind];rw [show a.eval (.func f)=.func (.func f) #[] #[] from rfl,hm];simp [Deferred.ofValue,invoke,hC]);unfold RunsTo;rw [hrun];exact lend2_T hG h hk
  have hlendB:lendBK (CT P G) f s xs.toList K→RunsTo P (execOp a.eval o) w (OutOK false Fs I w w0 I0 a.tmps K):=by
    intro hk;have hC:∀ (us:Array Value) (W:World),(callFunc f us).run P W=.ok (.enter f us) W:=by obtain ⟨_,_,_,_,_,_,_,_,_,_,_,_,_,_,_,_,_,_,_,_,hC,_⟩:=hk;exact hC.1
    have hm:Array.map a.eval xs=(List.map a.eval xs.toList).toArray:=(by apply Array.ext';simp);have hrun:(execOp a.eval o).run P w=.ok (.enter f (List.map a.eval xs.toList).toArray) w:=(by simp only [execOp,ho,resolve,Sem.run_bind];rw [show a.eval (.func f)=.func (.func f) #[] #[] from rfl,hm];simp [Deferred.ofValue,invoke,hC]);unfold RunsTo;rw [hrun];exact lendB_T hG h hk
  have heach:eachK (CT P G) f s xs.toList K→RunsTo P (execOp a.eval o) w (OutOK false Fs I w w0 I0 a.tmps K):=by
    intro hk;have hC:∀ (us:Array Value) (W:World),(callFunc f us).run P W=.ok (.enter f us) W:=by obtain ⟨_,_,_,_,_,_,_,_,_,_,_,_,_,_,_,_,_,_,_,_,_,_,hC,_⟩:=hk;exact hC.1
    have hm:Array.map a.eval xs=(List.map a.eval xs.toList).toArray:=(by apply Array.ext';simp);have hrun:(execOp a.eval o).run P w=.ok (.enter f (List.map a.eval xs.toList).toArray) w:=(by simp only [execOp,ho,resolve,Sem.run_bind];rw [show a.eval (.func f)=.func (.func f) #[] #[] from rfl,hm];simp [Deferred.ofValue,invoke,hC]);unfold RunsTo;rw [hrun];exact each_T hG h hk
  rcases hk with hk | hk | hk | ⟨t,hk⟩ | hk | hk | hk | ⟨r,t,hk⟩ | hk
  rotate_right 4
  · exact sim_call hG h ho (by simp only [evalK];exact .inr (.inl hk))
  · exact hlendB hk
  · obtain ⟨Fs2,h2⟩:=h.pull r t;exact hio h2 hk
  · exact heach hk
  · exact sim_callP hG h ho hk
  · exact hio h hk
  · exact hlend hk
  · obtain ⟨I2,Fs2,h2,_⟩:=h.freeze t;exact hio h2 hk
  · exact hlend2 hk
theorem sim_callvX {G:World→(Nat→Prop)→Prop}(hG:GI G w I0)(h:RelI w0 I0 s a.tmps w I Fs){x:Operand}{xs:Array Operand}{ts:Array TypeId}{o:Oper}(ho:o.op=.call { callee:=.value x,args:=xs,argTypes:=ts })(hk:evalK (CT P G) s (.callvX x xs.toList) K):RunsTo P (execOp a.eval o) w (OutOK false Fs I w w0 I0 a.tmps K):=by
  have hio:∀ {s2:List D} {I2:Nat→Prop} {Fs2:Nat→List Nat} {f:FuncId} {first caps:List D},RelI w0 I0 s2 a.tmps w I2 Fs2→lk s2 x=.fn f first caps→ioK (CT P G) f s2 (first++xs.toList.map (fun x=>raw s2 x)++caps) K→RunsTo P (execOp a.eval o) w (OutOK false Fs I w w0 I0 a.tmps K):=by
    intro s2 I2 Fs2 f first caps h e hk
    have hX:=lk_T h x;rw [e] at hX;simp only [T] at hX;obtain ⟨us,vs,F1,F2,hu,hF,h1,h2⟩:=hX;simp at hF;obtain ⟨rfl,rfl⟩:=hF;have hC:∀ (us:Array Value) (W:World),(callFunc f us).run P W=.ok (.enter f us) W:=(by obtain ⟨_,_,tag,_,_,_,_,_,_,_,hk⟩:=hk;obtain ⟨_,_,_,_,hC,_⟩:=hk (tag.getD 0) (fun k e=>by rw [e];rfl);exact hC.1);have hrun:(execOp a.eval o).run P w=.ok (.enter f (us++xs.toList.map a.eval++vs).toArray) w:=(by have hm:Array.map a.eval xs=(List.map a.eval xs.toList).toArray:=(by apply Array.ext';simp);simp only [execOp,ho,resolve,Sem.run_bind,hu,hm];simp [Deferred.ofValue,invoke,hC]);unfold RunsTo;rw [hrun];exact (io_T hG h (argsOK_app (argsOK_app (vals_ok h1) (args_ok h xs.toList)) (vals_ok h2)) hk).mono (fun e w' he=>by obtain ⟨v,he,hv⟩:=he;exact ⟨v,he,hv.mono0⟩)
  simp only [evalK] at hk;split at hk
  · rename_i f first caps e
    rcases hk with hk | hk | ⟨r,t,f',first',caps',e',hk⟩ | hk
    · refine sim_callv hG h ho ?_;simp only [evalK,e];exact hk
    · exact hio h e hk
    · obtain ⟨Fs2,h2⟩:=h.mvin r t;exact hio h2 e' hk
    · have hX:=lk_T h x;rw [e] at hX;simp only [T] at hX;obtain ⟨us,vs,F1,F2,hu,hF,h1,h2⟩:=hX;simp at hF;obtain ⟨rfl,rfl⟩:=hF;have hC:∀ (us:Array Value) (W:World),(callFunc f us).run P W=.ok (.enter f us) W:=(by obtain ⟨_,_,_,_,_,_,_,_,_,_,_,_,_,_,hC,_⟩:=hk;exact hC.1);have hrun:(execOp a.eval o).run P w=.ok (.enter f (us++xs.toList.map a.eval++vs).toArray) w:=(by have hm:Array.map a.eval xs=(List.map a.eval xs.toList).toArray:=(by apply Array.ext';simp);simp only [execOp,ho,resolve,Sem.run_bind,hu,hm];simp [Deferred.ofValue,invoke,hC]);unfold RunsTo;rw [hrun];exact keep_T hG h (argsOK_app (argsOK_app (vals_ok h1) (args_ok h xs.toList)) (vals_ok h2)) hk
  · exact hk.elim
end
end Go.V
namespace Go.V
open Go.RowKit
section
variable {P:Program} {w0:Base} {I0:Nat→Prop} {s:List D} {a:Act} {w:World} {I:Nat→Prop} {Fs:Nat→List Nat} {K:D→List D→Prop} {Ctr:CtrT} {nn:Bool}
theorem slice_form (h:RelI w0 I0 s a.tmps w I Fs){x:Operand}{sz:Nat}{rows:List (List D)}(hs:slAt s (lk s x)=some (sz,rows)):∃ ad c,a.eval x=.slice ad rows.length c∧(rows=[]∨∃ b o raw F,ad=some ⟨b,o,none⟩∧w.rangeAt b o raw∧Rows I w sz rows raw F):=by
  have hT:=lk_T h x;have own:∀ {own:Bool} {sz':Nat} {rows':List (List D)} {ρ u F},T I w (.sl own sz' rows') ρ u F→∃ ad c,u=.slice ad rows'.length c∧(rows'=[]∨∃ b o raw F,ad=some ⟨b,o,none⟩∧w.rangeAt b o raw∧Rows I w sz' rows' raw F):=by
    intro own sz' rows' ρ u F hT;simp only [T] at hT;obtain ⟨ad,c,e,h1,h2,h3⟩:=hT;refine ⟨ad,c,e,?_⟩;rcases h3 with ⟨_,_,h3⟩ | ⟨_,h3⟩
    · rcases h3 with h3 | ⟨b,o,raw,h4,_,h5,h6⟩
      · exact .inl h3
      · exact .inr ⟨b,o,raw,_,h4,h5,h6⟩
    · rcases h3 with ⟨_,h4,_⟩ | ⟨b,o,cells,et,raw,F',h4,_,_,h5,_,h6⟩
      · exact .inl (List.eq_nil_of_length_eq_zero (by omega))
      · exact .inr ⟨b,o,raw,_,h4,h5,h6⟩
  cases hl:lk s x with
  | sl own' z r=>rw [hl] at hT hs;simp only [slAt,Option.some.injEq,Prod.mk.injEq] at hs;obtain ⟨rfl,rfl⟩:=hs;exact own hT
  | nils=>rw [hl] at hT hs;simp only [slAt,Option.some.injEq,Prod.mk.injEq] at hs;obtain ⟨rfl,rfl⟩:=hs;simp only [T] at hT;exact ⟨none,0,hT.1,.inl rfl⟩
  | ref r q=>rw [hl] at hT hs;obtain ⟨F',ρ',k2,_⟩:=ref_form h hT hs;exact own k2
  | sub r q i n =>
    rw [hl] at hT hs;obtain ⟨ad,c,raw,F',e,_,_,_,h4,_,h5⟩:=sub_form h hT hs;refine ⟨ad,c,e,?_⟩;rcases h5 with h5 | ⟨b,o,h5,_,h6⟩
    · exact .inl h5
    · exact .inr ⟨b,o,raw,F',h5,h6,h4⟩
  | _=>rw [hl] at hs;simp [slAt] at hs
theorem sim_b2s (h:RelI w0 I0 s a.tmps w I Fs) {x:Operand} {src dst e:TypeId} {o:Oper} (ho:o.op=.convert src dst x) (hs:P.underlying src=some (.slice e)) (he:P.underlying e=some (.int .u8)) (hd:P.underlying dst=some .string) (hk:evalK Ctr s (.b2s x) K):RunsTo P (execOp a.eval o) w (OutOK nn Fs I w w0 I0 a.tmps K):=by
  simp only [evalK,b2sK] at hk;split at hk
  · rename_i sz rows hsl;obtain ⟨xs,rfl,hk⟩:=hk;obtain ⟨ad,c,e1,h1⟩:=slice_form h hsl;refine .value (v:=.string (strI xs)) ?_ (.plain h hk T_vI);have hlen:(xs.map rowB).length=xs.length:=by simp
    rw [hlen] at e1;simp only [execOp,ho,e1,Sem.run_bind];have key:(convert src dst (.slice ad xs.length c)).run P w=.ok (.string (strI xs)) w:=by
      rcases h1 with h1 | ⟨b,oo,raw,F,rfl,hr,hR⟩
      · have:xs=[]:=by cases xs with
          | nil=>rfl
          | cons y ys=>simp at h1
        subst this;cases ad with
        | none=>exact run_convert_bytes_nil w src e hs he _ _ dst hd
        | some y=>exact run_convert_bytes_back w src dst e y c [] hs he hd (fun j hj=>absurd hj (by simp))
      · refine run_convert_bytes_arg w src e hs he b oo _ c xs rfl (fun i hi=>?_) dst hd;have hrow:((xs.map rowB))[i]?=some (rowB xs[i]):=by simp [hi]
        obtain ⟨us,F',k1,_,k3,k4⟩:=Rows.at i hR hrow;simp only [rowB,Cells] at k1;obtain ⟨u,us',F1,F2,rfl,_,_,hT,rfl,_⟩:=k1;obtain rfl:=(T_v hT).1;simp only [List.length_singleton] at k3;subst k3;have:=k4 0 _ rfl;rw [Nat.mul_one,Nat.add_zero] at this;rw [hr i _ this,List.getD_eq_getElem?_getD,List.getElem?_eq_getElem hi];rfl
    rw [key];rfl
  · exact hk.elim
theorem sim_isnil (h:RelI w0 I0 s a.tmps w I Fs) {op:BinOp} {neg:Bool} {x:Operand} {xt yt e:TypeId} {o:Oper} (ho:o.op=.binOp op xt x (.const (.slice none 0 0)) yt) (hop:(op=.eql∧neg=false)∨(op=.neq∧neg=true)) (hu:P.underlying xt=some (.slice e)) (hk:evalK Ctr s (.isnil neg x) K):RunsTo P (execOp a.eval o) w (OutOK nn Fs I w w0 I0 a.tmps K):=by
  have hcst:a.eval (.const (.slice none 0 0))=.slice none 0 0:=rfl;have run:∀ (ad:Option Addr) (n c:Nat),a.eval x=.slice ad n c→(execOp a.eval o).run P w=.ok (.value (.bool (if neg then !ad.isNone else ad.isNone))) w:=by
    intro ad n c e1;have heq:(Op.equal xt (.slice ad n c) (.slice none 0 0)).run P w=.ok ad.isNone w:=by
      have key:∀ m,(Op.equalIn (m+1) xt (.slice ad n c) (.slice none 0 0)).run P w=.ok ad.isNone w:=fun m=>by cases ad<;>simp [Op.equalIn,run_underlying hu]
      exact key 9999
    rcases hop with ⟨rfl,rfl⟩ | ⟨rfl,rfl⟩
    · have hg:(eqGuard .eql xt x (.const (.slice none 0 0)) (.slice ad n c) (.slice none 0 0)).run P w=.ok () w:=(by unfold eqGuard;rfl);simp only [execOp,ho,e1,hcst,Sem.run_bind,hg,Result.andThen_ok,binOp,heq];rfl
    · have hg:(eqGuard .neq xt x (.const (.slice none 0 0)) (.slice ad n c) (.slice none 0 0)).run P w=.ok () w:=(by unfold eqGuard;rfl);simp only [execOp,ho,e1,hcst,Sem.run_bind,hg,Result.andThen_ok,binOp,heq];rfl
  simp only [evalK] at hk;have hT:=lk_T h x;unfold isnilK at hk;split at hk
  · rename_i e1;rw [e1] at hT;simp only [T] at hT;refine .value (run none 0 0 hT.1) (.plain h ?_ T_vI);cases neg<;>exact hk
  · rename_i sz rows hsl _;obtain ⟨ad,c,e1,h1⟩:=slice_form h hsl;refine .value (run ad _ c e1) (.plain h ?_ T_vI);rcases h1 with h1 | ⟨b,oo,raw,F,rfl,_⟩
    · obtain ⟨k1,k2⟩:=hk.2 h1;cases (if neg=true then !ad.isNone else ad.isNone)
      · exact k2
      · exact k1
    · by_cases hr:rows=[]
      · obtain ⟨k1,k2⟩:=hk.2 hr;cases neg
        · exact k2
        · exact k1
      · have:=hk.1 hr;cases neg<;>exact this
  · exact hk.elim
end
end Go.V
namespace Go.V
open Go.RowKit
section
variable (P:Program)
def bldOf (P:Program) (t:TypeId):Option TypeId:=match P.underlying t with
  | some (.struct fs)=>match fs.toList with
    | [f0,f1]=>match P.underlying f0.type,P.underlying f1.type with
      | some (.pointer t'),some (.slice e)=>if t'=t then some e else none
      | _,_=>none
    | _=>none
  | _=>none
def allocK (P:Program)(t:TypeId)(zs:List Value):VOp:=match bldOf P t,zs with
  | some e,[.pointer none,.slice none 0 0]=>.mkm (.bld t e)
  | _,_=>.alloc zs
def okZero (z:Value):Bool:=z.cells.toList.all (·.oneCell')
def cOp (n:Bool):Op→Option VOp
  | .move x=>some (.mv x)
  | .assign x=>some (.asg x)
  | .pick c a b=>some (.pick c a b)
  | .nilCheck x=>some (.nilc x)
  | .binOp op xt x y _=>match P.underlying xt with
    | some .bool=>match op with
      | .eql=>some (.binB false x y)
      | .neq=>some (.binB true x y)
      | _=>none
    | some (.int _)=>some (.bin op x y)
    | some .string=>some (.bin op x y)
    | some (.struct fs)=>match flatEq1 P fs.toList 0 with
      | some ks=>if P.stoodInHeld xt=false∧P.eqGuardType P.depth xt=false then match op with
          | .eql=>some (.eqs false ks x y)
          | .neq=>some (.eqs true ks x y)
          | _=>none
        else none
      | none=>none
    | some (.slice _)=>match y with
      | .const (.slice none 0 0)=>match op with
        | .eql=>some (.isnil false x)
        | .neq=>some (.isnil true x)
        | _=>none
      | _=>none
    | _=>none
  | .unOp op _ x=>some (.un op x)
  | .convert src dst x=>match P.underlying src,P.underlying dst with
    | some _,some (.int k)=>some (.conv k x)
    | some (.slice e),some .string=>match P.underlying e with
      | some (.int .u8)=>some (.b2s x)
      | _=>none
    | _,_=>none
  | .alloc t=>match P.info? t with
    | some i=>match i.zero with
      | some z=>if okZero z then some (allocK P t z.cells.toList) else none
      | none=>none
    | none=>none
  | .box _ x=>some (.box x)
  | .build t ps=>match P.info? t,P.underlying t with
    | some it,some (.struct fs)=>match it.zero,fs.toList.mapM (fun f=>(P.info? f.type).map fun i=>(f.offset,i.size)) with
      | some z,some places=>if okZero z then (ps.toList.mapM fun p=>(places[p.1]?).map fun q=>(q.1,q.2,p.2)).map fun l=>.build z.cells.toList l else none
      | _,_=>none
    | some it,some (.array _ e)=>match it.zero,P.info? e with
      | some z,some ie=>if okZero z then some (.build z.cells.toList (ps.toList.map fun p=>(p.1*ie.size,ie.size,p.2))) else none
      | _,_=>none
    | _,_=>none
  | .buildSlice t m ps=>match P.underlying t with
    | some (.slice e)=>match P.info? e with
      | some ie=>if ie.zero.isSome∧0<ie.size∧m*ie.size≤2 ^ 24∧ps.toList.map (·.1)=List.range m then some (if n then .bslN ie.size (ps.toList.map (·.2)) else .bsl ie.size (ps.toList.map (·.2))) else none
      | none=>none
    | _=>none
  | .load t a=>match P.underlying t,P.info? t with
    | some d,some i=>if d.isRow then some (.load i.size true a) else if i.size=1 then some (.load 1 false a) else none
    | _,_=>none
  | .store t a x=>match P.info? t with
    | some i=>some (.store i.size a x)
    | none=>none
  | .fieldAddr st x f=>match P.underlying st with
    | some (.struct fs)=>match fs[f]? with
      | some fd=>match P.info? fd.type with
        | some i=>if 0<i.size then some (.fa fd.offset x) else none
        | none=>none
      | none=>none
    | _=>none
  | .field st x f=>match P.underlying st with
    | some (.struct fs)=>match fs[f]? with
      | some fd=>match P.info? fd.type,P.underlying fd.type with
        | some i,some d=>if d.isRow then some (.fld fd.offset i.size true x) else if i.size=1 then some (.fld fd.offset 1 false x) else none
        | _,_=>none
      | none=>none
    | _=>none
  | .indexAddr t x i=>match P.underlying t with
    | some (.slice e)=>match P.info? e with
      | some ie=>some (.ia ie.size x i)
      | none=>none
    | some (.array m e)=>match P.info? e with
      | some ie=>some (.iaa m ie.size x i)
      | none=>none
    | _=>none
  | .index t x i=>match P.underlying t with
    | some .string=>some (.ixs x i)
    | some (.array m e)=>match P.info? e,P.underlying e with
      | some ie,some d=>if d.isRow then some (.ixa m ie.size true x i) else if ie.size=1 then some (.ixa m 1 false x i) else none
      | _,_=>none
    | _=>none
  | .slice t x lo hi mx=>match P.underlying t with
    | some .string=>if mx.isNone then some (.slcS x lo hi) else none
    | some (.slice e)=>match P.info? e with
      | some ie=>if mx.isSome=true→hi.isSome=true then some (.slc ie.size x lo hi mx) else none
      | none=>none
    | _=>none
  | .extract x i=>some (if n then .extN x i else .ext x i)
  | .makeInterface t x=>match P.underlying t with
    | some (.pointer _)=>some (.mkif t x)
    | _=>none
  | .makeFunc fn first caps=>match fn with
    | .func f=>some (.mkf f first.toList caps.toList)
    | _=>none
  | .makeSlice t l c=>match P.underlying t with
    | some (.slice e)=>match P.info? e with
      | some ie=>match ie.zero with
        | some z=>if okZero z∧z.cells.size=ie.size then some (.mks ie.size ie.bytes z.cells.toList l c) else none
        | none=>none
      | none=>none
    | _=>none
  | .makeMap t none=>match P.underlying t with
    | some (.map kt _)=>(kkOf P kt).map .mkm
    | _=>none
  | .mapUpdate t m i x=>match P.underlying t with
    | some (.map kt _)=>(kkOf P kt).map fun k=>.mupd k m i x
    | _=>none
  | .insert t m i x=>match P.underlying t with
    | some (.map kt _)=>(kkOf P kt).map fun k=>.mupd k m i x
    | _=>none
  | .lookup t m i ok=>match P.underlying t with
    | some (.map kt et)=>match kkOf P kt,P.info? et with
      | some k,some ie=>ie.zero.map fun z=>.mlk k z ok m i
      | _,_=>none
    | _=>none
  | .call c => match c.callee with
    | .value (.func f)=>some (if n then .call f c.args.toList else .callX f c.args.toList)
    | .value x=>some (if n then .callv x c.args.toList else .callvX x c.args.toList)
    | .builtin .len=>match c.args.toList,c.argTypes[0]? with
      | [x],some t=>match P.underlying t with
        | some .string=>some (.lenS x)
        | some (.slice _)=>some (.len x)
        | some (.map _ _)=>some (.mlen x)
        | _=>none
      | _,_=>none
    | .builtin .delete=>match c.args.toList,c.argTypes[0]? with
      | [m,i],some t=>match P.underlying t with
        | some (.map kt _)=>(kkOf P kt).map fun k=>.mdel k m i
        | _=>none
      | _,_=>none
    | .builtin .min=>match c.args.toList with
      | [x,y]=>some (.mm false [x,y])
      | _=>none
    | .builtin .max=>match c.args.toList with
      | [x,y]=>some (.mm true [x,y])
      | _=>none
    | .builtin .append=>match c.args.toList,c.argTypes.toList with
      | [x, y],[t,tx]=>match P.underlying t,P.underlying tx with
        | some (.slice e),some (.slice _)=>match P.info? e with
          | some ie=>match ie.zero with
            | some z=>if z.cells.size=ie.size then some (if n then .appN ie.size ie.bytes x y else .app ie.size ie.bytes x y) else none
            | none=>none
          | none=>none
        | some (.slice e),some .string=>match P.info? e,P.underlying e with
          | some ie,some (.int .u8)=>match ie.zero with
            | some z=>if z.cells.size=1∧ie.size=1∧n=false then some (.appS ie.bytes x y) else none
            | none=>none
          | _,_=>none
        | _,_=>none
      | _,_=>none
    | _=>none
  | _=>none
end
section
variable {P:Program} {w0:Base} {I0:Nat→Prop} {s:List D} {a:Act} {w:World} {I:Nat→Prop} {Fs:Nat→List Nat} {K:D→List D→Prop} {nn:Bool}
theorem arr1 {α:Type}{xs:Array α}{x:α}(h:xs.toList=[x]):xs=#[x]:=by apply Array.ext';simpa using h
theorem arr2 {α:Type}{xs:Array α}{x y:α}(h:xs.toList=[x,y]):xs=#[x,y]:=by apply Array.ext';simpa using h
theorem zip_of_range {α:Type}:∀ (l:List (Nat×α)) (k:Nat),l.map (·.1)=List.range' k l.length→l=((l.map (·.2)).zipIdx k).map fun x=>(x.2,x.1)
  | [],k,_=>rfl
  | (i,x)::l,k,h=>by simp only [List.map_cons,List.length_cons,List.range'_succ,List.cons.injEq] at h;obtain ⟨rfl,h⟩:=h;simp only [List.map_cons,List.zipIdx_cons,List.cons.injEq,true_and];exact zip_of_range l (i+1) h
theorem mapM_parts {places:List (Nat×Nat)}:∀ (l:List (Nat×Operand)) (parts:List (Nat×Nat×Operand)),(l.mapM fun p=>(places[p.1]?).map fun q=>(q.1,q.2,p.2))=some parts→l.map (fun p=>(places[p.1]?,p.2))=parts.map fun p=>(some (p.1,p.2.1),p.2.2)
  | [],parts,h=>by simp at h;subst h;rfl
  | p :: l,parts,h=>by
    simp only [List.mapM_cons,Option.bind_eq_bind,Option.pure_def] at h;cases hp:places[p.1]? with
    | none=>simp [hp] at h
    | some q =>
      cases hr:l.mapM (fun p=>(places[p.1]?).map fun q=>(q.1,q.2,p.2)) with
      | none=>simp [hp,hr] at h
      | some rest=>simp [hp,hr] at h;subst h;simp [hp,mapM_parts l rest hr]
def VOp.framed:VOp→Bool
  | .store _ _ _=>false
  | .mkif _ _=>false
  | .app _ _ _ _=>false
  | .appS _ _ _=>false
  | .bsl _ _=>false
  | .ext _ _=>false
  | .isnil _ _=>false
  | .mupd _ _ _ _=>false
  | .mdel _ _ _=>false
  | .callX _ _=>false
  | .callvX _ _=>false
  | _=>true
theorem sim_op {G : World→(Nat→Prop)→Prop} (hG:GI G w I0) (h:RelI w0 I0 s a.tmps w I Fs) {o:Oper} {v:VOp} {nv:Bool} (hnn:nn=true→v.framed=true) (hc:cOp P nv o.op=some v) (hk:evalK (CT P G) s v K):RunsTo P (execOp a.eval o) w (OutOK nn Fs I w w0 I0 a.tmps K):=by
  cases hop:o.op with
  | move x=>rw [hop] at hc;simp only [cOp,Option.some.injEq] at hc;subst hc;have:=sim_mv (nn:=nn) (P:=P) h hk;simpa only [execOp,hop] using this
  | assign x=>rw [hop] at hc;simp only [cOp,Option.some.injEq] at hc;subst hc;have:=sim_asg (nn:=nn) (P:=P) h hk;simpa only [execOp,hop] using this
  | pick c x y=>rw [hop] at hc;simp only [cOp,Option.some.injEq] at hc;subst hc;exact sim_pick h hop hk
  | nilCheck x=>rw [hop] at hc;simp only [cOp,Option.some.injEq] at hc;subst hc;exact sim_nilc h hop hk
  | unOp op t x=>rw [hop] at hc;simp only [cOp,Option.some.injEq] at hc;subst hc;exact sim_un h hop hk
  | box t x=>rw [hop] at hc;simp only [cOp,Option.some.injEq] at hc;subst hc;exact sim_box h hop hk
  | extract x i =>
    rw [hop] at hc;simp only [cOp,Option.some.injEq] at hc;subst hc;cases nv with
    | true=>exact sim_extN h hop hk
    | false =>
      have hnf:nn=false:=by cases nn with | false=>rfl | true=>exact absurd (hnn rfl) (by simp [VOp.framed])
      subst hnf;exact sim_ext h hop hk
  | binOp op xt x y yt =>
    rw [hop] at hc;simp only [cOp] at hc;split at hc
    · rename_i hu;cases op<;>simp only [Option.some.injEq,reduceCtorEq] at hc
      · subst hc;exact sim_binB h hop (.inl ⟨rfl,rfl⟩) hu hk
      · subst hc;exact sim_binB h hop (.inr ⟨rfl,rfl⟩) hu hk
    · simp only [Option.some.injEq] at hc;subst hc;exact sim_bin h hop hk
    · simp only [Option.some.injEq] at hc;subst hc;exact sim_bin h hop hk
    · rename_i fs hu;split at hc
      · rename_i ks hks;split at hc
        · rename_i hcond;cases op<;>simp only [Option.some.injEq,reduceCtorEq] at hc
          · subst hc;exact sim_eqs h hop (.inl ⟨rfl,rfl⟩) hu hcond.1 hcond.2 hks hk
          · subst hc;exact sim_eqs h hop (.inr ⟨rfl,rfl⟩) hu hcond.1 hcond.2 hks hk
        · cases hc
      · cases hc
    · rename_i e hu;split at hc
      · cases op<;>simp only [Option.some.injEq,reduceCtorEq] at hc
        · subst hc;have hnf:nn=false:=by cases nn with | false=>rfl | true=>exact absurd (hnn rfl) (by simp [VOp.framed])
          subst hnf;exact sim_isnil h hop (.inl ⟨rfl,rfl⟩) hu hk
        · subst hc;have hnf:nn=false:=by cases nn with | false=>rfl | true=>exact absurd (hnn rfl) (by simp [VOp.framed])
          subst hnf;exact sim_isnil h hop (.inr ⟨rfl,rfl⟩) hu hk
      · cases hc
    · cases hc
  | convert src dst x =>
    rw [hop] at hc;simp only [cOp] at hc;split at hc
    · rename_i hs hd;simp only [Option.some.injEq] at hc;subst hc;exact sim_conv h hop hs hd hk
    · rename_i e hs hd;split at hc
      · rename_i he;simp only [Option.some.injEq] at hc;subst hc;exact sim_b2s h hop hs he hd hk
      · cases hc
    · cases hc
  | alloc t =>
    rw [hop] at hc;simp only [cOp] at hc;split at hc
    · rename_i i hi;split at hc
      · rename_i z hz;split at hc
        · rename_i ho;simp only [Option.some.injEq] at hc;subst hc;unfold allocK at hk;split at hk
          · rename_i hzz;exact sim_mkB h hop hi hz hzz hk
          · exact sim_alloc h hop hi hz rfl ho hk
        · cases hc
      · cases hc
    · cases hc
  | build t ps =>
    rw [hop] at hc;simp only [cOp] at hc;split at hc
    · rename_i it fs hi hu;split at hc
      · rename_i z places hz hp;split at hc
        · rename_i ho;simp only [Option.map_eq_some_iff] at hc;obtain ⟨l,hl,rfl⟩:=hc;exact sim_build h hop hi hu hz rfl ho hp (mapM_parts _ _ hl) hk
        · cases hc
      · cases hc
    · rename_i it len e hi hu;split at hc
      · rename_i z ie hz hie;split at hc
        · rename_i ho;simp only [Option.some.injEq] at hc;subst hc;exact sim_buildA h hop hi hu hie hz rfl ho (by simp [List.map_map,Function.comp_def]) hk
        · cases hc
      · cases hc
    · cases hc
  | buildSlice t n ps =>
    rw [hop] at hc;simp only [cOp] at hc;split at hc
    · rename_i e hu;split at hc
      · rename_i ie hi;split at hc
        · rename_i hcond;simp only [Option.some.injEq] at hc;subst hc;obtain ⟨hz,hpos,hsm,hr⟩:=hcond;obtain ⟨z,hz⟩:=Option.isSome_iff_exists.1 hz;have hlen:(ps.toList.map (·.2)).length=n:=by have:=congrArg List.length hr;simpa using this
          have hn:ps.toList.length=n:=(by simpa using hlen);cases nv with
          | true=>refine sim_bslN h (xs:=ps.toList.map (·.2)) (by rw [hlen];exact hop) ?_ hu hi hz rfl hpos (by rw [hlen];exact hsm) hk;exact zip_of_range ps.toList 0 (by rw [hr,hn,List.range_eq_range'])
          | false =>
            have hnf:nn=false:=by cases nn with | false=>rfl | true=>exact absurd (hnn rfl) (by simp [VOp.framed])
            subst hnf;refine sim_bsl h (xs:=ps.toList.map (·.2)) (by rw [hlen];exact hop) ?_ hu hi hz rfl hpos (by rw [hlen];exact hsm) hk;exact zip_of_range ps.toList 0 (by rw [hr,hn,List.range_eq_range'])
        · cases hc
      · cases hc
    · cases hc
  | load t x =>
    rw [hop] at hc;simp only [cOp] at hc;split at hc
    · rename_i d i hu hi;split at hc
      · rename_i hd;simp only [Option.some.injEq] at hc;subst hc;exact sim_load h hop hu hd (by rw [hi];rfl) (fun h=>by cases h) hk
      · rename_i hd;split at hc
        · rename_i h1;simp only [Option.some.injEq] at hc;subst hc;exact sim_load h hop hu (by simpa using hd) (by rw [hi];simp [h1]) (fun _=>rfl) hk
        · cases hc
    · cases hc
  | store t x y =>
    rw [hop] at hc;simp only [cOp] at hc;split at hc
    · rename_i i hi;simp only [Option.some.injEq] at hc;subst hc;have hnf:nn=false:=by cases nn with | false=>rfl | true=>exact absurd (hnn rfl) (by simp [VOp.framed])
      subst hnf;exact sim_store h hop (by rw [hi];rfl) hk
    · cases hc
  | fieldAddr st x f =>
    rw [hop] at hc;simp only [cOp] at hc;split at hc
    · rename_i fs hu;split at hc
      · rename_i fd hf;split at hc
        · rename_i i hi;split at hc
          · rename_i hpos;simp only [Option.some.injEq] at hc;subst hc;exact sim_fa (n:=i.size-1) h hop hu hf rfl (by rw [hi];simp;omega) hk
          · cases hc
        · cases hc
      · cases hc
    · cases hc
  | field st x f =>
    rw [hop] at hc;simp only [cOp] at hc;split at hc
    · rename_i fs hu;split at hc
      · rename_i fd hf;split at hc
        · rename_i i d hi hud;split at hc
          · rename_i hd;simp only [Option.some.injEq] at hc;subst hc;exact sim_fld h hop hu hf rfl hud hd (by rw [hi];rfl) (fun h=>by cases h) hk
          · rename_i hd;split at hc
            · rename_i h1;simp only [Option.some.injEq] at hc;subst hc;exact sim_fld h hop hu hf rfl hud (by simpa using hd) (by rw [hi];simp [h1]) (fun _=>rfl) hk
            · cases hc
        · cases hc
      · cases hc
    · cases hc
  | indexAddr t x i =>
    rw [hop] at hc;simp only [cOp] at hc;split at hc
    · rename_i e hu;split at hc
      · rename_i ie hi;simp only [Option.some.injEq] at hc;subst hc;exact sim_ia h hop hu (by rw [hi];rfl) hk
      · cases hc
    · rename_i n e hu;split at hc
      · rename_i ie hi;simp only [Option.some.injEq] at hc;subst hc;exact sim_iaa h hop hu (by rw [hi];rfl) hk
      · cases hc
    · cases hc
  | index t x i =>
    rw [hop] at hc;simp only [cOp] at hc;split at hc
    · rename_i hu;simp only [Option.some.injEq] at hc;subst hc;exact sim_ixs h hop hu hk
    · rename_i n e hu;split at hc
      · rename_i ie d hi hud;split at hc
        · rename_i hd;simp only [Option.some.injEq] at hc;subst hc;exact sim_ixa h hop hu hud hd (by rw [hi];rfl) (fun h=>by cases h) hk
        · rename_i hd;split at hc
          · rename_i h1;simp only [Option.some.injEq] at hc;subst hc;exact sim_ixa h hop hu hud (by simpa using hd) (by rw [hi];simp [h1]) (fun _=>rfl) hk
          · cases hc
      · cases hc
    · cases hc
  | slice t x lo hi mx =>
    rw [hop] at hc;simp only [cOp] at hc;split at hc
    · rename_i hu;split at hc
      · rename_i hm;simp only [Option.some.injEq] at hc;subst hc;have:mx=none:=by cases mx<;>simp at hm;rfl
        subst this;exact sim_slcS h hop hu hk
      · cases hc
    · rename_i e hu;split at hc
      · rename_i ie hi';split at hc
        · rename_i hm;simp only [Option.some.injEq] at hc;subst hc;exact sim_slc h hop hu (by rw [hi'];rfl) hm hk
        · cases hc
      · cases hc
    · cases hc
  | makeInterface t x =>
    rw [hop] at hc;simp only [cOp] at hc;split at hc
    · rename_i tp hu;simp only [Option.some.injEq] at hc;subst hc;have hnf:nn=false:=by cases nn with | false=>rfl | true=>exact absurd (hnn rfl) (by simp [VOp.framed])
      subst hnf;exact sim_mkif h hop hu hk
    · cases hc
  | makeFunc fn first caps =>
    rw [hop] at hc;simp only [cOp] at hc;split at hc
    · simp only [Option.some.injEq] at hc;subst hc;exact sim_mkf h hop hk
    · cases hc
  | makeMap t r =>
    rw [hop] at hc;cases r with
    | some r=>simp [cOp] at hc
    | none =>
      simp only [cOp] at hc;split at hc
      · simp only [Option.map_eq_some_iff] at hc;obtain ⟨k,hkk,rfl⟩:=hc;exact sim_mkm h (kkOf_isM hkk) hop hk
      · cases hc
  | mapUpdate t m i x =>
    rw [hop] at hc;simp only [cOp] at hc;split at hc
    · rename_i kt et hu;simp only [Option.map_eq_some_iff] at hc;obtain ⟨k,hkk,rfl⟩:=hc;have hnf:nn=false:=by cases nn with | false=>rfl | true=>exact absurd (hnn rfl) (by simp [VOp.framed])
      subst hnf;exact sim_mupd h (.inl hop) hu hkk hk
    · cases hc
  | insert t m i x =>
    rw [hop] at hc;simp only [cOp] at hc;split at hc
    · rename_i kt et hu;simp only [Option.map_eq_some_iff] at hc;obtain ⟨k,hkk,rfl⟩:=hc;have hnf:nn=false:=by cases nn with | false=>rfl | true=>exact absurd (hnn rfl) (by simp [VOp.framed])
      subst hnf;exact sim_mupd h (.inr hop) hu hkk hk
    · cases hc
  | lookup t m i ok =>
    rw [hop] at hc;simp only [cOp] at hc;split at hc
    · rename_i kt et hu;split at hc
      · rename_i k ie hkk hie;simp only [Option.map_eq_some_iff] at hc;obtain ⟨z,hz,rfl⟩:=hc;exact sim_mlk h hop hu hkk hie hz hk
      · cases hc
    · cases hc
  | makeSlice t l c =>
    rw [hop] at hc;simp only [cOp] at hc;split at hc
    · rename_i e hu;split at hc
      · rename_i ie hi;split at hc
        · rename_i z hz;split at hc
          · rename_i hcond;simp only [Option.some.injEq] at hc;subst hc;exact sim_mks h hop hu hi hz rfl rfl rfl (by simp [hcond.2]) hcond.1 hk
          · cases hc
        · cases hc
      · cases hc
    · cases hc
  | call c =>
    rw [hop] at hc;simp only [cOp] at hc;obtain ⟨cal,args,ts⟩:=c;simp only at hc;split at hc
    · simp only [Option.some.injEq] at hc;subst hc;cases nv with
      | true=>exact sim_call hG h hop hk
      | false =>
        have hnf:nn=false:=by cases nn with | false=>rfl | true=>exact absurd (hnn rfl) (by simp [VOp.framed])
        subst hnf;exact sim_callX hG h hop hk
    · simp only [Option.some.injEq] at hc;subst hc;cases nv with
      | true=>exact sim_callv hG h hop hk
      | false =>
        have hnf:nn=false:=by cases nn with | false=>rfl | true=>exact absurd (hnn rfl) (by simp [VOp.framed])
        subst hnf;exact sim_callvX hG h hop hk
    · split at hc
      · rename_i x t ha ht;split at hc
        · rename_i hu;simp only [Option.some.injEq] at hc;subst hc;rw [arr1 ha] at hop;exact sim_lenS h hop ht hu hk
        · rename_i e hu;simp only [Option.some.injEq] at hc;subst hc;rw [arr1 ha] at hop;exact sim_len h hop ht hu hk
        · rename_i kt et hu;simp only [Option.some.injEq] at hc;subst hc;rw [arr1 ha] at hop;exact sim_mlen h hop ht hu hk
        · cases hc
      · cases hc
    · split at hc
      · rename_i m i t ha ht;split at hc
        · rename_i kt et hu;simp only [Option.map_eq_some_iff] at hc;obtain ⟨k,hkk,rfl⟩:=hc;have hnf:nn=false:=by cases nn with | false=>rfl | true=>exact absurd (hnn rfl) (by simp [VOp.framed])
          subst hnf;rw [arr2 ha] at hop;exact sim_mdel h hop ht hu hkk hk
        · cases hc
      · cases hc
    · split at hc
      · rename_i x y ha;simp only [Option.some.injEq] at hc;subst hc;rw [arr2 ha] at hop;exact sim_mm (mx:=false) h hop hk
      · cases hc
    · split at hc
      · rename_i x y ha;simp only [Option.some.injEq] at hc;subst hc;rw [arr2 ha] at hop;exact sim_mm (mx:=true) h hop hk
      · cases hc
    · split at hc
      · rename_i x y t tx ha hts;split at hc
        · rename_i e e2 hu hux;split at hc
          · rename_i ie hi;split at hc
            · rename_i z hz;split at hc
              · rename_i hsz;simp only [Option.some.injEq] at hc;subst hc;rw [arr2 ha,arr2 hts] at hop;cases nv with
                | true=>exact sim_appN h hop hu hux hi hz rfl hsz rfl hk
                | false =>
                  have hnf:nn=false:=by cases nn with | false=>rfl | true=>exact absurd (hnn rfl) (by simp [VOp.framed])
                  subst hnf;exact sim_app h hop hu hux hi hz rfl hsz rfl hk
              · cases hc
            · cases hc
          · cases hc
        · rename_i e hu hux;split at hc
          · rename_i ie hi _;split at hc
            · rename_i z hz;split at hc
              · rename_i hsz;obtain ⟨hz1,hsz,hn⟩:=hsz;simp only [Option.some.injEq] at hc;subst hc;rw [arr2 ha,arr2 hts] at hop;have hnf:nn=false:=by cases nn with | false=>rfl | true=>exact absurd (hnn rfl) (by simp [VOp.framed])
                subst hnf;exact sim_appS h hop hu hux hi hz hsz hz1 rfl hk
              · cases hc
            · cases hc
          · cases hc
        · cases hc
      · cases hc
    · cases hc
  | _=>rw [hop] at hc;simp [cOp] at hc
end
end Go.V
namespace Go.V
open Go.RowKit
section
variable (P:Program)
def cGuard (ops:Array Oper):Option (Nat×Bool)→Option (Option (Nat×Bool))
  | none=>some none
  | some (j,want)=>match (ops[j]?).bind (·.dst) with
    | some t=>some (some (t,want))
    | none=>none
def cVO (n:Bool)(ops:Array Oper)(o:Oper):Option VO :=
  match cGuard ops o.guard,cOp P n o.op with
  | some g,some v=>some ⟨o.dst,g,v⟩
  | _,_=>none
def cVOs (ops:Array Oper):List Oper→Option (List VO)
  | []=>some []
  | o::os=>match cVO P false ops o,cVOs ops os with
    | some v,some vs=>some (v::vs)
    | _,_=>none
end
def RegAny (P:Program)(ops:Array Oper)(Q:Exit→Act→World→Prop)(a:Act)(w:World):Prop :=
  P.follows .mixedOrders=true∧wpAny P .any ops Q ops.size (Array.replicate ops.size false) a { w with drawn:=w.drawn+1 }
theorem RegAny.wp {P:Program}{ops:Array Oper}{Q:Exit→Act→World→Prop}{a:Act}{w:World}{id:Nat}(h:RegAny P ops Q a w):(Code.region id ops true).wp P Q a w:=wp_region_any h.1 h.2
def VExit.to:VExit→Exit
  | .normal=>.normal
  | .exit id=>.exit id
  | .ret=>.ret
section
variable {P:Program} {G:World→(Nat→Prop)→Prop} {w0:Base} {I0:Nat→Prop}
def Rel (w0:Base)(I0:Nat→Prop)(s:List D)(a:Act)(w:World):Prop:=a.defers=[]∧∃ I Fs,RelI w0 I0 s a.tmps w I Fs
theorem wp_of_runs {o:Oper}{a:Act}{w:World}{R:Value→World→Prop}{next:Act→World→Prop}{Q:Exit→Act→World→Prop}(h:RunsTo P (execOp a.eval o) w R)(hn:∀ v w',R v w'→next (a.put o.dst v) w'):o.wp P a w next Q:=by
  unfold Oper.wp;unfold RunsTo at h;cases hr:(execOp a.eval o).run P w with
  | halt x w'=>rw [hr] at h;exact h.elim
  | ok n w' =>
    rw [hr] at h;cases n with
    | value v=>exact hn _ _ h
    | skip=>exact hn _ _ h
    | enter f args=>simp only [Oper.upon];refine Calls.mono h ?_;rintro e w'' ⟨v,rfl,hR⟩;exact hn _ _ hR
    | _=>exact h.elim
theorem put_rel {a:Act}{w:World}{s:List D}{dst:Option Nat}{d:D}{v:Value}{I:Nat→Prop}{Fs:Nat→List Nat}{F:List Nat}(hd:a.defers=[])(h:RelI w0 I0 s a.tmps w I Fs)(hT:T I w d (ρS s a.tmps w) v F)(hF:Fresh w0 w I Fs F):Rel w0 I0 (match dst with | some t=>putD s t d | none=>s) (a.put dst v) w:=by
  cases dst with
  | none=>exact ⟨hd,I,Fs,h⟩
  | some t=>obtain ⟨Fs',h'⟩:=putD_T h t hT hF;exact ⟨hd,I,Fs',h'⟩
theorem sim_ops (hcl:∀ w',w0.Below w'→GI G w' I0) (ops:Array Oper) {Q:Exit→Act→World→Prop} {KK:List D→Prop} (hQ:∀ s a w,KK s→Rel w0 I0 s a w→Q .normal a w):∀ (l:List Oper) (vs:List VO) (s:List D) (a:Act) (w:World),cVOs P ops l=some vs→opsK (CT P G) s vs KK→Rel w0 I0 s a w→wpList P ops Q l a w
  | [],vs,s,a,w,hc,hk,h=>by simp only [cVOs,Option.some.injEq] at hc;subst hc;exact hQ s a w hk h
  | o :: l, vs,s,a,w,hc,hk,h=>by
    simp only [cVOs] at hc;cases hv:cVO P false ops o with
    | none=>simp [hv] at hc
    | some v =>
    cases hvs:cVOs P ops l with
    | none=>simp [hv,hvs] at hc
    | some vs' =>
    simp only [hv,hvs,Option.some.injEq] at hc;subst hc;simp only [opsK] at hk;obtain ⟨hd,I,Fs,hR⟩:=h;have hGw:GI G w I0:=hcl _ hR.below;simp only [cVO] at hv;cases hg:cGuard ops o.guard with
    | none=>simp [hg] at hv
    | some g =>
    cases hop:cOp P false o.op with
    | none=>simp [hg,hop] at hv
    | some vop =>
    simp only [hg,hop,Option.some.injEq] at hv;subst hv;have run:evalK (CT P G) s vop (fun d s'=>opsK (CT P G) (match o.dst with | some t=>putD s' t d | none=>s') vs' KK)→o.wp P a w (wpList P ops Q l) Q:=by intro hk;refine wp_of_runs (sim_op (nn:=false) hGw hR (fun h=>by cases h) hop hk) ?_;rintro v w' ⟨d,s',I',Fs',F,hK,hR',hT,hF,_⟩;exact sim_ops hcl ops hQ l vs' _ _ _ hvs hK (put_rel hd hR' hT hF)
    have skip:opsK (CT P G) (match o.dst with | some t=>putD s t (.v (.tuple #[])) | none=>s) vs' KK→wpList P ops Q l (a.put o.dst undef) w:=(by intro hk;exact sim_ops hcl ops hQ l vs' _ _ _ hvs hk (put_rel (d:=.v (.tuple #[])) (v:=undef) hd hR (by simp only [T];exact ⟨rfl,trivial⟩) Fresh.nil));unfold wpList;simp only [stepK] at hk;cases hgo:o.guard with
    | none=>rw [hgo] at hg;simp only [cGuard,Option.some.injEq] at hg;subst hg;rw [if_pos (by simp [Region.wanted,hgo])];exact .inl (run hk)
    | some jw =>
      obtain ⟨j,want⟩:=jw;rw [hgo] at hg;simp only [cGuard] at hg;cases hj:(ops[j]?).bind (·.dst) with
      | none=>simp [hj] at hg
      | some t =>
        simp only [hj,Option.some.injEq] at hg;subst hg;simp only at hk;have hTt:=lkT_T hR t;have hyv:∀ x:Value,lkT s t=.v x→a.tmps[t]?=some x∨(a.tmps[t]?=none∧x=undef):=by
          intro x e;rw [e] at hTt;have:=(T_v hTt).1;cases ht:a.tmps[t]? with
          | none=>simp [ht] at this;exact .inr ⟨rfl,this.symm⟩
          | some y=>simp [ht] at this;exact .inl (by rw [this])
        split at hk
        · rename_i b e;have hy:yielded ops a.tmps j=some b:=by
            unfold yielded;rw [hj];rcases hyv _ e with h1 | ⟨_,h1⟩
            · simp [h1]
            · cases h1
          by_cases hbw:b=want
          · rw [if_pos (by simp [Region.wanted,hgo,hy,hbw])];exact .inl (run (hk.1 hbw))
          · rw [if_neg (by simp [Region.wanted,hgo,hy,hbw])];exact skip (hk.2 hbw)
        · rename_i x hne e;have hy:yielded ops a.tmps j=none:=by
            unfold yielded;rw [hj];rcases hyv _ e with h1 | ⟨h1,_⟩
            · simp only [Option.bind_some,h1];split
              · rename_i b hb;cases hb;exact absurd rfl (hne b)
              · rfl
            · simp [h1]
          rw [if_neg (by simp [Region.wanted,hgo,hy])];exact skip hk
        · exact hk.elim
end
end Go.V
namespace Go.V
open Go.RowKit
theorem clrL_get (q:D→Bool):∀ (m:List Bool) (s:List D) (r:Nat),(clrL q m s)[r]?=(s[r]?).map fun d=>if m.getD r false then .undef else d.prune q
  | m,[],r=>by simp [clrL]
  | true::m,d::s,0=>by simp [clrL]
  | false::m,d::s,0=>by simp [clrL]
  | [],d::s,0=>by simp [clrL]
  | true::m,d::s,r+1=>by simp [clrL,clrL_get q m s r]
  | false::m,d::s,r+1=>by simp [clrL,clrL_get q m s r]
  | [],d::s,r+1=>by have:=clrL_get q [] s r;simp only [clrL,List.getElem?_cons_succ,this];simp
theorem clrL_len (q:D→Bool):∀ (m:List Bool) (s:List D),(clrL q m s).length=s.length
  | m,[]=>by simp [clrL]
  | true::m,d::s=>by simp [clrL,clrL_len q m s]
  | false::m,d::s=>by simp [clrL,clrL_len q m s]
  | [],d::s=>by simp [clrL,clrL_len q [] s]
theorem RelI.clr {w0 I0 s tm w I Fs} (h:RelI w0 I0 s tm w I Fs) (m:List Bool):RelI w0 I0 (clr m s) tm w I (fun r=>if m.getD r false then [] else Fs r) where
  below:=h.below
  len:=by unfold V.clr;rw [clrL_len];exact h.len
  slot:=by
    intro r d u h1 h2;unfold V.clr at h1;rw [clrL_get] at h1;cases hs:s[r]? with
    | none=>simp [hs] at h1
    | some d' =>
      simp only [hs,Option.map_some,Option.some.injEq] at h1;by_cases hm:m.getD r false=true
      · rw [if_pos hm] at h1;subst h1;rw [if_pos hm];simp [T]
      · rw [if_neg hm] at h1;subst h1;rw [if_neg hm];refine T.turn (fun x v hq hx=>?_) d' (h.slot r d' u hs h2);cases x with
        | ref r' p=>obtain ⟨d1,u0,t1,k1,k2,k3,ko,k4⟩:=hx;have hm':m.getD r' false=false:=(by simpa [keepQ] using hq);obtain ⟨q',hq'⟩:=tree_prune p d1 (keepQ m) k3;refine ⟨d1.prune (keepQ m),u0,t1,?_,k2,by rw [ownv_prune ko] at hq';exact hq',ko,by rw [val_prune p d1 _ k3];exact k4⟩;unfold V.clr;rw [clrL_get,k1];simp only [Option.map_some,hm',Bool.false_eq_true,if_false]
        | ptr r' p i j=>obtain ⟨d1,u0,t',sz,rows,u1,b,o,k1,k2,k3,k4,k5,k6,k7⟩:=hx;have hm':m.getD r' false=false:=(by simpa [keepQ] using hq);obtain ⟨q',hq'⟩:=tree_prune p d1 (keepQ m) k3;obtain ⟨rows',hr'⟩:=(like_prune k4 q').cont k4;refine ⟨d1.prune (keepQ m),u0,t'.prune q',sz,rows',u1,b,o,?_,k2,hq',hr',by rw [val_prune p d1 _ k3];exact k5,k6,k7⟩;unfold V.clr;rw [clrL_get,k1];simp only [Option.map_some,hm',Bool.false_eq_true,if_false]
        | sub r' p i n=>obtain ⟨d1,u0,t',sz,rows,u1,b,o,cc,k1,k2,k3,k4,k5,k6,k7⟩:=hx;have hm':m.getD r' false=false:=(by simpa [keepQ] using hq);obtain ⟨q',hq'⟩:=tree_prune p d1 (keepQ m) k3;obtain ⟨rows',hr'⟩:=(like_prune k4 q').cont k4;refine ⟨d1.prune (keepQ m),u0,t'.prune q',sz,rows',u1,b,o,cc,?_,k2,hq',hr',by rw [val_prune p d1 _ k3];exact k5,k6,k7⟩;unfold V.clr;rw [clrL_get,k1];simp only [Option.map_some,hm',Bool.false_eq_true,if_false]
        | _=>exact hx.elim
  nd:=by intro r;split;exact List.nodup_nil;exact h.nd r
  disj:=by intro r r' b hb hb';split at hb<;>split at hb' <;> first | (cases hb;done) | (cases hb';done) | exact h.disj r r' b hb hb'
  own:=by
    intro r b hb;split at hb
    · cases hb
    · exact h.own r b hb
  imm:=h.imm
  imm0:=h.imm0
  immN:=h.immN
/-! ### What a function gives back -/
inductive RV where
  | t (t:Nat)
  | c (t n:Nat) (agg:Bool)
def rebuild:D→List D→D
  | .agg _,cs=>.agg cs
  | _,cs=>cs.headD .undef
def refNot (r:Nat):D→Bool
  | .ref r' _=>r' != r
  | _=>false
def resolveK (s:List D) (d:D) (K:D→List D→Prop):Prop:=match d with
  | .ptr r [] 0 0=>match s[r]? with
    | some (.box _ cells)=>refsOK (pruneL (refNot r) cells)=true∧resC ((pruneL (notRoot r) s).set r .undef) (pruneL (refNot r) cells) (fun cs s'=>K (.box none cs) s')
    | _=>False
  | d=>refsOK d.cells=true∧resC s d.cells (fun cs s'=>K (rebuild d cs) s')
def rvK (s:List D):RV→(D→List D→Prop)→Prop
  | .t t,K=>(tkT s t).1.okCells=true∧resolveK (tkT s t).2 (tkT s t).1 K
  | .c t n agg,K=>match s[t]? with
    | some (.box _ cells)=>cells.length=n∧(mkAgg agg (pruneL (notRoot t) cells)).okCells=true∧resolveK ((pruneL (notRoot t) s).set t .undef) (mkAgg agg (pruneL (notRoot t) cells)) K
    | _=>False
def rvsK:List D→List RV→(List D→List D→Prop)→Prop
  | s,[],K=>K [] s
  | s,r::rs,K=>rvK s r fun d s'=>rvsK s' rs fun ds s''=>K (d::ds) s''
def one:List D→D
  | [d]=>d
  | ds=>.tup ds
def cRes (P:Program):List ResultVar→Option (List RV)
  | []=>some []
  | .tmp t::rs=>(cRes P rs).map (.t t::·)
  | .cell a t::rs=>match P.underlying t,P.info? t with
    | some d,some i=>if d.isRow then (cRes P rs).map (.c a i.size true::·) else if i.size=1 then (cRes P rs).map (.c a 1 false::·) else none
    | _,_=>none
end Go.V
namespace Go.V
open Go.RowKit
theorem growNK_pick {s:List D}{sz:Nat}{x:Operand}{K:List (List D)→List D→Prop}(h:growNK s sz x K):∃ r s',K r s'∧growNK s sz x (fun r' s''=>r'=r∧s''=s'):=by
  unfold growNK at h ⊢;split at h
  · exact ⟨_,_,h.2,h.1,rfl,rfl⟩
  · exact ⟨_,_,h,rfl,rfl⟩
  · exact h.elim
theorem growNK_mono {s:List D}{sz:Nat}{x:Operand}{K K':List (List D)→List D→Prop}(hm:∀ r s,K r s→K' r s)(h:growNK s sz x K):growNK s sz x K':=by
  unfold growNK at h ⊢;split at h
  · exact ⟨h.1,hm _ _ h.2⟩
  · exact hm _ _ h
  · exact h.elim
theorem addK_pick {s:List D}{sz:Nat}{x:Operand}{K:List (List D)→List D→Prop}(h:addK s sz x K):∃ r s',K r s'∧addK s sz x (fun r' s''=>r'=r∧s''=s'):=by
  unfold addK at h ⊢;split at h
  · exact ⟨_,_,h.2,h.1,rfl,rfl⟩
  · exact ⟨_,_,h.2,h.1,rfl,rfl⟩
  · exact ⟨_,_,h,rfl,rfl⟩
  · rename_i r q e
    (try simp only [e])
    split at h
    · rename_i e1
      (try simp only [e1])
      exact ⟨_,_,h.2.2,h.1,h.2.1,rfl,rfl⟩
    · exact h.elim
  · rename_i r q i n e
    (try simp only [e])
    split at h
    · rename_i e1
      (try simp only [e1])
      exact ⟨_,_,h.2.2,h.1,h.2.1,rfl,rfl⟩
    · exact h.elim
  · exact h.elim
theorem addK_mono {s:List D}{sz:Nat}{x:Operand}{K K':List (List D)→List D→Prop}(hm:∀ r s,K r s→K' r s)(h:addK s sz x K):addK s sz x K':=by
  unfold addK at h ⊢;split at h
  · exact ⟨h.1,hm _ _ h.2⟩
  · exact ⟨h.1,hm _ _ h.2⟩
  · exact hm _ _ h
  · rename_i r q e
    (try simp only [e])
    split at h
    · rename_i e1
      (try simp only [e1])
      exact ⟨h.1,h.2.1,hm _ _ h.2.2⟩
    · exact h.elim
  · rename_i r q i n e
    (try simp only [e])
    split at h
    · rename_i e1
      (try simp only [e1])
      exact ⟨h.1,h.2.1,hm _ _ h.2.2⟩
    · exact h.elim
  · exact h.elim
theorem pickK_pick {c a b:D}{s:List D}{K:D→List D→Prop}(h:pickK c a b s K):∃ d s',K d s'∧pickK c a b s (fun d' s''=>d'=d∧s''=s'):=by
  unfold pickK at h ⊢;split at h
  · rename_i t;split at h
    · exact ⟨_,_,h,rfl,rfl⟩
    · rename_i hn;cases t with
      | true=>exact ⟨_,_,h.1 rfl,by simp⟩
      | false=>exact ⟨_,_,h.2 rfl,by simp⟩
  · exact h.elim
theorem intK_pick {op:BinOp}{k k':IntKind}{x y:Int}{s:List D}{K:D→List D→Prop}(h:intK op k x k' y (fun v=>K (.v v) s)):∃ d s',K d s'∧intK op k x k' y (fun v=>(.v v:D)=d∧s=s'):=by unfold intK at h ⊢;split at h<;>first | exact ⟨_,_,h.2.2,h.1,h.2.1,rfl,rfl⟩ | exact ⟨_,_,h.2,h.1,rfl,rfl⟩
theorem strK_pick {op:BinOp}{x y:ByteArray}{s:List D}{K:D→List D→Prop}(h:strK op x y (fun v=>K (.v v) s)):∃ d s',K d s'∧strK op x y (fun v=>(.v v:D)=d∧s=s'):=by unfold strK at h ⊢;split at h<;>first | exact ⟨_,_,h.2,h.1,rfl,rfl⟩ | exact ⟨_,_,h,rfl,rfl⟩ | exact h.elim
theorem slcSK_pick {x l h:D}{s:List D}{K:D→List D→Prop}(hk:slcSK x l h s K):∃ d s',K d s'∧slcSK x l h s (fun d' s''=>d'=d∧s''=s'):=by
  unfold slcSK at hk ⊢;split at hk
  · exact ⟨_,_,hk.2.2.2,hk.1,hk.2.1,hk.2.2.1,rfl,rfl⟩
  · exact hk.elim
theorem slcK_pick {sz:Nat}{x l h m:D}{s:List D}{K:D→List D→Prop}(hk:slcK sz x l h m s K):∃ d s',K d s'∧slcK sz x l h m s (fun d' s''=>d'=d∧s''=s'):=by
  unfold slcK at hk ⊢;split at hk
  · obtain ⟨h1,h2,h3,h4,h5,h6,h7⟩:=hk;exact ⟨_,_,h7,h1,h2,h3,h4,h5,h6,rfl,rfl⟩
  · split at hk
    · rename_i e1
      (try simp only [e1])
      obtain ⟨h1,h2,h3,h4,h5,h6,h7⟩:=hk;exact ⟨_,_,h7,h1,h2,h3,h4,h5,h6,rfl,rfl⟩
    · exact hk.elim
  · split at hk
    · rename_i e1
      (try simp only [e1])
      obtain ⟨h1,h2,h3,h4,h5,h6,h7⟩:=hk;exact ⟨_,_,h7,h1,h2,h3,h4,h5,h6,rfl,rfl⟩
    · exact hk.elim
  · exact hk.elim
theorem evalK_pick {Ctr:CtrT} {s:List D}:∀ {v:VOp} {K:D→List D→Prop},v.framed=true→evalK Ctr s v K→∃ d s',K d s'∧evalK Ctr s v (fun d' s''=>d'=d∧s''=s'):=by
  intro v K hv h;cases v with
  | mv x =>
    simp only [evalK] at h ⊢;unfold mvE at h ⊢;cases x with
    | tmp t=>simp only at h ⊢;split at h<;>(rename_i e;(try simp only [e]);exact ⟨_,_,h,rfl,rfl⟩)
    | _=>exact ⟨_,_,h,rfl,rfl⟩
  | asg x=>exact ⟨_,_,h,rfl,rfl⟩
  | nilc x=>simp only [evalK] at h ⊢;split at h<;>first | exact h.elim | (rename_i e;skip;(try simp only [e]);exact ⟨_,_,h,rfl,rfl⟩)
  | pick c a b=>exact pickK_pick h
  | bin op x y =>
    simp only [evalK] at h ⊢;split at h
    · exact intK_pick h
    · exact strK_pick h
    · exact h.elim
  | binB neg x y =>
    simp only [evalK] at h ⊢;split at h
    · exact ⟨_,_,h,rfl,rfl⟩
    · exact h.elim
  | eqs neg ks x y =>
    simp only [evalK] at h ⊢;split at h
    · obtain ⟨h0,h⟩:=h;split at h
      · rename_i e3
        try simp only [e3]
        exact ⟨_,_,h,h0,rfl,rfl⟩
      · exact h.elim
    · exact h.elim
  | un op x =>
    simp only [evalK] at h ⊢;split at h
    · exact ⟨_,_,h,rfl,rfl⟩
    · exact ⟨_,_,h,rfl,rfl⟩
    · exact h.elim
  | conv k x =>
    simp only [evalK] at h ⊢;split at h
    · exact ⟨_,_,h,rfl,rfl⟩
    · exact h.elim
  | alloc z=>exact ⟨_,_,h,rfl,rfl⟩
  | box x=>exact ⟨_,_,h.2,h.1,rfl,rfl⟩
  | build z ps =>
    simp only [evalK] at h ⊢;obtain ⟨h1,h2⟩:=h;split at h2
    · rename_i e
      (try simp only [e])
      exact ⟨_,_,h2,h1,rfl,rfl⟩
    · exact h2.elim
  | bslN sz ps=>exact ⟨_,_,h.2.2,h.1,h.2.1,rfl,rfl⟩
  | load n agg x =>
    simp only [evalK] at h ⊢;split at h
    · rename_i e
      (try simp only [e])
      split at h
      · rename_i e2
        (try simp only [e2])
        exact ⟨_,_,h.2,h.1,rfl,rfl⟩
      · exact h.elim
    · exact ⟨_,_,h.2,h.1,rfl,rfl⟩
    · exact h.elim
  | fa off x=>simp only [evalK] at h ⊢;split at h<;>first | exact h.elim | (rename_i e;skip;(try simp only [e]);exact ⟨_,_,h,rfl,rfl⟩)
  | fld off n agg x =>
    simp only [evalK] at h ⊢;split at h
    · exact ⟨_,_,h.2,h.1,rfl,rfl⟩
    · exact h.elim
  | ia sz x i =>
    simp only [evalK] at h ⊢;split at h
    · rename_i e1 e2
      (try simp only [e1,e2])
      split at h
      · rename_i e3
        (try simp only [e3])
        exact ⟨_,_,h.2.2.2,h.1,h.2.1,h.2.2.1,rfl,rfl⟩
      · exact h.elim
    · obtain ⟨h1,h2,h3,row,h4,h5⟩:=h;exact ⟨_,_,h5,h1,h2,h3,row,h4,rfl,rfl⟩
    · exact h.elim
  | iaa len sz x i =>
    simp only [evalK] at h ⊢;split at h
    · exact ⟨_,_,h.2.2,h.1,h.2.1,rfl,rfl⟩
    · exact ⟨_,_,h.2.2,h.1,h.2.1,rfl,rfl⟩
    · exact h.elim
  | ixs x i =>
    simp only [evalK] at h ⊢;split at h
    · obtain ⟨h1,c,h2,h3⟩:=h;exact ⟨_,_,h3,h1,c,h2,rfl,rfl⟩
    · exact h.elim
  | ixa len sz agg x i =>
    simp only [evalK] at h ⊢;split at h
    · exact ⟨_,_,h.2.2.2,h.1,h.2.1,h.2.2.1,rfl,rfl⟩
    · exact h.elim
  | slcS x lo hi=>exact slcSK_pick h
  | slc sz x lo hi mx=>exact slcK_pick h
  | extN x i =>
    simp only [evalK] at h ⊢;split at h
    · rename_i t;split at h
      · rename_i vs hs
        try simp only [hs]
        split at h
        · rename_i d hi
          try simp only [hi]
          exact ⟨_,_,h.2,h.1,rfl,rfl⟩
        · exact h.elim
      · exact h.elim
    · exact h.elim
  | len x =>
    simp only [evalK] at h ⊢;split at h
    · rename_i e
      (try simp only [e])
      exact ⟨_,_,h,rfl,rfl⟩
    · exact h.elim
  | lenS x =>
    simp only [evalK] at h ⊢;split at h
    · exact ⟨_,_,h,rfl,rfl⟩
    · exact h.elim
  | mm mx xs =>
    simp only [evalK] at h ⊢;split at h
    · exact ⟨_,_,h.2,h.1,rfl,rfl⟩
    · exact h.elim
  | appN sz bytes x y=>simp only [evalK] at h ⊢;obtain ⟨r,s1,hk,h1⟩:=growNK_pick h;obtain ⟨m,s2,hk2,h2⟩:=addK_pick hk;refine ⟨_,_,hk2.2,growNK_mono ?_ h1⟩;rintro r' s' ⟨rfl,rfl⟩;refine addK_mono ?_ h2;rintro m' s' ⟨rfl,rfl⟩;exact ⟨hk2.1,rfl,rfl⟩
  | mkf f first caps=>exact ⟨_,_,h,rfl,rfl⟩
  | mks sz bytes z l c =>
    simp only [evalK] at h ⊢;split at h
    · exact ⟨_,_,h.2.2.2,h.1,h.2.1,h.2.2.1,rfl,rfl⟩
    · exact h.elim
  | call f args =>
    simp only [evalK] at h ⊢;rcases h with ⟨args',d,h1,h2,h3,h4⟩ | ⟨x,sz,r,q,rows,row,h1,h2,h3,h4,h5,h6,h7⟩ | ⟨args',d,h1,h2,h3,h4⟩
    · exact ⟨_,_,h4,.inl ⟨args',d,h1,h2,h3,rfl,rfl⟩⟩
    · exact ⟨_,_,h7,.inr (.inl ⟨x,sz,r,q,rows,row,h1,h2,h3,h4,h5,h6,rfl,rfl⟩)⟩
    · exact ⟨_,_,h4,.inr (.inr ⟨args',d,h1,h2,h3,rfl,rfl⟩)⟩
  | callv f args =>
    simp only [evalK] at h ⊢;split at h
    · obtain ⟨args',d,h1,h2,h3,h4⟩:=h;exact ⟨_,_,h4,args',d,h1,h2,h3,rfl,rfl⟩
    · exact h.elim
  | store _ _ _=>simp [VOp.framed] at hv
  | mkif _ _=>simp [VOp.framed] at hv
  | app _ _ _ _=>simp [VOp.framed] at hv
  | bsl _ _=>simp [VOp.framed] at hv
  | ext _ _=>simp [VOp.framed] at hv
  | b2s x =>
    simp only [evalK,b2sK] at h ⊢;split at h
    · obtain ⟨xs,h1,h2⟩:=h;exact ⟨_,_,h2,xs,h1,rfl,rfl⟩
    · exact h.elim
  | isnil _ _=>simp [VOp.framed] at hv
  | s2b x=>exact h.elim
  | appS _ _ _=>simp [VOp.framed] at hv
  | mupd _ _ _ _=>simp [VOp.framed] at hv
  | mdel _ _ _=>simp [VOp.framed] at hv
  | callX _ _=>simp [VOp.framed] at hv
  | callvX _ _=>simp [VOp.framed] at hv
  | mkm k=>exact ⟨_,_,h,rfl,rfl⟩
  | mlk k z ok m i =>
    simp only [evalK] at h ⊢;split at h
    · obtain ⟨h0,h⟩:=h;unfold mlkK at h ⊢;split at h
      · obtain ⟨h1,h⟩:=h;split at h
        · rename_i e1;exact ⟨_,_,h,h0,h1,rfl,rfl⟩
        · rename_i e1;exact ⟨_,_,h,h0,h1,rfl,rfl⟩
      · split at h
        · exact ⟨_,_,h,h0,rfl,rfl⟩
        · exact h.elim
    · exact h.elim
  | mlen m =>
    simp only [evalK] at h ⊢;split at h
    · rename_i k e _;cases k<;>first | exact ⟨_,_,h,rfl,rfl⟩ | exact h.elim
    · split at h
      · exact ⟨_,_,h,rfl,rfl⟩
      · exact h.elim
end Go.V
