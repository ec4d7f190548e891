/- Laws that the proof stands on. -/
import Derived.Test.YtjkbngjiagknkaaGreatDoorZVd
set_option linter.all false
namespace Go.V
open Go.RowKit
section
variable {I:Nat→Prop} {w:World}
theorem cells_ref {ρ:D→Value→Prop}:∀ {cs:List D} {us:List Value} {F:List Nat} {j:Nat} {c:D},Cells I w cs ρ us F→cs[j]?=some c→∃ u F',us[j]?=some u∧T I w c ρ u F'∧u.oneCell'=true
  | [],us,F,j,c,h,hj=>by simp at hj
  | d::ds,us,F,0,c,h,hj=>by simp only [Cells] at h;obtain ⟨u,us',F1,F2,e,hF,ho,h1,h2⟩:=h;simp only [List.getElem?_cons_zero,Option.some.injEq] at hj;subst hj;subst e;exact ⟨u,F1,rfl,h1,ho⟩
  | d::ds,us,F,j+1,c,h,hj=>by simp only [Cells] at h;obtain ⟨u,us',F1,F2,e,hF,ho,h1,h2⟩:=h;simp only [List.getElem?_cons_succ] at hj;obtain ⟨v,F',k1,k2,k3⟩:=cells_ref h2 hj;subst e;exact ⟨v,F',by simpa using k1,k2,k3⟩
theorem cells_put {ρ:D→Value→Prop}:∀ {cs:List D} {us:List Value} {F:List Nat} {j:Nat} {d:D} {u:Value} {Ft:List Nat},Cells I w cs ρ us F→cs[j]?=some .undef→us[j]?=some u→T I w d ρ u Ft→∃ A B,F=A++B∧Cells I w (cs.set j d) ρ us (A++Ft++B)
  | [],us,F,j,d,u,Ft,h,hj,hu,hT=>by simp at hj
  | c::ds,us,F,0,d,u,Ft,h,hj,hu,hT=>by simp only [Cells] at h;obtain ⟨v,us',F1,F2,e,hF,ho,h1,h2⟩:=h;simp only [List.getElem?_cons_zero,Option.some.injEq] at hj;subst hj;subst e;simp only [List.getElem?_cons_zero,Option.some.injEq] at hu;subst hu;simp only [T] at h1;subst h1;refine ⟨[],F2,by simpa using hF,?_⟩;simp only [List.set_cons_zero,Cells];exact ⟨v,us',Ft,F2,rfl,by simp,ho,hT,h2⟩
  | c::ds,us,F,j+1,d,u,Ft,h,hj,hu,hT=>by simp only [Cells] at h;obtain ⟨v,us',F1,F2,e,hF,ho,h1,h2⟩:=h;simp only [List.getElem?_cons_succ] at hj;subst e;simp only [List.getElem?_cons_succ] at hu;obtain ⟨A,B,e2,k⟩:=cells_put h2 hj hu hT;refine ⟨F1++A,B,by rw [hF,e2];simp,?_⟩;simp only [List.set_cons_succ,Cells];exact ⟨v,us',F1,A++Ft++B,rfl,by simp,ho,h1,k⟩
end
def setM (t j:Nat) (ps:List D) (cells':List D):Option D→Option D→Prop
  | some (.ref t' []),some (.sl true sz rows)=>t'=t∧(D.sl true sz rows).prune (fun _=>false)=.sl true sz rows∧leL (ps.set j (.sl true sz rows)) cells'
  | _,_=>leL ps cells'
def outFM (t j b:Nat) (cells':List D) (o:Option D):Option D→Prop
  | some (.box (some b') cs)=>b'=b∧setM t j (pruneL (fun _=>false) cs) cells' cs[j]? o
  | _=>False
def leXM (t j:Nat) (d:D) (i b:Nat) (cells':List D):List D→List D→Prop:=fun ds s=>(one ds).le d∧outFM t j b cells' s[t]? s[i]?
def endXM (t j:Nat) (rvs:List RV) (d:D) (i b:Nat) (cells':List D):VExit→List D→Prop:=finK rvs (leXM t j d i b cells')
section
variable {s:List D}
theorem endXM_ret {t j:Nat} {rvs d i b cs}:endXM t j rvs d i b cs .ret s=rvsK s rvs (leXM t j d i b cs):=rfl
theorem endXM_n {t j:Nat} {rvs d i b cs}:endXM t j rvs d i b cs .normal s=rvsK s rvs (leXM t j d i b cs):=rfl
theorem leXM_app {t j:Nat} {d ds i b cs}:leXM t j d i b cs ds s=((one ds).le d∧outFM t j b cs s[t]? s[i]?):=rfl
theorem outFM_box {t j b b':Nat} {cs cells':List D} {o}:outFM t j b cells' o (some (.box (some b') cs))=(b'=b∧setM t j (pruneL (fun _=>false) cs) cells' cs[j]? o):=rfl
theorem setM_hit {t t' j sz:Nat} {ps cells':List D} {rows}:setM t j ps cells' (some (.ref t' [])) (some (.sl true sz rows))=(t'=t∧(D.sl true sz rows).prune (fun _=>false)=.sl true sz rows∧leL (ps.set j (.sl true sz rows)) cells'):=rfl
end
theorem contract_ofXM {pt:Nat} {P:Program} {G:World→(Nat→Prop)→Prop} {f:FuncId} {fn:Func} {c:Code} {ms ms':List (List Bool)} {vc:VCode} {rvs:List RV} {args:List D} {d:D} {i t j:Nat} {cells cells':List D} (hti:t≠i) (hcl:Stab G) (hf:P.funcs[f]?=some fn) (hen:∀ (us:Array Value) (W:World),(callFunc f us).run P W=.ok (.enter f us) W) (hb:fn.body=some c)
    (hc:cCode P pt c ms=some (vc,ms')) (hr:cRes P fn.results.toList=some rvs) (hi:i < args.length) (hk:∀ b,vc.wp (CT P G) (endXM t j rvs d i b cells') (args.set i (.box (some b) cells)++List.replicate (fn.ntmps - args.length) .undef)):ContractX P G f i args cells d cells':=by
  refine ⟨hen,fun w I us b X hG hI hu hV hTb hXn hX=>?_⟩;have hlen:us.length=args.length:=by have:=hV.len;simpa using this
  refine (body_core (I:=I) (X:=X) (us:=us) (Fs0:=fun r=>if r=i then X else []) (fun w' hb'=>hG.keep hcl fun b hb=>hb'.block b (fun hn=>hn.elim (fun h=>absurd (hI b hb) (by omega)) (fun h=>(hX b h).2 hb))) hf hb hc hr ?_ (hk b)).mono ?_
  · exact {
      below:=Base.Below.refl
      len:=by simp [hlen]
      slot:=by
        intro r d' u h1 h2;by_cases hri:r=i
        · subst hri;rw [List.getElem?_append_left (by simpa using hi),List.getElem?_set_self hi] at h1;cases h1;have:us[r]?=some u:=by rw [Array.getElem?_append_left (by simp;omega)] at h2;simpa using h2
          rw [hu] at this;cases this;simp only [if_true];exact hTb.res (fun _ _ h=>h.elim)
        · simp only [hri,if_false];rw [set_undef_get hri] at h1;exact start_slots hV (by simpa using h1) h2
      nd:=fun r=>by split;exact hXn;exact List.nodup_nil
      disj:=fun r r' x h h'=>by
        split at h
        · split at h'
          · omega
          · cases h'
        · cases h
      own:=fun r x h=>by
        split at h
        · exact ⟨.inr h,(hX x h).1,(hX x h).2⟩
        · cases h
      imm:=hI
      imm0:=fun _ h=>h
      immN:=fun _ h=>.inl h }
  · rintro e w' ⟨v,ds,F,s2,Fs2,I',tm,he,⟨hle,hout⟩,hbel,hT,hnd,hF,hR,hFo⟩;obtain ⟨F',k1,k2⟩:=T.leF _ _ hT hle;unfold outFM at hout;split at hout
    rotate_left
    · exact hout.elim
    rename_i b' cs hs;obtain ⟨rfl,hlc⟩:=hout;obtain ⟨u2,hu2,hT2⟩:=hR.slot0 hs;simp only [T] at hT2;obtain ⟨b2,cs2,et,F2,hub,htg,hh,hFr,hcs⟩:=hT2;have hb2:=htg b' rfl;subst hb2;have hcp:Cells I' w' (pruneL (fun _=>false) cs) nil cs2.toList F2:=Cells.turn (ρ':=nil) (fun x v hq _=>by cases hq) cs hcs;have key:∃ F3,Cells I' w' cells' nil cs2.toList F3∧(b2::F3).Nodup∧∀ x,x∈b2::F3→x∈Fs2 i∨x∈Fs2 t:=by
      have hnr:=hR.nd i;rw [hFr] at hnr;have plain:leL (pruneL (fun _=>false) cs) cells'→∃ F3,Cells I' w' cells' nil cs2.toList F3∧(b2::F3).Nodup∧∀ x,x∈b2::F3→x∈Fs2 i∨x∈Fs2 t:=by
        intro hlc;obtain ⟨F3,hc3,hs3⟩:=Cells.leF _ _ hcp hlc;refine ⟨F3,hc3,List.nodup_cons.2 ⟨fun hb=>(List.nodup_cons.1 hnr).1 (hs3.subset hb),hs3.nodup (List.nodup_cons.1 hnr).2⟩,fun x hx=>.inl ?_⟩;rw [hFr];rcases List.mem_cons.1 hx with rfl | hx
        · simp
        · exact List.mem_cons_of_mem _ (hs3.subset hx)
      unfold setM at hlc;split at hlc
      · rename_i t' sz rows hj ht;obtain ⟨rfl,hpr,hlc⟩:=hlc;obtain ⟨ut,hut,hTt⟩:=hR.slot0 ht;have hTn:T I' w' (.sl true sz rows) nil ut (Fs2 t'):=by have:=T.turn (q:=fun _=>false) (ρ':=nil) (fun x v hq _=>by cases hq) (D.sl true sz rows) hTt;rwa [hpr] at this
        obtain ⟨uj,Fj,q1,q2,q3⟩:=cells_ref hcs hj;simp only [T,ρS] at q2;obtain ⟨⟨d1,v0,t1,m1,m2,m3,m4,m5⟩,_⟩:=q2;rw [ht] at m1;cases m1;rw [hut] at m2;cases m2;simp only [valAt,Option.some.injEq] at m5;subst m5;have hpj:(pruneL (fun _=>false) cs)[j]?=some .undef:=(by rw [pruneL_get,hj];simp [D.prune]);obtain ⟨A,B,e1,hc3⟩:=cells_put hcp hpj q1 hTn;obtain ⟨F3,hc4,hs3⟩:=Cells.leF _ _ hc3 hlc;have hmem:∀ x,x∈F3→x∈F2∨x∈Fs2 t':=fun x hx=>by
          have:=hs3.subset hx;rw [e1];simp only [List.mem_append] at this ⊢;rcases this with (h | h) | h
          · exact .inl (.inl h)
          · exact .inr h
          · exact .inl (.inr h)
        have hF2:∀ x,x∈F2→x∈Fs2 i:=fun x hx=>by rw [hFr];exact List.mem_cons_of_mem _ hx
        refine ⟨F3,hc4,List.nodup_cons.2 ⟨fun hb=>?_,hs3.nodup ?_⟩,fun x hx=>?_⟩
        · rcases hmem b2 hb with h | h
          · exact (List.nodup_cons.1 hnr).1 h
          · exact hti (hR.disj t' i b2 h (by rw [hFr];simp))
        · have hn2:=(List.nodup_cons.1 hnr).2;rw [e1] at hn2;have hd:∀ x,x∈A++B→x∉Fs2 t':=fun x hx hx2=>hti (hR.disj t' i x hx2 (hF2 x (by rw [e1];exact hx)));obtain ⟨nA,nB,nAB⟩:=List.nodup_append.1 hn2;refine List.nodup_append.2 ⟨List.nodup_append.2 ⟨nA,hR.nd t',fun x hx y hy e=>hd x (by simp [hx]) (e ▸ hy)⟩,nB,fun x hx y hy e=>?_⟩;rcases List.mem_append.1 hx with hx | hx
          · exact nAB x hx y hy e
          · subst e;exact hd x (by simp [hy]) hx
        · rcases List.mem_cons.1 hx with rfl | hx
          · exact .inl (by rw [hFr];simp)
          · exact (hmem x hx).imp (hF2 x) id
      · exact plain hlc
    obtain ⟨F3,hc3,hn3,hs3⟩:=key;refine ⟨v,F',b2::F3,I',he,hbel,k1,?_,?_,fun x hx=>?_,hR.imm0,fun x hx=>⟨?_,hR.imm x hx⟩⟩
    · simp only [T];exact ⟨b2,cs2,et,F3,rfl,fun k hk=>by cases hk;rfl,hh,rfl,hc3⟩
    · refine List.nodup_append.2 ⟨k2.nodup hnd,hn3,fun x hx y hy hxy=>?_⟩;subst hxy;rcases hs3 x hy with h | h
      · exact hFo x (k2.subset hx) i h
      · exact hFo x (k2.subset hx) t h
    · rcases List.mem_append.1 hx with hx | hx
      · exact hF x (k2.subset hx)
      · rcases hs3 x hx with h | h
        · exact hR.own i x h
        · exact hR.own t x h
    · exact hR.immN x hx
end Go.V
