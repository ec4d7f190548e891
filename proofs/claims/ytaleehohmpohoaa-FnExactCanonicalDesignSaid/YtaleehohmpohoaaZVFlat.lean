/- Laws that the proof stands on. -/
import Derived.Test.YtaleehohmpohoaaZVB
set_option linter.all false
namespace Go.V
open Go.RowKit
def noDst (i:Nat):Code→Bool
  | .skip=>true
  | .region _ ops false=>ops.toList.all fun o=>o.dst != some i
  | .seq a b=>noDst i a&&noDst i b
  | .cond _ a b=>noDst i a&&noDst i b
  | .block _ c=>noDst i c
  | .exit _=>true
  | .ret=>true
  | _=>false
theorem put_keep {a:Act}{dst:Option Nat}{v u:Value}{i:Nat}(h:dst≠some i)(hu:a.tmps[i]?=some u):(a.put dst v).tmps[i]?=some u:=by
  cases dst with
  | none=>exact hu
  | some t=>show (a.tmps.setIfInBounds t v)[i]?=some u;rw [Array.getElem?_setIfInBounds_ne (fun e=>h (by rw [e]))];exact hu
theorem start_tmp {us:List Value}{i n:Nat}{u:Value}(h:us[i]?=some u):(us.toArray++Array.replicate n undef)[i]?=some u:=by
  have hi:i<us.length:=by
    rcases Nat.lt_or_ge i us.length with h1 | h1
    · exact h1
    · rw [List.getElem?_eq_none h1] at h;cases h
  rw [Array.getElem?_append_left (by simpa using hi)];simpa using h
section
variable {P:Program} {G:World→(Nat→Prop)→Prop} {w0:Base} {I0:Nat→Prop}
theorem sim_opsU {i:Nat} {u:Value} (hcl:∀ w',w0.Below w'→GI G w' I0) (ops:Array Oper) {Q:Exit→Act→World→Prop} {KK:List D→Prop} (hQ:∀ s a w,KK s→Rel w0 I0 s a w→a.tmps[i]?=some u→Q .normal a w):∀ (l:List Oper) (vs:List VO) (s:List D) (a:Act) (w:World),(∀ o∈l,o.dst≠some i)→a.tmps[i]?=some u→cVOs P ops l=some vs→opsK (CT P G) s vs KK→Rel w0 I0 s a w→wpList P ops Q l a w
  | [],vs,s,a,w,hno,hu,hc,hk,h=>by simp only [cVOs,Option.some.injEq] at hc;subst hc;exact hQ s a w hk h hu
  | o :: l, vs,s,a,w,hno,hu,hc,hk,h=>by
    simp only [cVOs] at hc;cases hv:cVO P false ops o with
    | none=>simp [hv] at hc
    | some v =>
    cases hvs:cVOs P ops l with
    | none=>simp [hv,hvs] at hc
    | some vs' =>
    simp only [hv,hvs,Option.some.injEq] at hc;subst hc;simp only [opsK] at hk;obtain ⟨hd,I,Fs,hR⟩:=h;have hGw:GI G w I0:=hcl _ hR.below;simp only [cVO] at hv;cases hg:cGuard ops o.guard with
    | none=>simp [hg] at hv
    | some g =>
    cases hop:cOp P false o.op with
    | none=>simp [hg,hop] at hv
    | some vop =>
    simp only [hg,hop,Option.some.injEq] at hv;subst hv;have run:evalK (CT P G) s vop (fun d s'=>opsK (CT P G) (match o.dst with | some t=>putD s' t d | none=>s') vs' KK)→o.wp P a w (wpList P ops Q l) Q:=by intro hk;refine wp_of_runs (sim_op (nn:=false) hGw hR (fun h=>by cases h) hop hk) ?_;rintro v w' ⟨d,s',I',Fs',F,hK,hR',hT,hF,_⟩;exact sim_opsU hcl ops hQ l vs' _ _ _ (fun o ho=>hno o (List.mem_cons_of_mem _ ho)) (put_keep (hno o (List.mem_cons_self ..)) hu) hvs hK (put_rel hd hR' hT hF)
    have skip:opsK (CT P G) (match o.dst with | some t=>putD s t (.v (.tuple #[])) | none=>s) vs' KK→wpList P ops Q l (a.put o.dst undef) w:=(by intro hk;exact sim_opsU hcl ops hQ l vs' _ _ _ (fun o ho=>hno o (List.mem_cons_of_mem _ ho)) (put_keep (hno o (List.mem_cons_self ..)) hu) hvs hk (put_rel (d:=.v (.tuple #[])) (v:=undef) hd hR (by simp only [T];exact ⟨rfl,trivial⟩) Fresh.nil));unfold wpList;simp only [stepK] at hk;cases hgo:o.guard with
    | none=>rw [hgo] at hg;simp only [cGuard,Option.some.injEq] at hg;subst hg;rw [if_pos (by simp [Region.wanted,hgo])];exact .inl (run hk)
    | some jw =>
      obtain ⟨j,want⟩:=jw;rw [hgo] at hg;simp only [cGuard] at hg;cases hj:(ops[j]?).bind (·.dst) with
      | none=>simp [hj] at hg
      | some t =>
        simp only [hj,Option.some.injEq] at hg;subst hg;simp only at hk;have hTt:=lkT_T hR t;have hyv:∀ x:Value,lkT s t=.v x→a.tmps[t]?=some x∨(a.tmps[t]?=none∧x=undef):=by
          intro x e;rw [e] at hTt;have:=(T_v hTt).1;cases ht:a.tmps[t]? with
          | none=>simp [ht] at this;exact .inr ⟨rfl,this.symm⟩
          | some y=>simp [ht] at this;exact .inl (by rw [this])
        split at hk
        · rename_i b e;have hy:yielded ops a.tmps j=some b:=by
            unfold yielded;rw [hj];rcases hyv _ e with h1 | ⟨_,h1⟩
            · simp [h1]
            · cases h1
          by_cases hbw:b=want
          · rw [if_pos (by simp [Region.wanted,hgo,hy,hbw])];exact .inl (run (hk.1 hbw))
          · rw [if_neg (by simp [Region.wanted,hgo,hy,hbw])];exact skip (hk.2 hbw)
        · rename_i x hne e;have hy:yielded ops a.tmps j=none:=by
            unfold yielded;rw [hj];rcases hyv _ e with h1 | ⟨h1,_⟩
            · simp only [Option.bind_some,h1];split
              · rename_i b hb;cases hb;exact absurd rfl (hne b)
              · rfl
            · simp [h1]
          rw [if_neg (by simp [Region.wanted,hgo,hy])];exact skip hk
        · exact hk.elim
theorem sim_codeU {i:Nat} {u:Value} {pt:Nat} (hcl:∀ w',w0.Below w'→GI G w' I0):∀ (c:Code) (ms ms':List (List Bool)) (vc:VCode) (VQ:VExit→List D→Prop) (Q:Exit→Act→World→Prop) (s:List D) (a:Act) (w:World),
    noDst i c=true→a.tmps[i]?=some u→cCode P pt c ms=some (vc,ms')→vc.wp (CT P G) VQ s→Rel w0 I0 s a w→(∀ e s a w,VQ e s→Rel w0 I0 s a w→a.tmps[i]?=some u→Q e.to a w)→c.wp P Q a w
  | .skip,ms,ms',vc,VQ,Q,s,a,w,hno,hu,hc,hk,h,hQ=>by simp only [cCode,Option.some.injEq,Prod.mk.injEq] at hc;obtain ⟨rfl,_⟩:=hc;exact wp_skip (hQ .normal s a w hk h hu)
  | .region id ops draw,ms,ms',vc,VQ,Q,s,a,w,hno,hu,hc,hk,h,hQ=>by
    cases draw with
    | true=>simp [noDst] at hno
    | false =>
      simp only [cCode] at hc;cases hl:cVOs P ops ops.toList with
      | none=>simp [hl] at hc
      | some l=>simp only [hl,Option.some.injEq,Prod.mk.injEq] at hc;obtain ⟨rfl,_⟩:=hc;simp only [VCode.wp] at hk;exact wp_region_list (sim_opsU hcl ops (KK:=VQ .normal) (fun s a w hk h hu=>hQ .normal s a w hk h hu) ops.toList l s a w (fun o ho=>by have:=List.all_eq_true.1 hno o ho;simpa using this) hu hl hk h)
  | .seq x y,ms,ms',vc,VQ,Q,s,a,w,hno,hu,hc,hk,h,hQ=>by
    simp only [noDst,Bool.and_eq_true] at hno;simp only [cCode] at hc;cases hx:cCode P pt x ms with
    | none=>simp [hx] at hc
    | some r =>
      obtain ⟨vx,ms1⟩:=r;simp only [hx] at hc;cases hy:cCode P pt y ms1 with
      | none=>simp [hy] at hc
      | some r =>
        obtain ⟨vy,ms2⟩:=r;simp only [hy,Option.some.injEq,Prod.mk.injEq] at hc;obtain ⟨rfl,_⟩:=hc;simp only [VCode.wp] at hk;refine wp_seq (sim_codeU hcl x ms ms1 vx _ _ s a w hno.1 hu hx hk h ?_);intro e s' a' w' hq hr hu';cases e with
        | normal=>exact sim_codeU hcl y ms1 ms2 vy VQ Q s' a' w' hno.2 hu' hy hq hr hQ
        | exit id=>exact hQ (.exit id) s' a' w' hq hr hu'
        | ret=>exact hQ .ret s' a' w' hq hr hu'
  | .cond c x y,ms,ms',vc,VQ,Q,s,a,w,hno,hu,hc,hk,h,hQ=>by
    simp only [noDst,Bool.and_eq_true] at hno;simp only [cCode] at hc;cases hx:cCode P pt x ms with
    | none=>simp [hx] at hc
    | some r =>
      obtain ⟨vx,ms1⟩:=r;simp only [hx] at hc;cases hy:cCode P pt y ms1 with
      | none=>simp [hy] at hc
      | some r =>
        obtain ⟨vy,ms2⟩:=r;simp only [hy,Option.some.injEq,Prod.mk.injEq] at hc;obtain ⟨rfl,_⟩:=hc;simp only [VCode.wp] at hk;obtain ⟨hd,I,Fs,hR⟩:=h;have hT:=lk_T hR c;split at hk
        · rename_i t e;rw [e] at hT;refine wp_cond_split (T_v hT).1 (fun ht=>?_) (fun ht=>?_)
          · exact sim_codeU hcl x ms ms1 vx VQ Q s a w hno.1 hu hx (hk.1 ht) ⟨hd,I,Fs,hR⟩ hQ
          · exact sim_codeU hcl y ms1 ms2 vy VQ Q s a w hno.2 hu hy (hk.2 ht) ⟨hd,I,Fs,hR⟩ hQ
        · exact hk.elim
  | .block id c,ms,ms',vc,VQ,Q,s,a,w,hno,hu,hc,hk,h,hQ=>by
    simp only [noDst] at hno;simp only [cCode] at hc;cases hx:cCode P pt c ms with
    | none=>simp [hx] at hc
    | some r =>
      obtain ⟨vx,ms1⟩:=r;simp only [hx,Option.some.injEq,Prod.mk.injEq] at hc;obtain ⟨rfl,_⟩:=hc;simp only [VCode.wp] at hk;refine wp_block (sim_codeU hcl c ms ms1 vx _ _ s a w hno hu hx hk h ?_);intro e s' a' w' hq hr hu';cases e with
      | normal=>exact hQ .normal s' a' w' hq hr hu'
      | ret=>exact hQ .ret s' a' w' hq hr hu'
      | exit i =>
        simp only [vblock] at hq;by_cases hi:i=id
        · rw [if_pos hi] at hq;simp only [VExit.to,Exit.inBlock,hi,if_true];exact hQ .normal s' a' w' hq hr hu'
        · rw [if_neg hi] at hq;simp only [VExit.to,Exit.inBlock,hi,if_false];exact hQ (.exit i) s' a' w' hq hr hu'
  | .exit id,ms,ms',vc,VQ,Q,s,a,w,hno,hu,hc,hk,h,hQ=>by simp only [cCode,Option.some.injEq,Prod.mk.injEq] at hc;obtain ⟨rfl,_⟩:=hc;exact wp_exit (hQ (.exit id) s a w hk h hu)
  | .ret,ms,ms',vc,VQ,Q,s,a,w,hno,hu,hc,hk,h,hQ=>by simp only [cCode,Option.some.injEq,Prod.mk.injEq] at hc;obtain ⟨rfl,_⟩:=hc;exact wp_ret (hQ .ret s a w hk h hu)
  | .loop _,_,_,_,_,_,_,_,_,hno,_,_,_,_,_=>by simp [noDst] at hno
  | .rangeFunc _ _ _ _,_,_,_,_,_,_,_,_,hno,_,_,_,_,_=>by simp [noDst] at hno
  | .scope _,_,_,_,_,_,_,_,_,hno,_,_,_,_,_=>by simp [noDst] at hno
  | .label _,_,_,_,_,_,_,_,_,hno,_,_,_,_,_=>by simp [noDst] at hno
  | .goto _,_,_,_,_,_,_,_,_,hno,_,_,_,_,_=>by simp [noDst] at hno
  | .refuse _,_,_,_,_,_,_,_,_,hno,_,_,_,_,_=>by simp [noDst] at hno
end
theorem body_coreU {i:Nat} {u:Value} {pt:Nat} {P:Program} {G:World→(Nat→Prop)→Prop} {f:FuncId} {fn:Func} {c:Code} {ms ms':List (List Bool)} {vc:VCode} {rvs:List RV} {KK:List D→List D→Prop} {w:World} {I:Nat→Prop} {us:List Value} {X:List Nat} {s0:List D} {Fs0:Nat→List Nat} (hG:∀ w',(ioB w X).Below w'→GI G w' I) (hf:P.funcs[f]?=some fn) (hb:fn.body=some c)
    (hc:cCode P pt c ms=some (vc,ms')) (hr:cRes P fn.results.toList=some rvs) (hrel:RelI (ioB w X) I s0 (us.toArray++Array.replicate (fn.ntmps-us.toArray.size) undef) w I Fs0) (hno:noDst i c=true) (hu:us[i]?=some u) (hk:vc.wp (CT P G) (finK rvs KK) s0) :
    Calls P f us.toArray w fun e w'=>∃ v ds F s2 Fs2 I' tm,e=.returned v∧KK ds s2∧(ioB w X).Below w'∧T I' w' (one ds) nil v F∧F.Nodup∧(∀ b,b∈F→(ioB w X).N b∧b<w'.heap.size∧¬ I' b)∧RelI (ioB w X) I s2 tm w' I' Fs2∧(∀ b,b∈F→∀ r,b∉Fs2 r)∧tm[i]?=some u:=by
  refine calls_of_wp hf hb ?_;refine sim_codeU (i:=i) (u:=u) hG c ms ms' vc (finK rvs KK) _ _ _ w hno (start_tmp hu) hc hk ⟨rfl,I,Fs0,hrel⟩ ?_;intro e s a w' hq hr' hu';obtain ⟨hd,I',Fs,hR⟩:=hr';have key:rvsK s rvs KK→a.defers=[]∧∃ v,(results fn a.tmps).run P w'=.ok v w'∧∃ v' ds F s2 Fs2 I' tm,Ending.returned v=.returned v'∧KK ds s2∧(ioB w X).Below w'∧T I' w' (one ds) nil v' F∧F.Nodup∧(∀ b,b∈F→(ioB w X).N b∧b<w'.heap.size∧¬ I' b)∧RelI (ioB w X) I s2 tm w' I' Fs2∧(∀ b,b∈F→∀ r,b∉Fs2 r)∧tm[i]?=some u:=by
    intro hq;obtain ⟨us',ds,F,s2,Fs2,m1,m2,m3,m4,m5,m6,m7,m8,m9,m10⟩:=rvs_T fn.results.toList hR hr hq;have hrun:(results fn a.tmps).run P w'=.ok (if us'.length=1 then us'.headD undef else .tuple us'.toArray) w':=by
      rw [results_eq,Sem.run_bind,Array.mapM_eq_mapM_toList,Sem.run_map,m1];simp only [Result.andThen_ok,Sem.run_pure];by_cases h1:us'.length=1
      · rw [if_pos h1,dif_pos (by simpa using h1)];cases us' with
        | nil=>simp at h1
        | cons u us2=>simp
      · rw [if_neg h1,dif_neg (by simpa using h1)]
    have hT : T I' w' (one ds) nil (if us'.length=1 then us'.headD undef else .tuple us'.toArray) F:=by
      have hl:=m4.len;by_cases h1:us'.length=1
      · rw [if_pos h1];cases ds with
        | nil=>rw [h1] at hl;simp at hl
        | cons d1 ds =>
          cases ds with
          | nil=>simp only [Vals] at m4;obtain ⟨u,us2,F1,F2,e1,e2,ht,e3,e4⟩:=m4;subst e1;subst e2;subst e3;subst e4;simpa [one] using ht
          | cons d2 ds=>rw [h1] at hl;simp at hl
      · rw [if_neg h1];have:one ds=.tup ds:=by
          cases ds with
          | nil=>rfl
          | cons d1 ds=>cases ds with
            | nil=>exact absurd hl h1
            | cons d2 ds=>rfl
        rw [this];simp only [T];exact ⟨us',rfl,m4⟩
    exact ⟨hd,_,hrun,_,ds,F,s2,Fs2,I',a.tmps,rfl,m3,hR.below,hT,m5,m6,m8,m10,hu'⟩
  cases e with
  | normal=>exact key hq
  | ret=>exact key hq
  | exit id=>exact hq.elim
def leS (d:D)(i:Nat)(d':D):List D→List D→Prop:=fun ds s=>(one ds).le d∧s[i]?=some d'
def endS (rvs:List RV)(d:D)(i:Nat)(d':D):VExit→List D→Prop:=finK rvs (leS d i d')
def leM (d:D)(i:Nat)(d':D)(j b:Nat)(cells':List D):List D→List D→Prop:=fun ds s=>(one ds).le d∧s[i]?=some d'∧outX j b cells' s
def endM (rvs:List RV)(d:D)(i:Nat)(d':D)(j b:Nat)(cells':List D):VExit→List D→Prop:=finK rvs (leM d i d' j b cells')
theorem endS_ret {rvs:List RV}{d d':D}{i:Nat}{s:List D}:endS rvs d i d' .ret s=rvsK s rvs (leS d i d'):=rfl
theorem leS_app {d d':D}{i:Nat}{ds s:List D}:leS d i d' ds s=((one ds).le d∧s[i]?=some d'):=rfl
theorem endM_ret {rvs:List RV}{d d':D}{i j b:Nat}{c:List D}{s:List D}:endM rvs d i d' j b c .ret s=rvsK s rvs (leM d i d' j b c):=rfl
theorem leM_app {d d':D}{i j b:Nat}{c ds s:List D}:leM d i d' j b c ds s=((one ds).le d∧s[i]?=some d'∧outX j b c s):=rfl
theorem contract_ofS {pt:Nat} {P:Program} {G:World→(Nat→Prop)→Prop} {f:FuncId} {fn:Func} {c:Code} {ms ms':List (List Bool)} {vc:VCode} {rvs:List RV} {args:List D} {d d0 d':D} {i:Nat} (hcl:Stab G) (hf:P.funcs[f]?=some fn) (hen:∀ (us:Array Value) (W:World),(callFunc f us).run P W=.ok (.enter f us) W) (hb:fn.body=some c)
    (hc:cCode P pt c ms=some (vc,ms')) (hr:cRes P fn.results.toList=some rvs) (hi:i<args.length) (hno:noDst i c=true) (hx':d'.exact=true) (hk:vc.wp (CT P G) (endS rvs d i d') (args.set i d0++List.replicate (fn.ntmps-args.length) .undef)):ContractL P G f i args d0 d d':=by
  refine ⟨hen,fun w I us u X hG hI hu hV hTb hXn hX=>?_⟩;have hlen:us.length=args.length:=by have:=hV.len;simpa using this
  refine (body_coreU (i:=i) (u:=u) (I:=I) (X:=X) (us:=us) (Fs0:=fun r=>if r=i then X else []) (fun w' hb'=>hG.keep hcl fun b hb=>hb'.block b (fun hn=>hn.elim (fun h=>absurd (hI b hb) (by omega)) (fun h=>(hX b h).2 hb))) hf hb hc hr ?_ hno hu hk).mono ?_
  · exact {
      below:=Base.Below.refl
      len:=by simp [hlen]
      slot:=by
        intro r d' u' h1 h2;by_cases hri:r=i
        · subst hri;rw [List.getElem?_append_left (by simpa using hi),List.getElem?_set_self hi] at h1;cases h1;have:us[r]?=some u':=by rw [Array.getElem?_append_left (by simp;omega)] at h2;simpa using h2
          rw [hu] at this;cases this;simp only [if_true];exact hTb.res (fun _ _ h=>h.elim)
        · simp only [hri,if_false];rw [set_undef_get hri] at h1;exact start_slots hV (by simpa using h1) h2
      nd:=fun r=>by split;exact hXn;exact List.nodup_nil
      disj:=fun r r' x h h'=>by
        split at h
        · split at h'
          · omega
          · cases h'
        · cases h
      own:=fun r x h=>by
        split at h
        · exact ⟨.inr h,(hX x h).1,(hX x h).2⟩
        · cases h
      imm:=hI
      imm0:=fun _ h=>h
      immN:=fun _ h=>.inl h }
  · rintro e w' ⟨v,ds,F,s2,Fs2,I',tm,he,⟨hle,hout⟩,hbel,hT,hnd,hF,hR,hFo,htm⟩;obtain ⟨F',k1,k2⟩:=T.leF _ _ hT hle;have hT2:=exact_T (ρ':=nil) hx' (hR.slot i d' u hout htm);refine ⟨v,F',Fs2 i,I',he,hbel,k1,hT2,?_,fun x hx=>?_,hR.imm0,fun x hx=>⟨?_,hR.imm x hx⟩⟩
    · refine List.nodup_append.2 ⟨k2.nodup hnd,hR.nd i,fun x hx y hy hxy=>?_⟩;subst hxy;exact hFo x (k2.subset hx) i hy
    · rcases List.mem_append.1 hx with hx | hx
      · exact hF x (k2.subset hx)
      · exact hR.own i x hx
    · exact (hR.immN x hx)
theorem contract_ofM {pt:Nat} {P:Program} {G:World→(Nat→Prop)→Prop} {f:FuncId} {fn:Func} {c:Code} {ms ms':List (List Bool)} {vc:VCode} {rvs:List RV} {args:List D} {d d1 d1':D} {cells cells':List D} {i j:Nat} (hcl:Stab G) (hf:P.funcs[f]?=some fn) (hen:∀ (us:Array Value) (W:World),(callFunc f us).run P W=.ok (.enter f us) W) (hb:fn.body=some c)
    (hc:cCode P pt c ms=some (vc,ms')) (hr:cRes P fn.results.toList=some rvs) (hi:i<args.length) (hj:j<args.length) (hij:i≠j) (hno:noDst i c=true) (hx':d1'.exact=true) (hk:∀ b,vc.wp (CT P G) (endM rvs d i d1' j b cells') ((args.set i d1).set j (.box (some b) cells)++List.replicate (fn.ntmps-args.length) .undef)):ContractM P G f i j args [d1,.box none cells] d [d1',.box none cells']:=by
  refine ⟨hen,fun w I us u1 u2 X hG hI hu1 hu2 hV hTb hXn hX=>?_⟩;have hlen:us.length=args.length:=by have:=hV.len;simpa using this
  simp only [Vals] at hTb;obtain ⟨v1,us1,F1,F2,e1,hXe,hT1,v2,us2,G1,G2,e2,hGe,hT2,e3,hG2⟩:=hTb;simp only [List.cons.injEq] at e1;obtain ⟨rfl,rfl⟩:=e1;simp only [List.cons.injEq] at e2;obtain ⟨rfl,rfl⟩:=e2;subst hG2;rw [List.append_nil] at hGe;subst hGe;simp only [T] at hT2;obtain ⟨b,cs,et,F',rfl,_,hh,hFb,hcs⟩:=hT2;have hTb:T I w (.box (some b) cells) nil (.pointer (some ⟨b,0,none⟩)) F2:=by simp only [T];exact ⟨b,cs,et,F',rfl,(fun k hk=>by cases hk;rfl),hh,hFb,hcs⟩
  subst hXe;have hnd:=List.nodup_append.1 hXn;refine (body_coreU (i:=i) (u:=u1) (I:=I) (X:=F1++F2) (us:=us) (Fs0:=fun r=>if r=i then F1 else if r=j then F2 else []) (fun w' hb'=>hG.keep hcl fun b hb=>hb'.block b (fun hn=>hn.elim (fun h=>absurd (hI b hb) (by omega)) (fun h=>(hX b h).2 hb))) hf hb hc hr ?_ hno hu1 (hk b)).mono ?_
  · exact {
      below:=Base.Below.refl
      len:=by simp [hlen]
      slot:=by
        intro r d' u' h1 h2;by_cases hri:r=i
        · subst hri;rw [List.getElem?_append_left (by simpa using hi),List.getElem?_set_ne (Ne.symm hij),List.getElem?_set_self hi] at h1;cases h1;have:us[r]?=some u':=by rw [Array.getElem?_append_left (by simp;omega)] at h2;simpa using h2
          rw [hu1] at this;cases this;simp only [if_true];exact hT1.res (fun _ _ h=>h.elim)
        · by_cases hrj:r=j
          · subst hrj;rw [List.getElem?_append_left (by simpa using hj),List.getElem?_set_self (by simpa using hj)] at h1;cases h1;have:us[r]?=some u':=by rw [Array.getElem?_append_left (by simp;omega)] at h2;simpa using h2
            rw [hu2] at this;cases this;simp only [hri,if_false,if_true];exact hTb.res (fun _ _ h=>h.elim)
          · simp only [hri,hrj,if_false];refine start_slots hV (n:=fn.ntmps) ?_ h2;by_cases hr:r<args.length
            · rw [List.getElem?_append_left (by simpa using hr),List.getElem?_set_ne (Ne.symm hrj),List.getElem?_set_ne (Ne.symm hri)] at h1;rw [List.getElem?_append_left hr];exact h1
            · rw [List.getElem?_append_right (by simpa using hr)] at h1;rw [List.getElem?_append_right (by simpa using hr)];simpa using h1
      nd:=fun r=>by
        show List.Nodup (if r=i then F1 else if r=j then F2 else []);split
        · exact hnd.1
        · split
          · exact hnd.2.1
          · exact List.nodup_nil
      disj := fun r r' x h h'=>by
        split at h
        · split at h'
          · omega
          · split at h'
            · exact absurd rfl (hnd.2.2 x h x h')
            · cases h'
        · split at h
          · split at h'
            · exact absurd rfl (hnd.2.2 x h' x h)
            · split at h'
              · omega
              · cases h'
          · cases h
      own := fun r x h=>by
        split at h
        · exact ⟨.inr (List.mem_append_left _ h),(hX x (List.mem_append_left _ h)).1,(hX x (List.mem_append_left _ h)).2⟩
        · split at h
          · exact ⟨.inr (List.mem_append_right _ h),(hX x (List.mem_append_right _ h)).1,(hX x (List.mem_append_right _ h)).2⟩
          · cases h
      imm:=hI
      imm0:=fun _ h=>h
      immN:=fun _ h=>.inl h }
  · rintro e w' ⟨v,ds,F,s2,Fs2,I',tm,he,⟨hle,hout,houtx⟩,hbel,hT,hndF,hF,hR,hFo,htm⟩;obtain ⟨F',k1,k2⟩:=T.leF _ _ hT hle;have hT2:=exact_T (ρ':=nil) hx' (hR.slot i d1' u1 hout htm);unfold outX at houtx;split at houtx
    · rename_i b' cs3 hs;obtain ⟨rfl,hlc⟩:=houtx;obtain ⟨u3,hu3,hT3⟩:=hR.slot0 hs;simp only [T] at hT3;obtain ⟨b2,cs2,et2,F4,hub,htg,hh2,hFr,hcs2⟩:=hT3;have hb2:=htg b' rfl;subst hb2;obtain ⟨F3,hc3,hs3⟩:=Cells.leF _ _ (Cells.turn (ρ':=nil) (fun x v hq _=>by cases hq) cs3 hcs2) hlc;have hsub:∀ x,x∈b2::F3→x∈Fs2 j:=fun x hx=>by
        rw [hFr];rcases List.mem_cons.1 hx with rfl | hx
        · simp
        · exact List.mem_cons_of_mem _ (hs3.subset hx)
      have hnr:=hR.nd j;rw [hFr] at hnr;refine ⟨v,F',Fs2 i++(b2::F3),I',he,hbel,k1,?_,?_,fun x hx=>?_,hR.imm0,fun x hx=>⟨?_,hR.imm x hx⟩⟩
      · simp only [Vals];refine ⟨u1,[_],Fs2 i,b2::F3,rfl,rfl,hT2,_,[],b2::F3,[],rfl,by simp,?_,rfl,rfl⟩;simp only [T];exact ⟨b2,cs2,et2,F3,rfl,(fun k hk=>by cases hk),hh2,rfl,hc3⟩
      · refine List.nodup_append.2 ⟨k2.nodup hndF,List.nodup_append.2 ⟨hR.nd i,List.nodup_cons.2 ⟨fun hb=>(List.nodup_cons.1 hnr).1 (hs3.subset hb),hs3.nodup (List.nodup_cons.1 hnr).2⟩,fun x hx y hy hxy=>?_⟩,fun x hx y hy hxy=>?_⟩
        · subst hxy;exact hij (hR.disj i j x hx (hsub x hy))
        · subst hxy;rcases List.mem_append.1 hy with hy | hy
          · exact hFo x (k2.subset hx) i hy
          · exact hFo x (k2.subset hx) j (hsub x hy)
      · rcases List.mem_append.1 hx with hx | hx
        · exact hF x (k2.subset hx)
        · rcases List.mem_append.1 hx with hx | hx
          · exact hR.own i x hx
          · exact hR.own j x (hsub x hx)
      · exact (hR.immN x hx)
    · exact houtx.elim
end Go.V
