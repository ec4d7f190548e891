/- Laws that the proof stands on. -/
import Derived.Test.YtaleehohmpohoaaZVB
set_option linter.all false
namespace Go.V
open Go.RowKit
def zIq (i:Nat):Code→Bool
  | .skip=>true
  | .region _ ops false=>ops.toList.all fun o=>o.dst != some i
  | .seq a b=>zIq i a&&zIq i b
  | .cond _ a b=>zIq i a&&zIq i b
  | .block _ c=>zIq i c
  | .exit _=>true
  | .ret=>true
  | _=>false
theorem yA2 {a:Act}{dst:Option Nat}{v u:Value}{i:Nat}(h:dst≠some i)(hu:a.tmps[i]?=some u):(a.put dst v).tmps[i]?=some u:=by
  cases dst with
  | none=>exact hu
  | some t=>show (a.tmps.setIfInBounds t v)[i]?=some u;rw [xBe (fun e=>h (by rw [e]))];exact hu
theorem yFi {us:List Value}{i n:Nat}{u:Value}(h:us[i]?=some u):(us.toArray++Array.replicate n undef)[i]?=some u:=by
  have hi:i<us.length:=by
    rcases xF7 i us.length with h1 | h1
    · exact h1
    · rw [xCy h1] at h;cases h
  rw [xDo qAp];simpa using h
section
variable {P:Program} {G:World→(Nat→Prop)→Prop} {w0:Base} {I0:Nat→Prop}
theorem zVp {i:Nat} {u:Value} (hcl:∀ w',w0.Below w'→GI G w' I0) (ops:Array Oper) {Q:Exit→Act→World→Prop} {KK:List D→Prop} (hQ:∀ s a w,KK s→Rel w0 I0 s a w→a.tmps[i]?=some u→Q .normal a w):∀ (l:List Oper) (vs:List VO) (s:List D) (a:Act) (w:World),(∀ o∈l,o.dst≠some i)→a.tmps[i]?=some u→zR0 P ops l=some vs→zLz (CT P G) s vs KK→Rel w0 I0 s a w→wpList P ops Q l a w
  | [],vs,s,a,w,hno,hu,hc,hk,h=>by simp only [zR0,xAv] at hc;subst hc;exact hQ s a w hk h hu
  | o :: l, vs,s,a,w,hno,hu,hc,hk,h=>by
    simp only [zR0] at hc;cases hv:cVO P false ops o with
    | none=>simp [hv] at hc
    | some v =>
    cases hvs:zR0 P ops l with
    | none=>simp [hv,hvs] at hc
    | some vs' =>
    simp only [hv,hvs,xAv] at hc;subst hc;simp only [zLz] at hk;obtain ⟨hd,I,Fs,hR⟩:=h;have hGw:GI G w I0:=hcl _ hR.below;simp only [cVO] at hv;cases hg:zFr ops o.guard with
    | none=>simp [hg] at hv
    | some g =>
    cases hop:cOp P false o.op with
    | none=>simp [hg,hop] at hv
    | some vop =>
    simp only [hg,hop,xAv] at hv;subst hv;have run:zAh (CT P G) s vop (fun d s'=>zLz (CT P G) (match o.dst with | some t=>zN2 s' t d | none=>s') vs' KK)→o.wp P a w (wpList P ops Q l) Q:=by intro hk;refine zE2 (zQq (nn:=false) hGw hR (fun h=>by cases h) hop hk) ?_;rintro v w' ⟨d,s',I',Fs',F,hK,hR',hT,hF,_⟩;exact zVp hcl ops hQ l vs' _ _ _ (fun o ho=>hno o (xCc _ ho)) (yA2 (hno o (xD1 ..)) hu) hvs hK (zIn hd hR' hT hF)
    have skip:zLz (CT P G) (match o.dst with | some t=>zN2 s t (.v (.tuple #[])) | none=>s) vs' KK→wpList P ops Q l (a.put o.dst undef) w:=(by intro hk;exact zVp hcl ops hQ l vs' _ _ _ (fun o ho=>hno o (xCc _ ho)) (yA2 (hno o (xD1 ..)) hu) hvs hk (zIn (d:=.v (.tuple #[])) (v:=undef) hd hR qCm Fresh.nil));unfold wpList;simp only [zIk] at hk;cases hgo:o.guard with
    | none=>rw [hgo] at hg;simp only [zFr,xAv] at hg;subst hg;rw [if_pos qBx];exact .inl (run hk)
    | some jw =>
      obtain ⟨j,want⟩:=jw;rw [hgo] at hg;simp only [zFr] at hg;cases hj:(ops[j]?).bind (·.dst) with
      | none=>simp [hj] at hg
      | some t =>
        simp only [hj,xAv] at hg;subst hg;simp only at hk;have hTt:=zXy hR t;have hyv:∀ x:Value,lkT s t=.v x→a.tmps[t]?=some x∨(a.tmps[t]?=none∧x=undef):=by
          intro x e;rw [e] at hTt;have:=(T_v hTt).1;cases ht:a.tmps[t]? with
          | none=>simp [ht] at this;exact .inr ⟨rfl,this.symm⟩
          | some y=>simp [ht] at this;exact .inl (by rw [this])
        split at hk
        · rename_i b e;have hy:yielded ops a.tmps j=some b:=by
            unfold yielded;rw [hj];rcases hyv _ e with h1 | ⟨_,h1⟩
            · simp [h1]
            · cases h1
          by_cases hbw:b=want
          · rw [if_pos qAs];exact .inl (run (hk.1 hbw))
          · rw [if_neg qAs];exact skip (hk.2 hbw)
        · rename_i x hne e;have hy:yielded ops a.tmps j=none:=by
            unfold yielded;rw [hj];rcases hyv _ e with h1 | ⟨h1,_⟩
            · simp only [xDq,h1];split
              · rename_i b hb;cases hb;exact absurd rfl (hne b)
              · rfl
            · simp [h1]
          rw [if_neg qBs];exact skip hk
        · exact hk.elim
theorem zHn {i:Nat} {u:Value} {pt:Nat} (hcl:∀ w',w0.Below w'→GI G w' I0):∀ (c:Code) (ms ms':List (List Bool)) (vc:VCode) (VQ:VExit→List D→Prop) (Q:Exit→Act→World→Prop) (s:List D) (a:Act) (w:World),
    zIq i c=true→a.tmps[i]?=some u→zAj P pt c ms=some (vc,ms')→vc.wp (CT P G) VQ s→Rel w0 I0 s a w→(∀ e s a w,VQ e s→Rel w0 I0 s a w→a.tmps[i]?=some u→Q e.to a w)→c.wp P Q a w
  | .skip,ms,ms',vc,VQ,Q,s,a,w,hno,hu,hc,hk,h,hQ=>by simp only [zAj,xAv,xBd] at hc;obtain ⟨rfl,_⟩:=hc;exact wp_skip (hQ .normal s a w hk h hu)
  | .region id ops draw,ms,ms',vc,VQ,Q,s,a,w,hno,hu,hc,hk,h,hQ=>by
    cases draw with
    | true=>simp [zIq] at hno
    | false =>
      simp only [zAj] at hc;cases hl:zR0 P ops ops.toList with
      | none=>simp [hl] at hc
      | some l=>simp only [hl,xAv,xBd] at hc;obtain ⟨rfl,_⟩:=hc;simp only [VCode.wp] at hk;exact wp_region_list (zVp hcl ops (KK:=VQ .normal) (fun s a w hk h hu=>hQ .normal s a w hk h hu) ops.toList l s a w (fun o ho=>by have:=xBx.1 hno o ho;simpa using this) hu hl hk h)
  | .seq x y,ms,ms',vc,VQ,Q,s,a,w,hno,hu,hc,hk,h,hQ=>by
    simp only [zIq,xA2] at hno;simp only [zAj] at hc;cases hx:zAj P pt x ms with
    | none=>simp [hx] at hc
    | some r =>
      obtain ⟨vx,ms1⟩:=r;simp only [hx] at hc;cases hy:zAj P pt y ms1 with
      | none=>simp [hy] at hc
      | some r =>
        obtain ⟨vy,ms2⟩:=r;simp only [hy,xAv,xBd] at hc;obtain ⟨rfl,_⟩:=hc;simp only [VCode.wp] at hk;refine wp_seq (zHn hcl x ms ms1 vx _ _ s a w hno.1 hu hx hk h ?_);intro e s' a' w' hq hr hu';cases e with
        | normal=>exact zHn hcl y ms1 ms2 vy VQ Q s' a' w' hno.2 hu' hy hq hr hQ
        | exit id=>exact hQ (.exit id) s' a' w' hq hr hu'
        | ret=>exact hQ .ret s' a' w' hq hr hu'
  | .cond c x y,ms,ms',vc,VQ,Q,s,a,w,hno,hu,hc,hk,h,hQ=>by
    simp only [zIq,xA2] at hno;simp only [zAj] at hc;cases hx:zAj P pt x ms with
    | none=>simp [hx] at hc
    | some r =>
      obtain ⟨vx,ms1⟩:=r;simp only [hx] at hc;cases hy:zAj P pt y ms1 with
      | none=>simp [hy] at hc
      | some r =>
        obtain ⟨vy,ms2⟩:=r;simp only [hy,xAv,xBd] at hc;obtain ⟨rfl,_⟩:=hc;simp only [VCode.wp] at hk;obtain ⟨hd,I,Fs,hR⟩:=h;have hT:=zC9 hR c;split at hk
        · rename_i t e;rw [e] at hT;refine wp_cond_split (T_v hT).1 (fun ht=>?_) (fun ht=>?_)
          · exact zHn hcl x ms ms1 vx VQ Q s a w hno.1 hu hx (hk.1 ht) ⟨hd,I,Fs,hR⟩ hQ
          · exact zHn hcl y ms1 ms2 vy VQ Q s a w hno.2 hu hy (hk.2 ht) ⟨hd,I,Fs,hR⟩ hQ
        · exact hk.elim
  | .block id c,ms,ms',vc,VQ,Q,s,a,w,hno,hu,hc,hk,h,hQ=>by
    simp only [zIq] at hno;simp only [zAj] at hc;cases hx:zAj P pt c ms with
    | none=>simp [hx] at hc
    | some r =>
      obtain ⟨vx,ms1⟩:=r;simp only [hx,xAv,xBd] at hc;obtain ⟨rfl,_⟩:=hc;simp only [VCode.wp] at hk;refine wp_block (zHn hcl c ms ms1 vx _ _ s a w hno hu hx hk h ?_);intro e s' a' w' hq hr hu';cases e with
      | normal=>exact hQ .normal s' a' w' hq hr hu'
      | ret=>exact hQ .ret s' a' w' hq hr hu'
      | exit i =>
        simp only [zQn] at hq;by_cases hi:i=id
        · rw [if_pos hi] at hq;simp only [VExit.to,Exit.inBlock,hi,if_true];exact hQ .normal s' a' w' hq hr hu'
        · rw [if_neg hi] at hq;simp only [VExit.to,Exit.inBlock,hi,if_false];exact hQ (.exit i) s' a' w' hq hr hu'
  | .exit id,ms,ms',vc,VQ,Q,s,a,w,hno,hu,hc,hk,h,hQ=>by simp only [zAj,xAv,xBd] at hc;obtain ⟨rfl,_⟩:=hc;exact wp_exit (hQ (.exit id) s a w hk h hu)
  | .ret,ms,ms',vc,VQ,Q,s,a,w,hno,hu,hc,hk,h,hQ=>by simp only [zAj,xAv,xBd] at hc;obtain ⟨rfl,_⟩:=hc;exact wp_ret (hQ .ret s a w hk h hu)
  | .loop _,_,_,_,_,_,_,_,_,hno,_,_,_,_,_=>by simp [zIq] at hno
  | .rangeFunc _ _ _ _,_,_,_,_,_,_,_,_,hno,_,_,_,_,_=>by simp [zIq] at hno
  | .scope _,_,_,_,_,_,_,_,_,hno,_,_,_,_,_=>by simp [zIq] at hno
  | .label _,_,_,_,_,_,_,_,_,hno,_,_,_,_,_=>by simp [zIq] at hno
  | .goto _,_,_,_,_,_,_,_,_,hno,_,_,_,_,_=>by simp [zIq] at hno
  | .refuse _,_,_,_,_,_,_,_,_,hno,_,_,_,_,_=>by simp [zIq] at hno
end
theorem zU5 {i:Nat} {u:Value} {pt:Nat} {P:Program} {G:World→(Nat→Prop)→Prop} {f:FuncId} {fn:Func} {c:Code} {ms ms':List (List Bool)} {vc:VCode} {rvs:List RV} {KK:List D→List D→Prop} {w:World} {I:Nat→Prop} {us:List Value} {X:List Nat} {s0:List D} {Fs0:Nat→List Nat} (hG:∀ w',(ioB w X).Below w'→GI G w' I) (hf:P.funcs[f]?=some fn) (hb:fn.body=some c)
    (hc:zAj P pt c ms=some (vc,ms')) (hr:zRf P fn.results.toList=some rvs) (hrel:RelI (ioB w X) I s0 (us.toArray++Array.replicate (fn.ntmps-us.toArray.size) undef) w I Fs0) (hno:zIq i c=true) (hu:us[i]?=some u) (hk:vc.wp (CT P G) (yJq rvs KK) s0) :
    Calls P f us.toArray w fun e w'=>∃ v ds F s2 Fs2 I' tm,e=.returned v∧KK ds s2∧(ioB w X).Below w'∧T I' w' (one ds) nil v F∧F.Nodup∧(∀ b,b∈F→(ioB w X).N b∧b<w'.heap.size∧¬ I' b)∧RelI (ioB w X) I s2 tm w' I' Fs2∧(∀ b,b∈F→∀ r,b∉Fs2 r)∧tm[i]?=some u:=by
  refine calls_of_wp hf hb ?_;refine zHn (i:=i) (u:=u) hG c ms ms' vc (yJq rvs KK) _ _ _ w hno (yFi hu) hc hk ⟨rfl,I,Fs0,hrel⟩ ?_;intro e s a w' hq hr' hu';obtain ⟨hd,I',Fs,hR⟩:=hr';have key:zXg s rvs KK→a.defers=[]∧∃ v,(results fn a.tmps).run P w'=.ok v w'∧∃ v' ds F s2 Fs2 I' tm,Ending.returned v=.returned v'∧KK ds s2∧(ioB w X).Below w'∧T I' w' (one ds) nil v' F∧F.Nodup∧(∀ b,b∈F→(ioB w X).N b∧b<w'.heap.size∧¬ I' b)∧RelI (ioB w X) I s2 tm w' I' Fs2∧(∀ b,b∈F→∀ r,b∉Fs2 r)∧tm[i]?=some u:=by
    intro hq;obtain ⟨us',ds,F,s2,Fs2,m1,m2,m3,m4,m5,m6,m7,m8,m9,m10⟩:=yK3 fn.results.toList hR hr hq;have hrun:(results fn a.tmps).run P w'=.ok (if us'.length=1 then us'.headD undef else .tuple us'.toArray) w':=by
      rw [zP5,Sem.run_bind,xFd,Sem.run_map,m1];simp only [Result.andThen_ok,Sem.run_pure];by_cases h1:us'.length=1
      · rw [if_pos h1,dif_pos qA1];cases us' with
        | nil=>simp at h1
        | cons u us2=>simp
      · rw [if_neg h1,dif_neg qA1]
    have hT : T I' w' (one ds) nil (if us'.length=1 then us'.headD undef else .tuple us'.toArray) F:=by
      have hl:=m4.len;by_cases h1:us'.length=1
      · rw [if_pos h1];cases ds with
        | nil=>rw [h1] at hl;simp at hl
        | cons d1 ds =>
          cases ds with
          | nil=>simp only [Vals] at m4;obtain ⟨u,us2,F1,F2,e1,e2,ht,e3,e4⟩:=m4;subst e1;subst e2;subst e3;subst e4;simpa [one] using ht
          | cons d2 ds=>rw [h1] at hl;simp at hl
      · rw [if_neg h1];have:one ds=.tup ds:=by
          cases ds with
          | nil=>rfl
          | cons d1 ds=>cases ds with
            | nil=>exact absurd hl h1
            | cons d2 ds=>rfl
        rw [this];simp only [T];exact ⟨us',rfl,m4⟩
    exact ⟨hd,_,hrun,_,ds,F,s2,Fs2,I',a.tmps,rfl,m3,hR.below,hT,m5,m6,m8,m10,hu'⟩
  cases e with
  | normal=>exact key hq
  | ret=>exact key hq
  | exit id=>exact hq.elim
def leS (d:D)(i:Nat)(d':D):List D→List D→Prop:=fun ds s=>(one ds).le d∧s[i]?=some d'
def yZu (rvs:List RV)(d:D)(i:Nat)(d':D):VExit→List D→Prop:=yJq rvs (leS d i d')
def leM (d:D)(i:Nat)(d':D)(j b:Nat)(cells':List D):List D→List D→Prop:=fun ds s=>(one ds).le d∧s[i]?=some d'∧yOg j b cells' s
def yZv (rvs:List RV)(d:D)(i:Nat)(d':D)(j b:Nat)(cells':List D):VExit→List D→Prop:=yJq rvs (leM d i d' j b cells')
theorem yBv {rvs:List RV}{d d':D}{i:Nat}{s:List D}:yZu rvs d i d' .ret s=zXg s rvs (leS d i d'):=rfl
theorem yHy {d d':D}{i:Nat}{ds s:List D}:leS d i d' ds s=((one ds).le d∧s[i]?=some d'):=rfl
theorem yBw {rvs:List RV}{d d':D}{i j b:Nat}{c:List D}{s:List D}:yZv rvs d i d' j b c .ret s=zXg s rvs (leM d i d' j b c):=rfl
theorem yHz {d d':D}{i j b:Nat}{c ds s:List D}:leM d i d' j b c ds s=((one ds).le d∧s[i]?=some d'∧yOg j b c s):=rfl
theorem zYc {pt:Nat} {P:Program} {G:World→(Nat→Prop)→Prop} {f:FuncId} {fn:Func} {c:Code} {ms ms':List (List Bool)} {vc:VCode} {rvs:List RV} {args:List D} {d d0 d':D} {i:Nat} (hcl:yUn G) (hf:P.funcs[f]?=some fn) (hen:∀ (us:Array Value) (W:World),(callFunc f us).run P W=.ok (.enter f us) W) (hb:fn.body=some c)
    (hc:zAj P pt c ms=some (vc,ms')) (hr:zRf P fn.results.toList=some rvs) (hi:i<args.length) (hno:zIq i c=true) (hx':d'.exact=true) (hk:vc.wp (CT P G) (yZu rvs d i d') (args.set i d0++List.replicate (fn.ntmps-args.length) .undef)):ContractL P G f i args d0 d d':=by
  refine ⟨hen,fun w I us u X hG hI hu hV hTb hXn hX=>?_⟩;have hlen:us.length=args.length:=by have:=hV.len;simpa using this
  refine (zU5 (i:=i) (u:=u) (I:=I) (X:=X) (us:=us) (Fs0:=fun r=>if r=i then X else []) (fun w' hb'=>hG.keep hcl fun b hb=>hb'.block b (fun hn=>hn.elim (fun h=>absurd (hI b hb) qAc) (fun h=>(hX b h).2 hb))) hf hb hc hr ?_ hno hu hk).mono ?_
  · exact {
      below:=Base.Below.refl
      len:=by simp [hlen]
      slot:=by
        intro r d' u' h1 h2;by_cases hri:r=i
        · subst hri;rw [xCh qAp,xBq hi] at h1;cases h1;have:us[r]?=some u':=by rw [xDo qAw] at h2;simpa using h2
          rw [hu] at this;cases this;simp only [if_true];exact hTb.res (fun _ _ h=>h.elim)
        · simp only [hri,if_false];rw [zOe hri] at h1;exact zGn hV qA1 h2
      nd:=fun r=>by split;exact hXn;exact xC2
      disj:=fun r r' x h h'=>by
        split at h
        · split at h'
          · omega
          · cases h'
        · cases h
      own:=fun r x h=>by
        split at h
        · exact ⟨.inr h,(hX x h).1,(hX x h).2⟩
        · cases h
      imm:=hI
      imm0:=fun _ h=>h
      immN:=fun _ h=>.inl h }
  · rintro e w' ⟨v,ds,F,s2,Fs2,I',tm,he,⟨hle,hout⟩,hbel,hT,hnd,hF,hR,hFo,htm⟩;obtain ⟨F',k1,k2⟩:=T.leF _ _ hT hle;have hT2:=zWd (ρ':=nil) hx' (hR.slot i d' u hout htm);refine ⟨v,F',Fs2 i,I',he,hbel,k1,hT2,?_,fun x hx=>?_,hR.imm0,fun x hx=>⟨?_,hR.imm x hx⟩⟩
    · refine xA5.2 ⟨k2.nodup hnd,hR.nd i,fun x hx y hy hxy=>?_⟩;subst hxy;exact hFo x (k2.subset hx) i hy
    · rcases xBf.1 hx with hx | hx
      · exact hF x (k2.subset hx)
      · exact hR.own i x hx
    · exact (hR.immN x hx)
theorem zYd {pt:Nat} {P:Program} {G:World→(Nat→Prop)→Prop} {f:FuncId} {fn:Func} {c:Code} {ms ms':List (List Bool)} {vc:VCode} {rvs:List RV} {args:List D} {d d1 d1':D} {cells cells':List D} {i j:Nat} (hcl:yUn G) (hf:P.funcs[f]?=some fn) (hen:∀ (us:Array Value) (W:World),(callFunc f us).run P W=.ok (.enter f us) W) (hb:fn.body=some c)
    (hc:zAj P pt c ms=some (vc,ms')) (hr:zRf P fn.results.toList=some rvs) (hi:i<args.length) (hj:j<args.length) (hij:i≠j) (hno:zIq i c=true) (hx':d1'.exact=true) (hk:∀ b,vc.wp (CT P G) (yZv rvs d i d1' j b cells') ((args.set i d1).set j (.box (some b) cells)++List.replicate (fn.ntmps-args.length) .undef)):zG2 P G f i j args [d1,.box none cells] d [d1',.box none cells']:=by
  refine ⟨hen,fun w I us u1 u2 X hG hI hu1 hu2 hV hTb hXn hX=>?_⟩;have hlen:us.length=args.length:=by have:=hV.len;simpa using this
  simp only [Vals] at hTb;obtain ⟨v1,us1,F1,F2,e1,hXe,hT1,v2,us2,G1,G2,e2,hGe,hT2,e3,hG2⟩:=hTb;simp only [xCo] at e1;obtain ⟨rfl,rfl⟩:=e1;simp only [xCo] at e2;obtain ⟨rfl,rfl⟩:=e2;subst hG2;rw [xBw] at hGe;subst hGe;simp only [T] at hT2;obtain ⟨b,cs,et,F',rfl,_,hh,hFb,hcs⟩:=hT2;have hTb:T I w (.box (some b) cells) nil (.pointer (some ⟨b,0,none⟩)) F2:=by simp only [T];exact ⟨b,cs,et,F',rfl,(fun k hk=>by cases hk;rfl),hh,hFb,hcs⟩
  subst hXe;have hnd:=xA5.1 hXn;refine (zU5 (i:=i) (u:=u1) (I:=I) (X:=F1++F2) (us:=us) (Fs0:=fun r=>if r=i then F1 else if r=j then F2 else []) (fun w' hb'=>hG.keep hcl fun b hb=>hb'.block b (fun hn=>hn.elim (fun h=>absurd (hI b hb) qAc) (fun h=>(hX b h).2 hb))) hf hb hc hr ?_ hno hu1 (hk b)).mono ?_
  · exact {
      below:=Base.Below.refl
      len:=by simp [hlen]
      slot:=by
        intro r d' u' h1 h2;by_cases hri:r=i
        · subst hri;rw [xCh qAp,xA9 (Ne.symm hij),xBq hi] at h1;cases h1;have:us[r]?=some u':=by rw [xDo qAw] at h2;simpa using h2
          rw [hu1] at this;cases this;simp only [if_true];exact hT1.res (fun _ _ h=>h.elim)
        · by_cases hrj:r=j
          · subst hrj;rw [xCh qBk,xBq qBk] at h1;cases h1;have:us[r]?=some u':=by rw [xDo qAw] at h2;simpa using h2
            rw [hu2] at this;cases this;simp only [hri,if_false,if_true];exact hTb.res (fun _ _ h=>h.elim)
          · simp only [hri,hrj,if_false];refine zGn hV (n:=fn.ntmps) ?_ h2;by_cases hr:r<args.length
            · rw [xCh qBj,xA9 (Ne.symm hrj),xA9 (Ne.symm hri)] at h1;rw [xCh hr];exact h1
            · rw [xCz qBj] at h1;rw [xCz qBj];simpa using h1
      nd:=fun r=>by
        show List.Nodup (if r=i then F1 else if r=j then F2 else []);split
        · exact hnd.1
        · split
          · exact hnd.2.1
          · exact xC2
      disj := fun r r' x h h'=>by
        split at h
        · split at h'
          · omega
          · split at h'
            · exact absurd rfl (hnd.2.2 x h x h')
            · cases h'
        · split at h
          · split at h'
            · exact absurd rfl (hnd.2.2 x h' x h)
            · split at h'
              · omega
              · cases h'
          · cases h
      own := fun r x h=>by
        split at h
        · exact ⟨.inr (xCt _ h),(hX x (xCt _ h)).1,(hX x (xCt _ h)).2⟩
        · split at h
          · exact ⟨.inr (xC3 _ h),(hX x (xC3 _ h)).1,(hX x (xC3 _ h)).2⟩
          · cases h
      imm:=hI
      imm0:=fun _ h=>h
      immN:=fun _ h=>.inl h }
  · rintro e w' ⟨v,ds,F,s2,Fs2,I',tm,he,⟨hle,hout,houtx⟩,hbel,hT,hndF,hF,hR,hFo,htm⟩;obtain ⟨F',k1,k2⟩:=T.leF _ _ hT hle;have hT2:=zWd (ρ':=nil) hx' (hR.slot i d1' u1 hout htm);unfold yOg at houtx;split at houtx
    · rename_i b' cs3 hs;obtain ⟨rfl,hlc⟩:=houtx;obtain ⟨u3,hu3,hT3⟩:=hR.slot0 hs;simp only [T] at hT3;obtain ⟨b2,cs2,et2,F4,hub,htg,hh2,hFr,hcs2⟩:=hT3;have hb2:=htg b' rfl;subst hb2;obtain ⟨F3,hc3,hs3⟩:=Cells.leF _ _ (Cells.turn (ρ':=nil) (fun x v hq _=>by cases hq) cs3 hcs2) hlc;have hsub:∀ x,x∈b2::F3→x∈Fs2 j:=fun x hx=>by
        rw [hFr];rcases xBs.1 hx with rfl | hx
        · simp
        · exact xCc _ (hs3.subset hx)
      have hnr:=hR.nd j;rw [hFr] at hnr;refine ⟨v,F',Fs2 i++(b2::F3),I',he,hbel,k1,?_,?_,fun x hx=>?_,hR.imm0,fun x hx=>⟨?_,hR.imm x hx⟩⟩
      · simp only [Vals];refine ⟨u1,[_],Fs2 i,b2::F3,rfl,rfl,hT2,_,[],b2::F3,[],rfl,by simp,?_,rfl,rfl⟩;simp only [T];exact ⟨b2,cs2,et2,F3,rfl,(fun k hk=>by cases hk),hh2,rfl,hc3⟩
      · refine xA5.2 ⟨k2.nodup hndF,xA5.2 ⟨hR.nd i,xB8.2 ⟨fun hb=>(xB8.1 hnr).1 (hs3.subset hb),hs3.nodup (xB8.1 hnr).2⟩,fun x hx y hy hxy=>?_⟩,fun x hx y hy hxy=>?_⟩
        · subst hxy;exact hij (hR.disj i j x hx (hsub x hy))
        · subst hxy;rcases xBf.1 hy with hy | hy
          · exact hFo x (k2.subset hx) i hy
          · exact hFo x (k2.subset hx) j (hsub x hy)
      · rcases xBf.1 hx with hx | hx
        · exact hF x (k2.subset hx)
        · rcases xBf.1 hx with hx | hx
          · exact hR.own i x hx
          · exact hR.own j x (hsub x hx)
      · exact (hR.immN x hx)
    · exact houtx.elim
end Go.V
