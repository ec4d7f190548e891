/- Laws that the proof stands on. -/
import Derived.Test.YtaleehohmpohoaaZVa
set_option linter.all false
namespace Go.V
open Go.RowKit
section
variable {P:Program} {w0:Base} {I0:Nat→Prop} {s:List D} {a:Act} {w:World} {I:Nat→Prop} {Fs:Nat→List Nat} {K:D→List D→Prop} {Ctr:CtrT} {nn:Bool}
theorem ρS_set_ne {tm:Array Value}{t:Nat}{d:D}{x:D}{v:Value}(h:ρS s tm w x v)(hr:∀ r,(∃ q,x=.ref r q)∨(∃ q i j,x=.ptr r q i j)∨(∃ q i n,x=.sub r q i n)→r≠t):ρS (s.set t d) tm w x v:=by
  cases x with
  | ref r q=>obtain ⟨d',u0,t1,h1,h2,h3,ho,h4⟩:=h;exact ⟨d',u0,t1,by rw [xA9 (Ne.symm (hr r (.inl ⟨q,rfl⟩)))];exact h1,h2,h3,ho,h4⟩
  | ptr r q i j=>obtain ⟨d',u0,t',sz,rows,u1,b,o,h1,h2,h3,h4,h5,h6⟩:=h;exact ⟨d',u0,t',sz,rows,u1,b,o,by rw [xA9 (Ne.symm (hr r (.inr (.inl ⟨q,i,j,rfl⟩))))];exact h1,h2,h3,h4,h5,h6⟩
  | sub r q i n=>obtain ⟨d',u0,t',sz,rows,u1,b,o,cc,h1,h2,h3,h4,h5,h6⟩:=h;exact ⟨d',u0,t',sz,rows,u1,b,o,cc,by rw [xA9 (Ne.symm (hr r (.inr (.inr ⟨q,i,n,rfl⟩))))];exact h1,h2,h3,h4,h5,h6⟩
  | _=>exact h.elim
theorem tk_ρ {y:Operand} {x:D} {v:Value} {tm:Array Value} (h:ρS s tm w x v) (hq:zIh (tk s y).2 x=true):ρS (tk s y).2 tm w x v:=by
  cases y with
  | tmp t =>
    simp only [tk,tkT] at hq ⊢;cases hs:s[t]? with
    | none=>simpa [hs] using h
    | some d =>
      simp only [hs] at hq ⊢;have hlt:=(xA4.1 hs).1;have setU:∀ s':List D,s'.length=s.length→ρS s' tm w x v→zIh (s'.set t .undef) x=true→ρS (s'.set t .undef) tm w x v:=by
        intro s' hl h' hq';refine ρS_set_ne h' (fun r hr e=>?_);subst e;have hg:(s'.set r .undef)[r]?=some .undef:=by simp [hl,hlt]
        rcases hr with ⟨q,rfl⟩ | ⟨q,i,j,rfl⟩ | ⟨q,i,n,rfl⟩<;>simp [zIh,hg,D.cont] at hq'
      have gen:(if d.owny then s.set t .undef else s)=(if d.owny then s.set t .undef else s)→zIh (if d.owny then s.set t .undef else s) x=true→ρS (if d.owny then s.set t .undef else s) tm w x v:=by
        intro _ hq';by_cases ho:d.owny=true
        · rw [if_pos ho] at hq' ⊢;exact setU s rfl h hq'
        · rw [if_neg ho];exact h
      cases d with
      | sl own sz rows =>
        cases own with
        | true=>exact setU _ (zAx _ _) (h.prune _) hq
        | false=>exact gen rfl hq
      | mp k e=>exact setU _ (zAx _ _) (h.prune _) hq
      | box tag cells=>exact h
      | _=>exact gen rfl hq
  | _=>exact h
theorem tkL_ρ : ∀ {xs : List Operand} {s:List D} {x:D} {v:Value} {tm:Array Value},ρS s tm w x v→zIh (tkL s xs).2 x=true→ρS (tkL s xs).2 tm w x v
  | [],s,x,v,tm,h,_=>h
  | y :: xs,s, x,v, tm,h,hq=>by
    simp only [tkL] at hq ⊢
    -- alive at the end: alive in between
    have hmid : zIh (tk s y).2 x=true:=by
      by_cases hm:zIh (tk s y).2 x=true
      · exact hm
      · exfalso;have key:∀ (xs:List Operand) (s:List D),zIh s x≠true→zIh (tkL s xs).2 x≠true:=by
          intro xs;induction xs with
          | nil=>intro s h;exact h
          | cons z xs ih =>
            intro s h;simp only [tkL];refine ih _ ?_
            -- a take makes no container
            intro hq; apply h;have step:∀ r:Nat,(match (tk s z).2[r]? with | some d=>d.cont.isSome | none=>false)=true→(match s[r]? with | some d=>d.cont.isSome | none=>false)=true:=by
              intro r hr;cases z with
              | tmp t =>
                simp only [tk,tkT] at hr;cases hs:s[t]? with
                | none=>simpa [hs] using hr
                | some d =>
                  simp only [hs] at hr;have hset:∀ s':List D,(∀ k:Nat,((s'[k]?).map fun d:D=>d.cont.isSome)=((s[k]?).map fun d:D=>d.cont.isSome))→(match (s'.set t .undef)[r]? with | some d=>d.cont.isSome | none=>false)=true→(match s[r]? with | some d=>d.cont.isSome | none=>false)=true:=by
                    intro s' hs' hr;by_cases hrt:t=r
                    · subst hrt;cases hk:(s'.set t .undef)[t]? with
                      | none=>simp [hk] at hr
                      | some d1=>have:d1=.undef:=(by have:=xDi hk;rw [List.getElem?_set_self'] at hk;cases hq0:s'[t]? <;> simp [hq0] at hk;exact hk.symm);simp [hk,this,D.cont] at hr
                    · rw [xA9 hrt] at hr;have:=hs' r;cases h1:s'[r]? <;> cases h2:s[r]? <;> simp_all
                  have gen:(match (if d.owny then s.set t .undef else s)[r]? with | some d=>d.cont.isSome | none=>false)=true→(match s[r]? with | some d=>d.cont.isSome | none=>false)=true:=by
                    intro hr;by_cases ho:d.owny=true
                    · rw [if_pos ho] at hr;exact hset s (fun _=>rfl) hr
                    · rw [if_neg ho] at hr;exact hr
                  cases d with
                  | sl own sz rows =>
                    cases own with
                    | true =>
                      refine hset _ (fun k=>?_) hr;rw [zA3];cases hk:s[k]? with
                      | none=>rfl
                      | some e =>
                        simp only [xAx,xAv];cases e with
                        | sl own sz rows=>simp [D.prune]
                        | box tag cells=>simp [D.prune,D.cont]
                        | ref r p=>simp only [D.prune];split<;>rfl
                        | ptr r p i j=>simp only [D.prune];split<;>rfl
                        | sub r p i n=>simp only [D.prune];split<;>rfl
                        | _=>simp [D.prune,D.cont]
                    | false=>exact gen hr
                  | mp k e =>
                    refine hset _ (fun k=>?_) hr;rw [zA3];cases hk:s[k]? with
                    | none=>rfl
                    | some e =>
                      simp only [xAx,xAv];cases e with
                      | sl own sz rows=>simp [D.prune]
                      | box tag cells=>simp [D.prune,D.cont]
                      | ref r p=>simp only [D.prune];split<;>rfl
                      | ptr r p i j=>simp only [D.prune];split<;>rfl
                      | sub r p i n=>simp only [D.prune];split<;>rfl
                      | _=>simp [D.prune,D.cont]
                  | box tag cells=>exact hr
                  | _=>exact gen hr
              | _=>exact hr
            cases x with
            | ref r q=>exact step r hq
            | ptr r q i j=>exact step r hq
            | sub r q i n=>exact step r hq
            | _=>exact hq
        exact key xs _ hm hq
    exact tkL_ρ (tk_ρ h hmid) hq
theorem yJ1 {s:List D} {r:Nat} (hu:s[r]?=some .undef) (x:Operand):(tk s x).2[r]?=some .undef:=by
  cases x with
  | tmp t =>
    simp only [tk,tkT];have hset:∀ s':List D,s'[r]?=some .undef→(s'.set t .undef)[r]?=some .undef:=fun s' h=>by
      by_cases hr:r=t
      · subst hr;simp [(xA4.1 h).1]
      · rw [xA9 (Ne.symm hr)];exact h
    have hpr:(zAc (zAd t) s)[r]?=some .undef:=(by rw [zA3,hu];simp [D.prune]);cases hs:s[t]? with
    | none=>exact hu
    | some d =>
      have gen:(if d.owny=true then s.set t .undef else s)[r]?=some .undef:=(by split;exact hset s hu;exact hu);cases d with
      | sl own sz rows=>cases own with
        | true=>exact hset _ hpr
        | false=>exact gen
      | mp k e=>exact hset _ hpr
      | box tag cells=>exact hu
      | _=>exact gen
  | _=>exact hu
theorem yE7:∀ (xs:List Operand) {s:List D} {Fs:Nat→List Nat},RelI w0 I0 s a.tmps w I Fs→∃ Fs' G,RelI w0 I0 (tkL s xs).2 a.tmps w I Fs'∧Vals I w (tkL s xs).1 (ρS (tkL s xs).2 a.tmps w) (xs.map a.eval) G∧Fresh w0 w I Fs' G∧(∀ r b,b∈Fs' r→b∈Fs r)∧(∀ b,b∈G→∃ r,b∈Fs r)∧∀ r,(s[r]?=some .undef→(tkL s xs).2[r]?=some .undef)∧((tkL s xs).2[r]?=some .undef∨Fs' r=Fs r)
  | [],s,Fs,h=>⟨Fs,[],h,by simp [tkL,Vals],Fresh.nil,fun _ _ h=>h,(fun _ h=>by cases h),fun _=>⟨id,.inr rfl⟩⟩
  | x :: xs,s,Fs,h=>by
    obtain ⟨Fs1,F,h1,hT,hF,hsub⟩:=yJl h x;obtain ⟨hsub,hin,hst⟩:=hsub;obtain ⟨Fs2,G,h2,hV,hG,hsub2,hin2,hst2⟩:=yE7 xs h1;refine ⟨Fs2,F++G,h2,?_,⟨xA5.2 ⟨hF.1,hG.1,fun x hx y hy hxy=>?_⟩,fun b hb=>?_⟩,fun r b hb=>hsub r b (hsub2 r b hb),fun b hb=>?_,fun r=>⟨fun hu=>(hst2 r).1 (yJ1 hu x),(hst2 r).2.elim .inl (fun e=>(hst r).elim (fun hu=>.inl ((hst2 r).1 hu)) (fun e1=>.inr (e.trans e1)))⟩⟩
    · simp only [tkL,xA6,Vals];exact ⟨a.eval x,xs.map a.eval,F,G,rfl,rfl,T.turn (q:=zIh (tkL (tk s x).2 xs).2) (fun y v hq hy=>tkL_ρ hy hq) _ hT,hV⟩
    · subst hxy;obtain ⟨r,hr⟩:=hin2 x hy;exact (hF.2 x hx).2.2.2 r hr
    · rcases xBf.1 hb with hb | hb
      · exact ⟨(hF.2 b hb).1,(hF.2 b hb).2.1,(hF.2 b hb).2.2.1,fun r hr=>(hF.2 b hb).2.2.2 r (hsub2 r b hr)⟩
      · exact hG.2 b hb
    · rcases xBf.1 hb with hb | hb
      · exact hin b hb
      · obtain ⟨r,hr⟩:=hin2 b hb;exact ⟨r,hsub r b hr⟩
end
end Go.V
namespace Go.V
open Go.RowKit
section
variable {P:Program} {w0:Base} {I0:Nat→Prop} {s:List D} {a:Act} {w:World} {I:Nat→Prop} {Fs:Nat→List Nat} {K:D→List D→Prop} {Ctr:CtrT} {nn:Bool}
theorem yHx {d:D}(hd:d.leaf=true){ρ ρ':D→Value→Prop}{u:Value}{F:List Nat}(h:T I w d ρ u F):T I w d ρ' u F:=by cases d<;>first | (simp [D.leaf] at hd;done) | simpa only [T] using h
def zY0 (x:D):Prop:=(∃ r q,x=.ref r q)∨∃ r q i n,x=.sub r q i n
theorem zGs:∀ (ds:List D) {s:List D} {KK:List D→List D→Prop},zFx s ds KK→∀ x,x∈ds→zY0 x∨x.leaf=true
  | [],_,_,_,x,hx=>by cases hx
  | d :: ds,s,KK,hk,x,hx=>by
    by_cases hd:∃ r q,d=.ref r q
    · obtain ⟨r,q,rfl⟩:=hd;rcases xBs.1 hx with rfl | hx
      · exact .inl (.inl ⟨r,q,rfl⟩)
      · simp only [zFx,zE5] at hk;split at hk
        · split at hk
          · exact zGs ds hk x hx
          · exact zGs ds hk x hx
          · exact hk.elim
        · exact hk.elim
    · by_cases hs:∃ r q i n,d=.sub r q i n
      · obtain ⟨r,q,i,n,rfl⟩:=hs;simp only [zFx,zE5] at hk;rcases xBs.1 hx with rfl | hx
        · exact .inl (.inr ⟨r,q,i,n,rfl⟩)
        rcases hk with ⟨hn,hk⟩ | ⟨hn,_,sz,hk⟩
        · split at hk
          · split at hk
            · exact zGs ds hk.2 x hx
            · exact hk.elim
            · exact hk.elim
          · exact hk.elim
        · exact zGs ds hk x hx
      · have hk':d.leaf=true∧zFx s ds (fun ds' s''=>KK (d::ds') s''):=by cases d<;>first | exact absurd ⟨_,_,rfl⟩ hd | exact absurd ⟨_,_,_,_,rfl⟩ hs | simpa only [zFx] using hk
        rcases xBs.1 hx with rfl | hx
        · exact .inr hk'.1
        · exact zGs ds hk'.2 x hx
theorem Cells.leafs {ρ ρ':D→Value→Prop}:∀ (ds:List D) {us:List Value} {F:List Nat},Cells I w ds ρ us F→(∀ x,x∈ds→zY0 x∨x.leaf=true)→(∀ x,x∈ds→zY0 x→∀ v,ρ x v→ρ' x v)→Cells I w ds ρ' us F
  | [],us,F,h,_,_=>by simpa only [Cells] using h
  | d::ds,us,F,h,hl,hρ=>by
    simp only [Cells] at h ⊢;obtain ⟨u,us',F1,F2,e,hF,ho,ht,h2⟩:=h;refine ⟨u,us',F1,F2,e,hF,ho,?_,Cells.leafs ds h2 (fun x hx=>hl x qAi) (fun x hx=>hρ x qAi)⟩;rcases hl d qAh with (⟨r,q,rfl⟩ | ⟨r,q,i,n,rfl⟩) | hd
    · simp only [T] at ht ⊢;exact ⟨hρ _ qAh (.inl ⟨r,q,rfl⟩) u ht.1,ht.2⟩
    · simp only [T] at ht ⊢;exact ⟨ht.1.imp_left (hρ _ qAh (.inr ⟨r,q,i,n,rfl⟩) u),ht.2⟩
    · exact yHx hd ht
theorem zOi:∀ (ds:List D) {s:List D} {Fs:Nat→List Nat} {us:List Value} {F:List Nat} {KK:List D→List D→Prop},RelI w0 I0 s a.tmps w I Fs→Cells I w ds (ρS s a.tmps w) us F→Fresh w0 w I Fs F→zCt ds=true→zFx s ds KK →
    ∃ ds' s' Fs' F',KK ds' s'∧RelI w0 I0 s' a.tmps w I Fs'∧Cells I w ds' nil us F'∧Fresh w0 w I Fs' F'∧(∀ r b,b∈Fs' r→b∈Fs r)∧(∀ b,b∈F'→b∈F∨∃ r,b∈Fs r)∧∀ x v,ds.all (zOl x)=true→ρS s a.tmps w x v→ρS s' a.tmps w x v
  | [],s,Fs,us,F,KK,h,hc,hF,_,hk=>⟨[],s,Fs,F,hk,h,by simpa only [Cells] using hc,hF,fun _ _ h=>h,fun b hb=>.inl hb,fun _ _ _ h=>h⟩
  | d :: ds,s, Fs,us,F,KK,h,hc,hF,hro,hk=>by
    simp only [Cells] at hc;obtain ⟨u,us',F1,F2,e,hFe,hone,hT,hcs⟩:=hc;subst hFe;have hF1:Fresh w0 w I Fs F1:=⟨(xA5.1 hF.1).1,fun b hb=>hF.2 b qBg⟩
    have hF2:Fresh w0 w I Fs F2:=⟨(xA5.1 hF.1).2.1,fun b hb=>hF.2 b qBg⟩
    have hd12:=(xA5.1 hF.1).2.2;by_cases hs:∃ r q i n,d=.sub r q i n
    · obtain ⟨r,q,i,n,rfl⟩:=hs;simp only [zFx] at hk;simp only [T] at hT;obtain ⟨hT,rfl⟩:=hT;rcases hk with ⟨hn0,hk⟩ | ⟨rfl,hi0,sz,hk⟩
      rotate_left
      · simp only [zCt,xA2,xBx] at hro;obtain ⟨ds',s2,Fs2,F',hk2,h2,hc2,hF',hsub2,hin2,hρ2⟩:=zOi ds h hcs hF2 hro.2 hk;have hsl:∃ a' c',u=.slice a' 0 c'∧c'≤maxLen:=by
          rcases hT with hT | ⟨_,h⟩
          · obtain ⟨d0,u0,t0,sz0,rows0,u1,b0,o0,cc,n1,n2,n3,n4,n5,n6,n7,n8,n9,n10⟩:=hT;exact ⟨_,_,n9,n8⟩
          · obtain ⟨a',c',k1,k2,_⟩:=h;exact ⟨a',c',k1,k2⟩
        obtain ⟨a',c',hu,hc'⟩:=hsl;refine ⟨.sl false sz []::ds',s2,Fs2,F',hk2,h2,?_,hF',hsub2,fun b hb=>?_,fun x v hq hx=>by
          simp only [xBm,xA2] at hq;exact hρ2 x v hq.2 hx⟩
        · simp only [Cells];exact ⟨u,us',[],F',e,rfl,hone,by simp only [T];exact ⟨a',c',hu,xCs _,hc',by simp⟩,hc2⟩
        · rcases hin2 b hb with h | h
          · exact .inl qBp
          · exact .inr h
      simp only [zCt,xA2,xBx] at hro;obtain ⟨d0,u0,sz0,rows1,u1,n1,n2,n3,n5⟩:∃ d0 u0 sz0 rows1 u1,s[r]?=some d0∧a.tmps[r]?=some u0∧zAf d0 q=some (.sl true sz0 rows1)∧zA8 w u0 d0 q=some u1:=by
        simp only [zE5] at hk;cases hsr:s[r]? with
        | none=>rw [hsr] at hk;exact hk.elim
        | some d0 =>
          rw [hsr] at hk;simp only at hk;cases htr:zAf d0 q with
          | none=>rw [htr] at hk;exact hk.elim
          | some t =>
            rw [htr] at hk;have ht:∃ sz0 rows1,t=.sl true sz0 rows1:=by
              cases t with
              | sl own sz rows=>cases own with
                | true=>exact ⟨_,_,rfl⟩
                | false=>exact hk.elim
              | mp k e=>exact hk.elim
              | _=>exact hk.elim
            obtain ⟨sz0,rows1,rfl⟩:=ht;have hlt:r<s.length:=(xA4.1 hsr).1;have hlt2:r<a.tmps.size:=(by rw [h.len];exact hlt);have hu:a.tmps[r]?=some (a.tmps[r]'hlt2):=xBu hlt2;obtain ⟨u1,_,_,k1,_⟩:=zVc q d0 (h.slot r d0 _ hsr hu) htr;exact ⟨d0,_,sz0,rows1,u1,rfl,hu,htr,k1⟩
      have hown:(D.sl true sz0 rows1).ownv=true:=rfl;obtain ⟨t,s1,Fs1,G,hto,hk1,h1,hT1,hG,hsub1,hin1,hρ1⟩:=zVm (u:=u1) h ⟨d0,u0,_,n1,n2,n3,hown,n5⟩ (KK:=fun d' s'=>d'=.sl true sz0 rows1∧(i+n≤rows1.length∧zFx s' ds (fun ds' s''=>KK (.sl true sz0 ((rows1.drop i).take n)::ds') s''))) (by
        simp only [zE5,n1,n3] at hk ⊢;exact ⟨trivial,hk⟩)
      obtain ⟨rfl,hk1⟩:=hk1;obtain ⟨hnl,hk1⟩:=hk1;have hT3':∃ F',T I w (.sl true sz0 ((rows1.drop i).take n)) nil u F'∧F'.Sublist G:=by
        rcases hT with ⟨d0',u0',t0',sz0',rows0',u1',b0,o0,cc,m1,m2,m3,n4,m5,n6,n7,n8,n9,n10⟩ | ⟨rfl,a',c',hu,hc',hi'⟩
        · rw [n1] at m1;cases m1;rw [n2] at m2;cases m2;rw [n3] at m3;cases m3;rw [n5] at m5;cases m5;simp only [D.cont,xAv,xBd] at n4;obtain ⟨rfl,_⟩:=n4;exact yA4 (u:=u) hT1 n6 hnl n7 n8 n9 n10
        · obtain ⟨rfl,rfl⟩:=hi' (hn0.resolve_left qAc);exact ⟨[],by rw [hu,xCl];simp only [T];exact ⟨none,0,rfl,xBj _,xCs _,.inr ⟨trivial,.inl ⟨rfl,rfl,trivial⟩⟩⟩,xEu _⟩
      obtain ⟨G3,hT3,hs3⟩:=hT3';have hG3:Fresh w0 w I Fs1 G3:=⟨hs3.nodup hG.1,fun b hb=>hG.2 b (hs3.subset hb)⟩
      have hin3:∀ b,b∈G3→∃ r,b∈Fs r:=fun b hb=>hin1 b (hs3.subset hb);have hcs1:Cells I w ds (ρS s1 a.tmps w) us' F2:=Cells.leafs ds hcs (zGs ds hk1) (fun x hx _ v hv=>hρ1 x v (hro.1 x hx) hv);obtain ⟨ds',s2,Fs2,F',hk2,h2,hc2,hF',hsub2,hin2,hρ2⟩:=zOi ds h1 hcs1 (hF2.sub hsub1) hro.2 hk1;refine ⟨.sl true sz0 ((rows1.drop i).take n)::ds',s2,Fs2,G3++F',hk2,h2,?_,⟨xA5.2 ⟨hG3.1,hF'.1,fun x hx y hy hxy=>?_⟩,fun b hb=>?_⟩,fun r' b hb=>hsub1 r' b (hsub2 r' b hb),fun b hb=>?_,fun x v hq hx=>by
        simp only [xBm,xA2] at hq;exact hρ2 x v hq.2 (hρ1 x v hq.1 hx)⟩
      · simp only [Cells];exact ⟨u,us',G3,F',e,rfl,hone,hT3,hc2⟩
      · subst hxy;rcases hin2 x hy with hy | ⟨r',hr⟩
        · obtain ⟨r',hr⟩:=hin3 x hx;exact (hF2.2 x hy).2.2.2 r' hr
        · exact (hG3.2 x hx).2.2.2 r' hr
      · rcases xBf.1 hb with hb | hb
        · exact ⟨(hG3.2 b hb).1,(hG3.2 b hb).2.1,(hG3.2 b hb).2.2.1,fun r' hr=>(hG3.2 b hb).2.2.2 r' (hsub2 r' b hr)⟩
        · exact hF'.2 b hb
      · rcases xBf.1 hb with hb | hb
        · exact .inr (hin3 b hb)
        · rcases hin2 b hb with hb | ⟨r',hr⟩
          · exact .inl qBg
          · exact .inr ⟨r',hsub1 r' b hr⟩
    by_cases hd:∃ r q,d=.ref r q
    · obtain ⟨r,q,rfl⟩:=hd;simp only [T] at hT;obtain ⟨hρ,rfl⟩:=hT;simp only [zFx] at hk;simp only [zCt,xA2,xBx] at hro;obtain ⟨t,s1,Fs1,G,hto,hk1,h1,hT1,hG,hsub1,hin1,hρ1⟩:=zVm h hρ hk;have hcs1:Cells I w ds (ρS s1 a.tmps w) us' F2:=Cells.leafs ds hcs (zGs ds hk1) (fun x hx _ v hv=>hρ1 x v (hro.1 x hx) hv);obtain ⟨ds',s2,Fs2,F',hk2,h2,hc2,hF',hsub2,hin2,hρ2⟩:=zOi ds h1 hcs1 (hF2.sub hsub1) hro.2 hk1;refine ⟨t::ds',s2,Fs2,G++F',hk2,h2,?_,⟨xA5.2 ⟨hG.1,hF'.1,fun x hx y hy hxy=>?_⟩,fun b hb=>?_⟩,fun r' b hb=>hsub1 r' b (hsub2 r' b hb),fun b hb=>?_,fun x v hq hx=>by
        simp only [xBm,xA2] at hq;exact hρ2 x v hq.2 (hρ1 x v hq.1 hx)⟩
      · simp only [Cells];exact ⟨u,us',G,F',e,rfl,hone,hT1,hc2⟩
      · subst hxy;rcases hin2 x hy with hy | ⟨r',hr⟩
        · obtain ⟨r',hr⟩:=hin1 x hx;exact (hF2.2 x hy).2.2.2 r' hr
        · exact (hG.2 x hx).2.2.2 r' hr
      · rcases xBf.1 hb with hb | hb
        · exact ⟨(hG.2 b hb).1,(hG.2 b hb).2.1,(hG.2 b hb).2.2.1,fun r' hr=>(hG.2 b hb).2.2.2 r' (hsub2 r' b hr)⟩
        · exact hF'.2 b hb
      · rcases xBf.1 hb with hb | hb
        · exact .inr (hin1 b hb)
        · rcases hin2 b hb with hb | ⟨r',hr⟩
          · exact .inl qBg
          · exact .inr ⟨r',hsub1 r' b hr⟩
    · have hk':d.leaf=true∧zFx s ds (fun ds' s''=>KK (d::ds') s''):=by cases d<;>first | exact absurd ⟨_,_,rfl⟩ hd | exact absurd ⟨_,_,_,_,rfl⟩ hs | simpa only [zFx] using hk
      have hro':zCt ds=true:=by cases d<;>first | exact absurd ⟨_,_,rfl⟩ hd | exact absurd ⟨_,_,_,_,rfl⟩ hs | simpa only [zCt] using hro
      obtain ⟨ds',s2,Fs2,F',hk2,h2,hc2,hF',hsub2,hin2,hρ2⟩:=zOi ds h hcs hF2 hro' hk'.2;refine ⟨d::ds',s2,Fs2,F1++F',hk2,h2,?_,⟨xA5.2 ⟨hF1.1,hF'.1,fun x hx y hy hxy=>?_⟩,fun b hb=>?_⟩,hsub2,fun b hb=>?_,fun x v hq hx=>by
        simp only [xBm,xA2] at hq;exact hρ2 x v hq.2 hx⟩
      · simp only [Cells];exact ⟨u,us',F1,F',e,rfl,hone,yHx hk'.1 hT,hc2⟩
      · subst hxy;rcases hin2 x hy with hy | ⟨r',hr⟩
        · exact hd12 x hx x hy rfl
        · exact (hF1.2 x hx).2.2.2 r' hr
      · rcases xBf.1 hb with hb | hb
        · exact ⟨(hF1.2 b hb).1,(hF1.2 b hb).2.1,(hF1.2 b hb).2.2.1,fun r' hr=>(hF1.2 b hb).2.2.2 r' (hsub2 r' b hr)⟩
        · exact hF'.2 b hb
      · rcases xBf.1 hb with hb | hb
        · exact .inl qBg
        · rcases hin2 b hb with hb | hr
          · exact .inl qBg
          · exact .inr hr
end
end Go.V
namespace Go.V
open Go.RowKit
section
variable {P:Program} {w0:Base} {I0:Nat→Prop} {s:List D} {a:Act} {w:World} {I:Nat→Prop} {Fs:Nat→List Nat} {K:D→List D→Prop} {Ctr:CtrT} {nn:Bool}
theorem Cells.append {ρ:D→Value→Prop}:∀ {ds:List D} {us:List Value} {F:List Nat} {ds':List D} {us':List Value} {F':List Nat},Cells I w ds ρ us F→Cells I w ds' ρ us' F'→Cells I w (ds++ds') ρ (us++us') (F++F')
  | [],us,F,ds',us',F',h,h'=>by simp only [Cells] at h;simpa [h.1,h.2] using h'
  | d::ds,us,F,ds',us',F',h,h'=>by simp only [Cells] at h;obtain ⟨u,us1,F1,F2,e,hF,ho,ht,h2⟩:=h;simp only [xBi,Cells];exact ⟨u,us1++us',F1,F2++F',by simp [e],by simp [hF],ho,ht,Cells.append h2 h'⟩
theorem yIq (h:RelI w0 I0 s a.tmps w I Fs){sz:Nat}:∀ (ds:List D) {us:List Value} {G:List Nat},Vals I w ds (ρS s a.tmps w) us G→ds.all (fun d=>d.okCells&&d.cells.length==sz)=true→Cells I w (ds.flatMap D.cells) (ρS s a.tmps w) (us.flatMap fun u=>u.cells.toList) G∧∀ u,u∈us→u.cells.size=sz
  | [],us,G,hv,_=>by simp only [Vals] at hv;simp [hv.1,hv.2,Cells]
  | d::ds,us,G,hv,ho=>by
    simp only [Vals] at hv;obtain ⟨u,us',F1,F2,e,hG,hT,h2⟩:=hv;simp only [xBm,xA2,beq_iff_eq] at ho;have hc:=zQh h hT ho.1.1;obtain ⟨i1,i2⟩:=yIq h ds h2 ho.2;subst e;subst hG;refine ⟨by simp only [xB6];exact hc.append i1,fun v hv=>?_⟩;rcases xBs.1 hv with rfl | hv
    · have:=hc.len;simp at this;omega
    · exact i2 v hv
theorem Cells.split {ρ:D→Value→Prop}:∀ (n:Nat) {ds:List D} {us:List Value} {F:List Nat},Cells I w ds ρ us F→∃ F1 F2,F=F1++F2∧Cells I w (ds.take n) ρ (us.take n) F1∧Cells I w (ds.drop n) ρ (us.drop n) F2
  | 0,ds,us,F,h=>⟨[],F,rfl,by simp [Cells],by simpa using h⟩
  | n+1,[],us,F,h=>by simp only [Cells] at h;exact ⟨[],[],by simp [h.2],by simp [Cells,h.1],by simp [Cells,h.1]⟩
  | n+1,d::ds,us,F,h=>by simp only [Cells] at h;obtain ⟨u,us1,F1,F2,e,hF,ho,ht,h2⟩:=h;obtain ⟨G1,G2,hG,k1,k2⟩:=Cells.split n h2;refine ⟨F1++G1,G2,by simp [hF,hG],?_,by simpa [e] using k2⟩;simp only [e,xBn,Cells];exact ⟨u,_,F1,G1,rfl,rfl,ho,ht,k1⟩
theorem yI2 (sz:Nat):∀ (n:Nat) {ds:List D} {us:List Value} {F:List Nat},Cells I w ds nil us F→ds.length=n*sz→Rows I w sz (zJk sz n ds) us F
  | 0,ds,us,F,h,hl=>by have:ds=[]:=xCb (by simpa using hl);subst this;simp only [Cells] at h;simpa [zJk,Rows] using h
  | n+1,ds,us,F,h,hl=>by obtain ⟨F1,F2,hF,k1,k2⟩:=Cells.split sz h;have hul:=h.len;rw [xC8,xDs] at hl;simp only [zJk,Rows];exact ⟨us.take sz,us.drop sz,F1,F2,by simp,hF,by simp;omega,k1,yI2 sz n k2 qAw⟩
theorem zKu (sz:Nat):∀ (n:Nat) (ds:List D),(zJk sz n ds).length=n
  | 0,_=>rfl
  | n+1,ds=>by simp [zJk,zKu sz n]
theorem zZc (h:RelI w0 I0 s a.tmps w I Fs){sz:Nat}{rows:List (List D)}{cs:Array Value}{raw:List Value}{F:List Nat}(t:TypeId)(c:Nat)(hR:Rows I w sz rows raw F)(hraw:∀ (j:Nat) (v:Value),raw[j]?=some v→cs[j]?=some v)(hc1:rows.length≤c)(hc2:c≤maxLen)(hc3:c*sz≤cs.size)(hF:Fresh w0 w I Fs F)(hK:K (.sl true sz rows) s){w1:World}(hb0:Below w.heap.size w w1)(hh:w1.heap=w.heap){Fs0:Nat→List Nat}(hin:nn=true→∀ b,b∈F→∃ r,b∈Fs0 r)(hst:nn=true→∀ r,s[r]?=some .undef∨Fs r=Fs0 r) :
    OutOK nn Fs0 I w w0 I0 a.tmps K (.slice (some ⟨w.heap.size,0,none⟩) rows.length c) (w1.alloc (.cells cs t)):=by
  have hb:Below w.heap.size w (w1.alloc (.cells cs t)):=hb0.alloc (by rw [hh];exact xBj _) _;have h':=h.world hb;have hnew:(w1.alloc (.cells cs t)).heap[w.heap.size]?=some (.cells cs t (0,0)):=(by show (w1.heap.push _)[w.heap.size]?=_;rw [hh];simp);have hsize:(w1.alloc (.cells cs t)).heap.size=w.heap.size+1:=(by show (w1.heap.push _).size=_;rw [hh];simp);refine ⟨_,s,I,Fs,w.heap.size::F,hK,h',?_,?_,fun hn=>Frame.below hb (fun b hb'=>(xBs.1 hb').elim (fun h=>.inl qAc) (fun h=>.inr (hin hn b h))) (hst hn)⟩
  · simp only [T];refine ⟨_,c,rfl,hc1,hc2,.inr ⟨trivial,.inr ⟨w.heap.size,0,cs,t,raw,F,rfl,hnew,by omega,fun j x hj=>?_,rfl,hR.keep sz _ (fun b hb'=>hb.block b ?_)⟩⟩⟩
    · rw [zBh hnew,xB2];exact hraw j x hj
    · rcases hb' with hb' | hb'
      · exact h.imm b hb'
      · exact (hF.2 b hb').2.1
  · refine ⟨xB8.2 ⟨fun hm=>xDw _ (hF.2 _ hm).2.1,hF.1⟩,fun b hb'=>?_⟩;rw [hsize];rcases xBs.1 hb' with rfl | hb'
    · exact ⟨Base.N_of h.below (xBj _),by omega,fun hI=>xDw _ (h.imm _ hI),fun r hr=>xDw _ (h.own r _ hr).2.1⟩
    · have:=hF.2 b hb';exact ⟨this.1,by omega,this.2.2⟩
theorem yCe {Fs0:Nat→List Nat}{s2:List D}{Fs2:Nat→List Nat}(h2:RelI w0 I0 s2 a.tmps w I Fs2){sz:Nat}{xs:List Operand}{t e:TypeId}{ie:TypeInfo}{z:Value}{parts:Array (Nat×Operand)}{o:Oper}(ho:o.op=.buildSlice t xs.length parts)(hp:parts.toList=xs.zipIdx.map fun x=>(x.2,x.1))(hu:P.underlying t=some (.slice e))(hie:P.info? e=some ie)(hz:ie.zero=some z)(hsz:ie.size=sz)(hpos:0<sz)(hsmall:xs.length*sz≤2 ^ 24)
    {cs':List D} {F':List Nat} (hC2:Cells I w cs' nil ((xs.map a.eval).flatMap fun u=>u.cells.toList) F') (hsize:∀ u,u∈xs.map a.eval→u.cells.size=sz) (hF':Fresh w0 w I Fs2 F') (hK:K (.sl true sz (zJk sz xs.length cs')) s2) (hin:nn=true→∀ b,b∈F'→∃ r,b∈Fs0 r) (hst:nn=true→∀ r,s2[r]?=some .undef∨Fs2 r=Fs0 r):RunsTo P (execOp a.eval o) w (OutOK nn Fs0 I w w0 I0 a.tmps K):=by
  have hcl:cs'.length=xs.length*sz:=by
    have:=hC2.len;rw [← this];have hfl:∀ (us:List Value),(∀ u,u∈us→u.cells.size=sz)→(us.flatMap fun u=>u.cells.toList).length=us.length*sz:=by
      intro us;induction us with
      | nil=>intro _;simp
      | cons u us ih=>intro hh;rw [xB6,xC4,ih (fun v hv=>hh v (by simp [hv]))];have:=hh u qAh;simp [this,xC8,xE2]
    rw [hfl _ hsize];simp
  have hR:=yI2 sz xs.length hC2 hcl;have hrows:(zJk sz xs.length cs').length=xs.length:=zKu _ _ _;have hmap:((parts.map fun (i,x)=>(i,a.eval x)).toList)=((xs.map a.eval).zipIdx 0).map fun x=>(x.2,x.1):=(by rw [xFh,hp,xDl,List.zipIdx_map,xDl];rfl);have hmax:xs.length≤maxLen:=(by have:xs.length≤xs.length*sz:=xFp _ hpos;unfold maxLen;omega);by_cases h0:xs.length*sz=0
  · have hx0:xs=[]:=xCb (by
      rcases Nat.mul_eq_zero.1 h0 with h | h
      · exact h
      · omega)
    subst hx0;have hrun:(Instr.buildSlice t 0 (parts.map fun (i,x)=>(i,a.eval x))).run P w=.ok (.slice (some ⟨w.heap.size,0,none⟩) 0 0) (w.alloc (.cells #[] e)):=by have hp0:(parts.map fun (i,x)=>(i,a.eval x)).toList=[]:=(by rw [hmap];rfl);simp [Instr.buildSlice,run_underlying hu,sizeOf,typeInfo,hie,newRow];have:parts=#[]:=(by apply xF0;rw [hp];rfl);subst this;simp [Instr.fill,Array.range_zero']
    refine .value (v:=.slice (some ⟨w.heap.size,0,none⟩) (zJk sz 0 cs').length 0) (w':=w.alloc (.cells #[] e)) ?_ (zZc h2 e 0 hR (fun j v hj=>?_) (by simp [zKu]) qB6 qAh hF' hK (Below.refl _ _) rfl hin hst)
    · simp only [execOp,ho,xBy,Sem.run_bind,hrun,Result.andThen_ok,zKu];rfl
    · have:=hR.len;simp [zKu] at this;simp [this] at hj
  · have hfill:=Great.fill_whole hpos (xs.map a.eval) ((Array.range (xs.length*ie.size)).map (z.cells[· % z.cells.size]!)) (fun v hv=>hsize v hv) (by simp [hsz]);have hrun:=run_buildSlice (P:=P) w t e xs.length (parts.map fun (i,x)=>(i,a.eval x)) _ ie z hu hie hz (by rw [hsz];omega) (by rw [hsz];exact h0) (by rw [hmap,hsz];rw [hsz] at hfill;exact hfill);refine .value (v:=.slice (some ⟨w.heap.size,0,none⟩) (zJk sz xs.length cs').length xs.length) (w':=w.alloc (.cells _ e)) ?_ (zZc h2 e xs.length (cs:=((xs.map a.eval).flatMap fun v=>v.cells.toList).toArray) (raw:=(xs.map a.eval).flatMap fun v=>v.cells.toList) hR (fun j v hj=>by simpa using hj) (by rw [hrows];exact xBj _) hmax ?_ hF' hK (Below.refl _ _) rfl hin hst)
    · simp only [execOp,ho,Sem.run_bind,hrun,Result.andThen_ok,hrows];rfl
    · rw [xGf,hC2.len,hcl];exact xBj _
theorem yQb (h:RelI w0 I0 s a.tmps w I Fs){sz:Nat}{xs:List Operand}{t e:TypeId}{ie:TypeInfo}{z:Value}{parts:Array (Nat×Operand)}{o:Oper}(ho:o.op=.buildSlice t xs.length parts)(hp:parts.toList=xs.zipIdx.map fun x=>(x.2,x.1))(hu:P.underlying t=some (.slice e))(hie:P.info? e=some ie)(hz:ie.zero=some z)(hsz:ie.size=sz)(hpos:0<sz)(hsmall:xs.length*sz≤2 ^ 24)
    (hk:zAh Ctr s (.bsl sz xs) K):RunsTo P (execOp a.eval o) w (OutOK false Fs I w w0 I0 a.tmps K):=by
  obtain ⟨hok,hro,hk⟩:=hk;obtain ⟨Fs1,G,h1,hV,hG,hsub1,hin1,_⟩:=yE7 xs h;obtain ⟨hC,hsize⟩:=yIq h1 _ hV hok;obtain ⟨cs',s2,Fs2,F',hK,h2,hC2,hF',hsub2,hin2,_⟩:=zOi _ h1 hC hG hro hk;exact yCe h2 ho hp hu hie hz hsz hpos hsmall hC2 hsize hF' hK (fun h=>by cases h) (fun h=>by cases h)
theorem zQs:∀ (ds:List D),zSw ds=true→zAc (fun _=>false) ds=ds
  | [],_=>by simp [zAc]
  | d::ds,h=>by cases d<;>simp only [zSw,D.leaf,xA2,xBa,false_and,true_and] at h<;>simp [zAc,D.prune,zQs ds h]
theorem yKt (h:RelI w0 I0 s a.tmps w I Fs){sz:Nat}{xs:List Operand}{t e:TypeId}{ie:TypeInfo}{z:Value}{parts:Array (Nat×Operand)}{o:Oper}(ho:o.op=.buildSlice t xs.length parts)(hp:parts.toList=xs.zipIdx.map fun x=>(x.2,x.1))(hu:P.underlying t=some (.slice e))(hie:P.info? e=some ie)(hz:ie.zero=some z)(hsz:ie.size=sz)(hpos:0<sz)(hsmall:xs.length*sz≤2 ^ 24)
    (hk:zAh Ctr s (.bslN sz xs) K):RunsTo P (execOp a.eval o) w (OutOK nn Fs I w w0 I0 a.tmps K):=by
  obtain ⟨hok,hro,hK⟩:=hk;obtain ⟨Fs1,G,h1,hV,hG,hsub1,hin1,hst1⟩:=yE7 xs h;obtain ⟨hC,hsize⟩:=yIq h1 _ hV hok;have hC2:=Cells.turn (ρ':=nil) (q:=fun _=>false) (fun _ _ h _=>by cases h) _ hC;rw [zQs _ hro] at hC2;exact yCe h1 ho hp hu hie hz hsz hpos hsmall hC2 hsize hG hK (fun _=>hin1) (fun _ r=>(hst1 r).2)
end
end Go.V
namespace Go.V
open Go.RowKit
section
variable {P:Program} {w0:Base} {I0:Nat→Prop} {s:List D} {a:Act} {w:World} {I:Nat→Prop} {Fs:Nat→List Nat} {K:D→List D→Prop} {Ctr:CtrT} {nn:Bool}
theorem yAm {ρ:D→Value→Prop} (off0:Nat):∀ (ps:List D) (vs:List Value) (i:Nat) (cells:List D) (cv:Array Value) (F G:List Nat),Cells I w ps ρ vs G→Cells I w cells ρ cv.toList F→off0+i+ps.length≤cells.length→(F++G).Nodup →
    ∃ F',Cells I w (splice cells (off0+i) ps) ρ ((vs.zipIdx i).foldl (fun cs (x:Value×Nat)=>cs.setIfInBounds (off0+x.2) x.1) cv).toList F'∧F'.Nodup∧(∀ b,b∈F'→b∈F∨b∈G)∧(splice cells (off0+i) ps).length=cells.length
  | [],vs,i,cells,cv,F,G,hp,hc,hl,hnd=>by simp only [Cells] at hp;obtain ⟨rfl,rfl⟩:=hp;exact ⟨F,by simpa [splice] using hc,(xA5.1 hnd).1,fun b hb=>.inl hb,rfl⟩
  | p :: ps,vs,i,cells,cv,F,G,hp,hc,hl,hnd=>by
    simp only [Cells] at hp;obtain ⟨v,vs',G1,G2,e,hG,ho,ht,h2⟩:=hp;subst e;subst hG;have hlt:off0+i<cells.length:=by simp at hl;omega
    obtain ⟨pre,u,post,A,F',B,hus,hpl,hF,_,_,hup⟩:=Cells.focus (off0+i) hc (xA1 hlt);have hup':=hup w ρ (fun _=>true) p v G1 (fun _ _=>rfl) (fun _ _ _ h=>h) ho ht;rw [zBy] at hup';have hset:(cv.setIfInBounds (off0+i) v).toList=pre++v::post:=(by rw [xE9,hus,← hpl];simp);rw [← hset] at hup';have hnd2:((A++G1++B)++G2).Nodup:=by
      rw [hF] at hnd;simp only [xA5,xBf] at hnd ⊢;obtain ⟨⟨⟨hA,hF',hAF⟩,hB,hAFB⟩,⟨hG1,hG2,hG12⟩,hall⟩:=hnd;refine ⟨⟨⟨hA,hG1,fun x hx y hy=>hall x (.inl (.inl hx)) y (.inl hy)⟩,hB,fun x hx y hy hxy=>?_⟩,hG2,fun x hx y hy hxy=>?_⟩
      · rcases hx with hx | hx
        · exact hAFB x (.inl hx) y hy hxy
        · exact hall y (.inr hy) x (.inl hx) hxy.symm
      · rcases hx with (hx | hx) | hx
        · exact hall x (.inl (.inl hx)) y (.inr hy) hxy
        · exact hG12 x hx y hy hxy
        · exact hall x (.inr hx) y (.inr hy) hxy
    obtain ⟨F'',k1,k2,k3,k4⟩:=yAm off0 ps vs' (i+1) (cells.set (off0+i) p) (cv.setIfInBounds (off0+i) v) (A++G1++B) G2 h2 hup' (by simp at hl ⊢;omega) hnd2;refine ⟨F'',?_,k2,fun b hb=>?_,by simp only [splice];rw [show off0+i+1=off0+(i+1) by omega,k4];simp⟩
    · simp only [splice,List.zipIdx_cons,xDm];rw [show off0+i+1=off0+(i+1) by omega];exact k1
    · rcases k3 b hb with hb | hb
      · rw [hF];simp only [xBf] at hb ⊢;rcases hb with (hb | hb) | hb
        · exact .inl (.inl (.inl hb))
        · exact .inr (.inl hb)
        · exact .inl (.inr hb)
      · exact .inr qBg
theorem yIt (h:RelI w0 I0 s a.tmps w I Fs) {place:Nat→Option (Nat×Nat)}:∀ (ps:List (Nat×Nat)) (ds:List D) (parts:List (Nat×Value)) (cells cells':List D) (cv:Array Value) (F G:List Nat),zT5 ps ds cells=some cells'→(parts.map fun p=>place p.1)=ps.map some→Vals I w ds (ρS s a.tmps w) (parts.map (·.2)) G→ds.all D.okCells=true→Cells I w cells (ρS s a.tmps w) cv.toList F→(F++G).Nodup →
    ∃ cv' F',Instr.fill place cv parts=some cv'∧Cells I w cells' (ρS s a.tmps w) cv'.toList F'∧F'.Nodup∧(∀ b,b∈F'→b∈F∨b∈G)
  | [],ds,parts,cells,cells',cv,F,G,hf,hp,hv,ho,hc,hnd=>by
    cases parts with
    | cons p ps=>simp at hp
    | nil =>
      cases ds with
      | cons d ds=>simp [zT5] at hf
      | nil=>simp only [zT5,xAv] at hf;subst hf;exact ⟨cv,F,rfl,hc,(xA5.1 hnd).1,fun b hb=>.inl hb⟩
  | (off, n)::ps,ds,parts,cells,cells',cv,F,G,hf,hp,hv,ho,hc,hnd=>by
    cases parts with
    | nil=>simp at hp
    | cons p parts =>
      obtain ⟨pi,pv⟩:=p;cases ds with
      | nil=>simp [zT5] at hf
      | cons d ds =>
        simp only [xA6,xCo] at hp;simp only [zT5] at hf;split at hf
        · rename_i hcond;simp only [xA6,Vals] at hv;obtain ⟨u,us',G1,G2,e,hG,hT,h2⟩:=hv;simp only [xCo] at e;obtain ⟨rfl,rfl⟩:=e;subst hG;simp only [xBm,xA2] at ho;have hcd:=zQh h hT ho.1;have hlen:=hcd.len;have hcl:=hc.len;have hnd1:(F++G1).Nodup:=by rw [← xDn] at hnd;exact (xA5.1 hnd).1
          obtain ⟨F1,k1,k2,k3,k4⟩:=yAm off d.cells pv.cells.toList 0 cells cv F G1 hcd hc qAc hnd1;rw [xEk] at k1 k4;have hnd2:(F1++G2).Nodup:=by
            refine xA5.2 ⟨k2,(xA5.1 (xA5.1 hnd).2.1).2.1,fun x hx y hy hxy=>?_⟩;subst hxy;rcases k3 x hx with hx | hx
            · exact (xA5.1 hnd).2.2 x hx x qA9 rfl
            · exact (xA5.1 (xA5.1 hnd).2.1).2.2 x hx x hy rfl
          obtain ⟨cv',F',m1,m2,m3,m4⟩:=yIt h ps ds parts (splice cells off d.cells) cells' _ F1 G2 hf hp.2 h2 ho.2 k1 hnd2;refine ⟨cv',F',?_,m2,m3,fun b hb=>?_⟩
          · have hs1:pv.cells.size=n:=(by simp at hlen;omega);have hs2:¬ off+pv.cells.size>cv.size:=(by simp at hcl;omega);simp only [Instr.fill,hp.1,hs1];rw [if_neg (by simp at hcl ⊢;omega)];rw [← m1];congr 1;rw [← Array.foldl_toList,Array.toList_zipIdx]
          · rcases m4 b hb with hb | hb
            · rcases k3 b hb with hb | hb
              · exact .inl hb
              · exact .inr qBg
            · exact .inr qBg
        · cases hf
theorem yF0 (h:RelI w0 I0 s a.tmps w I Fs) {zero:List Value} {parts:List (Nat×Nat×Operand)} {t:TypeId} {it:TypeInfo} {z:Value} {fs:Array Field} {places:List (Nat×Nat)} {ps:Array (Nat×Operand)} {o:Oper} (ho:o.op=.build t ps) (hit:P.info? t=some it) (hu:P.underlying t=some (.struct fs)) (hz:it.zero=some z) (hzz:z.cells.toList=zero) (hone:zero.all (·.oneCell')=true)
    (hpl:fs.toList.mapM (fun f=>(P.info? f.type).map fun i=>(f.offset,i.size))=some places) (hps:ps.toList.map (fun p=>(places[p.1]?,p.2))=parts.map fun p=>(some (p.1,p.2.1),p.2.2)) (hk:zAh Ctr s (.build zero parts) K):RunsTo P (execOp a.eval o) w (OutOK nn Fs I w w0 I0 a.tmps K):=by
  obtain ⟨hok,hk⟩:=hk;split at hk
  · rename_i cells hf;obtain ⟨Fs1,G,h1,hV,hG,hsub1,hin1,hst1⟩:=yE7 (parts.map (·.2.2)) h;have hz0:Cells I w (zero.map ofC) (ρS (tkL s (parts.map (·.2.2))).2 a.tmps w) z.cells.toList []:=by rw [hzz];exact zHs _ zero hone
    have hsnd:ps.toList.map (·.2)=parts.map (·.2.2):=qBz;have hfst:ps.toList.map (fun p=>places[p.1]?)=parts.map fun p=>some (p.1,p.2.1):=qB0;obtain ⟨cv',F',m1,m2,m3,m4⟩:=yIt (place:=(places.toArray[·]?)) h1 (parts.map fun p=>(p.1,p.2.1)) _ ((ps.map fun (i,x)=>(i,a.eval x)).toList) _ _ z.cells [] G hf (by
        rw [xFh,xDl,xDl];simpa [Function.comp_def] using hfst) (by
        rw [xFh,xDl];have:List.map ((fun x:Nat×Value=>x.2) ∘ fun x:Nat×Operand=>(x.1,a.eval x.2)) ps.toList=(ps.toList.map (·.2)).map a.eval:=by simp [xDl,Function.comp_def]
        rw [show (List.map ((fun x:Nat×Value=>x.2) ∘ fun (x:Nat×Operand)=>match x with | (i,x)=>(i,a.eval x)) ps.toList)=(ps.toList.map (·.2)).map a.eval from this,hsnd];exact hV) hok hz0 (by simpa using hG.1)
    have hbuilt:P.built t (ps.map fun (i,x)=>(i,a.eval x)).toList=some cv':=(by unfold Program.built;simp only [hit,hu,hz,hpl];exact m1);have hrun:=run_build (P:=P) w t (ps.map fun (i,x)=>(i,a.eval x)) cv' hbuilt;refine .value (v:=.agg cv') ?_ ⟨_,_,I,Fs1,F',hk,h1,?_,⟨m3,fun b hb=>hG.2 b ((m4 b hb).resolve_left qAh)⟩,fun _=>Frame.below (Below.refl _ _) (fun b hb=>.inr (hin1 b ((m4 b hb).resolve_left qAh))) (fun r=>(hst1 r).2)⟩
    · simp only [execOp,ho,Sem.run_bind,hrun,Result.andThen_ok];rfl
    · simp only [T];exact ⟨cv'.toList,by simp,m2⟩
  · exact hk.elim
theorem yC2 (h:RelI w0 I0 s a.tmps w I Fs) {zero:List Value} {parts:List (Nat×Nat×Operand)} {t:TypeId} {it:TypeInfo} {z:Value} {len:Nat} {e:TypeId} {ie:TypeInfo} {ps:Array (Nat×Operand)} {o:Oper} (ho:o.op=.build t ps) (hit:P.info? t=some it) (hu:P.underlying t=some (.array len e)) (hie:P.info? e=some ie) (hz:it.zero=some z) (hzz:z.cells.toList=zero) (hone:zero.all (·.oneCell')=true)
    (hps:ps.toList.map (fun p=>(some (p.1*ie.size,ie.size),p.2))=parts.map fun p=>(some (p.1,p.2.1),p.2.2)) (hk:zAh Ctr s (.build zero parts) K):RunsTo P (execOp a.eval o) w (OutOK nn Fs I w w0 I0 a.tmps K):=by
  obtain ⟨hok,hk⟩:=hk;split at hk
  · rename_i cells hf;obtain ⟨Fs1,G,h1,hV,hG,hsub1,hin1,hst1⟩:=yE7 (parts.map (·.2.2)) h;have hz0:Cells I w (zero.map ofC) (ρS (tkL s (parts.map (·.2.2))).2 a.tmps w) z.cells.toList []:=by rw [hzz];exact zHs _ zero hone
    have hsnd:ps.toList.map (·.2)=parts.map (·.2.2):=qBz;have hfst:ps.toList.map (fun p=>some (p.1*ie.size,ie.size))=parts.map fun p=>some (p.1,p.2.1):=qB0;obtain ⟨cv',F',m1,m2,m3,m4⟩:=yIt (place:=fun i=>some (i*ie.size,ie.size)) h1 (parts.map fun p=>(p.1,p.2.1)) _ ((ps.map fun (i,x)=>(i,a.eval x)).toList) _ _ z.cells [] G hf (by
        rw [xFh,xDl,xDl];simpa [Function.comp_def] using hfst) (by
        rw [xFh,xDl];have:List.map ((fun x:Nat×Value=>x.2) ∘ fun x:Nat×Operand=>(x.1,a.eval x.2)) ps.toList=(ps.toList.map (·.2)).map a.eval:=by simp [xDl,Function.comp_def]
        rw [show (List.map ((fun x:Nat×Value=>x.2) ∘ fun (x:Nat×Operand)=>match x with | (i,x)=>(i,a.eval x)) ps.toList)=(ps.toList.map (·.2)).map a.eval from this,hsnd];exact hV) hok hz0 (by simpa using hG.1)
    have hbuilt:P.built t (ps.map fun (i,x)=>(i,a.eval x)).toList=some cv':=(by unfold Program.built;simp only [hit,hu,hz,hie];exact m1);have hrun:=run_build (P:=P) w t (ps.map fun (i,x)=>(i,a.eval x)) cv' hbuilt;refine .value (v:=.agg cv') ?_ ⟨_,_,I,Fs1,F',hk,h1,?_,⟨m3,fun b hb=>hG.2 b ((m4 b hb).resolve_left qAh)⟩,fun _=>Frame.below (Below.refl _ _) (fun b hb=>.inr (hin1 b ((m4 b hb).resolve_left qAh))) (fun r=>(hst1 r).2)⟩
    · simp only [execOp,ho,Sem.run_bind,hrun,Result.andThen_ok];rfl
    · simp only [T];exact ⟨cv'.toList,by simp,m2⟩
  · exact hk.elim
theorem yEq {sz:Nat}{zero:List Value}(hz:zero.length=sz)(hone:zero.all (·.oneCell')=true):∀ n:Nat,Rows I w sz (List.replicate n (zero.map ofC)) ((List.replicate n zero).flatten) []
  | 0=>by simp [Rows]
  | n+1=>by simp only [xBv,Rows,List.flatten_cons];exact ⟨zero,_,[],[],rfl,rfl,hz,zHs nil zero hone,yEq hz hone n⟩
theorem zV1 {z:Array Value}{n sz:Nat}(hz:z.size=sz)(j:Nat)(v:Value)(h:((List.replicate n z.toList).flatten)[j]?=some v)(m:Nat)(hm:n*sz≤m):(madeCells z m)[j]?=some v:=by
  have key:∀ (n j:Nat),((List.replicate n z.toList).flatten)[j]?=some v→j<n*sz∧z[j % sz]?=some v:=by
    intro n;induction n with
    | zero=>intro j h;simp at h
    | succ n ih =>
      intro j h;rw [xBv,List.flatten_cons] at h;by_cases hj:j<sz
      · rw [xCh (by simp [hz];exact hj)] at h;refine ⟨by rw [xC8];omega,?_⟩;rw [xEf hj];simpa using h
      · rw [xCz (by simp [hz];omega)] at h;simp only [xD6,hz] at h;obtain ⟨i1,i2⟩:=ih _ h;refine ⟨by rw [xC8];omega,?_⟩;rw [Nat.mod_eq_sub_mod qAc];exact i2
  obtain ⟨k1,k2⟩:=key n j h;unfold madeCells;have hjm:j<m:=qAc;simp only [Array.getElem?_map,Array.getElem?_range,hjm,if_true,xAx];rw [hz];have hlt:=(xBg.1 k2).1;rw [xBu hlt] at k2;simp only [xAv] at k2 ⊢;rw [← k2];simp [hlt]
theorem yP3 (h:RelI w0 I0 s a.tmps w I Fs){sz bytes:Nat}{zero:List Value}{l c:Operand}{t e:TypeId}{i:TypeInfo}{z:Value}{o:Oper}(ho:o.op=.makeSlice t l c)(ht:P.underlying t=some (.slice e))(hi:P.info? e=some i)(hz:i.zero=some z)(hsz:i.size=sz)(hby:i.bytes=bytes)(hzz:z.cells.toList=zero)(hzs:zero.length=sz)(hone:zero.all (·.oneCell')=true)
    (hk:zAh Ctr s (.mks sz bytes zero l c) K):RunsTo P (execOp a.eval o) w (OutOK nn Fs I w w0 I0 a.tmps K):=by
  have hL:=zC9 h l;have hC:=zC9 h c;simp only [zAh] at hk;split at hk
  · rename_i k1 n k2 m e1 e2;rw [e1] at hL;rw [e2] at hC;obtain ⟨h1,h2,h3,hK⟩:=hk;have hm0:0≤m:=by omega
    have hmn:m.toNat*(bytes+1)≤2 ^ 40:=(by have hmm:((m.toNat:Nat):Int)=m:=Int.toNat_of_nonneg hm0;have:((m.toNat*(bytes+1):Nat):Int)≤((2 ^ 40:Nat):Int):=(by rw [Int.natCast_mul,hmm];simpa using h3);exact xEr.1 this);have hml:m.toNat≤2 ^ 40:=xEc (xFp _ qAc) hmn;have hmb:m.toNat*bytes≤2 ^ 40:=xEc (Nat.mul_le_mul_left _ (by omega:bytes≤bytes+1)) hmn;have hbm:(i.bytes:Int)*m≤281474976710656:=(by have hmm:((m.toNat:Nat):Int)=m:=Int.toNat_of_nonneg hm0;rw [hby,← hmm,Int.mul_comm];have:=xEr.2 hmb;rw [Int.natCast_mul] at this;omega);have hrun:=run_make (P:=P) w t e i z ht hi hz k1 k2 n m h1 h2 hbm qAc;have hzl:z.cells.size=sz:=(by rw [← hzs,← hzz];simp);refine .value (v:=.slice (some ⟨w.heap.size,0,none⟩) n.toNat m.toNat) (w':=w.alloc (.cells (madeCells z.cells (m.toNat*i.size)) e)) ?_ ?_
    · simp only [execOp,ho,(T_v hL).1,(T_v hC).1,Sem.run_bind,hrun,Result.andThen_ok];rfl
    · have hr:=zZc (a:=a) (K:=K) (nn:=nn) (Fs0:=Fs) h (sz:=sz) (rows:=List.replicate n.toNat (zero.map ofC)) (cs:=madeCells z.cells (m.toNat*i.size)) (raw:=(List.replicate n.toNat zero).flatten) (F:=[]) e m.toNat (yEq hzs hone n.toNat) (fun j v hj=>zV1 hzl j v (by rw [hzz];exact hj) _ (by rw [hsz];exact xD0 _ qAc)) qAw qB6 (by rw [size_madeCells,hsz];exact xBj _) Fresh.nil hK (Below.refl _ w) rfl (fun _ _ h=>by cases h) (fun _ _=>.inr rfl);simpa using hr
  · exact hk.elim
end
end Go.V
namespace Go.V
open Go.RowKit
section
variable {P:Program} {w0:Base} {I0:Nat→Prop} {s:List D} {a:Act} {w:World} {I:Nat→Prop} {Fs:Nat→List Nat} {K:D→List D→Prop} {Ctr:CtrT} {nn:Bool}
theorem yN6 (h:RelI w0 I0 s a.tmps w I Fs) {r:Nat} {p:zBr} {c:D} {KK:List D→(D→Bool)→Prop} (hk:yC7 s r p c KK) (hp:p≠[]) {d:D} {u0 u2:Value} {b o:Nat} {F2:List Nat} (hs:s[r]?=some d) (hu:a.tmps[r]?=some u0) (ha:zFu w u0 d p=some (b,o)) (ho2:u2.oneCell'=true) (hT:T I w c (zLm d p (ρS s a.tmps w)) u2 F2) (hF2:Fresh w0 w I Fs F2) :
    ∃ s' q Fs',KK s' q∧RelI w0 I0 s' a.tmps (w.setCell ⟨b,o,none⟩ u2) I Fs'∧(w.cell? ⟨b,o,none⟩).isSome=true∧w.frozen? ⟨b,o,none⟩=false∧w0.N b ∧
      (∃ d',s'[r]?=some d'∧∀ q' t sz rows,¬ p <+: q'→zAf d q'=some t→t.cont=some (sz,rows)→zA8 (w.setCell ⟨b,o,none⟩ u2) u0 d' q'=zA8 w u0 d q'∧∃ t',zAf d' q'=some t'∧like t t') ∧
      (∀ x v,q x=true→ρS s a.tmps w x v→ρS s' a.tmps (w.setCell ⟨b,o,none⟩ u2) x v)∧(∀ r' b',b'∈Fs' r'→b'∈Fs r'∨b'∈F2)∧(∀ x,I x→(w.setCell ⟨b,o,none⟩ u2).heap[x]?=w.heap[x]?)∧(∀ x,(∀ r,x∉Fs r)→(w.setCell ⟨b,o,none⟩ u2).heap[x]?=w.heap[x]?):=by
  simp only [yC7,hs] at hk;cases hc:zAf d p with
  | none=>simp [hc] at hk
  | some old =>
    simp only [hc] at hk;have hwp:(w.setCell ⟨b,o,none⟩ u2).os=w.os∧(w.setCell ⟨b,o,none⟩ u2).tape=w.tape∧(w.setCell ⟨b,o,none⟩ u2).output=w.output∧(w.setCell ⟨b,o,none⟩ u2).heap.size=w.heap.size:=⟨rfl,rfl,rfl,by simp [World.setCell]⟩
    have hw1:∀ x,x≠b→(w.setCell ⟨b,o,none⟩ u2).heap[x]?=w.heap[x]?:=fun x hx=>Below.heap_setCell w ⟨b,o,none⟩ u2 x hx;have hTd:=h.slot r d u0 hs hu;have hbF:=zWm p d hTd (by rw [hc];rfl) ha;have main:∀ q:D→Bool,(∀ x v,q x=true→ρS s a.tmps w x v→zAg r p x=true)→∃ Fs',RelI w0 I0 ((zAc q s).set r (setAt (d.prune q) p (c.prune q))) a.tmps (w.setCell ⟨b,o,none⟩ u2) I Fs'∧(w.cell? ⟨b,o,none⟩).isSome=true∧w.frozen? ⟨b,o,none⟩=false∧w0.N b ∧
      (∃ d',((zAc q s).set r (setAt (d.prune q) p (c.prune q)))[r]?=some d'∧∀ q' t sz rows,¬ p <+: q'→zAf d q'=some t→t.cont=some (sz,rows)→zA8 (w.setCell ⟨b,o,none⟩ u2) u0 d' q'=zA8 w u0 d q'∧∃ t',zAf d' q'=some t'∧like t t') ∧
      (∀ x v,q x=true→ρS s a.tmps w x v→ρS ((zAc q s).set r (setAt (d.prune q) p (c.prune q))) a.tmps (w.setCell ⟨b,o,none⟩ u2) x v)∧(∀ r' b',b'∈Fs' r'→b'∈Fs r'∨b'∈F2):=by
      intro q hq;obtain ⟨A,F',B,u',hF,hcl,_,hfz,_,hrel,hρ⟩:=h.store (q:=q) (c2:=c) (u2:=u2) (F2:=F2) (w2:=w.setCell ⟨b,o,none⟩ u2) hq hs hu hp hc ha ho2 hT hF2.1 hF2.2 hwp hw1 (fun cells e f hr=>zG8 w b o u2 cells e f hr);refine ⟨_,hrel,by rw [hcl];rfl,hfz,(h.own r b hbF).1,⟨setAt (d.prune q) p (c.prune q),by have hlt:=(xA4.1 hs).1;simp [zAx,hlt],fun q' t sz rows hn hq' ht=>?_⟩,hρ,fun r' b' hb'=>?_⟩
      · obtain ⟨b1,o1,u1,A1,F1,B1,cells,e,ha1,hcl1,hrow,_⟩:=T.focus p d hTd (h.nd r) (fun b hb=>(h.own r b hb).2.2) hp hc;obtain ⟨rfl,rfl⟩:b1=b∧o1=o:=(by rw [ha] at ha1;simpa [eq_comm] using ha1);exact zVb p d q (c.prune q) hTd (h.nd r) ha (by rw [hc];rfl) hrow (zG8 w _ _ u2 cells e (0,0) hrow) (fun x _ hx=>hw1 x hx) q' hn hq' ht
      · unfold upd at hb';split at hb'
        · rename_i hr;subst hr;rw [hF];simp only [xBf] at hb' ⊢;rcases hb' with (hb' | hb') | hb'
          · exact .inl (.inl (.inl hb'))
          · exact .inr hb'
          · exact .inl (.inr hb')
        · exact .inl hb'
    have hI:∀ x,I x→(w.setCell ⟨b,o,none⟩ u2).heap[x]?=w.heap[x]?:=fun x hx=>hw1 x (by rintro rfl;exact (h.own r x hbF).2.2 hx);have hN:∀ x,(∀ r,x∉Fs r)→(w.setCell ⟨b,o,none⟩ u2).heap[x]?=w.heap[x]?:=fun x hx=>hw1 x (by rintro rfl;exact hx r hbF);cases hoc:old.cont with
    | some y=>simp only [hoc] at hk;obtain ⟨Fs',k1,k2,k3,k4,k5,k6,k7⟩:=main (zAg r p) (fun _ _ hq _=>hq);exact ⟨_,_,Fs',hk,k1,k2,k3,k4,k5,k6,k7,hI,hN⟩
    | none =>
      simp only [hoc] at hk;have hval:∀ x v,ρS s a.tmps w x v→zAg r p x=true:=by
        intro x v hx;cases x with
        | ref r1 q1 =>
          obtain ⟨d1,u1,t1,m1,m2,m3,mo,m4⟩:=hx;obtain ⟨sz,rows,hcc⟩:=zHr mo;simp only [zAg,xDy,xFy,beq_eq_false_iff_ne];by_cases hr:r1=r
          · subst hr;rw [hs] at m1;cases m1;refine .inr ?_;by_cases hpq:p.isPrefixOf q1=true
            · obtain ⟨q2,rfl⟩:=xDz.1 hpq;rw [zDa,hc] at m3;exact absurd hoc (zDw (d:=old) (q:=q2) (t:=t1) (by simpa using m3) hcc)
            · exact eq_false_of_ne_true hpq
          · exact .inl hr
        | ptr r1 q1 i j =>
          obtain ⟨d1,u1,t,sz,rows,u3,b3,o3,m1,m2,m3,m4,m5⟩:=hx;simp only [zAg,xDy,xFy,beq_eq_false_iff_ne];by_cases hr:r1=r
          · subst hr;rw [hs] at m1;cases m1;refine .inr ?_;by_cases hpq:p.isPrefixOf q1=true
            · obtain ⟨q2,rfl⟩:=xDz.1 hpq;rw [zDa,hc] at m3;exact absurd hoc (zDw (d:=old) (q:=q2) (t:=t) (by simpa using m3) m4)
            · exact eq_false_of_ne_true hpq
          · exact .inl hr
        | sub r1 q1 i n =>
          obtain ⟨d1,u1,t,sz,rows,u3,b3,o3,cc,m1,m2,m3,m4,m5⟩:=hx;simp only [zAg,xDy,xFy,beq_eq_false_iff_ne];by_cases hr:r1=r
          · subst hr;rw [hs] at m1;cases m1;refine .inr ?_;by_cases hpq:p.isPrefixOf q1=true
            · obtain ⟨q2,rfl⟩:=xDz.1 hpq;rw [zDa,hc] at m3;exact absurd hoc (zDw (d:=old) (q:=q2) (t:=t) (by simpa using m3) m4)
            · exact eq_false_of_ne_true hpq
          · exact .inl hr
        | _=>exact hx.elim
      obtain ⟨Fs',k1,k2,k3,k4,k5,k6,k7⟩:=main (fun _=>true) (fun x v _ hx=>hval x v hx);rw [zBy,D.prune_yes,D.prune_yes] at k1 k5 k6;exact ⟨_,_,Fs',hk,k1,k2,k3,k4,k5,k6,k7,hI,hN⟩
theorem zP2 {b oo k:Nat}{u:Value}{us:List Value}(ho:u.oneCell'=true)(hs:(w.cell? ⟨b,oo+k,none⟩).isSome=true)(hf:w.frozen? ⟨b,oo+k,none⟩=false):(storeCells ⟨b,oo,none⟩ (u::us) k).run P w=(storeCells ⟨b,oo,none⟩ us (k+1)).run P (w.setCell ⟨b,oo+k,none⟩ u):=by obtain ⟨v,hv⟩:=xFm.1 hs;rw [storeCells,Sem.run_bind,Addr.add_mid,run_store P w _ u _ ho,hv];simp [hf]
theorem yF6 {r i b:Nat} {u0:Value} (hu:a.tmps[r]?=some u0) (hb:zBa u0=some (b,0)):∀ (n:Nat) (s:List D) (Fs:Nat→List Nat) (w:World) (j oo k:Nat) (cs:List D) (us:List Value) (F:List Nat) (KK:List D→Prop),RelI w0 I0 s a.tmps w I Fs→zXf r i n s j cs KK→n=cs.length→(i=0→oo+k=j)→Cells I w cs (ρS s a.tmps w) us F→Fresh w0 w I Fs F →
    ∃ s' Fs' w',KK s'∧RelI w0 I0 s' a.tmps w' I Fs'∧(storeCells ⟨b,oo,none⟩ us k).run P w=.ok () w'
  | 0,s,Fs,w,j,oo,k,cs,us,F,KK,h,hk,hn,_,hc,_=>by have:cs=[]:=xCb hn.symm;subst this;simp only [Cells] at hc;obtain ⟨rfl,_⟩:=hc;exact ⟨s,Fs,w,hk,h,rfl⟩
  | n+1,s,Fs,w,j,oo,k,[],us,F,KK,h,hk,hn,_,hc,_=>by simp at hn
  | n + 1,s,Fs,w,j,oo,k,c::cs,us,F,KK,h,hk,hn,hj,hc,hF=>by
    simp only [zXf] at hk;obtain ⟨hbox,hk⟩:=hk;simp only [Cells] at hc;obtain ⟨u,us',F1,F2,e,hFe,ho,hT,h2⟩:=hc;subst e;subst hFe;have hF1:Fresh w0 w I Fs F1:=⟨(xA5.1 hF.1).1,fun b hb=>hF.2 b qBg⟩
    cases hs:s[r]? with
    | none=>simp [zO0,hs] at hbox
    | some d =>
      have hd:∃ tag cells,d=.box tag cells:=by cases d<;>first | exact ⟨_,_,rfl⟩ | simp [zO0,hs,zAf] at hbox
      obtain ⟨tag,cells,rfl⟩:=hd;cases i with
      | succ i=>simp [yC7,hs,zAf,D.cont] at hk
      | zero =>
        have hjj:=hj rfl;have ha:zFu w u0 (.box tag cells) [(0,j)]=some (b,oo+k):=(by simp [zFu,D.cont,hb,hjj]);obtain ⟨s',q,Fs',hK,hrel,hsome,hfz,hwb,⟨d',hd',hkeep⟩,hρ,hFs',hI',hN'⟩:=yN6 h hk qAh hs hu ha ho hT hF1;have hc':Cells I (w.setCell ⟨b,oo+k,none⟩ u) (zAc q cs) (ρS s' a.tmps (w.setCell ⟨b,oo+k,none⟩ u)) us' F2 :=
          Cells.turn hρ cs (Cells.keep cs h2 (fun x hx=>by
            rcases hx with hx | hx
            · exact hI' x hx
            · exact hN' x (hF.2 x qAi).2.2.2))
        have hF2:Fresh w0 (w.setCell ⟨b,oo+k,none⟩ u) I Fs' F2:=⟨(xA5.1 hF.1).2.1,fun x hx=>by
          have:=hF.2 x qAi;refine ⟨this.1,by simpa [World.setCell] using this.2.1,this.2.2.1,fun r' hr=>?_⟩;rcases hFs' r' x hr with hr | hr
          · exact this.2.2.2 r' hr
          · exact (xA5.1 hF.1).2.2 x hr x hx rfl⟩
        obtain ⟨s'',Fs'',w'',k1,k2,k3⟩:=yF6 hu hb n s' Fs' _ (j+1) oo (k+1) (zAc q cs) us' F2 KK hrel hK (by rw [zAx];simpa using hn) (fun _=>by omega) hc' hF2;exact ⟨s'',Fs'',w'',k1,k2,by rw [zP2 ho hsome hfz];exact k3⟩
theorem yN5 {r i:Nat}{q:zBr}{u0 u1:Value}{b o sz:Nat}(hu:a.tmps[r]?=some u0)(hb:zBa u1=some (b,o)):∀ (cs:List D) (s:List D) (Fs:Nat→List Nat) (w:World) (j oo k:Nat) (us:List Value) (F:List Nat) (KK:List D→Prop),RelI w0 I0 s a.tmps w I Fs→yC3 r q i s j cs KK→oo+k=o+i*sz+j→Cells I w cs nil us F→Fresh w0 w I Fs F →
    (∃ d rows,s[r]?=some d∧zAf d q=some (.sl true sz rows)∧zA8 w u0 d q=some u1) →
    ∃ s' Fs' w',KK s'∧RelI w0 I0 s' a.tmps w' I Fs'∧(storeCells ⟨b,oo,none⟩ us k).run P w=.ok () w'
  | [],s,Fs,w,j,oo,k,us,F,KK,h,hk,_,hc,_,_=>by simp only [Cells] at hc;obtain ⟨rfl,_⟩:=hc;exact ⟨s,Fs,w,hk,h,rfl⟩
  | c :: cs,s,Fs,w,j,oo,k,us,F,KK,h,hk,hj,hc,hF,⟨d,rows,hs,ht,hv⟩=>by
    simp only [yC3] at hk;obtain ⟨hleaf,hk⟩:=hk;simp only [Cells] at hc;obtain ⟨u,us',F1,F2,e,hFe,ho,hT,h2⟩:=hc;subst e;subst hFe;have hF1:Fresh w0 w I Fs F1:=⟨(xA5.1 hF.1).1,fun b hb=>hF.2 b qBg⟩
    have ha:zFu w u0 d (q++[(i,j)])=some (b,oo+k):=(by rw [hj];exact yCk q d u0 i j ht rfl hv hb);obtain ⟨s',qq,Fs',hK,hrel,hsome,hfz,hwb,⟨d',hd',hkeep⟩,hρ,hFs',hI',hN'⟩:=yN6 h hk qAh hs hu ha ho (yHx hleaf hT) hF1;have hn:¬ (q++[(i,j)]) <+: q:=fun hp=>by have:=hp.length_le;simp only [xC4,xE4] at this;omega
    obtain ⟨m1,t',m2,m3⟩:=hkeep q _ sz rows hn ht rfl;obtain ⟨rows',rfl⟩:=yR7 m3;have hc':Cells I (w.setCell ⟨b,oo+k,none⟩ u) cs nil us' F2:=Cells.keep cs h2 (fun x hx=>by
      rcases hx with hx | hx
      · exact hI' x hx
      · exact hN' x (hF.2 x qAi).2.2.2)
    have hF2:Fresh w0 (w.setCell ⟨b,oo+k,none⟩ u) I Fs' F2:=⟨(xA5.1 hF.1).2.1,fun x hx=>by
      have:=hF.2 x qAi;refine ⟨this.1,by simpa [World.setCell] using this.2.1,this.2.2.1,fun r' hr=>?_⟩;rcases hFs' r' x hr with hr | hr
      · exact this.2.2.2 r' hr
      · exact (xA5.1 hF.1).2.2 x hr x hx rfl⟩
    obtain ⟨s'',Fs'',w'',k1,k2,k3⟩:=yN5 hu hb cs s' Fs' _ (j+1) oo (k+1) us' F2 KK hrel hK qAc hc' hF2 ⟨d',rows',hd',m2,by rw [m1];exact hv⟩;exact ⟨s'',Fs'',w'',k1,k2,by rw [zP2 ho hsome hfz];exact k3⟩
theorem Cells.rise {ρ:D→Value→Prop}(cs:List D){us:List Value}{F:List Nat}(h:Cells I w cs nil us F):Cells I w cs ρ us F:=by have h1:=Cells.turn (q:=fun _=>true) (ρ':=ρ) (fun x u _ hx=>hx.elim) cs h;rwa [zBy] at h1
theorem yFs (h:RelI w0 I0 s a.tmps w I Fs) {n:Nat} {x y:Operand} {ty:TypeId} {o:Oper} (ho:o.op=.store ty x y) (hn:(P.info? ty).map (·.size)=some n) (hk:zAh Ctr s (.store n x y) K):RunsTo P (execOp a.eval o) w (OutOK false Fs I w w0 I0 a.tmps K):=by
  obtain ⟨Fs1,F,h1,hT,hF,hsub⟩:=yJl h y;have hX:=zC9 h1 x;simp only [zAh] at hk;split at hk
  · rename_i r q i j e;rw [e] at hX;obtain ⟨hok,hlen,hk⟩:=hk;simp only [T] at hX;obtain ⟨⟨d,u0,t,sz,rows,u1,b,oo,m1,m2,m3,m4,m5,m6,m7⟩,_⟩:=hX;have hc:=zQh h1 hT hok;have hsz:(a.eval y).cells.size=n:=by have:=hc.len;simp at this;omega
    have fin:∀ (w':World),(storeCells ⟨b,oo+i*sz+j,none⟩ (a.eval y).cells.toList 0).run P w=.ok () w'→(execOp a.eval o).run P w=.ok .skip w':=by
      intro w' hr;cases hq:P.info? ty with
      | none=>simp [hq] at hn
      | some ii=>simp [hq] at hn;simp [execOp,ho,m7,Instr.storeAt,Instr.sureAddr,storeVar,sizeOf,typeInfo,hq,hn,hsz,hr]
    split at hk
    · rename_i hbox;obtain ⟨rfl,hk⟩:=hk;simp only [zAf,xAv] at m3;simp only [zA8,xAv] at m5;subst m3;subst m5;have hd:∃ tag cells,d=.box tag cells:=by cases d<;>first | exact ⟨_,_,rfl⟩ | simp [zO0,m1,zAf] at hbox
      obtain ⟨tag,cells,rfl⟩:=hd;have hTd:=h1.slot r _ u0 m1 m2;simp only [T] at hTd;obtain ⟨b',cs,e',F',hu',_,hh,hF',hcs⟩:=hTd;rw [hu'] at m6;simp only [zBa,xAv,xBd] at m6;obtain ⟨rfl,rfl⟩:=m6;split at hk
      · obtain ⟨hro,hnt,hk⟩:=hk;obtain ⟨cs',s2,Fs2,F',⟨hcl,hK⟩,h2,hC2,hF',hsub2,hin2,hρ2⟩:=zOi _ h1 hc hF hro hk;have hC3:Cells I w cs' (ρS s2 a.tmps w) (a.eval y).cells.toList F':=Cells.rise cs' hC2;obtain ⟨s',Fs',w',k1,k2,k3⟩:=yF6 (P:=P) m2 (by rw [hu'];rfl) n _ Fs2 w j (0+i*sz+j) 0 _ _ F' _ h2 hK hcl.symm (fun hi=>by subst hi;omega) hC3 hF';unfold RunsTo;rw [fin w' k3];exact ⟨.undef,s',I,Fs',[],k1,k2,by simp [T],Fresh.nil,fun h=>by cases h⟩
      obtain ⟨s',Fs',w',k1,k2,k3⟩:=yF6 (P:=P) m2 (by rw [hu'];rfl) n _ Fs1 w j (0+i*sz+j) 0 _ _ F _ h1 hk hlen.symm (fun hi=>by subst hi;omega) hc hF;unfold RunsTo;rw [fin w' k3];exact ⟨.undef,s',I,Fs',[],k1,k2,by simp [T],Fresh.nil,fun h=>by cases h⟩
    · rename_i hbox;obtain ⟨hro,hnt,hk⟩:=hk;obtain ⟨cs',s2,Fs2,F',⟨hnb,hK⟩,h2,hC2,hF',hsub2,hin2,hρ2⟩:=zOi _ h1 hc hF hro hk;have hp:=hρ2 (.ptr r q i j) _ hnt ⟨d,u0,t,sz,rows,u1,b,oo,m1,m2,m3,m4,m5,m6,m7⟩;obtain ⟨d2,u02,t2,sz2,rows2,u12,b2,o2,n1,n2,n3,n4,n5,n6,n7⟩:=hp;rw [m7] at n7;simp only [Value.pointer.injEq,xAv,Addr.mk.injEq,and_true] at n7;obtain ⟨rfl,n7⟩:=n7;by_cases hnil:cs'=[]
      · subst hnil;simp only [yC3] at hK;simp only [Cells] at hC2;obtain ⟨hz1,_⟩:=hC2;unfold RunsTo;rw [fin w (by rw [hz1];rfl)];exact ⟨.undef,s2,I,Fs2,[],hK,h2,by simp [T],Fresh.nil,fun h=>by cases h⟩
      have ht2:t2=.sl true sz2 rows2:=by
        cases t2 with
        | sl own z1 z2=>cases own<;>simp [D.cont] at n4;rw [n4.1,n4.2]
        | box tag cells=>simp [zO0,n1,n3] at hnb
        | mp k e =>
          exfalso;obtain ⟨u',_,_,k1,k2,_⟩:=zVc q d2 (h2.slot r d2 u02 n1 n2) n3;rw [n5] at k1;cases k1;simp only [T] at k2;cases k with
          | bld ty e1 =>
            cases cs' with
            | nil=>exact hnil rfl
            | cons c cs=>simp only [yC3] at hK;have hK2:=hK.2;simp [yC7,n1,zDa,n3,zAf,D.cont] at hK2
          | err ty =>
            cases cs' with
            | nil=>exact hnil rfl
            | cons c cs=>simp only [yC3] at hK;have hK2:=hK.2;simp [yC7,n1,zDa,n3,zAf,D.cont] at hK2
          | _=>obtain ⟨_,_,_,e2,_⟩:=k2;rw [e2] at n6;simp [zBa] at n6
        | _=>simp [D.cont] at n4
      subst ht2;obtain ⟨s',Fs',w',k1,k2,k3⟩:=yN5 (P:=P) n2 n6 cs' s2 Fs2 w j (oo+i*sz+j) 0 _ F' _ h2 hK qAc hC2 hF' ⟨d2,rows2,n1,n3,n5⟩;unfold RunsTo;rw [fin w' k3];exact ⟨.undef,s',I,Fs',[],k1,k2,by simp [T],Fresh.nil,fun h=>by cases h⟩
  · exact hk.elim
end
end Go.V
namespace Go.V
open Go.RowKit
mutual
theorem T.imm {I I':Nat→Prop}{w:World}(hI:∀ b,I b→I' b):∀ (d:D) {ρ u F},T I w d ρ u F→(∀ b,b∈F→I' b)→T I' w d.imm ρ u []
  | .undef,_,_,_,h,_=>by simp [T,D.imm]
  | .nils,_,_,_,h,_=>by simp only [T,D.imm] at h ⊢;exact ⟨h.1,trivial⟩
  | .v _,_,_,_,h,_=>by simp only [T,D.imm] at h ⊢;exact ⟨h.1,trivial⟩
  | .sl own sz rows,ρ,u,F,h,hF=>by
    simp only [T,D.imm,zKo] at h ⊢;obtain ⟨a,c,e,h1,h2,h3⟩:=h;refine ⟨a,c,e,h1,h2,.inl ⟨trivial,trivial,?_⟩⟩;rcases h3 with ⟨ho,hF',hr⟩ | ⟨ho,hr⟩
    · rcases hr with hr | ⟨b,o,raw,ha,hb,hr,hR⟩
      · exact .inl (immLL_nil.2 hr)
      · exact .inr ⟨b,o,raw,ha,hI b hb,hr,Rows.imm hI sz rows hR (fun _ h=>by cases h)⟩
    · rcases hr with ⟨ha,hc,hF'⟩ | ⟨b,o,cells,e,raw,F',ha,hh,hs,hr,hF',hR⟩
      · exact .inl (immLL_nil.2 (xCb qAc))
      · exact .inr ⟨b,o,raw,ha,hF b (by simp [hF']),hr,Rows.imm hI sz rows hR (fun x hx=>hF x (by simp [hF',hx]))⟩
  | .agg cs,ρ,u,F,h,hF=>by simp only [T,D.imm] at h ⊢;obtain ⟨us,e,hc⟩:=h;exact ⟨us,e,Cells.imm hI cs hc hF⟩
  | .tup vs,ρ,u,F,h,hF=>by simp only [T,D.imm] at h ⊢;obtain ⟨us,e,hc⟩:=h;exact ⟨us,e,Vals.imm hI vs hc hF⟩
  | .ref _ _,_,_,_,h,_=>by simp only [T,D.imm] at h ⊢;exact ⟨h.1,trivial⟩
  | .ptr _ _ _ _,_,_,_,h,_=>by simp only [T,D.imm] at h ⊢;exact ⟨h.1,trivial⟩
  | .sub _ _ _ _,_,_,_,h,_=>by simp only [T,D.imm] at h ⊢;exact ⟨h.1,trivial⟩
  | .iptr cells j,ρ,u,F,h,hF=>by simp only [T,D.imm] at h ⊢;obtain ⟨hF',b,o,raw,e,hb,hr,hc⟩:=h;exact ⟨trivial,b,o,raw,e,hI b hb,hr,Cells.mono hI cells hc⟩
  | .box _ cells,ρ,u,F,h,hF=>by simp [T,D.imm]
  | .mp k e,ρ,u,F,h,hF=>by simp only [T,D.imm] at h ⊢;exact ⟨trivial,F,h,hF⟩
  | .imp k e,ρ,u,F,h,hF=>by simp only [T,D.imm] at h ⊢;obtain ⟨_,F',h1,h2⟩:=h;exact ⟨trivial,F',h1,fun b hb=>hI b (h2 b hb)⟩
  | .fn f first caps,ρ,u,F,h,hF=>by simp only [T,D.imm] at h ⊢;obtain ⟨us,vs,F1,F2,hu,hF',h1,h2⟩:=h;subst hF';exact ⟨us,vs,[],[],hu,rfl,Vals.imm hI first h1 (fun x hx=>hF x qAi),Vals.imm hI caps h2 (fun x hx=>hF x qAi)⟩
theorem Cells.imm {I I':Nat→Prop}{w:World}(hI:∀ b,I b→I' b):∀ (ds:List D) {ρ us F},Cells I w ds ρ us F→(∀ b,b∈F→I' b)→Cells I' w (zL7 ds) ρ us []
  | [],_,_,_,h,_=>by simp only [Cells,zL7] at h ⊢;exact ⟨h.1,trivial⟩
  | d::ds,ρ,us,F,h,hF=>by simp only [Cells,zL7] at h ⊢;obtain ⟨u,us',F1,F2,e,hF',ho,h1,h2⟩:=h;subst hF';exact ⟨u,us',[],[],e,rfl,ho,T.imm hI d h1 (fun x hx=>hF x qAi),Cells.imm hI ds h2 (fun x hx=>hF x qAi)⟩
theorem Vals.imm {I I':Nat→Prop}{w:World}(hI:∀ b,I b→I' b):∀ (ds:List D) {ρ us F},Vals I w ds ρ us F→(∀ b,b∈F→I' b)→Vals I' w (zL7 ds) ρ us []
  | [],_,_,_,h,_=>by simp only [Vals,zL7] at h ⊢;exact ⟨h.1,trivial⟩
  | d::ds,ρ,us,F,h,hF=>by simp only [Vals,zL7] at h ⊢;obtain ⟨u,us',F1,F2,e,hF',h1,h2⟩:=h;subst hF';exact ⟨u,us',[],[],e,rfl,T.imm hI d h1 (fun x hx=>hF x qAi),Vals.imm hI ds h2 (fun x hx=>hF x qAi)⟩
theorem Rows.imm {I I':Nat→Prop}{w:World}(hI:∀ b,I b→I' b)(sz:Nat):∀ (rs:List (List D)) {raw F},Rows I w sz rs raw F→(∀ b,b∈F→I' b)→Rows I' w sz (zGa rs) raw []
  | [],_,_,h,_=>by simp only [Rows,zGa] at h ⊢;exact ⟨h.1,trivial⟩
  | r::rs,raw,F,h,hF=>by simp only [Rows,zGa] at h ⊢;obtain ⟨us,raw',F1,F2,e,hF',hl,h1,h2⟩:=h;subst hF';exact ⟨us,raw',[],[],e,rfl,hl,Cells.imm hI r h1 (fun x hx=>hF x qAi),Rows.imm hI sz rs h2 (fun x hx=>hF x qAi)⟩
end
mutual
theorem T.le {I:Nat→Prop} {w:World}:∀ (d e:D) {ρ u},T I w d ρ u []→d.le e→T I w e ρ u []:=by
  intro d e ρ u h hl;cases e with
  | undef=>simp [T]
  | nils=>cases d<;>simp [D.le] at hl;exact h
  | v x=>cases d<;>simp [D.le] at hl;subst hl;exact h
  | sl own sz rows =>
    cases d with
    | nils =>
      simp only [D.le] at hl;subst hl;simp only [T] at h ⊢;refine ⟨none,0,by simpa using h.1,by simp,by unfold maxLen;omega,?_⟩;cases own
      · exact .inl qAh
      · exact .inr qAh
    | sl o z r=>simp only [D.le] at hl;cases hl;exact h
    | _=>simp [D.le] at hl
  | agg es =>
    cases d with
    | agg ds=>simp only [D.le] at hl;simp only [T] at h ⊢;obtain ⟨us,e,hc⟩:=h;exact ⟨us,e,Cells.le ds es hc hl⟩
    | _=>simp [D.le] at hl
  | tup es =>
    cases d with
    | tup ds=>simp only [D.le] at hl;simp only [T] at h ⊢;obtain ⟨us,e,hc⟩:=h;exact ⟨us,e,Vals.le ds es hc hl⟩
    | _=>simp [D.le] at hl
  | ref r q=>cases d<;>simp [D.le] at hl;obtain ⟨rfl,rfl⟩:=hl;exact h
  | ptr r q i j=>cases d<;>simp [D.le] at hl;obtain ⟨rfl,rfl,rfl,rfl⟩:=hl;exact h
  | sub r q i n=>cases d<;>simp [D.le] at hl;obtain ⟨rfl,rfl,rfl,rfl⟩:=hl;exact h
  | iptr es j =>
    cases d with
    | iptr ds i =>
      simp only [D.le] at hl;obtain ⟨m,rfl,hl⟩:=hl;simp only [T] at h ⊢;obtain ⟨hF,b,o,raw,e,hb,hr,hc⟩:=h;refine ⟨hF,b,o+m,(raw.drop m).take es.length,by rw [e,xDp],hb,fun k v hk'=>?_,Cells.le _ es ((hc.drop m).take es.length) hl⟩;have:raw[m+k]?=some v:=by
        rw [xDt] at hk';split at hk'
        · rw [xDb] at hk';exact hk'
        · cases hk'
      have:=hr _ v this;rw [← this];congr 2;omega
    | _=>simp [D.le] at hl
  | box t es=>cases d<;>simp [D.le] at hl;obtain ⟨rfl,rfl⟩:=hl;exact h
  | mp t es=>cases d<;>simp [D.le] at hl;obtain ⟨rfl,rfl⟩:=hl;exact h
  | imp t es=>cases d<;>simp [D.le] at hl;obtain ⟨rfl,rfl⟩:=hl;exact h
  | fn f a b =>
    cases d with
    | fn g c e=>simp only [D.le] at hl;obtain ⟨rfl,hl1,hl2⟩:=hl;simp only [T] at h ⊢;obtain ⟨us,vs,F1,F2,hu,hF,h1,h2⟩:=h;simp at hF;obtain ⟨rfl,rfl⟩:=hF;exact ⟨us,vs,[],[],hu,rfl,Vals.le c a h1 hl1,Vals.le e b h2 hl2⟩
    | _=>simp [D.le] at hl
theorem Cells.le {I:Nat→Prop}{w:World}:∀ (ds es:List D) {ρ us},Cells I w ds ρ us []→leL ds es→Cells I w es ρ us []:=by
  intro ds es ρ us h hl;cases ds with
  | nil=>cases es<;>simp [leL] at hl;exact h
  | cons d ds =>
    cases es with
    | nil=>simp [leL] at hl
    | cons e es=>simp only [leL] at hl;simp only [Cells] at h ⊢;obtain ⟨u,us',F1,F2,e',hF,ho,h1,h2⟩:=h;simp at hF;obtain ⟨rfl,rfl⟩:=hF;exact ⟨u,us',[],[],e',rfl,ho,T.le d e h1 hl.1,Cells.le ds es h2 hl.2⟩
theorem Vals.le {I:Nat→Prop}{w:World}:∀ (ds es:List D) {ρ us},Vals I w ds ρ us []→leL ds es→Vals I w es ρ us []:=by
  intro ds es ρ us h hl;cases ds with
  | nil=>cases es<;>simp [leL] at hl;exact h
  | cons d ds =>
    cases es with
    | nil=>simp [leL] at hl
    | cons e es=>simp only [leL] at hl;simp only [Vals] at h ⊢;obtain ⟨u,us',F1,F2,e',hF,h1,h2⟩:=h;simp at hF;obtain ⟨rfl,rfl⟩:=hF;exact ⟨u,us',[],[],e',rfl,T.le d e h1 hl.1,Vals.le ds es h2 hl.2⟩
end
mutual
theorem T.leF {I:Nat→Prop}{w:World}:∀ (d e:D) {ρ u F},T I w d ρ u F→d.le e→∃ F',T I w e ρ u F'∧F'.Sublist F:=by
  intro d e ρ u F h hl;cases e with
  | undef=>exact ⟨[],by simp [T],xEu _⟩
  | nils=>cases d<;>simp [D.le] at hl;exact ⟨F,h,xDf _⟩
  | v x=>cases d<;>simp [D.le] at hl;subst hl;exact ⟨F,h,xDf _⟩
  | sl own sz rows =>
    cases d with
    | nils=>simp only [T] at h;obtain ⟨h1,rfl⟩:=h;exact ⟨[],T.le .nils (.sl own sz rows) (by simp only [T];exact ⟨h1,trivial⟩) hl,xDf _⟩
    | sl o z r=>simp only [D.le] at hl;cases hl;exact ⟨F,h,xDf _⟩
    | _=>simp [D.le] at hl
  | agg es =>
    cases d with
    | agg ds=>simp only [D.le] at hl;simp only [T] at h ⊢;obtain ⟨us,e,hc⟩:=h;obtain ⟨F',k1,k2⟩:=Cells.leF ds es hc hl;exact ⟨F',⟨us,e,k1⟩,k2⟩
    | _=>simp [D.le] at hl
  | tup es =>
    cases d with
    | tup ds=>simp only [D.le] at hl;simp only [T] at h ⊢;obtain ⟨us,e,hc⟩:=h;obtain ⟨F',k1,k2⟩:=Vals.leF ds es hc hl;exact ⟨F',⟨us,e,k1⟩,k2⟩
    | _=>simp [D.le] at hl
  | ref r q=>cases d<;>simp [D.le] at hl;obtain ⟨rfl,rfl⟩:=hl;exact ⟨F,h,xDf _⟩
  | ptr r q i j=>cases d<;>simp [D.le] at hl;obtain ⟨rfl,rfl,rfl,rfl⟩:=hl;exact ⟨F,h,xDf _⟩
  | sub r q i n=>cases d<;>simp [D.le] at hl;obtain ⟨rfl,rfl,rfl,rfl⟩:=hl;exact ⟨F,h,xDf _⟩
  | iptr es j =>
    cases d with
    | iptr ds i=>have hF:F=[]:=(by simp only [T] at h;exact h.1);subst hF;exact ⟨[],T.le _ _ h hl,xDf _⟩
    | _=>simp [D.le] at hl
  | box t es=>cases d<;>simp [D.le] at hl;obtain ⟨rfl,rfl⟩:=hl;exact ⟨F,h,xDf _⟩
  | mp t es=>cases d<;>simp [D.le] at hl;obtain ⟨rfl,rfl⟩:=hl;exact ⟨F,h,xDf _⟩
  | imp t es=>cases d<;>simp [D.le] at hl;obtain ⟨rfl,rfl⟩:=hl;exact ⟨F,h,xDf _⟩
  | fn f a b =>
    cases d with
    | fn g c e=>simp only [D.le] at hl;obtain ⟨rfl,hl1,hl2⟩:=hl;simp only [T] at h ⊢;obtain ⟨us,vs,F1,F2,hu,hF,h1,h2⟩:=h;obtain ⟨F1',k1,k2⟩:=Vals.leF c a h1 hl1;obtain ⟨F2',k3,k4⟩:=Vals.leF e b h2 hl2;exact ⟨F1'++F2',⟨us,vs,F1',F2',hu,rfl,k1,k3⟩,by rw [hF];exact k2.append k4⟩
    | _=>simp [D.le] at hl
theorem Cells.leF {I:Nat→Prop}{w:World}:∀ (ds es:List D) {ρ us F},Cells I w ds ρ us F→leL ds es→∃ F',Cells I w es ρ us F'∧F'.Sublist F:=by
  intro ds es ρ us F h hl;cases ds with
  | nil=>cases es<;>simp [leL] at hl;exact ⟨F,h,xDf _⟩
  | cons d ds =>
    cases es with
    | nil=>simp [leL] at hl
    | cons e es=>simp only [leL] at hl;simp only [Cells] at h ⊢;obtain ⟨u,us',F1,F2,e',hF,ho,h1,h2⟩:=h;obtain ⟨F1',k1,k2⟩:=T.leF d e h1 hl.1;obtain ⟨F2',k3,k4⟩:=Cells.leF ds es h2 hl.2;exact ⟨F1'++F2',⟨u,us',F1',F2',e',rfl,ho,k1,k3⟩,by rw [hF];exact k2.append k4⟩
theorem Vals.leF {I:Nat→Prop}{w:World}:∀ (ds es:List D) {ρ us F},Vals I w ds ρ us F→leL ds es→∃ F',Vals I w es ρ us F'∧F'.Sublist F:=by
  intro ds es ρ us F h hl;cases ds with
  | nil=>cases es<;>simp [leL] at hl;exact ⟨F,h,xDf _⟩
  | cons d ds =>
    cases es with
    | nil=>simp [leL] at hl
    | cons e es=>simp only [leL] at hl;simp only [Vals] at h ⊢;obtain ⟨u,us',F1,F2,e',hF,h1,h2⟩:=h;obtain ⟨F1',k1,k2⟩:=T.leF d e h1 hl.1;obtain ⟨F2',k3,k4⟩:=Vals.leF ds es h2 hl.2;exact ⟨F1'++F2',⟨u,us',F1',F2',e',rfl,k1,k3⟩,by rw [hF];exact k2.append k4⟩
end
end Go.V
namespace Go.V
open Go.RowKit
section
variable {P:Program} {w0:Base} {I0:Nat→Prop} {s:List D} {a:Act} {w:World} {I:Nat→Prop} {Fs:Nat→List Nat} {K:D→List D→Prop} {nn:Bool}
mutual
theorem T.noImm {I I':Nat→Prop}{w:World}:∀ (d:D) {ρ u F},T I w d ρ u F→d.noImm=true→T I' w d ρ u F
  | .undef,_,_,_,h,_=>by simpa only [T] using h
  | .nils,_,_,_,h,_=>by simpa only [T] using h
  | .v _,_,_,_,h,_=>by simpa only [T] using h
  | .sl own sz rows,ρ,u,F,h,hn=>by
    simp only [D.noImm,xA2] at hn;obtain ⟨rfl,hn⟩:=hn;simp only [T] at h ⊢;obtain ⟨a,c,e,h1,h2,h3⟩:=h;refine ⟨a,c,e,h1,h2,?_⟩;rcases h3 with ⟨ho,_⟩ | ⟨ho,hr⟩
    · cases ho
    · refine .inr ⟨trivial,?_⟩;rcases hr with hr | ⟨b,o,cells,e,raw,F',ha,hh,hs,hr,hF',hR⟩
      · exact .inl hr
      · exact .inr ⟨b,o,cells,e,raw,F',ha,hh,hs,hr,hF',Rows.noImm sz rows hR hn⟩
  | .agg cs,ρ,u,F,h,hn=>by simp only [T] at h ⊢;obtain ⟨us,e,hc⟩:=h;exact ⟨us,e,Cells.noImm cs hc (by simpa [D.noImm] using hn)⟩
  | .tup vs,ρ,u,F,h,hn=>by simp only [T] at h ⊢;obtain ⟨us,e,hc⟩:=h;exact ⟨us,e,Vals.noImm vs hc (by simpa [D.noImm] using hn)⟩
  | .ref _ _,_,_,_,_,hn=>by simp [D.noImm] at hn
  | .ptr _ _ _ _,_,_,_,_,hn=>by simp [D.noImm] at hn
  | .sub _ _ _ _,_,_,_,_,hn=>by simp [D.noImm] at hn
  | .iptr _ _,_,_,_,_,hn=>by simp [D.noImm] at hn
  | .box tag cs,ρ,u,F,h,hn=>by simp only [T] at h ⊢;obtain ⟨b,c,e,F',hu,htg,hh,hF,hc⟩:=h;exact ⟨b,c,e,F',hu,htg,hh,hF,Cells.noImm cs hc (by simpa [D.noImm] using hn)⟩
  | .mp _ _,_,_,_,h,_=>by simpa only [T] using h
  | .imp _ _,_,_,_,_,hn=>by simp [D.noImm] at hn
  | .fn _ _ _,_,_,_,_,hn=>by simp [D.noImm] at hn
theorem Cells.noImm {I I':Nat→Prop}{w:World}:∀ (ds:List D) {ρ us F},Cells I w ds ρ us F→zBm ds=true→Cells I' w ds ρ us F
  | [],_,_,_,h,_=>by simpa only [Cells] using h
  | d::ds,ρ,us,F,h,hn=>by simp only [zBm,xA2] at hn;simp only [Cells] at h ⊢;obtain ⟨u,us',F1,F2,e,hF',ho,h1,h2⟩:=h;exact ⟨u,us',F1,F2,e,hF',ho,T.noImm d h1 hn.1,Cells.noImm ds h2 hn.2⟩
theorem Vals.noImm {I I':Nat→Prop}{w:World}:∀ (ds:List D) {ρ us F},Vals I w ds ρ us F→zBm ds=true→Vals I' w ds ρ us F
  | [],_,_,_,h,_=>by simpa only [Vals] using h
  | d::ds,ρ,us,F,h,hn=>by simp only [zBm,xA2] at hn;simp only [Vals] at h ⊢;obtain ⟨u,us',F1,F2,e,hF',h1,h2⟩:=h;exact ⟨u,us',F1,F2,e,hF',T.noImm d h1 hn.1,Vals.noImm ds h2 hn.2⟩
theorem Rows.noImm {I I':Nat→Prop}{w:World}(sz:Nat):∀ (rs:List (List D)) {raw F},Rows I w sz rs raw F→zF9 rs=true→Rows I' w sz rs raw F
  | [],_,_,h,_=>by simpa only [Rows] using h
  | r::rs,raw,F,h,hn=>by simp only [zF9,xA2] at hn;simp only [Rows] at h ⊢;obtain ⟨us,raw',F1,F2,e,hF',hl,h1,h2⟩:=h;exact ⟨us,raw',F1,F2,e,hF',hl,Cells.noImm r h1 hn.1,Rows.noImm sz rs h2 hn.2⟩
end
theorem zLb:∀ {ds:List D},zJb ds=true→∀ d,d∈ds→d.noRef=true
  | [],_,d,h=>by cases h
  | e::ds,hn,d,h=>by
    simp only [zJb,xA2] at hn;rcases xBs.1 h with rfl | h
    · exact hn.1
    · exact zLb hn.2 d h
theorem yBz (h:RelI w0 I0 s a.tmps w I Fs) {I':Nat→Prop} (hI:∀ b,I b→I' b):∀ (n:Nat) (d:D) {ρ:D→Value→Prop} {u:Value} {F:List Nat},(∀ x v,ρ x v→ρS s a.tmps w x v)→T I w d ρ u F→(∀ b,b∈F→I' b)→(d.noRef=true∨∀ r b,b∈Fs r→I' b)→T I' w (deep s n d) nil u []:=by
  intro n;induction n with
  | zero=>intro d ρ u F _ _ _ _;cases d<;>simp [deep,T]
  | succ n ih =>
    have hcells:∀ (ds:List D) {ρ:D→Value→Prop} {us:List Value} {F:List Nat},(∀ x v,ρ x v→ρS s a.tmps w x v)→Cells I w ds ρ us F→(∀ b,b∈F→I' b)→((∀ d,d∈ds→d.noRef=true)∨∀ r b,b∈Fs r→I' b)→Cells I' w (ds.map (deep s n)) nil us []:=by
      intro ds;induction ds with
      | nil=>intro ρ us F _ hc _ _;simp only [Cells] at hc;simp [Cells,hc.1]
      | cons d ds ihd=>intro ρ us F hρ hc hF hn;simp only [Cells] at hc;obtain ⟨u,us',F1,F2,e,hF',ho,h1,h2⟩:=hc;simp only [xA6,Cells];exact ⟨u,us',[],[],e,rfl,ho,ih d hρ h1 (fun b hb=>hF b qCh) (hn.imp_left (fun hn=>hn d qAh)),ihd hρ h2 (fun b hb=>hF b qCh) (hn.imp_left (fun hn x hx=>hn x qAi))⟩
    have hvals:∀ (ds:List D) {ρ:D→Value→Prop} {us:List Value} {F:List Nat},(∀ x v,ρ x v→ρS s a.tmps w x v)→Vals I w ds ρ us F→(∀ b,b∈F→I' b)→((∀ d,d∈ds→d.noRef=true)∨∀ r b,b∈Fs r→I' b)→Vals I' w (ds.map (deep s n)) nil us []:=by
      intro ds;induction ds with
      | nil=>intro ρ us F _ hc _ _;simp only [Vals] at hc;simp [Vals,hc.1]
      | cons d ds ihd=>intro ρ us F hρ hc hF hn;simp only [Vals] at hc;obtain ⟨u,us',F1,F2,e,hF',h1,h2⟩:=hc;simp only [xA6,Vals];exact ⟨u,us',[],[],e,rfl,ih d hρ h1 (fun b hb=>hF b qCh) (hn.imp_left (fun hn=>hn d qAh)),ihd hρ h2 (fun b hb=>hF b qCh) (hn.imp_left (fun hn x hx=>hn x qAi))⟩
    intro d ρ u F hρ hT hF hn;cases d with
    | undef=>simp [deep,T]
    | nils=>simp only [T] at hT;simp [deep,T,hT.1]
    | v x=>simp only [T] at hT;simp [deep,T,hT.1]
    | sl own sz rows=>have:=T.imm hI (.sl own sz rows) hT hF;simp only [D.imm] at this;simp only [deep];simpa only [T] using this
    | agg cs=>simp only [T] at hT;obtain ⟨us,e,hc⟩:=hT;simp only [deep,T];exact ⟨us,e,hcells cs hρ hc hF (hn.imp_left (fun hn=>zLb (by simpa [D.noRef] using hn)))⟩
    | tup cs=>simp [deep,T]
    | ref r q =>
      simp only [T] at hT;have hT':T I w (.ref r q) (ρS s a.tmps w) u []:=by simp only [T];exact ⟨hρ _ _ hT.1,trivial⟩
      rcases hn with hn | hn
      · simp [D.noRef] at hn
      simp only [deep];cases hs:zG3 s (.ref r q) with
      | some y=>obtain ⟨sz,rows⟩:=y;obtain ⟨F',ρ',k2,k3⟩:=zIm h hT' hs;have:=T.imm hI (.sl true sz rows) k2 (fun b hb=>hn r b (k3 b hb));simp only [D.imm] at this;simpa only [T] using this
      | none =>
        simp only;cases hm:yDk s (.ref r q) with
        | none=>simp [T]
        | some y=>obtain ⟨k,e⟩:=y;obtain ⟨F',ρ',k2,k3⟩:=yBd h hT' hm;have:=T.imm hI (.mp k e) k2 (fun b hb=>hn r b (k3 b hb));simp only [D.imm] at this;simpa only [T] using this
    | mp k e=>have:=T.imm hI (.mp k e) hT hF;simp only [D.imm] at this;simp only [deep];simpa only [T] using this
    | imp k e=>have:=T.imm hI (.imp k e) hT hF;simp only [D.imm] at this;simp only [deep];simpa only [T] using this
    | sub r q i n =>
      simp only [T] at hT;have hT':T I w (.sub r q i n) (ρS s a.tmps w) u []:=by simp only [T];exact ⟨hT.1.imp_left (hρ _ _),trivial⟩
      rcases hn with hn | hn
      · simp [D.noRef] at hn
      simp only [deep];cases hs:zG3 s (.sub r q i n) with
      | none=>simp [T]
      | some y =>
        obtain ⟨sz,rows⟩:=y;obtain ⟨ad,c,raw,F',e,h1,h2,_,h4,h5,h6⟩:=zOb h hT' hs;simp only [T,zKo];refine ⟨ad,c,e,h1,h2,.inl ⟨trivial,trivial,?_⟩⟩;rcases h6 with h6 | ⟨b,o,h6,h7,h8⟩
        · exact .inl (immLL_nil.2 h6)
        · exact .inr ⟨b,o,raw,h6,hn r b h7,h8,Rows.imm hI sz rows h4 (fun x hx=>hn r x (h5 x hx))⟩
    | ptr r q i j =>
      simp only [T] at hT;rcases hn with hn | hn
      · simp [D.noRef] at hn
      obtain ⟨d',u0,t,sz,rows,u1,b,oo,m1,m2,m3,m4,m5,m6,m7⟩:=hρ _ _ hT.1;simp only [deep];cases hr:rowAt s r q i with
      | none=>simp [T]
      | some row =>
        simp only;have hi:rows[i]?=some row:=by simpa [rowAt,m1,m3,m4] using hr
        obtain ⟨u',F',ρ',k1,k2,k3,k4,_⟩:=zVc q d' (h.slot r d' u0 m1 m2) m3;rw [m5] at k1;cases k1;obtain ⟨b',o',us,F2,ρ2,hb,hrr,hc,hρ2,hF2,hbF⟩:=yGg k2 m4 hi;obtain ⟨rfl,rfl⟩:b'=b∧o'=oo:=(by rw [m6] at hb;simpa [eq_comm] using hb);simp only [T];refine ⟨trivial,b',o'+i*sz,us,m7,hn r b' (k4 b' hbF),hrr,hcells row (fun x v hx=>?_) hc (fun x hx=>hn r x (k4 x (hF2 x hx))) (.inr hn)⟩;rcases hρ2 with rfl | rfl
        · rcases k3 with rfl | rfl
          · exact hx
          · exact hx.elim
        · exact hx.elim
    | iptr cs j=>simp only [T] at hT;obtain ⟨_,b,o,raw,e,hb,hr,hc⟩:=hT;simp only [deep,T];exact ⟨trivial,b,o,raw,e,hI b hb,hr,Cells.mono hI cs hc⟩
    | box tag cs=>simp [deep,T]
    | fn f x y =>
      simp only [T] at hT;obtain ⟨us,vs,F1,F2,hu,hF',h1,h2⟩:=hT;simp only [deep,T];refine ⟨us,vs,[],[],hu,rfl,hvals x hρ h1 (fun b hb=>hF b qCh) (hn.imp_left (fun hn=>?_)),hvals y hρ h2 (fun b hb=>hF b qCh) (hn.imp_left (fun hn=>?_))⟩
      · simp only [D.noRef,xA2] at hn;exact zLb hn.1
      · simp only [D.noRef,xA2] at hn;exact zLb hn.2
theorem yY1 (h:RelI w0 I0 s a.tmps w I Fs)(x:Operand):∃ F,T I w (raw s x) (ρS s a.tmps w) (a.eval x) F∧((raw s x).owny=true→∃ t,∀ b,b∈F→b∈Fs t)∧((raw s x).owny=false→F=[]):=by
  cases x with
  | tmp t =>
    simp only [raw];cases hs:s[t]? with
    | none=>exact ⟨[],by simp [T],fun h=>by simp [D.owny] at h,fun _=>rfl⟩
    | some d =>
      obtain ⟨u,hu,hT⟩:=h.slot0 hs;have hg:a.eval (.tmp t)=u:=(by simp [Act.eval,hu]);rw [hg];have gen:T I w d (ρS s a.tmps w) u (Fs t)→∃ F,T I w d (ρS s a.tmps w) u F∧(d.owny=true→∃ t,∀ b,b∈F→b∈Fs t)∧(d.owny=false→F=[]):=fun hT=>⟨Fs t,hT,fun _=>⟨t,fun b hb=>hb⟩,fun ho=>T.nofoot d hT ho⟩
      cases d with
      | box tag cells=>have:=zXy h t;simp only [lkT,hs] at this;simp only [hu,xC6,xDd] at this;exact ⟨[],this,fun h=>by simp [D.owny] at h,fun _=>rfl⟩
      | _=>exact gen hT
  | const v=>exact ⟨[],zC9 h (.const v),fun _=>⟨0,fun b hb=>by cases hb⟩,fun _=>rfl⟩
  | func f=>exact ⟨[],zC9 h (.func f),fun _=>⟨0,fun b hb=>by cases hb⟩,fun _=>rfl⟩
  | global g=>exact ⟨[],zC9 h (.global g),fun _=>⟨0,fun b hb=>by cases hb⟩,fun _=>rfl⟩
mutual
theorem zP8:∀ d:D,d.noRef=true→d.owny=false
  | .undef,_=>rfl
  | .nils,_=>rfl
  | .v _,_=>rfl
  | .sl own _ _,h=>by simpa [D.noRef,D.owny] using h
  | .agg cs,h=>by simp only [D.noRef] at h;simp only [D.owny];exact zGu cs h
  | .tup cs,h=>by simp only [D.noRef] at h;simp only [D.owny];exact zGu cs h
  | .ref _ _,h=>by simp [D.noRef] at h
  | .ptr _ _ _ _,h=>by simp [D.noRef] at h
  | .sub _ _ _ _,h=>by simp [D.noRef] at h
  | .iptr _ _,_=>rfl
  | .box _ _,h=>by simp [D.noRef] at h
  | .mp _ _,h=>by simp [D.noRef] at h
  | .imp _ _,_=>rfl
  | .fn _ a b,h=>by simp only [D.noRef,xA2] at h;simp only [D.owny,xEi];exact ⟨zGu a h.1,zGu b h.2⟩
theorem zGu:∀ ds:List D,zJb ds=true→zDy ds=false
  | [],_=>rfl
  | d::ds,h=>by simp only [zJb,xA2] at h;simp only [zDy,xEi];exact ⟨zP8 d h.1,zGu ds h.2⟩
end
def GI (G:World→(Nat→Prop)→Prop)(w:World)(I:Nat→Prop):Prop:=∃ J,(∀ b,J b→I b)∧G w J
theorem GI.mono {G:World→(Nat→Prop)→Prop}{w:World}{I I':Nat→Prop}(h:GI G w I)(hI:∀ b,I b→I' b):GI G w I':=by obtain ⟨J,h1,h2⟩:=h;exact ⟨J,fun b hb=>hI b (h1 b hb),h2⟩
def yUn (G:World→(Nat→Prop)→Prop):Prop:=∀ w w' J,(∀ b,J b→w'.heap[b]?=w.heap[b]?)→G w J→G w' J
theorem GI.keep {G:World→(Nat→Prop)→Prop}(hS:yUn G){w w':World}{I:Nat→Prop}(h:GI G w I)(hk:∀ b,I b→w'.heap[b]?=w.heap[b]?):GI G w' I:=by obtain ⟨J,h1,h2⟩:=h;exact ⟨J,h1,hS w w' J (fun b hb=>hk b (h1 b hb)) h2⟩
def Contract (P:Program) (G:World→(Nat→Prop)→Prop) (f:FuncId) (args:List D) (d:D):Prop :=
  (∀ (us:Array Value) (W:World),(callFunc f us).run P W=.ok (.enter f us) W) ∧
  ∀ (w:World) (I:Nat→Prop) (us:List Value),GI G w I→(∀ b,I b→b<w.heap.size)→Vals I w args nil us [] →
    Calls P f us.toArray w fun e w'=>∃ v F I',e=.returned v∧Below w.heap.size w w'∧T I' w' d nil v F∧F.Nodup∧(∀ b,b∈F→w.heap.size≤b∧b<w'.heap.size∧¬ I' b)∧(∀ b,I b→I' b)∧(∀ b,I' b→(I b∨w.heap.size≤b)∧b<w'.heap.size)
def ioB (w:World)(X:List Nat):Base:=⟨w,fun b=>w.heap.size≤b∨b∈X,fun _ h=>.inl h⟩
def ContractX (P:Program) (G:World→(Nat→Prop)→Prop) (f:FuncId) (i:Nat) (args cells:List D) (d:D) (cells':List D):Prop :=
  (∀ (us:Array Value) (W:World),(callFunc f us).run P W=.ok (.enter f us) W) ∧
  ∀ (w:World) (I:Nat→Prop) (us:List Value) (b:Nat) (X:List Nat),GI G w I→(∀ b,I b→b<w.heap.size)→us[i]?=some (.pointer (some ⟨b,0,none⟩))→Vals I w (args.set i .undef) nil us []→T I w (.box (some b) cells) nil (.pointer (some ⟨b,0,none⟩)) X→X.Nodup→(∀ x,x∈X→x<w.heap.size∧¬ I x) →
    Calls P f us.toArray w fun e w'=>∃ v F X' I',e=.returned v∧(ioB w X).Below w'∧T I' w' d nil v F∧T I' w' (.box (some b) cells') nil (.pointer (some ⟨b,0,none⟩)) X'∧(F++X').Nodup∧(∀ x,x∈F++X'→(w.heap.size≤x∨x∈X)∧x<w'.heap.size∧¬ I' x)∧(∀ b,I b→I' b)∧(∀ b,I' b→(I b∨w.heap.size≤b∨b∈X)∧b<w'.heap.size)
def zU9 (P:Program) (G:World→(Nat→Prop)→Prop) (f:FuncId) (i b:Nat) (args cells:List D) (d:D) (cells':List D):Prop :=
  (∀ (us:Array Value) (W:World),(callFunc f us).run P W=.ok (.enter f us) W) ∧
  ∀ (w:World) (I:Nat→Prop) (us:List Value) (X:List Nat),GI G w I→(∀ b,I b→b<w.heap.size)→us[i]?=some (.pointer (some ⟨b,0,none⟩))→Vals I w (args.set i .undef) nil us []→T I w (.box (some b) cells) nil (.pointer (some ⟨b,0,none⟩)) X→X.Nodup→(∀ x,x∈X→x<w.heap.size∧¬ I x) →
    Calls P f us.toArray w fun e w'=>∃ v F X' I',e=.returned v∧(ioB w X).Below w'∧T I' w' d nil v F∧T I' w' (.box (some b) cells') nil (.pointer (some ⟨b,0,none⟩)) X'∧(F++X').Nodup∧(∀ x,x∈F++X'→(w.heap.size≤x∨x∈X)∧x<w'.heap.size∧¬ I' x)∧(∀ b,I b→I' b)∧(∀ b,I' b→(I b∨w.heap.size≤b∨b∈X)∧b<w'.heap.size)
theorem ContractX.at {P:Program}{G:World→(Nat→Prop)→Prop}{f:FuncId}{i:Nat}{args cells:List D}{d:D}{cells':List D}(h:ContractX P G f i args cells d cells')(b:Nat):zU9 P G f i b args cells d cells' :=
  ⟨h.1,fun w I us X hG hI hu hV hT hn hX=>h.2 w I us b X hG hI hu hV hT hn hX⟩
def ContractL (P:Program) (G:World→(Nat→Prop)→Prop) (f:FuncId) (i:Nat) (args:List D) (d0 res d':D):Prop :=
  (∀ (us:Array Value) (W:World),(callFunc f us).run P W=.ok (.enter f us) W) ∧
  ∀ (w:World) (I:Nat→Prop) (us:List Value) (u:Value) (X:List Nat),GI G w I→(∀ b,I b→b<w.heap.size)→us[i]?=some u→Vals I w (args.set i .undef) nil us []→T I w d0 nil u X→X.Nodup→(∀ x,x∈X→x<w.heap.size∧¬ I x) →
    Calls P f us.toArray w fun e w'=>∃ v F X' I',e=.returned v∧(ioB w X).Below w'∧T I' w' res nil v F∧T I' w' d' nil u X'∧(F++X').Nodup∧(∀ x,x∈F++X'→(w.heap.size≤x∨x∈X)∧x<w'.heap.size∧¬ I' x)∧(∀ b,I b→I' b)∧(∀ b,I' b→(I b∨w.heap.size≤b∨b∈X)∧b<w'.heap.size)
def yJj (P:Program)(G:World→(Nat→Prop)→Prop)(f:FuncId)(sz:Nat):Prop :=
  (∀ (us:Array Value) (W:World),(callFunc f us).run P W=.ok (.enter f us) W) ∧
  ∀ (w:World) (J:Nat→Prop) (b o n c:Nat) (raw:List Value),GI G w J→(∀ x,J x→x<w.heap.size)→0<n→n≤c→c≤maxLen→raw.length=n*sz→(∀ u,u∈raw→u.oneCell'=true)→b<w.heap.size→w.rangeAt b o raw→Calls P f #[.slice (some ⟨b,o,none⟩) n c] w fun e w'=>e=.returned (.agg (raw.drop ((n-1)*sz)).toArray)∧Below w.heap.size w w'
def yEk (I:Nat→Prop)(W W':World):Prop:=∀ b,I b→W'.heap[b]?=W.heap[b]?
def yZ4 (P:Program) (f:FuncId) (lb:List Value) (encs:Nat→List Value) (N:Nat) (I:Nat→Prop) (w:World) (X:List Nat):Prop :=
  ∀ (l:Nat) (J:Nat→List (Nat×Obj)→World→Prop) (Jx:World→Prop) (W:World) (M0:List (Nat×Obj)),Below w.heap.size w W→M0.map (·.1)=X→(∀ p,p∈M0→w.heap[p.1]?=some p.2)→(∀ k M1 M2 b cs ty fz A j v,J k (M1++(b,.cells cs ty fz)::M2) A→J k (M1++(b,.cells (cs.setIfInBounds j v) ty fz)::M2) (A.setCell ⟨b,j,none⟩ v))→(∀ k M A B,J k M A→Below A.heap.size A B→J k M B)→(∀ k M A o,J k M A→J k ((A.heap.size,o)::M) (A.alloc o))→(∀ k M A p,J k M A→p∈M→A.heap[p.1]?=some p.2)→(∀ A B,Jx A→Below A.heap.size A B→Jx B) →
    (∀ k M W1,k<N→J k M W1→YieldAt Fence.wide 1 P l (encs k).toArray W1 fun e W'=>(e=.returned (.bool true)∧J (k+1) M W'∧yEk I W1 W')∨(e=.returned (.bool false)∧Jx W'))→J 0 M0 W →
    CallsIn Fence.wide 2 P f (#[.func (.yield l) #[] #[]]++lb.toArray) W fun e W'=>(∃ v,e=.returned v)∧((∃ M,J N M W')∨Jx W')
def yJh (P:Program) (G:World→(Nat→Prop)→Prop) (f:FuncId) (caps:List D) (xs:List (List D)):Prop :=
  (∀ (us:Array Value) (W:World),(callFunc f us).run P W=.ok (.enter f us) W) ∧
  ∀ (w:World) (I:Nat→Prop) (us:List Value) (X:List Nat),GI G w I→(∀ b,I b→b<w.heap.size)→Vals I w caps nil us X→X.Nodup→(∀ b,b∈X→b<w.heap.size∧¬ I b) →
    ∃ encs:Nat→List Value,(∀ k x,xs[k]?=some x→Vals I w x nil (encs k) [])∧yZ4 P f us encs xs.length I w X
def zG2 (P:Program) (G:World→(Nat→Prop)→Prop) (f:FuncId) (i j:Nat) (args:List D) (d0:List D) (res:D) (d':List D):Prop :=
  (∀ (us:Array Value) (W:World),(callFunc f us).run P W=.ok (.enter f us) W) ∧
  ∀ (w:World) (I:Nat→Prop) (us:List Value) (u1 u2:Value) (X:List Nat),GI G w I→(∀ b,I b→b<w.heap.size)→us[i]?=some u1→us[j]?=some u2→Vals I w args nil us []→Vals I w d0 nil [u1,u2] X→X.Nodup→(∀ x,x∈X→x<w.heap.size∧¬ I x) →
    Calls P f us.toArray w fun e w'=>∃ v F X' I',e=.returned v∧(ioB w X).Below w'∧T I' w' res nil v F∧Vals I' w' d' nil [u1,u2] X'∧(F++X').Nodup∧(∀ x,x∈F++X'→(w.heap.size≤x∨x∈X)∧x<w'.heap.size∧¬ I' x)∧(∀ b,I b→I' b)∧(∀ b,I' b→(I b∨w.heap.size≤b∨b∈X)∧b<w'.heap.size)
def CT (P:Program)(G:World→(Nat→Prop)→Prop):CtrT:=⟨Contract P G,zU9 P G,ContractL P G,yJj P G,yJh P G,zG2 P G⟩
theorem yOx {G:World→(Nat→Prop)→Prop}(hG:GI G w I0)(h:RelI w0 I0 s a.tmps w I Fs){f:FuncId}{ds args':List D}{us:List Value}{d:D}(hvs:∀ I':Nat→Prop,(∀ b,I b→I' b)→(ds.all D.noRef=true∨∀ r b,b∈Fs r→I' b)→Vals I' w (ds.map (deep s 8)) nil us [])(hle:leL (ds.map (deep s 8)) args')(hC:Contract P G f args' d)(hi:d.noImm=true∨ds.all D.noRef=true)(hK:K d s) :
    Calls P f us.toArray w fun e w'=>∃ v,e=.returned v∧OutOK nn Fs I w w0 I0 a.tmps K v w':=by
  by_cases hn:ds.all D.noRef=true
  · have hv:=(Vals.le _ _ (hvs I (fun _ h=>h) (.inl hn)) hle)
    refine (hC.2 w I us (hG.mono h.imm0) h.imm hv).mono ?_;rintro e w' ⟨v,F,I',he,hb,hT,hnd,hF,hI1,hI2⟩;have h':=(h.world hb).immMore (I':=I') hI1 (fun b hb'=>by
      obtain ⟨k1,k2⟩:=hI2 b hb';rcases k1 with k1 | k1
      · exact .inl k1
      · exact .inr ⟨Base.N_of h.below k1,k2,fun r hr=>by have:=(h.own r b hr).2.1;omega⟩)
    exact ⟨v,he,d,s,I',Fs,F,hK,h',hT.res (fun _ _ h=>h.elim),⟨hnd,fun b hb'=>⟨Base.N_of h.below (hF b hb').1,(hF b hb').2.1,(hF b hb').2.2,fun r hr=>by have:=(h.own r b hr).2.1;have:=(hF b hb').1;omega⟩⟩,fun _=>⟨hI1,fun b hb'=>(hI2 b hb').1,fun b hb'=>.inl (hF b hb').1,fun b hb' _=>hb.block b hb',fun _=>.inr rfl⟩⟩
  · have hni:=hi.resolve_right hn;have hv:=(Vals.le _ _ (hvs (fun b=>I b∨∃ r,b∈Fs r) (fun _ h=>.inl h) (.inr fun r b hb=>.inr ⟨r,hb⟩)) hle)
    refine (hC.2 w _ us (hG.mono fun b hb=>.inl (h.imm0 b hb)) (fun b hb=>hb.elim (h.imm b) (fun ⟨r,hr⟩=>(h.own r b hr).2.1)) hv).mono ?_;rintro e w' ⟨v,F,I',he,hb,hT,hnd,hF,hI1,hI2⟩;exact ⟨v,he,d,s,I,Fs,F,hK,h.world hb,(T.noImm d hT hni).res (fun _ _ h=>h.elim),⟨hnd,fun b hb'=>⟨Base.N_of h.below (hF b hb').1,(hF b hb').2.1,fun hI=>by have:=h.imm b hI;have:=(hF b hb').1;omega,fun r hr=>by have:=(h.own r b hr).2.1;have:=(hF b hb').1;omega⟩⟩,fun _=>Frame.below hb (fun b hb'=>.inl (hF b hb').1) (fun _=>.inr rfl)⟩
theorem zNy {ρ:D→Value→Prop}:∀ {ds:List D} {us:List Value} {ds':List D} {us':List Value},Vals I w ds ρ us []→Vals I w ds' ρ us' []→Vals I w (ds++ds') ρ (us++us') []
  | [],us,ds',us',h,h'=>by simp only [Vals] at h;simpa [h.1] using h'
  | d::ds,us,ds',us',h,h'=>by simp only [Vals] at h;obtain ⟨u,us1,F1,F2,e,hF,ht,h2⟩:=h;simp at hF;obtain ⟨rfl,rfl⟩:=hF;simp only [xBi,Vals];exact ⟨u,us1++us',[],[],by simp [e],rfl,ht,zNy h2 h'⟩
theorem zYj (h:RelI w0 I0 s a.tmps w I Fs)(I':Nat→Prop)(hI:∀ b,I b→I' b):∀ (xs:List Operand),((xs.map (raw s)).all D.noRef=true∨∀ r b,b∈Fs r→I' b)→Vals I' w ((xs.map (raw s)).map (deep s 8)) nil (xs.map a.eval) []
  | [],_=>by simp [Vals]
  | x :: xs,hn=>by
    obtain ⟨F,hT,h1,h2⟩:=yY1 h x;simp only [xA6,Vals];refine ⟨_,_,[],[],rfl,rfl,yBz h hI 8 (raw s x) (fun _ _ h=>h) hT (fun b hb=>?_) (hn.imp_left (fun hn=>by simp only [xA6,xBm,xA2] at hn;exact hn.1)),zYj h I' hI xs (hn.imp_left (fun hn=>by simp only [xA6,xBm,xA2] at hn;exact hn.2))⟩;by_cases ho:(raw s x).owny=true
    · rcases hn with hn | hn
      · simp only [xA6,xBm,xA2] at hn;rw [zP8 _ hn.1] at ho;cases ho
      · obtain ⟨t,ht⟩:=h1 ho;exact hn t b (ht b hb)
    · rw [h2 (by simpa using ho)] at hb;cases hb
theorem zUy {ρ:D→Value→Prop}:∀ {ds:List D} {us:List Value} {F:List Nat},Cells I w ds ρ us F→∀ u,u∈us→u.oneCell'=true
  | [],us,F,h,u,hu=>by simp only [Cells] at h;rw [h.1] at hu;cases hu
  | d::ds,us,F,h,u,hu=>by
    simp only [Cells] at h;obtain ⟨v,us',F1,F2,e,_,ho,_,h2⟩:=h;rw [e] at hu;rcases xBs.1 hu with rfl | hu
    · exact ho
    · exact zUy h2 u hu
theorem zUh {sz:Nat}:∀ {rows:List (List D)} {raw:List Value} {F:List Nat},Rows I w sz rows raw F→raw.length=rows.length*sz∧∀ u,u∈raw→u.oneCell'=true
  | [],raw,F,h=>by simp only [Rows] at h;simp [h.1]
  | r::rs,raw,F,h=>by
    simp only [Rows] at h;obtain ⟨us,raw',F1,F2,e,_,hl,h1,h2⟩:=h;obtain ⟨k1,k2⟩:=zUh h2;refine ⟨by rw [e,xC4,hl,k1,xBk,xC8,xDs,xE2],fun u hu=>?_⟩;rw [e] at hu;rcases xBf.1 hu with hu | hu
    · exact zUy h1 u hu
    · exact k2 u hu
theorem zXd {G:World→(Nat→Prop)→Prop}(hG:GI G w I0)(h:RelI w0 I0 s a.tmps w I Fs){f:FuncId}{xs:Array Operand}{ts:Array TypeId}{o:Oper}(ho:o.op=.call { callee:=.value (.func f),args:=xs,argTypes:=ts })(hk:∃ args' d,leL (xs.toList.map fun x=>deep s 8 (raw s x)) args'∧(CT P G).c f args' d∧(d.noImm=true∨((xs.toList.map fun x=>raw s x).all D.noRef)=true)∧K d s):RunsTo P (execOp a.eval o) w (OutOK nn Fs I w w0 I0 a.tmps K):=by obtain ⟨args',d,hle,hC,hi,hK⟩:=hk;have hm:Array.map a.eval xs=(List.map a.eval xs.toList).toArray:=qAz;have hrun:(execOp a.eval o).run P w=.ok (.enter f (List.map a.eval xs.toList).toArray) w:=qAt;unfold RunsTo;rw [hrun];exact yOx hG h (fun I' hI hn=>zYj h I' hI xs.toList hn) qBy hC hi hK
theorem yTv {G:World→(Nat→Prop)→Prop}(hG:GI G w I0)(h:RelI w0 I0 s a.tmps w I Fs){f:FuncId}{ds args':List D}{us:List Value}{d:D}(hvs:∀ I':Nat→Prop,(∀ b,I b→I' b)→(ds.all D.noRef=true∨∀ r b,b∈Fs r→I' b)→Vals I' w (ds.map (deep s 8)) nil us [])(hle:leL (ds.map (deep s 8)) args')(hC:Contract P G f args' d)(hni:d.noImm=true)(hK:K d.imm s) :
    Calls P f us.toArray w fun e w'=>∃ v,e=.returned v∧OutOK nn Fs I w w0 I0 a.tmps K v w':=by
  have hv:=(Vals.le _ _ (hvs (fun b=>I b∨∃ r,b∈Fs r) (fun _ h=>.inl h) (.inr fun r b hb=>.inr ⟨r,hb⟩)) hle)
  refine (hC.2 w _ us (hG.mono fun b hb=>.inl (h.imm0 b hb)) (fun b hb=>hb.elim (h.imm b) (fun ⟨r,hr⟩=>(h.own r b hr).2.1)) hv).mono ?_;rintro e w' ⟨v,F,I',he,hb,hT,hnd,hF,hI1,hI2⟩;have h':=(h.world hb).immMore (I':=fun b=>I b∨b∈F) (fun _ h=>.inl h) (fun b hb'=>hb'.imp id (fun hb'=>⟨Base.N_of h.below (hF b hb').1,(hF b hb').2.1,fun r hr=>by have:=(h.own r b hr).2.1;have:=(hF b hb').1;omega⟩));exact ⟨v,he,d.imm,s,fun b=>I b∨b∈F,Fs,[],hK,h',(T.imm (I:=I) (fun _ h=>.inl h) d (T.noImm d hT hni) (fun b hb=>.inr hb)).res (fun _ _ h=>h.elim),Fresh.nil,fun _=>⟨fun _ h=>.inl h,fun b hb'=>hb'.imp id (fun hb'=>(hF b hb').1),fun b hb=>(by cases hb),fun b hb' _=>hb.block b hb',fun _=>.inr rfl⟩⟩
theorem yFz {G:World→(Nat→Prop)→Prop}(hG:GI G w I0)(h:RelI w0 I0 s a.tmps w I Fs){f:FuncId}{xs:Array Operand}{ts:Array TypeId}{o:Oper}(ho:o.op=.call { callee:=.value (.func f),args:=xs,argTypes:=ts })(hk:xAe (CT P G) f s xs.toList K):RunsTo P (execOp a.eval o) w (OutOK nn Fs I w w0 I0 a.tmps K):=by obtain ⟨args',d,hle,hC,hi,hK⟩:=hk;have hm:Array.map a.eval xs=(List.map a.eval xs.toList).toArray:=qAz;have hrun:(execOp a.eval o).run P w=.ok (.enter f (List.map a.eval xs.toList).toArray) w:=qAt;unfold RunsTo;rw [hrun];exact yTv hG h (fun I' hI hn=>zYj h I' hI xs.toList hn) qBy hC hi hK
theorem yAq {G:World→(Nat→Prop)→Prop} (hG:GI G w I0) (h:RelI w0 I0 s a.tmps w I Fs) {f:FuncId} {xs:Array Operand} {ts:Array TypeId} {o:Oper} (ho:o.op=.call { callee:=.value (.func f),args:=xs,argTypes:=ts }) (hk:zAh (CT P G) s (.call f xs.toList) K):RunsTo P (execOp a.eval o) w (OutOK nn Fs I w w0 I0 a.tmps K):=by
  rcases hk with hk | ⟨x,sz,r,q,rows,row,hxs,hC,hlk,hsl,hrow,hrl,hK⟩ | hk
  · exact zXd hG h ho hk
  rotate_left
  · exact yFz hG h ho hk
  have hm:Array.map a.eval xs=#[a.eval x]:=(by apply xF0;simp [hxs]);have hrun:(execOp a.eval o).run P w=.ok (.enter f #[a.eval x]) w:=qAt;unfold RunsTo;rw [hrun];have hX:=zC9 h x;rw [hlk] at hX;simp only [T,ρS] at hX;obtain ⟨⟨d',u0,t,m1,m2,m3,m4,m5⟩,_⟩:=hX;simp only [zG3,m1,m3] at hsl;cases t with
  | sl own sz' rows' =>
    cases own with
    | false=>simp at hsl
    | true =>
    simp only [xAv,xBd] at hsl;obtain ⟨rfl,rfl⟩:=hsl;obtain ⟨u',F',ρ',k1,k2,k3,k4,k5⟩:=zVc q d' (h.slot r d' u0 m1 m2) m3;rw [m5] at k1;cases k1;obtain ⟨b,oo,us,F2,ρ2,hb,hr,hc,hρ2,_⟩:=yGg k2 (show (D.sl true sz' rows').cont=some (sz',rows') from rfl) hrow;have hlt:=(xA4.1 hrow).1;have hform:∃ c raw,a.eval x=.slice (some ⟨b,oo,none⟩) rows'.length c∧rows'.length≤c∧c≤maxLen∧raw.length=rows'.length*sz'∧(∀ u,u∈raw→u.oneCell'=true)∧b<w.heap.size∧w.rangeAt b oo raw:=by
      simp only [T] at k2;obtain ⟨p,c,e,h1,h2,h3⟩:=k2;rcases h3 with ⟨ho,_⟩ | ⟨_,⟨_,hc0,_⟩ | ⟨b',o',cells,e',raw,F3,ha,hh,_,hra,_,hRw⟩⟩
      · cases ho
      · omega
      · rw [e,ha] at hb;simp only [zBa,xAv,xBd] at hb;obtain ⟨rfl,rfl⟩:=hb;obtain ⟨n1,n2⟩:=zUh hRw;exact ⟨c,raw,by rw [e,ha],h1,h2,n1,n2,(xBg.1 hh).1,hra⟩
    obtain ⟨c,raw,hu,hc1,hc2,hl1,hone,hbl,hra⟩:=hform;have hus:raw.drop ((rows'.length-1)*sz')=us:=by
      have hn:rows'.length*sz'=(rows'.length-1)*sz'+sz':=by
        conv=>lhs;rw [show rows'.length=(rows'.length-1)+1 by omega]
        rw [xC8,xDs]
      have hl2:(raw.drop ((rows'.length-1)*sz')).length=us.length:=(by rw [xEh,hl1,hc.len,hrl];omega);apply List.ext_getElem hl2;intro j h1 h2;have e1:=hr j _ (xA1 h2);rw [List.getElem_drop];have h3:(rows'.length-1)*sz'+j<raw.length:=(by rw [xEh] at h1;omega);have e2:=hra _ _ (xA1 h3);rw [show oo+((rows'.length-1)*sz'+j)=oo+(rows'.length-1)*sz'+j by omega,e1] at e2;exact (Option.some.inj e2).symm
    have hres:∀ y v,ρ2 y v→ρS s a.tmps w y v:=by
      rcases hρ2 with rfl | rfl
      · rcases k3 with rfl | rfl
        · exact fun _ _ h=>h
        · exact fun _ _ h=>h.elim
      · exact fun _ _ h=>h.elim
    have hcp:Cells I w (zMa r q (rows'.length-1) 0 row) (ρS s a.tmps w) us []:=by
      refine yTo hres row us 0 F2 hc (fun k t' v ho' hk' hv'=>?_) (fun k tg cs v b2 hk' hv' he=>?_)
      · rw [xB2];exact ⟨d',u0,t',m1,m2,zOa m3 rfl hrow hk',ho',zN5 q d' u0 (rows'.length-1) k m3 rfl hrow hk' m5 hb (hr _ v hv')⟩
      · rw [xB2];exact ⟨d',u0,.box tg cs,cs.length,[cs],v,b2,0,m1,m2,zOa m3 rfl hrow hk',rfl,zN5 q d' u0 (rows'.length-1) k m3 rfl hrow hk' m5 hb (hr _ v hv'),by rw [he];rfl,by rw [he];simp⟩
    rw [hu];refine (hC.2 w I b oo rows'.length c raw (hG.mono h.imm0) h.imm qAc hc1 hc2 hl1 hone hbl hra).mono ?_;rintro e w' ⟨rfl,hbel⟩;rw [hus];have hR:=h.world hbel;have hT:T I w (.agg (zMa r q (rows'.length-1) 0 row)) (ρS s a.tmps w) (.agg us.toArray) []:=by simp only [T];exact ⟨us,rfl,hcp⟩
    refine ⟨_,rfl,_,s,I,Fs,[],hK,hR,?_,Fresh.nil,fun _=>Frame.below hbel (fun _ h=>by cases h) (fun _=>.inr rfl)⟩;exact (T.keep _ hT (fun b hb'=>hbel.block b (hb'.elim (h.imm b) (fun hx=>by cases hx)))).res (fun y v hy=>ρS_world h hbel hy)
  | _=>simp at hsl
theorem zXc {G:World→(Nat→Prop)→Prop}(hG:GI G w I0)(h:RelI w0 I0 s a.tmps w I Fs){x:Operand}{xs:Array Operand}{ts:Array TypeId}{o:Oper}(ho:o.op=.call { callee:=.value x,args:=xs,argTypes:=ts })(hk:zAh (CT P G) s (.callv x xs.toList) K):RunsTo P (execOp a.eval o) w (OutOK nn Fs I w w0 I0 a.tmps K):=by
  have hX:=zC9 h x;simp only [zAh] at hk;split at hk
  · rename_i f first caps e
    rw [e] at hX;obtain ⟨args',d,hle,hC,hi,hK⟩:=hk;simp only [T] at hX;obtain ⟨us,vs,F1,F2,hu,hF,h1,h2⟩:=hX;simp at hF;obtain ⟨rfl,rfl⟩:=hF;have hrun:(execOp a.eval o).run P w=.ok (.enter f (us++xs.toList.map a.eval++vs).toArray) w:=by have hm:Array.map a.eval xs=(List.map a.eval xs.toList).toArray:=qAz;simp only [execOp,ho,resolve,Sem.run_bind,hu,hm];simp [Deferred.ofValue,invoke,hC.1]
    unfold RunsTo;rw [hrun];have hsub:∀ (I':Nat→Prop),(∀ b,I b→I' b)→∀ (ds:List D) (us:List Value),Vals I w ds (ρS s a.tmps w) us []→(ds.all D.noRef=true∨∀ r b,b∈Fs r→I' b)→Vals I' w (ds.map (deep s 8)) nil us []:=by
      intro I' hI ds;induction ds with
      | nil=>intro us hv _;simp only [Vals] at hv;simp [Vals,hv.1]
      | cons d ds ih=>intro us hv hn;simp only [Vals] at hv;obtain ⟨u,us1,G1,G2,e,hF,ht,h2⟩:=hv;simp at hF;obtain ⟨rfl,rfl⟩:=hF;simp only [xA6,Vals];exact ⟨u,us1,[],[],e,rfl,yBz h hI 8 d (fun _ _ h=>h) ht (fun b hb=>by cases hb) (hn.imp_left (fun hn=>by simp only [xBm,xA2] at hn;exact hn.1)),ih us1 h2 (hn.imp_left (fun hn=>by simp only [xBm,xA2] at hn;exact hn.2))⟩
    refine yOx hG h (ds:=first++xs.toList.map (raw s)++caps) (fun I' hI hn=>?_) qBy hC (by simpa [xDl,Function.comp_def] using hi) hK;rw [xBo,xBo];have hn1:(first.all D.noRef=true∨∀ r b,b∈Fs r→I' b):=hn.imp_left (fun hn=>by simp only [xFs,xA2] at hn;exact hn.1.1);have hn2:((xs.toList.map (raw s)).all D.noRef=true∨∀ r b,b∈Fs r→I' b):=hn.imp_left (fun hn=>by simp only [xFs,xA2] at hn;exact hn.1.2);have hn3:(caps.all D.noRef=true∨∀ r b,b∈Fs r→I' b):=hn.imp_left (fun hn=>by simp only [xFs,xA2] at hn;exact hn.2);exact zNy (zNy (hsub I' hI first us h1 hn1) (zYj h I' hI xs.toList hn2)) (hsub I' hI caps vs h2 hn3)
  · exact hk.elim
end
end Go.V
namespace Go.V
open Go.RowKit
mutual
theorem zZb:∀ d:D,nle d d
  | .undef=>by simp [nle]
  | .nils=>by simp [nle]
  | .v _=>by simp [nle]
  | .sl o sz rows=>by simp only [nle];exact ⟨rows,rfl,zS0 rows⟩
  | .agg cs=>by simp only [nle];exact ⟨cs,rfl,zOn cs⟩
  | .tup cs=>by simp [nle]
  | .ref _ _=>by simp [nle]
  | .ptr _ _ _ _=>by simp [nle]
  | .sub _ _ _ _=>by simp [nle]
  | .iptr cs _=>by simp [nle]
  | .box _ cs=>by simp only [nle];exact ⟨cs,rfl,zOn cs⟩
  | .mp _ _=>by simp [nle]
  | .imp _ _=>by simp [nle]
  | .fn _ a b=>by simp only [nle];exact ⟨a,rfl,zOn a⟩
theorem zOn:∀ ds:List D,zFs ds ds
  | []=>by simp [zFs]
  | d::ds=>by simp only [zFs];exact ⟨d,ds,rfl,zZb d,zOn ds⟩
theorem zS0:∀ ds:List (List D),zG5 ds ds
  | []=>by simp [zG5]
  | d::ds=>by simp only [zG5];exact ⟨d,ds,rfl,zOn d,zS0 ds⟩
end
theorem zOo:zFs [] []:=by simp [zFs]
theorem zKk {d e:D}{ds es:List D}(h1:nle d e)(h2:zFs ds es):zFs (d::ds) (e::es):=by simp only [zFs];exact ⟨e,es,rfl,h1,h2⟩
theorem zOm {d e:D}(h:d=e):nle d e:=h▸zZb d
theorem zSx {o:Bool}{sz:Nat}:nle .nils (.sl o sz []):=by simp [nle]
theorem zSy {tag:Option Nat}{cs es:List D}(h:zFs cs es):nle (.box tag cs) (.box tag es):=by simp only [nle];exact ⟨es,rfl,h⟩
theorem zSz {cs es:List D}(h:zFs cs es):nle (.agg cs) (.agg es):=by simp only [nle];exact ⟨es,rfl,h⟩
theorem yA9 {o:Bool}{sz:Nat}{rows rows':List (List D)}(h:zG5 rows rows'):nle (.sl o sz rows) (.sl o sz rows'):=by simp only [nle];exact ⟨rows',rfl,h⟩
theorem zOp:zG5 [] []:=by simp [zG5]
theorem zLc {d e:List D}{ds es:List (List D)}(h1:zFs d e)(h2:zG5 ds es):zG5 (d::ds) (e::es):=by simp only [zG5];exact ⟨e,es,rfl,h1,h2⟩
theorem zRr:∀ {ds es:List D},zFs ds es→es.length=ds.length
  | [],es,h=>by simp only [zFs] at h;rw [h]
  | d::ds,es,h=>by simp only [zFs] at h;obtain ⟨c,cs,rfl,_,h⟩:=h;simp [zRr h]
theorem zXu:∀ {ds es:List (List D)},zG5 ds es→es.length=ds.length
  | [],es,h=>by simp only [zG5] at h;rw [h]
  | d::ds,es,h=>by simp only [zG5] at h;obtain ⟨c,cs,rfl,_,h⟩:=h;simp [zXu h]
theorem zIr:∀ {ds es:List D} {i:Nat} {d:D},zFs ds es→ds[i]?=some d→∃ e,es[i]?=some e∧nle d e
  | [],es,i,d,h,hd=>by simp at hd
  | c::cs,es,i,d,h,hd=>by
    simp only [zFs] at h;obtain ⟨e,es',rfl,h1,h2⟩:=h;cases i with
    | zero=>simp at hd;subst hd;exact ⟨e,by simp,h1⟩
    | succ i=>simp at hd;obtain ⟨e',h3,h4⟩:=zIr h2 hd;exact ⟨e',by simpa using h3,h4⟩
theorem zS1:∀ {ds es:List (List D)} {i:Nat} {d:List D},zG5 ds es→ds[i]?=some d→∃ e,es[i]?=some e∧zFs d e
  | [],es,i,d,h,hd=>by simp at hd
  | c::cs,es,i,d,h,hd=>by
    simp only [zG5] at h;obtain ⟨e,es',rfl,h1,h2⟩:=h;cases i with
    | zero=>simp at hd;subst hd;exact ⟨e,by simp,h1⟩
    | succ i=>simp at hd;obtain ⟨e',h3,h4⟩:=zS1 h2 hd;exact ⟨e',by simpa using h3,h4⟩
theorem yHd {ds es:List D}{i:Nat}(h:zFs ds es)(hd:ds[i]?=none):es[i]?=none:=by rw [xEa] at hd ⊢;rw [zRr h];exact hd
theorem zRo {d e:D}{sz:Nat}{rows:List (List D)}(h:nle d e)(hc:d.cont=some (sz,rows)):∃ rows',e.cont=some (sz,rows')∧zG5 rows rows':=by
  cases d with
  | sl o z r =>
    simp only [nle] at h;obtain ⟨r',rfl,hr⟩:=h;cases o with
    | false=>simp [D.cont] at hc
    | true=>simp only [D.cont,xAv,xBd] at hc ⊢;obtain ⟨rfl,rfl⟩:=hc;exact ⟨r',⟨rfl,rfl⟩,hr⟩
  | box tag cs=>simp only [nle] at h;obtain ⟨es,rfl,hr⟩:=h;simp only [D.cont,xAv,xBd] at hc ⊢;obtain ⟨rfl,rfl⟩:=hc;refine ⟨[es],⟨zRr hr,rfl⟩,?_⟩;simp only [zG5];exact ⟨es,[],rfl,hr,rfl⟩
  | mp k ents=>simp only [nle] at h;subst h;exact ⟨rows,hc,zS0 rows⟩
  | _=>simp [D.cont] at hc
theorem zRl:∀ (q:zBr) {d e t:D},nle d e→zAf d q=some t→∃ t',zAf e q=some t'∧nle t t'
  | [],d,e,t,h,ht=>by simp only [zAf,xAv] at ht ⊢;subst ht;exact ⟨e,rfl,h⟩
  | (i, j)::q,d,e,t,h,ht=>by
    simp only [zAf] at ht;split at ht
    · rename_i sz rows hc;split at ht
      · rename_i row hr;split at ht
        · rename_i c hj;obtain ⟨rows',h1,h2⟩:=zRo h hc;obtain ⟨row',h3,h4⟩:=zS1 h2 hr;obtain ⟨c',h5,h6⟩:=zIr h4 hj;obtain ⟨t',h7,h8⟩:=zRl q h6 ht;exact ⟨t',by simp only [zAf,h1,h3,h5];exact h7,h8⟩
        · cases ht
      · cases ht
    · cases ht
theorem zVw {w:World}:∀ (q:zBr) {d e:D} {u u1:Value},nle d e→zA8 w u d q=some u1→zA8 w u e q=some u1
  | [],d,e,u,u1,h,hv=>by simpa only [zA8] using hv
  | (i, j)::q,d,e,u,u1,h,hv=>by
    simp only [zA8] at hv;split at hv
    · rename_i sz rows b o hc hb;split at hv
      · rename_i row hr;split at hv
        · rename_i c u' hj hw;obtain ⟨rows',h1,h2⟩:=zRo h hc;obtain ⟨row',h3,h4⟩:=zS1 h2 hr;obtain ⟨c',h5,h6⟩:=zIr h4 hj;simp only [zA8,h1,hb,h3,h5,hw];exact zVw q h6 hv
        · cases hv
      · cases hv
    · cases hv
theorem ρS.nle {s s':List D}{tm:Array Value}{w:World}(h:zFs s s'){x:D}{v:Value}(hx:ρS s tm w x v):ρS s' tm w x v:=by
  cases x with
  | ref r q =>
    obtain ⟨d,u0,t,h1,h2,h3,ho,h4⟩:=hx;obtain ⟨e,k1,k2⟩:=zIr h h1;obtain ⟨t',k3,k4⟩:=zRl q k2 h3;refine ⟨e,u0,t',k1,h2,k3,?_,zVw q k2 h4⟩;cases t with
    | sl own sz rows=>cases own with
      | false=>cases ho
      | true=>simp only [Go.V.nle] at k4;obtain ⟨rows',rfl,_⟩:=k4;rfl
    | mp k ents=>simp only [Go.V.nle] at k4;subst k4;rfl
    | _=>cases ho
  | ptr r q i j=>obtain ⟨d,u0,t,sz,rows,u1,b,o,h1,h2,h3,h4,h5,h6,h7⟩:=hx;obtain ⟨e,k1,k2⟩:=zIr h h1;obtain ⟨t',k3,k4⟩:=zRl q k2 h3;obtain ⟨rows',k5,_⟩:=zRo k4 h4;exact ⟨e,u0,t',sz,rows',u1,b,o,k1,h2,k3,k5,zVw q k2 h5,h6,h7⟩
  | sub r q i n=>obtain ⟨d,u0,t,sz,rows,u1,b,o,cc,h1,h2,h3,h4,h5,h6,h7⟩:=hx;obtain ⟨e,k1,k2⟩:=zIr h h1;obtain ⟨t',k3,k4⟩:=zRl q k2 h3;obtain ⟨rows',k5,_⟩:=zRo k4 h4;exact ⟨e,u0,t',sz,rows',u1,b,o,cc,k1,h2,k3,k5,zVw q k2 h5,h6,h7⟩
  | _=>exact hx.elim
mutual
theorem T.nle {I:Nat→Prop}{w:World}{ρ:D→Value→Prop}:∀ (d e:D) {u F},T I w d ρ u F→Go.V.nle d e→T I w e ρ u F
  | .undef,e,u,F,h,hn=>by simp only [Go.V.nle] at hn;rw [hn];exact h
  | .nils,e,u,F,h,hn=>by
    simp only [Go.V.nle] at hn;rcases hn with rfl | ⟨o,sz,rfl⟩
    · exact h
    · simp only [T] at h ⊢;refine ⟨none,0,by simpa using h.1,by simp,by unfold maxLen;omega,?_⟩;cases o
      · exact .inl (by simp [h.2])
      · exact .inr (by simp [h.2])
  | .v _,e,u,F,h,hn=>by simp only [Go.V.nle] at hn;rw [hn];exact h
  | .sl o sz rows,e,u,F,h,hn=>by
    simp only [Go.V.nle] at hn;obtain ⟨rows',rfl,hr⟩:=hn;simp only [T,zXu hr] at h ⊢;obtain ⟨a,c,e,h1,h2,h3⟩:=h;refine ⟨a,c,e,h1,h2,?_⟩;rcases h3 with ⟨ho,hF,hr'⟩ | ⟨ho,hr'⟩
    · refine .inl ⟨ho,hF,?_⟩;rcases hr' with rfl | ⟨b,o,raw,ha,hI,hra,hR⟩
      · simp only [zG5] at hr;exact .inl hr
      · exact .inr ⟨b,o,raw,ha,hI,hra,Rows.nle sz rows rows' hR hr⟩
    · refine .inr ⟨ho,?_⟩;rcases hr' with hr' | ⟨b,o,cells,e,raw,F',ha,hh,hs,hra,hF,hR⟩
      · exact .inl hr'
      · exact .inr ⟨b,o,cells,e,raw,F',ha,hh,hs,hra,hF,Rows.nle sz rows rows' hR hr⟩
  | .agg cs,e,u,F,h,hn=>by simp only [Go.V.nle] at hn;obtain ⟨es,rfl,hr⟩:=hn;simp only [T] at h ⊢;obtain ⟨us,e,hc⟩:=h;exact ⟨us,e,Cells.nle cs es hc hr⟩
  | .tup _,e,u,F,h,hn=>by simp only [Go.V.nle] at hn;rw [hn];exact h
  | .ref _ _,e,u,F,h,hn=>by simp only [Go.V.nle] at hn;rw [hn];exact h
  | .ptr _ _ _ _,e,u,F,h,hn=>by simp only [Go.V.nle] at hn;rw [hn];exact h
  | .sub _ _ _ _,e,u,F,h,hn=>by simp only [Go.V.nle] at hn;rw [hn];exact h
  | .iptr _ _,e,u,F,h,hn=>by simp only [Go.V.nle] at hn;rw [hn];exact h
  | .box _ cs,e,u,F,h,hn=>by simp only [Go.V.nle] at hn;obtain ⟨es,rfl,hr⟩:=hn;simp only [T] at h ⊢;obtain ⟨b,us,e,F',hu,htg,hh,hF,hc⟩:=h;exact ⟨b,us,e,F',hu,htg,hh,hF,Cells.nle cs es hc hr⟩
  | .mp _ _,e,u,F,h,hn=>by simp only [Go.V.nle] at hn;rw [hn];exact h
  | .imp _ _,e,u,F,h,hn=>by simp only [Go.V.nle] at hn;rw [hn];exact h
  | .fn f cs b,e,u,F,h,hn=>by simp only [Go.V.nle] at hn;obtain ⟨es,rfl,hr⟩:=hn;simp only [T] at h ⊢;obtain ⟨us,vs,F1,F2,hu,hF,h1,h2⟩:=h;exact ⟨us,vs,F1,F2,hu,hF,Vals.nle cs es h1 hr,h2⟩
theorem Vals.nle {I:Nat→Prop}{w:World}{ρ:D→Value→Prop}:∀ (ds es:List D) {us F},Vals I w ds ρ us F→zFs ds es→Vals I w es ρ us F
  | [],es,us,F,h,hn=>by simp only [zFs] at hn;rw [hn];exact h
  | d::ds,es,us,F,h,hn=>by simp only [zFs] at hn;obtain ⟨c,cs,rfl,h1,h2⟩:=hn;simp only [Vals] at h ⊢;obtain ⟨u,us',F1,F2,e,hF,k1,k2⟩:=h;exact ⟨u,us',F1,F2,e,hF,T.nle d c k1 h1,Vals.nle ds cs k2 h2⟩
theorem Cells.nle {I:Nat→Prop}{w:World}{ρ:D→Value→Prop}:∀ (ds es:List D) {us F},Cells I w ds ρ us F→zFs ds es→Cells I w es ρ us F
  | [],es,us,F,h,hn=>by simp only [zFs] at hn;rw [hn];exact h
  | d::ds,es,us,F,h,hn=>by simp only [zFs] at hn;obtain ⟨c,cs,rfl,h1,h2⟩:=hn;simp only [Cells] at h ⊢;obtain ⟨u,us',F1,F2,e,hF,ho,k1,k2⟩:=h;exact ⟨u,us',F1,F2,e,hF,ho,T.nle d c k1 h1,Cells.nle ds cs k2 h2⟩
theorem Rows.nle {I:Nat→Prop}{w:World}(sz:Nat):∀ (rs es:List (List D)) {raw F},Rows I w sz rs raw F→zG5 rs es→Rows I w sz es raw F
  | [],es,raw,F,h,hn=>by simp only [zG5] at hn;rw [hn];exact h
  | r::rs,es,raw,F,h,hn=>by simp only [zG5] at hn;obtain ⟨c,cs,rfl,h1,h2⟩:=hn;simp only [Rows] at h ⊢;obtain ⟨us,raw',F1,F2,e,hF,hl,k1,k2⟩:=h;exact ⟨us,raw',F1,F2,e,hF,hl,Cells.nle r c k1 h1,Rows.nle sz rs cs k2 h2⟩
end
theorem RelI.nle {w0:Base}{I0:Nat→Prop}{s s':List D}{tm:Array Value}{w:World}{I:Nat→Prop}{Fs:Nat→List Nat}(h:RelI w0 I0 s tm w I Fs)(hn:zFs s s'):RelI w0 I0 s' tm w I Fs where
  below:=h.below
  len:=by rw [h.len,zRr hn]
  slot:=by
    intro r d u h1 h2;cases hs:s[r]? with
    | none=>rw [yHd hn hs] at h1;cases h1
    | some d0=>obtain ⟨e,k1,k2⟩:=zIr hn hs;rw [k1] at h1;cases h1;exact T.nle d0 d ((h.slot r d0 u hs h2).res (fun _ _ hx=>hx.nle hn)) k2
  nd:=h.nd
  disj:=h.disj
  own:=h.own
  imm:=h.imm
  imm0:=h.imm0
  immN:=h.immN
end Go.V
namespace Go.V
open Go.RowKit
def zGp (P:Program)(t:TypeId):Bool:=match P.underlying t with
  | some .bool=>true
  | some (.int _)=>true
  | some .string=>true
  | _=>false
def zT3 (P:Program)(t:TypeId):Option Nat:=match P.underlying t with
  | some .bool=>some 0
  | some (.int _)=>some 1
  | some .string=>some 2
  | _=>none
def zKr (P:Program):List Field→Nat→Option (List Nat)
  | [],_=>some []
  | f :: fs, n => if f.name ≠ "_" ∧ f.offset = n then match zT3 P f.type, zKr P fs (n + 1) with
    | some k,some ks=>some (k::ks)
    | _,_=>none
    else none
section
variable {P:Program} {w0:Base} {I0:Nat→Prop} {s:List D} {a:Act} {w:World} {I:Nat→Prop} {Fs:Nat→List Nat} {K:D→List D→Prop} {Ctr:CtrT} {nn:Bool}
theorem zGt {t:TypeId}(ht:zGp P t=true){cs:Array Value}{off:Nat}{v:Value}(hv:cs[off]?=some v):(part t cs off).run P w=.ok v w:=by
  have key:∀ d:TypeDesc,P.underlying t=some d→d.isRow=false→(part t cs off).run P w=.ok v w:=by
    intro d hu hd;have hag:(isAgg t).run P w=.ok false w:=by unfold isAgg;rw [Sem.run_bind,run_underlying hu,Result.andThen_ok];cases d<;>first | rfl | (simp [TypeDesc.isRow] at hd)
    unfold part;rw [Sem.run_bind,hag,Result.andThen_ok];simp [hv]
  unfold zGp at ht;split at ht
  · rename_i hu;exact key _ hu rfl
  · rename_i hu;exact key _ hu rfl
  · rename_i hu;exact key _ hu rfl
  · cases ht
theorem zHf {x y:D}{xs ys:List D}{c:Bool}(h:zBd (x::xs) (y::ys)=some c):∃ u v b c',x=.v u∧y=.v v∧zBd xs ys=some c'∧c=(b&&c') ∧
    ((∃ k m n,u=.int k m∧v=.int k n∧b=decide (m=n))∨(∃ m n,u=.string m∧v=.string n∧b=decide (m=n))∨∃ m n,u=.bool m∧v=.bool n∧b=(m==n)):=by
  unfold zBd at h;split at h
  · simp at *
  · rename_i k m xs' k' n ys' e1 e2;cases e1;cases e2;split at h
    · rename_i hk;subst hk;simp only [xC9] at h;obtain ⟨c',h1,rfl⟩:=h;exact ⟨_,_,_,c',rfl,rfl,h1,rfl,.inl ⟨_,_,_,rfl,rfl,rfl⟩⟩
    · cases h
  · rename_i m xs' n ys' e1 e2;cases e1;cases e2;simp only [xC9] at h;obtain ⟨c',h1,rfl⟩:=h;exact ⟨_,_,_,c',rfl,rfl,h1,rfl,.inr (.inl ⟨_,_,rfl,rfl,rfl⟩)⟩
  · rename_i m xs' n ys' e1 e2;cases e1;cases e2;simp only [xC9] at h;obtain ⟨c',h1,rfl⟩:=h;exact ⟨_,_,_,c',rfl,rfl,h1,rfl,.inr (.inr ⟨_,_,rfl,rfl,rfl⟩)⟩
  · cases h
theorem zKs {d:Nat} {xs ys:Array Value}:∀ (fs:List Field) (n:Nat) {ks:List Nat} {ds es:List D} {us vs:List Value} {ρ:D→Value→Prop} {c:Bool},zKr P fs n=some ks→zA2 ks ds=true→zBd ds es=some c→Cells I w ds ρ us []→Cells I w es ρ vs []→(∀ i u,us[i]?=some u→xs[n+i]?=some u)→(∀ i u,vs[i]?=some u→ys[n+i]?=some u)→(Op.eqFields (d+1) xs ys fs).run P w=.ok c w
  | [],n,ks,ds,es,us,vs,ρ,c,hf,hk,he,hd,hes,hx,hy=>by
    simp only [zKr,xAv] at hf;subst hf;cases ds with
    | nil =>
      cases es with
      | nil=>simp only [zBd,xAv] at he;subst he;simp [Op.eqFields]
      | cons e es=>simp [zBd] at he
    | cons x ds=>simp [zA2] at hk
  | f :: fs,n,ks,ds,es,us,vs,ρ,c,hf,hk,he,hd,hes,hx,hy=>by
    simp only [zKr] at hf;split at hf
    · rename_i hcond;split at hf
      · rename_i k ks' hkt hfs;simp only [xAv] at hf;subst hf;cases ds with
        | nil=>simp [zA2] at hk
        | cons x ds =>
          cases es with
          | nil=>cases x<;>simp [zBd] at he
          | cons y es =>
            obtain ⟨u,v,b,c',rfl,rfl,he',rfl,hcase⟩:=zHf he;simp only [Cells] at hd hes;obtain ⟨u',us',F1,F2,rfl,hF,_,hT1,hd2⟩:=hd;obtain ⟨v',vs',G1,G2,rfl,hG,_,hT2,hes2⟩:=hes;simp at hF hG;obtain ⟨rfl,rfl⟩:=hF;obtain ⟨rfl,rfl⟩:=hG;obtain rfl:=(T_v hT1).1;obtain rfl:=(T_v hT2).1;have hxu:xs[f.offset]?=some u':=(by rw [hcond.2];exact hx 0 u' rfl);have hyv:ys[f.offset]?=some v':=(by rw [hcond.2];exact hy 0 v' rfl);have fin:∀ (hs:zGp P f.type=true) (hrun:(Op.equalIn (d+1) f.type u' v').run P w=.ok b w) (hk':zA2 ks' ds=true),(Op.eqFields (d+1) xs ys (f::fs)).run P w=.ok (b&&c') w:=by
              intro hs hrun hk';have ih:=zKs (d:=d) fs (n+1) hfs hk' he' hd2 hes2 (fun i u hi=>by have:=hx (i+1) u qAp;rw [← this];congr 1;omega) (fun i u hi=>by have:=hy (i+1) u qAp;rw [← this];congr 1;omega);simp only [Op.eqFields,Sem.run_ite,if_pos hcond.1,Sem.run_bind,zGt hs hxu,zGt hs hyv,Result.andThen_ok,hrun];cases b with
              | true=>simpa using ih
              | false=>simp
            unfold zT3 at hkt;split at hkt
            · rename_i hu;simp only [xAv] at hkt;subst hkt;rcases hcase with ⟨k,m,n',rfl,rfl,rfl⟩ | ⟨m,n',rfl,rfl,rfl⟩ | ⟨m,n',rfl,rfl,rfl⟩
              · simp [zA2] at hk
              · simp [zA2] at hk
              · exact fin (by simp [zGp,hu]) qCf (by simpa [zA2] using hk)
            · rename_i hu;simp only [xAv] at hkt;subst hkt;rcases hcase with ⟨k,m,n',rfl,rfl,rfl⟩ | ⟨m,n',rfl,rfl,rfl⟩ | ⟨m,n',rfl,rfl,rfl⟩
              · exact fin (by simp [zGp,hu]) qCf (by simpa [zA2] using hk)
              · simp [zA2] at hk
              · simp [zA2] at hk
            · rename_i hu;simp only [xAv] at hkt;subst hkt;rcases hcase with ⟨k,m,n',rfl,rfl,rfl⟩ | ⟨m,n',rfl,rfl,rfl⟩ | ⟨m,n',rfl,rfl,rfl⟩
              · simp [zA2] at hk
              · exact fin (by simp [zGp,hu]) (by rw [run_equalIn_string w d _ m n' hu,zWk]) (by simpa [zA2] using hk)
              · simp [zA2] at hk
            · cases hkt
      · cases hf
    · cases hf
theorem yIw {t:TypeId}{k:Nat}{ks:List Nat}{u v:Value}{b:Bool}{ds:List D}{d:Nat}{w:World}(hkt:zT3 P t=some k)(hk:zA2 (k::ks) (.v u::ds)=true)
    (hcase:(∃ k m n,u=.int k m∧v=.int k n∧b=decide (m=n))∨(∃ m n,u=.string m∧v=.string n∧b=decide (m=n))∨∃ m n,u=.bool m∧v=.bool n∧b=(m==n)):zGp P t=true∧(Op.equalIn (d+1) t u v).run P w=.ok b w∧zA2 ks ds=true:=by
  unfold zT3 at hkt;split at hkt
  · rename_i hu;simp only [xAv] at hkt;subst hkt;rcases hcase with ⟨k,m,n',rfl,rfl,rfl⟩ | ⟨m,n',rfl,rfl,rfl⟩ | ⟨m,n',rfl,rfl,rfl⟩
    · simp [zA2] at hk
    · simp [zA2] at hk
    · exact ⟨by simp [zGp,hu],by simp [Op.equalIn,run_underlying hu];try (by_cases hmn:m=n' <;> simp [hmn]),by simpa [zA2] using hk⟩
  · rename_i hu;simp only [xAv] at hkt;subst hkt;rcases hcase with ⟨k,m,n',rfl,rfl,rfl⟩ | ⟨m,n',rfl,rfl,rfl⟩ | ⟨m,n',rfl,rfl,rfl⟩
    · exact ⟨by simp [zGp,hu],by simp [Op.equalIn,run_underlying hu];try (by_cases hmn:m=n' <;> simp [hmn]),by simpa [zA2] using hk⟩
    · simp [zA2] at hk
    · simp [zA2] at hk
  · rename_i hu;simp only [xAv] at hkt;subst hkt;rcases hcase with ⟨k,m,n',rfl,rfl,rfl⟩ | ⟨m,n',rfl,rfl,rfl⟩ | ⟨m,n',rfl,rfl,rfl⟩
    · simp [zA2] at hk
    · exact ⟨by simp [zGp,hu],by rw [run_equalIn_string w d _ m n' hu,zWk],by simpa [zA2] using hk⟩
    · simp [zA2] at hk
  · cases hkt
theorem yD6 {u v:Value}{xs ys:List D}{b c:Bool}(h:zBd xs ys=some c)
    (hcase:(∃ k m n,u=.int k m∧v=.int k n∧b=decide (m=n))∨(∃ m n,u=.string m∧v=.string n∧b=decide (m=n))∨∃ m n,u=.bool m∧v=.bool n∧b=(m==n)):zBd (.v u::xs) (.v v::ys)=some (b&&c):=by
  rcases hcase with ⟨k,m,n',rfl,rfl,rfl⟩ | ⟨m,n',rfl,rfl,rfl⟩ | ⟨m,n',rfl,rfl,rfl⟩<;>simp [zBd,h]
theorem zO8:∀ (k:Nat) {ds es:List D} {c:Bool},zBd ds es=some c→k≤ds.length→∃ c1 c2,zBd (ds.take k) (es.take k)=some c1∧zBd (ds.drop k) (es.drop k)=some c2∧c=(c1&&c2)
  | 0,ds,es,c,h,_=>⟨true,c,by simp [zBd],by simpa using h,by simp⟩
  | k+1,[],es,c,h,hk=>by simp at hk
  | k+1,x::ds,[],c,h,hk=>by cases x<;>simp [zBd] at h
  | k+1,x::ds,y::es,c,h,hk=>by obtain ⟨u,v,b,c',rfl,rfl,h1,rfl,hcase⟩:=zHf h;obtain ⟨c1,c2,h2,h3,rfl⟩:=zO8 k h1 (by simpa using hk);exact ⟨b&&c1,c2,by simp only [xBn];exact yD6 h2 hcase,by simpa using h3,by rw [Bool.and_assoc]⟩
theorem zOy:∀ (k1:List Nat) {k2:List Nat} {ds:List D},zA2 (k1++k2) ds=true→k1.length≤ds.length∧zA2 k1 (ds.take k1.length)=true∧zA2 k2 (ds.drop k1.length)=true
  | [],k2,ds,h=>by simpa [zA2] using h
  | k::k1,k2,[],h=>by simp [zA2] at h
  | k :: k1,k2,x::ds,h=>by
    have key:zA2 (k1++k2) ds=true∧∀ l,zA2 (k::k1) (x::l)=zA2 k1 l:=by
      simp only [xBi] at h;unfold zA2 at h;split at h
      · simp at *
      · rename_i ks b ds' e1 e2;cases e1;cases e2;exact ⟨h,fun _=>rfl⟩
      · rename_i ks k' n ds' e1 e2;cases e1;cases e2;exact ⟨h,fun _=>rfl⟩
      · rename_i ks b ds' e1 e2;cases e1;cases e2;exact ⟨h,fun _=>rfl⟩
      · cases h
    obtain ⟨h1,h2,h3⟩:=zOy k1 key.1;exact ⟨by simpa using h1,by simp only [xBk,xBn,key.2];exact h2,by simpa using h3⟩
def zL8 (P:Program):List Field→Nat→Option (List Nat)
  | [],_=>some []
  | f :: fs, n => if f.name ≠ "_" ∧ f.offset = n then match zT3 P f.type with
      | some k=>match zL8 P fs (n+1) with
        | some ks=>some (k::ks)
        | none=>none
      | none=>match P.underlying f.type with
        | some (.struct gs)=>match zKr P gs.toList 0 with
          | some k1=>if P.stoodInHeld f.type=false∧(P.info? f.type).map (·.size)=some k1.length∧0<k1.length then match zL8 P fs (n+k1.length) with
              | some ks=>some (k1++ks)
              | none=>none
            else none
          | none=>none
        | _=>none
    else none
theorem zIw {d:Nat} {xs ys:Array Value}:∀ (fs:List Field) (n:Nat) {ks:List Nat} {ds es:List D} {us vs:List Value} {ρ:D→Value→Prop} {c:Bool},zL8 P fs n=some ks→zA2 ks ds=true→zBd ds es=some c→Cells I w ds ρ us []→Cells I w es ρ vs []→xs.toList.drop n=us→ys.toList.drop n=vs→(Op.eqFields (d+2) xs ys fs).run P w=.ok c w
  | [],n,ks,ds,es,us,vs,ρ,c,hf,hk,he,hd,hes,hx,hy=>by
    simp only [zL8,xAv] at hf;subst hf;cases ds with
    | nil =>
      cases es with
      | nil=>simp only [zBd,xAv] at he;subst he;simp [Op.eqFields]
      | cons e es=>simp [zBd] at he
    | cons x ds=>simp [zA2] at hk
  | f :: fs,n, ks, ds,es,us,vs,ρ,c,hf,hk,he,hd,hes,hx,hy=>by
    simp only [zL8] at hf;split at hf
    · rename_i hcond; split at hf
      · rename_i k hkt;split at hf
        · rename_i ks' hfs;simp only [xAv] at hf;subst hf;cases ds with
          | nil=>simp [zA2] at hk
          | cons x ds =>
            cases es with
            | nil=>cases x<;>simp [zBd] at he
            | cons y es =>
              obtain ⟨u,v,b,c',rfl,rfl,he',rfl,hcase⟩:=zHf he;simp only [Cells] at hd hes;obtain ⟨u',us',F1,F2,rfl,hF,_,hT1,hd2⟩:=hd;obtain ⟨v',vs',G1,G2,rfl,hG,_,hT2,hes2⟩:=hes;simp at hF hG;obtain ⟨rfl,rfl⟩:=hF;obtain ⟨rfl,rfl⟩:=hG;obtain rfl:=(T_v hT1).1;obtain rfl:=(T_v hT2).1;have at0:∀ {zs:Array Value} {z:Value} {zt:List Value},zs.toList.drop n=z::zt→zs[f.offset]?=some z∧zs.toList.drop (n+1)=zt:=by
                intro zs z zt hz;refine ⟨?_,?_⟩
                · rw [hcond.2];have:(zs.toList.drop n)[0]?=some z:=by rw [hz];rfl
                  rw [xDb] at this;simpa using this
                · rw [← xFw,hz];rfl
              obtain ⟨hxu,hx2⟩:=at0 hx;obtain ⟨hyv,hy2⟩:=at0 hy;obtain ⟨hs,hrun,hk'⟩:=yIw (d:=d+1) (w:=w) hkt hk hcase;have ih:=zIw (d:=d) fs (n+1) hfs hk' he' hd2 hes2 hx2 hy2;simp only [Op.eqFields,Sem.run_ite,if_pos hcond.1,Sem.run_bind,zGt hs hxu,zGt hs hyv,Result.andThen_ok,hrun];cases b with
              | true=>simpa using ih
              | false=>simp
        · cases hf
      · rename_i hkt; split at hf
        · rename_i gs hu;split at hf
          · rename_i k1 hk1;split at hf
            · rename_i hcond2;split at hf
              · rename_i ks' hfs;simp only [xAv] at hf;subst hf;obtain ⟨hle,hka,hkb⟩:=zOy k1 hk;obtain ⟨c1,c2,hea,heb,rfl⟩:=zO8 k1.length he hle;have hlu:=hd.len;have hlv:=hes.len;have hll:es.length=ds.length:=by
                  have key:∀ {ds es:List D} {c:Bool},zBd ds es=some c→es.length=ds.length:=by
                    intro ds;induction ds with
                    | nil=>intro es c h;cases es with
                      | nil=>rfl
                      | cons e es=>simp [zBd] at h
                    | cons x ds ih=>intro es c h;cases es with
                      | nil=>cases x<;>simp [zBd] at h
                      | cons e es=>obtain ⟨_,_,_,_,_,_,h1,_,_⟩:=zHf h;simp [ih h1]
                  exact key he
                have hagg:(TypeDesc.struct gs).isRow=true:=rfl;have hpart:∀ {zs:Array Value} {zt:List Value},zs.toList.drop n=zt→k1.length≤zt.length→(part f.type zs f.offset).run P w=.ok (.agg (zt.take k1.length).toArray) w:=by
                  intro zs zt hz hl;have hle2:n+k1.length≤zs.toList.length:=by have:zt.length=zs.toList.length-n:=(by rw [← hz,xEh]);have:=hcond2.2.2;omega
                  have:=zVt (P:=P) hu (agg:=true) hagg hcond2.2.1 (fun h=>by cases h) (cs:=zs.toList) (off:=n) hle2 w;rw [hcond.2];simpa [hz] using this
                have hpx:=hpart hx qAc;have hpy:=hpart hy qAc;have hfo:P.fieldsOf f.type=gs:=(by unfold Program.fieldsOf;rw [hu]);have hin:(Op.equalIn (d+2) f.type (.agg (us.take k1.length).toArray) (.agg (vs.take k1.length).toArray)).run P w=.ok c1 w:=(by rw [run_equalIn_struct w (d+1) f.type _ _ (by rw [hfo];exact hu) hcond2.1,hfo];exact zKs gs.toList 0 hk1 hka hea (hd.take k1.length) (hes.take k1.length) (fun i u hi=>by simpa using hi) (fun i u hi=>by simpa using hi));have ih:=zIw (d:=d) fs (n+k1.length) hfs hkb heb (hd.drop k1.length) (hes.drop k1.length) (by rw [← xFw,hx]) (by rw [← xFw,hy]);simp only [Op.eqFields,Sem.run_ite,if_pos hcond.1,Sem.run_bind,hpx,hpy,Result.andThen_ok,hin];cases c1 with
                | true=>simpa using ih
                | false=>simp
              · cases hf
            · cases hf
          · cases hf
        · cases hf
    · cases hf
theorem yFv (h:RelI w0 I0 s a.tmps w I Fs){op:BinOp}{neg:Bool}{ks:List Nat}{x y:Operand}{xt yt:TypeId}{o:Oper}(ho:o.op=.binOp op xt x y yt)(hop:(op=.eql∧neg=false)∨(op=.neq∧neg=true)){fs:Array Field}(hu:P.underlying xt=some (.struct fs))(hst:P.stoodInHeld xt=false)(hg:P.eqGuardType P.depth xt=false)(hf:zL8 P fs.toList 0=some ks)(hk:zAh Ctr s (.eqs neg ks x y) K):RunsTo P (execOp a.eval o) w (OutOK nn Fs I w w0 I0 a.tmps K):=by
  have hx:=zC9 h x;have hy:=zC9 h y;simp only [zAh] at hk;split at hk
  · rename_i ds es e1 e2;rw [e1] at hx;rw [e2] at hy;obtain ⟨hks,hk⟩:=hk;split at hk
    · rename_i c hc;simp only [T] at hx hy;obtain ⟨us,e3,hcx⟩:=hx;obtain ⟨vs,e4,hcy⟩:=hy;have hfo:P.fieldsOf xt=fs:=by unfold Program.fieldsOf;rw [hu]
      have heq:(Op.equalIn 10000 xt (.agg us.toArray) (.agg vs.toArray)).run P w=.ok c w:=(by rw [run_equalIn_struct w 9999 xt _ _ (by rw [hfo];exact hu) hst,hfo];exact zIw fs.toList 0 hf hks hc hcx hcy qAh qAh);refine .value (v:=.bool (if neg then !c else c)) ?_ (.plain h hk yCl);rcases hop with ⟨rfl,rfl⟩ | ⟨rfl,rfl⟩
      · simp only [execOp,ho,e3,e4,Sem.run_bind,run_eqGuard_agg w .eql xt x y _ _ hg,Result.andThen_ok,run_eql_struct,heq];rfl
      · simp only [execOp,ho,e3,e4,Sem.run_bind,run_eqGuard_agg w .neq xt x y _ _ hg,Result.andThen_ok,run_neq_struct,heq];rfl
    · exact hk.elim
  · exact hk.elim
end
end Go.V
namespace Go.V
open Go.RowKit Go.MapKept
section
variable {P:Program} {w0:Base} {I0:Nat→Prop} {s:List D} {a:Act} {w:World} {I:Nat→Prop} {Fs:Nat→List Nat} {K:D→List D→Prop} {Ctr:CtrT} {nn:Bool}
def zT2 (P:Program)(kt:TypeId):Option KK:=match P.underlying kt with
  | some .string=>some .str
  | some .bool=>some .bool
  | some (.int k)=>some (.int k)
  | some (.struct fs)=>if P.stoodInHeld kt=false then (zKr P fs.toList 0).map .flat else none
  | _=>none
theorem zZq {o:Option (List Nat)}{k:KK}(h:o.map KK.flat=some k):k.isM=true:=by
  cases o with
  | none=>cases h
  | some l=>cases h;rfl
theorem zRt {P:Program}{kt:TypeId}{k:KK}(h:zT2 P kt=some k):k.isM=true:=by
  unfold zT2 at h;split at h
  · cases h;rfl
  · cases h;rfl
  · cases h;rfl
  · split at h
    · exact zZq h
    · cases h
  · cases h
theorem zV5 {kt:TypeId}{d:TypeDesc}{k:KK}{u:Value}(hd:P.underlying kt=some d)(hk:zT2 P kt=some k)(hn:∀ ks,k≠.flat ks)(hu:zB6 k u=true):IsKey d u:=by
  unfold zT2 at hk;rw [hd] at hk;cases d with
  | string=>simp only [xAv] at hk;subst hk;cases u<;>simp [zB6] at hu;trivial
  | bool=>simp only [xAv] at hk;subst hk;cases u<;>simp [zB6] at hu;trivial
  | int kd=>simp only [xAv] at hk;subst hk;cases u<;>simp [zB6] at hu;exact hu.symm
  | struct fs =>
    simp only at hk;split at hk
    · cases hf:zKr P fs.toList 0 with
      | none=>simp [hf] at hk
      | some ks=>simp [hf] at hk;exact absurd hk.symm (hn ks)
    · cases hk
  | _=>simp at hk
theorem yMg {d:TypeDesc}{u v:Value}(hu:IsKey d u)(hv:IsKey d v):Instr.sameNow d u v=some (keq u v):=by cases d<;>cases u<;>cases v<;>simp_all [IsKey,Instr.sameNow,keq,zZj]
theorem zO7 {d:TypeDesc}{u:Value}(hu:IsKey d u):∀ (l:List MapEntry) (i:Nat),(∀ x∈l,IsKey d x.key)→Instr.findNow d u l i=some ((l.findIdx? (fun e=>keq u e.key)).bind fun j=>(l[j]?).map fun e=>(i+j,e.val))
  | [],_,_=>rfl
  | e :: es,i,h=>by
    rw [Instr.findNow,yMg hu (h e (.head _)),List.findIdx?_cons];cases hq:keq u e.key with
    | true=>simp
    | false =>
      simp only [xBa,if_false];rw [zO7 hu es (i+1) (fun x hx=>h x (.tail _ hx))];cases hf:es.findIdx? (fun e=>keq u e.key) with
      | none=>rfl
      | some j=>simp only [xAx,xDq,xBh,show i+1+j=i+(j+1) by omega]
theorem zLf:∀ {ks:List Nat} {us vs:List Value},zA9 ks us=true→zA9 ks vs=true→zBd (us.map .v) (vs.map .v)=some (zZi us vs)∧zA2 ks (us.map .v)=true
  | [],us,vs,hu,hv=>by cases us<;>cases vs<;>simp [zA9] at hu hv;exact ⟨rfl,rfl⟩
  | k :: ks,us,vs,hu,hv=>by
    cases us with
    | nil=>rcases k with _ | _ | _ | k<;>simp [zA9] at hu
    | cons x us =>
      cases vs with
      | nil=>rcases k with _ | _ | _ | k<;>simp [zA9] at hv
      | cons y vs =>
        rcases k with _ | _ | _ | k
        · cases x<;>simp [zA9] at hu;cases y<;>simp [zA9] at hv;obtain ⟨h1,h2⟩:=zLf hu hv;refine ⟨?_,by simpa [zA2] using h2⟩;simp only [xA6,zBd,h1,xAx,zZi,zZj]
        · cases x with
          | int kx m =>
            cases y with
            | int ky n=>cases kx<;>simp [zA9] at hu;cases ky<;>simp [zA9] at hv;obtain ⟨h1,h2⟩:=zLf hu hv;refine ⟨?_,by simpa [zA2] using h2⟩;simp only [xA6,zBd,h1,xAx,zZi,zZj,if_true];by_cases hmn:m=n<;>simp [hmn]
            | _=>simp [zA9] at hv
          | _=>simp [zA9] at hu
        · cases x<;>simp [zA9] at hu;cases y<;>simp [zA9] at hv;rename_i m n;obtain ⟨h1,h2⟩:=zLf hu hv;refine ⟨?_,by simpa [zA2] using h2⟩;simp only [xA6,zBd,h1,xAx,zZi,zZj];have:decide (m=n)=(m==n):=by rw [xEq];simp [bytes_beq]
          rw [this]
        · simp [zA9] at hu
theorem zHv:∀ {ks:List Nat} {us:List Value},zA9 ks us=true→us.all (·.oneCell')=true
  | [],us,hu=>by cases us<;>simp [zA9] at hu;rfl
  | k :: ks,us,hu=>by
    cases us with
    | nil=>rfl
    | cons x us =>
      rcases k with _ | _ | _ | k
      · cases x<;>simp [zA9] at hu;simp only [xBm,xA2];exact ⟨rfl,zHv hu⟩
      · cases x with
        | int kx m=>cases kx<;>simp [zA9] at hu;simp only [xBm,xA2];exact ⟨rfl,zHv hu⟩
        | _=>simp [zA9] at hu
      · cases x<;>simp [zA9] at hu;simp only [xBm,xA2];exact ⟨rfl,zHv hu⟩
      · simp [zA9] at hu
theorem zMc:∀ (us:List Value),us.all (·.oneCell')=true→Cells I w (us.map .v) nil us []
  | [],_=>by simp [Cells]
  | u::us,h=>by simp only [xBm,xA2] at h;simp only [xA6,Cells];exact ⟨u,us,[],[],rfl,rfl,h.1,by simp [T],zMc us h.2⟩
theorem zQg {kt:TypeId}{k:KK}(hk:zT2 P kt=some k){ks:List Nat}(e:k=.flat ks):∃ fs:Array Field,P.underlying kt=some (.struct fs)∧P.stoodInHeld kt=false∧zKr P fs.toList 0=some ks:=by
  subst e;unfold zT2 at hk;split at hk
  · cases hk
  · cases hk
  · cases hk
  · rename_i fs hu;split at hk
    · rename_i hs;cases hf:zKr P fs.toList 0 with
      | none=>simp [hf] at hk
      | some ks'=>simp only [hf,xAx,xAv,KK.flat.injEq] at hk;subst hk;exact ⟨fs,hu,hs,hf⟩
    · cases hk
  · cases hk
theorem yD5 {kt:TypeId}{ks:List Nat}(hk:zT2 P kt=some (.flat ks)){u v:Value}(hu:zB6 (.flat ks) u=true)(hv:zB6 (.flat ks) v=true):(Op.equal kt u v).run P w=.ok (keq u v) w:=by obtain ⟨fs,h1,h2,h3⟩:=zQg hk rfl;cases u<;>simp [zB6] at hu;cases v<;>simp [zB6] at hv;rename_i us vs;obtain ⟨k1,k2⟩:=zLf hu hv;have hfo:P.fieldsOf kt=fs:=(by unfold Program.fieldsOf;rw [h1]);show (Op.equalIn 10000 kt (.agg us) (.agg vs)).run P w=_;rw [run_equalIn_struct w 9999 kt _ _ (by rw [hfo];exact h1) h2,hfo];have:=zKs (P:=P) (w:=w) (I:=fun _=>False) (d:=9998) (xs:=us) (ys:=vs) (us:=us.toList) (vs:=vs.toList) (ρ:=nil) fs.toList 0 h3 k2 k1 (zMc _ (zHv hu)) (zMc _ (zHv hv)) (fun i u h=>by simpa using h) (fun i u h=>by simpa using h);exact this
theorem zJe {kt:TypeId}{ks:List Nat}(hk:zT2 P kt=some (.flat ks)){u:Value}(hu:zB6 (.flat ks) u=true):∀ (l:List MapEntry) (i:Nat),(∀ x∈l,zB6 (.flat ks) x.key=true)→(Instr.findAsking kt u l i).run P w=.ok ((l.findIdx? (fun e=>keq u e.key)).bind fun j=>(l[j]?).map fun e=>(i+j,e.val)) w
  | [],_,_=>by simp [Instr.findAsking]
  | e :: es,i,h=>by
    rw [Instr.findAsking,Sem.run_bind,yD5 hk hu (h e (.head _)),Result.andThen_ok,List.findIdx?_cons];cases hq:keq u e.key with
    | true=>simp
    | false =>
      simp only [xBa,if_false];rw [zJe hk hu es (i+1) (fun x hx=>h x (.tail _ hx))];cases hf:es.findIdx? (fun e=>keq u e.key) with
      | none=>rfl
      | some j=>simp only [xAx,xDq,xBh,show i+1+j=i+(j+1) by omega]
theorem zGk {kt:TypeId} {k:KK} (hk:zT2 P kt=some k) {u:Value} (hu:zB6 k u=true) (l:List MapEntry) (hl:∀ x∈l,zB6 k x.key=true):(Instr.findKey kt u l).run P w=.ok ((l.findIdx? (fun e=>keq u e.key)).bind fun j=>(l[j]?).map fun e=>(j,e.val)) w:=by
  have hz:∀ o:Option Nat,(o.bind fun j=>(l[j]?).map fun e=>(0+j,e.val))=o.bind fun j=>(l[j]?).map fun e=>(j,e.val):=fun o=>by simp only [xB2]
  have hd:∃ d,P.underlying kt=some d:=by
    unfold zT2 at hk;cases hd:P.underlying kt with
    | none=>simp [hd] at hk
    | some d=>exact ⟨d,rfl⟩
  obtain ⟨d,hd⟩:=hd;by_cases hn:∀ ks,k≠.flat ks
  · rw [run_findKey hd (zO7 (zV5 hd hk hn hu) l 0 (fun x hx=>zV5 hd hk hn (hl x hx))),hz]
  · have:∃ ks,k=.flat ks:=by
      cases k with
      | flat ks=>exact ⟨ks,rfl⟩
      | _=>exact absurd (fun ks h=>by cases h) hn
    obtain ⟨ks,rfl⟩:=this;obtain ⟨fs,h1,_,_⟩:=zQg hk rfl;unfold Instr.findKey;rw [Sem.run_bind,run_underlying h1,Result.andThen_ok];cases l with
    | nil=>rfl
    | cons e es =>
      have hs:Instr.findNow (.struct fs) u (e::es) 0=none:=by
        rw [Instr.findNow];have:Instr.sameNow (.struct fs) u e.key=none:=by cases u<;>rfl
        rw [this]
      rw [hs];simp only;rw [zJe hk hu (e::es) 0 hl,hz]
theorem yLk {t:TypeId}(ht:(zT3 P t).isSome=true){cs:Array Value}{off:Nat}{v:Value}(hv:cs[off]?=some v):(part t cs off).run P w=.ok v w:=by
  refine zGt ?_ hv;unfold zT3 at ht;unfold zGp;split at ht
  · rename_i h;rfl
  · rename_i h;rfl
  · rename_i h;rfl
  · cases ht
theorem yEd {t:TypeId}(ht:(zT3 P t).isSome=true)(e:Bool)(n:Nat)(v:Value):(Instr.checkKey e (n+1) t v).run P w=.ok () w:=by
  unfold zT3 at ht;unfold Instr.checkKey;split at ht
  · rename_i h;simp only [Sem.run_bind,run_underlying h,Result.andThen];rfl
  · rename_i h;simp only [Sem.run_bind,run_underlying h,Result.andThen];rfl
  · rename_i h;simp only [Sem.run_bind,run_underlying h,Result.andThen];rfl
  · cases ht
theorem zTl (e:Bool) (n:Nat) {cs:Array Value}:∀ (fs:List Field) (k:Nat) {ks:List Nat},zKr P fs k=some ks→(∀ i,i<ks.length→(cs[k+i]?).isSome=true)→(forIn (m:=Sem) fs PUnit.unit (fun f (_:PUnit)=>do
      if f.name ≠ "_" then Instr.checkKey e (n + 1) f.type (← part f.type cs f.offset)
      pure (ForInStep.yield PUnit.unit))).run P w=.ok PUnit.unit w
  | [],k,ks,_,_=>by simp
  | f :: fs,k,ks,hf,hcs=>by
    simp only [zKr] at hf;split at hf
    · rename_i hc;split at hf
      · rename_i kk ks' h1 h2;simp only [xAv] at hf;subst hf;obtain ⟨v,hv⟩:=xFm.1 (hcs 0 qAh);rw [List.forIn_cons];have hk:(zT3 P f.type).isSome=true:=by rw [h1];rfl
        have ih:=zTl e n fs (k+1) h2 (fun i hi=>by have:=hcs (i+1) qAw;rwa [show k+1+i=k+(i+1) by omega]);simp only [Sem.run_bind,ne_eq,hc.1,not_false_eq_true,if_true,hc.2,yLk hk (by simpa using hv),yEd hk,Result.andThen_ok,Sem.run_pure];exact ih
      · cases hf
    · cases hf
theorem zLe:∀ {ks:List Nat} {us:List Value},zA9 ks us=true→us.length=ks.length
  | [],us,hu=>by cases us<;>simp [zA9] at hu;rfl
  | k :: ks,us,hu=>by
    cases us with
    | nil=>rcases k with _ | _ | _ | k<;>simp [zA9] at hu
    | cons x us =>
      rcases k with _ | _ | _ | k
      · cases x<;>simp [zA9] at hu;simp [zLe hu]
      · cases x with
        | int kx m=>cases kx<;>simp [zA9] at hu;simp [zLe hu]
        | _=>simp [zA9] at hu
      · cases x<;>simp [zA9] at hu;simp [zLe hu]
      · simp [zA9] at hu
theorem zC2 {kt:TypeId}{k:KK}(hk:zT2 P kt=some k){u:Value}(hu:zB6 k u=true)(e:Bool):(Instr.checkKey e 10000 kt u).run P w=.ok () w:=by
  by_cases hn:∀ ks,k≠.flat ks
  · have hd:∃ d,P.underlying kt=some d:=by
      unfold zT2 at hk;cases hd:P.underlying kt with
      | none=>simp [hd] at hk
      | some d=>exact ⟨d,rfl⟩
    obtain ⟨d,hd⟩:=hd;exact run_checkKey hd (zV5 hd hk hn hu) e 9999
  · have:∃ ks,k=.flat ks:=by
      cases k with
      | flat ks=>exact ⟨ks,rfl⟩
      | _=>exact absurd (fun ks h=>by cases h) hn
    obtain ⟨ks,rfl⟩:=this;obtain ⟨fs,h1,_,h3⟩:=zQg hk rfl;cases u<;>simp [zB6] at hu;rename_i cs;unfold Instr.checkKey;simp only [Sem.run_bind,run_underlying h1,Result.andThen_ok];have:=zTl (P:=P) (w:=w) e 9998 (cs:=cs) fs.toList 0 h3 (fun i hi=>by
      have:=zLe hu;simp only [xD6] at this;simp [this,hi])
    have e2:∀ (f:Field→PUnit→Sem (ForInStep PUnit)),forIn fs PUnit.unit f=forIn fs.toList PUnit.unit f:=fun f=>by simp
    rw [e2];have h5:=congrArg (fun r=>r.andThen fun (_:PUnit) (w':World)=>(Result.ok () w':Result Unit)) this;simp only [Result.andThen_ok] at h5;rw [← h5];simp
/-! ### Operations on maps -/
theorem run_newObj (o:Obj):(newObj o).run P w=.ok w.heap.size { w with heap:=w.heap.push o }:=by simp [newObj,Sem.run]
theorem yP4 (h:RelI w0 I0 s a.tmps w I Fs){k:KK}(hkM:k.isM=true){t:TypeId}{o:Oper}(ho:o.op=.makeMap t none)(hk:zAh Ctr s (.mkm k) K):RunsTo P (execOp a.eval o) w (OutOK nn Fs I w w0 I0 a.tmps K):=by
  have hb:Below w.heap.size w { w with heap:=w.heap.push (.map #[] 0) }:=(Below.refl _ w).alloc (xBj _) _;refine .value (v:=.map (some w.heap.size)) (w':={ w with heap:=w.heap.push (.map #[] 0) }) (by simp [execOp,ho,Instr.makeMap,run_newObj]) ?_;have he0:k.e0=[]:=by cases k<;>first | rfl | cases hkM
  simp only [zAh,he0] at hk;refine ⟨_,s,I,Fs,[w.heap.size],hk,h.world hb,?_,⟨by simp,fun b hb'=>?_⟩,fun _=>Frame.below hb (fun b hb'=>.inl (by simp at hb';omega)) (fun _=>.inr rfl)⟩
  · simp only [T];rw [zS2 hkM];exact ⟨_,#[],0,rfl,by simp,rfl,rfl,fun _ h=>by cases h⟩
  · simp only [xCa] at hb';subst hb';exact ⟨Base.N_of h.below (xBj _),by simp,fun hI=>xDw _ (h.imm _ hI),fun r hr=>xDw _ (h.own r _ hr).2.1⟩
theorem yP6 (h:RelI w0 I0 s a.tmps w I Fs){t e:TypeId}{z:Value}{i:TypeInfo}{o:Oper}(ho:o.op=.alloc t)(hi:P.info? t=some i)(hz:i.zero=some z)(hzz:z.cells.toList=[.pointer none,.slice none 0 0])(hk:zAh Ctr s (.mkm (.bld t e)) K):RunsTo P (execOp a.eval o) w (OutOK nn Fs I w w0 I0 a.tmps K):=by
  have hb:Below w.heap.size w { w with heap:=w.heap.push (.cells z.cells t) }:=(Below.refl _ w).alloc (xBj _) _;have hrun:(execOp a.eval o).run P w=.ok (.value (.pointer (some ⟨w.heap.size,0,none⟩))) { w with heap:=w.heap.push (.cells z.cells t) }:=qCq;refine .value hrun ?_;simp only [zAh,KK.e0] at hk;have hzc:z.cells=#[.pointer none,.slice none 0 0]:=(by apply xF0;exact hzz);refine ⟨_,s,I,Fs,[w.heap.size],hk,h.world hb,?_,⟨by simp,fun b hb'=>?_⟩,fun _=>Frame.below hb (fun b hb'=>.inl (by simp at hb';omega)) (fun _=>.inr rfl)⟩
  · simp only [T,mpB];exact ⟨_,_,_,⟨#[]⟩,rfl,by simp [hzc],.inl rfl,rfl,.inl ⟨rfl,rfl,rfl⟩⟩
  · simp only [xCa] at hb';subst hb';exact ⟨Base.N_of h.below (xBj _),by simp,fun hI=>xDw _ (h.imm _ hI),fun r hr=>xDw _ (h.own r _ hr).2.1⟩
theorem yA3:∀ {ds:List D} {vs:List Value} {ρ:D→Value→Prop} {us:List Value} {F:List Nat},zKi ds=some vs→Cells I w ds ρ us F→us=vs
  | [],vs,ρ,us,F,h,hc=>by simp only [zKi,xAv] at h;simp only [Cells] at hc;rw [← h,hc.1]
  | d :: ds,vs,ρ,us,F,h,hc=>by
    cases d with
    | v x =>
      simp only [zKi] at h;split at h
      · cases hp:zKi ds with
        | none=>simp [hp] at h
        | some vs'=>simp [hp] at h;simp only [Cells] at hc;obtain ⟨u,us',F1,F2,e,_,_,ht,h2⟩:=hc;rw [← h,e,(T_v ht).1,yA3 hp h2]
      · cases h
    | _=>simp [zKi] at h
theorem yJ0 {d:D}{v:Value}{ρ:D→Value→Prop}{u:Value}{F:List Nat}(h:toV d=some v)(hT:T I w d ρ u F):u=v:=by
  cases d with
  | v x=>simp only [toV,xAv] at h;rw [(T_v hT).1,h]
  | nils=>simp only [toV,xAv] at h;simp only [T] at hT;rw [hT.1,h]
  | agg cs=>simp only [toV,xC9] at h;obtain ⟨vs,h1,rfl⟩:=h;simp only [T] at hT;obtain ⟨us,e,hc⟩:=hT;rw [e,yA3 h1 hc]
  | _=>simp [toV] at h
theorem zO9 {es:Array MapEntry}{e:List (Value×Value)}(he:es.toList.map (fun x=>(x.key,x.val))=e)(u:Value):e.findIdx? (fun x=>keq u x.1)=es.toList.findIdx? (fun x=>keq u x.key):=by rw [← he,List.findIdx?_map];rfl
theorem zKg {n:Nat}:∀ {a b:Value},zZj a b=true→(∀ k m k' m',a=.int k m→b=.int k' m'→k=k')→Instr.sameBits n a b=true:=by
  intro a b h hk;cases a<;>cases b<;>simp [zZj] at h
  · simpa [Instr.sameBits] using h
  · rename_i k m k' m';have:=hk k m k' m' rfl rfl;simp [Instr.sameBits,this,h]
  · simpa [Instr.sameBits] using h
theorem zRu {n:Nat}:∀ {ks:List Nat} {us vs:List Value},zA9 ks us=true→zA9 ks vs=true→zZi us vs=true→us.length=vs.length∧(us.zip vs).all (fun (x,y)=>Instr.sameBits n x y)=true
  | [],us,vs,hu,hv,_=>by cases us<;>cases vs<;>simp [zA9] at hu hv;exact ⟨rfl,rfl⟩
  | k :: ks,us,vs,hu,hv,hq=>by
    cases us with
    | nil=>rcases k with _ | _ | _ | k<;>simp [zA9] at hu
    | cons x us =>
      cases vs with
      | nil=>rcases k with _ | _ | _ | k<;>simp [zA9] at hv
      | cons y vs =>
        simp only [zZi,xA2] at hq;rcases k with _ | _ | _ | k
        · cases x<;>simp [zA9] at hu;cases y<;>simp [zA9] at hv;obtain ⟨h1,h2⟩:=zRu (n:=n) hu hv hq.2;refine ⟨by simp [h1],?_⟩;rw [xEw,xBm,h2,xCp];exact zKg hq.1 (fun _ _ _ _ h=>by cases h)
        · cases x with
          | int kx m =>
            cases y with
            | int ky n'=>cases kx<;>simp [zA9] at hu;cases ky<;>simp [zA9] at hv;obtain ⟨h1,h2⟩:=zRu (n:=n) hu hv hq.2;refine ⟨by simp [h1],?_⟩;rw [xEw,xBm,h2,xCp];exact zKg hq.1 (fun _ _ _ _ h h'=>by cases h;cases h';rfl)
            | _=>simp [zA9] at hv
          | _=>simp [zA9] at hu
        · cases x<;>simp [zA9] at hu;cases y<;>simp [zA9] at hv;obtain ⟨h1,h2⟩:=zRu (n:=n) hu hv hq.2;refine ⟨by simp [h1],?_⟩;rw [xEw,xBm,h2,xCp];exact zKg hq.1 (fun _ _ _ _ h=>by cases h)
        · simp [zA9] at hu
theorem yF8 {k:KK} {u v:Value} (hu:zB6 k u=true) (hv:zB6 k v=true) (hq:keq v u=true):(Instr.keyThatStays u v).run P w=.ok v w:=by
  have:Instr.sameBits 10000 u v=true:=by
    cases k with
    | str => cases u<;>simp [zB6] at hu;cases v<;>simp [zB6] at hv;rename_i a b;have:b=a:=by simpa [keq,zZj,bytes_beq] using hq
             subst this;simp [Instr.sameBits,bytes_beq]
    | bld ty e=>cases u<;>simp [zB6] at hu
    | err ty=>cases u<;>simp [zB6] at hu
    | bool => cases u<;>simp [zB6] at hu;cases v<;>simp [zB6] at hv;rename_i a b;have:b=a:=by simpa [keq,zZj] using hq
              subst this;simp [Instr.sameBits]
    | int kd=>cases u<;>simp [zB6] at hu;cases v<;>simp [zB6] at hv;subst hu;subst hv;simp only [keq,zZj,beq_iff_eq] at hq;simp [Instr.sameBits,hq]
    | flat ks =>
      cases u <;> simp [zB6] at hu;cases v<;>simp [zB6] at hv;rename_i us vs;have hq':zZi us.toList vs.toList=true:=by
        have sym:∀ (a b:List Value),zZi a b=true→zZi b a=true:=by
          intro a;induction a with
          | nil=>intro b h;cases b<;>simp [zZi] at h ⊢
          | cons x a ih =>
            intro b h;cases b with
            | nil=>simp [zZi] at h
            | cons y b =>
              simp only [zZi,xA2] at h ⊢;refine ⟨?_,ih b h.2⟩;have h1:=h.1;cases x<;>cases y<;>simp [zZj] at h1 ⊢
              · exact h1.symm
              · exact h1.symm
              · rw [bytes_beq] at h1 ⊢;exact h1.symm
        exact sym _ _ hq
      obtain ⟨h1,h2⟩:=zRu (n:=9999) hu hv hq';have h3:us.size=vs.size:=qA1;simp only [Instr.sameBits,h3,beq_self_eq_true,xCu];exact h2
  unfold Instr.keyThatStays;rw [if_pos this];rfl
end
end Go.V
namespace Go.V
open Go.RowKit Go.MapKept
section
variable {P:Program} {w0:Base} {I0:Nat→Prop} {s:List D} {a:Act} {w:World} {I:Nat→Prop} {Fs:Nat→List Nat} {K:D→List D→Prop} {Ctr:CtrT} {nn:Bool}
theorem zZe {es:Array MapEntry}{e:List (Value×Value)}(he:es.toList.map (fun x=>(x.key,x.val))=e)(i:Nat)(u v:Value):(es.modify i fun x=>{ x with key:=u,val:=v }).toList.map (fun x=>(x.key,x.val))=e.set i (u,v):=by
  rw [← he];apply xDc;intro j;simp only [xAy,xDa,xDv,xGi,xAw,xD6];by_cases hij:i=j
  · subst hij;by_cases hl:i<es.size
    · simp [hl]
    · simp [hl]
  · simp [hij]
theorem yGw {es:Array MapEntry}{e:List (Value×Value)}(he:es.toList.map (fun x=>(x.key,x.val))=e)(u v:Value)(c:Nat):(es.push { key:=u,val:=v,born:=c }).toList.map (fun x=>(x.key,x.val))=e++[(u,v)]:=by rw [← he];simp
theorem zZh {k:KK}{es:Array MapEntry}{e:List (Value×Value)}(he:es.toList.map (fun x=>(x.key,x.val))=e)(hk:∀ x,x∈e→zB6 k x.1=true):∀ x∈es.toList,zB6 k x.key=true:=by intro x hx;have:=hk (x.key,x.val) (by rw [← he];exact xB1.2 ⟨x,hx,rfl⟩);exact this
theorem yHg {k:KK}{e:List (Value×Value)}{u v:Value}(hk:∀ x,x∈e→zB6 k x.1=true)(hu:zB6 k u=true):∀ x,x∈zQ2 e u v→zB6 k x.1=true:=by
  intro x hx;unfold zQ2 at hx;split at hx
  · rcases xFc hx with hx | rfl
    · exact hk x hx
    · exact hu
  · rcases xBf.1 hx with hx | hx
    · exact hk x hx
    · simp only [xCa] at hx;subst hx;exact hu
theorem yHo {k:KK}{e:List (Value×Value)}{u:Value}(hk:∀ x,x∈e→zB6 k x.1=true):∀ x,x∈mdel e u→zB6 k x.1=true:=by
  intro x hx;unfold mdel at hx;split at hx
  · exact hk x (List.mem_of_mem_eraseIdx hx)
  · exact hk x hx
theorem yBp {es:Array MapEntry}{u:Value}{i:Nat}(h:es.toList.findIdx? (fun e=>keq u e.key)=some i):∃ x,es[i]?=some x∧keq u x.key=true:=by rw [xEn] at h;obtain ⟨hi,h1,_⟩:=h;exact ⟨es.toList[i],by rw [← xDa];exact xA1 hi,h1⟩
theorem zV0 {mt kt et:TypeId}{k:KK}{bm:Nat}{es:Array MapEntry}{clock:Nat}{e:List (Value×Value)}{u v:Value}(hm:P.underlying mt=some (.map kt et))(hk:zT2 P kt=some k)(hu:zB6 k u=true)(hh:w.heap[bm]?=some (.map es clock))(he:es.toList.map (fun x=>(x.key,x.val))=e)(hks:∀ x,x∈e→zB6 k x.1=true) :
    ∃ es' clock',(Instr.mapUpdate mt (.map (some bm)) u v).run P w=.ok () { w with heap:=w.heap.setIfInBounds bm (.map es' clock') }∧es'.toList.map (fun x=>(x.key,x.val))=zQ2 e u v:=by
  have hks':=zZh he hks;have hf:=zGk (P:=P) (w:=w) hk hu es.toList hks';cases hi:es.toList.findIdx? (fun x=>keq u x.key) with
  | none =>
    rw [hi] at hf;refine ⟨es.push { key:=u,val:=v,born:=clock },clock+1,?_,?_⟩
    · simp only [Instr.mapUpdate,Sem.run_bind,run_underlying hm,MapKept.run_getObj_map hh,zC2 hk hu,hf,Result.andThen_ok,xGn];exact run_setObj_map _ hh
    · rw [yGw he];unfold zQ2;rw [zO9 he,hi]
  | some i =>
    rw [hi] at hf;obtain ⟨x,hx,hq⟩:=yBp hi;refine ⟨es.modify i fun x=>{ x with key:=u,val:=v },clock,?_,?_⟩
    · simp only [Instr.mapUpdate,Sem.run_bind,run_underlying hm,MapKept.run_getObj_map hh,zC2 hk hu,hf,Result.andThen_ok,xDq,xDa,hx,xAx,xDd];rw [yF8 (hks' x (by rw [← xDa] at hx;exact xDi hx)) hu hq];simp only [Result.andThen_ok];exact run_setObj_map _ hh
    · rw [zZe he];unfold zQ2;rw [zO9 he,hi]
theorem yAo (h:RelI w0 I0 s a.tmps w I Fs) {k:KK} {mt kt et:TypeId} {m i x:Operand} {o:Oper} (ho:o.op=.mapUpdate mt m i x∨o.op=.insert mt m i x) (hm:P.underlying mt=some (.map kt et)) (hkk:zT2 P kt=some k) (hk:zAh Ctr s (.mupd k m i x) K):RunsTo P (execOp a.eval o) w (OutOK false Fs I w w0 I0 a.tmps K):=by
  have hM:=zC9 h m;have hI:=zC9 h i;have hX:=zC9 h x;have hex:execOp a.eval o=(do Instr.mapUpdate mt (a.eval m) (a.eval i) (a.eval x);pure .skip):=by rcases ho with ho | ho<;>simp [execOp,ho]
  simp only [zAh] at hk;split at hk
  · rename_i r q em;rw [em] at hM;simp only [T] at hM;obtain ⟨⟨d0,u0,t0,m1,m2,m3,mo,m4⟩,_⟩:=hM;simp only [m1,m3] at hk;split at hk
    · rename_i k' e et0;simp only [xAv] at et0;subst et0;obtain ⟨rfl,hk⟩:=hk;split at hk
      · rename_i u v eu ev;obtain ⟨hku,hK⟩:=hk;have e1:=yJ0 eu hI;have e2:=yJ0 ev hX;obtain ⟨bm,es,clock,k1,k2,k3,k4,k5,k6⟩:=h.mapSet (zRt hkk) m1 m2 m3;rw [m4] at k1;have e3:a.eval m=.map (some bm):=by simpa using k1
        obtain ⟨es',clock',hrun,hents⟩:=zV0 (P:=P) (v:=v) hm hkk hku k2 k3 k4;have hset:=heap_set (o':=.map es' clock') k2;have hrel:=k6 { w with heap:=w.heap.setIfInBounds bm (.map es' clock') } (zQ2 e u v) es' clock' ⟨rfl,rfl,rfl,by simp⟩ hset.2 hset.1 hents (yHg k4 hku);unfold RunsTo;rw [hex,e1,e2,e3];simp only [Sem.run_bind,hrun,Result.andThen_ok,Sem.run_pure];exact ⟨.undef,_,I,Fs,[],hK,hrel,by simp [T],Fresh.nil,fun h=>by cases h⟩
      · exact hk.elim
    · exact hk.elim
  · exact hk.elim
theorem yZ8 (h:RelI w0 I0 s a.tmps w I Fs){x:Operand}{k:KK}{e:List (Value×Value)}(hkM:k.isM=true)(hm:yDk s (lk s x)=some (k,e)):∃ bm es clock,a.eval x=.map (some bm)∧w.heap[bm]?=some (.map es clock)∧es.toList.map (fun x=>(x.key,x.val))=e∧∀ x,x∈e→zB6 k x.1=true:=by
  have hX:=zC9 h x;cases hl:lk s x with
  | imp k' e'=>rw [hl] at hX hm;simp only [yDk,xAv,xBd] at hm;obtain ⟨rfl,rfl⟩:=hm;simp only [T] at hX;obtain ⟨_,F',hX,_⟩:=hX;rw [zS2 hkM] at hX;obtain ⟨b,es,clock,hu,hh,_,he,hk⟩:=hX;exact ⟨b,es,clock,hu,hh,he,hk⟩
  | ref r q=>rw [hl] at hX hm;obtain ⟨F',ρ',k2,_⟩:=yBd h hX hm;simp only [T] at k2;rw [zS2 hkM] at k2;obtain ⟨b,es,clock,hu,hh,_,he,hk⟩:=k2;exact ⟨b,es,clock,hu,hh,he,hk⟩
  | _=>rw [hl] at hm;simp [yDk] at hm
theorem yL6 {es:Array MapEntry}{e:List (Value×Value)}(he:es.toList.map (fun x=>(x.key,x.val))=e)(u:Value):zXx e u=(es.toList.findIdx? (fun x=>keq u x.key)).bind fun j=>(es[j]?).map (·.val):=by
  unfold zXx;rw [List.find?_eq_bind_findIdx?_getElem?,zO9 he];cases hi:es.toList.findIdx? (fun x=>keq u x.key) with
  | none=>rfl
  | some i=>obtain ⟨x,hx,_⟩:=yBp hi;have:e[i]?=some (x.key,x.val):=(by rw [← he,xAy,xDa,hx];rfl);simp [this,hx]
theorem yP2 (h:RelI w0 I0 s a.tmps w I Fs){k:KK}{z:Value}{ok:Bool}{mt kt et:TypeId}{m i:Operand}{ie:TypeInfo}{o:Oper}(ho:o.op=.lookup mt m i ok)(hm:P.underlying mt=some (.map kt et))(hkk:zT2 P kt=some k)(hie:P.info? et=some ie)(hz:ie.zero=some z)(hk:zAh Ctr s (.mlk k z ok m i) K):RunsTo P (execOp a.eval o) w (OutOK nn Fs I w w0 I0 a.tmps K):=by
  have hI:=zC9 h i;have hM:=zC9 h m;have hzr:(zeroValue et).run P w=.ok z w:=(by simp [zeroValue,typeInfo,hie,hz]);simp only [zAh] at hk;split at hk
  · rename_i u eu;obtain ⟨hku,hk⟩:=hk;have e1:=yJ0 eu hI;have fin:∀ (v:Value) (b:Bool),(Instr.lookup mt (a.eval m) u ok).run P w=.ok (if ok then .tuple #[v,.bool b] else v) w→K (if ok then .tup [ofV v,.v (.bool b)] else ofV v) s→RunsTo P (execOp a.eval o) w (OutOK nn Fs I w w0 I0 a.tmps K):=by
      intro v b hrun hK;refine .value (v:=if ok then .tuple #[v,.bool b] else v) (by simp only [execOp,ho,e1,Sem.run_bind,hrun,Result.andThen_ok];rfl) (.plain h hK ?_);cases ok with
      | true=>simp only [if_true,T];exact ⟨[v,.bool b],rfl,by simp only [Vals,T];exact ⟨v,[.bool b],[],[],rfl,rfl,yRb _ v,_,[],[],[],rfl,rfl,⟨rfl,rfl⟩,rfl,rfl⟩⟩
      | false=>simp only [xBa,if_false];exact yRb _ v
    unfold yRp at hk;split at hk
    · rename_i k' e em;obtain ⟨rfl,hk⟩:=hk;obtain ⟨bm,es,clock,e2,hh,he,hks⟩:=yZ8 h (zRt hkk) em;have hf:=zGk (P:=P) (w:=w) hkk hku es.toList (zZh he hks);have hg:=yL6 he u;rw [e2] at fin;cases hi:es.toList.findIdx? (fun x=>keq u x.key) with
      | none=>rw [hi] at hf hg;rw [hg] at hk;simp only [xGn] at hk;refine fin z false ?_ hk;simp only [Instr.lookup,Sem.run_bind,run_underlying hm,MapKept.run_getObj_map hh,zC2 hkk hku,hf,hzr,Result.andThen_ok,xGn,Sem.run_pure]
      | some j=>obtain ⟨x,hx,_⟩:=yBp hi;rw [hi] at hf hg;rw [hg] at hk;simp only [xDq,hx,xAx] at hk;refine fin x.val true ?_ hk;simp only [Instr.lookup,Sem.run_bind,run_underlying hm,MapKept.run_getObj_map hh,zC2 hkk hku,hf,Result.andThen_ok,xDq,xDa,hx,xAx,Sem.run_pure]
    · split at hk
      · rename_i em;rw [em] at hM;have e2:=(T_v hM).1;rw [e2] at fin;have hf:=zGk (P:=P) (w:=w) hkk hku [] (fun _ h=>by cases h);refine fin z false ?_ hk;have hf':(Instr.findKey kt u (#[]:Array MapEntry).toList).run P w=.ok none w:=hf;simp only [Instr.lookup,Sem.run_bind,run_underlying hm,zC2 hkk hku,hf',hzr,Result.andThen_ok,Sem.run_pure]
      · exact hk.elim
  · exact hk.elim
theorem yKm (h:RelI w0 I0 s a.tmps w I Fs){mt kt et:TypeId}{ats:Array TypeId}{m:Operand}{o:Oper}(ho:o.op=.call { callee:=.builtin .len,args:=#[m],argTypes:=ats })(ha:ats[0]?=some mt)(hm:P.underlying mt=some (.map kt et))(hk:zAh Ctr s (.mlen m) K):RunsTo P (execOp a.eval o) w (OutOK nn Fs I w w0 I0 a.tmps K):=by
  have hM:=zC9 h m;have fin:∀ n:Nat,(Builtin.len_ ats o.type #[a.eval m]).run P w=.ok (.int .i64 n) w→K (.v (.int .i64 (n:Int))) s→RunsTo P (execOp a.eval o) w (OutOK nn Fs I w w0 I0 a.tmps K):=(by intro n hrun hK;refine .value (v:=.int .i64 n) ?_ (.plain h hK yCl);simp [execOp,ho,resolve,invoke,builtin,hrun]);simp only [zAh] at hk;split at hk
  · rename_i k e em;obtain ⟨hkM,hk⟩:=yHl hk;obtain ⟨bm,es,clock,e2,hh,he,hks⟩:=yZ8 h hkM em;refine fin e.length ?_ hk;have hl:e.length=es.size:=by rw [← he];simp
    simp [Builtin.len_,ha,e2,Sem.run_bind,run_underlying hm,MapKept.run_getObj_map hh,Result.andThen,hl,goInt]
  · split at hk
    · rename_i em;rw [em] at hM;refine fin 0 ?_ hk;simp [Builtin.len_,ha,(T_v hM).1,Sem.run_bind,run_underlying hm,Result.andThen,goInt]
    · exact hk.elim
theorem zX9 {α β:Type}(f:α→β):∀ (l:List α) (i:Nat),(l.eraseIdx i).map f=(l.map f).eraseIdx i
  | [],_=>rfl
  | _::_,0=>rfl
  | x::l,i+1=>by simp only [List.eraseIdx_cons_succ,xA6,zX9 f l i]
theorem yKo (h:RelI w0 I0 s a.tmps w I Fs) {k:KK} {mt kt et:TypeId} {ats:Array TypeId} {m i:Operand} {o:Oper} (ho:o.op=.call { callee:=.builtin .delete,args:=#[m,i],argTypes:=ats }) (ha:ats[0]?=some mt) (hm:P.underlying mt=some (.map kt et)) (hkk:zT2 P kt=some k) (hk:zAh Ctr s (.mdel k m i) K):RunsTo P (execOp a.eval o) w (OutOK false Fs I w w0 I0 a.tmps K):=by
  have hM:=zC9 h m;have hI:=zC9 h i;simp only [zAh] at hk;split at hk
  · rename_i r q em;rw [em] at hM;simp only [T] at hM;obtain ⟨⟨d0,u0,t0,m1,m2,m3,mo,m4⟩,_⟩:=hM;simp only [m1,m3] at hk;split at hk
    · rename_i k' e et0;simp only [xAv] at et0;subst et0;obtain ⟨rfl,hk⟩:=hk;split at hk
      · rename_i u eu;obtain ⟨hku,hK⟩:=hk;have e1:=yJ0 eu hI;obtain ⟨bm,es,clock,k1,k2,k3,k4,k5,k6⟩:=h.mapSet (zRt hkk) m1 m2 m3;rw [m4] at k1;have e3:a.eval m=.map (some bm):=by simpa using k1
        have hf:=zGk (P:=P) (w:=w) hkk hku es.toList (zZh k3 k4);have main:∀ es':Array MapEntry,es'.toList.map (fun x=>(x.key,x.val))=mdel e u→(Builtin.delete_ ats o.type #[.map (some bm),u]).run P w=.ok (.tuple #[]) { w with heap:=w.heap.setIfInBounds bm (.map es' clock) }→RunsTo P (execOp a.eval o) w (OutOK false Fs I w w0 I0 a.tmps K):=(by intro es' hents hrun;have hset:=heap_set (o':=.map es' clock) k2;have hrel:=k6 { w with heap:=w.heap.setIfInBounds bm (.map es' clock) } (mdel e u) es' clock ⟨rfl,rfl,rfl,by simp⟩ hset.2 hset.1 hents (yHo k4);refine .value (v:=.tuple #[]) (w':={ w with heap:=w.heap.setIfInBounds bm (.map es' clock) }) ?_ ⟨.undef,_,I,Fs,[],hK,hrel,by simp [T],Fresh.nil,fun h=>by cases h⟩;simp [execOp,ho,resolve,invoke,builtin,e1,e3,hrun]);cases hi:es.toList.findIdx? (fun x=>keq u x.key) with
        | none=>rw [hi] at hf;refine main es (by rw [k3];unfold mdel;rw [zO9 k3,hi]) ?_;simp [Builtin.delete_,ha,Sem.run_bind,run_underlying hm,MapKept.run_getObj_map k2,zC2 hkk hku,hf,run_setObj_map _ k2,Result.andThen]
        | some j =>
          obtain ⟨x,hx,_⟩:=yBp hi;rw [hi] at hf;refine main (es.eraseIdxIfInBounds j) ?_ ?_
          · unfold mdel;rw [zO9 k3,hi];have hj:j<es.size:=(xBg.1 hx).1;rw [Array.eraseIdxIfInBounds,dif_pos hj,Array.toList_eraseIdx,← k3];simp only;rw [zX9]
          · simp [Builtin.delete_,ha,Sem.run_bind,run_underlying hm,MapKept.run_getObj_map k2,zC2 hkk hku,hf,hx,run_setObj_map _ k2,Result.andThen]
      · exact hk.elim
    · exact hk.elim
  · exact hk.elim
end
end Go.V
namespace Go.V
open Go.RowKit
section
variable {P:Program} {w0:Base} {I0:Nat→Prop} {s:List D} {a:Act} {w:World} {I:Nat→Prop} {Fs:Nat→List Nat} {K:D→List D→Prop}
def yUo (s:List D)(tm:Array Value)(w:World)(I:Nat→Prop)(Fs:Nat→List Nat)(u:D)(v:Value):Prop:=∃ F,T I w u (ρS s tm w) v F∧(F=[]∨∃ t,s[t]?=some u∧∀ b,b∈F→b∈Fs t)
def zGg (s:List D)(tm:Array Value)(w:World)(I:Nat→Prop)(Fs:Nat→List Nat):List D→List Value→Prop
  | [],vs=>vs=[]
  | u::us,vs=>∃ v vs',vs=v::vs'∧yUo s tm w I Fs u v∧zGg s tm w I Fs us vs'
theorem yVo (h:RelI w0 I0 s a.tmps w I Fs)(x:Operand):yUo s a.tmps w I Fs (raw s x) (a.eval x):=by
  cases x with
  | tmp t =>
    simp only [raw];cases hs:s[t]? with
    | none=>exact ⟨[],by simp [T],.inl rfl⟩
    | some d =>
      obtain ⟨u,hu,hT⟩:=h.slot0 hs;have hg:a.eval (.tmp t)=u:=(by simp [Act.eval,hu]);rw [hg];cases d with
      | box tag cells=>have:=zXy h t;simp only [lkT,hs] at this;simp only [hu,xC6,xDd] at this;exact ⟨[],this,.inl rfl⟩
      | _=>exact ⟨Fs t,hT,.inr ⟨t,hs,fun b hb=>hb⟩⟩
  | const v=>exact ⟨[],zC9 h (.const v),.inl rfl⟩
  | func f=>exact ⟨[],zC9 h (.func f),.inl rfl⟩
  | global g=>exact ⟨[],zC9 h (.global g),.inl rfl⟩
theorem zQl (h:RelI w0 I0 s a.tmps w I Fs):∀ xs:List Operand,zGg s a.tmps w I Fs (xs.map (raw s)) (xs.map a.eval)
  | []=>rfl
  | x::xs=>⟨_,_,rfl,yVo h x,zQl h xs⟩
theorem zR2 {tm:Array Value}:∀ {us:List D} {vs:List Value},Vals I w us (ρS s tm w) vs []→zGg s tm w I Fs us vs
  | [],vs,h=>by simp only [Vals] at h;exact h.1
  | u::us,vs,h=>by simp only [Vals] at h;obtain ⟨v,vs',F1,F2,e,hF,ht,h2⟩:=h;simp at hF;obtain ⟨rfl,rfl⟩:=hF;exact ⟨v,vs',e,⟨[],ht,.inl rfl⟩,zR2 h2⟩
theorem zIg {tm:Array Value}:∀ {us us':List D} {vs vs':List Value},zGg s tm w I Fs us vs→zGg s tm w I Fs us' vs'→zGg s tm w I Fs (us++us') (vs++vs')
  | [],us',vs,vs',h,h'=>by have h:vs=[]:=h;rw [h];exact h'
  | u::us,us',vs,vs',h,h'=>by obtain ⟨v,vs1,e,h1,h2⟩:=h;exact ⟨v,vs1++vs',by rw [e];rfl,h1,zIg h2 h'⟩
theorem zLk {tm:Array Value}:∀ {us:List D} {vs:List Value} {i:Nat} {u:D},zGg s tm w I Fs us vs→us[i]?=some u→∃ v,vs[i]?=some v∧yUo s tm w I Fs u v
  | [],vs,i,u,h,hu=>by simp at hu
  | x::us,vs,0,u,h,hu=>by obtain ⟨v,vs1,e,h1,h2⟩:=h;obtain rfl:x=u:=(by simpa using hu);exact ⟨v,by rw [e];rfl,h1⟩
  | x::us,vs,i+1,u,h,hu=>by obtain ⟨v,vs1,e,h1,h2⟩:=h;obtain ⟨v',k1,k2⟩:=zLk h2 (by simpa using hu);exact ⟨v',by rw [e];simpa using k1,k2⟩
theorem zV6 {tm:Array Value} (h:RelI w0 I0 s a.tmps w I Fs) {r:Nat} {tag:Option Nat} {cells:List D} (hs:s[r]?=some (.box tag cells)) {I':Nat→Prop} (hI:∀ b,I b→I' b):∀ {us:List D} {vs:List Value},zGg s a.tmps w I Fs us vs→((us.map (D.prune (zAd r))).all D.noRef=true∨∀ r',r'≠r→∀ b,b∈Fs r'→I' b) →
    Vals I' w ((us.map (D.prune (zAd r))).map (deep ((zAc (zAd r) s).set r .undef) 8)) nil vs []
  | [],vs,hv,_=>by have hv:vs=[]:=hv;simp [Vals,hv]
  | u :: us,vs,hv,hn=>by
    obtain ⟨v,vs',e,⟨F,hT,hF⟩,h2⟩:=hv;simp only [xA6,Vals];refine ⟨v,vs',[],[],e,rfl,?_,zV6 (tm:=tm) h hs hI h2 (hn.imp_left (fun hn=>by simp only [xA6,xBm,xA2] at hn;exact hn.2))⟩;have hT':T I w (u.prune (zAd r)) (ρS ((zAc (zAd r) s).set r .undef) a.tmps w) v F:=T.turn (fun y v hq hy=>hy.forget r hq) u hT;by_cases hb:∃ tg cs,u=.box tg cs
    · obtain ⟨tg,cs,rfl⟩:=hb;simp [D.prune,deep,T]
    · have hsub:∀ r' b,b∈upd Fs r [] r'→r'≠r∧b∈Fs r':=fun r' b hb=>by
        unfold upd at hb;split at hb
        · cases hb
        · rename_i hne;exact ⟨hne,hb⟩
      refine yBz (h.forget r) hI 8 (u.prune (zAd r)) (fun _ _ h=>h) hT' (fun b hbF=>?_) ?_
      · rcases hF with rfl | ⟨t,ht,hF⟩
        · cases hbF
        · have hne:t≠r:=(by rintro rfl;rw [hs] at ht;cases ht;exact hb ⟨_,_,rfl⟩);rcases hn with hn | hn
          · simp only [xA6,xBm,xA2] at hn;have:=T.nofoot _ hT' (zP8 _ hn.1);rw [this] at hbF;cases hbF
          · exact hn t hne b (hF b hbF)
      · rcases hn with hn | hn
        · simp only [xA6,xBm,xA2] at hn;exact .inl hn.1
        · exact .inr fun r' b hb=>hn r' (hsub r' b hb).1 b (hsub r' b hb).2
theorem zR1:∀ {ds:List D} {us:List Value} {ρ:D→Value→Prop} (i:Nat),Vals I w ds ρ us []→Vals I w (ds.set i .undef) ρ us []
  | [],us,ρ,i,h=>by simpa using h
  | d::ds,us,ρ,i,h=>by
    simp only [Vals] at h;obtain ⟨u,us',F1,F2,e,hF,ht,h2⟩:=h;simp at hF;obtain ⟨rfl,rfl⟩:=hF;cases i with
    | zero=>simp only [xA8,Vals];exact ⟨u,us',[],[],e,rfl,by simp [T],h2⟩
    | succ i=>simp only [xBc,Vals];exact ⟨u,us',[],[],e,rfl,ht,zR1 i h2⟩
theorem RelI.repoint {tm:Array Value} {w':World} {I2:Nat→Prop} {Fs2:Nat→List Nat} {r:Nat} {tag tag':Option Nat} {cells cells':List D} {u0:Value} {X':List Nat} (h:RelI w0 I0 s tm w I Fs) (hs:s[r]?=some (.box tag cells)) (hu:tm[r]?=some u0)
    (h2:RelI w0 I0 ((zAc (zAd r) s).set r (.box tag' cells')) tm w' I2 Fs2) (hF:∀ k,k≠r→Fs2 k=Fs k) (hr:Fs2 r=X') (hI:∀ b,I b→I2 b) (hk:∀ b,I b∨(∃ k,k≠r∧b∈Fs k)→w'.heap[b]?=w.heap[b]?) (hB:T I2 w' (.box tag' cells') nil u0 X') :
    RelI w0 I0 ((zAc (zF7 r) s).set r (.box tag' cells')) tm w' I2 Fs2 where
  below:=h2.below
  len:=by have:=h2.len;simpa [zAx] using this
  slot := by
    intro k d u h1 hu';have hlt:r<s.length:=(xA4.1 hs).1;by_cases hkr:k=r
    · subst hkr;simp [zAx,hlt] at h1;rw [hu] at hu';cases hu';rw [← h1,hr];exact hB.res (fun _ _ h=>h.elim)
    · rw [xA9 (Ne.symm hkr),zA3] at h1;cases hsk:s[k]? with
      | none=>simp [hsk] at h1
      | some d1 =>
        simp only [hsk,xAx,xAv] at h1;rw [← h1,hF k hkr];refine T.turn (fun x v hq hx=>?_) d1 (T.mono hI d1 (T.keep d1 (h.slot k d1 u hsk hu') (fun b hb=>hk b (hb.imp_right fun hb=>⟨k,hkr,hb⟩))));have hget:∀ r' d',r'≠r→s[r']?=some d'→((zAc (zF7 r) s).set r (.box tag' cells'))[r']?=some (d'.prune (zF7 r)):=fun r' d' hne hd=>by rw [xA9 (Ne.symm hne),zA3,hd];rfl
        have hval:∀ r' d' v0 p t,r'≠r→s[r']?=some d'→tm[r']?=some v0→zAf d' p=some t→zA8 w' v0 (d'.prune (zF7 r)) p=zA8 w v0 d' p:=fun r' d' v0 p t hne k1 k2 k3=>by rw [zBo p d' (zF7 r) k3,zBx p d' (h.slot r' d' v0 k1 k2) k3 (fun b hb=>hk b (.inr ⟨r',hne,hb⟩))]
        cases x with
        | ref r' p=>obtain ⟨d',v0,t1,k1,k2,k3,ho,k4⟩:=hx;have hne:r'≠r:=(by simpa [zF7] using hq);obtain ⟨q',hq'⟩:=zBi p d' (zF7 r) k3;exact ⟨_,v0,t1,hget r' d' hne k1,k2,by rw [zHq ho] at hq';exact hq',ho,by rw [hval r' d' v0 p t1 hne k1 k2 k3];exact k4⟩
        | sub r' p i n=>obtain ⟨d',v0,t',sz,rows,u1,b,o,cc,k1,k2,k3,k4,k5,k6⟩:=hx;have hne:r'≠r:=(by simpa [zF7] using hq);obtain ⟨q',hq'⟩:=zBi p d' (zF7 r) k3;obtain ⟨rows',hr'⟩:=(zCf k4 q').cont k4;exact ⟨_,v0,t'.prune q',sz,rows',u1,b,o,cc,hget r' d' hne k1,k2,hq',hr',by rw [hval r' d' v0 p t' hne k1 k2 k3];exact k5,k6⟩
        | ptr r' p i j =>
          obtain ⟨d',v0,t',sz,rows,u1,b,o,k1,k2,k3,k4,k5,k6,k7⟩:=hx;by_cases hne:r'=r
          · subst hne;have hp:p=[]∧i=0:=by simpa [zF7] using hq
            obtain ⟨rfl,rfl⟩:=hp;rw [hu] at k2;cases k2;simp only [zA8,xAv] at k5;subst k5;exact ⟨_,u0,_,cells'.length,[cells'],u0,b,o,by simp [zAx,hlt];rfl,hu,rfl,rfl,rfl,k6,by rw [k7];simp⟩
          · obtain ⟨q',hq'⟩:=zBi p d' (zF7 r) k3;obtain ⟨rows',hr'⟩:=(zCf k4 q').cont k4;exact ⟨_,v0,t'.prune q',sz,rows',u1,b,o,hget r' d' hne k1,k2,hq',hr',by rw [hval r' d' v0 p t' hne k1 k2 k3];exact k5,k6,k7⟩
        | _=>exact hx.elim
  nd:=h2.nd
  disj:=h2.disj
  own:=h2.own
  imm:=h2.imm
  imm0:=h2.imm0
  immN:=h2.immN
theorem xAd {G:World→(Nat→Prop)→Prop} (hG:GI G w I0) (h:RelI w0 I0 s a.tmps w I Fs) {f:FuncId} {us:List D} {vs:List Value} (hv:zGg s a.tmps w I Fs us vs) (hk:ioK (CT P G) f s us K) :
    Calls P f vs.toArray w fun e w'=>∃ v,e=.returned v∧OutOK false Fs I w w0 I0 a.tmps K v w':=by
  obtain ⟨i,r,tag,cells,args',cells0,hi,hs,hle,hlc,hkb⟩:=hk;obtain ⟨u0,hu0,hTb⟩:=h.slot0 hs;simp only [T] at hTb;obtain ⟨b,cs,et,F',hub,htg0,hh,hFr,hcs⟩:=hTb;obtain ⟨d,cells',tag',htt,hC,hn,hK⟩:=hkb b htg0;have htg:∀ k,tag'=some k→b=k:=by
    rcases htt with rfl | rfl
    · exact htg0
    · intro k e;cases e;rfl
  have hptr:vs[i]?=some (.pointer (some ⟨b,0,none⟩)):=(by obtain ⟨v,hvi,F,hT,_⟩:=zLk hv hi;simp only [T] at hT;obtain ⟨⟨d1,u1,t1,sz,rows,u2,b1,o1,m1,m2,m3,m4,m5,m6,m7⟩,_⟩:=hT;rw [hu0] at m2;cases m2;simp only [zA8,xAv] at m5;subst m5;rw [hub] at m6;simp only [zBa,xAv,xBd] at m6;obtain ⟨rfl,rfl⟩:=m6;rw [hvi,m7];simp);have hcs0:Cells I w (zAc (fun _=>false) cells) nil cs.toList F':=Cells.turn (fun x v hq _=>by cases hq) cells hcs;obtain ⟨F0,hcs1,hsub⟩:=Cells.leF _ _ hcs0 hlc;have hndr:=h.nd r;rw [hFr] at hndr;have hXr:∀ x,x∈b::F0→x∈Fs r:=fun x hx=>by
    rw [hFr];rcases xBs.1 hx with rfl | hx
    · simp
    · exact xCc _ (hsub.subset hx)
  have hXnd:(b::F0).Nodup:=xB8.2 ⟨fun hb=>(xB8.1 hndr).1 (hsub.subset hb),hsub.nodup (xB8.1 hndr).2⟩;have hupd:∀ r' x,x∈upd Fs r [] r'→r'≠r∧x∈Fs r':=fun r' x hx=>by
    unfold upd at hx;split at hx
    · cases hx
    · rename_i hne;exact ⟨hne,hx⟩
  have hfg:=h.forget r;have htmr:∀ v,v=u0→a.tmps.setIfInBounds r v=a.tmps:=by
    rintro _ rfl;apply xCw;intro j;by_cases hj:r=j
    · subst hj;rw [hu0,xB4 (xBg.1 hu0).1]
    · rw [xBe hj]
  have hlt:=(xA4.1 hs).1
  -- the end, whichever blocks stay
  have fin:∀ (Ic:Nat→Prop),(∀ x,I x→Ic x)→(∀ x,Ic x→x<w.heap.size)→(∀ x,x∈b::F0→¬ Ic x)→Vals Ic w args' nil vs []→(∀ {v:Value} {w':World} {F X':List Nat} {I':Nat→Prop},(ioB w (b::F0)).Below w'→T I' w' d nil v F→T I' w' (.box (some b) cells') nil (.pointer (some ⟨b,0,none⟩)) X'→(∀ x,Ic x→I' x)→(∀ x,I' x→(Ic x∨w.heap.size≤x∨x∈b::F0)∧x<w'.heap.size)→(F++X').Nodup→(∀ x,x∈F++X'→(w.heap.size≤x∨x∈b::F0)∧x<w'.heap.size∧¬ I' x) →
        ∃ I2,(∀ x,I x→I2 x)∧RelI w0 I0 ((zAc (zAd r) s).set r .undef) a.tmps w' I2 (upd Fs r [])∧T I2 w' d nil v F∧T I2 w' (.box (some b) cells') nil (.pointer (some ⟨b,0,none⟩)) X'∧∀ x,x∈F++X'→¬ I2 x) →
      Calls P f vs.toArray w fun e w'=>∃ v,e=.returned v∧OutOK false Fs I w w0 I0 a.tmps K v w':=by
    intro Ic hIc hIlt hIX hvals hend;refine (hC.2 w Ic vs (b::F0) (hG.mono fun b hb=>hIc b (h.imm0 b hb)) hIlt hptr (zR1 i hvals) ?_ hXnd (fun x hx=>⟨(h.own r x (hXr x hx)).2.1,hIX x hx⟩)).mono ?_
    · refine T.mono hIc (.box (some b) cells0) ?_;simp only [T];exact ⟨b,cs,et,F0,rfl,fun k hk=>by cases hk;rfl,hh,rfl,hcs1⟩
    · rintro e w' ⟨v,F,X',I',he,hbel,hTd,hTx,hnd,hF,hI1,hI2⟩;obtain ⟨I2,hII2,hR,hTd2,hTx2,hnI⟩:=hend hbel hTd hTx hI1 hI2 hnd hF;have hnd1:=xA5.1 hnd;have hTx3:T I2 w' (.box tag' cells') (ρS ((zAc (zAd r) s).set r .undef) a.tmps w') u0 X':=by simp only [T] at hTx2 ⊢;obtain ⟨b2,cs2,e2,F2,k1,_,k3,k4,k5⟩:=hTx2;simp only [Value.pointer.injEq,xAv,Addr.mk.injEq,and_true] at k1;subst k1;exact ⟨b,cs2,e2,F2,hub,htg,k3,k4,k5.res (fun _ _ h=>h.elim)⟩
      have hN:∀ x,(w.heap.size≤x∨x∈b::F0)→w0.N x:=fun x hx=>hx.elim (fun h1=>Base.N_of h.below h1) (fun h1=>(h.own r x (hXr x h1)).1);have hout:∀ x,(w.heap.size≤x∨x∈b::F0)→∀ r',x∉upd Fs r [] r':=fun x hx r' hr=>by
        obtain ⟨hne,hr⟩:=hupd r' x hr;rcases hx with hx | hx
        · have:=(h.own r' x hr).2.1;omega
        · exact hne (h.disj r' r x hr (hXr x hx))
      have hput:=hR.put (t:=r) (d0:=.undef) (d:=.box tag' cells') (u:=u0) (F:=X') qAy rfl hTx3 hnd1.2.1 (fun x hx=>⟨hN x (hF x qAi).1,(hF x qAi).2.1,hnI x qAi,fun r' _=>hout x (hF x qAi).1 r'⟩);rw [htmr u0 rfl,xE3] at hput;have hTx4:T I2 w' (.box tag' cells') nil u0 X':=(by simp only [T] at hTx2 ⊢;obtain ⟨b2,cs2,e2,F2,k1,_,k3,k4,k5⟩:=hTx2;simp only [Value.pointer.injEq,xAv,Addr.mk.injEq,and_true] at k1;subst k1;exact ⟨b,cs2,e2,F2,hub,htg,k3,k4,k5⟩);have hkeep0:∀ x,x<w.heap.size→x∉b::F0→w'.heap[x]?=w.heap[x]?:=fun x hx hn=>hbel.block x (fun hN=>hN.elim (fun h=>by have h:w.heap.size≤x:=h;omega) hn);have hput:=RelI.repoint h hs hu0 hput (fun k hk=>by unfold upd;rw [if_neg hk,if_neg hk]) qB4 hII2 (fun x hx=>by
        rcases hx with hx | ⟨k,hk,hx⟩
        · exact hkeep0 x (h.imm x hx) (fun hX=>(h.own r x (hXr x hX)).2.2 hx)
        · exact hkeep0 x (h.own k x hx).2.1 (fun hX=>hk (h.disj k r x hx (hXr x hX)))) hTx4
      refine ⟨v,he,d,_,I2,_,F,hK,hput,hTd2.res (fun _ _ h=>h.elim),⟨hnd1.1,fun x hx=>⟨hN x (hF x qAi).1,(hF x qAi).2.1,hnI x qAi,fun r' hr=>?_⟩⟩,fun h=>by cases h⟩;by_cases hrr:r'=r
      · subst hrr;simp only [upd,if_true] at hr;exact hnd1.2.2 x hx x hr rfl
      · have:x∈upd Fs r [] r':=qCg;exact hout x (hF x qAi).1 r' this
  have hsame:∀ {w':World},(ioB w (b::F0)).Below w'→RelI w0 I0 ((zAc (zAd r) s).set r .undef) a.tmps w' I (upd Fs r []):=by
    intro w' hbel;have hkeep:∀ x,x<w.heap.size→x∉b::F0→w'.heap[x]?=w.heap[x]?:=fun x hx hn=>hbel.block x (fun hN=>hN.elim (fun h=>by have h:w.heap.size≤x:=h;omega) hn);refine hfg.same ⟨hbel.os,hbel.tape,hbel.output,hbel.size,fun k hk=>hkeep k (xCj (Base.not hk) h.below.size) (fun hx=>hk (h.own r k (hXr k hx)).1)⟩ (fun x hx=>?_);rcases hx with hx | ⟨r',hr⟩
    · exact hkeep x (h.imm x hx) (fun hX=>(h.own r x (hXr x hX)).2.2 hx)
    · obtain ⟨hne,hr⟩:=hupd r' x hr;exact hkeep x (h.own r' x hr).2.1 (fun hX=>hne (h.disj r' r x hr (hXr x hX)))
  by_cases hnr:(us.map (D.prune (zAd r))).all D.noRef=true
  · refine fin I (fun _ h=>h) h.imm (fun x hx=>(h.own r x (hXr x hx)).2.2) (Vals.le _ _ (zV6 (tm:=a.tmps) h hs (fun _ h=>h) hv (.inl hnr)) hle) ?_;intro v w' F X' I' hbel hTd hTx hI1 hI2 hnd hF;refine ⟨I',hI1,(hsame hbel).immMore hI1 (fun x hx=>?_),hTd,hTx,fun x hx=>(hF x hx).2.2⟩;obtain ⟨k1,k2⟩:=hI2 x hx;rcases k1 with k1 | k1
    · exact .inl k1
    · refine .inr ⟨k1.elim (fun h1=>Base.N_of h.below h1) (fun h1=>(h.own r x (hXr x h1)).1),k2,fun r' hr=>?_⟩;obtain ⟨hne,hr⟩:=hupd r' x hr;rcases k1 with k1 | k1
      · have:=(h.own r' x hr).2.1;omega
      · exact hne (h.disj r' r x hr (hXr x k1))
  · have hni:=hn.resolve_right hnr;refine fin (fun x=>I x∨∃ r',r'≠r∧x∈Fs r') (fun _ h=>.inl h) (fun x hx=>hx.elim (h.imm x) (fun ⟨r',_,hr⟩=>(h.own r' x hr).2.1)) (fun x hx hI=>?_) (Vals.le _ _ (zV6 (tm:=a.tmps) h hs (fun _ h=>.inl h) hv (.inr fun r' hne b hb=>.inr ⟨r',hne,hb⟩)) hle) ?_
    · rcases hI with hI | ⟨r',hne,hr⟩
      · exact (h.own r x (hXr x hx)).2.2 hI
      · exact hne (h.disj r' r x hr (hXr x hx))
    · intro v w' F X' I' hbel hTd hTx hI1 hI2 hnd hF;refine ⟨I,fun _ h=>h,hsame hbel,T.noImm d hTd hni.1,T.noImm (.box (some b) cells') hTx (by simpa [D.noImm] using hni.2),fun x hx hI=>?_⟩;rcases (hF x hx).1 with h1 | h1
      · have:=h.imm x hI;omega
      · exact (h.own r x (hXr x h1)).2.2 hI
theorem zX0 (h:RelI w0 I0 s a.tmps w I Fs)(r:Nat){I':Nat→Prop}(hI:∀ b,I b→I' b):∀ {us:List D} {vs:List Value},zGg s a.tmps w I Fs us vs→us.all (fun u=>!u.owny)=true→((us.map (D.prune (zAd r))).all D.noRef=true∨∀ r',r'≠r→∀ b,b∈Fs r'→I' b) →
    Vals I' w ((us.map (D.prune (zAd r))).map (deep ((zAc (zAd r) s).set r .undef) 8)) nil vs []
  | [],vs,hv,_,_=>by have hv:vs=[]:=hv;simp [Vals,hv]
  | u :: us,vs,hv,hn,hI'=>by
    obtain ⟨v,vs',e,⟨F,hT,hF⟩,h2⟩:=hv;simp only [xBm,xA2,xDy] at hn;simp only [xA6,Vals];refine ⟨v,vs',[],[],e,rfl,?_,zX0 h r hI h2 hn.2 (hI'.imp_left fun hn=>by simp only [xA6,xBm,xA2] at hn;exact hn.2)⟩;have hFn:F=[]:=T.nofoot _ hT hn.1;subst hFn;have hT':T I w (u.prune (zAd r)) (ρS ((zAc (zAd r) s).set r .undef) a.tmps w) v []:=T.turn (fun y v hq hy=>hy.forget r hq) u hT;refine yBz (h.forget r) hI 8 (u.prune (zAd r)) (fun _ _ h=>h) hT' (fun b hb=>by cases hb) ?_;rcases hI' with hI' | hI'
    · simp only [xA6,xBm,xA2] at hI';exact .inl hI'.1
    · refine .inr fun r' b hb=>?_;unfold upd at hb;split at hb
      · cases hb
      · rename_i hne;exact hI' r' hne b hb
theorem zNx {tm:Array Value}:∀ {us:List D} {vs:List Value} (i:Nat),zGg s tm w I Fs us vs→zGg s tm w I Fs (us.set i .undef) vs
  | [],vs,i,h=>h
  | u::us,vs,i,h=>by
    obtain ⟨v,vs',e,h1,h2⟩:=h;cases i with
    | zero=>exact ⟨v,vs',e,⟨[],by simp [T],.inl rfl⟩,h2⟩
    | succ i=>exact ⟨v,vs',e,h1,zNx i h2⟩
theorem zSr {I:Nat→Prop}{w:World}{ρ ρ':D→Value→Prop}:∀ {ds:List D} {us:List Value} {F:List Nat},ds.all D.plain=true→Cells I w ds ρ us F→Cells I w ds ρ' us F
  | [],us,F,_,h=>by simpa only [Cells] using h
  | d::ds,us,F,hx,h=>by
    simp only [xBm,xA2] at hx;simp only [Cells] at h ⊢;obtain ⟨u,us',F1,F2,e,hF,ho,h1,h2⟩:=h;cases d with
    | v x=>exact ⟨u,us',F1,F2,e,hF,ho,by simpa only [T] using h1,zSr hx.2 h2⟩
    | undef=>exact ⟨u,us',F1,F2,e,hF,ho,by simpa only [T] using h1,zSr hx.2 h2⟩
    | _=>simp [D.plain] at hx
theorem zHx {I:Nat→Prop}{w:World}{ρ ρ':D→Value→Prop}:∀ {ds:List D} {us:List Value} {F:List Nat},zHe ds=true→Cells I w ds ρ us F→Cells I w ds ρ' us F
  | [],us,F,_,h=>by simpa only [Cells] using h
  | d :: ds,us,F,hx,h=>by
    simp only [Cells] at h ⊢;obtain ⟨u,us',F1,F2,e,hF,ho,h1,h2⟩:=h;cases d with
    | v x=>exact ⟨u,us',F1,F2,e,hF,ho,by simpa only [T] using h1,zHx qBf h2⟩
    | nils=>exact ⟨u,us',F1,F2,e,hF,ho,by simpa only [T] using h1,zHx qBf h2⟩
    | sl own sz rows =>
      cases own with
      | false=>simp [zHe] at hx
      | true=>exact ⟨u,us',F1,F2,e,hF,ho,by simpa only [T] using h1,zHx qBf h2⟩
    | box tag cs=>simp only [zHe,xA2] at hx;refine ⟨u,us',F1,F2,e,hF,ho,?_,zHx hx.2 h2⟩;simp only [T] at h1 ⊢;obtain ⟨b,cs',et,F',k1,k2,k3,k4,k5⟩:=h1;exact ⟨b,cs',et,F',k1,k2,k3,k4,zSr hx.1 k5⟩
    | _=>simp [zHe] at hx
theorem zWd {I:Nat→Prop}{w:World}{ρ ρ':D→Value→Prop}{d:D}{u:Value}{F:List Nat}(hx:d.exact=true)(h:T I w d ρ u F):T I w d ρ' u F:=by
  cases d with
  | sl own sz rows=>simpa only [T] using h
  | mp k e=>simpa only [T] using h
  | agg cs=>simp only [T] at h ⊢;obtain ⟨us,e,hc⟩:=h;exact ⟨us,e,zHx (by simpa [D.exact] using hx) hc⟩
  | _=>simp [D.exact] at hx
theorem zKt {s:List D} {tm:Array Value} {r:Nat} {tag:Option Nat} {all:List D} {b:Nat} {cs:Array Value} {et:TypeId} (hs:s[r]?=some (.box tag all)) (hu:tm[r]?=some (.pointer (some ⟨b,0,none⟩))) (hh:w.heap[b]?=some (.cells cs et (0,0))):∀ (ds:List D) (j:Nat) {us vs:List Value} {F:List Nat} {ρ:D→Value→Prop},zHe ds=true→all.drop j=ds→cs.toList.drop j=vs→Cells I w ds ρ vs F→Cells I w (zMa r [] 0 j ds) (ρS s tm w) us []→us=vs
  | [],j,us,vs,F,ρ,_,_,_,h1,h2=>by simp only [zMa,Cells] at h1 h2;rw [h1.1,h2.1]
  | d :: ds,j,us,vs,F,ρ,hx,hd,hv,h1,h2=>by
    simp only [Cells] at h1;obtain ⟨v,vs',F1,F2,ev,hF,ho,ht,h1⟩:=h1;have hd':all.drop (j+1)=ds:=by rw [← xFw,hd];rfl
    have hv':cs.toList.drop (j+1)=vs':=(by rw [← xFw,hv,ev];rfl);have hj:all[j]?=some d:=(by have:=congrArg (fun l=>l[0]?) hd;simpa using this);have hcj:cs[j]?=some v:=(by have:=congrArg (fun l=>l[0]?) hv;rw [ev] at this;simpa using this);cases d with
    | v x=>simp only [zMa,D.owny,xBa,if_false,Cells] at h2;obtain ⟨u,us',G1,G2,eu,hG,hou,htu,h2⟩:=h2;simp at hG;obtain ⟨rfl,rfl⟩:=hG;simp only [T] at ht htu;rw [eu,ev,ht.1,htu.1,zKt hs hu hh ds (j+1) qBf hd' hv' h1 h2]
    | nils=>simp only [zMa,D.owny,xBa,if_false,Cells] at h2;obtain ⟨u,us',G1,G2,eu,hG,hou,htu,h2⟩:=h2;simp at hG;obtain ⟨rfl,rfl⟩:=hG;simp only [T] at ht htu;rw [eu,ev,ht.1,htu.1,zKt hs hu hh ds (j+1) qBf hd' hv' h1 h2]
    | sl own sz rows =>
      cases own with
      | false=>simp [zHe] at hx
      | true =>
        simp only [zMa,Cells,xBp] at h2;obtain ⟨u,us',G1,G2,eu,hG,hou,htu,h2⟩:=h2;simp at hG;obtain ⟨rfl,rfl⟩:=hG;have heq:=zKt hs hu hh ds (j+1) qBf hd' hv' h1 h2;simp only [T,ρS] at htu;obtain ⟨⟨d1,u1,t1,k1,k2,k3,k4,k5⟩,_⟩:=htu;rw [hs] at k1;cases k1;rw [hu] at k2;cases k2;have hc:w.cell? ⟨b,0+0*all.length+j,none⟩=some v:=by rw [zBh hh];simpa using hcj
        simp only [zA8,D.cont,zBa,xBb,hj,hc,xAv] at k5;rw [eu,ev,k5,heq]
    | box tg bs =>
      simp only [zHe,xA2] at hx;simp only [zMa,Cells,xBp] at h2;obtain ⟨u,us',G1,G2,eu,hG,hou,htu,h2⟩:=h2;simp at hG;obtain ⟨rfl,rfl⟩:=hG;have heq:=zKt hs hu hh ds (j+1) hx.2 hd' hv' h1 h2;simp only [T,ρS] at htu;obtain ⟨⟨d1,u1,t1,sz,rows,u2,b1,o1,k1,k2,k3,k4,k5,k6,k7⟩,_⟩:=htu;rw [hs] at k1;cases k1;rw [hu] at k2;cases k2;have hc:w.cell? ⟨b,0+0*all.length+j,none⟩=some v:=by rw [zBh hh];simpa using hcj
      simp only [zA8,D.cont,zBa,xBb,hj,hc,xAv] at k5;subst k5;simp only [T] at ht;obtain ⟨bb,_,_,_,hub,_⟩:=ht;rw [hub] at k6;simp only [zBa,xAv,xBd] at k6;obtain ⟨rfl,rfl⟩:=k6;rw [eu,ev,heq,k7,hub];simp
    | _=>simp [zHe] at hx
theorem zWa {I:Nat→Prop} {w:World} {ρ ρ':D→Value→Prop}:∀ {ds:List D} {us:List Value} {F:List Nat},ds.all D.flatI=true→Cells I w ds ρ us F→F=[]∧Cells I w ds ρ' us []
  | [],us,F,_,h=>by simp only [Cells] at h ⊢;exact ⟨h.2,h.1,trivial⟩
  | d :: ds,us,F,hx,h=>by
    simp only [xBm,xA2] at hx;simp only [Cells] at h ⊢;obtain ⟨u,us',F1,F2,e,hF,ho,h1,h2⟩:=h;obtain ⟨rfl,h3⟩:=zWa (ρ':=ρ') hx.2 h2;cases d with
    | v x=>simp only [T] at h1;exact ⟨by rw [hF,h1.2];rfl,u,us',[],[],e,rfl,ho,by simp only [T];exact ⟨h1.1,trivial⟩,h3⟩
    | nils=>simp only [T] at h1;exact ⟨by rw [hF,h1.2];rfl,u,us',[],[],e,rfl,ho,by simp only [T];exact ⟨h1.1,trivial⟩,h3⟩
    | sl own sz rows =>
      cases own with
      | true=>simp [D.flatI] at hx
      | false =>
        have h1':=h1;simp only [T] at h1;obtain ⟨aa,c,k1,k2,k3,k4⟩:=h1;rcases k4 with ⟨_,k5,_⟩ | ⟨k5,_⟩
        · subst k5;exact ⟨by rw [hF];rfl,u,us',[],[],e,rfl,ho,by simpa only [T] using h1',h3⟩
        · cases k5
    | _=>simp [D.flatI] at hx
theorem zG1 {I I2:Nat→Prop}{w w2:World}{ρ:D→Value→Prop}{tg:Option Nat}{cs cells':List D}{u:Value}{F X':List Nat}(h:T I w (.box tg cs) ρ u F)(h2:T I2 w2 (.box none cells') nil u X'):T I2 w2 (.box tg cells') nil u X':=by simp only [T] at h h2 ⊢;obtain ⟨b,_,_,_,hu,ht,_⟩:=h;obtain ⟨b2,cs2,e2,F2,k1,_,k3,k4,k5⟩:=h2;rw [hu] at k1;simp only [Value.pointer.injEq,xAv,Addr.mk.injEq,and_true] at k1;subst k1;exact ⟨b,cs2,e2,F2,hu,ht,k3,k4,k5⟩
theorem zG0 {I:Nat→Prop}{w:World}{ρ:D→Value→Prop}{tg:Option Nat}{cs:List D}{u:Value}{F:List Nat}(h:T I w (.box tg cs) ρ u F):T I w (.box none (zAc (fun _=>false) cs)) nil u F:=by have:=T.turn (q:=fun _=>false) (ρ':=nil) (fun x v hq _=>by cases hq) (D.box tg cs) h;simp only [D.prune,T] at this ⊢;obtain ⟨b2,cs2,et2,F2,m1,_,m3,m4,m5⟩:=this;exact ⟨b2,cs2,et2,F2,m1,(fun k hk=>by cases hk),m3,m4,m5⟩
theorem zX1 {G:World→(Nat→Prop)→Prop} (hG:GI G w I0) (h:RelI w0 I0 s a.tmps w I Fs) {f:FuncId} {us:List D} {vs:List Value} (hv:zGg s a.tmps w I Fs us vs) {i r:Nat} {fr:Bool} {d d0 d' dnew dr res:D} {args':List D} {u0 vx:Value} (hs:s[r]?=some d) (hu0:a.tmps[r]?=some u0) (hvx:vs[i]?=some vx)
    (hsp:∃ A X B ur,Fs r=A++X++B∧T I w d0 nil vx X∧(∀ (I2:Nat→Prop) (w2:World) (X':List Nat),T I2 w2 d' nil vx X'→T I2 w2 dr nil ur X')∧∀ (I2:Nat→Prop) (w2:World) (X':List Nat),(fr=true∨I2=I)→(∀ y,I y∨y∈A∨y∈B→w2.heap[y]?=w.heap[y]?)→T I2 w2 dr nil ur X'→T I2 w2 dnew nil u0 (A++X'++B))
    (hoth:(∃ d,s[r]?=some d∧d.boxy=true)∨(us.set i .undef).all (fun u=>!u.owny)=true) (hle:leL (((us.set i .undef).map (D.prune (zAd r))).map (deep ((zAc (zAd r) s).set r .undef) 8)) args') (hC:ContractL P G f i args' d0 res d')
    (hcs:(fr=false∧res.noImm=true∧dr.noImm=true)∨(fr=true∧((us.set i .undef).map (D.prune (zAd r))).all D.noRef=true)) (hK:K res ((zAc (zAd r) s).set r dnew)∨((∃ d,s[r]?=some d∧d.boxy=true)∧dnew.boxy=true∧K res ((zAc (zF7 r) s).set r dnew))) :
    Calls P f vs.toArray w fun e w'=>∃ v,e=.returned v∧OutOK false Fs I w w0 I0 a.tmps K v w':=by
  obtain ⟨A,X,B,ur,hFr,hT0,hred,hreb⟩:=hsp;have hndr:=h.nd r;rw [hFr] at hndr;have hn1:=xA5.1 hndr;have hn2:=xA5.1 hn1.1;have hXr:∀ x,x∈X→x∈Fs r:=fun x hx=>by rw [hFr];simp [hx]
  have hupd:∀ r' x,x∈upd Fs r [] r'→r'≠r∧x∈Fs r':=fun r' x hx=>by
    unfold upd at hx;split at hx
    · cases hx
    · rename_i hne;exact ⟨hne,hx⟩
  have hfg:=h.forget r;have hlt:=(xA4.1 hs).1;have htmr:a.tmps.setIfInBounds r u0=a.tmps:=by
    apply xCw;intro j;by_cases hj:r=j
    · subst hj;rw [hu0,xB4 (xBg.1 hu0).1]
    · rw [xBe hj]
  have hsame:∀ {w':World},(ioB w X).Below w'→RelI w0 I0 ((zAc (zAd r) s).set r .undef) a.tmps w' I (upd Fs r []):=by
    intro w' hbel;have hkeep:∀ x,x<w.heap.size→x∉X→w'.heap[x]?=w.heap[x]?:=fun x hx hn=>hbel.block x (fun hN=>hN.elim (fun h=>by have h:w.heap.size≤x:=h;omega) hn);refine hfg.same ⟨hbel.os,hbel.tape,hbel.output,hbel.size,fun k hk=>hkeep k (xCj (Base.not hk) h.below.size) (fun hx=>hk (h.own r k (hXr k hx)).1)⟩ (fun x hx=>?_);rcases hx with hx | ⟨r',hr⟩
    · exact hkeep x (h.imm x hx) (fun hX=>(h.own r x (hXr x hX)).2.2 hx)
    · obtain ⟨hne,hr⟩:=hupd r' x hr;exact hkeep x (h.own r' x hr).2.1 (fun hX=>hne (h.disj r' r x hr (hXr x hX)))
  have hA:∀ y,y∈A→y∈Fs r∧y∉X:=fun y hy=>⟨by rw [hFr];simp [hy],fun hx=>hn2.2.2 y hy y hx rfl⟩
  have hB:∀ y,y∈B→y∈Fs r∧y∉X:=fun y hy=>⟨by rw [hFr];simp [hy],fun hx=>hn1.2.2 y qAi y hy rfl⟩
  -- the end, whichever blocks stay
  have fin:∀ (Ic:Nat→Prop),(∀ x,I x→Ic x)→(∀ x,Ic x→x<w.heap.size)→(∀ x,x∈X→¬ Ic x)→Vals Ic w args' nil vs []→(∀ {v:Value} {w':World} {F X':List Nat} {I':Nat→Prop},(ioB w X).Below w'→T I' w' res nil v F→T I' w' dr nil ur X'→(∀ x,Ic x→I' x)→(∀ x,I' x→(Ic x∨w.heap.size≤x∨x∈X)∧x<w'.heap.size)→(F++X').Nodup→(∀ x,x∈F++X'→(w.heap.size≤x∨x∈X)∧x<w'.heap.size∧¬ I' x) →
        ∃ I2,(fr=true∨I2=I)∧(∀ x,I x→I2 x)∧RelI w0 I0 ((zAc (zAd r) s).set r .undef) a.tmps w' I2 (upd Fs r [])∧T I2 w' res nil v F∧T I2 w' dr nil ur X'∧(∀ y,y∈F++X'→¬ I2 y)∧∀ y,y∈A∨y∈B→¬ I2 y) →
      Calls P f vs.toArray w fun e w'=>∃ v,e=.returned v∧OutOK false Fs I w w0 I0 a.tmps K v w':=by
    intro Ic hIc hIlt hIX hvals hend;refine (hC.2 w Ic vs vx X (hG.mono fun b hb=>hIc b (h.imm0 b hb)) hIlt hvx (zR1 i hvals) (T.mono hIc d0 hT0) hn2.2.1 (fun x hx=>⟨(h.own r x (hXr x hx)).2.1,hIX x hx⟩)).mono ?_;rintro e w' ⟨v,F,X',I',he,hbel,hTd1,hTx,hnd,hF,hI1,hI2⟩;obtain ⟨I2,hfr2,hII2,hR,hTd2,hTx2,hnI,hnAB⟩:=hend hbel hTd1 (hred _ _ _ hTx) hI1 hI2 hnd hF;have hkeep:∀ x,x<w.heap.size→x∉X→w'.heap[x]?=w.heap[x]?:=fun x hx hn=>hbel.block x (fun hN=>hN.elim (fun h=>by have h:w.heap.size≤x:=h;omega) hn);have hnd1:=xA5.1 hnd;have hnew:=hreb I2 w' X' hfr2 (fun y hy=>by
      rcases hy with hy | hy | hy
      · exact hkeep y (h.imm y hy) (fun hX=>(h.own r y (hXr y hX)).2.2 hy)
      · exact hkeep y (h.own r y (hA y hy).1).2.1 (hA y hy).2
      · exact hkeep y (h.own r y (hB y hy).1).2.1 (hB y hy).2) hTx2
    have hX'A:∀ y,y∈X'→y∉A∧y∉B:=fun y hy=>by
      have:=(hF y qA9).1;refine ⟨fun hz=>?_,fun hz=>?_⟩
      · rcases this with h1 | h1
        · have:=(h.own r y (hA y hz).1).2.1;omega
        · exact (hA y hz).2 h1
      · rcases this with h1 | h1
        · have:=(h.own r y (hB y hz).1).2.1;omega
        · exact (hB y hz).2 h1
    have hN:∀ x,(w.heap.size≤x∨x∈X)→w0.N x:=fun x hx=>hx.elim (fun h1=>Base.N_of h.below h1) (fun h1=>(h.own r x (hXr x h1)).1);have hout:∀ x,(w.heap.size≤x∨x∈Fs r)→∀ r',x∉upd Fs r [] r':=fun x hx r' hr=>by
      obtain ⟨hne,hr⟩:=hupd r' x hr;rcases hx with hx | hx
      · have:=(h.own r' x hr).2.1;omega
      · exact hne (h.disj r' r x hr hx)
    have hall:∀ y,y∈A++X'++B→(w0.N y∧y<w'.heap.size∧¬ I2 y)∧(w.heap.size≤y∨y∈Fs r):=fun y hy=>by
      rcases xBf.1 hy with hy | hy
      · rcases xBf.1 hy with hy | hy
        · have:=h.own r y (hA y hy).1;exact ⟨⟨this.1,xCj this.2.1 hbel.size,hnAB y (.inl hy)⟩,.inr (hA y hy).1⟩
        · have:=hF y qA9;exact ⟨⟨hN y this.1,this.2.1,hnI y qA9⟩,this.1.imp_right (hXr y)⟩
      · have:=h.own r y (hB y hy).1;exact ⟨⟨this.1,xCj this.2.1 hbel.size,hnAB y (.inr hy)⟩,.inr (hB y hy).1⟩
    have hnodup:(A++X'++B).Nodup:=by
      refine xA5.2 ⟨xA5.2 ⟨hn2.1,hnd1.2.1,fun y hy z hz e=>?_⟩,hn1.2.1,fun y hy z hz e=>?_⟩
      · subst e;exact (hX'A y hz).1 hy
      · subst e;rcases xBf.1 hy with hy | hy
        · exact hn1.2.2 y qA9 y hz rfl
        · exact (hX'A y hy).2 hz
    have hput:=hR.put (t:=r) (d0:=.undef) (d:=dnew) (u:=u0) (F:=A++X'++B) qAy rfl (hnew.res (fun _ _ h=>h.elim)) hnodup (fun y hy=>⟨(hall y hy).1.1,(hall y hy).1.2.1,(hall y hy).1.2.2,fun r' _=>hout y (hall y hy).2 r'⟩);rw [htmr,xE3] at hput;obtain ⟨sK,hput,hK⟩:∃ sK,RelI w0 I0 sK a.tmps w' I2 (upd (upd Fs r []) r (A++X'++B))∧K res sK:=by
      rcases hK with hK | ⟨⟨db,hdb,hbx⟩,hbx2,hK⟩
      · exact ⟨_,hput,hK⟩
      · rw [hs] at hdb;cases hdb;cases d with
        | box tag cells =>
          cases dnew with
          | box tag' cells' =>
            refine ⟨_,RelI.repoint h hs hu0 hput (fun k hk=>by unfold upd;rw [if_neg hk,if_neg hk]) qB4 hII2 (fun y hy=>?_) hnew,hK⟩;rcases hy with hy | ⟨k,hk,hy⟩
            · exact hkeep y (h.imm y hy) (fun hX=>(h.own r y (hXr y hX)).2.2 hy)
            · exact hkeep y (h.own k y hy).2.1 (fun hX=>hk (h.disj k r y hy (hXr y hX)))
          | _=>simp [D.boxy] at hbx2
        | _=>simp [D.boxy] at hbx
    refine ⟨v,he,res,_,I2,_,F,hK,hput,hTd2.res (fun _ _ h=>h.elim),⟨hnd1.1,fun y hy=>⟨hN y (hF y qA9).1,(hF y qA9).2.1,hnI y qA9,fun r' hr=>?_⟩⟩,fun h=>by cases h⟩;by_cases hrr:r'=r
    · subst hrr;simp only [upd,if_true] at hr;rcases xBf.1 hr with hr | hr
      · rcases xBf.1 hr with hr | hr
        · rcases (hF y qA9).1 with h1 | h1
          · have:=(h.own r' y (hA y hr).1).2.1;omega
          · exact (hA y hr).2 h1
        · exact hnd1.2.2 y hy y hr rfl
      · rcases (hF y qA9).1 with h1 | h1
        · have:=(h.own r' y (hB y hr).1).2.1;omega
        · exact (hB y hr).2 h1
    · have:y∈upd Fs r [] r':=qCg;exact hout y ((hF y qA9).1.imp_right (hXr y)) r' this
  have hvals:∀ {I':Nat→Prop},(∀ b,I b→I' b)→((((us.set i .undef).map (D.prune (zAd r))).all D.noRef=true)∨∀ r',r'≠r→∀ b,b∈Fs r'→I' b)→Vals I' w (((us.set i .undef).map (D.prune (zAd r))).map (deep ((zAc (zAd r) s).set r .undef) 8)) nil vs []:=by
    intro I' hI hn;rcases hoth with ⟨d1,hd1,hb1⟩ | hoth
    · cases d1 with
      | box tg1 cs1=>exact zV6 (tm:=a.tmps) h hd1 hI (zNx i hv) hn
      | _=>simp [D.boxy] at hb1
    · exact zX0 h r hI (zNx i hv) hoth hn
  rcases hcs with ⟨hfr,hni,hnd'⟩ | ⟨hfr,hnr⟩
  · refine fin (fun x=>I x∨∃ r',r'≠r∧x∈Fs r') (fun _ h=>.inl h) (fun x hx=>hx.elim (h.imm x) (fun ⟨r',_,hr⟩=>(h.own r' x hr).2.1)) (fun x hx hI=>?_) (Vals.le _ _ (hvals (fun _ h=>.inl h) (.inr fun r' hne b hb=>.inr ⟨r',hne,hb⟩)) hle) ?_
    · rcases hI with hI | ⟨r',hne,hr⟩
      · exact (h.own r x (hXr x hx)).2.2 hI
      · exact hne (h.disj r' r x hr (hXr x hx))
    · intro v w' F X' I' hbel hTd hTx hI1 hI2 hnd hF;refine ⟨I,.inr rfl,(fun _ h=>h),hsame hbel,T.noImm res hTd hni,T.noImm dr hTx hnd',fun y hy hI=>?_,fun y hy=>hy.elim (fun hy=>(h.own r y (hA y hy).1).2.2) (fun hy=>(h.own r y (hB y hy).1).2.2)⟩;rcases (hF y hy).1 with h1 | h1
      · have:=h.imm y hI;omega
      · exact (h.own r y (hXr y h1)).2.2 hI
  · refine fin I (fun _ h=>h) h.imm (fun x hx=>(h.own r x (hXr x hx)).2.2) (Vals.le _ _ (hvals (fun _ h=>h) (.inl hnr)) hle) ?_;intro v w' F X' I' hbel hTd hTx hI1 hI2 hnd hF;refine ⟨I',.inl hfr,hI1,(hsame hbel).immMore hI1 (fun x hx=>?_),hTd,hTx,fun y hy=>(hF y hy).2.2,fun y hy hI=>?_⟩
    · obtain ⟨k1,k2⟩:=hI2 x hx;rcases k1 with k1 | k1
      · exact .inl k1
      · refine .inr ⟨k1.elim (fun h1=>Base.N_of h.below h1) (fun h1=>(h.own r x (hXr x h1)).1),k2,fun r' hr=>?_⟩;obtain ⟨hne,hr⟩:=hupd r' x hr;rcases k1 with k1 | k1
        · have:=(h.own r' x hr).2.1;omega
        · exact hne (h.disj r' r x hr (hXr x k1))
    · obtain ⟨hy1,hy2⟩:y∈Fs r∧y∉X:=hy.elim (hA y) (hB y);rcases (hI2 y hI).1 with k1 | k1 | k1
      · exact (h.own r y hy1).2.2 k1
      · have:=(h.own r y hy1).2.1;omega
      · exact hy2 k1
theorem yWe {G:World→(Nat→Prop)→Prop} (hG:GI G w I0) (h:RelI w0 I0 s a.tmps w I Fs) {f:FuncId} {args:List Operand} (hk:yR8 (CT P G) f s args K) :
    Calls P f (args.map a.eval).toArray w fun e w'=>∃ v,e=.returned v∧OutOK false Fs I w w0 I0 a.tmps K v w':=by
  obtain ⟨i,r,x,fr,d0,d',dnew,dr,res,args',hix,hlp,hoth,hle,hC,hcs,hK⟩:=hk;unfold yHu at hlp;split at hlp
  case h_2=>exact hlp.elim
  rename_i d hs;obtain ⟨u0,hu0,hTd⟩:=h.slot0 hs;have hvx:(args.map a.eval)[i]?=some (a.eval x):=by rw [xAy,hix];rfl
  have hsp:∃ A X B ur,Fs r=A++X++B∧T I w d0 nil (a.eval x) X∧(∀ (I2:Nat→Prop) (w2:World) (X':List Nat),T I2 w2 d' nil (a.eval x) X'→T I2 w2 dr nil ur X')∧∀ (I2:Nat→Prop) (w2:World) (X':List Nat),(fr=true∨I2=I)→(∀ y,I y∨y∈A∨y∈B→w2.heap[y]?=w.heap[y]?)→T I2 w2 dr nil ur X'→T I2 w2 dnew nil u0 (A++X'++B):=by
    rcases hlp with ⟨rfl,hxr,hx,rfl,rfl⟩ | ⟨rfl,tag,cells,cells',rfl,hlk,hx,rfl,rfl,rfl⟩ | ⟨rfl,q,sz,rows,hfr,hq,hlk,rfl,htr,rfl⟩ | ⟨q,tg,cs0,cells',hfr,hq,hlk,htr,rfl,rfl,rfl,rfl⟩ | ⟨q,tg,cs0,rest,cells',hfr,hq,hlk,hfl,htr,rfl,rfl,rfl,rfl⟩ | ⟨F0,tag,cells,cells',hlk,rfl,rfl,rfl,rfl,rfl⟩
    · have hg:a.eval x=u0:=by
        rcases hxr with rfl | hlk
        · simp [Act.eval,hu0]
        · have hlT:=zC9 h x;rw [hlk] at hlT;simp only [T,ρS] at hlT;obtain ⟨⟨d1,u1,t1,k1,k2,k3,k4,k5⟩,_⟩:=hlT;rw [hu0] at k2;cases k2;simp only [zA8,xAv] at k5;exact k5.symm
      rw [hg];exact ⟨[],Fs r,[],_,by simp,zWd hx hTd,fun _ _ _ ht=>ht,fun I2 w2 X' _ _ ht=>by simpa using ht⟩
    · have hlT:=zC9 h x;rw [hlk] at hlT;simp only [T] at hTd hlT;obtain ⟨b,cs,et,F',hub,htg,hh,hFr,hcs⟩:=hTd;obtain ⟨us,eu,hcu⟩:=hlT;have he:us=cs.toList:=zKt hs (by rw [hu0,hub]) hh cells 0 hx rfl rfl hcs hcu;have hea:a.eval x=.agg cs:=(by rw [eu,he]);rw [hea];refine ⟨[b],F',[],.agg cs,by rw [hFr];simp,by simp only [T];exact ⟨cs.toList,by simp,zHx hx hcs⟩,fun _ _ _ ht=>ht,fun I2 w2 X' _ hkp ht=>?_⟩;simp only [T] at ht ⊢;obtain ⟨vs,ev,hcv⟩:=ht;have hvs:vs=cs.toList:=(by simp only [Value.agg.injEq] at ev;rw [ev]);rw [hvs] at hcv;exact ⟨b,cs,et,X',hub,htg,(hkp b (.inr (.inl qAh))).trans hh,by simp,hcv⟩
    · have hlT:=zC9 h x;rw [hlk] at hlT;simp only [T,ρS] at hlT;obtain ⟨⟨d1,u1,t1,k1,k2,k3,k4,k5⟩,_⟩:=hlT;rw [hs] at k1;cases k1;rw [hu0] at k2;cases k2;obtain ⟨b,o,u',A,F',B,cells,e,hadr,hcl,hh,hFF,hbA,hou,htt,hup⟩:=T.focus q d hTd (h.nd r) (fun y hy=>(h.own r y hy).2.2) hq htr;have hv:=zTs q d (by rw [htr];rfl) hadr hcl;rw [k5] at hv;cases hv;refine ⟨A,F',B,_,hFF,by simpa only [T] using htt,fun _ _ _ ht=>ht,fun I2 w2 X' hI2 hkp ht=>?_⟩;obtain rfl:I2=I:=hI2.resolve_left (by rw [hfr];simp);refine hup w2 nil (fun _=>false) _ _ X' (fun y _ hy=>hkp y hy) ?_ (fun _ _ hq _=>by cases hq) hou (by rw [zKh];exact ht);rw [hkp b (.inr (.inl hbA)),hh];congr 1;congr 1;rw [zBh hh] at hcl;apply xCw;intro j;by_cases hj:o=j
      · subst hj;rw [xB4 (xBg.1 hcl).1,hcl]
      · rw [xBe hj]
    · have hlT:=zC9 h x;rw [hlk] at hlT;simp only [T,ρS] at hlT;obtain ⟨⟨d1,v0,t1,sz,rows,u1,b1,o1,k1,k2,k3,k4,k5,k6,k7⟩,_⟩:=hlT;rw [hs] at k1;cases k1;rw [hu0] at k2;cases k2;obtain ⟨b,o,u',A,F',B,cells,e,hadr,hcl,hh,hFF,hbA,hou,htt,hup⟩:=T.focus q d hTd (h.nd r) (fun y hy=>(h.own r y hy).2.2) hq htr;have hv:=zTs q d (by rw [htr];rfl) hadr hcl;have hu1:u1=u':=(by rw [k5] at hv;simpa using hv);rw [hu1] at k6;have heq:a.eval x=u':=qA0;rw [heq];refine ⟨A,F',B,_,hFF,zG0 htt,fun _ _ _ ht=>zG1 htt ht,fun I2 w2 X' hI2 hkp ht=>?_⟩;obtain rfl:I2=I:=hI2.resolve_left (by rw [hfr];simp);refine hup w2 nil (fun _=>false) _ _ X' (fun y _ hy=>hkp y hy) ?_ (fun _ _ hq _=>by cases hq) hou (by rw [zKh];exact ht);rw [hkp b (.inr (.inl hbA)),hh];congr 1;congr 1;rw [zBh hh] at hcl;apply xCw;intro j;by_cases hj:o=j
      · subst hj;rw [xB4 (xBg.1 hcl).1,hcl]
      · rw [xBe hj]
    · have hlT:=zC9 h x;rw [hlk] at hlT;simp only [T,Cells] at hlT;obtain ⟨us,heu,u1',us',F1,F2,rfl,hF12,ho1,hp1,hrest⟩:=hlT;simp only [ρS] at hp1;obtain ⟨⟨d1,v0,t1,sz,rows,u1,b1,o1,k1,k2,k3,k4,k5,k6,k7⟩,hF1⟩:=hp1;rw [hs] at k1;cases k1;rw [hu0] at k2;cases k2;obtain ⟨b,o,u',A,F',B,cells,e,hadr,hcl,hh,hFF,hbA,hou,htt,hup⟩:=T.focus q d hTd (h.nd r) (fun y hy=>(h.own r y hy).2.2) hq htr;have hv:=zTs q d (by rw [htr];rfl) hadr hcl;have hu1:u1=u':=(by rw [k5] at hv;simpa using hv);rw [hu1] at k6;have heq:u1'=u':=qA0;subst heq;obtain ⟨rfl,hrest'⟩:=zWa (ρ':=nil) hfl hrest;have hbox:=zG0 htt;refine ⟨A,F',B,u1',hFF,?_,fun I2 w2 X' ht=>?_,fun I2 w2 X' hI2 hkp ht=>?_⟩
      · rw [heu];simp only [T,Cells];simp only [T] at hbox;exact ⟨_,rfl,u1',us',F',[],rfl,by simp,hou,hbox,hrest'⟩
      · rw [heu] at ht;simp only [T.eq_5,Cells] at ht;obtain ⟨us2,he2,u2,us3,G1,G2,rfl,hG,_,hb2,hr2⟩:=ht;have he3:=congrArg Array.toList (Value.agg.inj he2);simp only [xCo] at he3;obtain ⟨rfl,rfl⟩:=he3;obtain ⟨rfl,_⟩:=zWa (ρ':=nil) hfl hr2;rw [hG,xBw];exact zG1 htt hb2
      obtain rfl:I2=I:=hI2.resolve_left (by rw [hfr];simp);refine hup w2 nil (fun _=>false) _ _ X' (fun y _ hy=>hkp y hy) ?_ (fun _ _ hq _=>by cases hq) hou (by rw [zKh];exact ht);rw [hkp b (.inr (.inl hbA)),hh];congr 1;congr 1;rw [zBh hh] at hcl;apply xCw;intro j;by_cases hj:o=j
      · subst hj;rw [xB4 (xBg.1 hcl).1,hcl]
      · rw [xBe hj]
    · have hlT:=zC9 h x;rw [hlk] at hlT;simp only [T,Vals] at hlT;obtain ⟨us,vs,F1,F2,heu,hF12,⟨u1',us',G1,G2,rfl,hG,hp1,hus,hG2⟩,hvs,hF2⟩:=hlT;subst hus;subst hvs;simp only [ρS] at hp1;obtain ⟨⟨d1,v0,t1,sz,rows,u1,b1,o1,k1,k2,k3,k4,k5,k6,k7⟩,hF1⟩:=hp1;rw [hs] at k1;cases k1;rw [hu0] at k2;cases k2;simp only [zA8,xAv] at k5;subst k5;have hTd':=hTd;simp only [T] at hTd';obtain ⟨b,cs,et,F',hub,htg,hh,hFr,hcs⟩:=hTd';have heq:u1'=u0:=(by rw [hub] at k6;simp only [zBa,xAv,xBd] at k6;obtain ⟨rfl,rfl⟩:=k6;rw [k7,hub];simp);subst heq;have hbox:=zG0 hTd;refine ⟨[],Fs r,[],u1',by simp,?_,fun I2 w2 X' ht=>?_,fun I2 w2 X' _ _ ht=>by simpa using ht⟩
      · rw [heu];simp only [T,Vals];simp only [T] at hbox;exact ⟨_,_,Fs r,[],rfl,by simp,⟨u1',[],Fs r,[],rfl,by simp,hbox,rfl,rfl⟩,rfl,rfl⟩
      · rw [heu] at ht;simp only [T.eq_14,Vals] at ht;obtain ⟨us2,vs2,H1,H2,he2,hH,⟨u2,us3,J1,J2,rfl,hJ,hb2,hr2,hJ2⟩,hv2,hH2⟩:=ht;have he3:=(Value.func.inj he2).2.1;have he3:=congrArg Array.toList he3;simp only [xCo] at he3;obtain ⟨rfl,_⟩:=he3;rw [hH,hJ,hJ2,hH2,xBw,xBw];exact zG1 hTd hb2
  exact zX1 hG h (zQl h args) hs hu0 hvx hsp hoth hle hC hcs hK
theorem yWi {G:World→(Nat→Prop)→Prop}(hG:GI G w I0)(h:RelI w0 I0 s a.tmps w I Fs){f:FuncId}{us:List D}{vs:List Value}(hv:zGg s a.tmps w I Fs us vs)(hk:yWj (CT P G) f s us K):Calls P f vs.toArray w fun e w'=>∃ v,e=.returned v∧OutOK false Fs I w w0 I0 a.tmps K v w':=by
  obtain ⟨i,r,g,b,cells,cells',cells0,res,args',hi,hs,hoth,hle,hc0,hC,hn,hK⟩:=hk;obtain ⟨u0,hu0,hTd⟩:=h.slot0 hs;obtain ⟨vx,hvi,F,hT,_⟩:=zLk hv hi;simp only [T] at hT;obtain ⟨rfl,_⟩:=hT;have hcs:∃ fr:Bool,(fr=false∧res.noImm=true∧(D.box (some b) cells').noImm=true)∨(fr=true∧((us.set i .undef).map (D.prune (zAd r))).all D.noRef=true):=by
    rcases hn with ⟨hn1,hn2⟩ | hn
    · exact ⟨false,.inl ⟨rfl,hn1,by simpa [D.noImm] using hn2⟩⟩
    · exact ⟨true,.inr ⟨rfl,hn⟩⟩
  obtain ⟨fr,hcs⟩:=hcs;refine zX1 hG h hv (fr:=fr) (d:=.fn g [.box (some b) cells] []) (d0:=.box none cells0) (d':=.box none cells') (dr:=.box (some b) cells') (dnew:=.fn g [.box (some b) cells'] []) hs hu0 hvi ?_ (.inr hoth) hle hC hcs (.inl hK);simp only [T,Vals] at hTd;obtain ⟨us1,vs1,F1,F2,hu1,hF,⟨u1,us2,G1,G2,rfl,hG1,hbox,rfl,hG2⟩,rfl,hF2⟩:=hTd;have hbox2:T I w (.box (some b) cells) (ρS s a.tmps w) u1 G1:=(by simp only [T];exact hbox);have hu:u1=.pointer (some ⟨b,0,none⟩):=(by obtain ⟨bb,_,_,_,hub,htg,_⟩:=hbox;rw [hub,htg b rfl]);have hFr:Fs r=G1:=(by rw [hF,hG1,hG2,hF2];simp);refine ⟨[],Fs r,[],u1,by simp,?_,fun I2 w2 X' ht=>?_,fun I2 w2 X' _ _ ht=>?_⟩
  · rw [← hu,hFr,← hc0];exact zG0 hbox2
  · rw [← hu] at ht;exact zG1 hbox2 ht
  · rw [hu1];simp only [T,Vals] at ht ⊢;exact ⟨_,_,X',[],rfl,by simp,⟨u1,[],X',[],rfl,by simp,ht,rfl,rfl⟩,rfl,rfl⟩
theorem RelI.freeze (h:RelI w0 I0 s a.tmps w I Fs)(t:Nat):∃ I' Fs',RelI w0 I0 (frz t s) a.tmps w I' Fs'∧(∀ b,I b→I' b):=by
  unfold frz;cases hs:s[t]? with
  | none=>exact ⟨I,Fs,h,fun _ h=>h⟩
  | some d =>
    obtain ⟨u0,hu0,hT⟩:=h.slot0 hs;have hfg:=h.forget t;have hlt:=(xA4.1 hs).1;have hT0:T I w (d.prune (fun _=>false)) nil u0 (Fs t):=T.turn (fun x v hq _=>by cases hq) d hT;have hTi:=T.imm (I':=fun b=>I b∨b∈Fs t) (fun _ h=>.inl h) _ hT0 (fun b hb=>.inr hb);have hupd:∀ r' x,x∈upd Fs t [] r'→r'≠t∧x∈Fs r':=fun r' x hx=>by
      unfold upd at hx;split at hx
      · cases hx
      · rename_i hne;exact ⟨hne,hx⟩
    have hm:=hfg.immMore (I':=fun b=>I b∨b∈Fs t) (fun _ h=>.inl h) (fun b hb=>hb.imp_right fun hb=>⟨(h.own t b hb).1,(h.own t b hb).2.1,fun r' hr=>by
      obtain ⟨hne,hr⟩:=hupd r' b hr;exact hne (h.disj r' t b hr hb)⟩)
    have hput:=hm.put (t:=t) (d0:=.undef) (d:=(d.prune (fun _=>false)).imm) (u:=u0) (F:=[]) qAy rfl (hTi.res (fun _ _ h=>h.elim)) xC2 (fun b hb=>by cases hb);have htm:a.tmps.setIfInBounds t u0=a.tmps:=by
      apply xCw;intro j;by_cases hj:t=j
      · subst hj;rw [hu0,xB4 (xBg.1 hu0).1]
      · rw [xBe hj]
    rw [htm,xE3] at hput;exact ⟨_,_,hput,fun _ h=>.inl h⟩
theorem RelI.mvin (h:RelI w0 I0 s a.tmps w I Fs)(r t:Nat):∃ Fs',RelI w0 I0 (mvin r t s) a.tmps w I Fs':=by
  unfold Go.V.mvin;split
  case h_2=>exact ⟨Fs,h⟩
  rename_i tag t' tag2 M hr ht;split
  case isFalse=>exact ⟨Fs,h⟩
  rename_i hc;obtain ⟨rfl,hne⟩:=hc;obtain ⟨ut,hut,hTt⟩:=h.slot0 ht;obtain ⟨ur,hur,hTr⟩:=h.slot0 hr;have hlt:=(xA4.1 hr).1;have h1:=h.forget t';have hr1:((zAc (zAd t') s).set t' .undef)[r]?=some (.box tag [.undef]):=by rw [xA9 (Ne.symm hne),zA3,hr];simp [D.prune,zAc,zAd]
  have h2:=h1.forget r;have hM:T I w (.box none (zAc (fun _=>false) M)) nil ut (Fs t'):=(by have:=T.turn (q:=fun _=>false) (ρ':=nil) (fun x v hq _=>by cases hq) (D.box tag2 M) hTt;simp only [D.prune,T] at this ⊢;obtain ⟨b2,cs2,et2,F2,k1,_,k3,k4,k5⟩:=this;exact ⟨b2,cs2,et2,F2,k1,(fun k hk=>by cases hk),k3,k4,k5⟩);have hB:T I w (.box tag [.box none (zAc (fun _=>false) M)]) nil ur (Fs r++Fs t'):=(by have hTr':=hTr;simp only [T] at hTr';obtain ⟨b,cs,et,F',hub,htg,hh,hFr,hcs⟩:=hTr';simp only [Cells] at hcs;obtain ⟨v,us',F1,F2,e1,e2,ho,hp,e3,e4⟩:=hcs;simp only [T,ρS] at hp;obtain ⟨⟨d1,v0,t1,sz,rows,u1,b1,o1,k1,k2,k3,k4,k5,k6,k7⟩,hF1⟩:=hp;have hv:v=ut:=(by rw [hut] at k2;cases k2;simp only [zA8,xAv] at k5;subst k5;have hM':=hM;simp only [T] at hM';obtain ⟨bb,_,_,_,hub',_⟩:=hM';rw [hub'] at k6;simp only [zBa,xAv,xBd] at k6;obtain ⟨rfl,rfl⟩:=k6;rw [k7,hub'];simp);subst hv;simp only [T];refine ⟨b,cs,et,Fs t',hub,htg,hh,by rw [hFr,e2,hF1,e4];simp,?_⟩;simp only [Cells];exact ⟨v,us',Fs t',[],e1,by simp,ho,hM,e3,rfl⟩);have hupd:∀ k x,x∈upd (upd Fs t' []) r [] k→k≠r∧k≠t'∧x∈Fs k:=fun k x hx=>by
    unfold upd at hx;split at hx
    · cases hx
    · rename_i h1;split at hx
      · cases hx
      · rename_i h2;exact ⟨h1,h2,hx⟩
  have hput:=h2.put (t:=r) (d0:=.undef) (d:=.box tag [.box none (zAc (fun _=>false) M)]) (u:=ur) (F:=Fs r++Fs t') qAy rfl (hB.res (fun _ _ h=>h.elim)) (xA5.2 ⟨h.nd r,h.nd t',fun x hx y hy e=>hne (h.disj r t' x hx (e▸hy))⟩) (fun x hx=>by
    have hx':∃ k,(k=r∨k=t')∧x∈Fs k:=by
      rcases xBf.1 hx with hx | hx
      · exact ⟨r,.inl rfl,hx⟩
      · exact ⟨t',.inr rfl,hx⟩
    obtain ⟨k,hk,hx⟩:=hx';refine ⟨(h.own k x hx).1,(h.own k x hx).2.1,(h.own k x hx).2.2,fun r' _ hr'=>?_⟩;obtain ⟨n1,n2,hr'⟩:=hupd r' x hr';have:=h.disj r' k x hr' hx;rcases hk with rfl | rfl
    · exact n1 this
    · exact n2 this)
  have htm:a.tmps.setIfInBounds r ur=a.tmps:=by
    apply xCw;intro j;by_cases hj:r=j
    · subst hj;rw [hur,xB4 (xBg.1 hur).1]
    · rw [xBe hj]
  rw [htm,xE3] at hput;exact ⟨_,RelI.repoint h1 hr1 hur hput (fun k hk=>by unfold upd;rw [if_neg hk,if_neg hk]) qB4 (fun _ h=>h) (fun _ _=>rfl) hB⟩
theorem RelI.pull (h:RelI w0 I0 s a.tmps w I Fs)(r t:Nat):∃ Fs',RelI w0 I0 (pull r t s) a.tmps w I Fs':=by
  unfold Go.V.pull;split
  case h_2=>exact ⟨Fs,h⟩
  rename_i tag t1 t2 t3 tag2 z1 r1 z2 r2 z3 r3 hr ht;split
  case isFalse=>exact ⟨Fs,h⟩
  rename_i hc;obtain ⟨rfl,rfl,rfl,hne⟩:=hc;obtain ⟨ut,hut,hTt⟩:=h.slot0 ht;obtain ⟨ur,hur,hTr⟩:=h.slot0 hr;have hlt:=(xA4.1 hr).1;have h1:=h.forget t3;have hr1:((zAc (zAd t3) s).set t3 .undef)[r]?=some (.box tag [.undef,.undef,.undef]):=by rw [xA9 (Ne.symm hne),zA3,hr];simp [D.prune,zAc,zAd]
  have h2:=h1.forget r;obtain ⟨Fb,hFb,hFn,hB⟩:∃ Fb,(∀ x,x∈Fb→x∈Fs t3)∧Fb.Nodup∧T I w (.box tag [.sl true z1 r1,.sl true z2 r2,.sl true z3 r3]) nil ur (Fs r++Fb):=by
    simp only [T] at hTr hTt;obtain ⟨b,cs,et,F',hub,htg,hh,hFr,hcs⟩:=hTr;obtain ⟨b2,cs2,et2,F2',hub2,_,hh2,hFt,hcs2⟩:=hTt;simp only [Cells] at hcs hcs2;obtain ⟨v1,us1,A1,B1,e1,f1,o1,p1,v2,us2,A2,B2,e2,f2,o2,p2,v3,us3,A3,B3,e3,f3,o3,p3,e4,f4⟩:=hcs;obtain ⟨x1,ws1,C1,D1,g1,q1,_,hx1,x2,ws2,C2,D2,g2,q2,_,hx2,x3,ws3,C3,D3,g3,q3,_,hx3,g4,q4⟩:=hcs2;subst e4;subst e3;subst e2;subst g4;subst g3;subst g2;have cell:∀ (k:Nat) (x:Value),[x1,x2,x3][k]?=some x→w.cell? ⟨b2,k,none⟩=some x:=fun k x hx=>by rw [cell_of_row w b2 k cs2 _ _ hh2,← xDa,g1];exact hx
    have key:∀ (k:Nat) (x v:Value) (F:List Nat),[x1,x2,x3][k]?=some x→T I w (.ref t3 [(0,k)]) (ρS s a.tmps w) v F→F=[]∧v=x:=by
      intro k x v F hx hp;simp only [T,ρS] at hp;obtain ⟨⟨d1,v0,tt,k1,k2,k3,k4,k5⟩,hF⟩:=hp;rw [ht] at k1;cases k1;rw [hut] at k2;cases k2;refine ⟨hF,?_⟩;have hck:=cell k x hx;have hk3:k<3:=by have:=(xA4.1 hx).1;simpa using this
      rw [hub2] at k5;have:k=0∨k=1∨k=2:=by omega
      rcases this with rfl | rfl | rfl<;>(simp [zA8,D.cont,zBa,hck] at k5;exact k5.symm)
    obtain ⟨rfl,rfl⟩:=key 0 x1 v1 A1 rfl p1;obtain ⟨rfl,rfl⟩:=key 1 x2 v2 A2 rfl p2;obtain ⟨rfl,rfl⟩:=key 2 x3 v3 A3 rfl p3;have hF2n:F2'.Nodup:=(by have:=h.nd t3;rw [hFt] at this;exact (xB8.1 this).2);refine ⟨F2',fun x hx=>by rw [hFt];exact xCc _ hx,hF2n,?_⟩;simp only [T.eq_11,Cells];refine ⟨b,cs,et,F2',hub,htg,hh,?_,_,_,C1,D1,e1,q1,o1,?_,_,_,C2,D2,rfl,q2,o2,?_,_,_,C3,D3,rfl,q3,o3,?_,rfl,q4⟩
    · rw [hFr,f1,f2,f3,f4];simp
    all_goals first
      | (simp only [T] at hx1 ⊢;exact hx1)
      | (simp only [T] at hx2 ⊢;exact hx2)
      | (simp only [T] at hx3 ⊢;exact hx3)
  have hupd:∀ k x,x∈upd (upd Fs t3 []) r [] k→k≠r∧k≠t3∧x∈Fs k:=fun k x hx=>by
    unfold upd at hx;split at hx
    · cases hx
    · rename_i h1;split at hx
      · cases hx
      · rename_i h2;exact ⟨h1,h2,hx⟩
  have hput:=h2.put (t:=r) (d0:=.undef) (d:=.box tag [.sl true z1 r1,.sl true z2 r2,.sl true z3 r3]) (u:=ur) (F:=Fs r++Fb) qAy rfl (hB.res (fun _ _ h=>h.elim)) (xA5.2 ⟨h.nd r,hFn,fun x hx y hy e=>hne (h.disj r t3 x hx (hFb x (e▸hy)))⟩) (fun x hx=>by
    have hx':∃ k,(k=r∨k=t3)∧x∈Fs k:=by
      rcases xBf.1 hx with hx | hx
      · exact ⟨r,.inl rfl,hx⟩
      · exact ⟨t3,.inr rfl,hFb x hx⟩
    obtain ⟨k,hk,hx⟩:=hx';refine ⟨(h.own k x hx).1,(h.own k x hx).2.1,(h.own k x hx).2.2,fun r' _ hr'=>?_⟩;obtain ⟨n1,n2,hr'⟩:=hupd r' x hr';have:=h.disj r' k x hr' hx;rcases hk with rfl | rfl
    · exact n1 this
    · exact n2 this)
  have htm:a.tmps.setIfInBounds r ur=a.tmps:=by
    apply xCw;intro j;by_cases hj:r=j
    · subst hj;rw [hur,xB4 (xBg.1 hur).1]
    · rw [xBe hj]
  rw [htm,xE3] at hput;exact ⟨_,RelI.repoint h1 hr1 hur hput (fun k hk=>by unfold upd;rw [if_neg hk,if_neg hk]) qB4 (fun _ h=>h) (fun _ _=>rfl) hB⟩
theorem zIp:∀ {cs:List D},cs.all D.plain=true→zAc (fun _=>false) cs=cs
  | [],_=>rfl
  | c::cs,h=>by simp only [xBm,xA2] at h;have:=zIp h.2;cases c<;>simp [D.plain] at h<;>simp [zAc,D.prune,this]
theorem yCm {s:List D} {tm:Array Value}:∀ {us:List D} {vs:List Value},zGg s tm w I Fs us vs→∀ (is:List Nat),(is.foldl (fun l i=>l.set i .undef) us).all D.plain=true→Vals I w (is.foldl (fun l i=>l.set i .undef) us) nil vs []
  | us, vs, h,is,hp=>by
    have gen:∀ {us:List D} {vs:List Value},us.length=vs.length→(∀ (k:Nat) d v,us[k]?=some d→vs[k]?=some v→d=.undef∨d=.v v)→Vals I w us nil vs []:=by
      intro us;induction us with
      | nil=>intro vs hl _;simp only [xBy] at hl;simp [Vals,xCb hl.symm]
      | cons d us ih =>
        intro vs hl hk;cases vs with
        | nil=>simp at hl
        | cons v vs=>have h0:=hk 0 d v rfl rfl;simp only [Vals];refine ⟨v,vs,[],[],rfl,rfl,?_,ih (by simpa using hl) (fun k d v h1 h2=>hk (k+1) d v qA1 (by simpa using h2))⟩;rcases h0 with rfl | rfl<;>simp [T]
    have hlen:∀ {us:List D} {vs:List Value},zGg s tm w I Fs us vs→us.length=vs.length:=by
      intro us;induction us with
      | nil=>intro vs h;rw [show vs=[] from h];rfl
      | cons u us ih=>intro vs h;obtain ⟨v,vs',rfl,_,h2⟩:=h;simp [ih h2]
    have hfl:∀ (is:List Nat) (l:List D),(is.foldl (fun l i=>l.set i .undef) l).length=l.length:=by
      intro is;induction is with
      | nil=>intro l;rfl
      | cons i is ih=>intro l;rw [xDm,ih];simp
    have hfg:∀ (is:List Nat) (l:List D) (k:Nat) d,(is.foldl (fun l i=>l.set i .undef) l)[k]?=some d→d=.undef∨l[k]?=some d:=by
      intro is;induction is with
      | nil=>intro l k d h;exact .inr h
      | cons i is ih =>
        intro l k d h;rw [xDm] at h;rcases ih _ k d h with h1 | h1
        · exact .inl h1
        · by_cases hik:i=k
          · subst hik;rw [xGi] at h1;split at h1
            · split at h1
              · cases h1;exact .inl rfl
              · cases h1
            · exact .inr h1
          · rw [xA9 hik] at h1;exact .inr h1
    refine gen (by rw [hfl];exact hlen h) (fun k d v h1 h2=>?_);rcases hfg is us k d h1 with h3 | h3
    · exact .inl h3
    · have hpl:=xBx.1 hp d (xDi h1);obtain ⟨v',hv',F,hT,_⟩:=zLk h h3;rw [h2] at hv';cases hv';cases d with
      | undef=>exact .inl rfl
      | v x=>simp only [T] at hT;right;rw [hT.1]
      | _=>simp [D.plain] at hpl
theorem ySa {G:World→(Nat→Prop)→Prop}(hG:GI G w I0)(h:RelI w0 I0 s a.tmps w I Fs){f:FuncId}{args:List Operand}(hk:yHw (CT P G) f s args K) :
    Calls P f (args.map a.eval).toArray w fun e w'=>∃ v,e=.returned v∧OutOK false Fs I w w0 I0 a.tmps K v w':=by
  obtain ⟨i,j,r1,r2,x1,x2,d1,d1',tag,cells,cells',res,hi,hj,hne,hs1,hx1,hex,hs2,hx2,hpc,hpa,hC,hK⟩:=hk;obtain ⟨u1,hu1,hT1⟩:=h.slot0 hs1;obtain ⟨u2,hu2,hT2⟩:=h.slot0 hs2;have hv1:(args.map a.eval)[i]?=some (a.eval x1):=(by rw [xAy,hi];rfl);have hv2:(args.map a.eval)[j]?=some (a.eval x2):=(by rw [xAy,hj];rfl);have hg1:a.eval x1=u1:=by
    rcases hx1 with rfl | hlk
    · simp [Act.eval,hu1]
    · have hlT:=zC9 h x1;rw [hlk] at hlT;simp only [T,ρS] at hlT;obtain ⟨⟨e1,e2,t1,k1,k2,k3,k4,k5⟩,_⟩:=hlT;rw [hu1] at k2;cases k2;simp only [zA8,xAv] at k5;exact k5.symm
  have hT2':=hT2;simp only [T] at hT2';obtain ⟨b,cs,et,F',hub,htg,hh,hFr,hcs⟩:=hT2';have hg2:a.eval x2=u2:=(by have hlT:=zC9 h x2;rw [hx2] at hlT;simp only [T,ρS] at hlT;obtain ⟨⟨e1,v0,t1,sz,rows,w1,b1,o1,k1,k2,k3,k4,k5,k6,k7⟩,_⟩:=hlT;rw [hu2] at k2;cases k2;simp only [zA8,xAv] at k5;subst k5;rw [hub] at k6;simp only [zBa,xAv,xBd] at k6;obtain ⟨rfl,rfl⟩:=k6;rw [k7,hub];simp);rw [hg1] at hv1;rw [hg2] at hv2;have hbx:T I w (.box none cells) nil u2 (Fs r2):=(by have:=zG0 hT2;rwa [zIp hpc] at this);have hV0:Vals I w [d1,.box none cells] nil [u1,u2] (Fs r1++Fs r2):=(by simp only [Vals];exact ⟨u1,[u2],Fs r1,Fs r2,rfl,rfl,zWd hex hT1,u2,[],Fs r2,[],rfl,by simp,hbx,rfl,rfl⟩);have hnd:(Fs r1++Fs r2).Nodup:=xA5.2 ⟨h.nd r1,h.nd r2,fun x hx y hy e=>hne (h.disj r1 r2 x hx (e▸hy))⟩;have hmem:∀ x,x∈Fs r1++Fs r2→∃ k,(k=r1∨k=r2)∧x∈Fs k:=fun x hx=>(xBf.1 hx).elim (fun hx=>⟨r1,.inl rfl,hx⟩) (fun hx=>⟨r2,.inr rfl,hx⟩);have hvals:Vals I w (((args.map fun x=>raw s x).set i .undef).set j .undef) nil (args.map a.eval) []:=yCm (zQl h args) [i,j] hpa;refine (hC.2 w I (args.map a.eval) u1 u2 (Fs r1++Fs r2) (hG.mono h.imm0) h.imm hv1 hv2 hvals hV0 hnd (fun x hx=>by
    obtain ⟨k,_,hk⟩:=hmem x hx;exact ⟨(h.own k x hk).2.1,(h.own k x hk).2.2⟩)).mono ?_
  rintro e w' ⟨v,F,X',I',he,hbel,hTr,hVx,hndr,hF,hI1,hI2⟩;obtain ⟨X1,X2,rfl,hTd1,hTd2⟩:∃ X1 X2,X'=X1++X2∧T I' w' d1' nil u1 X1∧T I' w' (.box none cells') nil u2 X2:=by simp only [Vals] at hVx;obtain ⟨z1,zs,X1,X2',e1,eX,k1,z2,zs2,X2,X3,e2,eX2,k2,e3,e4⟩:=hVx;simp only [xCo] at e1;obtain ⟨q1,q2⟩:=e1;rw [← q2] at e2;simp only [xCo] at e2;obtain ⟨q3,_⟩:=e2;exact ⟨X1,X2,by rw [eX,eX2,e4];simp,q1▸k1,q3▸k2⟩
  have hkeep:∀ x,x<w.heap.size→x∉Fs r1++Fs r2→w'.heap[x]?=w.heap[x]?:=fun x hx hn=>hbel.block x (fun hN=>hN.elim (fun h=>by have h:w.heap.size≤x:=h;omega) hn);have hup:∀ k x,x∈upd (upd Fs r1 []) r2 [] k→k≠r1∧k≠r2∧x∈Fs k:=fun k x hx=>by
    unfold upd at hx;split at hx
    · cases hx
    · rename_i h1;split at hx
      · cases hx
      · rename_i h2;exact ⟨h2,h1,hx⟩
  have hfg:=(h.forget r1).forget r2;have hN0:∀ x,x∈Fs r1++Fs r2→w0.N x:=fun x hx=>by obtain ⟨k,_,hk⟩:=hmem x hx;exact (h.own k x hk).1
  have hfar:∀ k x,x∈upd (upd Fs r1 []) r2 [] k→x<w.heap.size∧x∉Fs r1++Fs r2:=fun k x hx=>by
    obtain ⟨n1,n2,hx⟩:=hup k x hx;refine ⟨(h.own k x hx).2.1,fun hm=>?_⟩;obtain ⟨k',hk',hx'⟩:=hmem x hm;have:=h.disj k k' x hx hx';rcases hk' with rfl | rfl
    · exact n1 this
    · exact n2 this
  have hsame:RelI w0 I0 ((zAc (zAd r2) ((zAc (zAd r1) s).set r1 .undef)).set r2 .undef) a.tmps w' I (upd (upd Fs r1 []) r2 []):=by
    refine hfg.same ⟨hbel.os,hbel.tape,hbel.output,hbel.size,fun k hk=>hkeep k (xCj (Base.not hk) h.below.size) (fun hx=>hk (hN0 k hx))⟩ (fun x hx=>?_);rcases hx with hx | ⟨r',hr⟩
    · exact hkeep x (h.imm x hx) (fun hX=>by obtain ⟨k,_,hk⟩:=hmem x hX;exact (h.own k x hk).2.2 hx)
    · exact hkeep x (hfar r' x hr).1 (hfar r' x hr).2
  have hR:=hsame.immMore hI1 (fun x hx=>by
    obtain ⟨k1,k2⟩:=hI2 x hx;rcases k1 with k1 | k1
    · exact .inl k1
    · refine .inr ⟨k1.elim (fun h1=>Base.N_of h.below h1) (hN0 x),k2,fun r' hr=>?_⟩;obtain ⟨q1,q2⟩:=hfar r' x hr;rcases k1 with k1 | k1
      · omega
      · exact q2 k1)
  have hlt1:=(xA4.1 hs1).1;have hlt2:=(xA4.1 hs2).1;have hn1:=xA5.1 hndr;have hn2:=xA5.1 hn1.2.1;have hfr:∀ x,x∈F++(X1++X2)→(w0.N x∧x<w'.heap.size∧¬ I' x)∧∀ k,x∉upd (upd Fs r1 []) r2 [] k:=fun x hx=>by
    obtain ⟨k1,k2,k3⟩:=hF x hx;refine ⟨⟨k1.elim (fun h1=>Base.N_of h.below h1) (hN0 x),k2,k3⟩,fun k hk=>?_⟩;obtain ⟨q1,q2⟩:=hfar k x hk;rcases k1 with k1 | k1
    · omega
    · exact q2 k1
  have tm:∀ (r:Nat) (u:Value),a.tmps[r]?=some u→a.tmps.setIfInBounds r u=a.tmps:=fun r u hu=>by
    apply xCw;intro k;by_cases hk:r=k
    · subst hk;rw [hu,xB4 (xBg.1 hu).1]
    · rw [xBe hk]
  have hp1:=hR.put (t:=r1) (d0:=.undef) (d:=d1') (u:=u1) (F:=X1) (by
    rw [xA9 (Ne.symm hne),zA3,xBq (by simpa [zAx] using hlt1)];simp [D.prune]) rfl (hTd1.res (fun _ _ h=>h.elim)) hn2.1 (fun x hx=>⟨(hfr x qAi).1.1,(hfr x qAi).1.2.1,(hfr x qAi).1.2.2,fun r' _=>(hfr x qAi).2 r'⟩)
  rw [tm r1 u1 hu1] at hp1;have hp2:=hp1.put (t:=r2) (d0:=.undef) (d:=.box tag cells') (u:=u2) (F:=X2) (by
    rw [xA9 hne,xBq (by simpa [zAx] using hlt2)]) rfl ((zG1 hT2 hTd2).res (fun _ _ h=>h.elim)) hn2.2.1 (fun x hx=>⟨(hfr x qAi).1.1,(hfr x qAi).1.2.1,(hfr x qAi).1.2.2,fun r' hr' hm=>by
      unfold upd at hm;by_cases h1:r'=r1
      · rw [if_pos h1] at hm;exact hn2.2.2 x hm x hx rfl
      · rw [if_neg h1] at hm;exact (hfr x qAi).2 r' qB5⟩)
  rw [tm r2 u2 hu2] at hp2;refine ⟨v,he,res,_,I',_,F,hK,hp2,hTr.res (fun _ _ h=>h.elim),⟨hn1.1,fun x hx=>⟨(hfr x qAi).1.1,(hfr x qAi).1.2.1,(hfr x qAi).1.2.2,fun r' hm=>?_⟩⟩,fun h=>by cases h⟩;unfold upd at hm;by_cases h2:r'=r2
  · rw [if_pos h2] at hm;exact hn1.2.2 x hx x (by simp [hm]) rfl
  · rw [if_neg h2] at hm;by_cases h1:r'=r1
    · rw [if_pos h1] at hm;exact hn1.2.2 x hx x (by simp [hm]) rfl
    · rw [if_neg h1] at hm;exact (hfr x qAi).2 r' qB5
theorem yR9 {G:World→(Nat→Prop)→Prop}(hG:GI G w I0)(h:RelI w0 I0 s a.tmps w I Fs){f:FuncId}{args:List Operand}(hk:yHv (CT P G) f s args K) :
    Calls P f (args.map a.eval).toArray w fun e w'=>∃ v,e=.returned v∧OutOK false Fs I w w0 I0 a.tmps K v w':=by
  obtain ⟨x,xs,r1,r2,tg1,tg2,c1,c2,c1',c2',res,args',rfl,hne,hs1,hs2,hx,⟨hp1,hp2⟩,hno,hle,hC,hK⟩:=hk;obtain ⟨u1,hu1,hT1⟩:=h.slot0 hs1;obtain ⟨u2,hu2,hT2⟩:=h.slot0 hs2;have hone:∀ {r:Nat} {tg:Option Nat} {c:List D} {u v:Value} {F:List Nat},s[r]?=some (.box tg c)→a.tmps[r]?=some u→T I w (.box tg c) (ρS s a.tmps w) u (Fs r)→T I w (.ptr r [] 0 0) (ρS s a.tmps w) v F→v=u:=(by intro r tg c u v F hs hu hT hp;simp only [T] at hT;obtain ⟨b,cs,et,F',hub,htg,hh,hFr,hcs⟩:=hT;simp only [T,ρS] at hp;obtain ⟨⟨e1,v0,t1,sz,rows,w1,b1,o1,k1,k2,k3,k4,k5,k6,k7⟩,_⟩:=hp;rw [hu] at k2;cases k2;simp only [zA8,xAv] at k5;subst k5;rw [hub] at k6;simp only [zBa,xAv,xBd] at k6;obtain ⟨rfl,rfl⟩:=k6;rw [k7,hub];simp);have hX:a.eval x=.agg #[u1,u2]∧u1.oneCell'=true∧u2.oneCell'=true:=(by have hlT:=zC9 h x;rw [hx] at hlT;rw [T] at hlT;obtain ⟨us,eu,hc⟩:=hlT;simp only [Cells] at hc;obtain ⟨z1,zs,A1,A2,rfl,_,ho1,hz1,z2,zs2,B1,B2,rfl,_,ho2,hz2,rfl,_⟩:=hc;have q1:=hone hs1 hu1 hT1 hz1;have q2:=hone hs2 hu2 hT2 hz2;subst q1;subst q2;exact ⟨eu,ho1,ho2⟩);have hbx1:T I w (.box none c1) nil u1 (Fs r1):=(by have:=zG0 hT1;rwa [zIp hp1] at this);have hbx2:T I w (.box none c2) nil u2 (Fs r2):=(by have:=zG0 hT2;rwa [zIp hp2] at this);have hV0:T I w (.agg [.box none c1,.box none c2]) nil (a.eval x) (Fs r1++Fs r2):=(by rw [hX.1,T];simp only [Cells];exact ⟨_,rfl,u1,[u2],Fs r1,Fs r2,rfl,rfl,hX.2.1,hbx1,u2,[],Fs r2,[],rfl,by simp,hX.2.2,hbx2,rfl,rfl⟩);have hnd:(Fs r1++Fs r2).Nodup:=xA5.2 ⟨h.nd r1,h.nd r2,fun x hx y hy e=>hne (h.disj r1 r2 x hx (e▸hy))⟩;have hmem:∀ x,x∈Fs r1++Fs r2→∃ k,(k=r1∨k=r2)∧x∈Fs k:=fun x hx=>(xBf.1 hx).elim (fun hx=>⟨r1,.inl rfl,hx⟩) (fun hx=>⟨r2,.inr rfl,hx⟩);have hvals:Vals I w ((D.undef::args').set 0 .undef) nil ((x::xs).map a.eval) []:=(by have:=Vals.le _ _ (zYj h I (fun _ h=>h) xs (.inl hno)) hle;show Vals I w (D.undef::args') nil (a.eval x::xs.map a.eval) [];simp only [Vals];exact ⟨a.eval x,xs.map a.eval,[],[],rfl,rfl,by simp [T],this⟩);refine (hC.2 w I ((x::xs).map a.eval) (a.eval x) (Fs r1++Fs r2) (hG.mono h.imm0) h.imm rfl hvals hV0 hnd (fun x hx=>by
    obtain ⟨k,_,hk⟩:=hmem x hx;exact ⟨(h.own k x hk).2.1,(h.own k x hk).2.2⟩)).mono ?_
  rintro e w' ⟨v,F,X',I',he,hbel,hTr,hVx,hndr,hF,hI1,hI2⟩;obtain ⟨X1,X2,rfl,hTd1,hTd2⟩:∃ X1 X2,X'=X1++X2∧T I' w' (.box none c1') nil u1 X1∧T I' w' (.box none c2') nil u2 X2:=by rw [hX.1,T] at hVx;obtain ⟨us,eu,hc⟩:=hVx;simp only [Cells] at hc;obtain ⟨z1,zs,X1,X2',rfl,eX,_,k1,z2,zs2,X2,X3,rfl,eX2,_,k2,rfl,e4⟩:=hc;have he3:=congrArg Array.toList (Value.agg.inj eu);simp only [xCo] at he3;obtain ⟨rfl,rfl,_⟩:=he3;exact ⟨X1,X2,by rw [eX,eX2,e4];simp,k1,k2⟩
  have hkeep:∀ x,x<w.heap.size→x∉Fs r1++Fs r2→w'.heap[x]?=w.heap[x]?:=fun x hx hn=>hbel.block x (fun hN=>hN.elim (fun h=>by have h:w.heap.size≤x:=h;omega) hn);have hup:∀ k x,x∈upd (upd Fs r1 []) r2 [] k→k≠r1∧k≠r2∧x∈Fs k:=fun k x hx=>by
    unfold upd at hx;split at hx
    · cases hx
    · rename_i h1;split at hx
      · cases hx
      · rename_i h2;exact ⟨h2,h1,hx⟩
  have hfg:=(h.forget r1).forget r2;have hN0:∀ x,x∈Fs r1++Fs r2→w0.N x:=fun x hx=>by obtain ⟨k,_,hk⟩:=hmem x hx;exact (h.own k x hk).1
  have hfar:∀ k x,x∈upd (upd Fs r1 []) r2 [] k→x<w.heap.size∧x∉Fs r1++Fs r2:=fun k x hx=>by
    obtain ⟨n1,n2,hx⟩:=hup k x hx;refine ⟨(h.own k x hx).2.1,fun hm=>?_⟩;obtain ⟨k',hk',hx'⟩:=hmem x hm;have:=h.disj k k' x hx hx';rcases hk' with rfl | rfl
    · exact n1 this
    · exact n2 this
  have hsame:RelI w0 I0 ((zAc (zAd r2) ((zAc (zAd r1) s).set r1 .undef)).set r2 .undef) a.tmps w' I (upd (upd Fs r1 []) r2 []):=by
    refine hfg.same ⟨hbel.os,hbel.tape,hbel.output,hbel.size,fun k hk=>hkeep k (xCj (Base.not hk) h.below.size) (fun hx=>hk (hN0 k hx))⟩ (fun x hx=>?_);rcases hx with hx | ⟨r',hr⟩
    · exact hkeep x (h.imm x hx) (fun hX=>by obtain ⟨k,_,hk⟩:=hmem x hX;exact (h.own k x hk).2.2 hx)
    · exact hkeep x (hfar r' x hr).1 (hfar r' x hr).2
  have hR:=hsame.immMore hI1 (fun x hx=>by
    obtain ⟨k1,k2⟩:=hI2 x hx;rcases k1 with k1 | k1
    · exact .inl k1
    · refine .inr ⟨k1.elim (fun h1=>Base.N_of h.below h1) (hN0 x),k2,fun r' hr=>?_⟩;obtain ⟨q1,q2⟩:=hfar r' x hr;rcases k1 with k1 | k1
      · omega
      · exact q2 k1)
  have hlt1:=(xA4.1 hs1).1;have hlt2:=(xA4.1 hs2).1;have hn1:=xA5.1 hndr;have hn2:=xA5.1 hn1.2.1;have hfr:∀ x,x∈F++(X1++X2)→(w0.N x∧x<w'.heap.size∧¬ I' x)∧∀ k,x∉upd (upd Fs r1 []) r2 [] k:=fun x hx=>by
    obtain ⟨k1,k2,k3⟩:=hF x hx;refine ⟨⟨k1.elim (fun h1=>Base.N_of h.below h1) (hN0 x),k2,k3⟩,fun k hk=>?_⟩;obtain ⟨q1,q2⟩:=hfar k x hk;rcases k1 with k1 | k1
    · omega
    · exact q2 k1
  have tm:∀ (r:Nat) (u:Value),a.tmps[r]?=some u→a.tmps.setIfInBounds r u=a.tmps:=fun r u hu=>by
    apply xCw;intro k;by_cases hk:r=k
    · subst hk;rw [hu,xB4 (xBg.1 hu).1]
    · rw [xBe hk]
  rcases hK with hK | ⟨r3,tg3,hs3,n31,n32,hK⟩
  case inr =>
    obtain ⟨u3,hu3,hT3⟩:=h.slot0 hs3;simp only [T.eq_11] at hT3;obtain ⟨b3,cs3,e3,F3,hub,htg,hh,hFr,hcs⟩:=hT3;simp only [Cells] at hcs;obtain ⟨z1,zs,A1,A2,q1,q2,_,hz1,z2,zs2,B1,B2,q3,q4,_,hz2,q5,q6⟩:=hcs;have v1:=hone hs1 hu1 hT1 hz1;have v2:=hone hs2 hu2 hT2 hz2;have a1:A1=[]:=(by simp only [T] at hz1;exact hz1.2);have a2:B1=[]:=(by simp only [T] at hz2;exact hz2.2);subst v1;subst v2;subst a1;subst a2;subst q6;subst q5;subst q3;have hF3:Fs r3=[b3]:=(by rw [hFr,q2,q4];rfl);have hb3:b3∈Fs r3:=(by rw [hF3];simp);have hh':w'.heap[b3]?=some (.cells cs3 e3 (0,0)):=(hkeep b3 (h.own r3 b3 hb3).2.1 (fun hXX=>by
      obtain ⟨k,hk,hbk⟩:=hmem b3 hXX;have:=h.disj r3 k b3 hb3 hbk;rcases hk with rfl | rfl
      · exact n31 this
      · exact n32 this)).trans hh
    have hmid:upd (upd Fs r1 []) r2 [] r3=[b3]:=(by unfold upd;rw [if_neg n32,if_neg n31,hF3]);have hTn:T I' w' (.box tg3 [.box none c1',.box none c2']) nil u3 (b3::(X1++X2)):=(by simp only [T.eq_11,Cells];exact ⟨b3,cs3,e3,X1++X2,hub,htg,hh',rfl,z1,[z2],X1,X2,q1,rfl,hX.2.1,by simpa only [T.eq_11] using hTd1,z2,[],X2,[],rfl,by simp,hX.2.2,by simpa only [T.eq_11] using hTd2,rfl,rfl⟩);have hR3:=hR.forget r3;have hlt3:=(xA4.1 hs3).1;have hnb:b3∉X1++X2:=fun hx=>(hfr b3 (xC3 _ hx)).2 r3 (by rw [hmid];simp);have hp3:=hR3.put (t:=r3) (d0:=.undef) (d:=.box tg3 [.box none c1',.box none c2']) (u:=u3) (F:=b3::(X1++X2)) (by
      rw [xBq (by simpa [zAx] using hlt3)]) rfl (hTn.res (fun _ _ h=>h.elim)) (xB8.2 ⟨hnb,hn1.2.1⟩) (fun x hx=>by
      rcases xBs.1 hx with rfl | hx
      · have ho:=hR.own r3 x (by rw [hmid];simp);refine ⟨ho.1,ho.2.1,ho.2.2,fun r' hr' hm=>?_⟩;have hm':x∈upd (upd Fs r1 []) r2 [] r':=(by unfold upd at hm ⊢;rw [if_neg hr'] at hm;exact hm);exact hr' (hR.disj r' r3 x hm' (by rw [hmid];simp))
      · have ho:=hfr x (xC3 _ hx);refine ⟨ho.1.1,ho.1.2.1,ho.1.2.2,fun r' hr' hm=>ho.2 r' ?_⟩;unfold upd at hm ⊢;rw [if_neg hr'] at hm;exact hm)
    rw [tm r3 u3 hu3,xE3] at hp3;refine ⟨v,he,res,_,I',_,F,hK,hp3,hTr.res (fun _ _ h=>h.elim),⟨hn1.1,fun x hx=>⟨(hfr x qAi).1.1,(hfr x qAi).1.2.1,(hfr x qAi).1.2.2,fun r' hm=>?_⟩⟩,fun h=>by cases h⟩;unfold upd at hm;by_cases h3:r'=r3
    · rw [if_pos h3] at hm;rcases xBs.1 hm with rfl | hm
      · exact (hfr x qAi).2 r3 (by rw [hmid];simp)
      · exact hn1.2.2 x hx x hm rfl
    · rw [if_neg h3,if_neg h3] at hm;exact (hfr x qAi).2 r' qB5
  have hp1:=hR.put (t:=r1) (d0:=.undef) (d:=.box tg1 c1') (u:=u1) (F:=X1) (by
    rw [xA9 (Ne.symm hne),zA3,xBq (by simpa [zAx] using hlt1)];simp [D.prune]) rfl ((zG1 hT1 hTd1).res (fun _ _ h=>h.elim)) hn2.1 (fun x hx=>⟨(hfr x qAi).1.1,(hfr x qAi).1.2.1,(hfr x qAi).1.2.2,fun r' _=>(hfr x qAi).2 r'⟩)
  rw [tm r1 u1 hu1] at hp1;have hp2:=hp1.put (t:=r2) (d0:=.undef) (d:=.box tg2 c2') (u:=u2) (F:=X2) (by
    rw [xA9 hne,xBq (by simpa [zAx] using hlt2)]) rfl ((zG1 hT2 hTd2).res (fun _ _ h=>h.elim)) hn2.2.1 (fun x hx=>⟨(hfr x qAi).1.1,(hfr x qAi).1.2.1,(hfr x qAi).1.2.2,fun r' hr' hm=>by
      unfold upd at hm;by_cases h1:r'=r1
      · rw [if_pos h1] at hm;exact hn2.2.2 x hm x hx rfl
      · rw [if_neg h1] at hm;exact (hfr x qAi).2 r' qB5⟩)
  rw [tm r2 u2 hu2] at hp2;refine ⟨v,he,res,_,I',_,F,hK,hp2,hTr.res (fun _ _ h=>h.elim),⟨hn1.1,fun x hx=>⟨(hfr x qAi).1.1,(hfr x qAi).1.2.1,(hfr x qAi).1.2.2,fun r' hm=>?_⟩⟩,fun h=>by cases h⟩;unfold upd at hm;by_cases h2:r'=r2
  · rw [if_pos h2] at hm;exact hn1.2.2 x hx x (by simp [hm]) rfl
  · rw [if_neg h2] at hm;by_cases h1:r'=r1
    · rw [if_pos h1] at hm;exact hn1.2.2 x hx x (by simp [hm]) rfl
    · rw [if_neg h1] at hm;exact (hfr x qAi).2 r' qB5
theorem OutOK.mono0 {v:Value}{w':World}{I2:Nat→Prop}{Fs2:Nat→List Nat}(h:OutOK false Fs2 I2 w w0 I0 a.tmps K v w'):OutOK false Fs I w w0 I0 a.tmps K v w':=by obtain ⟨d,s',I',Fs',F,h1,h2,h3,h4,_⟩:=h;exact ⟨d,s',I',Fs',F,h1,h2,h3,h4,fun h=>by cases h⟩
theorem yFy {G:World→(Nat→Prop)→Prop}(hG:GI G w I0)(h:RelI w0 I0 s a.tmps w I Fs){f:FuncId}{xs:Array Operand}{ts:Array TypeId}{o:Oper}(ho:o.op=.call { callee:=.value (.func f),args:=xs,argTypes:=ts })(hk:zAh (CT P G) s (.callX f xs.toList) K):RunsTo P (execOp a.eval o) w (OutOK false Fs I w w0 I0 a.tmps K):=by
  have hlend:yR8 (CT P G) f s xs.toList K→RunsTo P (execOp a.eval o) w (OutOK false Fs I w w0 I0 a.tmps K):=by
    intro hk;have hC:∀ (us:Array Value) (W:World),(callFunc f us).run P W=.ok (.enter f us) W:=by obtain ⟨_,_,_,_,_,_,_,_,_,_,_,_,_,_,hC,_⟩:=hk;exact hC.1
    have hm:Array.map a.eval xs=(List.map a.eval xs.toList).toArray:=qAz;have hrun:(execOp a.eval o).run P w=.ok (.enter f (List.map a.eval xs.toList).toArray) w:=qAn;unfold RunsTo;rw [hrun];exact yWe hG h hk
  have hio:∀ {s2:List D} {I2:Nat→Prop} {Fs2:Nat→List Nat},RelI w0 I0 s2 a.tmps w I2 Fs2→ioK (CT P G) f s2 (xs.toList.map fun x=>raw s2 x) K→RunsTo P (execOp a.eval o) w (OutOK false Fs I w w0 I0 a.tmps K):=by
    intro s2 I2 Fs2 h hk;have hC:∀ (us:Array Value) (W:World),(callFunc f us).run P W=.ok (.enter f us) W:=by obtain ⟨_,_,tag,_,_,_,_,_,_,_,hk⟩:=hk;obtain ⟨_,_,_,_,hC,_⟩:=hk (tag.getD 0) (fun k e=>by rw [e];rfl);exact hC.1
    have hm:Array.map a.eval xs=(List.map a.eval xs.toList).toArray:=qAz;have hrun:(execOp a.eval o).run P w=.ok (.enter f (List.map a.eval xs.toList).toArray) w:=qAn;unfold RunsTo;rw [hrun];exact (xAd hG h (zQl h xs.toList) hk).mono (fun e w' he=>by obtain ⟨v,he,hv⟩:=he;exact ⟨v,he,hv.mono0⟩)
  have hlend2:yHw (CT P G) f s xs.toList K→RunsTo P (execOp a.eval o) w (OutOK false Fs I w w0 I0 a.tmps K):=by
    intro hk;have hC:∀ (us:Array Value) (W:World),(callFunc f us).run P W=.ok (.enter f us) W:=by obtain ⟨_,_,_,_,_,_,_,_,_,_,_,_,_,_,_,_,_,_,_,_,_,_,hC,_⟩:=hk;exact hC.1
    have hm:Array.map a.eval xs=(List.map a.eval xs.toList).toArray:=qAz;have hrun:(execOp a.eval o).run P w=.ok (.enter f (List.map a.eval xs.toList).toArray) w:=qAn;unfold RunsTo;rw [hrun];exact ySa hG h hk
  have hlendB:yHv (CT P G) f s xs.toList K→RunsTo P (execOp a.eval o) w (OutOK false Fs I w w0 I0 a.tmps K):=by
    intro hk;have hC:∀ (us:Array Value) (W:World),(callFunc f us).run P W=.ok (.enter f us) W:=by obtain ⟨_,_,_,_,_,_,_,_,_,_,_,_,_,_,_,_,_,_,_,_,hC,_⟩:=hk;exact hC.1
    have hm:Array.map a.eval xs=(List.map a.eval xs.toList).toArray:=qAz;have hrun:(execOp a.eval o).run P w=.ok (.enter f (List.map a.eval xs.toList).toArray) w:=qAn;unfold RunsTo;rw [hrun];exact yR9 hG h hk
  rcases hk with hk | hk | hk | ⟨t,hk⟩ | hk | hk | hk | ⟨r,t,hk⟩
  rotate_right 3
  · exact yAq hG h ho (by simp only [zAh];exact .inr (.inl hk))
  · exact hlendB hk
  · obtain ⟨Fs2,h2⟩:=h.pull r t;exact hio h2 hk
  · exact zXd hG h ho hk
  · exact hio h hk
  · exact hlend hk
  · obtain ⟨I2,Fs2,h2,_⟩:=h.freeze t;exact hio h2 hk
  · exact hlend2 hk
theorem yCz {G:World→(Nat→Prop)→Prop}(hG:GI G w I0)(h:RelI w0 I0 s a.tmps w I Fs){x:Operand}{xs:Array Operand}{ts:Array TypeId}{o:Oper}(ho:o.op=.call { callee:=.value x,args:=xs,argTypes:=ts })(hk:zAh (CT P G) s (.callvX x xs.toList) K):RunsTo P (execOp a.eval o) w (OutOK false Fs I w w0 I0 a.tmps K):=by
  have hio:∀ {s2:List D} {I2:Nat→Prop} {Fs2:Nat→List Nat} {f:FuncId} {first caps:List D},RelI w0 I0 s2 a.tmps w I2 Fs2→lk s2 x=.fn f first caps→ioK (CT P G) f s2 (first++xs.toList.map (fun x=>raw s2 x)++caps) K→RunsTo P (execOp a.eval o) w (OutOK false Fs I w w0 I0 a.tmps K):=by
    intro s2 I2 Fs2 f first caps h e hk
    have hX:=zC9 h x;rw [e] at hX;simp only [T] at hX;obtain ⟨us,vs,F1,F2,hu,hF,h1,h2⟩:=hX;simp at hF;obtain ⟨rfl,rfl⟩:=hF;have hC:∀ (us:Array Value) (W:World),(callFunc f us).run P W=.ok (.enter f us) W:=(by obtain ⟨_,_,tag,_,_,_,_,_,_,_,hk⟩:=hk;obtain ⟨_,_,_,_,hC,_⟩:=hk (tag.getD 0) (fun k e=>by rw [e];rfl);exact hC.1);have hrun:(execOp a.eval o).run P w=.ok (.enter f (us++xs.toList.map a.eval++vs).toArray) w:=qCr;unfold RunsTo;rw [hrun];exact (xAd hG h (zIg (zIg (zR2 h1) (zQl h xs.toList)) (zR2 h2)) hk).mono (fun e w' he=>by obtain ⟨v,he,hv⟩:=he;exact ⟨v,he,hv.mono0⟩)
  simp only [zAh] at hk;split at hk
  · rename_i f first caps e
    rcases hk with hk | hk | ⟨r,t,f',first',caps',e',hk⟩ | hk
    · refine zXc hG h ho ?_;simp only [zAh,e];exact hk
    · exact hio h e hk
    · obtain ⟨Fs2,h2⟩:=h.mvin r t;exact hio h2 e' hk
    · have hX:=zC9 h x;rw [e] at hX;simp only [T] at hX;obtain ⟨us,vs,F1,F2,hu,hF,h1,h2⟩:=hX;simp at hF;obtain ⟨rfl,rfl⟩:=hF;have hC:∀ (us:Array Value) (W:World),(callFunc f us).run P W=.ok (.enter f us) W:=(by obtain ⟨_,_,_,_,_,_,_,_,_,_,_,_,_,_,hC,_⟩:=hk;exact hC.1);have hrun:(execOp a.eval o).run P w=.ok (.enter f (us++xs.toList.map a.eval++vs).toArray) w:=qCr;unfold RunsTo;rw [hrun];exact yWi hG h (zIg (zIg (zR2 h1) (zQl h xs.toList)) (zR2 h2)) hk
  · exact hk.elim
end
end Go.V
namespace Go.V
open Go.RowKit
section
variable {P:Program} {w0:Base} {I0:Nat→Prop} {s:List D} {a:Act} {w:World} {I:Nat→Prop} {Fs:Nat→List Nat} {K:D→List D→Prop} {Ctr:CtrT} {nn:Bool}
theorem slice_form (h:RelI w0 I0 s a.tmps w I Fs){x:Operand}{sz:Nat}{rows:List (List D)}(hs:zG3 s (lk s x)=some (sz,rows)):∃ ad c,a.eval x=.slice ad rows.length c∧(rows=[]∨∃ b o raw F,ad=some ⟨b,o,none⟩∧w.rangeAt b o raw∧Rows I w sz rows raw F):=by
  have hT:=zC9 h x;have own:∀ {own:Bool} {sz':Nat} {rows':List (List D)} {ρ u F},T I w (.sl own sz' rows') ρ u F→∃ ad c,u=.slice ad rows'.length c∧(rows'=[]∨∃ b o raw F,ad=some ⟨b,o,none⟩∧w.rangeAt b o raw∧Rows I w sz' rows' raw F):=by
    intro own sz' rows' ρ u F hT;simp only [T] at hT;obtain ⟨ad,c,e,h1,h2,h3⟩:=hT;refine ⟨ad,c,e,?_⟩;rcases h3 with ⟨_,_,h3⟩ | ⟨_,h3⟩
    · rcases h3 with h3 | ⟨b,o,raw,h4,_,h5,h6⟩
      · exact .inl h3
      · exact .inr ⟨b,o,raw,_,h4,h5,h6⟩
    · rcases h3 with ⟨_,h4,_⟩ | ⟨b,o,cells,et,raw,F',h4,_,_,h5,_,h6⟩
      · exact .inl (xCb qAc)
      · exact .inr ⟨b,o,raw,_,h4,h5,h6⟩
  cases hl:lk s x with
  | sl own' z r=>rw [hl] at hT hs;simp only [zG3,xAv,xBd] at hs;obtain ⟨rfl,rfl⟩:=hs;exact own hT
  | nils=>rw [hl] at hT hs;simp only [zG3,xAv,xBd] at hs;obtain ⟨rfl,rfl⟩:=hs;simp only [T] at hT;exact ⟨none,0,hT.1,.inl rfl⟩
  | ref r q=>rw [hl] at hT hs;obtain ⟨F',ρ',k2,_⟩:=zIm h hT hs;exact own k2
  | sub r q i n =>
    rw [hl] at hT hs;obtain ⟨ad,c,raw,F',e,_,_,_,h4,_,h5⟩:=zOb h hT hs;refine ⟨ad,c,e,?_⟩;rcases h5 with h5 | ⟨b,o,h5,_,h6⟩
    · exact .inl h5
    · exact .inr ⟨b,o,raw,F',h5,h6,h4⟩
  | _=>rw [hl] at hs;simp [zG3] at hs
theorem yQd (h:RelI w0 I0 s a.tmps w I Fs) {x:Operand} {src dst e:TypeId} {o:Oper} (ho:o.op=.convert src dst x) (hs:P.underlying src=some (.slice e)) (he:P.underlying e=some (.int .u8)) (hd:P.underlying dst=some .string) (hk:zAh Ctr s (.b2s x) K):RunsTo P (execOp a.eval o) w (OutOK nn Fs I w w0 I0 a.tmps K):=by
  simp only [zAh,yZ0] at hk;split at hk
  · rename_i sz rows hsl;obtain ⟨xs,rfl,hk⟩:=hk;obtain ⟨ad,c,e1,h1⟩:=slice_form h hsl;refine .value (v:=.string (yYv xs)) ?_ (.plain h hk yCl);have hlen:(xs.map yGl).length=xs.length:=by simp
    rw [hlen] at e1;simp only [execOp,ho,e1,Sem.run_bind];have key:(convert src dst (.slice ad xs.length c)).run P w=.ok (.string (yYv xs)) w:=by
      rcases h1 with h1 | ⟨b,oo,raw,F,rfl,hr,hR⟩
      · have:xs=[]:=by cases xs with
          | nil=>rfl
          | cons y ys=>simp at h1
        subst this;cases ad with
        | none=>exact run_convert_bytes_nil w src e hs he _ _ dst hd
        | some y=>exact run_convert_bytes_back w src dst e y c [] hs he hd (fun j hj=>absurd hj qAh)
      · refine run_convert_bytes_arg w src e hs he b oo _ c xs rfl (fun i hi=>?_) dst hd;have hrow:((xs.map yGl))[i]?=some (yGl xs[i]):=by simp [hi]
        obtain ⟨us,F',k1,_,k3,k4⟩:=Rows.at i hR hrow;simp only [yGl,Cells] at k1;obtain ⟨u,us',F1,F2,rfl,_,_,hT,rfl,_⟩:=k1;obtain rfl:=(T_v hT).1;simp only [xE4] at k3;subst k3;have:=k4 0 _ rfl;rw [Nat.mul_one,xEk] at this;rw [hr i _ this,xA3,xA1 hi];rfl
    rw [key];rfl
  · exact hk.elim
theorem zXa (h:RelI w0 I0 s a.tmps w I Fs) {op:BinOp} {neg:Bool} {x:Operand} {xt yt e:TypeId} {o:Oper} (ho:o.op=.binOp op xt x (.const (.slice none 0 0)) yt) (hop:(op=.eql∧neg=false)∨(op=.neq∧neg=true)) (hu:P.underlying xt=some (.slice e)) (hk:zAh Ctr s (.isnil neg x) K):RunsTo P (execOp a.eval o) w (OutOK nn Fs I w w0 I0 a.tmps K):=by
  have hcst:a.eval (.const (.slice none 0 0))=.slice none 0 0:=rfl;have run:∀ (ad:Option Addr) (n c:Nat),a.eval x=.slice ad n c→(execOp a.eval o).run P w=.ok (.value (.bool (if neg then !ad.isNone else ad.isNone))) w:=by
    intro ad n c e1;have heq:(Op.equal xt (.slice ad n c) (.slice none 0 0)).run P w=.ok ad.isNone w:=by
      have key:∀ m,(Op.equalIn (m+1) xt (.slice ad n c) (.slice none 0 0)).run P w=.ok ad.isNone w:=fun m=>by cases ad<;>simp [Op.equalIn,run_underlying hu]
      exact key 9999
    rcases hop with ⟨rfl,rfl⟩ | ⟨rfl,rfl⟩
    · have hg:(eqGuard .eql xt x (.const (.slice none 0 0)) (.slice ad n c) (.slice none 0 0)).run P w=.ok () w:=(by unfold eqGuard;rfl);simp only [execOp,ho,e1,hcst,Sem.run_bind,hg,Result.andThen_ok,binOp,heq];rfl
    · have hg:(eqGuard .neq xt x (.const (.slice none 0 0)) (.slice ad n c) (.slice none 0 0)).run P w=.ok () w:=(by unfold eqGuard;rfl);simp only [execOp,ho,e1,hcst,Sem.run_bind,hg,Result.andThen_ok,binOp,heq];rfl
  simp only [zAh] at hk;have hT:=zC9 h x;unfold yBh at hk;split at hk
  · rename_i e1;rw [e1] at hT;simp only [T] at hT;refine .value (run none 0 0 hT.1) (.plain h ?_ yCl);cases neg<;>exact hk
  · rename_i sz rows hsl _;obtain ⟨ad,c,e1,h1⟩:=slice_form h hsl;refine .value (run ad _ c e1) (.plain h ?_ yCl);rcases h1 with h1 | ⟨b,oo,raw,F,rfl,_⟩
    · obtain ⟨k1,k2⟩:=hk.2 h1;cases (if neg=true then !ad.isNone else ad.isNone)
      · exact k2
      · exact k1
    · by_cases hr:rows=[]
      · obtain ⟨k1,k2⟩:=hk.2 hr;cases neg
        · exact k2
        · exact k1
      · have:=hk.1 hr;cases neg<;>exact this
  · exact hk.elim
end
end Go.V
