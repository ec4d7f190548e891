/- Laws that the proof stands on. -/
import Derived.Test.YtaleehohmpohoaaZVc
set_option linter.all false
namespace Go.V
open Go.RowKit
/-! ### Regions that draw, order by order: what hangs on no memory goes first -/
def yD1:Op→VOp→Bool
  | .move _,.mv _=>true
  | .fieldAddr _ _ _,.fa _ _=>true
  | .indexAddr _ _ _,.ia _ _ _=>true
  | .call _,.len _=>true
  | .binOp _ _ _ _ _,.bin _ _ _=>true
  | _,_=>false
section
variable (P:Program)
def ySt (ops:Array Oper)(oi:Oper)(i:Nat):Bool:=(List.range ops.size).all fun j=>j==i||match ops[j]? with
  | some oj=>oj.after.any (fun e=>Region.binds .any e&&e.on==i)||oi.after.any (fun e=>Region.binds .any e&&e.on==j)||oi.apart ops oj
  | none=>true
def yYj (ops:Array Oper)(i:Nat):Bool:=match ops[i]? with
  | some o=>o.guard.isNone&&(match cOp P false o.op with | some v=>yD1 o.op v | none=>false)&&ySt ops o i
  | none=>false
def yWy (ops:Array Oper)(nh:Nat):List Nat:=(List.range nh).filter (yYj P ops)
def yIo (ops:Array Oper) (M:List Nat) (nh:Nat):Nat→Nat→Array Bool→Option (VT×Nat)
  | fuel,bud,listed =>
    if (bud==0)=true then none else
    if (decide (fuel=ops.size-nh)&&listed==zCp ops.size nh&&Region.seqB .any ops (ops.size-nh) nh listed)=true then some (.done,bud-1) else
    match fuel with
    | 0=>none
    | f+1=>match (Region.ready .any ops listed).find? (fun i=>M.contains i) with
      | some i=>yYi P (fun i b=>yIo ops M nh f b (listed.setIfInBounds i true)) ops i (bud-1)
      | none=>if ((Region.ready .any ops listed).isEmpty||!(Region.ready .any ops listed).all (fun i=>decide (i<nh)))=true then none else yMx P (fun i b=>yIo ops M nh f b (listed.setIfInBounds i true)) ops (Region.ready .any ops listed) (bud-1)
def zZy (ops:Array Oper) (nh:Nat):Option VCode :=
  if (P.follows .mixedOrders&&Region.noSelect ops&&decide (nh≤ops.size))=true then
    match yIo P ops (yWy P ops nh) nh ops.size 1200 (Array.replicate ops.size false),zR0 P ops (ops.toList.drop nh) with
    | some (t,_),some tail=>some (.drawT t tail)
    | _,_=>none
  else none
end
section
variable {P:Program} {G:World→(Nat→Prop)→Prop} {w0:Base} {I0:Nat→Prop}
theorem yD2 {ops:Array Oper} {i:Nat} {oi:Oper} {listed:Array Bool} (hi:ops[i]?=some oi) (h:ySt ops oi i=true) (hr:i∈Region.ready .any ops listed):Region.free .any ops listed i=true:=by
  obtain ⟨_,o',ho',hed⟩:=mem_ready.1 hr;rw [hi] at ho';cases ho';unfold Region.free;rw [hi];simp only;unfold ySt at h;rw [xBx] at h ⊢;intro j hj;have h1:=h j hj;cases ho:ops[j]? with
  | none=>simp
  | some oj =>
    rw [ho] at h1;simp only at h1;rcases xFl.1 h1 with h2 | h2
    · rw [h2];rfl
    · rcases xFl.1 h2 with h3 | h3
      · rcases xFl.1 h3 with h4 | h4
        · simp only [h4,xC5,xCx]
        · obtain ⟨e,he,hb⟩:=Array.any_eq_true'.1 h4;simp only [xA2,beq_iff_eq] at hb;have h5:=hed e he hb.1;rw [hb.2] at h5;have h6:listed.getD j true=true:=by
            rcases xF7 j listed.size with h' | h'
            · simp [h'] at h5 ⊢;exact h5
            · simp [xCr h']
          simp only [h6,xCx,xC5]
      · simp only [h3,xCx]
def yEj (P:Program)(m:Sem Next):Prop:=∃ v,∀ w,m.run P w=.ok (.value v) w
variable {Ctr:CtrT} {s:List D} {a:Act} {w:World} {I:Nat→Prop} {Fs:Nat→List Nat} {K:D→List D→Prop}
theorem yKd (h:RelI w0 I0 s a.tmps w I Fs){off n:Nat}{x:Operand}{st:TypeId}{f:Nat}{fs:Array Field}{fd:Field}{o:Oper}(ho:o.op=.fieldAddr st x f)(hs:P.underlying st=some (.struct fs))(hf:fs[f]?=some fd)(hn:(P.info? fd.type).map (·.size)=some (n+1))(hk:zAh Ctr s (.fa off x) K):yEj P (execOp a.eval o):=by
  have hx:=zC9 h x;simp only [zAh] at hk;split at hk
  · rename_i r q i j e;rw [e] at hx;simp only [T] at hx;obtain ⟨⟨d,u0,t,sz,rows,u1,b,oo,h1,h2,h3,h4,h5,h6,h7⟩,_⟩:=hx;exact ⟨.pointer (some ⟨b,oo+i*sz+j+fd.offset,none⟩),fun w'=>by simp [execOp,ho,h7,Instr.fieldAt,run_underlying hs,hf,Instr.sureAddr,zF1 hn]⟩
  · rename_i c j e;rw [e] at hx;simp only [T] at hx;obtain ⟨_,b,oo,raw,e',hI,hr,hc⟩:=hx;exact ⟨.pointer (some ⟨b,oo+j+fd.offset,none⟩),fun w'=>by simp [execOp,ho,e',Instr.fieldAt,run_underlying hs,hf,Instr.sureAddr,zF1 hn]⟩
  · exact hk.elim
theorem yKc (h:RelI w0 I0 s a.tmps w I Fs) {sz:Nat} {x i:Operand} {xt et:TypeId} {o:Oper} (ho:o.op=.indexAddr xt x i) (hx:P.underlying xt=some (.slice et)) (hsz:(P.info? et).map (·.size)=some sz) (hk:zAh Ctr s (.ia sz x i) K):yEj P (execOp a.eval o):=by
  have hX:=zC9 h x;have hI:=zC9 h i;have hrun:∀ (k:IntKind) (n:Int) (b oo l c:Nat),a.eval i=.int k n→a.eval x=.slice (some ⟨b,oo,none⟩) l c→0≤n→n<l→yEj P (execOp a.eval o):=by
    intro k n b oo l c e1 e2 h1 h2;cases hq:P.info? et with
    | none=>simp [hq] at hsz
    | some ii=>simp [hq] at hsz;exact ⟨.pointer (some ⟨b,oo+n.toNat*sz,none⟩),fun w'=>by simp [execOp,ho,e1,e2,Instr.indexAt,asIntOf,run_underlying hx,h1,h2,sizeOf,typeInfo,hq,hsz,Addr.add_mid]⟩
  simp only [zAh] at hk;split at hk
  · rename_i k n r q e1 e2;rw [e1] at hI;rw [e2] at hX;split at hk
    · rename_i sz' rows e3;obtain ⟨h1,h2,rfl,hK⟩:=hk;obtain ⟨F',ρ',k2,_⟩:=zIm h hX e3;have hlt:n.toNat<rows.length:=by omega
      obtain ⟨b,oo,us,F2,ρ2,hb,_⟩:=yGg k2 (by rfl) (xA1 hlt);obtain ⟨ad,c,e4,_,_⟩:=zF8 k2;rw [e4] at hb;have:ad=some ⟨b,oo,none⟩:=by
        cases ad with
        | none=>simp [zBa] at hb
        | some z=>obtain ⟨z1,z2,z3⟩:=z;cases z3<;>simp [zBa] at hb;simp [hb]
      subst this;exact hrun k n b oo _ c (T_v hI).1 e4 h1 h2
    · exact hk.elim
  · rename_i k n sz' rows e1 e2;rw [e1] at hI;rw [e2] at hX;obtain ⟨h1,h2,rfl,row,hrow,hK⟩:=hk;simp only [T] at hX;obtain ⟨ad,c,e4,_,_,h3⟩:=hX;rcases h3 with ⟨_,_,h3⟩ | ⟨h3,_⟩
    · rcases h3 with h3 | ⟨b,oo,raw,rfl,hIb,hr,hR⟩
      · subst h3;simp at hrow
      · exact hrun k n b oo _ c (T_v hI).1 e4 h1 h2
    · simp at h3
  · exact hk.elim
theorem yFa (h:RelI w0 I0 s a.tmps w I Fs){x:Operand}{xt e:TypeId}{args:Array TypeId}{o:Oper}(ho:o.op=.call { callee:=.builtin .len,args:=#[x],argTypes:=args })(ha:args[0]?=some xt)(hx:P.underlying xt=some (.slice e))(hk:zAh Ctr s (.len x) K):yEj P (execOp a.eval o):=by
  have hX:=zC9 h x;simp only [zAh] at hk;split at hk
  · rename_i sz rows e1;obtain ⟨b,c,e2,_⟩:=yFo h hX e1;exact ⟨.int .i64 rows.length,fun w'=>by simp [execOp,ho,resolve,invoke,builtin,Builtin.len_,ha,e2,run_underlying hx,goInt]⟩
  · exact hk.elim
theorem yFb (h:RelI w0 I0 s a.tmps w I Fs){op:BinOp}{x y:Operand}{xt yt:TypeId}{o:Oper}(ho:o.op=.binOp op xt x y yt)(hk:zAh Ctr s (.bin op x y) K):yEj P (execOp a.eval o):=by
  have hx:=zC9 h x;have hy:=zC9 h y;simp only [zAh] at hk;split at hk
  · rename_i k b1 k' b2 e1 e2;rw [e1] at hx;rw [e2] at hy;obtain ⟨v,hv,hr⟩:=yBm (P:=P) hk xt;refine ⟨v,fun w'=>?_⟩;have hg:(eqGuard op xt x y (.int k b1) (.int k' b2)).run P w'=.ok () w':=by unfold eqGuard;split<;>rfl
    simp only [execOp,ho,(T_v hx).1,(T_v hy).1,Sem.run_bind,hg,Result.andThen_ok,hr];rfl
  · rename_i b1 b2 e1 e2;rw [e1] at hx;rw [e2] at hy;obtain ⟨v,hv,hr⟩:=yAk (P:=P) hk xt;refine ⟨v,fun w'=>?_⟩;have hg:(eqGuard op xt x y (.string b1) (.string b2)).run P w'=.ok () w':=by unfold eqGuard;split<;>rfl
    simp only [execOp,ho,(T_v hx).1,(T_v hy).1,Sem.run_bind,hg,Result.andThen_ok,hr];rfl
  · exact hk.elim
theorem yKb (h:RelI w0 I0 s a.tmps w I Fs) {o:Oper} {v:VOp} (hf:yD1 o.op v=true) (hc:cOp P false o.op=some v) (hk:zAh Ctr s v K):yEj P (execOp a.eval o):=by
  cases hop:o.op with
  | move x=>exact ⟨a.eval x,fun w'=>by simp only [execOp,hop];rfl⟩
  | fieldAddr st x f =>
    rw [hop] at hc;simp only [cOp] at hc;split at hc
    · rename_i fs hs;split at hc
      · rename_i fd hfd;split at hc
        · rename_i i hi;split at hc
          · rename_i hpos;simp only [xAv] at hc;subst hc;exact yKd (n:=i.size-1) h hop hs hfd (by rw [hi];simp;omega) hk
          · cases hc
        · cases hc
      · cases hc
    · cases hc
  | indexAddr t x i =>
    rw [hop] at hc hf;simp only [cOp] at hc;split at hc
    · rename_i e hs;split at hc
      · rename_i ie hi;simp only [xAv] at hc;subst hc;exact yKc h hop hs qCd hk
      · cases hc
    · split at hc
      · simp only [xAv] at hc;subst hc;simp [yD1] at hf
      · cases hc
    · cases hc
  | binOp op xt x y yt =>
    rw [hop] at hc hf;have:∀ op2 x2 y2,v=.bin op2 x2 y2→op2=op∧x2=x∧y2=y:=by
      rintro op2 x2 y2 rfl;simp only [cOp] at hc
      repeat' split at hc
      all_goals simp_all
    cases v<;>simp only [yD1,xBa] at hf;obtain ⟨rfl,rfl,rfl⟩:=this _ _ _ rfl;exact yFb h hop hk
  | call c =>
    rw [hop] at hc hf;obtain ⟨callee,args,ats⟩:=c;cases v<;>simp only [yD1,xBa] at hf;rename_i x;simp only [cOp] at hc;split at hc
    · simp at hc
    · simp at hc
    · split at hc
      · rename_i y t ha ht;split at hc
        · simp at hc
        · rename_i e hu;simp only [xAv,VOp.len.injEq] at hc;subst hc;rw [yYo ha] at hop;exact yFa h hop ht hu hk
        · simp at hc
        · cases hc
      · cases hc
    all_goals exfalso;revert hc;repeat' split
    all_goals simp
  | _=>rw [hop] at hf;simp [yD1] at hf
inductive OKF (P:Program) (ops:Array Oper) (nh:Nat):VT→Nat→Array Bool→List Nat→Prop
  | done {fuel listed rdy}:fuel=ops.size-nh→listed=zCp ops.size nh→Region.seqB .any ops (ops.size-nh) nh listed=true→OKF P ops nh .done fuel listed rdy
  | nil {fuel listed}:OKF P ops nh .nil fuel listed []
  | h {i o op sub f listed rdy}:ops[i]?=some op→cVO P false ops op=some o→yYj P ops i=true→i∈Region.ready .any ops listed→OKF P ops nh sub f (listed.setIfInBounds i true) (Region.ready .any ops (listed.setIfInBounds i true))→(sub=.nil→False)→OKF P ops nh (.h i o sub) (f+1) listed rdy
  | br {i o op sub rest f listed is}:ops[i]?=some op→cVO P false ops op=some o→OKF P ops nh sub f (listed.setIfInBounds i true) (Region.ready .any ops (listed.setIfInBounds i true))→(sub=.nil→False)→OKF P ops nh rest (f+1) listed is→(rest=.done→False)→(∀ a b c,rest=.h a b c→False)→OKF P ops nh (.br i o sub rest) (f+1) listed (i::is)
theorem zUt {ops:Array Oper} {nh f:Nat} {listed:Array Bool} {g:Nat→Nat→Option (VT×Nat)} (hg:∀ i b t b',g i b=some (t,b')→OKF P ops nh t f (listed.setIfInBounds i true) (Region.ready .any ops (listed.setIfInBounds i true))∧(t=.nil→False)):∀ (is:List Nat) {bud:Nat} {t:VT} {b':Nat},yMx P g ops is bud=some (t,b')→OKF P ops nh t (f+1) listed is∧(t=.done→False)∧(∀ a b c,t=.h a b c→False)∧(t=.nil→is=[])
  | [],bud,t,b',h=>by simp only [yMx,xAv,xBd] at h;obtain ⟨rfl,_⟩:=h;exact ⟨.nil,(fun h=>by cases h),(fun _ _ _ h=>by cases h),fun _=>rfl⟩
  | i :: is,bud,t,b',h=>by
    simp only [yMx] at h;split at h
    · rename_i op hop;split at h
      · rename_i o ho;split at h
        · rename_i sub b1 hs;split at h
          · rename_i rest b2 hr;simp only [xAv,xBd] at h;obtain ⟨rfl,_⟩:=h;obtain ⟨h1,h2⟩:=hg _ _ _ _ hs;obtain ⟨h3,h4,h5,_⟩:=zUt hg is hr;exact ⟨.br hop ho h1 h2 h3 h4 h5,(fun h=>by cases h),(fun _ _ _ h=>by cases h),(fun h=>by cases h)⟩
          · cases h
        · cases h
      · cases h
    · cases h
theorem zQf {ops:Array Oper} {M:List Nat} (hM:∀ i,i∈M→yYj P ops i=true) {nh:Nat}:∀ (fuel:Nat) {bud:Nat} {listed:Array Bool} {t:VT} {b':Nat},yIo P ops M nh fuel bud listed=some (t,b')→OKF P ops nh t fuel listed (Region.ready .any ops listed)∧(t=.nil→False)
  | fuel, bud,listed,t,b',h=>by
    unfold yIo at h;split at h
    · cases h
    · split at h
      · rename_i hd;simp only [xA2,decide_eq_true_eq,beq_iff_eq] at hd;simp only [xAv,xBd] at h;obtain ⟨rfl,_⟩:=h;exact ⟨.done hd.1.1 hd.1.2 hd.2,(fun h=>by cases h)⟩
      · cases fuel with
        | zero=>cases h
        | succ f =>
          simp only at h;split at h
          · rename_i i hf;have hmem:=xD3 hf;have hp:=xE7 hf;unfold yYi at h;split at h
            · rename_i op hop;split at h
              · rename_i o ho;split at h
                · rename_i sub b1 hs;simp only [xAv,xBd] at h;obtain ⟨rfl,_⟩:=h;obtain ⟨h1,h2⟩:=zQf hM f hs;exact ⟨.h hop ho (hM i (by simpa using hp)) hmem h1 h2,(fun h=>by cases h)⟩
                · cases h
              · cases h
            · cases h
          · split at h
            · cases h
            · rename_i hne;simp only [xDk,xDy,not_or] at hne;obtain ⟨h1,h2,_,h3⟩:=zUt (nh:=nh) (f:=f) (listed:=listed) (fun i b t b' hgt=>zQf hM f hgt) _ h;refine ⟨h1,fun h=>?_⟩;rw [h3 h] at hne;exact hne.1 rfl
theorem yFr (hcl:∀ w',w0.Below w'→GI G w' I0) {ops:Array Oper} {nh:Nat} {Q:Exit→Act→World→Prop} (hQn:NoX Q) {KT:List D→Prop} (hs:Region.noSelect ops=true) (hT:∀ s a w,KT s→Rel w0 I0 s a w→wpList P ops Q (ops.toList.drop nh) a w) {t:VT} {fuel:Nat} {VL:Array Bool} {rdy:List Nat} (ok:OKF P ops nh t fuel VL rdy) :
    ((t=.done∨∃ i o sub,t=.h i o sub)→∀ (s:List D) (a:Act) (w:World),t.wp (CT P G) KT s→Rel w0 I0 s a w→wpAny P .any ops Q fuel VL a w) ∧
    ((t=.nil∨∃ i o sub rest,t=.br i o sub rest)→∀ (s:List D) (a:Act) (w:World),t.wp (CT P G) KT s→Rel w0 I0 s a w→∀ i∈rdy,wpOp P ops Q i (wpAny P .any ops Q (fuel-1) (VL.setIfInBounds i true)) a w):=by
  have up:∀ {t:VT} {f:Nat} {VL:Array Bool},OKF P ops nh t f VL (Region.ready .any ops VL)→(t=.nil→False) →
      (((t=.done∨∃ i o sub,t=.h i o sub)→∀ (s:List D) (a:Act) (w:World),t.wp (CT P G) KT s→Rel w0 I0 s a w→wpAny P .any ops Q f VL a w) ∧
      ((t=.nil∨∃ i o sub rest,t=.br i o sub rest)→∀ (s:List D) (a:Act) (w:World),t.wp (CT P G) KT s→Rel w0 I0 s a w→∀ i∈Region.ready .any ops VL,wpOp P ops Q i (wpAny P .any ops Q (f-1) (VL.setIfInBounds i true)) a w)) →
      ∀ (s:List D) (a:Act) (w:World),t.wp (CT P G) KT s→Rel w0 I0 s a w→wpAny P .any ops Q f VL a w:=by
    intro t f VL ok hnn ih s a w hk hR;cases t with
    | done=>exact ih.1 (.inl rfl) s a w hk hR
    | nil=>exact (hnn rfl).elim
    | h i o sub=>exact ih.1 (.inr ⟨_,_,_,rfl⟩) s a w hk hR
    | br i o sub rest =>
      obtain ⟨f2,is,rfl,hrr⟩:∃ f2 is,f=f2+1∧Region.ready .any ops VL=i::is:=by
        generalize Region.ready .any ops VL=rr at ok;cases ok with
        | br=>exact ⟨_,_,rfl,rfl⟩
      have:=ih.2 (.inr ⟨_,_,_,_,rfl⟩) s a w hk hR;exact ⟨fun h0=>(by rw [hrr] at h0;cases h0),this⟩
  induction ok with
  | @done fuel listed rdy h1 h2 h3 =>
    subst h1;subst h2;refine ⟨fun _ s a w hk hR=>?_,(fun h=>by rcases h with h | ⟨_,_,_,_,h⟩<;>cases h)⟩;have hl:(ops.toList.drop nh).length=ops.size-nh:=by simp
    have:=wpAny_of_seq (P:=P) (md:=.any) (ops:=ops) (Q':=Q) (ops.toList.drop nh) nh (zCp ops.size nh) a w (fun j=>by simp [xDb]) (by rw [hl];exact h3) (hT s a w hk hR);rw [hl] at this;exact this
  | nil=>exact ⟨(fun h=>by rcases h with h | ⟨_,_,_,h⟩<;>cases h),(fun _ _ _ _ _ _ i hi=>by cases hi)⟩
  | @h i o op sub f listed rdy hop ho hfr hrd hsub hsn ih =>
    refine ⟨fun _ s a w hk hR=>?_,(fun h=>by rcases h with h | ⟨_,_,_,_,h⟩<;>cases h)⟩;simp only [VT.wp] at hk;unfold yYj at hfr;rw [hop] at hfr;simp only [xA2] at hfr;obtain ⟨⟨hg,hfv⟩,hfree⟩:=hfr;have hg:op.guard=none:=by simpa using hg
    obtain ⟨hd,I,Fs,hRI⟩:=hR;have hGw:GI G w I0:=hcl _ hRI.below;have hv:=ho;simp only [cVO,hg,zFr] at hv;cases hcop:cOp P false op.op with
    | none=>simp [hcop] at hv
    | some vop =>
    simp only [hcop,xAv] at hv;rw [hcop] at hfv;subst hv;simp only [zIk] at hk;obtain ⟨u,hu⟩:=yKb hRI hfv hcop hk;have hrun:=zQq (nn:=false) hGw hRI (fun h=>by cases h) hcop hk;unfold RunsTo at hrun;rw [hu] at hrun;obtain ⟨d,s',I',Fs',F,hK,hR',hT',hF,_⟩:=hrun;have hR2:Rel w0 I0 (match op.dst with | some t=>zN2 s' t d | none=>s') (a.put op.dst u) w:=zIn hd hR' hT' hF;have hwant:∀ y,Region.wanted op y=true:=fun y=>by unfold Region.wanted;rw [hg]
    exact wpAny_take hop hs (yD2 hop hfree hrd) (by simpa using hrd) (fun c a w h=>by have:=hQn _ _ _ h;cases this) (.inl ⟨hwant _,hu⟩) (up hsub hsn ih _ _ w hK hR2)
  | @br i o op sub rest f listed is hop ho hsub hsn hrest hrd hrh ih1 ih2 =>
    refine ⟨(fun h=>by rcases h with h | ⟨_,_,_,h⟩<;>cases h),fun _ s a w hk hR j hj=>?_⟩;simp only [VT.wp] at hk;by_cases hji:j=i
    · subst hji;exact yAn hcl hop ho hk.1 rfl rfl (fun s' u w' hk' hR'=>up hsub hsn ih1 s' _ w' hk' hR') hR
    · have hj':j∈is:=by
        rcases xBs.1 hj with h | h
        · exact absurd h hji
        · exact h
      cases rest with
      | done=>exact (hrd rfl).elim
      | nil=>cases hrest;cases hj'
      | h i2 o2 s2=>exact (hrh _ _ _ rfl).elim
      | br i2 o2 s2 r2=>exact ih2.2 (.inr ⟨_,_,_,_,rfl⟩) s a w hk.2 hR j hj'
theorem yCy (hcl:∀ w',w0.Below w'→GI G w' I0) {ops:Array Oper} {nh:Nat} {vc:VCode} (hc:zZy P ops nh=some vc) {VQ:VExit→List D→Prop} {Q:Exit→Act→World→Prop} (hQn:NoX Q) {s:List D} (hk:vc.wp (CT P G) VQ s) (hQ:∀ s a w,VQ .normal s→Rel w0 I0 s a w→Q .normal a w) {a:Act} {w:World} (h:Rel w0 I0 s a w):RegAny P ops Q a w:=by
  unfold zZy at hc;split at hc
  · rename_i hm;simp only [xA2] at hm;split at hc
    · rename_i t b tail hg ht;simp only [xAv] at hc;subst hc;simp only [VCode.wp] at hk;obtain ⟨ok,hnn⟩:=zQf (fun i hi=>by unfold yWy at hi;exact (xEo.1 hi).2) _ hg;obtain ⟨hd,I,Fs,hR⟩:=h;have hR':Rel w0 I0 s a { w with drawn:=w.drawn+1 }:=⟨hd,I,Fs,hR.world (w':={ w with drawn:=w.drawn+1 }) ((Below.refl _ w).drew)⟩
      have hT:∀ s a w,zLz (CT P G) s tail (VQ .normal)→Rel w0 I0 s a w→wpList P ops Q (ops.toList.drop nh) a w:=fun s a w hk h=>zKe hcl ops (KK:=VQ .normal) hQ _ tail s a w ht hk h;have:=yFr (nh:=nh) (Q:=Q) hcl hQn hm.1.2 (KT:=fun s'=>zLz (CT P G) s' tail (VQ .normal)) hT ok;refine ⟨hm.1.1,?_⟩;cases t with
      | done=>exact this.1 (.inl rfl) s a _ hk hR'
      | nil=>exact (hnn rfl).elim
      | h i o sub=>exact this.1 (.inr ⟨_,_,_,rfl⟩) s a _ hk hR'
      | br i o sub rest =>
        obtain ⟨f2,is,hf,hrr⟩:∃ f2 is,ops.size=f2+1∧Region.ready .any ops (Array.replicate ops.size false)=i::is:=by
          generalize Region.ready .any ops (Array.replicate ops.size false)=rr at ok;generalize Array.replicate ops.size false=ll at ok;generalize ops.size=nn at ok;cases ok with
          | br=>exact ⟨_,_,rfl,rfl⟩
        have h2:=this.2 (.inr ⟨_,_,_,_,rfl⟩) s a _ hk hR';rw [hf] at h2 ⊢;refine ⟨fun h0=>?_,?_⟩
        · rw [← hf,hrr] at h0;cases h0
        · exact h2
    · cases hc
  · cases hc
end
end Go.V
namespace Go.V
open Go.RowKit
def tmpsOf:List Operand→List Nat
  | []=>[]
  | .tmp t::l=>t::tmpsOf l
  | _::l=>tmpsOf l
def VOp.eats:VOp→List Nat
  | .asg x=>tmpsOf [x]
  | .box x=>tmpsOf [x]
  | .build _ ps=>tmpsOf (ps.map (·.2.2))
  | .bslN _ ps=>tmpsOf ps
  | .appN _ _ x y=>tmpsOf [x,y]
  | .app _ _ x y=>tmpsOf [x,y]
  | _=>[]
def yU4 (l:List Nat):Nat:=l.foldl (fun m t=>max m (t+1)) 0
def zF6 (l:List Nat):List Bool:=(List.range (yU4 l)).map fun i=>l.contains i
def ySj (ops:Array Oper) (o:Oper):Bool :=
  match o.op with
  | .call c=>match c.callee with
    | .builtin .append=>match c.args.toList with
      | .tmp t::_=>ops.toList.any fun p=>p.dst==some t&&(match p.op with | .load _ _=>true | .move _=>true | _=>false)
      | _=>false
    | _=>false
  | _=>false
section
variable (P:Program)
def zWj (ops:Array Oper) (w:Option Nat):List Nat→Option (List (Nat×VO))
  | []=>some []
  | i :: is=>match ops[i]? with
    | some o=>match cVO P (w != some i) ops o,zWj ops w is with
      | some v,some vs=>some ((i,v)::vs)
      | _,_=>none
    | none=>none
end
def dstsOf (vos:List (Nat×VO)):List Nat:=vos.filterMap fun v=>v.2.dst
def yV9 (bs:List Nat)(start:List Bool)(vos:List (Nat×VO))(v:Nat×VO):DOp where
  idx:=v.1
  hid:=(List.range start.length).map fun r=>start.getD r false&&!(vos.any (fun e=>e.2.dst==some r&&(bs.getD v.1 0).testBit e.1)&&vos.all (fun j=>j.1==v.1||(bs.getD j.1 0).testBit v.1||!(j.2.op.eats.contains r)))
  cl:=zF6 (v.2.op.eats.filter fun t=>vos.any fun e=>e.2.dst==some t&&(bs.getD v.1 0).testBit e.1)
  vo:=v.2
def yOK (o:DOp):Bool:=match o.vo.op with
  | .app _ _ _ (.tmp t)=>o.cl.getD t false
  | _=>true
section
variable (P:Program)
def yJc (ops:Array Oper) (bs:List Nat) (nh n1:Nat) (start:List Bool) (H:List DOp) (tail:List VO):Option VCode :=
  if (P.follows .mixedOrders&&drawB ops H start nh)=true then
    match H.drop n1 with
    | []=>if H.all (fun o=>o.vo.op.framed)=true then some (.draw start (zRd H) H tail) else none
    | o::l2=>if ((H.take n1).all (fun o=>o.vo.op.framed)&&l2.all (fun o=>o.vo.op.framed)&&(H.take n1).all (fun k=>(bs.getD o.idx 0).testBit k.idx)&&o.vo.guard.isNone&&yOK o)=true then some (.drawW start (zRd H) (H.take n1) o l2 tail) else none
  else none
def zYg (ops:Array Oper) (bs:List Nat) (nh n1:Nat):Option (List (Nat×VO))→Option VCode
  | some vos=>match zR0 P ops (ops.toList.drop nh) with
    | some tail=>yJc P ops bs nh n1 (zF6 (dstsOf vos)) (vos.map (yV9 bs (zF6 (dstsOf vos)) vos)) tail
    | none=>none
  | none=>none
def yXw (ops:Array Oper)(bs:List Nat)(nh:Nat):Option Nat→Option VCode
  | none=>zYg P ops bs nh nh (zWj P ops none (List.range nh))
  | some w=>zYg P ops bs nh ((List.range nh).filter fun i=>(bs.getD w 0).testBit i).length (zWj P ops (some w) (((List.range nh).filter fun i=>(bs.getD w 0).testBit i)++w::(List.range nh).filter fun i=>i != w&&!(bs.getD w 0).testBit i))
def zGy (ops:Array Oper)(bs:List Nat):Nat:=((List.range (ops.size+1)).find? fun i=>(List.range ops.size).all fun t=>decide (t<i)||bs.getD t 0==2 ^ t-1).getD ops.size
def yG4 (ops:Array Oper)(nh:Nat):Option Nat:=(List.range nh).find? fun i=>match ops[i]? with | some o=>ySj ops o | none=>false
def yJd (ops:Array Oper):Option VCode:=yXw P ops (zGd ops) (zGy ops (zGd ops)) (yG4 ops (zGy ops (zGd ops)))
def yOr (ops:Array Oper) (nh:Nat):List Fl:=(List.range nh).filterMap fun j=>match ops[j]? with
  | some o=>match o.op with
    | .store ty (.tmp t) _=>match P.info? ty with
      | some ti=>some ⟨t,ti.size,j,(List.range nh).find? fun i=>match ops[i]? with
        | some o'=>o'.dst==some t
        | none=>false⟩
      | none=>none
    | _=>none
  | none=>none
def zU1 (ops:Array Oper) (fl:List Fl):List Nat→Option (List (Nat×VO))
  | []=>some []
  | i::is=>match cVB P ops fl i,zU1 ops fl is with
    | some v,some vs=>some ((i,v)::vs)
    | _,_=>none
def yO0 (ops:Array Oper)(bs:List Nat)(nh:Nat)(fl:List Fl)(start:List Bool)(H:List DOp)(tail:List VO):Option VCode :=
  if (P.follows .mixedOrders&&drawB ops H start nh&&H.all (fun o=>o.vo.op.framed)&&ySu bs nh fl)=true then some (.drawB (yVt fl) (yWz fl) start (zRd H) H tail) else none
def yOz (ops:Array Oper) (bs:List Nat) (nh:Nat) (fl:List Fl):Option (List (Nat×VO))→Option VCode
  | some vos=>match zR0 P ops (ops.toList.drop nh) with
    | some tail=>yO0 P ops bs nh fl (zF6 (dstsOf vos)) (vos.map (yV9 bs (zF6 (dstsOf vos)) vos)) tail
    | none=>none
  | none=>none
def yO1 (ops:Array Oper)(bs:List Nat)(nh:Nat)(fl:List Fl):Option VCode:=yOz P ops bs nh fl (zU1 P ops fl (List.range nh))
def yNq (ops:Array Oper):Option VCode:=match yJd P ops with
  | some l=>some l
  | none=>match yO1 P ops (zGd ops) (zGy ops (zGd ops)) (yOr P ops (zGy ops (zGd ops))) with
    | some l=>some l
    | none=>yCc P ops (zGy ops (zGd ops))
def yTw (ops:Array Oper)(M:List Nat)(nh:Nat):Option VCode:=zYg P ops (zGd ops) nh nh (zWj P ops none (M++(List.range nh).filter fun i=>!M.contains i))
def yOy (ops:Array Oper):Option VCode:=if Region.noSelect ops=true then yTw P (ahead (moves ops) ops) (moves ops) (zGy (ahead (moves ops) ops) (zGd (ahead (moves ops) ops))) else none
def zUz (pm pt:Bool)(ops:Array Oper):Option VCode:=if pm=true then (if pt=true then zZy P ops (zGy ops (zGd ops)) else yOy P ops) else if pt=true then (match yCc P ops (zGy ops (zGd ops)) with
  | some l=>some l
  | none=>yNq P ops) else yNq P ops
variable (pt:Nat)
def zAj:Code→List (List Bool)→Option (VCode×List (List Bool))
  | .skip,ms=>some (.skip,ms)
  | .region _ ops false,ms=>match zR0 P ops ops.toList with
    | some l=>some (.ops l,ms)
    | none=>none
  | .region id ops true,ms=>match zUz P (pt.testBit (2*id+1)) (pt.testBit (2*id)) ops with
    | some l=>some (l,ms)
    | none=>none
  | .seq a b,ms=>match zAj a ms with
    | some (x,ms1)=>match zAj b ms1 with
      | some (y,ms2)=>some (.seq x y,ms2)
      | none=>none
    | none=>none
  | .cond c a b,ms=>match zAj a ms with
    | some (x,ms1)=>match zAj b ms1 with
      | some (y,ms2)=>some (.cond c x y,ms2)
      | none=>none
    | none=>none
  | .block id c,ms=>match zAj c ms with
    | some (x,ms1)=>some (.block id x,ms1)
    | none=>none
  | .loop c,ms=>match ms with
    | m::ms=>match zAj c ms with
      | some (x,ms1)=>some (.loop m x,ms1)
      | none=>none
    | []=>none
  | .exit id,ms=>some (.exit id,ms)
  | .ret,ms=>some (.ret,ms)
  | _,_=>none
end
section
variable {P:Program} {G:World→(Nat→Prop)→Prop} {w0:Base} {I0:Nat→Prop}
theorem zU0 {ops:Array Oper} {w:Option Nat}:∀ {l:List Nat} {vos:List (Nat×VO)},zWj P ops w l=some vos→∀ v∈vos,∃ op n,ops[v.1]?=some op∧cVO P n ops op=some v.2
  | [],vos,h,v,hv=>by simp only [zWj,xAv] at h;subst h;cases hv
  | i :: l,vos,h,v,hv=>by
    simp only [zWj] at h;split at h
    · rename_i o ho;split at h
      · rename_i v' vs h1 h2;simp only [xAv] at h;subst h;rcases xBs.1 hv with rfl | hv
        · exact ⟨o,_,ho,h1⟩
        · exact zU0 h2 v hv
      · cases h
    · cases h
theorem yC0 (hcl:∀ w',w0.Below w'→GI G w' I0) {ops:Array Oper} {nh n1:Nat} {start:List Bool} {H:List DOp} {tail:List VO} {vc:VCode} (hc:yJc P ops (zGd ops) nh n1 start H tail=some vc) (hcomp:∀ o∈H,∃ op n,ops[o.idx]?=some op∧cVO P n ops op=some o.vo) (htl:zR0 P ops (ops.toList.drop nh)=some tail) {VQ:VExit→List D→Prop} {Q:Exit→Act→World→Prop} {s:List D} (hk:vc.wp (CT P G) VQ s) (hQ:∀ s a w,VQ .normal s→Rel w0 I0 s a w→Q .normal a w) {a:Act} {w:World} (h:Rel w0 I0 s a w):RegAny P ops Q a w:=by
  unfold yJc at hc;by_cases hB:(P.follows .mixedOrders&&drawB ops H start nh)=true
  · rw [if_pos hB] at hc;simp only [xA2] at hB;cases hdrop:H.drop n1 with
    | nil =>
      rw [hdrop] at hc;simp only at hc;by_cases hf:H.all (fun o=>o.vo.op.framed)=true
      · rw [if_pos hf] at hc;simp only [xAv] at hc;subst hc;exact yKr hcl hB.1 hB.2 hf hcomp htl hk hQ h
      · rw [if_neg hf] at hc;cases hc
    | cons o l2 =>
      rw [hdrop] at hc;simp only at hc;by_cases hf:((H.take n1).all (fun o=>o.vo.op.framed)&&l2.all (fun o=>o.vo.op.framed)&&(H.take n1).all (fun k=>((zGd ops).getD o.idx 0).testBit k.idx)&&o.vo.guard.isNone&&yOK o)=true
      · rw [if_pos hf] at hc;simp only [xAv] at hc;subst hc;simp only [xA2] at hf;obtain ⟨⟨⟨⟨f1,f2⟩,f3⟩,f4⟩,f5⟩:=hf;have hH:H=H.take n1++o::l2:=by rw [← hdrop,List.take_append_drop]
        refine yFw hcl hB.1 (by rw [← hH];exact hB.2) f1 f2 f3 (by simpa using f4) ?_ (by rw [← hH];exact hcomp) htl (by rw [← hH];exact hk) hQ h;intro sz bytes x y hop t ht;subst ht;unfold yOK at f5;rw [hop] at f5;exact f5
      · rw [if_neg hf] at hc;cases hc
  · rw [if_neg hB] at hc;cases hc
theorem zP3 (hcl:∀ w',w0.Below w'→GI G w' I0){ops:Array Oper}{nh n1:Nat}{w:Option Nat}{l:List Nat}{vc:VCode}(hc:zYg P ops (zGd ops) nh n1 (zWj P ops w l)=some vc){VQ:VExit→List D→Prop}{Q:Exit→Act→World→Prop}{s:List D}(hk:vc.wp (CT P G) VQ s)(hQ:∀ s a w,VQ .normal s→Rel w0 I0 s a w→Q .normal a w){a:Act}{W:World}(h:Rel w0 I0 s a W):RegAny P ops Q a W:=by
  cases hv:zWj P ops w l with
  | none=>rw [hv] at hc;cases hc
  | some vos =>
    rw [hv] at hc;simp only [zYg] at hc;cases ht:zR0 P ops (ops.toList.drop nh) with
    | none=>rw [ht] at hc;cases hc
    | some tail=>rw [ht] at hc;refine yC0 hcl hc (fun o ho=>?_) ht hk hQ h;obtain ⟨v,hv',rfl⟩:=xB1.1 ho;exact zU0 hv v hv'
theorem yC1 (hcl:∀ w',w0.Below w'→GI G w' I0){ops:Array Oper}{vc:VCode}(hc:yJd P ops=some vc){VQ:VExit→List D→Prop}{Q:Exit→Act→World→Prop}{s:List D}(hk:vc.wp (CT P G) VQ s)(hQ:∀ s a w,VQ .normal s→Rel w0 I0 s a w→Q .normal a w){a:Act}{w:World}(h:Rel w0 I0 s a w):RegAny P ops Q a w:=by
  unfold yJd at hc;cases hp:yG4 ops (zGy ops (zGd ops)) with
  | none=>rw [hp] at hc;exact zP3 hcl hc hk hQ h
  | some w=>rw [hp] at hc;exact zP3 hcl hc hk hQ h
end
section
variable {P:Program} {G:World→(Nat→Prop)→Prop} {w0:Base} {I0:Nat→Prop}
theorem zTo {ops:Array Oper}{fl:List Fl}:∀ {l:List Nat} {vos:List (Nat×VO)},zU1 P ops fl l=some vos→∀ v∈vos,cVB P ops fl v.1=some v.2
  | [],vos,h,v,hv=>by simp only [zU1,xAv] at h;subst h;cases hv
  | i :: l,vos,h,v,hv=>by
    simp only [zU1] at h;split at h
    · rename_i v' vs h1 h2;simp only [xAv] at h;subst h;rcases xBs.1 hv with rfl | hv
      · exact h1
      · exact zTo h2 v hv
    · cases h
theorem zXe (hcl:∀ w',w0.Below w'→GI G w' I0) {ops:Array Oper} {vc:VCode} (hc:yNq P ops=some vc) {VQ:VExit→List D→Prop} {Q:Exit→Act→World→Prop} {s:List D} (hk:vc.wp (CT P G) VQ s) (hQ:∀ s a w,VQ .normal s→Rel w0 I0 s a w→Q .normal a w) {a:Act} {w:World} (h:Rel w0 I0 s a w):RegAny P ops Q a w:=by
  unfold yNq at hc;split at hc
  · rename_i l hl;simp only [xAv] at hc;subst hc;exact yC1 hcl hl hk hQ h
  · split at hc
    case h_2=>exact zXb hcl hc hk hQ h
    rename_i l hl;simp only [xAv] at hc;subst hc;revert hl;unfold yO1;intro hc;revert hc;generalize yOr P ops (zGy ops (zGd ops))=fl;generalize zGy ops (zGd ops)=nh;intro hc;cases hv:zU1 P ops fl (List.range nh) with
    | none=>rw [hv] at hc;cases hc
    | some vos =>
      rw [hv] at hc;simp only [yOz] at hc;split at hc
      · rename_i tail ht;unfold yO0 at hc;split at hc
        · rename_i hB;simp only [xA2] at hB;simp only [xAv] at hc;subst hc;simp only [VCode.wp] at hk;refine yFx hcl hB.1.1.1 hB.1.1.2 hB.1.2 (fun o ho=>?_) hB.2 ht hk.1 hk.2 hQ h;obtain ⟨v,hv',rfl⟩:=xB1.1 ho;exact zTo hv v hv'
        · cases hc
      · cases hc
theorem zUe (hcl:∀ w',w0.Below w'→GI G w' I0){pm pt:Bool}{ops:Array Oper}{vc:VCode}(hc:zUz P pm pt ops=some vc){VQ:VExit→List D→Prop}{Q:Exit→Act→World→Prop}(hQn:NoX Q){s:List D}(hk:vc.wp (CT P G) VQ s)(hQ:∀ s a w,VQ .normal s→Rel w0 I0 s a w→Q .normal a w){a:Act}{w:World}(h:Rel w0 I0 s a w):RegAny P ops Q a w:=by
  unfold zUz at hc;split at hc
  · split at hc
    · exact yCy hcl hc hQn hk hQ h
    · unfold yOy at hc;split at hc
      · rename_i hs;exact yGo hs hQn (zP3 hcl hc hk hQ h)
      · cases hc
  split at hc
  · split at hc
    · rename_i l hl;simp only [xAv] at hc;subst hc;exact zXb hcl hl hk hQ h
    · exact zXe hcl hc hk hQ h
  · exact zXe hcl hc hk hQ h
theorem zIl {pt:Nat} (hcl:∀ w',w0.Below w'→GI G w' I0):∀ (c:Code) (ms ms':List (List Bool)) (vc:VCode) (VQ:VExit→List D→Prop) (Q:Exit→Act→World→Prop) (s:List D) (a:Act) (w:World),
    zAj P pt c ms=some (vc,ms')→vc.wp (CT P G) VQ s→Rel w0 I0 s a w→(∀ e s a w,VQ e s→Rel w0 I0 s a w→Q e.to a w)→c.wp P Q a w
  | .skip,ms,ms',vc,VQ,Q,s,a,w,hc,hk,h,hQ=>by simp only [zAj,xAv,xBd] at hc;obtain ⟨rfl,_⟩:=hc;exact wp_skip (hQ .normal s a w hk h)
  | .region id ops draw,ms,ms',vc,VQ,Q,s,a,w,hc,hk,h,hQ=>by
    cases draw with
    | true =>
      simp only [zAj] at hc;cases hl:zUz P (pt.testBit (2*id+1)) (pt.testBit (2*id)) ops with
      | none=>simp [hl] at hc
      | some l=>simp only [hl,xAv,xBd] at hc;obtain ⟨rfl,_⟩:=hc;exact Code.wp_mono (fun e a w h=>by obtain ⟨rfl,h⟩:=h;exact h) (zUe (Q:=fun e a w=>e=.normal∧Q .normal a w) hcl hl (fun _ _ _ h=>h.1) hk (fun s a w hk h=>⟨rfl,hQ .normal s a w hk h⟩) h).wp
    | false =>
      simp only [zAj] at hc;cases hl:zR0 P ops ops.toList with
      | none=>simp [hl] at hc
      | some l=>simp only [hl,xAv,xBd] at hc;obtain ⟨rfl,_⟩:=hc;simp only [VCode.wp] at hk;exact wp_region_list (zKe hcl ops (KK:=VQ .normal) (fun s a w hk h=>hQ .normal s a w hk h) ops.toList l s a w hl hk h)
  | .seq x y,ms,ms',vc,VQ,Q,s,a,w,hc,hk,h,hQ=>by
    simp only [zAj] at hc;cases hx:zAj P pt x ms with
    | none=>simp [hx] at hc
    | some r =>
      obtain ⟨vx,ms1⟩:=r;simp only [hx] at hc;cases hy:zAj P pt y ms1 with
      | none=>simp [hy] at hc
      | some r =>
        obtain ⟨vy,ms2⟩:=r;simp only [hy,xAv,xBd] at hc;obtain ⟨rfl,_⟩:=hc;simp only [VCode.wp] at hk;refine wp_seq (zIl hcl x ms ms1 vx _ _ s a w hx hk h ?_);intro e s' a' w' hq hr;cases e with
        | normal=>exact zIl hcl y ms1 ms2 vy VQ Q s' a' w' hy hq hr hQ
        | exit id=>exact hQ (.exit id) s' a' w' hq hr
        | ret=>exact hQ .ret s' a' w' hq hr
  | .cond c x y,ms,ms',vc,VQ,Q,s,a,w,hc,hk,h,hQ=>by
    simp only [zAj] at hc;cases hx:zAj P pt x ms with
    | none=>simp [hx] at hc
    | some r =>
      obtain ⟨vx,ms1⟩:=r;simp only [hx] at hc;cases hy:zAj P pt y ms1 with
      | none=>simp [hy] at hc
      | some r =>
        obtain ⟨vy,ms2⟩:=r;simp only [hy,xAv,xBd] at hc;obtain ⟨rfl,_⟩:=hc;simp only [VCode.wp] at hk;obtain ⟨hd,I,Fs,hR⟩:=h;have hT:=zC9 hR c;split at hk
        · rename_i t e;rw [e] at hT;refine wp_cond_split (T_v hT).1 (fun ht=>?_) (fun ht=>?_)
          · exact zIl hcl x ms ms1 vx VQ Q s a w hx (hk.1 ht) ⟨hd,I,Fs,hR⟩ hQ
          · exact zIl hcl y ms1 ms2 vy VQ Q s a w hy (hk.2 ht) ⟨hd,I,Fs,hR⟩ hQ
        · exact hk.elim
  | .block id c,ms,ms',vc,VQ,Q,s,a,w,hc,hk,h,hQ=>by
    simp only [zAj] at hc;cases hx:zAj P pt c ms with
    | none=>simp [hx] at hc
    | some r =>
      obtain ⟨vx,ms1⟩:=r;simp only [hx,xAv,xBd] at hc;obtain ⟨rfl,_⟩:=hc;simp only [VCode.wp] at hk;refine wp_block (zIl hcl c ms ms1 vx _ _ s a w hx hk h ?_);intro e s' a' w' hq hr;cases e with
      | normal=>exact hQ .normal s' a' w' hq hr
      | ret=>exact hQ .ret s' a' w' hq hr
      | exit i =>
        simp only [zQn] at hq;by_cases hi:i=id
        · rw [if_pos hi] at hq;simp only [VExit.to,Exit.inBlock,hi,if_true];exact hQ .normal s' a' w' hq hr
        · rw [if_neg hi] at hq;simp only [VExit.to,Exit.inBlock,hi,if_false];exact hQ (.exit i) s' a' w' hq hr
  | .loop c,ms,ms',vc,VQ,Q,s,a,w,hc,hk,h,hQ=>by
    simp only [zAj] at hc;cases ms with
    | nil=>simp at hc
    | cons m ms =>
      simp only at hc;cases hx:zAj P pt c ms with
      | none=>simp [hx] at hc
      | some r =>
        obtain ⟨vx,ms1⟩:=r;simp only [hx,xAv,xBd] at hc;obtain ⟨rfl,_⟩:=hc;simp only [VCode.wp] at hk;obtain ⟨J,⟨n,s1,hle,h0⟩,hround⟩:=hk;have hclr:∀ s a w,Rel w0 I0 s a w→Rel w0 I0 (clr m s) a w:=fun s a w ⟨hd,I,Fs,hR⟩=>⟨hd,I,_,hR.clr m⟩
        have hnle:∀ s s1 a w,Rel w0 I0 s a w→zFs s s1→Rel w0 I0 s1 a w:=fun s s1 a w ⟨hd,I,Fs,hR⟩ hl=>⟨hd,I,_,hR.nle hl⟩
        refine wp_loop_ghost (fun n a w=>∃ s,J n s∧Rel w0 I0 s a w) n ⟨_,h0,hnle _ _ _ _ (hclr _ _ _ h) hle⟩ ?_;rintro n a w ⟨s,hJ,hr⟩;refine zIl hcl c ms ms1 vx _ _ s a w hx (hround n s hJ) hr ?_;intro e s' a' w' hq hr';cases e with
        | normal=>obtain ⟨m',hlt,s1,hle,hJ'⟩:=hq;exact ⟨m',hlt,_,hJ',hnle _ _ _ _ (hclr _ _ _ hr') hle⟩
        | exit id=>exact hQ (.exit id) s' a' w' hq hr'
        | ret=>exact hQ .ret s' a' w' hq hr'
  | .exit id,ms,ms',vc,VQ,Q,s,a,w,hc,hk,h,hQ=>by simp only [zAj,xAv,xBd] at hc;obtain ⟨rfl,_⟩:=hc;exact wp_exit (hQ (.exit id) s a w hk h)
  | .ret,ms,ms',vc,VQ,Q,s,a,w,hc,hk,h,hQ=>by simp only [zAj,xAv,xBd] at hc;obtain ⟨rfl,_⟩:=hc;exact wp_ret (hQ .ret s a w hk h)
  | .rangeFunc _ _ _ _,_,_,_,_,_,_,_,_,hc,_,_,_=>by simp [zAj] at hc
  | .scope _,_,_,_,_,_,_,_,_,hc,_,_,_=>by simp [zAj] at hc
  | .label _,_,_,_,_,_,_,_,_,hc,_,_,_=>by simp [zAj] at hc
  | .goto _,_,_,_,_,_,_,_,_,hc,_,_,_=>by simp [zAj] at hc
  | .refuse _,_,_,_,_,_,_,_,_,hc,_,_,_=>by simp [zAj] at hc
end
end Go.V
namespace Go.V
open Go.RowKit
def yLc (tmps:Array Value):ResultVar→Sem Value
  | .tmp t=>pure (tmps.getD t undef)
  | .cell x t=>do loadVar t (← asAddr (tmps.getD x undef))
theorem zP5 (fn:Func)(tmps:Array Value):results fn tmps=(do let vs ← fn.results.mapM (yLc tmps);pure (if h:vs.size=1 then vs[0] else .tuple vs)):=by have:(fun v:ResultVar=>(match v with | .tmp t=>pure (tmps.getD t undef) | .cell a t=>do loadVar t (← asAddr (tmps.getD a undef)):Sem Value))=yLc tmps:=(by funext v;cases v<;>rfl);rw [← this];rfl
section
variable {P:Program} {G:World→(Nat→Prop)→Prop} {w0:Base} {I0:Nat→Prop} {s:List D} {a:Act} {w:World} {I:Nat→Prop} {Fs:Nat→List Nat}
theorem zXm (h:RelI w0 I0 s a.tmps w I Fs) {d:D} {u:Value} {F:List Nat} {KK:D→List D→Prop} (hok:d.okCells=true) (hT:T I w d (ρS s a.tmps w) u F) (hF:Fresh w0 w I Fs F) (hk:zDb s d KK) :
    ∃ d' s' Fs' F',KK d' s'∧RelI w0 I0 s' a.tmps w I Fs'∧T I w d' nil u F'∧Fresh w0 w I Fs' F'∧(∀ r b,b∈Fs' r→b∈Fs r)∧(∀ b,b∈F'→b∈F∨∃ r,b∈Fs r):=by
  unfold zDb at hk;split at hk
  · rename_i r;split at hk
    · rename_i tag cells hs;obtain ⟨u0,hu0,hTb⟩:=h.slot0 hs;simp only [T] at hT;obtain ⟨⟨d1,u1,t1,sz,rows,u2,b1,o1,m1,m2,m3,m4,m5,m6,m7⟩,_⟩:=hT;rw [hu0] at m2;cases m2;simp only [zA8,xAv] at m5;subst m5;have hTb':=hTb;simp only [T] at hTb;obtain ⟨b,cs,et,F',hub,_,hh,hFr,hcs⟩:=hTb;rw [hub] at m6;simp only [zBa,xAv,xBd] at m6;obtain ⟨rfl,rfl⟩:=m6;obtain ⟨hro,hk⟩:=hk;have hq:∀ x v,zOj r x=true→ρS s a.tmps w x v→ρS ((zAc (zAd r) s).set r .undef) a.tmps w x v:=fun x v hx hv=>by refine hv.forget r ?_;cases x<;>simp only [zOj] at hx<;>first | exact hx | cases hx
      have hb:b∈Fs r:=(by rw [hFr];simp);have hndr:=h.nd r;rw [hFr] at hndr;have hfr:Fresh w0 w I (upd Fs r []) F':=⟨(xB8.1 hndr).2,fun x hx=>by
        have hxr:x∈Fs r:=(by rw [hFr];simp [hx]);refine ⟨(h.own r x hxr).1,(h.own r x hxr).2.1,(h.own r x hxr).2.2,fun r' hr=>?_⟩;unfold upd at hr;split at hr
        · cases hr
        · rename_i hne;exact hne (h.disj r' r x hr hxr)⟩
      obtain ⟨cs',s2,Fs2,F2,hK,h2,hC2,hF2,hsub2,hin2,_⟩:=zOi _ (h.forget r) (Cells.turn hq cells hcs) hfr hro hk;have hnb:b∉F2:=fun hx=>by
        rcases hin2 b hx with hy | ⟨r',hy⟩
        · exact (xB8.1 hndr).1 hy
        · unfold upd at hy;split at hy
          · cases hy
          · rename_i hne;exact hne (h.disj r' r b hy hb)
      have hbn:∀ r',b∉Fs2 r':=fun r' hr=>by
        have:=hsub2 r' b hr;unfold upd at this;split at this
        · cases this
        · rename_i hne;exact hne (h.disj r' r b this hb)
      refine ⟨_,s2,Fs2,b::F2,hK,h2,?_,⟨xB8.2 ⟨hnb,hF2.1⟩,fun x hx=>?_⟩,fun r' x hx=>?_,fun x hx=>?_⟩
      · simp only [T];exact ⟨b,cs,et,F2,by rw [m7];simp,(fun _ h=>by cases h),hh,rfl,hC2⟩
      · rcases xBs.1 hx with rfl | hx
        · exact ⟨(h.own r x hb).1,(h.own r x hb).2.1,(h.own r x hb).2.2,hbn⟩
        · exact hF2.2 x hx
      · have:=hsub2 r' x hx;unfold upd at this;split at this
        · cases this
        · exact this
      · rcases xBs.1 hx with rfl | hx
        · exact .inr ⟨r,hb⟩
        · rcases hin2 x hx with hy | ⟨r',hy⟩
          · exact .inr ⟨r,by rw [hFr];simp [hy]⟩
          · unfold upd at hy;split at hy
            · cases hy
            · exact .inr ⟨r',hy⟩
    · exact hk.elim
  obtain ⟨hro,hk⟩:=hk;obtain ⟨cs',s2,Fs2,F',hK,h2,hC2,hF',hsub2,hin2,_⟩:=zOi _ h (zQh h hT hok) hF hro hk;refine ⟨_,s2,Fs2,F',hK,h2,?_,hF',hsub2,hin2⟩;by_cases hd:∃ cs,d=.agg cs
  · obtain ⟨cs,rfl⟩:=hd;simp only [T] at hT;obtain ⟨us,e,_⟩:=hT;simp only [zHk,T];refine ⟨us,e,?_⟩;rw [e] at hC2;simpa [Value.cells] using hC2
  · have hn:∀ cs,d≠.agg cs:=fun cs e=>hd ⟨cs,e⟩;obtain ⟨h1,h3⟩:=ok_one h hT hok hn;rw [h3] at hC2;have hr:zHk d cs'=cs'.headD .undef:=by cases d<;>first | rfl | exact absurd rfl (hn _)
    rw [hr];cases cs' with
    | nil=>simp only [Cells] at hC2;simp at hC2
    | cons c cs =>
      simp only [Cells] at hC2;obtain ⟨v,vs,F1,F2,e,hFe,_,ht,hc⟩:=hC2;simp only [xCo] at e;obtain ⟨rfl,rfl⟩:=e;have:=hc.len;cases cs with
      | cons x y=>simp at this
      | nil=>simp only [Cells] at hc;rw [hFe,hc.2,xBw];exact ht
theorem xAs (h : RelI w0 I0 s a.tmps w I Fs) {rv:RV} {v:ResultVar} {KK:D→List D→Prop} (hc:zRf P [v]=some [rv]) (hk:rvK s rv KK) :
    ∃ u d' s' Fs' F',(yLc a.tmps v).run P w=.ok u w∧KK d' s'∧RelI w0 I0 s' a.tmps w I Fs'∧T I w d' nil u F'∧Fresh w0 w I Fs' F'∧(∀ r b,b∈Fs' r→b∈Fs r)∧(∀ b,b∈F'→∃ r,b∈Fs r):=by
  cases v with
  | tmp t =>
    simp only [zRf,xAx,xAv,xCo,and_true] at hc;subst hc;obtain ⟨hok,hk⟩:=hk;obtain ⟨Fs1,F,h1,hT,hF,hsub⟩:=yU7 h t;obtain ⟨d',s',Fs',F',k1,k2,k3,k4,k5,k6⟩:=zXm h1 hok hT hF hk;exact ⟨_,d',s',Fs',F',rfl,k1,k2,k3,k4,fun r b hb=>hsub.1 r b (k5 r b hb),fun b hb=>by
      rcases k6 b hb with hb | ⟨r,hr⟩
      · exact hsub.2.1 b hb
      · exact ⟨r,hsub.1 r b hr⟩⟩
  | cell x t =>
    simp only [zRf] at hc;split at hc
    · rename_i d i hu hi;have key:∀ (agg:Bool) (n:Nat),rv=.c x n agg→d.isRow=agg→i.size=n→(agg=false→n=1)→∃ u d' s' Fs' F',(do loadVar t (← asAddr (a.tmps.getD x undef)):Sem Value).run P w=.ok u w∧KK d' s'∧RelI w0 I0 s' a.tmps w I Fs'∧T I w d' nil u F'∧Fresh w0 w I Fs' F'∧(∀ r b,b∈Fs' r→b∈Fs r)∧(∀ b,b∈F'→∃ r,b∈Fs r):=by
        intro agg n hrv hd hn h1;subst hrv;simp only [rvK] at hk;split at hk
        · rename_i cells hs;obtain ⟨hlen,hok2,hk⟩:=hk;obtain ⟨u,hu',hT⟩:=h.slot0 hs;simp only [T] at hT;obtain ⟨b,cs,e,F',hub,_,hh,hFe,hcs⟩:=hT;have hf:=h.forget x;have hcl:=hcs.len;have hcs':Cells I w (zAc (zAd x) cells) (ρS ((zAc (zAd x) s).set x .undef) a.tmps w) cs.toList F':=Cells.turn (fun y v hq hy=>hy.forget x hq) cells hcs;have hnd:=h.nd x;rw [hFe] at hnd;have hF':Fresh w0 w I (upd Fs x []) F':=⟨(xB8.1 hnd).2,fun b' hb'=>by
            have hbx:b'∈Fs x:=(by rw [hFe];simp [hb']);refine ⟨(h.own x b' hbx).1,(h.own x b' hbx).2.1,(h.own x b' hbx).2.2,fun r hr=>?_⟩;unfold upd at hr;split at hr
            · cases hr
            · rename_i hne;exact hne (h.disj r x b' hr hbx)⟩
          have hmk:T I w (zG6 agg (zAc (zAd x) cells)) (ρS ((zAc (zAd x) s).set x .undef) a.tmps w) (if agg then .agg cs else cs.toList.headD undef) F':=by
            cases agg with
            | true=>simp only [zG6,if_true,T];exact ⟨cs.toList,by simp,hcs'⟩
            | false =>
              have hn1:=h1 rfl;cases hp:zAc (zAd x) cells with
              | nil=>have:=zAx (zAd x) cells;rw [hp] at this;simp at this;omega
              | cons c cc =>
                rw [hp] at hcs';simp only [Cells] at hcs';obtain ⟨v,vs,F1,F2,e1,e2,_,ht,hc2⟩:=hcs';have hccl:cc=[]:=by have:=zAx (zAd x) cells;rw [hp] at this;exact xCb (by simp at this;omega)
                subst hccl;simp only [Cells] at hc2;rw [e2,hc2.2,xBw,e1];simpa [zG6] using ht
          have hrun:(do loadVar t (← asAddr (a.tmps.getD x undef)):Sem Value).run P w=.ok (if agg then .agg cs else cs.toList.headD undef) w:=by
            have hg:a.tmps.getD x undef=u:=(by simp [hu']);rw [hg,hub];have hr:w.rangeAt b 0 cs.toList:=fun j v hj=>by rw [zBh hh,xB2];simpa using hj
            have:=yBe (P:=P) hu hd (by rw [hi];simp [hn]) h1 (us:=cs.toList) (by rw [hcl,hlen]) hr;simp only [Instr.loadAt,Instr.sureAddr] at this;simp only [asAddr];cases agg<;>simpa using this
          obtain ⟨d',s',Fs',F'',k1,k2,k3,k4,k5,k6⟩:=zXm hf hok2 hmk hF' hk;have hsub:∀ r b,b∈upd Fs x [] r→b∈Fs r:=fun r b hb=>by
            unfold upd at hb;split at hb
            · cases hb
            · exact hb
          exact ⟨_,d',s',Fs',F'',hrun,k1,k2,k3,k4,fun r b hb=>hsub r b (k5 r b hb),fun b hb=>by
            rcases k6 b hb with hb | ⟨r,hr⟩
            · exact ⟨x,by rw [hFe];simp [hb]⟩
            · exact ⟨r,hsub r b hr⟩⟩
        · exact hk.elim
      split at hc
      · rename_i hd;simp only [zRf,xAx,xAv,xCo,and_true] at hc;exact key true i.size hc.symm hd rfl (fun h=>by cases h)
      · rename_i hd;split at hc
        · rename_i h1;simp only [zRf,xAx,xAv,xCo,and_true] at hc;exact key false 1 hc.symm (by simpa using hd) h1 (fun _=>rfl)
        · cases hc
    · cases hc
theorem yJa {v:ResultVar} {vs:List ResultVar} {rvs:List RV} (h:zRf P (v::vs)=some rvs):∃ rv rs,rvs=rv::rs∧zRf P [v]=some [rv]∧zRf P vs=some rs:=by
  cases v with
  | tmp t=>simp only [zRf,xC9] at h;obtain ⟨rs,h1,rfl⟩:=h;exact ⟨_,rs,rfl,by simp [zRf],h1⟩
  | cell x t =>
    simp only [zRf] at h ⊢;split at h
    · rename_i d i hu hi;split at h
      · rename_i hd;simp only [xC9] at h;obtain ⟨rs,h1,rfl⟩:=h;exact ⟨_,rs,rfl,by simp [hd],h1⟩
      · rename_i hd;split at h
        · rename_i h1;simp only [xC9] at h;obtain ⟨rs,h2,rfl⟩:=h;exact ⟨_,rs,rfl,by simp [hd,h1],h2⟩
        · cases h
    · cases h
theorem yK3:∀ (vs:List ResultVar) {s:List D} {Fs:Nat→List Nat} {rvs:List RV} {KK:List D→List D→Prop},RelI w0 I0 s a.tmps w I Fs→zRf P vs=some rvs→zXg s rvs KK →
    ∃ us ds F s2 Fs2,(vs.mapM (yLc a.tmps)).run P w=.ok us w∧us.length=vs.length∧KK ds s2∧Vals I w ds nil us F∧F.Nodup∧(∀ b,b∈F→w0.N b∧b<w.heap.size∧¬ I b)∧(∀ b,b∈F→∃ r,b∈Fs r)∧RelI w0 I0 s2 a.tmps w I Fs2∧(∀ r b,b∈Fs2 r→b∈Fs r)∧∀ b,b∈F→∀ r,b∉Fs2 r
  | [],s,Fs,rvs,KK,h,hc,hk=>by simp only [zRf,xAv] at hc;subst hc;exact ⟨[],[],[],s,Fs,by simp,rfl,hk,by simp [Vals],xC2,(fun _ h=>by cases h),(fun _ h=>by cases h),h,fun _ _ h=>h,fun _ h=>by cases h⟩
  | v :: vs,s,Fs,rvs,KK,h,hc,hk=>by
    obtain ⟨rv,rs,rfl,h1,h2⟩:=yJa hc;simp only [zXg] at hk;obtain ⟨u,d',s',Fs',F',k1,k2,k3,k4,k5,k6,k7⟩:=xAs h h1 hk;obtain ⟨us,ds,F,s2,Fs2,m1,m2,m3,m4,m5,m6,m7,m8,m9,m10⟩:=yK3 vs k3 h2 k2;refine ⟨u::us,d'::ds,F'++F,s2,Fs2,?_,by simp [m2],m3,?_,xA5.2 ⟨k5.1,m5,fun x hx y hy hxy=>?_⟩,fun b hb=>?_,fun b hb=>?_,m8,fun r b hb=>k6 r b (m9 r b hb),fun b hb r hr=>?_⟩
    · rw [List.mapM_cons,Sem.run_bind,k1,Result.andThen_ok,Sem.run_bind,m1,Result.andThen_ok,Sem.run_pure]
    · simp only [Vals];exact ⟨u,us,F',F,rfl,rfl,k4,m4⟩
    · subst hxy;obtain ⟨r,hr⟩:=m7 x hy;exact (k5.2 x hx).2.2.2 r hr
    · rcases xBf.1 hb with hb | hb
      · exact ⟨(k5.2 b hb).1,(k5.2 b hb).2.1,(k5.2 b hb).2.2.1⟩
      · exact m6 b hb
    · rcases xBf.1 hb with hb | hb
      · exact k7 b hb
      · obtain ⟨r,hr⟩:=m7 b hb;exact ⟨r,k6 r b hr⟩
    · rcases xBf.1 hb with hb | hb
      · exact (k5.2 b hb).2.2.2 r (m9 r b hr)
      · exact m10 b hb r hr
end
def yJq (rvs:List RV)(KK:List D→List D→Prop):VExit→List D→Prop
  | .normal,s=>zXg s rvs KK
  | .ret,s=>zXg s rvs KK
  | .exit _,_=>False
def leK (d:D):List D→List D→Prop:=fun ds _=>(one ds).le d
def zHy (rvs:List RV)(d:D):VExit→List D→Prop:=yJq rvs (leK d)
def yOg (i b:Nat)(cells':List D)(s:List D):Prop:=match s[i]? with
  | some (.box (some b') cs)=>b'=b∧leL (zAc (fun _=>false) cs) cells'
  | _=>False
def leX (d:D)(i b:Nat)(cells':List D):List D→List D→Prop:=fun ds s=>(one ds).le d∧yOg i b cells' s
def yOu (rvs:List RV)(d:D)(i b:Nat)(cells':List D):VExit→List D→Prop:=yJq rvs (leX d i b cells')
theorem zYh {pt:Nat} {P:Program} {G:World→(Nat→Prop)→Prop} {f:FuncId} {fn:Func} {c:Code} {ms ms':List (List Bool)} {vc:VCode} {rvs:List RV} {KK:List D→List D→Prop} {w:World} {I:Nat→Prop} {us:List Value} {X:List Nat} {s0:List D} {Fs0:Nat→List Nat} (hG:∀ w',(ioB w X).Below w'→GI G w' I) (hf:P.funcs[f]?=some fn) (hb:fn.body=some c)
    (hc:zAj P pt c ms=some (vc,ms')) (hr:zRf P fn.results.toList=some rvs) (hrel:RelI (ioB w X) I s0 (us.toArray++Array.replicate (fn.ntmps-us.toArray.size) undef) w I Fs0) (hk:vc.wp (CT P G) (yJq rvs KK) s0) :
    Calls P f us.toArray w fun e w'=>∃ v ds F s2 Fs2 I' tm,e=.returned v∧KK ds s2∧(ioB w X).Below w'∧T I' w' (one ds) nil v F∧F.Nodup∧(∀ b,b∈F→(ioB w X).N b∧b<w'.heap.size∧¬ I' b)∧RelI (ioB w X) I s2 tm w' I' Fs2∧∀ b,b∈F→∀ r,b∉Fs2 r:=by
  refine calls_of_wp hf hb ?_;refine zIl hG c ms ms' vc (yJq rvs KK) _ _ _ w hc hk ⟨rfl,I,Fs0,hrel⟩ ?_;intro e s a w' hq hr';obtain ⟨hd,I',Fs,hR⟩:=hr';have key:zXg s rvs KK→a.defers=[]∧∃ v,(results fn a.tmps).run P w'=.ok v w'∧∃ v' ds F s2 Fs2 I' tm,Ending.returned v=.returned v'∧KK ds s2∧(ioB w X).Below w'∧T I' w' (one ds) nil v' F∧F.Nodup∧(∀ b,b∈F→(ioB w X).N b∧b<w'.heap.size∧¬ I' b)∧RelI (ioB w X) I s2 tm w' I' Fs2∧∀ b,b∈F→∀ r,b∉Fs2 r:=by
    intro hq;obtain ⟨us',ds,F,s2,Fs2,m1,m2,m3,m4,m5,m6,m7,m8,m9,m10⟩:=yK3 fn.results.toList hR hr hq;have hrun:(results fn a.tmps).run P w'=.ok (if us'.length=1 then us'.headD undef else .tuple us'.toArray) w':=by
      rw [zP5,Sem.run_bind,xFd,Sem.run_map,m1];simp only [Result.andThen_ok,Sem.run_pure];by_cases h1:us'.length=1
      · rw [if_pos h1,dif_pos qA1];cases us' with
        | nil=>simp at h1
        | cons u us2=>simp
      · rw [if_neg h1,dif_neg qA1]
    have hT : T I' w' (one ds) nil (if us'.length=1 then us'.headD undef else .tuple us'.toArray) F:=by
      have hl:=m4.len;by_cases h1:us'.length=1
      · rw [if_pos h1];cases ds with
        | nil=>rw [h1] at hl;simp at hl
        | cons d1 ds =>
          cases ds with
          | nil=>simp only [Vals] at m4;obtain ⟨u,us2,F1,F2,e1,e2,ht,e3,e4⟩:=m4;subst e1;subst e2;subst e3;subst e4;simpa [one] using ht
          | cons d2 ds=>rw [h1] at hl;simp at hl
      · rw [if_neg h1];have:one ds=.tup ds:=by
          cases ds with
          | nil=>rfl
          | cons d1 ds=>cases ds with
            | nil=>exact absurd hl h1
            | cons d2 ds=>rfl
        rw [this];simp only [T];exact ⟨us',rfl,m4⟩
    exact ⟨hd,_,hrun,_,ds,F,s2,Fs2,I',a.tmps,rfl,m3,hR.below,hT,m5,m6,m8,m10⟩
  cases e with
  | normal=>exact key hq
  | ret=>exact key hq
  | exit id=>exact hq.elim
theorem zGn {w:World}{I:Nat→Prop}{args:List D}{us:List Value}{n:Nat}(hV:Vals I w args nil us []){r:Nat}{d':D}{u:Value}{ρ:D→Value→Prop}(h1:(args++List.replicate (n-args.length) D.undef)[r]?=some d')(h2:(us.toArray++Array.replicate (n-us.toArray.size) undef)[r]?=some u):T I w d' ρ u []:=by
  have hlen:=hV.len;by_cases hr:r<args.length
  · rw [xCh hr] at h1;have hu:us[r]?=some u:=by rw [xDo qAw] at h2;simpa using h2
    obtain ⟨u',A,F',B,k1,k2,k3,_⟩:=Vals.get r hV h1;rw [hu] at k1;cases k1;have hF':F'=[]:=(by have:=congrArg List.length k2;simp at this;exact xCb qAc);rw [hF'] at k3;exact k3.res (fun _ _ h=>h.elim)
  · rw [xCz qAc,xEs] at h1;split at h1
    · cases h1;simp [T]
    · cases h1
theorem zAo {pt:Nat}{P:Program}{G:World→(Nat→Prop)→Prop}{f:FuncId}{fn:Func}{c:Code}{ms ms':List (List Bool)}{vc:VCode}{rvs:List RV}{args:List D}{d:D}(hcl:yUn G)(hf:P.funcs[f]?=some fn)(hen:∀ (us:Array Value) (W:World),(callFunc f us).run P W=.ok (.enter f us) W)(hb:fn.body=some c)
    (hc:zAj P pt c ms=some (vc,ms')) (hr:zRf P fn.results.toList=some rvs) (hk:vc.wp (CT P G) (zHy rvs d) (args++List.replicate (fn.ntmps-args.length) .undef)):Contract P G f args d:=by
  refine ⟨hen,fun w I us hG hI hV=>?_⟩;have hlen:=hV.len;refine (zYh (I:=I) (X:=[]) (us:=us) (Fs0:=fun _=>[]) (fun w' hb'=>hG.keep hcl fun b hb=>hb'.block b (fun hn=>hn.elim (fun h=>absurd (hI b hb) qAc) (fun h=>by cases h))) hf hb hc hr ?_ hk).mono ?_
  · exact {
      below:=Base.Below.refl
      len:=by simp [hlen]
      slot:=fun r d' u h1 h2=>zGn hV h1 h2
      nd:=fun _=>xC2
      disj:=fun _ _ _ h=>by cases h
      own:=fun _ _ h=>by cases h
      imm:=hI
      imm0:=fun _ h=>h
      immN:=fun _ h=>.inl h }
  · rintro e w' ⟨v,ds,F,s2,Fs2,I',tm,he,hle,hbel,hT,hnd,hF,hR,_⟩;obtain ⟨F',k1,k2⟩:=T.leF _ _ hT hle;have hN:∀ x,(ioB w []).N x→w.heap.size≤x:=fun x h=>h.elim id (fun h=>by cases h);exact ⟨v,F',I',he,⟨hbel.os,hbel.tape,hbel.output,hbel.size,fun k hk=>hbel.block k (fun h=>by have:=hN k h;omega)⟩,k1,k2.nodup hnd,fun b hb=>⟨hN b (hF b (k2.subset hb)).1,(hF b (k2.subset hb)).2⟩,hR.imm0,fun b hb=>⟨(hR.immN b hb).imp_right (hN b),hR.imm b hb⟩⟩
theorem zOe {args:List D}{i r:Nat}{d:D}(h:r≠i)(n:Nat):(args.set i d++List.replicate n D.undef)[r]?=(args.set i .undef++List.replicate n D.undef)[r]?:=by
  by_cases hr:r<args.length
  · rw [xCh qBj,xCh qBj,xA9 (Ne.symm h),xA9 (Ne.symm h)]
  · rw [xCz qBj,xCz qBj];simp
theorem zE7 {pt:Nat} {P:Program} {G:World→(Nat→Prop)→Prop} {f:FuncId} {fn:Func} {c:Code} {ms ms':List (List Bool)} {vc:VCode} {rvs:List RV} {args:List D} {d:D} {i:Nat} {cells cells':List D} (hcl:yUn G) (hf:P.funcs[f]?=some fn) (hen:∀ (us:Array Value) (W:World),(callFunc f us).run P W=.ok (.enter f us) W) (hb:fn.body=some c)
    (hc:zAj P pt c ms=some (vc,ms')) (hr:zRf P fn.results.toList=some rvs) (hi:i<args.length) (hk:∀ b,vc.wp (CT P G) (yOu rvs d i b cells') (args.set i (.box (some b) cells)++List.replicate (fn.ntmps-args.length) .undef)):ContractX P G f i args cells d cells':=by
  refine ⟨hen,fun w I us b X hG hI hu hV hTb hXn hX=>?_⟩;have hlen:us.length=args.length:=by have:=hV.len;simpa using this
  refine (zYh (I:=I) (X:=X) (us:=us) (Fs0:=fun r=>if r=i then X else []) (fun w' hb'=>hG.keep hcl fun b hb=>hb'.block b (fun hn=>hn.elim (fun h=>absurd (hI b hb) qAc) (fun h=>(hX b h).2 hb))) hf hb hc hr ?_ (hk b)).mono ?_
  · exact {
      below:=Base.Below.refl
      len:=by simp [hlen]
      slot:=by
        intro r d' u h1 h2;by_cases hri:r=i
        · subst hri;rw [xCh qAp,xBq hi] at h1;cases h1;have:us[r]?=some u:=by rw [xDo qAw] at h2;simpa using h2
          rw [hu] at this;cases this;simp only [if_true];exact hTb.res (fun _ _ h=>h.elim)
        · simp only [hri,if_false];rw [zOe hri] at h1;exact zGn hV qA1 h2
      nd:=fun r=>by split;exact hXn;exact xC2
      disj:=fun r r' x h h'=>by
        split at h
        · split at h'
          · omega
          · cases h'
        · cases h
      own:=fun r x h=>by
        split at h
        · exact ⟨.inr h,(hX x h).1,(hX x h).2⟩
        · cases h
      imm:=hI
      imm0:=fun _ h=>h
      immN:=fun _ h=>.inl h }
  · rintro e w' ⟨v,ds,F,s2,Fs2,I',tm,he,⟨hle,hout⟩,hbel,hT,hnd,hF,hR,hFo⟩;obtain ⟨F',k1,k2⟩:=T.leF _ _ hT hle;unfold yOg at hout;split at hout
    · rename_i b' cs hs;obtain ⟨rfl,hlc⟩:=hout;obtain ⟨u2,hu2,hT2⟩:=hR.slot0 hs;simp only [T] at hT2;obtain ⟨b2,cs2,et,F2,hub,htg,hh,hFr,hcs⟩:=hT2;have hb2:=htg b' rfl;subst hb2;obtain ⟨F3,hc3,hs3⟩:=Cells.leF _ _ (Cells.turn (ρ':=nil) (fun x v hq _=>by cases hq) cs hcs) hlc;have hsub:∀ x,x∈b2::F3→x∈Fs2 i:=fun x hx=>by
        rw [hFr];rcases xBs.1 hx with rfl | hx
        · simp
        · exact xCc _ (hs3.subset hx)
      have hnr:=hR.nd i;rw [hFr] at hnr;refine ⟨v,F',b2::F3,I',he,hbel,k1,?_,?_,fun x hx=>?_,hR.imm0,fun x hx=>⟨?_,hR.imm x hx⟩⟩
      · simp only [T];exact ⟨b2,cs2,et,F3,rfl,fun k hk=>by cases hk;rfl,hh,rfl,hc3⟩
      · refine xA5.2 ⟨k2.nodup hnd,xB8.2 ⟨fun hb=>(xB8.1 hnr).1 (hs3.subset hb),hs3.nodup (xB8.1 hnr).2⟩,fun x hx y hy hxy=>?_⟩;subst hxy;exact hFo x (k2.subset hx) i (hsub x hy)
      · rcases xBf.1 hx with hx | hx
        · exact hF x (k2.subset hx)
        · exact hR.own i x (hsub x hx)
      · exact (hR.immN x hx)
    · exact hout.elim
/-! A function whose result is a struct whose first cell is the address of a variable. -/
end Go.V
namespace Go.V
open Go.RowKit
/-! ### Code within a round, and behind one -/
def FR (ro:Option Nat):Fence:={ Fence.wide with round:=ro }
def zU7 (ds:List Deferred)(a:Act):Act:={ a with defers:=a.defers++ds }
theorem yIv {ds:List Deferred}{a:Act}:(zU7 ds a).eval=a.eval:=funext fun x=>by cases x<;>rfl
theorem zIo {ds:List Deferred}{a:Act}{dst:Option Tmp}{v:Value}:(zU7 ds a).put dst v=zU7 ds (a.put dst v):=by cases dst<;>rfl
def zZa (o:Oper):Bool:=match o.op with
  | .defer _=>false
  | _=>true
theorem yLw {o:Oper}(h:zZa o=true):∀ c,o.op≠.defer c:=fun c e=>by unfold zZa at h;rw [e] at h;cases h
def yD7 (T:List Nat)(o:Oper):Bool:=match o.dst with
  | some d=>T.contains d
  | none=>true
def agr (T:List Nat)(t0 t:Array Value):Prop:=t.size=t0.size∧∀ r,r∉T→t[r]?=t0[r]?
theorem agr.refl {T:List Nat}{t:Array Value}:agr T t t:=⟨rfl,fun _ _=>rfl⟩
theorem agr.set {T:List Nat}{t0 t:Array Value}(h:agr T t0 t){d:Nat}(hd:d∈T)(v:Value):agr T t0 (t.setIfInBounds d v):=by refine ⟨by simp [h.1],fun r hr=>?_⟩;rw [xBe (by intro e;subst e;exact hr hd)];exact h.2 r hr
theorem agr.put {T:List Nat}{t0:Array Value}{a:Act}(h:agr T t0 a.tmps){o:Oper}(hd:yD7 T o=true)(v:Value):agr T t0 (a.put o.dst v).tmps:=by
  unfold yD7 at hd;cases ho:o.dst with
  | none=>exact h
  | some d=>rw [ho] at hd;simp only [List.contains_iff_mem] at hd;exact h.set hd v
theorem agr.trans {T:List Nat}{t0 t1 t2:Array Value}(h:agr T t0 t1)(k:agr T t1 t2):agr T t0 t2:=⟨k.1.trans h.1,fun r hr=>(k.2 r hr).trans (h.2 r hr)⟩
section
variable {P:Program} {ro:Option Nat} {n:Nat} {ds:List Deferred} {Q Q':Exit→Act→World→Prop}
theorem NoX.lets (h:NoX Q):¬ LetsOut Q:=fun ⟨a,w,q⟩=>by have:=h _ _ _ q;cases this
theorem yPc {o:Oper}{a:Act}{next next':Act→World→Prop}(hQ:NoX Q)(hn:∀ ds' v w',next ({ a with defers:=ds' }.put o.dst v) w'→next' (zU7 ds ({ a with defers:=ds' }.put o.dst v)) w') :
    ∀ {r:Result Next},o.upon P a next Q r→o.uponIn (FR ro) n P (zU7 ds a) next' Q' r
  | .ok (.value v) w',h=>by have:=hn a.defers v w' h;rw [Oper.uponIn_value,zIo];exact this
  | .ok .skip w',h=>by have:=hn a.defers undef w' h;rw [Oper.uponIn_skip,zIo];exact this
  | .ok (.defer d) w',h=>by have:=hn (d::a.defers) undef w' h;rw [Oper.uponIn_defer];rw [← zIo] at this;exact this
  | .ok (.enter f args) w',h=>by
    rw [Oper.uponIn_enter];rw [Oper.upon_enter] at h;refine ⟨fun h=>absurd h (by simp [FR,Fence.wide]),?_⟩;have h2:CallsIn Fence.wide (n-1) P f args w' (fun
      | .returned v,w''=>next' ((zU7 ds a).put o.dst v) w''
      | .panicked chain,w''=>Q' (.panic chain) (zU7 ds a) w''
      | .outgrown,_=>LetsOut Q'):=by
      refine callsIn_wide.2 (Calls.mono h ?_);intro e w'' he;cases e with
      | returned v=>have:=hn a.defers v w'' he;simp only;rw [zIo];exact this
      | panicked chain=>have:=hQ _ _ _ he;cases this
      | outgrown=>exact (hQ.lets he).elim
    exact h2
  | .ok (.row row args) w',h=>by
    rw [Oper.uponIn_row];rw [Oper.upon_row] at h;refine ⟨fun h=>absurd h (by simp [FR,Fence.wide]),?_⟩;intro c cs _;obtain ⟨v,w'',hr,hs⟩:=h c cs;refine ⟨v,w'',?_,?_⟩
    · have:=hn a.defers v w'' hr;simp only;rw [zIo];exact this
    · exact stepsIn_wide.2 hs
  | .ok (.round _ _ _ _ _) _,h=>False.elim h
  | .ok (.spawn _) _,h=>False.elim h
  | .ok (.comm _ _ _) _,h=>False.elim h
  | .halt (.panic v) w',h=>by rw [Oper.upon_panic] at h;have:=hQ _ _ _ h;cases this
  | .halt x w',h=>by cases x<;>first | exact False.elim h | (rw [Oper.upon_panic] at h;have:=hQ _ _ _ h;cases this)
theorem yG9 {o:Oper}{a:Act}{w:World}{next next':Act→World→Prop}(hQ:NoX Q)(hd:zZa o=true)(hn:∀ ds' v w',next ({ a with defers:=ds' }.put o.dst v) w'→next' (zU7 ds ({ a with defers:=ds' }.put o.dst v)) w')(h:o.wp P a w next Q):o.wpIn (FR ro) n P (zU7 ds a) w next' Q':=by refine ⟨fun _ _=>trivial,?_⟩;rw [Oper.semAt_eq _ _ _ (yLw hd),yIv];exact yPc hQ hn h
theorem zZg {ops:Array Oper}{T:List Nat}{t0:Array Value}(hQ:NoX Q)(hq:∀ a' w',Q .normal a' w'→agr T t0 a'.tmps→Q' .normal (zU7 ds a') w'):∀ (l:List Oper) (a:Act) (w:World),(∀ o,o∈l→zZa o=true∧yD7 T o=true)→agr T t0 a.tmps→wpList P ops Q l a w→wpListIn (FR ro) n P ops Q' l (zU7 ds a) w
  | [],a,w,_,ha,h=>hq a w h ha
  | o :: l,a,w,hl,ha,h=>by
    unfold wpListIn;unfold wpList at h;have hy:yielded ops (zU7 ds a).tmps=yielded ops a.tmps:=rfl;rw [hy];split at h
    · rename_i hw;rw [if_pos hw];rcases h with h | ⟨_,h⟩
      · refine yG9 hQ (hl o qAh).1 (fun ds' v w' hk=>?_) h;exact zZg hQ hq l _ w' (fun o' ho'=>hl o' (by simp [ho'])) (agr.put (a:={ a with defers:=ds' }) ha (hl o qAh).2 v) hk
      · exact (hQ.lets h).elim
    · rename_i hw;rw [if_neg hw];refine ⟨fun _ _=>trivial,?_⟩;rw [zIo];exact zZg hQ hq l _ w (fun o' ho'=>hl o' (by simp [ho'])) (ha.put (hl o qAh).2 _) h
theorem yCh {md:Region.Mode} {ops:Array Oper} {T:List Nat} {t0:Array Value} (hQ:NoX Q) (hq:∀ a' w',Q .normal a' w'→agr T t0 a'.tmps→Q' .normal (zU7 ds a') w') (hl:∀ o,o∈ops→zZa o=true∧yD7 T o=true):∀ (fuel:Nat) (listed:Array Bool) (a:Act) (w:World),agr T t0 a.tmps→wpAny P md ops Q fuel listed a w→wpAnyIn (FR ro) n P md ops Q' fuel listed (zU7 ds a) w
  | 0,listed,a,w,ha,h=>⟨h.1,hq a w h.2 ha⟩
  | fuel+1,listed,a,w,ha,h=>by
    refine ⟨fun hr=>hq a w (h.1 hr) ha,fun i hi=>?_⟩;have h2:=h.2 i hi;unfold wpOpIn;unfold wpOp at h2;split
    · rename_i ho;simp only [ho] at h2;exact yCh hQ hq hl fuel _ a w ha h2
    · rename_i o ho;simp only [ho] at h2;have hm:o∈ops:=Array.mem_of_getElem? ho;have hy:yielded ops (zU7 ds a).tmps=yielded ops a.tmps:=rfl;rw [hy];split at h2
      · rename_i hw;rw [if_pos hw];rcases h2 with h2 | ⟨_,h2⟩
        · refine yG9 hQ (hl o hm).1 (fun ds' v w' hk=>?_) h2;exact yCh hQ hq hl fuel _ _ w' (agr.put (a:={ a with defers:=ds' }) ha (hl o hm).2 v) hk
        · exact (hQ.lets h2).elim
      · rename_i hw;rw [if_neg hw];refine ⟨fun _ _=>trivial,?_⟩;rw [zIo];exact yCh hQ hq hl fuel _ _ w (ha.put (hl o hm).2 _) h2
end
end Go.V
namespace Go.V
open Go.RowKit
/-! ### States beside blocks that are nobody's -/
theorem RelI.other {w0:Base}{I0:Nat→Prop}{s:List D}{tm:Array Value}{w w':World}{I:Nat→Prop}{Fs:Nat→List Nat}(h:RelI w0 I0 s tm w I Fs)(hbel:w0.Below w')(hsz:w.heap.size≤w'.heap.size)(hk:∀ b,(I b∨∃ r,b∈Fs r)→w'.heap[b]?=w.heap[b]?):RelI w0 I0 s tm w' I Fs where
  below:=hbel
  len:=h.len
  slot:=by
    intro r d u h1 h2;refine (T.keep d (h.slot r d u h1 h2) (fun b hb'=>hk b (hb'.imp_right fun hb'=>⟨r,hb'⟩))).res (fun x v hx=>?_);cases x with
    | ref r' p=>obtain ⟨d',u0,t1,k1,k2,k3,ho,k4⟩:=hx;exact ⟨d',u0,t1,k1,k2,k3,ho,by rw [zBx p d' (h.slot r' d' u0 k1 k2) k3 (fun b hb'=>hk b (.inr ⟨r',hb'⟩))];exact k4⟩
    | ptr r' p i j=>obtain ⟨d',u0,t',sz,rows,u1,b,o,k1,k2,k3,k4,k5,k6⟩:=hx;exact ⟨d',u0,t',sz,rows,u1,b,o,k1,k2,k3,k4,by rw [zBx p d' (h.slot r' d' u0 k1 k2) k3 (fun b hb'=>hk b (.inr ⟨r',hb'⟩))];exact k5,k6⟩
    | sub r' p i n=>obtain ⟨d',u0,t',sz,rows,u1,b,o,cc,k1,k2,k3,k4,k5,k6⟩:=hx;exact ⟨d',u0,t',sz,rows,u1,b,o,cc,k1,k2,k3,k4,by rw [zBx p d' (h.slot r' d' u0 k1 k2) k3 (fun b hb'=>hk b (.inr ⟨r',hb'⟩))];exact k5,k6⟩
    | _=>exact hx.elim
  nd:=h.nd
  disj:=h.disj
  own:=fun r b hb'=>⟨(h.own r b hb').1,xCj (h.own r b hb').2.1 hsz,(h.own r b hb').2.2⟩
  imm:=fun b hb'=>xCj (h.imm b hb') hsz
  imm0:=h.imm0
  immN:=h.immN
theorem RelI.base {w0 w1:Base}{I0 I1:Nat→Prop}{s:List D}{tm:Array Value}{w:World}{I:Nat→Prop}{Fs:Nat→List Nat}(h:RelI w0 I0 s tm w I Fs)(hbel:w1.Below w)(hN:∀ r b,b∈Fs r→w1.N b)(hI1:∀ b,I1 b→I b)(hI2:∀ b,I b→I1 b∨w1.N b):RelI w1 I1 s tm w I Fs where
  below:=hbel
  len:=h.len
  slot:=h.slot
  nd:=h.nd
  disj:=h.disj
  own:=fun r b hb'=>⟨hN r b hb',(h.own r b hb').2⟩
  imm:=h.imm
  imm0:=hI1
  immN:=hI2
theorem Base.comp {w0 w1:Base}{w':World}(h:w0.Below w1.w)(hN:∀ b,w1.N b→w0.N b)(h':w1.Below w'):w0.Below w' :=
  ⟨h'.os.trans h.os,h'.tape.trans h.tape,h'.output.trans h.output,xEc h.size h'.size,fun i hi=>(h'.block i fun hn=>hi (hN i hn)).trans (h.block i hi)⟩
theorem RelI.tmps {w0:Base} {I0:Nat→Prop} {s:List D} {tm tm':Array Value} {w:World} {I:Nat→Prop} {Fs:Nat→List Nat} (h:RelI w0 I0 s tm w I Fs) (hsz:tm'.size=tm.size) (hk:∀ (r:Nat) (d:D),s[r]?=some d→d=D.undef∨tm'[r]?=tm[r]?) (hF:∀ r:Nat,s[r]?=some D.undef→Fs r=[]):RelI w0 I0 s tm' w I Fs where
  below:=h.below
  len:=hsz.trans h.len
  slot := by
    have hk':∀ (r:Nat) (d:D) (u0:Value),s[r]?=some d→tm[r]?=some u0→d≠D.undef→tm'[r]?=some u0:=fun r d u0 h1 h2 hd=>by
      rcases hk r d h1 with h3 | h3
      · exact absurd h3 hd
      · rw [h3];exact h2
    intro r d u h1 h2;rcases hk r d h1 with rfl | h3
    · simp only [T];exact hF r h1
    · rw [h3] at h2;refine (h.slot r d u h1 h2).res (fun x v hx=>?_);cases x with
      | ref r' p =>
        obtain ⟨d',u0,t1,k1,k2,k3,ho,k4⟩:=hx;exact ⟨d',u0,t1,k1,hk' r' d' u0 k1 k2 (fun e=>by subst e;cases p with
          | nil=>simp only [zAf,xAv] at k3;subst k3;cases ho
          | cons y p=>obtain ⟨i,j⟩:=y;simp [zAf,D.cont] at k3),k3,ho,k4⟩
      | ptr r' p i j=>obtain ⟨d',u0,t',sz,rows,u1,b,o,k1,k2,k3,k4,k5,k6⟩:=hx;exact ⟨d',u0,t',sz,rows,u1,b,o,k1,hk' r' d' u0 k1 k2 (fun e=>by subst e;exact zDw k3 k4 rfl),k3,k4,k5,k6⟩
      | sub r' p i n=>obtain ⟨d',u0,t',sz,rows,u1,b,o,cc,k1,k2,k3,k4,k5,k6⟩:=hx;exact ⟨d',u0,t',sz,rows,u1,b,o,cc,k1,hk' r' d' u0 k1 k2 (fun e=>by subst e;exact zDw k3 k4 rfl),k3,k4,k5,k6⟩
      | _=>exact hx.elim
  nd:=h.nd
  disj:=h.disj
  own:=h.own
  imm:=h.imm
  imm0:=h.imm0
  immN:=h.immN
/-! ### The state, with marks -/
def mkD (D:Nat):Deferred:={ target:=.collected D,args:=#[] }
def xAo (w0:Base)(w:World)(I:Nat→Prop)(Fs:Nat→List Nat)(Pr:List (Nat×Obj)):Prop:=∀ p,p∈Pr→w.heap[p.1]?=some p.2∧¬ I p.1∧(∀ r,p.1∉Fs r)∧w0.N p.1
def zP9 (D:Nat):Nat×Obj:=(D,.deferred (some []))
def RelR (Pr:List (Nat×Obj))(w0:Base)(I0:Nat→Prop)(s:List D)(a:Act)(w:World):Prop :=
  ∃ (Ds:List Nat) (I:Nat→Prop) (Fs:Nat→List Nat),a.defers=Ds.map mkD∧Ds.Nodup∧RelI w0 I0 s a.tmps w I Fs∧xAo w0 w I Fs (Pr++Ds.map zP9)
theorem zGb {w:World}{b:Nat}{o:Obj}(h:w.heap[b]?=some o):b<w.heap.size:=(xBg.1 h).1
theorem yAz {w0:Base}{I0:Nat→Prop}{Pr:List (Nat×Obj)}{VQ:List D→Prop}{s:List D}{a:Act}{w:World}(h:RelR Pr w0 I0 s a w){A:Array Value→Prop}{Q':Exit→Act→World→Prop}
    (hQ:∀ s a w,VQ s→RelR Pr w0 I0 s a w→A a.tmps→Q' .normal a w) :
    ∃ (wr:Base) (a0:Act) (ds:List Deferred),(∀ w',wr.Below w'→w0.Below w')∧a=zU7 ds a0∧a0.tmps=a.tmps∧Rel wr I0 s a0 w∧∀ a' w',(∃ s',VQ s'∧Rel wr I0 s' a' w')→A a'.tmps→Q' .normal (zU7 ds a') w':=by
  obtain ⟨Ds,I,Fs,hd,hnd,hR,hP⟩:=h;obtain ⟨wr,hwr⟩:∃ wr:Base,wr=⟨w,fun b=>(∃ r,b∈Fs r)∨(I b∧¬ I0 b)∨w.heap.size≤b,fun _ h=>.inr (.inr h)⟩:=⟨_,rfl⟩
  have hN:∀ b,wr.N b→w0.N b:=by
    intro b hb;rw [hwr] at hb;rcases hb with ⟨r,hb⟩ | ⟨hb,hn⟩ | hb
    · exact (hR.own r b hb).1
    · exact (hR.immN b hb).resolve_left hn
    · exact Base.N_of hR.below hb
  have hw:wr.w=w:=(by rw [hwr]);have hcomp:∀ w',wr.Below w'→w0.Below w':=fun w' h'=>Base.comp (by rw [hw];exact hR.below) hN h';have hRr:RelI wr I0 s a.tmps w I Fs:=hR.base (by rw [hwr];exact Base.Below.refl) (fun r b hb=>by rw [hwr];exact .inl ⟨r,hb⟩) hR.imm0 (fun b hb=>by
    by_cases h0:I0 b
    · exact .inl h0
    · rw [hwr];exact .inr (.inr (.inl ⟨hb,h0⟩)))
  refine ⟨wr,{ a with defers:=[] },a.defers,hcomp,by cases a;rfl,rfl,⟨rfl,I,Fs,hRr⟩,?_⟩;rintro a' w' ⟨s',hVQ,hd',I',Fs',hR'⟩ hag;refine hQ s' (zU7 a.defers a') w' hVQ ⟨Ds,I',Fs',by simp [zU7,hd',hd],hnd,?_,?_⟩ hag
  · refine hR'.base (hcomp w' hR'.below) (fun r b hb=>hN b (hR'.own r b hb).1) hR'.imm0 (fun b hb=>(hR'.immN b hb).imp_right (hN b))
  · intro p hp;obtain ⟨h1,h2,h3,h4⟩:=hP p hp;have hnn:¬ wr.N p.1:=by
      rw [hwr];rintro (⟨r,hr⟩ | ⟨hi,_⟩ | hs)
      · exact h3 r hr
      · exact h2 hi
      · exact absurd (zGb h1) qAc
    refine ⟨?_,fun hi=>?_,fun r hr=>hnn (hR'.own r _ hr).1,h4⟩
    · have:=hR'.below.block p.1 hnn;rw [hw] at this;rw [this];exact h1
    · rcases hR'.immN _ hi with h0 | h0
      · exact h2 (hR.imm0 _ h0)
      · exact hnn h0
end Go.V
namespace Go.V
open Go.RowKit
def zCv:Code→List Nat
  | .region _ ops _=>ops.toList.filterMap (·.dst)
  | .seq a b=>zCv a++zCv b
  | .cond _ a b=>zCv a++zCv b
  | .block _ c=>zCv c
  | .loop c=>zCv c
  | _=>[]
def okR (T:List Nat):Code→Bool
  | .skip=>true
  | .region _ ops _=>ops.toList.all fun o=>zZa o&&yD7 T o
  | .seq a b=>okR T a&&okR T b
  | .cond _ a b=>okR T a&&okR T b
  | .block _ c=>okR T c
  | .loop c=>okR T c
  | .exit _=>true
  | .ret=>true
  | .rangeFunc _ _ _ _=>true
  | _=>false
section
variable (P:Program) (pt:Nat)
def zCa:Bool→Code→List (List Bool)→Option (VCode×List (List Bool))
  | _,.skip,ms=>some (.skip,ms)
  | _,.region _ ops false,ms=>match zR0 P ops ops.toList with
    | some l=>some (.ops l,ms)
    | none=>none
  | _,.region id ops true,ms=>match zUz P (pt.testBit (2*id+1)) (pt.testBit (2*id)) ops with
    | some l=>some (l,ms)
    | none=>none
  | r,.seq a b,ms=>match zCa r a ms with
    | some (x,ms1)=>match zCa r b ms1 with
      | some (y,ms2)=>some (.seq x y,ms2)
      | none=>none
    | none=>none
  | r,.cond c a b,ms=>match zCa r a ms with
    | some (x,ms1)=>match zCa r b ms1 with
      | some (y,ms2)=>some (.cond c x y,ms2)
      | none=>none
    | none=>none
  | r,.block id c,ms=>match zCa r c ms with
    | some (x,ms1)=>some (.block id x,ms1)
    | none=>none
  | r,.loop c,ms=>match ms with
    | m::ms=>match zCa r c ms with
      | some (x,ms1)=>some (.loop m x,ms1)
      | none=>none
    | []=>none
  | false,.rangeFunc g ps a b,ms=>if (okR (ps.toList++zCv a++zCv b) a&&okR (ps.toList++zCv a++zCv b) b)=true then (match zCa true a ms with
    | some (x,ms1)=>match zCa true b ms1 with
      | some (y,ms2)=>some (.rangeF g ps.toList (zF6 (ps.toList++zCv a++zCv b)) x y,ms2)
      | none=>none
    | none=>none) else none
  | _,.exit id,ms=>some (.exit id,ms)
  | _,.ret,ms=>some (.ret,ms)
  | _,_,_=>none
end
theorem zQv:∀ (l:List Nat) (m t:Nat),(t∈l∨t<m)→t<l.foldl (fun m t=>max m (t+1)) m
  | [],m,t,h=>h.elim (fun h=>by cases h) id
  | x :: l,m,t,h=>by
    rw [xDm];refine zQv l _ t ?_;rcases h with h | h
    · rcases xBs.1 h with rfl | h
      · exact .inr qAc
      · exact .inl h
    · exact .inr qAc
theorem yDo (l:List Nat)(r:Nat):(zF6 l).getD r false=l.contains r:=by
  unfold zF6;rw [xA3,xAy];by_cases hr:r<yU4 l
  · simp [xEt,hr]
  · have:r∉l:=fun h=>hr (zQv l 0 r (.inl h));simp [xEt,hr,this]
theorem zXo {w0:Base}{I0:Nat→Prop}{w:World}{I:Nat→Prop}:∀ (ps:List Nat) (xs:List D) (us:List Value) {s:List D} {tm:Array Value} {Fs:Nat→List Nat},RelI w0 I0 s tm w I Fs→Vals I w xs nil us []→xs.length=ps.length →
    ∃ Fs',RelI w0 I0 (zEe s ps xs) ((ps.zip us).foldl (fun t (p,v)=>t.setIfInBounds p v) tm) w I Fs'
  | [],[],us,s,tm,Fs,h,hV,_=>⟨Fs,by simpa [zEe] using h⟩
  | [],x::xs,us,s,tm,Fs,h,hV,hl=>by cases hl
  | p::ps,[],us,s,tm,Fs,h,hV,hl=>by cases hl
  | p::ps,x::xs,us,s,tm,Fs,h,hV,hl=>by
    simp only [Vals] at hV;obtain ⟨u,us',F1,F2,rfl,hF,hT,hV'⟩:=hV;have hF':=(xD2.1 hF.symm)
    rw [hF'.1] at hT;rw [hF'.2] at hV';obtain ⟨Fs1,h1⟩:=yOd (a:={ tmps:=tm,defers:=[] }) h p (hT.res (fun _ _ h=>h.elim)) Fresh.nil;obtain ⟨Fs2,h2⟩:=zXo ps xs us' h1 hV' (by simpa using hl);exact ⟨Fs2,by simpa [zEe,xEw] using h2⟩
theorem yCj {T:List Nat}:∀ (ps:List Nat) (us:List Value) {t0 tm:Array Value},(∀ p,p∈ps→p∈T)→agr T t0 tm→agr T t0 ((ps.zip us).foldl (fun t (p,v)=>t.setIfInBounds p v) tm)
  | [],us,t0,tm,_,h=>h
  | p::ps,[],t0,tm,_,h=>h
  | p::ps,u::us,t0,tm,hp,h=>by rw [xEw,xDm];exact yCj ps us (fun q hq=>hp q (by simp [hq])) (h.set (hp p qAh) u)
section
variable {P:Program} {G:World→(Nat→Prop)→Prop}
theorem RelR.back {Pr:List (Nat×Obj)}{w0:Base}{I0:Nat→Prop}{s:List D}{a:Act}{w:World}(h:RelR Pr w0 I0 s a w){T:List Nat}{t:Array Value}(ha:agr T t a.tmps):RelR Pr w0 I0 (clr (zF6 T) s) { tmps:=t,defers:=a.defers } w:=by
  obtain ⟨Ds,I,Fs,hd,hnd,hR,hP⟩:=h;have hget:∀ r d,(clr (zF6 T) s)[r]?=some d→d=.undef∨(r∉T∧∃ d',s[r]?=some d'∧d=d'.prune (zBn (zF6 T))):=by
    intro r d h1;unfold clr at h1;rw [zD6] at h1;cases hs:s[r]? with
    | none=>simp [hs] at h1
    | some d' =>
      simp only [hs,xAx,xAv] at h1;by_cases hm:(zF6 T).getD r false=true
      · rw [if_pos hm] at h1;exact .inl h1.symm
      · rw [if_neg hm] at h1;refine .inr ⟨fun hr=>hm ?_,d',rfl,h1.symm⟩;rw [yDo];simpa using hr
  have hc:=hR.clr (zF6 T);refine ⟨Ds,I,_,hd,hnd,hc.tmps ha.1.symm (fun r d h1=>?_) (fun r h1=>?_),fun p hp=>?_⟩
  · rcases hget r d h1 with h2 | ⟨hr,_⟩
    · exact .inl h2
    · exact .inr (ha.2 r hr).symm
  · show (if (zF6 T).getD r false then [] else Fs r)=[]
    split
    · rfl
    · rename_i hm;have hlt:r<a.tmps.size:=by have:=(xA4.1 h1).1;rw [hc.len];exact this
      have:=hc.slot r _ _ h1 (xBu hlt);simp only [Go.V.T,if_neg hm] at this;exact this
  · obtain ⟨h1,h2,h3,h4⟩:=hP p hp;refine ⟨h1,h2,fun r hr=>?_,h4⟩;split at hr
    · cases hr
    · exact h3 r hr
theorem RelR.nle {Pr:List (Nat×Obj)}{w0:Base}{I0:Nat→Prop}{s s1:List D}{a:Act}{w:World}(h:RelR Pr w0 I0 s a w)(hl:zFs s s1):RelR Pr w0 I0 s1 a w:=by obtain ⟨Ds,I,Fs,hd,hnd,hR,hP⟩:=h;exact ⟨Ds,I,Fs,hd,hnd,hR.nle hl,hP⟩
theorem RelR.clr {Pr:List (Nat×Obj)}{w0:Base}{I0:Nat→Prop}{s:List D}{a:Act}{w:World}(h:RelR Pr w0 I0 s a w)(m:List Bool):RelR Pr w0 I0 (clr m s) a w:=by
  obtain ⟨Ds,I,Fs,hd,hnd,hR,hP⟩:=h;refine ⟨Ds,I,_,hd,hnd,hR.clr m,fun p hp=>?_⟩;obtain ⟨h1,h2,h3,h4⟩:=hP p hp;refine ⟨h1,h2,fun r hr=>?_,h4⟩;split at hr
  · cases hr
  · exact h3 r hr
theorem RelR.putL {w0:Base}{I0:Nat→Prop}{s:List D}{a:Act}{w:World}{L:Nat}{r:Loop}{M:List (Nat×Obj)}(h:RelR ((L,.loop r)::M) w0 I0 s a w)(hM:∀ p,p∈M→p.1≠L)(r':Loop):RelR ((L,.loop r')::M) w0 I0 s a (w.putObj L (.loop r')):=by
  obtain ⟨Ds,I,Fs,hd,hnd,hR,hP⟩:=h;obtain ⟨k1,k2,k3,k4⟩:=hP (L,.loop r) qAh;have hlt:=zGb k1;refine ⟨Ds,I,Fs,hd,hnd,hR.other ?_ qAh (fun b hb=>World.putObj_heap_other (fun e=>by
    subst e;rcases hb with hb | ⟨q,hb⟩
    · exact k2 hb
    · exact k3 q hb)),fun p hp=>?_⟩
  · exact ⟨hR.below.os,hR.below.tape,hR.below.output,by simpa using hR.below.size,fun i hi=>(World.putObj_heap_other (fun e=>by subst e;exact hi k4)).trans (hR.below.block i hi)⟩
  · rw [xBi] at hp;rcases xBs.1 hp with rfl | hp
    · exact ⟨World.putObj_heap_same hlt,k2,k3,k4⟩
    · obtain ⟨h1,h2,h3,h4⟩:=hP p (by rw [xBi];exact xCc _ hp);refine ⟨(World.putObj_heap_other (fun e=>?_)).trans h1,h2,h3,h4⟩;rcases xBf.1 hp with hp | hp
      · exact hM p hp (by first | exact e | exact e.symm)
      · obtain ⟨D,_,rfl⟩:=xB1.1 hp;simp only [zP9] at e h1;subst e;rw [k1] at h1;cases h1
theorem RelR.sub {w0:Base}{I0:Nat→Prop}{s:List D}{a:Act}{w:World}{x:Nat×Obj}{M:List (Nat×Obj)}(h:RelR (x::M) w0 I0 s a w):RelR [x] w0 I0 s a w:=by
  obtain ⟨Ds,I,Fs,hd,hnd,hR,hP⟩:=h;refine ⟨Ds,I,Fs,hd,hnd,hR,fun p hp=>hP p ?_⟩;rcases xBf.1 hp with hp | hp
  · rw [xCa.1 hp];simp
  · exact xC3 _ hp
theorem RelR.grow {w0:Base}{I0:Nat→Prop}{Pr:List (Nat×Obj)}{s:List D}{a:Act}{w w':World}(h:RelR Pr w0 I0 s a w)(hb:Go.RowKit.Below w.heap.size w w'):RelR Pr w0 I0 s a w':=by obtain ⟨Ds,I,Fs,hd,hnd,hR,hP⟩:=h;refine ⟨Ds,I,Fs,hd,hnd,hR.world hb,fun p hp=>?_⟩;obtain ⟨h1,h2,h3,h4⟩:=hP p hp;exact ⟨(hb.block _ (zGb h1)).trans h1,h2,h3,h4⟩
theorem RelR.add {w0:Base}{I0:Nat→Prop}{s:List D}{a:Act}{w:World}{x:Nat×Obj}{M:List (Nat×Obj)}(h:RelR (x::M) w0 I0 s a w)(o:Obj):RelR (x::(w.heap.size,o)::M) w0 I0 s a (w.alloc o):=by
  have hb:Go.RowKit.Below w.heap.size w (w.alloc o):=(Below.refl _ w).alloc (xBj _) _;obtain ⟨Ds,I,Fs,hd,hnd,hR,hP⟩:=h;refine ⟨Ds,I,Fs,hd,hnd,hR.world hb,fun p hp=>?_⟩;have hcase:p=(w.heap.size,o)∨p∈x::M++Ds.map zP9:=by
    simp only [xBi,xBs,xBf] at hp ⊢;rcases hp with hp | hp | hp
    · exact .inr (.inl hp)
    · exact .inl hp
    · exact .inr (.inr hp)
  rcases hcase with rfl | hp
  · exact ⟨World.alloc_heap_new w o,fun hi=>by have:=hR.imm _ hi;simp only at this;omega,fun r hr=>by have:=(hR.own r _ hr).2.1;simp only at this;omega,Base.N_of hR.below (xBj _)⟩
  · obtain ⟨h1,h2,h3,h4⟩:=hP p hp;exact ⟨(hb.block _ (zGb h1)).trans h1,h2,h3,h4⟩
theorem RelR.setM {w0:Base}{I0:Nat→Prop}{s:List D}{a:Act}{w:World}{L:Nat}{oL:Obj}{M1 M2:List (Nat×Obj)}{b:Nat}{cs:Array Value}{ty:TypeId}{fz:Nat×Nat}(h:RelR ((L,oL)::(M1++(b,.cells cs ty fz)::M2)) w0 I0 s a w)(hL:b≠L)(hn:((M1++(b,Obj.cells cs ty fz)::M2).map (·.1)).Nodup)(j:Nat)(v:Value):RelR ((L,oL)::(M1++(b,.cells (cs.setIfInBounds j v) ty fz)::M2)) w0 I0 s a (w.setCell ⟨b,j,none⟩ v):=by
  obtain ⟨Ds,I,Fs,hd,hnd,hR,hP⟩:=h;obtain ⟨k1,k2,k3,k4⟩:=hP (b,.cells cs ty fz) qAh;have k1:w.heap[b]?=some (.cells cs ty fz):=k1;have hlt:=zGb k1;have hoth:∀ x,x≠b→(w.setCell ⟨b,j,none⟩ v).heap[x]?=w.heap[x]?:=fun x hx=>Below.heap_setCell _ _ _ _ hx;have hsz:(w.setCell ⟨b,j,none⟩ v).heap.size=w.heap.size:=(by simp [World.setCell]);have hsame:(w.setCell ⟨b,j,none⟩ v).heap[b]?=some (.cells (cs.setIfInBounds j v) ty fz):=(by obtain ⟨hlt',hk3⟩:=xBg.1 k1;show (w.heap.modify b _)[b]?=_;rw [xBu (by rw [xGl];exact hlt'),xFe,hk3];rfl);refine ⟨Ds,I,Fs,hd,hnd,hR.other ?_ (by rw [hsz];exact xBj _) (fun x hx=>hoth x (fun e=>by
    subst e;rcases hx with hx | ⟨q,hx⟩
    · exact k2 hx
    · exact k3 q hx)),fun p hp=>?_⟩
  · exact ⟨hR.below.os,hR.below.tape,hR.below.output,by rw [hsz];exact hR.below.size,fun i hi=>(hoth i (fun e=>by subst e;exact hi k4)).trans (hR.below.block i hi)⟩
  · have hcase:p=(b,.cells (cs.setIfInBounds j v) ty fz)∨(p∈((L,oL)::(M1++(b,Obj.cells cs ty fz)::M2))++Ds.map zP9∧p.1≠b):=by
      rw [xBo,xA6,xA5] at hn;obtain ⟨n1,n2,n3⟩:=hn;have n2':=xB8.1 n2;simp only [xBi,xBs,xBf] at hp ⊢;rcases hp with hp | (hp | hp | hp) | hp
      · exact .inr ⟨.inl hp,by rw [hp];exact fun e=>hL e.symm⟩
      · exact .inr ⟨.inr (.inl (.inl hp)),fun e=>n3 b (xB1.2 ⟨p,hp,e⟩) b qAh rfl⟩
      · exact .inl hp
      · exact .inr ⟨.inr (.inl (.inr (.inr hp))),fun e=>n2'.1 (xB1.2 ⟨p,hp,e⟩)⟩
      · refine .inr ⟨.inr (.inr hp),fun e=>?_⟩;obtain ⟨D,_,rfl⟩:=xB1.1 hp;have h1:=(hP (zP9 D) (xC3 _ hp)).1;simp only [zP9] at e h1;rw [e,k1] at h1;cases h1
    rcases hcase with rfl | ⟨hp,hne⟩
    · exact ⟨hsame,k2,k3,k4⟩
    · obtain ⟨h1,h2,h3,h4⟩:=hP p hp;exact ⟨(hoth _ hne).trans h1,h2,h3,h4⟩
theorem RelR.drop {w0:Base}{I0:Nat→Prop}{Pr:List (Nat×Obj)}{s:List D}{a:Act}{w:World}(h:RelR Pr w0 I0 s a w):RelR Pr w0 I0 s { tmps:=a.tmps,defers:=[] } w:=by obtain ⟨Ds,I,Fs,hd,hnd,hR,hP⟩:=h;exact ⟨[],I,Fs,rfl,xC2,hR,fun p hp=>hP p (xCt _ (by simpa using hp))⟩
theorem RelR.obj {w0:Base}{I0:Nat→Prop}{L:Nat}{o:Obj}{M:List (Nat×Obj)}{s:List D}{a:Act}{w:World}(h:RelR ((L,o)::M) w0 I0 s a w):w.heap[L]?=some o:=by obtain ⟨Ds,I,Fs,hd,hnd,hR,hP⟩:=h;exact (hP (L,o) qAh).1
theorem RelR.bel {w0:Base}{I0:Nat→Prop}{Pr:List (Nat×Obj)}{s:List D}{a:Act}{w:World}(h:RelR Pr w0 I0 s a w):w0.Below w:=by obtain ⟨Ds,I,Fs,hd,hnd,hR,hP⟩:=h;exact hR.below
theorem yJr (ps:Array Nat)(us:List Value)(tm:Array Value):(ps.zip us.toArray).foldl (fun t (p,v)=>t.setIfInBounds p v) tm=(ps.toList.zip us).foldl (fun t (p,v)=>t.setIfInBounds p v) tm:=by rw [← Array.foldl_toList,Array.toList_zip]
theorem zFc {pt:Nat}:∀ (c:Code) (rnd:Bool) (ro:Option Nat) (n:Nat) (w0:Base) (I0:Nat→Prop) (Pr:List (Nat×Obj)) (T:List Nat) (t0:Array Value) (ms ms':List (List Bool)) (vc:VCode) (VQ:VExit→List D→Prop) (Q:Exit→Act→World→Prop) (s:List D) (a:Act) (w:World),
    (rnd=false→ro=none)→(∀ w',w0.Below w'→GI G w' I0)→zCa P pt rnd c ms=some (vc,ms')→okR T c=true→vc.wp (CT P G) VQ s→RelR Pr w0 I0 s a w→agr T t0 a.tmps→(∀ e s a w,VQ e s→RelR Pr w0 I0 s a w→agr T t0 a.tmps→Q e.to a w)→c.wpIn (FR ro) n P Q a w
  | .skip,rnd,ro,n,w0,I0,Pr,T,t0,ms,ms',vc,VQ,Q,s,a,w,hro,hcl,hc,hT,hk,h,ha,hQ=>by simp only [zCa,xAv,xBd] at hc;obtain ⟨rfl,_⟩:=hc;exact wpIn_skip (hQ .normal s a w hk h ha)
  | .region id ops draw,rnd,ro,n,w0,I0,Pr,T,t0,ms,ms',vc,VQ,Q,s,a,w,hro,hcl,hc,hT,hk,h,ha,hQ=>by
    have hops:∀ o,o∈ops.toList→zZa o=true∧yD7 T o=true:=(by intro o ho;simp only [okR,xBx,xA2] at hT;exact hT o ho);obtain ⟨wr,a0,ds,hbel,rfl,hat,hrel,hend⟩:=yAz (VQ:=VQ .normal) (A:=agr T t0) (Q':=Q) h (fun s a w hk h ha=>hQ .normal s a w hk h ha);have hcl':∀ w',wr.Below w'→GI G w' I0:=fun w' hw'=>hcl w' (hbel w' hw');have hn:NoX (fun e a' w'=>e=Exit.normal∧∃ s',VQ .normal s'∧Rel wr I0 s' a' w'):=fun e a w h=>h.1;have ha0:agr T t0 a0.tmps:=(by rw [hat];exact ha);cases draw with
    | true =>
      simp only [zCa] at hc;cases hl:zUz P (pt.testBit (2*id+1)) (pt.testBit (2*id)) ops with
      | none=>cases rnd<;>simp [hl] at hc
      | some l =>
        have hc':l=vc:=by cases rnd<;>(simp only [hl,xAv,xBd] at hc;exact hc.1)
        subst hc';have:=zUe (Q:=fun e a' w'=>e=Exit.normal∧∃ s',VQ .normal s'∧Rel wr I0 s' a' w') hcl' hl hn hk (fun s a w hk h=>⟨rfl,s,hk,h⟩) hrel;exact wpIn_region_any this.1 (yCh (T:=T) (t0:=t0) hn (fun a' w' hq hag=>hend a' w' hq.2 hag) (fun o ho=>hops o (by simpa using ho)) _ _ a0 _ ha0 this.2)
    | false =>
      simp only [zCa] at hc;cases hl:zR0 P ops ops.toList with
      | none=>cases rnd<;>simp [hl] at hc
      | some l =>
        have hc':VCode.ops l=vc:=by cases rnd<;>(simp only [hl,xAv,xBd] at hc;exact hc.1)
        subst hc';simp only [VCode.wp] at hk;exact wpIn_region_list (zZg (T:=T) (t0:=t0) hn (fun a' w' hq hag=>hend a' w' hq.2 hag) _ a0 w hops ha0 (zKe hcl' ops (KK:=VQ .normal) (fun s a w hk h=>⟨rfl,s,hk,h⟩) ops.toList l s a0 w hl hk hrel))
  | .seq x y,rnd,ro,n,w0,I0,Pr,T,t0,ms,ms',vc,VQ,Q,s,a,w,hro,hcl,hc,hT,hk,h,ha,hQ=>by
    simp only [okR,xA2] at hT;simp only [zCa] at hc;cases hx:zCa P pt rnd x ms with
    | none=>cases rnd<;>simp [hx] at hc
    | some r =>
      obtain ⟨vx,ms1⟩:=r;cases hy:zCa P pt rnd y ms1 with
      | none=>cases rnd<;>simp [hx,hy] at hc
      | some r =>
        obtain ⟨vy,ms2⟩:=r;have hc':VCode.seq vx vy=vc:=by cases rnd<;>(simp only [hx,hy,xAv,xBd] at hc;exact hc.1)
        subst hc';simp only [VCode.wp] at hk;refine wpIn_seq (zFc x rnd ro n w0 I0 Pr T t0 ms ms1 vx _ _ s a w hro hcl hx hT.1 hk h ha ?_);intro e s' a' w' hq hr hag;cases e with
        | normal=>exact zFc y rnd ro n w0 I0 Pr T t0 ms1 ms2 vy VQ Q s' a' w' hro hcl hy hT.2 hq hr hag hQ
        | exit id=>exact hQ (.exit id) s' a' w' hq hr hag
        | ret=>exact hQ .ret s' a' w' hq hr hag
  | .cond c x y,rnd,ro,n,w0,I0,Pr,T,t0,ms,ms',vc,VQ,Q,s,a,w,hro,hcl,hc,hT,hk,h,ha,hQ=>by
    simp only [okR,xA2] at hT;simp only [zCa] at hc;cases hx:zCa P pt rnd x ms with
    | none=>cases rnd<;>simp [hx] at hc
    | some r =>
      obtain ⟨vx,ms1⟩:=r;cases hy:zCa P pt rnd y ms1 with
      | none=>cases rnd<;>simp [hx,hy] at hc
      | some r =>
        obtain ⟨vy,ms2⟩:=r;have hc':VCode.cond c vx vy=vc:=by cases rnd<;>(simp only [hx,hy,xAv,xBd] at hc;exact hc.1)
        subst hc';simp only [VCode.wp] at hk;obtain ⟨Ds,I,Fs,hd,hnd,hR,hP⟩:=h;have hTc:=zC9 hR c;split at hk
        · rename_i t e;rw [e] at hTc;refine wpIn_cond_split (T_v hTc).1 (fun ht=>?_) (fun ht=>?_)
          · exact zFc x rnd ro n w0 I0 Pr T t0 ms ms1 vx VQ Q s a w hro hcl hx hT.1 (hk.1 ht) ⟨Ds,I,Fs,hd,hnd,hR,hP⟩ ha hQ
          · exact zFc y rnd ro n w0 I0 Pr T t0 ms1 ms2 vy VQ Q s a w hro hcl hy hT.2 (hk.2 ht) ⟨Ds,I,Fs,hd,hnd,hR,hP⟩ ha hQ
        · exact hk.elim
  | .block id c,rnd,ro,n,w0,I0,Pr,T,t0,ms,ms',vc,VQ,Q,s,a,w,hro,hcl,hc,hT,hk,h,ha,hQ=>by
    simp only [okR] at hT;simp only [zCa] at hc;cases hx:zCa P pt rnd c ms with
    | none=>cases rnd<;>simp [hx] at hc
    | some r =>
      obtain ⟨vx,ms1⟩:=r;have hc':VCode.block id vx=vc:=by cases rnd<;>(simp only [hx,xAv,xBd] at hc;exact hc.1)
      subst hc';simp only [VCode.wp] at hk;refine wpIn_block (zFc c rnd ro n w0 I0 Pr T t0 ms ms1 vx _ _ s a w hro hcl hx hT hk h ha ?_);intro e s' a' w' hq hr hag;cases e with
      | normal=>exact hQ .normal s' a' w' hq hr hag
      | ret=>exact hQ .ret s' a' w' hq hr hag
      | exit i =>
        simp only [zQn] at hq;by_cases hi:i=id
        · rw [if_pos hi] at hq;simp only [VExit.to,Exit.inBlock,hi,if_true];exact hQ .normal s' a' w' hq hr hag
        · rw [if_neg hi] at hq;simp only [VExit.to,Exit.inBlock,hi,if_false];exact hQ (.exit i) s' a' w' hq hr hag
  | .loop c,rnd,ro,n,w0,I0,Pr,T,t0,ms,ms',vc,VQ,Q,s,a,w,hro,hcl,hc,hT,hk,h,ha,hQ=>by
    simp only [okR] at hT;simp only [zCa] at hc;cases ms with
    | nil=>cases rnd<;>simp at hc
    | cons m ms =>
      cases hx:zCa P pt rnd c ms with
      | none=>cases rnd<;>simp [hx] at hc
      | some r =>
        obtain ⟨vx,ms1⟩:=r;have hc':VCode.loop m vx=vc:=by cases rnd<;>(simp only [hx,xAv,xBd] at hc;exact hc.1)
        subst hc';simp only [VCode.wp] at hk;obtain ⟨J,⟨k,s1,hle,h0⟩,hround⟩:=hk;refine wpIn_loop_ghost (fun n a w=>∃ s,J n s∧RelR Pr w0 I0 s a w∧agr T t0 a.tmps) k ⟨_,h0,(h.clr m).nle hle,ha⟩ ?_;rintro k a w ⟨s,hJ,hr,hag⟩;refine zFc c rnd ro n w0 I0 Pr T t0 ms ms1 vx _ _ s a w hro hcl hx hT (hround k s hJ) hr hag ?_;intro e s' a' w' hq hr' hag';cases e with
        | normal=>obtain ⟨m',hlt,s1,hle,hJ'⟩:=hq;exact ⟨m',hlt,_,hJ',(hr'.clr m).nle hle,hag'⟩
        | exit id=>exact hQ (.exit id) s' a' w' hq hr' hag'
        | ret=>exact hQ .ret s' a' w' hq hr' hag'
  | .exit id,rnd,ro,n,w0,I0,Pr,T,t0,ms,ms',vc,VQ,Q,s,a,w,hro,hcl,hc,hT,hk,h,ha,hQ=>by
    have hc':VCode.exit id=vc:=by cases rnd<;>(simp only [zCa,xAv,xBd] at hc;exact hc.1)
    subst hc';exact wpIn_exit (hQ (.exit id) s a w hk h ha)
  | .ret,rnd,ro,n,w0,I0,Pr,T,t0,ms,ms',vc,VQ,Q,s,a,w,hro,hcl,hc,hT,hk,h,ha,hQ=>by
    have hc':VCode.ret=vc:=by cases rnd<;>(simp only [zCa,xAv,xBd] at hc;exact hc.1)
    subst hc';exact wpIn_ret (hQ .ret s a w hk h ha)
  | .rangeFunc g ps ca cb,true,ro,n,w0,I0,Pr,T,t0,ms,ms',vc,VQ,Q,s,a,w,hro,hcl,hc,hT,hk,h,ha,hQ=>by simp [zCa] at hc
  | .rangeFunc g ps ca cb,false,ro,n,w0,I0,Pr,T,t0,ms,ms',vc,VQ,Q,s,a,w,hro,hcl,hc,hT,hk,h,ha,hQ=>by
    obtain rfl:=hro rfl;simp only [zCa] at hc;split at hc
    case isFalse=>cases hc
    rename_i hok;simp only [xA2] at hok;obtain ⟨hoka,hokb⟩:=hok;cases hx:zCa P pt true ca ms with
    | none=>simp [hx] at hc
    | some r =>
    obtain ⟨va,ms1⟩:=r;cases hy:zCa P pt true cb ms1 with
    | none=>simp [hx,hy] at hc
    | some r =>
    obtain ⟨vb,ms2⟩:=r;simp only [hx,hy,xAv,xBd] at hc;obtain ⟨rfl,_⟩:=hc;simp only [VCode.wp] at hk;obtain ⟨T',hT'⟩:∃ T',T'=ps.toList++zCv ca++zCv cb:=⟨_,rfl⟩
    have hps:∀ p,p∈ps.toList→p∈T':=fun p hp=>by rw [hT'];simp [hp]
    rw [← hT'] at hoka hokb hk;clear hT';obtain ⟨Ds,I,Fs,hd,hnd,hR,hP⟩:=h
    -- what the function value keeps of its own: X; the slots without it
    obtain ⟨F,caps,us,X,sX,FsX,xs,hev,hit,hV,hXn,hXo,hRX,hXF,hsubX,hlen,J,⟨s1,hle,hJ0⟩,hround,hdone⟩:∃ (F:FuncId) (caps:List D) (us:List Value) (X:List Nat) (sX:List D) (FsX:Nat→List Nat) (xs:List (List D)),a.eval g=.func (.func F) #[] us.toArray∧yJh P G F (zAc (fun _=>false) caps) xs∧Vals I w (zAc (fun _=>false) caps) nil us X∧X.Nodup∧(∀ b,b∈X→(∃ r,b∈Fs r))∧RelI w0 I0 sX a.tmps w I FsX∧(∀ b,b∈X→∀ r,b∉FsX r)∧(∀ r b,b∈FsX r→b∈Fs r)∧(∀ x,x∈xs→x.length=ps.toList.length)∧∃ J:Nat→List D→Prop,(∃ s1,zFs (clr (zF6 T') sX) s1∧J 0 s1) ∧
        (∀ i s' x,J i s'→xs[i]?=some x→va.wp (CT P G) (zN4 (vb.wp (CT P G) (zSo (zF6 T') (J (i+1)) VQ)) (fun _ _=>False)) (zEe s' ps.toList x))∧(∀ s',J xs.length s'→VQ .normal s'):=by
      rcases hk with hk | ⟨tg,F,caps,rfl,hsg,xs,hit,hlen,J,h0,hround,hdone⟩
      · have hTg:=zC9 hR g;split at hk
        case h_2=>exact hk.elim
        rename_i F caps elk;obtain ⟨xs,hit,hlen,J,h0,hround,hdone⟩:=hk;rw [elk] at hTg;simp only [Go.V.T] at hTg;obtain ⟨us0,us,F1,F2,hev,hFF,hV0,hV⟩:=hTg;have hFF':=xD2.1 hFF.symm;rw [hFF'.2] at hV;simp only [Vals] at hV0;obtain ⟨rfl,_⟩:=hV0;exact ⟨F,caps,us,[],s,Fs,xs,hev,hit,Vals.turn (ρ':=nil) (fun x v hq _=>by cases hq) caps hV,xC2,(fun b hb=>by cases hb),hR,(fun b hb=>by cases hb),(fun _ _ h=>h),hlen,J,h0,hround,hdone⟩
      · obtain ⟨u,hu,hTg⟩:=hR.slot0 hsg;simp only [Go.V.T] at hTg;obtain ⟨us0,us,F1,F2,hev,hFF,hV0,hV⟩:=hTg;simp only [Vals] at hV0;obtain ⟨rfl,rfl⟩:=hV0;rw [xBp] at hFF;have hg:a.eval (.tmp tg)=u:=(by simp [Act.eval,hu]);refine ⟨F,caps,us,Fs tg,_,upd Fs tg [],xs,by rw [hg,hev],hit,by rw [hFF];exact Vals.turn (ρ':=nil) (fun x v hq _=>by cases hq) caps hV,hR.nd tg,fun b hb=>⟨tg,hb⟩,hR.forget tg,fun b hb r hr=>?_,fun r b hb=>?_,hlen,J,h0,hround,hdone⟩
        · unfold upd at hr;split at hr
          · cases hr
          · rename_i hne;exact hne (hR.disj r tg b hr hb)
        · unfold upd at hb;split at hb
          · cases hb
          · exact hb
    obtain ⟨hen,hit⟩:=hit;have hXo2:∀ b,b∈X→b<w.heap.size∧¬ I b:=fun b hb=>by obtain ⟨r,hr⟩:=hXo b hb;exact ⟨(hR.own r b hr).2.1,(hR.own r b hr).2.2⟩
    obtain ⟨encs,henc,hiter⟩:=hit w I us X ((hcl w hR.below).mono hR.imm0) hR.imm hV hXn hXo2;obtain ⟨M0,hM0X,hM0⟩:∃ M0:List (Nat×Obj),M0.map (·.1)=X∧∀ p,p∈M0→w.heap[p.1]?=some p.2:=by
      clear hXn hXo hXF hV hiter hit;induction X with
      | nil=>exact ⟨[],rfl,fun p hp=>by cases hp⟩
      | cons b X ih =>
        obtain ⟨M,h1,h2⟩:=ih (fun b hb=>hXo2 b qBg);have hlt:=(hXo2 b qAh).1;refine ⟨(b,w.heap[b])::M,by simp [h1],fun p hp=>?_⟩;rcases xBs.1 hp with rfl | hp
        · exact xBu hlt
        · exact h2 p hp
    refine wpIn_rangeFunc ?_;intro fn hfn;obtain ⟨rec,hrec⟩:∃ rec:LoopState→Option Code→Loop,rec=fun st pe=>{ state:=st,pending:=pe,fn,tmps:=a.tmps,params:=ps,assign:=ca,body:=cb,defers:=w.heap.size }:=⟨_,rfl⟩
    obtain ⟨W1,hW1⟩:∃ W1,(w.alloc (.deferred (some []))).alloc (.loop (rec .ready none))=W1:=⟨_,rfl⟩
    have hL1:W1.heap[w.heap.size+1]?=some (.loop (rec .ready none)):=(by rw [← hW1];have:=World.alloc_heap_new (w.alloc (.deferred (some []))) (.loop (rec .ready none));rwa [World.size_alloc] at this);have hK1:W1.heap[w.heap.size]?=some (.deferred (some [])):=(by rw [← hW1];exact (Below.heap_alloc _ _ _ qAh).trans (World.alloc_heap_new w _));have hbw:Go.RowKit.Below w.heap.size w W1:=(by rw [← hW1];exact ((Below.refl _ w).alloc (xBj _) _).alloc qAh _);have hszW:W1.heap.size=w.heap.size+2:=(by rw [← hW1];simp);have hR1:=hR.world hbw
    -- the base of the rounds
    obtain ⟨wB,hwB⟩:∃ wB:Base,wB=⟨W1,fun b=>(∃ r,b∈Fs r)∨b=w.heap.size+1∨W1.heap.size≤b,fun _ h=>.inr (.inr h)⟩:=⟨_,rfl⟩
    have hwBw:wB.w=W1:=(by rw [hwB]);have hNB:∀ b,wB.N b→w0.N b:=by
      intro b hb;rw [hwB] at hb;rcases hb with ⟨r,hb⟩ | rfl | hb
      · exact (hR.own r b hb).1
      · exact Base.N_of hR.below qAc
      · exact Base.N_of hR1.below hb
    have hcomp:∀ w',wB.Below w'→w0.Below w':=fun w' h'=>Base.comp (by rw [hwBw];exact hR1.below) hNB h';have hIN:∀ b,I b→¬ wB.N b:=by
      intro b hb hn;rw [hwB] at hn;have:=hR.imm b hb;rcases hn with ⟨r,hr⟩ | rfl | hn
      · exact (hR.own r b hr).2.2 hb
      · omega
      · omega
    have hclB:∀ w',wB.Below w'→GI G w' I:=fun w' h'=>(hcl w' (hcomp w' h')).mono hR.imm0;have hRB:RelR ((w.heap.size+1,.loop (rec .ready none))::M0) wB I s1 { tmps:=a.tmps,defers:=[] } W1:=by
      have h0:RelR ((w.heap.size+1,.loop (rec .ready none))::M0) wB I sX { tmps:=a.tmps,defers:=[] } W1:=by
       refine ⟨[],I,FsX,rfl,xC2,(hRX.world hbw).base (w1:=wB) (by rw [hwB];exact Base.Below.refl) (fun r b hb=>by rw [hwB];exact .inl ⟨r,hsubX r b hb⟩) (fun _ h=>h) (fun _ h=>.inl h),fun p hp=>?_⟩;simp only [xBl,xBw] at hp;rcases xBs.1 hp with rfl | hp
       · refine ⟨hL1,fun hi=>by have:=hR.imm _ hi;simp only at this;omega,fun r hr=>by have:=(hR.own r _ (hsubX r _ hr)).2.1;simp only at this;omega,by rw [hwB];exact .inr (.inl rfl)⟩
       · have hpX:p.1∈X:=(by rw [← hM0X];exact xFi hp);have h1:=hM0 p hp;exact ⟨(hbw.block _ (zGb h1)).trans h1,(hXo2 _ hpX).2,hXF _ hpX,by rw [hwB];exact .inl (hXo _ hpX)⟩
      exact (h0.clr _).nle hle
    -- what holds between the rounds
    have hins:=hiter (w.heap.size+1)
      (fun k M W=>((∀ p,p∈M→p.1≠w.heap.size+1)∧(M.map (·.1)).Nodup)∧∃ s',J k s'∧RelR ((w.heap.size+1,.loop (rec .ready none))::M) wB I s' { tmps:=a.tmps,defers:=[] } W)
      (fun W=>∃ (e:VExit) (s':List D) (c:Code),((e=.ret∧c=.ret)∨∃ id,e=.exit id∧c=.exit id)∧VQ e s'∧RelR [(w.heap.size+1,.loop (rec .done (some c)))] wB I s' { tmps:=a.tmps,defers:=[] } W)
      W1 M0 hbw hM0X hM0 (fun k M1 M2 b cs ty fz A j v hJ=>by
        obtain ⟨⟨hM,hn⟩,s',h1,h2⟩:=hJ;have e:(M1++(b,Obj.cells (cs.setIfInBounds j v) ty fz)::M2).map (·.1)=(M1++(b,Obj.cells cs ty fz)::M2).map (·.1):=qAh;refine ⟨⟨fun p hp=>?_,by rw [e];exact hn⟩,s',h1,h2.setM (hM (b,.cells cs ty fz) qAh) hn j v⟩;have:p.1∈(M1++(b,Obj.cells cs ty fz)::M2).map (·.1):=(by rw [← e];exact xFi hp);obtain ⟨q,hq,hqe⟩:=xB1.1 this;rw [← hqe];exact hM q hq) (fun k M A B hJ hb=>by obtain ⟨hM,s',h1,h2⟩:=hJ;exact ⟨hM,s',h1,h2.grow hb⟩) (fun k M A o hJ=>by
        obtain ⟨⟨hM,hn⟩,s',h1,h2⟩:=hJ;refine ⟨⟨fun p hp=>?_,?_⟩,s',h1,h2.add o⟩
        · rcases xBs.1 hp with rfl | hp
          · have:=zGb h2.obj;simp only;omega
          · exact hM p hp
        · rw [xA6];refine xB8.2 ⟨fun hm=>?_,hn⟩;obtain ⟨q,hq,hqe⟩:=xB1.1 hm;obtain ⟨_,_,_,_,_,_,hP2⟩:=h2;have:=zGb (hP2 q (xCt _ (xCc _ hq))).1;simp only at hqe;omega) (fun k M A p hJ hp=>by
        obtain ⟨_,s',_,_,_,_,_,_,_,hP⟩:=hJ;exact (hP p (xCt _ (xCc _ hp))).1) (fun A B hJ hb=>by obtain ⟨e,s',c,h0,h1,h2⟩:=hJ;exact ⟨e,s',c,h0,h1,h2.grow hb⟩) ?_ ⟨⟨(fun p hp=>by have hpX:p.1∈X:=by { rw [← hM0X];exact xFi hp };have:=(hXo2 _ hpX).1;omega),by rw [hM0X];exact hXn⟩,s1,hJ0,hRB⟩
    · refine ⟨w.heap.size+1,[{ target:=.collected w.heap.size,args:=#[] }],W1,{ target:=.fn (.func F) us.toArray,args:=#[.func (.yield (w.heap.size+1)) #[] #[]] },W1,F,
        #[.func (.yield (w.heap.size+1)) #[] #[]]++us.toArray,W1,?_,?_,fun _ _=>trivial,?_,fun h=>absurd h (by simp [FR,Fence.wide]),?_⟩
      · rw [← hW1,hrec];exact run_enterLoop_outer _ _ _ _ _
      · simp only [resolve,hev];simp [go_sem]
      · simp [invoke,go_sem,hen]
      · have hins2:CallsIn Fence.wide (n-1) P F (#[.func (.yield (w.heap.size+1)) #[] #[]]++us.toArray) W1 (rangePost (FR none) n P (w.heap.size+1) Q { a with defers:=[{ target:=.collected w.heap.size,args:=#[] }]++a.defers }):=by
          refine callsIn_wide.2 (Calls.mono (callsIn_wide.1 hins) ?_)
          -- behind the loop
          have behind:∀ (s':List D) (W2:World) (st:LoopState) (pe:Option Code),RelR [(w.heap.size+1,.loop (rec st pe))] wB I s' { tmps:=a.tmps,defers:=[] } W2 →
              RelR Pr w0 I0 s' { a with defers:=[{ target:=.collected w.heap.size,args:=#[] }]++a.defers } (W2.putObj (w.heap.size+1) (.loop { rec st pe with state:=.exhausted })):=by
            intro s' W2 st pe h2;obtain ⟨Ds',I',Fs',hd',hnd',hR',hP'⟩:=RelR.putL h2 (fun p hp=>by cases hp) { rec st pe with state:=.exhausted };have hold:∀ (b:Nat) (o:Obj),W1.heap[b]?=some o→¬ I b→(∀ r,b∉Fs r)→b≠w.heap.size+1→(W2.putObj (w.heap.size+1) (.loop { rec st pe with state:=.exhausted })).heap[b]?=some o∧¬ I' b∧(∀ r,b∉Fs' r):=by
              intro b o h1 h2 h3 h4;have hnn:¬ wB.N b:=by
                rw [hwB];rintro (⟨r,hr⟩ | hr | hr)
                · exact h3 r hr
                · exact h4 hr
                · have:=zGb h1;omega
              refine ⟨?_,fun hi=>?_,fun r hr=>hnn (hR'.own r _ hr).1⟩
              · have:=hR'.below.block b hnn;rw [hwBw] at this;rw [this];exact h1
              · rcases hR'.immN _ hi with h0 | h0
                · exact h2 h0
                · exact hnn h0
            have hDlt:∀ D,D∈Ds→D<w.heap.size:=fun D hD=>zGb (hP (zP9 D) (xC3 _ (xB1.2 ⟨D,hD,rfl⟩))).1;refine ⟨w.heap.size::Ds,I',Fs',by simp [hd,mkD],xB8.2 ⟨fun hm=>by have:=hDlt _ hm;omega,hnd⟩,?_,?_⟩
            · exact hR'.base (hcomp _ hR'.below) (fun r b hb=>hNB b (hR'.own r b hb).1) (fun b hb=>hR'.imm0 b (hR.imm0 b hb)) (fun b hb=>by
                rcases hR'.immN b hb with h0 | h0
                · exact hR.immN b h0
                · exact .inr (hNB b h0))
            · intro p hp;have hcase:p∈Pr++Ds.map zP9∨p=zP9 w.heap.size:=by
                rcases xBf.1 hp with hp | hp
                · exact .inl (xCt _ hp)
                · rw [xA6] at hp;rcases xBs.1 hp with rfl | hp
                  · exact .inr rfl
                  · exact .inl (xC3 _ hp)
              rcases hcase with hp | rfl
              · obtain ⟨h1,h2,h3,h4⟩:=hP p hp;have hlt:=zGb h1;obtain ⟨k1,k2,k3⟩:=hold p.1 p.2 ((hbw.block _ hlt).trans h1) h2 h3 qAc;exact ⟨k1,k2,k3,h4⟩
              · obtain ⟨k1,k2,k3⟩:=hold w.heap.size _ hK1 (fun hi=>by have:=hR.imm _ hi;omega) (fun r hr=>by have:=(hR.own r _ hr).2.1;omega) qAc;exact ⟨k1,k2,k3,Base.N_of hR.below (xBj _)⟩
          rintro e W2 ⟨⟨v,rfl⟩,(⟨M,_,s',hJ,h2⟩ | ⟨e,s',c,hec,hq,h2⟩)⟩
          · replace h2:=h2.sub
            obtain ⟨_,_,_,_,_,_,hP2⟩:=h2;have hl:=(hP2 _ (xCt _ (xCa.2 rfl))).1;exact ⟨none,_,by have:=run_endLoop (P:=P) hl (by rw [hrec];simp);rw [hrec] at this ⊢;exact this,hQ .normal s' _ _ (hdone s' hJ) (behind s' W2 .ready none ⟨_,_,_,‹_›,‹_›,‹_›,hP2⟩) ha⟩
          · obtain ⟨_,_,_,_,_,_,hP2⟩:=h2;have hl:=(hP2 _ (xCt _ (xCa.2 rfl))).1;have hb:=behind s' W2 .done (some c) ⟨_,_,_,‹_›,‹_›,‹_›,hP2⟩;refine ⟨some c,W2.putObj (w.heap.size+1) (.loop { rec .done (some c) with state:=.exhausted }),by have:=run_endLoop (P:=P) hl (by rw [hrec];simp);rw [hrec] at this ⊢;exact this,?_⟩;rcases hec with ⟨rfl,rfl⟩ | ⟨id,rfl,rfl⟩
            · exact wpIn_ret (hQ .ret s' _ _ hq hb ha)
            · exact wpIn_exit (hQ (.exit id) s' _ _ hq hb ha)
        exact hins2
    · -- one round
      rintro k M W hk ⟨hM,s',hJ,hrel⟩;obtain ⟨x,hxk⟩:∃ x,xs[k]?=some x:=⟨xs[k],xA1 hk⟩
      have hVx:=henc k x hxk;have hlx:=hlen x (xDi hxk);have hlu:(encs k).length=ps.size:=(by have:=hVx.len;rw [this,hlx];simp);obtain ⟨Ds0,I1,Fs1,hd1,hnd1,hR2,hP2⟩:=hrel;have hDs0:Ds0=[]:=by cases Ds0 with
        | nil=>rfl
        | cons D Ds0=>simp at hd1
      subst hDs0;have hl:=(hP2 _ (xCt _ xD1)).1;have hyl:=run_yield (P:=P) (args:=(encs k).toArray) hl (by rw [hrec];simp [hlu]);rw [hrec] at hyl;simp only at hyl;rw [yJr] at hyl;refine ⟨fn,_,ca,cb,hyl,roundIn_of_wpIn trivial ?_⟩;clear hyl
      -- the values of the round, at their slots
      have hVxW:Vals I W x nil (encs k) []:=Vals.keep x hVx (fun b hb=>by
        rcases hb with hb | hb
        · have:=hR2.below.block b (hIN b hb);rw [hwBw] at this;exact this.trans (hbw.block b (hR.imm b hb))
        · cases hb)
      have hrel0:RelR ((w.heap.size+1,.loop (rec .ready none))::M) wB I s' { tmps:=a.tmps,defers:=[] } W:=⟨[],I1,Fs1,rfl,hnd1,hR2,hP2⟩
      have hput:RelR ((w.heap.size+1,.loop (rec .ready none))::M) wB I (zEe s' ps.toList x) { tmps:=(ps.toList.zip (encs k)).foldl (fun t (p,v)=>t.setIfInBounds p v) a.tmps,defers:=[] } W:=(by obtain ⟨wr,a0,ds,hbel,ha0,hat,hrel1,hend⟩:=yAz (VQ:=fun s=>s=zEe s' ps.toList x) (A:=fun _=>True) (Q':=fun _ a2 w2=>RelR ((w.heap.size+1,.loop (rec .ready none))::M) wB I (zEe s' ps.toList x) a2 w2) hrel0 (fun s a w h hr _=>by rw [← h];exact hr);have hds:ds=[]:=(by have:=congrArg Act.defers ha0;simp only [zU7] at this;exact (xD2.1 this.symm).2);subst hds;obtain ⟨_,I2,Fs2,hR3⟩:=hrel1;obtain ⟨Fs3,hR4⟩:=zXo ps.toList x (encs k) hR3 (Vals.mono hR3.imm0 _ hVxW) (by simpa using hlx);rw [hat] at hR4;exact hend { tmps:=(ps.toList.zip (encs k)).foldl (fun t (p,v)=>t.setIfInBounds p v) a.tmps,defers:=[] } W ⟨_,rfl,rfl,I2,Fs3,hR4⟩ trivial);have hkeep:∀ w',wB.Below w'→yEk I W w':=fun w' h' b hb=>(h'.block b (hIN b hb)).trans (hR2.below.block b (hIN b hb)).symm;refine zFc ca true (some (w.heap.size+1)) 1 wB I _ T' a.tmps ms ms1 va _ _ _ _ W (fun h=>by cases h) hclB hx hoka (hround k s' x hJ hxk) hput (yCj ps.toList (encs k) hps agr.refl) ?_;intro e s2 a2 w2 hq hr2 hag2;cases e with
      | exit id=>exact hq.elim
      | ret=>exact hq.elim
      | normal =>
        have hl2:=hr2.obj;refine ⟨_,run_beginRound hl2 (by rw [hrec]),?_⟩;refine zFc cb true (some (w.heap.size+1)) 1 wB I _ T' a.tmps ms1 ms2 vb (zSo (zF6 T') (J (k+1)) VQ) _ s2 a2 _ (fun h=>by cases h) hclB hy hokb hq (hr2.putL hM.1 _) hag2 ?_;intro e s3 a3 w3 hq3 hr3 hag3;have hl3:=hr3.obj;cases e with
        | normal=>obtain ⟨s4,hle4,hJ4⟩:=hq3;have hfin:=(((hr3.back hag3).nle hle4).drop).putL hM.1 (rec .ready none);refine ⟨_,w3.putObj (w.heap.size+1) (.loop (rec .ready none)),by have:=run_endRound (P:=P) none hl3;rw [hrec] at this ⊢;exact this,.inl ⟨rfl,⟨hM,s4,hJ4,hfin⟩,hkeep _ hfin.bel⟩⟩
        | ret=>have hfin:=(((hr3.back hag3).drop).sub).putL (fun p hp=>by cases hp) (rec .done (some .ret));refine ⟨_,w3.putObj (w.heap.size+1) (.loop (rec .done (some .ret))),by have:=run_endRound (P:=P) (some .ret) hl3;rw [hrec] at this ⊢;exact this,.inr ⟨rfl,.ret,_,.ret,.inl ⟨rfl,rfl⟩,hq3,hfin⟩⟩
        | exit id=>have hfin:=(((hr3.back hag3).drop).sub).putL (fun p hp=>by cases hp) (rec .done (some (.exit id)));refine ⟨_,w3.putObj (w.heap.size+1) (.loop (rec .done (some (.exit id)))),by have:=run_endRound (P:=P) (some (.exit id)) hl3;rw [hrec] at this ⊢;exact this,.inr ⟨rfl,.exit id,_,.exit id,.inr ⟨id,rfl,rfl⟩,hq3,hfin⟩⟩
  | .scope _,rnd,_,_,_,_,_,_,_,_,_,_,_,_,_,_,_,_,_,hc,_,_,_,_,_=>by cases rnd<;>simp [zCa] at hc
  | .label _,rnd,_,_,_,_,_,_,_,_,_,_,_,_,_,_,_,_,_,hc,_,_,_,_,_=>by cases rnd<;>simp [zCa] at hc
  | .goto _,rnd,_,_,_,_,_,_,_,_,_,_,_,_,_,_,_,_,_,hc,_,_,_,_,_=>by cases rnd<;>simp [zCa] at hc
  | .refuse _,rnd,_,_,_,_,_,_,_,_,_,_,_,_,_,_,_,_,_,hc,_,_,_,_,_=>by cases rnd<;>simp [zCa] at hc
end
end Go.V
namespace Go.V
open Go.RowKit
section
variable {P:Program} {w0:Base} {I0:Nat→Prop} {s:List D} {a:Act} {w':World} {I':Nat→Prop} {Fs:Nat→List Nat}
theorem yZq {fn:Func} {rvs:List RV} {KK:List D→List D→Prop} (hr:zRf P fn.results.toList=some rvs) (hR:RelI w0 I0 s a.tmps w' I' Fs) (hq:zXg s rvs KK) :
    ∃ v,(results fn a.tmps).run P w'=.ok v w'∧∃ ds F s2 Fs2,KK ds s2∧T I' w' (one ds) nil v F∧F.Nodup∧(∀ b,b∈F→w0.N b∧b<w'.heap.size∧¬ I' b)∧RelI w0 I0 s2 a.tmps w' I' Fs2∧∀ b,b∈F→∀ r,b∉Fs2 r:=by
  obtain ⟨us',ds,F,s2,Fs2,m1,m2,m3,m4,m5,m6,m7,m8,m9,m10⟩:=yK3 fn.results.toList hR hr hq;have hrun:(results fn a.tmps).run P w'=.ok (if us'.length=1 then us'.headD undef else .tuple us'.toArray) w':=by
    rw [zP5,Sem.run_bind,xFd,Sem.run_map,m1];simp only [Result.andThen_ok,Sem.run_pure];by_cases h1:us'.length=1
    · rw [if_pos h1,dif_pos qA1];cases us' with
      | nil=>simp at h1
      | cons u us2=>simp
    · rw [if_neg h1,dif_neg qA1]
  have hT : T I' w' (one ds) nil (if us'.length=1 then us'.headD undef else .tuple us'.toArray) F:=by
    have hl:=m4.len;by_cases h1:us'.length=1
    · rw [if_pos h1];cases ds with
      | nil=>rw [h1] at hl;simp at hl
      | cons d1 ds =>
        cases ds with
        | nil=>simp only [Vals] at m4;obtain ⟨u,us2,F1,F2,e1,e2,ht,e3,e4⟩:=m4;subst e1;subst e2;subst e3;subst e4;simpa [one] using ht
        | cons d2 ds=>rw [h1] at hl;simp at hl
    · rw [if_neg h1];have:one ds=.tup ds:=by
        cases ds with
        | nil=>rfl
        | cons d1 ds=>cases ds with
          | nil=>exact absurd hl h1
          | cons d2 ds=>rfl
      rw [this];simp only [T];exact ⟨us',rfl,m4⟩
  exact ⟨_,hrun,ds,F,s2,Fs2,m3,hT,m5,m6,m8,m10⟩
theorem zQt {fn:Func}{tm:Array Value}{R:Ending→World→Prop}(hend:∀ w'',RelI w0 I0 s tm w'' I' Fs→∃ v,(results fn tm).run P w''=.ok v w''∧R (.returned v) w''):∀ (Ds:List Nat) (w':World),RelI w0 I0 s tm w' I' Fs→Ds.Nodup→xAo w0 w' I' Fs (Ds.map zP9)→LeavesInM Fence.wide 0 P fn tm R (Ds.map mkD) .returning w'
  | [],w',hR,_,_=>hend w' hR
  | D :: Ds,w',hR,hnd,hP=>by
    obtain ⟨k1,k2,k3,k4⟩:=hP (zP9 D) qAh;simp only [zP9] at k1 k2 k3 k4;have hlt:=zGb k1;refine ⟨by simp,.inl ⟨D,w'.putObj D (.deferred none),rfl,run_takeDeferred k1,?_⟩⟩;refine zQt hend Ds _ (hR.other ⟨hR.below.os,hR.below.tape,hR.below.output,by simpa using hR.below.size,fun i hi=>(World.putObj_heap_other (fun e=>by subst e;exact hi k4)).trans (hR.below.block i hi)⟩ qAh (fun b hb=>World.putObj_heap_other (fun e=>by
      subst e;rcases hb with hb | ⟨q,hb⟩
      · exact k2 hb
      · exact k3 q hb))) (xB8.1 hnd).2 (fun p hp=>?_)
    obtain ⟨h1,h2,h3,h4⟩:=hP p (by rw [xA6];exact xCc _ hp);refine ⟨(World.putObj_heap_other (fun e=>?_)).trans h1,h2,h3,h4⟩;obtain ⟨D',hD',rfl⟩:=xB1.1 hp;simp only [zP9] at e;subst e;exact (xB8.1 hnd).1 hD'
end
theorem yEg {pt:Nat}{P:Program}{G:World→(Nat→Prop)→Prop}{f:FuncId}{fn:Func}{c:Code}{ms ms':List (List Bool)}{vc:VCode}{rvs:List RV}{KK:List D→List D→Prop}{w:World}{I:Nat→Prop}{us:List Value}{X:List Nat}{s0:List D}{Fs0:Nat→List Nat}(hG:∀ w',(ioB w X).Below w'→GI G w' I)(hf:P.funcs[f]?=some fn)(hb:fn.body=some c)
    (hc:zCa P pt false c ms=some (vc,ms')) (hok:okR (zCv c) c=true) (hr:zRf P fn.results.toList=some rvs) (hrel:RelI (ioB w X) I s0 (us.toArray++Array.replicate (fn.ntmps-us.toArray.size) undef) w I Fs0) (hk:vc.wp (CT P G) (yJq rvs KK) s0) :
    Calls P f us.toArray w fun e w'=>∃ v ds F s2 Fs2 I' tm,e=.returned v∧KK ds s2∧(ioB w X).Below w'∧T I' w' (one ds) nil v F∧F.Nodup∧(∀ b,b∈F→(ioB w X).N b∧b<w'.heap.size∧¬ I' b)∧RelI (ioB w X) I s2 tm w' I' Fs2∧∀ b,b∈F→∀ r,b∉Fs2 r:=by
  refine (callsIn_wide (n:=0)).1 (callsIn_of_wp_marks hf hb trivial ?_ rfl);refine zFc c false none 0 (ioB w X) I [] (zCv c) _ ms ms' vc (yJq rvs KK) _ _ _ w (fun _=>rfl) hG hc hok hk ⟨[],I,Fs0,rfl,xC2,hrel,fun p hp=>by simp at hp⟩ agr.refl ?_;intro e s a w' hq hr' _;obtain ⟨Ds,I',Fs,hd,hnd,hR,hP⟩:=hr';have key:zXg s rvs KK→LeavesInM Fence.wide 0 P fn a.tmps (fun e w'=>∃ v ds F s2 Fs2 I' tm,e=.returned v∧KK ds s2∧(ioB w X).Below w'∧T I' w' (one ds) nil v F∧F.Nodup∧(∀ b,b∈F→(ioB w X).N b∧b<w'.heap.size∧¬ I' b)∧RelI (ioB w X) I s2 tm w' I' Fs2∧∀ b,b∈F→∀ r,b∉Fs2 r) a.defers .returning w':=by intro hq;rw [hd];refine zQt (w0:=ioB w X) (I0:=I) (s:=s) (I':=I') (Fs:=Fs) (fun w'' hR=>?_) Ds w' hR hnd (fun p hp=>hP p (by simpa using hp));obtain ⟨v,hrun,ds,F,s2,Fs2,m3,hT,m5,m6,m8,m10⟩:=yZq (a:=a) hr hR hq;exact ⟨v,hrun,v,ds,F,s2,Fs2,I',a.tmps,rfl,m3,hR.below,hT,m5,m6,m8,m10⟩
  cases e with
  | normal=>exact key hq
  | ret=>exact key hq
  | exit id=>exact hq.elim
theorem zQw {pt:Nat}{P:Program}{G:World→(Nat→Prop)→Prop}{f:FuncId}{fn:Func}{c:Code}{ms ms':List (List Bool)}{vc:VCode}{rvs:List RV}{args:List D}{d:D}(hcl:yUn G)(hf:P.funcs[f]?=some fn)(hen:∀ (us:Array Value) (W:World),(callFunc f us).run P W=.ok (.enter f us) W)(hb:fn.body=some c)
    (hc:zCa P pt false c ms=some (vc,ms')) (hok:okR (zCv c) c=true) (hr:zRf P fn.results.toList=some rvs) (hk:vc.wp (CT P G) (zHy rvs d) (args++List.replicate (fn.ntmps-args.length) .undef)):Contract P G f args d:=by
  refine ⟨hen,fun w I us hG hI hV=>?_⟩;have hlen:=hV.len;refine (yEg (I:=I) (X:=[]) (us:=us) (Fs0:=fun _=>[]) (fun w' hb'=>hG.keep hcl fun b hb=>hb'.block b (fun hn=>hn.elim (fun h=>absurd (hI b hb) qAc) (fun h=>by cases h))) hf hb hc hok hr ?_ hk).mono ?_
  · exact {
      below:=Base.Below.refl
      len:=by simp [hlen]
      slot:=fun r d' u h1 h2=>zGn hV h1 h2
      nd:=fun _=>xC2
      disj:=fun _ _ _ h=>by cases h
      own:=fun _ _ h=>by cases h
      imm:=hI
      imm0:=fun _ h=>h
      immN:=fun _ h=>.inl h }
  · rintro e w' ⟨v,ds,F,s2,Fs2,I',tm,he,hle,hbel,hT,hnd,hF,hR,_⟩;obtain ⟨F',k1,k2⟩:=T.leF _ _ hT hle;have hN:∀ x,(ioB w []).N x→w.heap.size≤x:=fun x h=>h.elim id (fun h=>by cases h);exact ⟨v,F',I',he,⟨hbel.os,hbel.tape,hbel.output,hbel.size,fun k hk=>hbel.block k (fun h=>by have:=hN k h;omega)⟩,k1,k2.nodup hnd,fun b hb=>⟨hN b (hF b (k2.subset hb)).1,(hF b (k2.subset hb)).2⟩,hR.imm0,fun b hb=>⟨(hR.immN b hb).imp_right (hN b),hR.imm b hb⟩⟩
end Go.V
namespace Go.V
open Go.RowKit
/-! ### The machine run by simp: every continuation is a constant applied, none a function written out -/
variable {Ctr:CtrT} {s:List D} {K:D→List D→Prop} {KK:List D→Prop} {os:List VO}
def yTp (Ctr:CtrT)(os:List VO)(KK:List D→Prop):List D→Prop:=fun s=>zLz Ctr s os KK
def yUq (dst:Option Nat)(K:List D→Prop):D→List D→Prop:=fun d s=>K (match dst with | some t=>zN2 s t d | none=>s)
def zJd (Ctr:CtrT)(dst:Option Nat)(want:Bool)(op:VOp)(d:D)(s:List D)(K:List D→Prop):Prop :=
  match d with
  | .v (.bool b)=>(b=want→zAh Ctr s op (yUq dst K))∧(b≠want→K (match dst with | some t=>zN2 s t (.v (.tuple #[])) | none=>s))
  | .v _=>K (match dst with | some t=>zN2 s t (.v (.tuple #[])) | none=>s)
  | _=>False
theorem yQ9:zLz Ctr s [] KK=KK s:=rfl
theorem yLu {dst:Option Nat}{op:VOp}:zLz Ctr s (⟨dst,none,op⟩::os) KK=zAh Ctr s op (yUq dst (yTp Ctr os KK)):=rfl
theorem yG8 {dst:Option Nat}{op:VOp}{g:Nat}{want:Bool}:zLz Ctr s (⟨dst,some (g,want),op⟩::os) KK=zJd Ctr dst want op (lkT s g) s (yTp Ctr os KK):=rfl
theorem yNc:yTp Ctr os KK s=zLz Ctr s os KK:=rfl
theorem yLh {t:Nat}{d:D}:yUq (some t) KK d s=KK (zN2 s t d):=rfl
theorem yLi {d:D}:yUq none KK d s=KK s:=rfl
theorem yMq {dst:Option Nat}{op:VOp}:zJd Ctr dst true op (.v (.bool true)) s KK=zAh Ctr s op (yUq dst KK):=by simp [zJd]
theorem yMt {dst:Option Nat}{op:VOp}:zJd Ctr dst false op (.v (.bool false)) s KK=zAh Ctr s op (yUq dst KK):=by simp [zJd]
theorem yMr {t:Nat}{op:VOp}:zJd Ctr (some t) true op (.v (.bool false)) s KK=KK (zN2 s t (.v (.tuple #[]))):=by simp [zJd]
theorem yMs {t:Nat}{op:VOp}:zJd Ctr (some t) false op (.v (.bool true)) s KK=KK (zN2 s t (.v (.tuple #[]))):=by simp [zJd]
theorem zTc {dst:Option Nat}{op:VOp}{want b:Bool}{s:List D}{KK:List D→Prop}(h1:b=true→zJd Ctr dst want op (.v (.bool true)) s KK)(h2:b=false→zJd Ctr dst want op (.v (.bool false)) s KK):zJd Ctr dst want op (.v (.bool b)) s KK:=by
  cases b
  · exact h2 rfl
  · exact h1 rfl
/-! looking -/
def lkF (t:Nat):Option D→D
  | some (.sl true _ _)=>.ref t []
  | some (.mp _ _)=>.ref t []
  | some (.box _ _)=>.ptr t [] 0 0
  | some (.fn f a c)=>if zDy a||zDy c then yV1 f a c else .fn f a c
  | some d=>if d.owny then .undef else d
  | none=>.undef
theorem yOl {t:Nat}:lk s (.tmp t)=lkF t s[t]?:=by unfold lk lkT lkF;rfl
theorem yWb {t:Nat}:lkT s t=lkF t s[t]?:=by unfold lkT lkF;rfl
theorem yMa {v:Value}:lk s (.const v)=ofV v:=rfl
section
variable {t:Nat}
theorem yR4 {sz rows}:lkF t (some (.sl false sz rows))=.sl false sz rows:=rfl
theorem yR5 {g cs}:lkF t (some (.box g cs))=.ptr t [] 0 0:=rfl
theorem yWc {k e}:lkF t (some (.mp k e))=.ref t []:=rfl
theorem yZb {v}:lkF t (some (.v v))=.v v:=rfl
theorem yR2 {r q}:lkF t (some (.ref r q))=.ref r q:=rfl
theorem yR3 {r q i j}:lkF t (some (.ptr r q i j))=.ptr r q i j:=rfl
theorem yMb {cs j}:lkF t (some (.iptr cs j))=.iptr cs j:=rfl
theorem yR6 {cs}:lkF t (some (.agg cs))=if zDy cs then .undef else .agg cs:=rfl
theorem yWd {f a b}:lkF t (some (.fn f a b))=if zDy a||zDy b then yV1 f a b else .fn f a b:=rfl
end
def yY2 (t:Nat):Option D→D
  | some (.box _ _)=>.ptr t [] 0 0
  | some d=>d
  | none=>.undef
theorem yQ2 {t:Nat}:raw s (.tmp t)=yY2 t s[t]?:=by unfold raw yY2;rfl
theorem yGs {v:Value}:raw s (.const v)=ofV v:=rfl
def tkF (t:Nat)(s:List D):Option D→D×List D
  | some (.sl true sz rows)=>(.sl true sz rows,(zAc (zAd t) s).set t .undef)
  | some (.mp k e)=>(.mp k e,(zAc (zAd t) s).set t .undef)
  | some (.box _ _)=>(.ptr t [] 0 0,s)
  | some d=>(d,if d.owny then s.set t .undef else s)
  | none=>(.undef,s)
theorem yU5 {t:Nat}:tk s (.tmp t)=tkF t s s[t]?:=by unfold tk tkT tkF;rfl
theorem yU6 {t:Nat}:tkT s t=tkF t s s[t]?:=by unfold tkT tkF;rfl
theorem yJ2 {v:Value}:tk s (.const v)=(ofV v,s):=rfl
theorem yPi {f:FuncId}:tk s (.func f)=(.fn f [] [],s):=rfl
section
variable {t:Nat}
theorem yPn {sz rows}:tkF t s (some (.sl true sz rows))=(.sl true sz rows,(zAc (zAd t) s).set t .undef):=rfl
theorem yPo {sz rows}:tkF t s (some (.sl false sz rows))=(.sl false sz rows,s):=rfl
theorem yPp {g cs}:tkF t s (some (.box g cs))=(.ptr t [] 0 0,s):=rfl
theorem yU8 {k e}:tkF t s (some (.mp k e))=(.mp k e,(zAc (zAd t) s).set t .undef):=rfl
theorem yYt {v}:tkF t s (some (.v v))=(.v v,s):=rfl
theorem yJ4:tkF t s (some .nils)=(.nils,s):=rfl
theorem yPl {r q}:tkF t s (some (.ref r q))=(.ref r q,s):=rfl
theorem yPk {r q i j}:tkF t s (some (.sub r q i j))=(.sub r q i j,s):=rfl
theorem yPm {r q i j}:tkF t s (some (.ptr r q i j))=(.ptr r q i j,s):=rfl
theorem yPq {cs}:tkF t s (some (.agg cs))=(.agg cs,if zDy cs then s.set t .undef else s):=rfl
end
theorem yPj:tkL s []=([],s):=rfl
theorem yJ3 {x:Operand}{xs:List Operand}:tkL s (x::xs)=((tk s x).1.prune (zIh (tkL (tk s x).2 xs).2)::(tkL (tk s x).2 xs).1,(tkL (tk s x).2 xs).2):=rfl
def yUr (s:List D)(t:Nat)(d:D):Option D→List D
  | some (.sl true sz rows)=>(zAc (zAd t) s).set t (yYe t sz rows d)
  | some (.mp _ _)=>(zAc (zAd t) s).set t (d.prune (zAd t))
  | some (.box _ _)=>(zAc (zAd t) s).set t (d.prune (zAd t))
  | _=>s.set t d
theorem yQ4 {t:Nat}{d:D}:zN2 s t d=yUr s t d s[t]?:=by unfold zN2 yUr;rfl
section
variable {t:Nat} {d:D}
theorem yLj {g cs}:yUr s t d (some (.box g cs))=(zAc (zAd t) s).set t (d.prune (zAd t)):=rfl
theorem yVs {v}:yUr s t d (some (.v v))=s.set t d:=rfl
theorem yGv:yUr s t d (some .nils)=s.set t d:=rfl
theorem yDe:yUr s t d (some .undef)=s.set t d:=rfl
end
/-! the operations -/
def mvF (t:Nat)(s:List D)(K:D→List D→Prop):Option D→Prop
  | some (.tup vs)=>K (.tup vs) (if zDy vs then s.set t .undef else s)
  | o=>K (lkF t o) s
theorem yRh {t vs}:mvF t s K (some (.tup vs))=K (.tup vs) (if zDy vs then s.set t .undef else s):=rfl
theorem yRj {t sz rows}:mvF t s K (some (.sl true sz rows))=K (.ref t []) s:=rfl
theorem yRk {t sz rows}:mvF t s K (some (.sl false sz rows))=K (.sl false sz rows) s:=rfl
theorem yRl {t g cs}:mvF t s K (some (.box g cs))=K (.ptr t [] 0 0) s:=rfl
theorem yV3 {t k e}:mvF t s K (some (.mp k e))=K (.ref t []) s:=rfl
theorem yY7 {t v}:mvF t s K (some (.v v))=K (.v v) s:=rfl
theorem yRi {t r q i j}:mvF t s K (some (.ptr r q i j))=K (.ptr r q i j) s:=rfl
theorem yL0 {t cs j}:mvF t s K (some (.iptr cs j))=K (.iptr cs j) s:=rfl
theorem yV4 {t f a b}:mvF t s K (some (.fn f a b))=K (if zDy a||zDy b then yV1 f a b else .fn f a b) s:=rfl
theorem yW2 {t}:zAh Ctr s (.mv (.tmp t)) K=mvF t s K s[t]?:=by
  show (match s[t]? with
    | some (.tup vs)=>K (.tup vs) (if zDy vs then s.set t .undef else s)
    | _=>K (lk s (.tmp t)) s)=_
  rw [yOl];cases h:s[t]? with
  | none=>rfl
  | some d=>cases d<;>rfl
theorem yW3 {v}:zAh Ctr s (.mv (.const v)) K=K (ofV v) s:=rfl
def yV0 (p:D×List D)(K:D→List D→Prop):Prop:=K p.1 p.2
theorem yLm {d:D}:yV0 (d,s) K=K d s:=rfl
theorem yXe {x}:zAh Ctr s (.asg x) K=yV0 (tk s x) K:=rfl
def yRe (d:D)(s:List D)(K:D→List D→Prop):Prop:=match d with
  | .ptr r q i j=>K (.ptr r q i j) s
  | .iptr c j=>K (.iptr c j) s
  | .fn f a b=>K (.fn f a b) s
  | _=>False
theorem yS1 {x}:zAh Ctr s (.nilc x) K=yRe (lk s x) s K:=rfl
theorem yLy {r q i j}:yRe (.ptr r q i j) s K=K (.ptr r q i j) s:=rfl
theorem yHe {c j}:yRe (.iptr c j) s K=K (.iptr c j) s:=rfl
theorem yS0 {c a b}:zAh Ctr s (.pick c a b) K=zSt (lk s c) (lk s a) (lk s b) s K:=rfl
theorem yVw {t x y}:zSt (.v (.bool t)) (.v (.bool x)) (.v (.bool y)) s K=K (.v (.bool (if t then x else y))) s:=rfl
theorem yVu {a b}:zSt (.v (.bool true)) a b s K=K a s:=by simp only [zSt];split<;>simp
theorem yVv {a b}:zSt (.v (.bool false)) a b s K=K b s:=by simp only [zSt];split<;>simp
def zPt (op:BinOp)(x y:D)(s:List D)(K:D→List D→Prop):Prop:=match x,y with
  | .v (.int k a),.v (.int k' b)=>zUq op k a k' b (fun v=>K (.v v) s)
  | .v (.string a),.v (.string b)=>yPv op a b (fun v=>K (.v v) s)
  | _,_=>False
theorem yXd {op x y}:zAh Ctr s (.bin op x y) K=zPt op (lk s x) (lk s y) s K:=rfl
section
variable {k:IntKind} {a b:Int} {x y:ByteArray}
theorem yUg:zPt .add (.v (.int k a)) (.v (.int k b)) s K=K (.v (.int k (k.wrap (a+b)))) s:=by simp [zPt,zUq]
theorem yT4:zPt .sub (.v (.int k a)) (.v (.int k b)) s K=K (.v (.int k (k.wrap (a-b)))) s:=by simp [zPt,zUq]
theorem yT9:zPt .mul (.v (.int k a)) (.v (.int k b)) s K=K (.v (.int k (k.wrap (a*b)))) s:=by simp [zPt,zUq]
theorem yT7:zPt .quo (.v (.int k a)) (.v (.int k b)) s K=(b≠0∧K (.v (.int k (k.wrap (a.tdiv b)))) s):=by simp [zPt,zUq]
theorem yT6:zPt .rem (.v (.int k a)) (.v (.int k b)) s K=(b≠0∧K (.v (.int k (a.tmod b))) s):=by simp [zPt,zUq]
theorem yUe:zPt .eql (.v (.int k a)) (.v (.int k b)) s K=K (.v (.bool (decide (a=b)))) s:=by simp [zPt,zUq]
theorem yT8:zPt .neq (.v (.int k a)) (.v (.int k b)) s K=K (.v (.bool (!decide (a=b)))) s:=by simp [zPt,zUq]
theorem yUa:zPt .lss (.v (.int k a)) (.v (.int k b)) s K=K (.v (.bool (decide (a<b)))) s:=by simp [zPt,zUq]
theorem yUb:zPt .leq (.v (.int k a)) (.v (.int k b)) s K=K (.v (.bool (decide (a≤b)))) s:=by simp [zPt,zUq]
theorem yUc:zPt .gtr (.v (.int k a)) (.v (.int k b)) s K=K (.v (.bool (decide (b<a)))) s:=by simp [zPt,zUq]
theorem yUd:zPt .geq (.v (.int k a)) (.v (.int k b)) s K=K (.v (.bool (decide (b≤a)))) s:=by simp [zPt,zUq]
theorem yT5 {k':IntKind}:zPt .shr (.v (.int k a)) (.v (.int k' b)) s K=(0≤b∧K (.v (.int k (a.fdiv (2 ^ (min b.toNat k.bits))))) s):=by simp [zPt,zUq]
theorem yUf:zPt .and (.v (.int k a)) (.v (.int k b)) s K=K (.v (.int k (k.wrap ((BitVec.ofInt k.bits a &&& BitVec.ofInt k.bits b).toNat)))) s:=by simp [zPt,zUq]
theorem yNt:zPt .neq (.v (.string x)) (.v (.string y)) s K=K (.v (.bool (!decide (x=y)))) s:=rfl
end
def unK (op:UnOp)(x:D)(s:List D)(K:D→List D→Prop):Prop:=match op,x with
  | .not,.v (.bool b)=>K (.v (.bool (!b))) s
  | .neg,.v (.int k n)=>K (.v (.int k (k.wrap (0-n)))) s
  | _,_=>False
theorem yZr {op x}:zAh Ctr s (.un op x) K=unK op (lk s x) s K:=rfl
theorem yU1 {b}:unK .not (.v (.bool b)) s K=K (.v (.bool (!b))) s:=rfl
def yXm (k:IntKind)(x:D)(s:List D)(K:D→List D→Prop):Prop:=match x with
  | .v (.int _ n)=>K (.v (.int k (k.wrap n))) s
  | _=>False
theorem yS5 {k x}:zAh Ctr s (.conv k x) K=yXm k (lk s x) s K:=rfl
theorem yNb {k k' n}:yXm k (.v (.int k' n)) s K=K (.v (.int k (k.wrap n))) s:=rfl
theorem yM4 {z}:zAh Ctr s (.alloc z) K=K (.box none (z.map ofC)) s:=rfl
def xAl (p:D×List D)(K:D→List D→Prop):Prop:=p.1.okCells=true∧K (.box none p.1.cells) p.2
theorem yXc {x}:zAh Ctr s (.box x) K=xAl (tk s x) K:=rfl
theorem yXz {d:D}:xAl (d,s) K=(d.okCells=true∧K (.box none d.cells) s):=rfl
def yO2 (zero:List Value) (parts:List (Nat×Nat×Operand)) (p:List D×List D) (K:D→List D→Prop):Prop :=
  p.1.all D.okCells=true∧match zT5 (parts.map fun p=>(p.1,p.2.1)) p.1 (zero.map ofC) with
    | some cells=>K (.agg cells) p.2
    | none=>False
theorem yM3 {zero parts}:zAh Ctr s (.build zero parts) K=yO2 zero parts (tkL s (parts.map (·.2.2))) K:=rfl
def yJe (o:Option (List D))(s:List D)(K:D→List D→Prop):Prop:=match o with
  | some cells=>K (.agg cells) s
  | none=>False
theorem yNs {zero parts}{ds:List D}:yO2 zero parts (ds,s) K=(ds.all D.okCells=true∧yJe (zT5 (parts.map fun p=>(p.1,p.2.1)) ds (zero.map ofC)) s K):=rfl
theorem zZz {cells}:yJe (some cells) s K=K (.agg cells) s:=rfl
def xAk (sz n:Nat)(p:List D×List D)(K:D→List D→Prop):Prop :=
  p.1.all (fun d=>d.okCells&&d.cells.length==sz)=true∧zCt (p.1.flatMap D.cells)=true∧zFx p.2 (p.1.flatMap D.cells) (fun cs s'=>K (.sl true sz (zJk sz n cs)) s')
theorem yXb {sz parts}:zAh Ctr s (.bsl sz parts) K=xAk sz parts.length (tkL s parts) K:=rfl
def yOw (sz n:Nat)(K:D→List D→Prop):List D→List D→Prop:=fun cs s'=>K (.sl true sz (zJk sz n cs)) s'
theorem yI1 {sz n cs}:yOw sz n K cs s=K (.sl true sz (zJk sz n cs)) s:=rfl
theorem yXx {sz n}{ds:List D}:xAk sz n (ds,s) K=(ds.all (fun d=>d.okCells&&d.cells.length==sz)=true∧zCt (ds.flatMap D.cells)=true∧zFx s (ds.flatMap D.cells) (yOw sz n K)):=rfl
variable {KL:List D→List D→Prop}
def zWf (d:D)(KL:List D→List D→Prop):List D→List D→Prop:=fun ds s=>KL (d::ds) s
theorem yNe {d:D}{ds:List D}:zWf d KL ds s=KL (d::ds) s:=rfl
def yZ7 (ds:List D)(KL:List D→List D→Prop):D→List D→Prop:=fun d s=>zFx s ds (zWf d KL)
theorem yLa {ds:List D}{d:D}:yZ7 ds KL d s=zFx s ds (zWf d KL):=rfl
theorem yQw:zFx s [] KL=KL [] s:=rfl
theorem yQv {r q}{ds:List D}:zFx s (.ref r q::ds) KL=zE5 s r q (yZ7 ds KL):=by simp only [zFx];rfl
def yZ5 (i n:Nat)(ds:List D)(KL:List D→List D→Prop):D→List D→Prop:=fun d s=>match d with
  | .sl true sz rows=>i+n≤rows.length∧zFx s ds (zWf (.sl true sz ((rows.drop i).take n)) KL)
  | _=>False
theorem yPu {i n}{ds:List D}{sz rows}:yZ5 i n ds KL (.sl true sz rows) s=(i+n≤rows.length∧zFx s ds (zWf (.sl true sz ((rows.drop i).take n)) KL)):=rfl
theorem yQu {r q i n}{ds:List D}(h:0<n):zFx s (.sub r q i n::ds) KL=zE5 s r q (yZ5 i n ds KL):=by simp only [zFx];exact propext ⟨fun h1=>h1.elim (fun h2=>h2.2) (fun h2=>absurd h2.1 qAc),fun h1=>.inl ⟨.inl h,h1⟩⟩
theorem yK8 {r q i}{ds:List D}(h:i≠0):zFx s (.sub r q i 0::ds) KL=∃ sz,zFx s ds (zWf (.sl false sz []) KL):=by simp only [zFx];exact propext ⟨fun h1=>h1.elim (fun h2=>absurd h2.1 qAc) (fun h2=>h2.2.2),fun h1=>.inr ⟨trivial,h,h1⟩⟩
theorem yK9 {ds:List D}:zFx s (.nils::ds) KL=zFx s ds (zWf .nils KL):=by simp only [zFx,D.leaf,true_and];rfl
theorem yYy {v}{ds:List D}:zFx s (.v v::ds) KL=zFx s ds (zWf (.v v) KL):=by simp only [zFx,D.leaf,true_and];rfl
theorem yVl {o sz rows}{ds:List D}:zFx s (.sl o sz rows::ds) KL=zFx s ds (zWf (.sl o sz rows) KL):=by simp only [zFx,D.leaf,true_and];rfl
def yAl (r:Nat)(q:zBr)(s:List D)(d:D)(o:Option D)(K:D→List D→Prop):Prop:=match o with
  | some (.sl true sz rows)=>K (.sl true sz rows) ((zAc (zAg r q) s).set r (setAt (d.prune (zAg r q)) q .undef))
  | some (.mp k e)=>K (.mp k e) ((zAc (zAg r q) s).set r (setAt (d.prune (zAg r q)) q .undef))
  | _=>False
def yFg (r:Nat)(q:zBr)(s:List D)(o:Option D)(K:D→List D→Prop):Prop:=match o with
  | some d=>yAl r q s d (zAf d q) K
  | none=>False
theorem yKe {r q}:zE5 s r q K=yFg r q s s[r]? K:=by unfold zE5 yFg;cases s[r]? <;> rfl
theorem zYu {r q d}:yFg r q s (some d) K=yAl r q s d (zAf d q) K:=rfl
theorem yFh {r q d k e}:yAl r q s d (some (.mp k e)) K=K (.mp k e) ((zAc (zAg r q) s).set r (setAt (d.prune (zAg r q)) q .undef)):=rfl
theorem zYv {r q d sz rows}:yAl r q s d (some (.sl true sz rows)) K=K (.sl true sz rows) ((zAc (zAg r q) s).set r (setAt (d.prune (zAg r q)) q .undef)):=rfl
end Go.V
namespace Go.V
open Go.RowKit
variable {Ctr:CtrT} {s:List D} {K:D→List D→Prop} {KK:List D→Prop} {os:List VO}
def yHr (n:Nat)(agg:Bool)(r:Nat)(q:zBr)(i j:Nat)(o:Option (List D))(s:List D)(K:D→List D→Prop):Prop:=match o with
  | some row=>j+n≤row.length∧K (zG6 agg (zMa r q i j ((row.drop j).take n))) s
  | none=>False
def yR1 (n:Nat)(agg:Bool)(a:D)(s:List D)(K:D→List D→Prop):Prop:=match a with
  | .ptr r q i j=>yHr n agg r q i j (rowAt s r q i) s K
  | .iptr cells j=>j+n≤cells.length∧K (zG6 agg ((cells.drop j).take n)) s
  | _=>False
theorem yS4 {n agg a}:zAh Ctr s (.load n agg a) K=yR1 n agg (lk s a) s K:=rfl
theorem yL8 {n agg r q i j}:yR1 n agg (.ptr r q i j) s K=yHr n agg r q i j (rowAt s r q i) s K:=rfl
theorem yHq {n agg cells j}:yR1 n agg (.iptr cells j) s K=(j+n≤cells.length∧K (zG6 agg ((cells.drop j).take n)) s):=rfl
theorem yDr {n agg r q i j row}:yHr n agg r q i j (some row) s K=(j+n≤row.length∧K (zG6 agg (zMa r q i j ((row.drop j).take n))) s):=rfl
def yM8 (K:D→List D→Prop):List D→Prop:=fun s=>K .undef s
theorem yTb:yM8 K s=K .undef s:=rfl
def yYw (r:Nat)(q:zBr)(i j:Nat)(K:D→List D→Prop):List D→List D→Prop:=fun cs s'=>zO0 s' r q=false∧yC3 r q i s' j cs (yM8 K)
theorem yQr {r q i j cs}:yYw r q i j K cs s=(zO0 s r q=false∧yC3 r q i s j cs (yM8 K)):=rfl
def yQs (r i n j:Nat)(K:D→List D→Prop):List D→List D→Prop:=fun cs s'=>cs.length=n∧zXf r i n s' j cs (yM8 K)
theorem yGk {r i n j cs}:yQs r i n j K cs s=(cs.length=n∧zXf r i n s j cs (yM8 K)):=rfl
def zVl (r:Nat)(q:zBr)(i n j:Nat)(cs:List D)(b:Bool)(s:List D)(K:D→List D→Prop):Prop :=
  if b then q=[]∧(if yC9 r cs then zCt cs=true∧cs.all (zOl (.ptr r q i j))=true∧zFx s cs (fun cs s'=>cs.length=n∧zXf r i n s' j cs (yM8 K)) else zXf r i n s j cs (yM8 K)) else zCt cs=true∧cs.all (zOl (.ptr r q i j))=true∧zFx s cs (yYw r q i j K)
def zYt (n:Nat)(d:D)(a:D)(s:List D)(K:D→List D→Prop):Prop:=match a with
  | .ptr r q i j=>d.okCells=true∧d.cells.length=n∧zVl r q i n j d.cells (zO0 s r q) s K
  | _=>False
def yN3 (n:Nat)(a:Operand)(p:D×List D)(K:D→List D→Prop):Prop:=zYt n p.1 (lk p.2 a) p.2 K
theorem yM1 {n a x}:zAh Ctr s (.store n a x) K=yN3 n a (tk s x) K:=rfl
theorem yJ8 {n a}{d:D}:yN3 n a (d,s) K=zYt n d (lk s a) s K:=rfl
theorem yCu {n r q i j}{d:D}:zYt n d (.ptr r q i j) s K=(d.okCells=true∧d.cells.length=n∧zVl r q i n j d.cells (zO0 s r q) s K):=rfl
def yQl (r i n j:Nat)(q:zBr)(cs:List D)(b:Bool)(s:List D)(K:D→List D→Prop):Prop:=if b then zCt cs=true∧cs.all (zOl (.ptr r q i j))=true∧zFx s cs (yQs r i n j K) else zXf r i n s j cs (yM8 K)
theorem yJ9 {r q i n j cs}:zVl r q i n j cs true s K=(q=[]∧yQl r i n j q cs (yC9 r cs) s K):=rfl
theorem yQk {r i n j q cs}:yQl r i n j q cs false s K=zXf r i n s j cs (yM8 K):=rfl
theorem yQj {r i n j q cs}:yQl r i n j q cs true s K=(zCt cs=true∧cs.all (zOl (.ptr r q i j))=true∧zFx s cs (yQs r i n j K)):=rfl
theorem yKa {r q i n j cs}:zVl r q i n j cs false s K=(zCt cs=true∧cs.all (zOl (.ptr r q i j))=true∧zFx s cs (yYw r q i j K)):=rfl
variable {KQ:List D→(D→Bool)→Prop}
def yKz (r:Nat) (p:zBr) (c:D) (s:List D) (d:D) (o:Option D) (KQ:List D→(D→Bool)→Prop):Prop:=match o with
  | some old=>match old.cont with
    | some _=>KQ ((zAc (zAg r p) s).set r (setAt (d.prune (zAg r p)) p (c.prune (zAg r p)))) (zAg r p)
    | none=>KQ (s.set r (setAt d p c)) (fun _=>true)
  | none=>False
def yQi (r:Nat)(p:zBr)(c:D)(s:List D)(o:Option D)(KQ:List D→(D→Bool)→Prop):Prop:=match o with
  | some d=>yKz r p c s d (zAf d p) KQ
  | none=>False
theorem yQf {r p c}:yC7 s r p c KQ=yQi r p c s s[r]? KQ:=by unfold yC7 yQi;cases s[r]? <;> rfl
theorem yC6 {r p c d}:yQi r p c s (some d) KQ=yKz r p c s d (zAf d p) KQ:=rfl
def yZ1:D→Bool:=fun _=>true
def yKy (r:Nat)(p:zBr)(c:D)(s:List D)(d:D)(own:Bool)(KQ:List D→(D→Bool)→Prop):Prop :=
  if own then KQ ((zAc (zAg r p) s).set r (setAt (d.prune (zAg r p)) p (c.prune (zAg r p)))) (zAg r p) else KQ (s.set r (setAt d p c)) yZ1
theorem yC5 {r p c d old}:yKz r p c s d (some old) KQ=yKy r p c s d old.cont.isSome KQ:=by unfold yKz yKy;cases h:old.cont<;>simp [h]<;>rfl
theorem yQh {r p c d}:yKy r p c s d false KQ=KQ (s.set r (setAt d p c)) yZ1:=rfl
theorem yQg {r p c d}:yKy r p c s d true KQ=KQ ((zAc (zAg r p) s).set r (setAt (d.prune (zAg r p)) p (c.prune (zAg r p)))) (zAg r p):=rfl
def bK (r i n j:Nat)(cs:List D)(KK:List D→Prop):List D→(D→Bool)→Prop:=fun s' q=>zXf r i n s' j (zAc q cs) KK
theorem yX1 {r i n j cs}:bK r i n j cs KK s yZ1=zXf r i n s j cs KK:=by show zXf r i n s j (zAc (fun _=>true) cs) KK=_;rw [zBy]
theorem yX0 {r i n j cs r' p'}:bK r i n j cs KK s (zAg r' p')=zXf r i n s j (zAc (zAg r' p') cs) KK:=rfl
theorem yK0 {r i n j}:zXf r i n s j [] KK=KK s:=by cases n<;>rfl
theorem yF5 {r i n j c cs}:zXf r i (n+1) s j (c::cs) KK=(zO0 s r []=true∧yC7 s r [(i,j)] c (bK r i n (j+1) cs KK)):=rfl
def rK (r:Nat)(q:zBr)(i j:Nat)(cs:List D)(KK:List D→Prop):List D→(D→Bool)→Prop:=fun s' _=>yC3 r q i s' j cs KK
theorem yVp {r q i j cs f}:rK r q i j cs KK s f=yC3 r q i s j cs KK:=rfl
theorem yKw {r q i j}:yC3 r q i s j [] KK=KK s:=rfl
theorem yF4 {r q i j c cs}:yC3 r q i s j (c::cs) KK=(c.leaf=true∧yC7 s r (q++[(i,j)]) c (rK r q i (j+1) cs KK)):=rfl
def yBj (q:zBr):Option D→Bool
  | some d=>match zAf d q with
    | some (.box _ _)=>true
    | _=>false
  | none=>false
theorem yMj {r q}:zO0 s r q=yBj q s[r]?:=by unfold zO0 yBj;rfl
def yYb (q:zBr) (i:Nat):Option D→Option (List D)
  | some d=>match zAf d q with
    | some t=>match t.cont with
      | some (_,rows)=>rows[i]?
      | none=>none
    | none=>none
  | none=>none
theorem yK6 {r q i}:rowAt s r q i=yYb q i s[r]?:=by unfold rowAt yYb;rfl
def faK (off:Nat)(x:D)(s:List D)(K:D→List D→Prop):Prop:=match x with
  | .ptr r q i j=>K (.ptr r q i (j+off)) s
  | .iptr c j=>K (.iptr c (j+off)) s
  | _=>False
theorem yZt {off x}:zAh Ctr s (.fa off x) K=faK off (lk s x) s K:=rfl
theorem yW0 {off r q i j}:faK off (.ptr r q i j) s K=K (.ptr r q i (j+off)) s:=rfl
theorem ySx {off c j}:faK off (.iptr c j) s K=K (.iptr c (j+off)) s:=rfl
def yZk (sz:Nat)(n:Int)(r:Nat)(q:zBr)(o:Option (Nat×List (List D)))(s:List D)(K:D→List D→Prop):Prop:=match o with
  | some (sz',rows)=>0≤n∧n<rows.length∧sz'=sz∧K (.ptr r q n.toNat 0) s
  | none=>False
def iaK (sz:Nat)(i x:D)(s:List D)(K:D→List D→Prop):Prop:=match i,x with
  | .v (.int _ n),.ref r q=>yZk sz n r q (zG3 s (.ref r q)) s K
  | .v (.int _ n),.sl false sz' rows=>0≤n∧n<rows.length∧sz'=sz∧∃ row,rows[n.toNat]?=some row∧K (.iptr row 0) s
  | _,_=>False
theorem yZs {sz x i}:zAh Ctr s (.ia sz x i) K=iaK sz (lk s i) (lk s x) s K:=rfl
theorem yWs {sz k n r q}:iaK sz (.v (.int k n)) (.ref r q) s K=yZk sz n r q (zG3 s (.ref r q)) s K:=rfl
theorem yZj {sz k n sz' rows}:iaK sz (.v (.int k n)) (.sl false sz' rows) s K=(0≤n∧n<rows.length∧sz'=sz∧∃ row,rows[n.toNat]?=some row∧K (.iptr row 0) s):=rfl
theorem yMn {sz n r q sz' rows}:yZk sz n r q (some (sz',rows)) s K=(0≤n∧n<rows.length∧sz'=sz∧K (.ptr r q n.toNat 0) s):=rfl
def slF (q:zBr):Option D→Option (Nat×List (List D))
  | some d=>match zAf d q with
    | some (.sl true sz rows)=>some (sz,rows)
    | _=>none
  | none=>none
theorem yKh {r q}:zG3 s (.ref r q)=slF q s[r]?:=by unfold zG3 slF;rfl
theorem yP0 {o sz rows}:zG3 s (.sl o sz rows)=some (sz,rows):=rfl
theorem yW1 {sz x lo hi mx}:zAh Ctr s (.slc sz x lo hi mx) K=yPz sz (lk s x) (zYp s lo 0) (zYp s hi (zVo s (lk s x))) (zYp s mx (zVo s (lk s x))) s K:=rfl
def yVe:Option (Nat×List (List D))→Nat
  | some (_,rows)=>rows.length
  | none=>0
theorem yFp {r q}:zVo s (.ref r q)=yVe (zG3 s (.ref r q)):=rfl
theorem yCx {sz rows}:yVe (some (sz,rows))=rows.length:=rfl
def yZ6 (sz:Nat)(r:Nat)(q:zBr)(l h m:Int)(o:Option (Nat×List (List D)))(s:List D)(K:D→List D→Prop):Prop:=match o with
  | some (sz',rows)=>0≤l∧l≤h∧h≤rows.length∧sz'=sz∧h≤m∧m≤rows.length∧K (.sub r q l.toNat (h.toNat-l.toNat)) s
  | none=>False
theorem yPy {sz r q k l k' h k'' m}:yPz sz (.ref r q) (.v (.int k l)) (.v (.int k' h)) (.v (.int k'' m)) s K=yZ6 sz r q l h m (zG3 s (.ref r q)) s K:=rfl
theorem yFm {sz r q l h m sz' rows}:yZ6 sz r q l h m (some (sz',rows)) s K=(0≤l∧l≤h∧h≤rows.length∧sz'=sz∧h≤m∧m≤rows.length∧K (.sub r q l.toNat (h.toNat-l.toNat)) s):=rfl
theorem yLt {n}:zYp s none n=.v (.int .i64 n):=rfl
theorem yLs {x n}:zYp s (some x) n=lk s x:=rfl
def ySz (t i:Nat)(vs:List D)(o:Option D)(s:List D)(K:D→List D→Prop):Prop:=match o with
  | some d=>K d (if d.owny then s.set t (.tup (vs.set i .undef)) else s)
  | none=>False
def xAg (t i:Nat)(o:Option D)(s:List D)(K:D→List D→Prop):Prop:=match o with
  | some (.tup vs)=>ySz t i vs vs[i]? s K
  | _=>False
theorem yW9 {t i}:zAh Ctr s (.ext (.tmp t) i) K=xAg t i s[t]? s K:=rfl
theorem ySy {t i vs}:xAg t i (some (.tup vs)) s K=ySz t i vs vs[i]? s K:=rfl
theorem yIu {t i vs d}:ySz t i vs (some d) s K=K d (if d.owny then s.set t (.tup (vs.set i .undef)) else s):=rfl
def xAc (o:Option (Nat×List (List D)))(s:List D)(K:D→List D→Prop):Prop:=match o with
  | some (_,rows)=>K (.v (.int .i64 (rows.length:Int))) s
  | none=>False
theorem yW8 {x}:zAh Ctr s (.len x) K=xAc (zG3 s (lk s x)) s K:=rfl
theorem yMd {sz rows}:xAc (some (sz,rows)) s K=K (.v (.int .i64 (rows.length:Int))) s:=rfl
variable {KR:List (List D)→List D→Prop}
def yUj (sz bytes:Nat)(rows:List (List D))(K:D→List D→Prop):List (List D)→List D→Prop:=fun more s2=>(rows.length+more.length)*(bytes+1)≤2 ^ 40∧K (.sl true sz (rows++more)) s2
theorem yNv {sz bytes rows more}:yUj sz bytes rows K more s=((rows.length+more.length)*(bytes+1)≤2 ^ 40∧K (.sl true sz (rows++more)) s):=rfl
def yX4 (sz bytes:Nat)(y:Operand)(K:D→List D→Prop):List (List D)→List D→Prop:=fun rows s1=>zWn s1 sz y (yUj sz bytes rows K)
theorem yNw {sz bytes y rows}:yX4 sz bytes y K rows s=zWn s sz y (yUj sz bytes rows K):=rfl
theorem yXf {sz bytes x y}:zAh Ctr s (.app sz bytes x y) K=zZp s sz x (yX4 sz bytes y K):=rfl
def ySr (sz:Nat)(KR:List (List D)→List D→Prop):D→List D→Prop:=fun d s'=>match d with
  | .sl true sz' rows=>sz'=sz∧KR rows s'
  | _=>False
theorem yMu {sz sz' rows}:ySr sz KR (.sl true sz' rows) s=(sz'=sz∧KR rows s):=rfl
def ySs (sz:Nat)(s0:List D)(p:D×List D)(KR:List (List D)→List D→Prop):Prop:=match p.1 with
  | .sl true sz' rows=>sz'=sz∧KR rows p.2
  | .nils=>KR [] s0
  | .ref r q=>zE5 s0 r q (ySr sz KR)
  | _=>False
theorem ySp {sz x}:zZp s sz x KR=ySs sz s (tk s x) KR:=rfl
theorem yMv {sz s0 sz' rows}:ySs sz s0 (.sl true sz' rows,s) KR=(sz'=sz∧KR rows s):=rfl
theorem yIn {sz s0 r q}:ySs sz s0 (.ref r q,s) KR=zE5 s0 r q (ySr sz KR):=rfl
def xAm (sz:Nat)(s0:List D)(o:Option (Nat×List (List D)))(KR:List (List D)→List D→Prop):Prop:=match o with
  | some (sz',rows)=>(sz'=sz∨rows=[])∧(∀ row,row∈rows→zDy row=false)∧KR rows s0
  | none=>False
def yZ2 (sz:Nat)(s0:List D)(p:D×List D)(KR:List (List D)→List D→Prop):Prop:=match p.1 with
  | .sl true sz' rows=>(sz'=sz∨rows=[])∧KR rows p.2
  | .sl false sz' rows=>(sz'=sz∨rows=[])∧KR rows s0
  | .nils=>KR [] s0
  | .ref r q=>xAm sz s0 (zG3 s0 (.ref r q)) KR
  | .sub r q i n=>xAm sz s0 (zG3 s0 (.sub r q i n)) KR
  | _=>False
theorem yX6 {sz y}:zWn s sz y KR=yZ2 sz s (tk s y) KR:=rfl
theorem yNz {sz s0 sz' rows}:yZ2 sz s0 (.sl true sz' rows,s) KR=((sz'=sz∨rows=[])∧KR rows s):=rfl
theorem yN0 {sz s0 sz' rows}:yZ2 sz s0 (.sl false sz' rows,s) KR=((sz'=sz∨rows=[])∧KR rows s0):=rfl
theorem yW7 {f first caps}:zAh Ctr s (.mkf f first caps) K=K (.fn f (first.map (lk s)) (caps.map (lk s))) s:=rfl
def xAa (sz bytes:Nat)(zero:List Value)(l c:D)(s:List D)(K:D→List D→Prop):Prop:=match l,c with
  | .v (.int _ n),.v (.int _ m)=>0≤n∧n≤m∧m*(bytes+1)≤2 ^ 40∧K (.sl true sz (List.replicate n.toNat (zero.map ofC))) s
  | _,_=>False
theorem yW5 {sz bytes zero l c}:zAh Ctr s (.mks sz bytes zero l c) K=xAa sz bytes zero (lk s l) (lk s c) s K:=rfl
theorem yRq {sz bytes zero k n k' m}:xAa sz bytes zero (.v (.int k n)) (.v (.int k' m)) s K=(0≤n∧n≤m∧m*(bytes+1)≤2 ^ 40∧K (.sl true sz (List.replicate n.toNat (zero.map ofC))) s):=rfl
/-! the code -/
variable {Q:VExit→List D→Prop} {next:List D→Prop}
theorem yPa {l:List VO}:(VCode.ops l).wp Ctr Q s=zLz Ctr s l (Q .normal):=rfl
theorem yO8 {x y:VCode}:(VCode.seq x y).wp Ctr Q s=x.wp Ctr (zN4 (y.wp Ctr Q) Q) s:=rfl
theorem yJs:VCode.skip.wp Ctr Q s=Q .normal s:=rfl
theorem yO9:VCode.ret.wp Ctr Q s=Q .ret s:=rfl
theorem yJt {i}:(VCode.exit i).wp Ctr Q s=Q (.exit i) s:=rfl
theorem yEr {i}{c:VCode}:(VCode.block i c).wp Ctr Q s=c.wp Ctr (zQn i Q) s:=rfl
def yEb (d:D)(A B:List D→Prop)(s:List D):Prop:=match d with
  | .v (.bool t)=>(t=true→A s)∧(t=false→B s)
  | _=>False
theorem yJv {x}{a b:VCode}:(VCode.cond x a b).wp Ctr Q s=yEb (lk s x) (a.wp Ctr Q) (b.wp Ctr Q) s:=rfl
variable {A B:List D→Prop}
theorem yXn:yEb (.v (.bool true)) A B s=A s:=by simp [yEb]
theorem yXo:yEb (.v (.bool false)) A B s=B s:=by simp [yEb]
theorem zAp {t:Bool}{A B:List D→Prop}{s:List D}(h1:t=true→A s)(h2:t=false→B s):yEb (.v (.bool t)) A B s:=⟨h1,h2⟩
theorem yVa:zN4 next Q .normal s=next s:=rfl
theorem yU9:zN4 next Q .ret s=Q .ret s:=rfl
theorem yVb {i}:zN4 next Q (.exit i) s=Q (.exit i) s:=rfl
theorem yT1 {i}:zQn i Q .normal s=Q .normal s:=rfl
theorem yT0 {i}:zQn i Q .ret s=Q .ret s:=rfl
theorem yT2 {i j}:zQn i Q (.exit j) s=if j=i then Q .normal s else Q (.exit j) s:=rfl
theorem yDp {mask:List Bool}{c:VCode}{Q:VExit→List D→Prop}{s:List D}(J:Nat→List D→Prop)(n:Nat)(h0:∃ s1,zFs (clr mask s) s1∧J n s1)(h:∀ n s',J n s'→c.wp Ctr (zN4 (fun s''=>∃ m,m<n∧∃ s1,zFs (clr mask s'') s1∧J m s1) Q) s'):(VCode.loop mask c).wp Ctr Q s:=⟨J,⟨n,h0⟩,h⟩
/-! the results -/
def NoG:World→(Nat→Prop)→Prop:=fun _ _=>True
theorem noG:yUn NoG:=fun _ _ _ _ _=>trivial
theorem gI {w:World}{I:Nat→Prop}:GI NoG w I:=⟨fun _=>False,fun _ h=>h.elim,trivial⟩
end Go.V
namespace Go.V
open Go.RowKit
section
variable {Ctr:CtrT} {s s':List D} {K:D→List D→Prop} {KP:List D→Prop} {KD:D→Prop} {KL:List D→Prop} {Q:VExit→List D→Prop} {pr:Option (Nat×zBr)} {os:List DOp}
/-! ### Regions that draw -/
def yBx (Ctr:CtrT)(cls:List Bool)(tail:List VO)(Q:VExit→List D→Prop):List D→Prop:=fun s=>zLz Ctr (clr cls s) tail (Q .normal)
theorem yJu {start cls l1 tail}:(VCode.draw start cls l1 tail).wp Ctr Q s=zO4 Ctr none (clr start s) l1 (yBx Ctr cls tail Q):=rfl
theorem zZt {cls tail}:yBx Ctr cls tail Q s=zLz Ctr (clr cls s) tail (Q .normal):=rfl
def ySo (Ctr:CtrT)(pr:Option (Nat×zBr))(s:List D)(dst:Option Nat)(os:List DOp)(KP:List D→Prop):D→Prop:=fun d=>zO4 Ctr pr (zTv s dst (prO pr d)) os KP
def zO5 (Ctr:CtrT)(V:List D)(cl:List Bool)(want:Bool)(op:VOp)(d:D)(KD:D→Prop):Prop:=match d with
  | .v (.bool b)=>(b=want→zYb Ctr V cl op KD)∧(b≠want→KD (.v (.tuple #[])))
  | .v _=>KD (.v (.tuple #[]))
  | _=>False
theorem yMo:zO4 Ctr pr s [] KP=KP s:=rfl
theorem yIk {i hid cl dst op}:zO4 Ctr pr s (⟨i,hid,cl,⟨dst,none,op⟩⟩::os) KP=zYb Ctr (clr hid s) cl op (ySo Ctr pr s dst os KP):=rfl
theorem yD0 {i hid cl dst op g want}:zO4 Ctr pr s (⟨i,hid,cl,⟨dst,some (g,want),op⟩⟩::os) KP=zO5 Ctr (clr hid s) cl want op (lkT (clr hid s) g) (ySo Ctr pr s dst os KP):=rfl
theorem yIm {dst d}:ySo Ctr pr s dst os KP d=zO4 Ctr pr (zTv s dst (prO pr d)) os KP:=rfl
theorem yZl {V cl op}:zO5 Ctr V cl true op (.v (.bool true)) KD=zYb Ctr V cl op KD:=by simp [zO5]
theorem yZo {V cl op}:zO5 Ctr V cl false op (.v (.bool false)) KD=zYb Ctr V cl op KD:=by simp [zO5]
theorem yZm {V cl op}:zO5 Ctr V cl true op (.v (.bool false)) KD=KD (.v (.tuple #[])):=by simp [zO5]
theorem yZn {V cl op}:zO5 Ctr V cl false op (.v (.bool true)) KD=KD (.v (.tuple #[])):=by simp [zO5]
def yNa (V:List D)(cl:List Bool)(KD:D→Prop):D→List D→Prop:=fun d s'=>clr cl s'=clr cl V∧KD d
theorem yM9 {V cl op}:zYb Ctr V cl op KD=zAh Ctr V op (yNa V cl KD):=rfl
theorem yB3:∀ (s:List D),clr [] s=s:=by
  intro s;apply xDc;intro r;rw [zBf];cases s[r]? with
  | none=>rfl
  | some d=>have:zBn []=fun _=>true:=(by funext x;cases x<;>rfl);simp [this,D.prune_yes]
theorem yIz {V d}:yNa V [] KD d s'=(s'=V∧KD d):=by unfold yNa;rw [yB3,yB3]
theorem yD9 {V d b cl}:yNa V (b::cl) KD d s'=(clr (b::cl) s'=clr (b::cl) V∧KD d):=rfl
theorem yC4 {t d}:zTv s (some t) d=s.set t d:=rfl
theorem yGy {d}:prO none d=d:=rfl
theorem yXp {m}:clr m s=zQx (zBn m) m s:=rfl
theorem yNf {q m}:zQx q m []=[]:=by simp [zQx]
theorem yXr {q m d}:zQx q (true::m) (d::s)=.undef::zQx q m s:=rfl
theorem yXs {q m d}:zQx q (false::m) (d::s)=d.prune q::zQx q m s:=rfl
theorem yXt {q d}:zQx q [] (d::s)=d.prune q::zQx q [] s:=rfl
theorem yH5 {m r p}:zBn m (.ref r p)=!m.getD r false:=rfl
theorem yH6 {m r p i j}:zBn m (.ptr r p i j)=!m.getD r false:=rfl
theorem yWu {b:Bool}{m:List Bool}:(b::m).getD 0 false=b:=rfl
theorem yWv {b:Bool}{m:List Bool}{n:Nat}:(b::m).getD (n+1) false=m.getD n false:=by simp
theorem yWw {n:Nat}:([]:List Bool).getD n false=false:=by simp
/-! order by order -/
def yPs (Ctr:CtrT)(tail:List VO)(Q:VExit→List D→Prop):List D→Prop:=fun s=>zLz Ctr s tail (Q .normal)
theorem zCh {tail}:yPs Ctr tail Q s=zLz Ctr s tail (Q .normal):=rfl
def yNd (Ctr:CtrT)(dst:Option Nat)(t:VT)(KP:List D→Prop):D→List D→Prop:=fun d s'=>t.wp Ctr KP (match dst with | some t=>zN2 s' t d | none=>s')
theorem yE5:VT.done.wp Ctr KP s=KP s:=rfl
theorem yJz {i dst op sub}:(VT.br i ⟨dst,none,op⟩ sub .nil).wp Ctr KP s=zAh Ctr s op (yNd Ctr dst sub KP):=by simp only [VT.wp,and_true];rfl
theorem yU3 {i dst op sub}:(VT.h i ⟨dst,none,op⟩ sub).wp Ctr KP s=zAh Ctr s op (yNd Ctr dst sub KP):=rfl
theorem yPd {i dst op sub j o sub2 rest}:(VT.br i ⟨dst,none,op⟩ sub (.br j o sub2 rest)).wp Ctr KP s=(zAh Ctr s op (yNd Ctr dst sub KP)∧(VT.br j o sub2 rest).wp Ctr KP s):=rfl
theorem yEa {t sub d}:yNd Ctr (some t) sub KP d s=sub.wp Ctr KP (zN2 s t d):=rfl
variable {KR:Nat→zBr→D→Prop}
/-! ### Kin of append and the like -/
variable {KG:List (List D)→List D→Prop}
def yXy (sz n:Nat)(p:List D×List D)(K:D→List D→Prop):Prop :=
  p.1.all (fun d=>d.okCells&&d.cells.length==sz)=true∧zSw (p.1.flatMap D.cells)=true∧K (.sl true sz (zJk sz n (p.1.flatMap D.cells))) p.2
theorem yS6 {sz parts}:zAh Ctr s (.bslN sz parts) K=yXy sz parts.length (tkL s parts) K:=rfl
theorem yTx {sz n}{ds:List D}:yXy sz n (ds,s) K=(ds.all (fun d=>d.okCells&&d.cells.length==sz)=true∧zSw (ds.flatMap D.cells)=true∧K (.sl true sz (zJk sz n (ds.flatMap D.cells))) s):=rfl
/-! ### A function's end -/
theorem yTa {rvs d}:zHy rvs d .ret s=zXg s rvs (leK d):=rfl
theorem yM7 {rvs d i b cs}:yOu rvs d i b cs .ret s=zXg s rvs (leX d i b cs):=rfl
section
variable {KS:List D→List D→Prop}
def yQ1 (d:D)(KL:List D→List D→Prop):List D→List D→Prop:=fun ds=>KL (d::ds)
def rvN (rs:List RV)(KL:List D→List D→Prop):D→List D→Prop:=fun d s'=>zXg s' rs (yQ1 d KL)
theorem yQm:zXg s [] KS=KS [] s:=rfl
theorem yK2 {r rs}:zXg s (r::rs) KS=rvK s r (rvN rs KS):=rfl
theorem yQn {rs d}:rvN rs KS d s=zXg s rs (yQ1 d KS):=rfl
theorem yGr {d ds}:yQ1 d KS ds s=KS (d::ds) s:=rfl
end
theorem ySf {d ds}:leK d ds s=(one ds).le d:=rfl
def yYg (b:Nat)(cells':List D):Option D→Prop
  | some (.box (some b') cs)=>b'=b∧leL (zAc (fun _=>false) cs) cells'
  | _=>False
theorem ySe {d ds i b cs}:leX d i b cs ds s=((one ds).le d∧yYg b cs s[i]?):=by unfold leX yOg yYg;rfl
theorem yLr {b cs cells'}:yYg b cells' (some (.box (some b) cs))=leL (zAc (fun _=>false) cs) cells':=by simp [yYg]
theorem yY4 {d}:one [d]=d:=rfl
theorem yY3 {d e ds}:one (d::e::ds)=.tup (d::e::ds):=rfl
def rv2 (p:D×List D)(K:D→List D→Prop):Prop:=p.1.okCells=true∧zDb p.2 p.1 K
theorem xAq {t}:rvK s (.t t) K=rv2 (tkT s t) K:=rfl
theorem yVk {d}:rv2 (d,s) K=(d.okCells=true∧zDb s d K):=rfl
def rv3 (t n:Nat)(agg:Bool)(s:List D)(o:Option D)(K:D→List D→Prop):Prop:=match o with
  | some (.box _ cells)=>cells.length=n∧(zG6 agg (zAc (zAd t) cells)).okCells=true∧zDb ((zAc (zAd t) s).set t .undef) (zG6 agg (zAc (zAd t) cells)) K
  | _=>False
theorem xAr {t n agg}:rvK s (.c t n agg) K=rv3 t n agg s s[t]? K:=rfl
theorem yQo {t n agg g cells}:rv3 t n agg s (some (.box g cells)) K=(cells.length=n∧(zG6 agg (zAc (zAd t) cells)).okCells=true∧zDb ((zAc (zAd t) s).set t .undef) (zG6 agg (zAc (zAd t) cells)) K):=rfl
def yUp (d:D)(K:D→List D→Prop):List D→List D→Prop:=fun cs s'=>K (zHk d cs) s'
def yTz (K:D→List D→Prop):List D→List D→Prop:=fun cs s'=>K (.box none cs) s'
theorem yJf {cs}:yTz K cs s=K (.box none cs) s:=rfl
def yYz (r:Nat)(s:List D)(K:D→List D→Prop):Option D→Prop
  | some (.box _ cells)=>zCt (zAc (zOj r) cells)=true∧zFx ((zAc (zAd r) s).set r .undef) (zAc (zOj r) cells) (yTz K)
  | _=>False
theorem zYy {r}:zDb s (.ptr r [] 0 0) K=yYz r s K s[r]?:=by unfold zDb yYz;rfl
theorem yLb {r g cells}:yYz r s K (some (.box g cells))=(zCt (zAc (zOj r) cells)=true∧zFx ((zAc (zAd r) s).set r .undef) (zAc (zOj r) cells) (yTz K)):=rfl
theorem zYz {cs}:zDb s (.agg cs) K=(zCt cs=true∧zFx s cs (yUp (.agg cs) K)):=rfl
theorem yGn {x}:zDb s (.v x) K=(zCt [.v x]=true∧zFx s [.v x] (yUp (.v x) K)):=rfl
theorem zXl:zDb s .nils K=(zCt [.nils]=true∧zFx s [.nils] (yUp .nils K)):=rfl
theorem yDd {o z r}:zDb s (.sl o z r) K=(zCt [.sl o z r]=true∧zFx s [.sl o z r] (yUp (.sl o z r) K)):=rfl
theorem zYx {r p}:zDb s (.ref r p) K=(zCt [.ref r p]=true∧zFx s [.ref r p] (yUp (.ref r p) K)):=rfl
theorem yWg {k e k' e'}:(D.mp k e).le (.mp k' e')=(k=k'∧e=e'):=by simp [D.le]
theorem ySc {g e g' e'}:(D.box g e).le (.box g' e')=(g=g'∧e=e'):=by simp [D.le]
theorem yLf {d cs}:yUp d K cs s=K (zHk d cs) s:=rfl
theorem yQ0 {cs ds}:zHk (.agg cs) ds=.agg ds:=rfl
theorem yY0 {x ds}:zHk (.v x) ds=ds.headD .undef:=rfl
theorem yLe {ds}:zHk .nils ds=ds.headD .undef:=rfl
theorem yVn {o z r ds}:zHk (.sl o z r) ds=ds.headD .undef:=rfl
theorem yQz {r p ds}:zHk (.ref r p) ds=ds.headD .undef:=rfl
theorem yZc {a b:Value}:(D.v a).le (.v b)=(a=b):=by simp [D.le]
theorem yMe {o z r}:D.nils.le (.sl o z r)=(r=[]):=by simp [D.le]
theorem yWf {o z r o' z' r'}:(D.sl o z r).le (.sl o' z' r')=(o=o'∧z=z'∧r=r'):=by simp [D.le]
theorem ySd {a b}:(D.agg a).le (.agg b)=leL a b:=by simp [D.le]
theorem ySb {a b}:(D.tup a).le (.tup b)=leL a b:=by simp [D.le]
theorem yMf:leL [] []=True:=by simp [leL]
theorem yH1 {a b a2 b2}:leL (a::a2) (b::b2)=(a.le b∧leL a2 b2):=by simp [leL]
end
theorem zDg {C:CtrT}{Q:VExit→List D→Prop}{s:List D}{t:VT}{tail:List VO}{s0:List D}(h:∀ K:List D→Prop,K s0→t.wp C K s)(p:yPs C tail Q s0):(VCode.drawT t tail).wp C Q s:=h _ p
end Go.V
namespace Go.V
open Go.RowKit
section
variable {Ctr:CtrT} {s:List D} {K:D→List D→Prop}
def xAh (neg:Bool) (ks:List Nat) (x y:D) (s:List D) (K:D→List D→Prop):Prop:=match x,y with
  | .agg a,.agg b=>zA2 ks a=true∧match zBd a b with
    | some c=>K (.v (.bool (if neg then !c else c))) s
    | none=>False
  | _,_=>False
theorem yXa {neg ks x y}:zAh Ctr s (.eqs neg ks x y) K=xAh neg ks (lk s x) (lk s y) s K:=rfl
def xAi (neg:Bool)(o:Option Bool)(s:List D)(K:D→List D→Prop):Prop:=match o with
  | some c=>K (.v (.bool (if neg then !c else c))) s
  | none=>False
theorem yS7 {neg ks a b}:xAh neg ks (.agg a) (.agg b) s K=(zA2 ks a=true∧xAi neg (zBd a b) s K):=rfl
theorem yXg {c}:xAi true (some c) s K=K (.v (.bool (!c))) s:=rfl
theorem yS8:zBd [] []=some true:=rfl
theorem yS9 {k a b xs ys}:zBd (.v (.int k a)::xs) (.v (.int k b)::ys)=(zBd xs ys).map (decide (a=b)&&·):=by simp [zBd]
theorem ySg:zA2 [] []=true:=rfl
theorem yZd {ks k n ds}:zA2 (1::ks) (.v (.int k n)::ds)=zA2 ks ds:=rfl
theorem yM2 {neg x}:zAh Ctr s (.isnil neg x) K=yBh neg (lk s x) (zG3 s (lk s x)) s K:=rfl
/-! maps -/
theorem yW6 {k}:zAh Ctr s (.mkm k) K=K (.mp k k.e0) s:=rfl
theorem yXj {k}:KK.e0 (.int k)=[]:=rfl
theorem yTc {ks}:KK.e0 (.flat ks)=[]:=rfl
theorem yXk {t e}:KK.e0 (.bld t e)=[(.string ⟨#[]⟩,undef)]:=rfl
def yRm (k:KK)(r:Nat)(q:zBr)(d:D)(e:List (Value×Value))(ou ov:Option Value)(s:List D)(K:D→List D→Prop):Prop:=match ou,ov with
  | some u,some v=>zB6 k u=true∧K .undef (s.set r (setAt d q (.mp k (zQ2 e u v))))
  | _,_=>False
def yL2 (k:KK)(r:Nat)(q:zBr)(d:D)(o:Option D)(ou ov:Option Value)(s:List D)(K:D→List D→Prop):Prop:=match o with
  | some (.mp k' e)=>k'=k∧yRm k r q d e ou ov s K
  | _=>False
def yRn (k:KK)(r:Nat)(q:zBr)(o:Option D)(ou ov:Option Value)(s:List D)(K:D→List D→Prop):Prop:=match o with
  | some d=>yL2 k r q d (zAf d q) ou ov s K
  | none=>False
def yV5 (k:KK)(m:D)(ou ov:Option Value)(s:List D)(K:D→List D→Prop):Prop:=match m with
  | .ref r q=>yRn k r q s[r]? ou ov s K
  | _=>False
theorem yS2 {k m i x}:zAh Ctr s (.mupd k m i x) K=yV5 k (lk s m) (toV (lk s i)) (toV (lk s x)) s K:=rfl
theorem yHf {k r q ou ov}:yV5 k (.ref r q) ou ov s K=yRn k r q s[r]? ou ov s K:=rfl
theorem yDj {k r q d ou ov}:yRn k r q (some d) ou ov s K=yL2 k r q d (zAf d q) ou ov s K:=rfl
theorem yL1 {k r q d e ou ov}:yL2 k r q d (some (.mp k e)) ou ov s K=yRm k r q d e ou ov s K:=by simp [yL2]
theorem yDi {k r q d e u v}:yRm k r q d e (some u) (some v) s K=(zB6 k u=true∧K .undef (s.set r (setAt d q (.mp k (zQ2 e u v))))):=rfl
def yZ9 (k:KK)(z:Value)(ok:Bool)(ou:Option Value)(m:D)(o:Option (KK×List (Value×Value)))(s:List D)(K:D→List D→Prop):Prop:=match ou with
  | some u=>zB6 k u=true∧yRp k z ok u m o s K
  | none=>False
theorem yW4 {k z ok m i}:zAh Ctr s (.mlk k z ok m i) K=yZ9 k z ok (toV (lk s i)) (lk s m) (yDk s (lk s m)) s K:=rfl
theorem yHk {k z ok u m o}:yZ9 k z ok (some u) m o s K=(zB6 k u=true∧yRp k z ok u m o s K):=rfl
def yDq (z:Value)(ok:Bool)(o:Option Value)(s:List D)(K:D→List D→Prop):Prop:=match o with
  | some v=>K (if ok then .tup [ofV v,.v (.bool true)] else ofV v) s
  | none=>K (if ok then .tup [ofV z,.v (.bool false)] else ofV z) s
theorem yL5 {k z ok u m e}:yRp k z ok u m (some (k,e)) s K=yDq z ok (zXx e u) s K:=by unfold yRp yDq;simp only [true_and];cases zXx e u<;>rfl
theorem yRy {z v}:yDq z false (some v) s K=K (ofV v) s:=rfl
theorem yRx {z v}:yDq z true (some v) s K=K (.tup [ofV v,.v (.bool true)]) s:=rfl
theorem yR0 {z}:yDq z false none s K=K (ofV z) s:=rfl
theorem yRz {z}:yDq z true none s K=K (.tup [ofV z,.v (.bool false)]) s:=rfl
def yV8 (m:D) (o:Option (KK×List (Value×Value))) (s:List D) (K:D→List D→Prop):Prop:=match o with
  | some (k,e)=>yDm k (K (.v (.int .i64 (e.length:Int))) s)
  | none=>match m with
    | .v (.map none)=>K (.v (.int .i64 0)) s
    | _=>False
theorem yS3 {m}:zAh Ctr s (.mlen m) K=yV8 (lk s m) (yDk s (lk s m)) s K:=rfl
theorem yDn {m k e}:yV8 m (some (k,e)) s K=yDm k (K (.v (.int .i64 (e.length:Int))) s):=rfl
theorem yHm {k p}:yDm (.int k) p=p:=rfl
theorem yDl {ks p}:yDm (.flat ks) p=p:=rfl
def mpG:Option D→Option (KK×List (Value×Value))
  | some (.mp k e)=>some (k,e)
  | _=>none
def mpF (q:zBr):Option D→Option (KK×List (Value×Value))
  | some d=>mpG (zAf d q)
  | none=>none
theorem yL4 {r q}:yDk s (.ref r q)=mpF q s[r]?:=by unfold yDk mpF mpG;rfl
theorem yL3 {q d}:mpF q (some d)=mpG (zAf d q):=rfl
theorem yV7 {k e}:mpG (some (.mp k e))=some (k,e):=rfl
theorem yYs {x}:toV (.v x)=some x:=rfl
theorem yPg {cs}:toV (.agg cs)=(zKi cs).map fun vs=>.agg ⟨vs⟩:=rfl
theorem yG1:zKi []=some []:=rfl
theorem yG2 {k n ds}:zKi (.v (.int k n)::ds)=(zKi ds).map (.int k n::·):=rfl
theorem yH2 {k n}:zB6 (.int k) (.int k n)=true:=by simp [zB6]
theorem yDt {ks cs}:zB6 (.flat ks) (.agg ⟨cs⟩)=zA9 ks cs:=rfl
theorem yWk:zA9 [] []=true:=rfl
theorem xAt {ks n vs}:zA9 (1::ks) (.int .i64 n::vs)=zA9 ks vs:=rfl
end
attribute [go_sem ↓] yE5 yU3 yJz yPd yEa yJu yMo yIk yD0 yM9 yIm zZt yS6 yPa yO8 yJs yO9 yJt yEr yJv yVa yU9 yVb yT1 yT0 yT2 yQ9 yLu yG8 yNc yLh yLi yW2 yW3 yXe yS1 yS0 yXd yZr yS5 yM4 yXc yM3 yXb yS4 yM1 yZt yZs yW1 yW9 yW8 yXf yW7 yW5 yXa yM2 yW6 yS2 yW4 yS3
attribute [go_sem] yRh yRj yRk yRl yV3 yY7 yRi yL0 yV4 yMq yMt yMr yMs yXn yXo yOl yWb yMa yR4 yR5 yWc yZb yR2 yR3 yMb yR6 yWd yQ2 yGs yY2 yU5 yU6 yJ2 yPi yPn yPo yPp yU8 yYt yJ4 yPl yPm yPq yPj yJ3 yQ4 yLj yVs yGv yDe yLm yLy yHe yVw yVu yVv yUg yT4 yT9 yT7 yT6 yUe yT8 yUa yUb yUc yUd yT5 yUf yNt yU1 yNb yXz yNs zZz yXx yI1 yNe yLa yQw yQv yQu yK8 yPu yK9 yYy yVl yKe zYu zYv yL8 yHq yDr yTb yQr yJ8 yCu yJ9 yQk yQj yGk yC9 yKa yQf yC6 yC5 yQh yQg yX1 yX0 yK0 yF5 yVp yKw yF4 yMj yK6 yW0 ySx yWs yZj yMn yKh yP0 yPy yFm yFp yCx yPk yLt yLs ySy yIu yMd yNv yNw yMu ySp yMv yIn yX6 yNz yN0 yRq ofV ofC D.owny zDy D.prune zAc zAd zF7 List.isEmpty_nil List.isEmpty_cons zAg zIh D.cont zAf setAt D.withCont D.cells D.okCells D.leaf zCt zOl zG6 zMa zJk yFq zT5 splice yZl yZo yZm yZn yIz yD9 yC4 yGy yXp yNf yXr yXs yXt yH5 yH6 yWu yWv yWw yTx zSw yTa yQm yK2 yQn yGr ySf yY4 yY3 xAq yVk xAr yQo zYz yGn zXl yDd zYx zYy yLb yJf zOj yFh yWg ySc yM7 ySe yLr yLf yQ0 yY0 yLe yVn yQz yZc yMe yWf ySd ySb yMf yH1 yS7 yHf yDj yL1 yDi yHk yL5 yRy yRx yR0 yRz yDn yHm yDl yXj yTc yXk yL4 yL3 yV7 yYs yPg yG1 yG2 yH2 yDt yWk xAt xAx yXg yS8 yS9 ySg yZd
end Go.V
namespace Go.V
open Go.RowKit
mutual
theorem D.le_rfl:∀ d:D,d.le d
  | .undef=>by simp [D.le]
  | .nils=>by simp [D.le]
  | .v _=>by simp [D.le]
  | .sl _ _ _=>by simp [D.le]
  | .agg cs=>by simp only [D.le];exact zL1 cs
  | .tup cs=>by simp only [D.le];exact zL1 cs
  | .ref _ _=>by simp [D.le]
  | .ptr _ _ _ _=>by simp [D.le]
  | .sub _ _ _ _=>by simp [D.le]
  | .iptr cs _=>by simp only [D.le];exact ⟨0,by omega,by rw [xCi,xDj];exact zL1 cs⟩
  | .box _ _=>by simp [D.le]
  | .mp _ _=>by simp [D.le]
  | .imp _ _=>by simp [D.le]
  | .fn _ a b=>by simp only [D.le];exact ⟨trivial,zL1 a,zL1 b⟩
theorem zL1:∀ ds:List D,leL ds ds
  | []=>by simp [leL]
  | d::ds=>by simp only [leL];exact ⟨D.le_rfl d,zL1 ds⟩
end
theorem zBs {ds es:List D}(h:ds=es):leL ds es:=h▸zL1 ds
theorem zDf {d e:D}{ds es:List D}(h1:d.le e)(h2:leL ds es):leL (d::ds) (e::es):=by simp only [leL];exact ⟨h1,h2⟩
theorem zEh:leL [] []:=by simp [leL]
theorem le_of_eq {d e:D}(h:d=e):d.le e:=h▸D.le_rfl d
theorem zGx {cs ds:List D}(h:leL cs ds):(D.agg cs).le (.agg ds):=by simp only [D.le];exact h
theorem yH0:∀ {cs ds:List D},leL cs ds→cs.length=ds.length
  | [],[],_=>rfl
  | [],_::_,h=>by simp [leL] at h
  | _::_,[],h=>by simp [leL] at h
  | c::cs,d::ds,h=>by simp only [leL] at h;simp [yH0 h.2]
theorem zEg {cs ds:List D}{j:Nat}(h:leL cs ds):(D.iptr cs j).le (.iptr ds j):=by simp only [D.le];exact ⟨0,by omega,by rw [xCi,← yH0 h,xDj];exact h⟩
theorem zDe {cs ds:List D}{i:Nat}(h:leL ((cs.drop i).take ds.length) ds):(D.iptr cs i).le (.iptr ds 0):=by simp only [D.le];exact ⟨i,by omega,h⟩
theorem zL0 {f:FuncId}{a b c d:List D}(h1:leL a c)(h2:leL b d):(D.fn f a b).le (.fn f c d):=by simp only [D.le];exact ⟨trivial,h1,h2⟩
theorem zGw {d:D}{z:Nat}{rows rows':List (List D)}(h:d=.sl false z (zGa rows))(h2:zGa rows=rows'):d.le (.sl false z rows'):=by rw [h,h2];exact D.le_rfl _
theorem yBo:∀ xs ys:List D,zL7 (xs++ys)=zL7 xs++zL7 ys
  | [],_=>rfl
  | x::xs,ys=>by simp only [xBi,zL7,yBo xs ys]
theorem zCg {o z}:D.nils.le (.sl o z []):=by simp [D.le]
theorem zFl {α:Type}{f g:α→List D}(h:∀ x,zL7 (f x)=g x):∀ xs:List α,zGa (xs.map f)=xs.map g
  | []=>by simp [zGa]
  | x::xs=>by simp only [xA6,zGa,h,zFl h xs]
section
variable {P:Program} {G:World→(Nat→Prop)→Prop} {s:List D} {K:D→List D→Prop} {Q:VExit→List D→Prop}
theorem zZx {f:FuncId}{args:List Operand}{args':List D}{d:D}(hC:Contract P G f args' d)(he:leL (args.map fun x=>deep s 8 (raw s x)) args')(hi:d.noImm=true∨((args.map fun x=>raw s x).all D.noRef)=true)(hK:K d s):zAh (CT P G) s (.callX f args) K :=
  .inl ⟨args',d,he,hC,hi,hK⟩
theorem yCa {x:Operand}{f:FuncId}{first caps:List D}{args:List Operand}{args':List D}{d:D}(hx:lk s x=.fn f first caps)(hC:Contract P G f args' d)(he:leL ((first++args.map (fun x=>raw s x)++caps).map (deep s 8)) args')(hi:d.noImm=true∨(first++args.map (fun x=>raw s x)++caps).all D.noRef=true)(hK:K d s):zAh (CT P G) s (.callvX x args) K:=by simp only [zAh,hx];exact .inl ⟨args',d,he,hC,hi,hK⟩
theorem yTu {f:FuncId}{args:List Operand}{i r:Nat}{tag:Option Nat}{cells args' cells0:List D}{d:D}{cells':List D}(hC:ContractX P G f i args' cells0 d cells')(hi:(args.map fun x=>raw s x)[i]?=some (.ptr r [] 0 0))(hs:s[r]?=some (.box tag cells))
    (hle:leL (((args.map fun x=>raw s x).map (D.prune (zAd r))).map (deep ((zAc (zAd r) s).set r .undef) 8)) args') (hlc:leL (zAc (fun _=>false) cells) cells0) (hn:(d.noImm=true∧zBm cells'=true)∨((args.map fun x=>raw s x).map (D.prune (zAd r))).all D.noRef=true) (hK:K d ((zAc (zF7 r) s).set r (.box tag cells'))):zAh (CT P G) s (.callX f args) K :=
  .inr (.inl ⟨i,r,tag,cells,args',cells0,hi,hs,hle,hlc,fun b _=>⟨d,cells',tag,.inl rfl,hC.at b,hn,hK⟩⟩)
theorem zTn {f:FuncId}{args:List Operand}{i r:Nat}{x:Operand}{d0 d' dnew res:D}{args':List D}(fr:Bool)(hC:ContractL P G f i args' d0 res d')(hx:args[i]?=some x)(hl:yHu s r x fr d0 d' dnew d')(ho:((args.map fun x=>raw s x).set i .undef).all (fun u=>!u.owny)=true)
    (hle:leL ((((args.map fun x=>raw s x).set i .undef).map (D.prune (zAd r))).map (deep ((zAc (zAd r) s).set r .undef) 8)) args') (hn:(fr=false∧res.noImm=true∧d'.noImm=true)∨(fr=true∧(((args.map fun x=>raw s x).set i .undef).map (D.prune (zAd r))).all D.noRef=true)) (hK:K res ((zAc (zAd r) s).set r dnew)):zAh (CT P G) s (.callX f args) K :=
  .inr (.inr (.inl ⟨i,r,x,fr,d0,d',dnew,d',res,args',hx,hl,.inr ho,hle,hC,hn,.inl hK⟩))
theorem yEe {f:FuncId}{args:List Operand}{i j r1 r2:Nat}{x1 x2:Operand}{d1 d1' res:D}{tag:Option Nat}{cells cells' args':List D}(hC:zG2 P G f i j args' [d1,.box none cells] res [d1',.box none cells'])(hi:args[i]?=some x1)(hj:args[j]?=some x2)(hne:r1≠r2)(hs1:s[r1]?=some d1)(hx1:x1=.tmp r1∨lk s x1=.ref r1 [])(hex:d1.exact=true)(hs2:s[r2]?=some (.box tag cells))(hx2:lk s x2=.ptr r2 [] 0 0)(hpc:cells.all D.plain=true)
    (hA:((args.map fun x=>raw s x).set i .undef).set j .undef=args') (hpa:args'.all D.plain=true) (hK:K res ((((zAc (zAd r2) ((zAc (zAd r1) s).set r1 .undef)).set r2 .undef).set r1 d1').set r2 (.box tag cells'))):zAh (CT P G) s (.callX f args) K :=
  .inr (.inr (.inr (.inr (.inl ⟨i,j,r1,r2,x1,x2,d1,d1',tag,cells,cells',res,hi,hj,hne,hs1,hx1,hex,hs2,hx2,hpc,hA▸hpa,hA▸hC,hK⟩))))
theorem yNn {f:FuncId}{args:List Operand}{s':List D}(t:Nat){i r:Nat}{tag:Option Nat}{cells A args' cells0:List D}{d:D}{cells':List D}(hC:ContractX P G f i args' cells0 d cells')(hf:frz t s=s')(hi:(args.map fun x=>raw s' x)[i]?=some (.ptr r [] 0 0))(hs:s'[r]?=some (.box tag cells))
    (hA:((args.map fun x=>raw s' x).map (D.prune (zAd r))).map (deep ((zAc (zAd r) s').set r .undef) 8)=A) (hle:leL A args') (hlc:leL (zAc (fun _=>false) cells) cells0) (hn:(d.noImm=true∧zBm cells'=true)∨((args.map fun x=>raw s' x).map (D.prune (zAd r))).all D.noRef=true) (hK:K d ((zAc (zF7 r) s').set r (.box tag cells'))):zAh (CT P G) s (.callX f args) K:=by
  subst hf;exact .inr (.inr (.inr (.inl ⟨t,i,r,tag,cells,args',cells0,hi,hs,hA▸hle,hlc,fun b _=>⟨d,cells',tag,.inl rfl,hC.at b,hn,hK⟩⟩)))
theorem yCb {f:FuncId}{args:List Operand}{s':List D}(r0 t:Nat){i r:Nat}{tag:Option Nat}{cells A args' cells0:List D}{d:D}{cells':List D}(hC:ContractX P G f i args' cells0 d cells')(hf:pull r0 t s=s')(hi:(args.map fun x=>raw s' x)[i]?=some (.ptr r [] 0 0))(hs:s'[r]?=some (.box tag cells))
    (hA:((args.map fun x=>raw s' x).map (D.prune (zAd r))).map (deep ((zAc (zAd r) s').set r .undef) 8)=A) (hle:leL A args') (hlc:leL (zAc (fun _=>false) cells) cells0) (hn:(d.noImm=true∧zBm cells'=true)∨((args.map fun x=>raw s' x).map (D.prune (zAd r))).all D.noRef=true) (hK:K d ((zAc (zF7 r) s').set r (.box tag cells'))):zAh (CT P G) s (.callX f args) K:=by
  subst hf;exact .inr (.inr (.inr (.inr (.inr (.inr (.inr ⟨r0,t,i,r,tag,cells,args',cells0,hi,hs,hA▸hle,hlc,fun b _=>⟨d,cells',tag,.inl rfl,hC.at b,hn,hK⟩⟩))))))
theorem yNo {f:FuncId}{args:List Operand}{i r:Nat}{tag:Option Nat}{cells A args' cells0:List D}{d:D}{cells':List D}(hC:ContractX P G f i args' cells0 d cells')(hi:(args.map fun x=>raw s x)[i]?=some (.ptr r [] 0 0))(hs:s[r]?=some (.box tag cells))
    (hA:((args.map fun x=>raw s x).map (D.prune (zAd r))).map (deep ((zAc (zAd r) s).set r .undef) 8)=A) (hle:leL A args') (hlc:leL (zAc (fun _=>false) cells) cells0) (hn:(d.noImm=true∧zBm cells'=true)∨((args.map fun x=>raw s x).map (D.prune (zAd r))).all D.noRef=true) (hK:K d ((zAc (zF7 r) s).set r (.box tag cells'))):zAh (CT P G) s (.callX f args) K :=
  yTu hC hi hs (hA▸hle) hlc hn hK
theorem Contract.imm {f:FuncId}{args:List D}{d:D}(h:Contract P G f args d):Contract P G f args d.imm:=by refine ⟨h.1,fun w I us hG hI hV=>(h.2 w I us hG hI hV).mono ?_⟩;rintro e w' ⟨v,F,I',he,hb,hT,hn,hF,hI1,hI2⟩;exact ⟨v,[],fun b=>I' b∨b∈F,he,hb,T.imm (fun b h=>.inl h) d hT (fun b hb=>.inr hb),xC2,fun b hb=>(xGq hb).elim,fun b hb=>.inl (hI1 b hb),fun b hb=>hb.elim (hI2 b) (fun h=>⟨.inr (hF b h).1,(hF b h).2.1⟩)⟩
theorem yNl {f:FuncId}{args:List Operand}{args':List D}{d:D}(hC:Contract P G f args' d)(he:leL (args.map fun x=>deep s 8 (raw s x)) args')(hi:d.noImm=true∨((args.map fun x=>raw s x).all D.noRef)=true)(hK:K d s):zAh (CT P G) s (.call f args) K :=
  .inl ⟨args',d,he,hC,hi,hK⟩
def yYc (x:Value×Value×Value):List D:=[.v x.1,.v x.2.1,.v x.2.2]
theorem zV2 {α:Type}{Ctr:CtrT}{mask:List Bool}{c:VCode}(st:α→List D)(J:α→Prop)(μ:α→Nat)(a:α)(h0:zFs (clr mask s) (st a))(hJ:J a)(h:∀ a,J a→c.wp Ctr (zN4 (fun s''=>∃ b,μ b<μ a∧J b∧zFs (clr mask s'') (st b)) Q) (st a)):(VCode.loop mask c).wp Ctr Q s:=by
  refine yDp (fun n s=>∃ a,μ a=n∧J a∧s=st a) (μ a) ⟨_,h0,a,rfl,hJ,rfl⟩ ?_;rintro n s' ⟨b,rfl,hb,rfl⟩;have e:(fun s''=>∃ m,m<μ b∧∃ s1,zFs (clr mask s'') s1∧∃ a,μ a=m∧J a∧s1=st a)=(fun s''=>∃ a,μ a<μ b∧J a∧zFs (clr mask s'') (st a)):=by funext s'';exact propext ⟨fun ⟨m,h1,s1,h2,a,h3,h4,h5⟩=>⟨a,by omega,h4,h5▸h2⟩,fun ⟨a,h1,h2,h3⟩=>⟨μ a,h1,_,h3,a,rfl,h2,rfl⟩⟩
  rw [e];exact h b hb
theorem wrN {i:Nat}(h:i+1<9223372036854775808):IntKind.i64.wrap ((i:Int)+1)=((i+1:Nat):Int):=IntWalk.i64_in _ qAc
theorem wrI {a:Int}(h1 : -9223372036854775808≤a)(h2:a≤9223372036854775807):IntKind.i64.wrap a=a:=IntWalk.i64_in _ qAc
end
def slG:Option D→Option (Nat×List (List D))
  | some (.sl true sz rows)=>some (sz,rows)
  | _=>none
theorem yKg {q:zBr}{d:D}:slF q (some d)=slG (zAf d q):=by unfold slF slG;rfl
theorem yVd {sz rows}:slG (some (.sl true sz rows))=some (sz,rows):=rfl
def yBi:Option D→Bool
  | some (.box _ _)=>true
  | _=>false
theorem zZl {q:zBr}{d:D}:yBj q (some d)=yBi (zAf d q):=by unfold yBj yBi;rfl
theorem yId {o sz rows}:yBi (some (.sl o sz rows))=false:=rfl
theorem yDv {g cs}:yBi (some (.box g cs))=true:=rfl
def yYa (i:Nat):Option (Nat×List (List D))→Option (List D)
  | some (_,rows)=>rows[i]?
  | none=>none
def yYx (i:Nat):Option D→Option (List D)
  | some t=>yYa i t.cont
  | none=>none
theorem yGj {q:zBr}{i:Nat}{d:D}:yYb q i (some d)=yYx i (zAf d q):=by unfold yYb yYx yYa;rfl
theorem yGi {i:Nat}{t:D}:yYx i (some t)=yYa i t.cont:=rfl
theorem yGh {i:Nat}{n rows}:yYa i (some (n,rows))=rows[i]?:=rfl
theorem yLl {a b c d:Nat}:((a,b)==(c,d))=(a==c&&b==d):=rfl
attribute [go_sem] yLl yKg yVd zZl yId yDv yGj yGi yGh
end Go.V
namespace Go.V
open Go.RowKit
set_option autoImplicit false
def ovr (s:List D):List (Nat×D)→List D
  | []=>s
  | p::r=>ovr (s.set p.1 p.2) r
theorem zBq {s:List D}:ovr s []=s:=rfl
theorem zBb {s:List D}{i:Nat}{d:D}{r:List (Nat×D)}:ovr s ((i,d)::r)=ovr (s.set i d) r:=rfl
theorem zBv {α:Type}{Ctr:CtrT}{mask:List Bool}{c:VCode}{Q:VExit→List D→Prop}{s s0:List D}{st:α→List D}(hs:clr mask s=s0)(ov:α→List (Nat×D))(hst:∀ a,ovr s0 (ov a)=st a)(J:α→Prop)(μ:α→Nat)(a:α)(h0:zFs s0 (st a))(hJ:J a)
    (h:∀ a,J a→c.wp Ctr (zN4 (fun s''=>∃ b,μ b<μ a∧J b∧zFs (clr mask s'') (st b)) Q) (st a)):(VCode.loop mask c).wp Ctr Q s :=
  zV2 st J μ a (hs▸h0) hJ h
theorem zVy {a b:D}{xs ys:List D}:zFs (a::xs) (b::ys)=(nle a b∧zFs xs ys) :=
  propext ⟨fun h=>by simp only [zFs] at h;obtain ⟨e,es,h1,h2,h3⟩:=h;simp only [xCo] at h1;obtain ⟨rfl,rfl⟩:=h1;exact ⟨h2,h3⟩,fun h=>zKk h.1 h.2⟩
theorem zVx:zFs [] []=True:=eq_true zOo
theorem zRm {d:D}:nle d d=True:=eq_true (zZb d)
theorem zRp {t:Option Nat}{cs es:List D}:nle (.box t cs) (.box t es)=zFs cs es :=
  propext ⟨fun h=>by simp only [nle] at h;obtain ⟨e,h1,h2⟩:=h;simp only [D.box.injEq,true_and] at h1;exact h1▸h2,zSy⟩
theorem zRq {cs es:List D}:nle (.agg cs) (.agg es)=zFs cs es :=
  propext ⟨fun h=>by simp only [nle] at h;obtain ⟨e,h1,h2⟩:=h;simp only [D.agg.injEq] at h1;exact h1▸h2,zSz⟩
theorem zRn {sz:Nat}:nle .nils (.sl true sz [])=True:=eq_true zSx
section
variable {P:Program} {G:World→(Nat→Prop)→Prop} {s:List D} {K:D→List D→Prop}
theorem yNm {f:FuncId}{args:List Operand}{A args':List D}{d:D}(hC:Contract P G f args' d)(hA:(args.map fun x=>deep s 8 (raw s x))=A)(he:leL A args')(hi:d.noImm=true∨((args.map fun x=>raw s x).all D.noRef)=true)(hK:K d s):zAh (CT P G) s (.callX f args) K :=
  zZx hC (hA▸he) hi hK
theorem yI6 {f:FuncId}{args:List Operand}{A args':List D}{d:D}(hC:Contract P G f args' d)(hA:(args.map fun x=>deep s 8 (raw s x))=A)(he:leL A args')(hi:d.noImm=true∨((args.map fun x=>raw s x).all D.noRef)=true)(hK:K d s):zAh (CT P G) s (.call f args) K :=
  yNl hC (hA▸he) hi hK
end
section
variable {Ctr:CtrT} {m:List Bool} {next:List D→Prop} {Q:VExit→List D→Prop} {s:List D}
theorem yQt:zSo m next Q .normal s=∃ s1,zFs (clr m s) s1∧next s1:=rfl
theorem zY3 {ds:List D}:zEe s [] ds=s:=by cases ds<;>rfl
theorem zXn {p ps d ds}:zEe s (p::ps) (d::ds)=zEe (zN2 s p d) ps ds:=rfl
theorem yLg {g:Operand}{ps:List Nat}{va vb:VCode}{F:FuncId}{caps:List D}(hg:lk s g=.fn F [] caps){N:Nat}(xs:Nat→List D)(hi:Ctr.i F (zAc (fun _=>false) caps) ((List.range N).map xs))(hl:∀ i,i<N→(xs i).length=ps.length)(st:Nat→List D)(h0:zFs (clr m s) (st 0))
    (hr:∀ i,i<N→va.wp Ctr (zN4 (vb.wp Ctr (zSo m (fun s1=>s1=st (i+1)) Q)) (fun _ _=>False)) (zEe (st i) ps (xs i))) (hd:Q .normal (st N)):(VCode.rangeF g ps m va vb).wp Ctr Q s:=by
  simp only [VCode.wp,hg];refine .inl ⟨(List.range N).map xs,hi,fun x hx=>?_,fun i s'=>s'=st i,⟨_,h0,rfl⟩,fun i s' x hs hx=>?_,fun s' hs=>?_⟩
  · obtain ⟨i,hi,rfl⟩:=xB1.1 hx;exact hl i qAp
  · subst hs;have hlt:i<N:=by have:=(xA4.1 hx).1;simpa using this
    have:x=xs i:=(by rw [xAy,xEt hlt] at hx;simpa using hx.symm);rw [this];exact hr i hlt
  · subst hs;simpa using hd
theorem yA0 {P:Program}{G:World→(Nat→Prop)→Prop}{g:Operand}{ps:List Nat}{va vb:VCode}{F:FuncId}{caps caps':List D}(hg:lk s g=.fn F [] caps)(hc:zAc (fun _=>false) caps=caps'){N:Nat}(xs:Nat→List D)(hi:yJh P G F caps' ((List.range N).map xs))(hl:∀ i,i<N→(xs i).length=ps.length){s0:List D}(hs:clr m s=s0)(ov:Nat→List (Nat×D)){st:Nat→List D}(hst:∀ i,ovr s0 (ov i)=st i)(h0:zFs s0 (st 0))
    (hr:∀ i,i<N→va.wp (CT P G) (zN4 (vb.wp (CT P G) (zSo m (fun s1=>s1=st (i+1)) Q)) (fun _ _=>False)) (zEe (st i) ps (xs i))) (hd:Q .normal (st N)):(VCode.rangeF g ps m va vb).wp (CT P G) Q s :=
  yLg (Ctr:=CT P G) hg xs (hc▸hi) hl st (hs▸h0) hr hd
end
attribute [go_sem] yQt zY3 zXn
end Go.V
