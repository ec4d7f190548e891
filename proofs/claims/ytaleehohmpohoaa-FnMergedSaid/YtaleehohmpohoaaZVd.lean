/- Laws that the proof stands on. -/
import Derived.Test.YtaleehohmpohoaaZVc
set_option linter.all false
namespace Go.V
open Go.RowKit
/-! ### Regions that draw, order by order: what hangs on no memory goes first -/
def yBy:Op→VOp→Bool
  | .move _,.mv _=>true
  | .fieldAddr _ _ _,.fa _ _=>true
  | .indexAddr _ _ _,.ia _ _ _=>true
  | .call _,.len _=>true
  | .binOp _ _ _ _ _,.bin _ _ _=>true
  | _,_=>false
section
variable (P:Program)
def yTh (ops:Array Oper)(oi:Oper)(i:Nat):Bool:=(List.range ops.size).all fun j=>j==i||match ops[j]? with
  | some oj=>oj.after.any (fun e=>Region.binds .any e&&e.on==i)||oi.after.any (fun e=>Region.binds .any e&&e.on==j)||oi.apart ops oj
  | none=>true
def xAo (ops:Array Oper)(i:Nat):Bool:=match ops[i]? with
  | some o=>o.guard.isNone&&(match cOp P false o.op with | some v=>yBy o.op v | none=>false)&&yTh ops o i
  | none=>false
def yYl (ops:Array Oper)(nh:Nat):List Nat:=(List.range nh).filter (xAo P ops)
def yG9 (ops:Array Oper) (M:List Nat) (nh:Nat):Nat→Nat→Array Bool→Option (VT×Nat)
  | fuel,bud,listed =>
    if (bud==0)=true then none else
    if (decide (fuel=ops.size-nh)&&listed==zCj ops.size nh&&Region.seqB .any ops (ops.size-nh) nh listed)=true then some (.done,bud-1) else
    match fuel with
    | 0=>none
    | f+1=>match (Region.ready .any ops listed).find? (fun i=>M.contains i) with
      | some i=>xAn P (fun i b=>yG9 ops M nh f b (listed.setIfInBounds i true)) ops i (bud-1)
      | none=>if ((Region.ready .any ops listed).isEmpty||!(Region.ready .any ops listed).all (fun i=>decide (i<nh)))=true then none else yMv P (fun i b=>yG9 ops M nh f b (listed.setIfInBounds i true)) ops (Region.ready .any ops listed) (bud-1)
def zX3 (ops:Array Oper) (nh:Nat):Option VCode :=
  if (P.follows .mixedOrders&&Region.noSelect ops&&decide (nh≤ops.size))=true then
    match yG9 P ops (yYl P ops nh) nh ops.size 1200 (Array.replicate ops.size false),zUq P ops (ops.toList.drop nh) with
    | some (t,_),some tail=>some (.drawT t tail)
    | _,_=>none
  else none
end
section
variable {P:Program} {G:World→(Nat→Prop)→Prop} {w0:Base} {I0:Nat→Prop}
theorem yBz {ops:Array Oper} {i:Nat} {oi:Oper} {listed:Array Bool} (hi:ops[i]?=some oi) (h:yTh ops oi i=true) (hr:i∈Region.ready .any ops listed):Region.free .any ops listed i=true:=by
  obtain ⟨_,o',ho',hed⟩:=mem_ready.1 hr;rw [hi] at ho';cases ho';unfold Region.free;rw [hi];simp only;unfold yTh at h;rw [xEh] at h ⊢;intro j hj;have h1:=h j hj;cases ho:ops[j]? with
  | none=>simp
  | some oj =>
    rw [ho] at h1;simp only at h1;rcases xH2.1 h1 with h2 | h2
    · rw [h2];rfl
    · rcases xH2.1 h2 with h3 | h3
      · rcases xH2.1 h3 with h4 | h4
        · simp only [h4,xFt,xFi]
        · obtain ⟨e,he,hb⟩:=Array.any_eq_true'.1 h4;simp only [xDn,beq_iff_eq] at hb;have h5:=hed e he hb.1;rw [hb.2] at h5;have h6:listed.getD j true=true:=by
            rcases xJb j listed.size with h' | h'
            · simp [h'] at h5 ⊢;exact h5
            · simp [xE4 h']
          simp only [h6,xFi,xFt]
      · simp only [h3,xFi]
def yCl (P:Program)(m:Sem Next):Prop:=∃ v,∀ w,m.run P w=.ok (.value v) w
variable {Ctr:CtrT} {s:List D} {a:Act} {w:World} {I:Nat→Prop} {Fs:Nat→List Nat} {K:D→List D→Prop}
theorem yI7 (h:RelI w0 I0 s a.tmps w I Fs){off n:Nat}{x:Operand}{st:TypeId}{f:Nat}{fs:Array Field}{fd:Field}{o:Oper}(ho:o.op=.fieldAddr st x f)(hs:P.underlying st=some (.struct fs))(hf:fs[f]?=some fd)(hn:(P.info? fd.type).map (·.size)=some (n+1))(hk:zAn Ctr s (.fa off x) K):yCl P (execOp a.eval o):=by
  have hx:=zDg h x;simp only [zAn] at hk;split at hk
  · rename_i r q i j e;rw [e] at hx;simp only [T] at hx;obtain ⟨⟨d,u0,t,sz,rows,u1,b,oo,h1,h2,h3,h4,h5,h6,h7⟩,_⟩:=hx;exact ⟨.pointer (some ⟨b,oo+i*sz+j+fd.offset,none⟩),fun w'=>by simp [execOp,ho,h7,Instr.fieldAt,run_underlying hs,hf,Instr.sureAddr,zFp hn]⟩
  · rename_i c j e;rw [e] at hx;simp only [T] at hx;obtain ⟨_,b,oo,raw,e',hI,hr,hc⟩:=hx;exact ⟨.pointer (some ⟨b,oo+j+fd.offset,none⟩),fun w'=>by simp [execOp,ho,e',Instr.fieldAt,run_underlying hs,hf,Instr.sureAddr,zFp hn]⟩
  · exact hk.elim
theorem yI6 (h:RelI w0 I0 s a.tmps w I Fs) {sz:Nat} {x i:Operand} {xt et:TypeId} {o:Oper} (ho:o.op=.indexAddr xt x i) (hx:P.underlying xt=some (.slice et)) (hsz:(P.info? et).map (·.size)=some sz) (hk:zAn Ctr s (.ia sz x i) K):yCl P (execOp a.eval o):=by
  have hX:=zDg h x;have hI:=zDg h i;have hrun:∀ (k:IntKind) (n:Int) (b oo l c:Nat),a.eval i=.int k n→a.eval x=.slice (some ⟨b,oo,none⟩) l c→0≤n→n<l→yCl P (execOp a.eval o):=by
    intro k n b oo l c e1 e2 h1 h2;cases hq:P.info? et with
    | none=>simp [hq] at hsz
    | some ii=>simp [hq] at hsz;exact ⟨.pointer (some ⟨b,oo+n.toNat*sz,none⟩),fun w'=>by simp [execOp,ho,e1,e2,Instr.indexAt,asIntOf,run_underlying hx,h1,h2,sizeOf,typeInfo,hq,hsz,Addr.add_mid]⟩
  simp only [zAn] at hk;split at hk
  · rename_i k n r q e1 e2;rw [e1] at hI;rw [e2] at hX;split at hk
    · rename_i sz' rows e3;obtain ⟨h1,h2,rfl,hK⟩:=hk;obtain ⟨F',ρ',k2,_⟩:=zH1 h hX e3;have hlt:n.toNat<rows.length:=by omega
      obtain ⟨b,oo,us,F2,ρ2,hb,_⟩:=yEn k2 (by rfl) (xDl hlt);obtain ⟨ad,c,e4,_,_⟩:=zFu k2;rw [e4] at hb;have:ad=some ⟨b,oo,none⟩:=by
        cases ad with
        | none=>simp [zBa] at hb
        | some z=>obtain ⟨z1,z2,z3⟩:=z;cases z3<;>simp [zBa] at hb;simp [hb]
      subst this;exact hrun k n b oo _ c (T_v hI).1 e4 h1 h2
    · exact hk.elim
  · rename_i k n sz' rows e1 e2;rw [e1] at hI;rw [e2] at hX;obtain ⟨h1,h2,rfl,row,hrow,hK⟩:=hk;simp only [T] at hX;obtain ⟨ad,c,e4,_,_,h3⟩:=hX;rcases h3 with ⟨_,_,h3⟩ | ⟨h3,_⟩
    · rcases h3 with h3 | ⟨b,oo,raw,rfl,hIb,hr,hR⟩
      · subst h3;simp at hrow
      · exact hrun k n b oo _ c (T_v hI).1 e4 h1 h2
    · simp at h3
  · exact hk.elim
theorem yDf (h:RelI w0 I0 s a.tmps w I Fs){x:Operand}{xt e:TypeId}{args:Array TypeId}{o:Oper}(ho:o.op=.call { callee:=.builtin .len,args:=#[x],argTypes:=args })(ha:args[0]?=some xt)(hx:P.underlying xt=some (.slice e))(hk:zAn Ctr s (.len x) K):yCl P (execOp a.eval o):=by
  have hX:=zDg h x;simp only [zAn] at hk;split at hk
  · rename_i sz rows e1;obtain ⟨b,c,e2,_⟩:=yDs h hX e1;exact ⟨.int .i64 rows.length,fun w'=>by simp [execOp,ho,resolve,invoke,builtin,Builtin.len_,ha,e2,run_underlying hx,goInt]⟩
  · exact hk.elim
theorem yDg (h:RelI w0 I0 s a.tmps w I Fs){op:BinOp}{x y:Operand}{xt yt:TypeId}{o:Oper}(ho:o.op=.binOp op xt x y yt)(hk:zAn Ctr s (.bin op x y) K):yCl P (execOp a.eval o):=by
  have hx:=zDg h x;have hy:=zDg h y;simp only [zAn] at hk;split at hk
  · rename_i k b1 k' b2 e1 e2;rw [e1] at hx;rw [e2] at hy;obtain ⟨v,hv,hr⟩:=zZc (P:=P) hk xt;refine ⟨v,fun w'=>?_⟩;have hg:(eqGuard op xt x y (.int k b1) (.int k' b2)).run P w'=.ok () w':=by unfold eqGuard;split<;>rfl
    simp only [execOp,ho,(T_v hx).1,(T_v hy).1,Sem.run_bind,hg,Result.andThen_ok,hr];rfl
  · rename_i b1 b2 e1 e2;rw [e1] at hx;rw [e2] at hy;obtain ⟨v,hv,hr⟩:=zYb (P:=P) hk xt;refine ⟨v,fun w'=>?_⟩;have hg:(eqGuard op xt x y (.string b1) (.string b2)).run P w'=.ok () w':=by unfold eqGuard;split<;>rfl
    simp only [execOp,ho,(T_v hx).1,(T_v hy).1,Sem.run_bind,hg,Result.andThen_ok,hr];rfl
  · exact hk.elim
theorem yI5 (h:RelI w0 I0 s a.tmps w I Fs) {o:Oper} {v:VOp} (hf:yBy o.op v=true) (hc:cOp P false o.op=some v) (hk:zAn Ctr s v K):yCl P (execOp a.eval o):=by
  cases hop:o.op with
  | move x=>exact ⟨a.eval x,fun w'=>by simp only [execOp,hop];rfl⟩
  | fieldAddr st x f =>
    rw [hop] at hc;simp only [cOp] at hc;split at hc
    · rename_i fs hs;split at hc
      · rename_i fd hfd;split at hc
        · rename_i i hi;split at hc
          · rename_i hpos;simp only [xDi] at hc;subst hc;exact yI7 (n:=i.size-1) h hop hs hfd (by rw [hi];simp;omega) hk
          · cases hc
        · cases hc
      · cases hc
    · cases hc
  | indexAddr t x i =>
    rw [hop] at hc hf;simp only [cOp] at hc;split at hc
    · rename_i e hs;split at hc
      · rename_i ie hi;simp only [xDi] at hc;subst hc;exact yI6 h hop hs (by rw [hi];rfl) hk
      · cases hc
    · split at hc
      · simp only [xDi] at hc;subst hc;simp [yBy] at hf
      · cases hc
    · cases hc
  | binOp op xt x y yt =>
    rw [hop] at hc hf;have:∀ op2 x2 y2,v=.bin op2 x2 y2→op2=op∧x2=x∧y2=y:=by
      rintro op2 x2 y2 rfl;simp only [cOp] at hc
      repeat' split at hc
      all_goals simp_all
    cases v<;>simp only [yBy,xDr] at hf;obtain ⟨rfl,rfl,rfl⟩:=this _ _ _ rfl;exact yDg h hop hk
  | call c =>
    rw [hop] at hc hf;obtain ⟨callee,args,ats⟩:=c;cases v<;>simp only [yBy,xDr] at hf;rename_i x;simp only [cOp] at hc;split at hc
    · simp at hc
    · simp at hc
    · split at hc
      · rename_i y t ha ht;split at hc
        · simp at hc
        · rename_i e hu;simp only [xDi,VOp.len.injEq] at hc;subst hc;rw [xAs ha] at hop;exact yDf h hop ht hu hk
        · simp at hc
        · cases hc
      · cases hc
    all_goals exfalso;revert hc;repeat' split
    all_goals simp
  | _=>rw [hop] at hf;simp [yBy] at hf
inductive OKF (P:Program) (ops:Array Oper) (nh:Nat):VT→Nat→Array Bool→List Nat→Prop
  | done {fuel listed rdy}:fuel=ops.size-nh→listed=zCj ops.size nh→Region.seqB .any ops (ops.size-nh) nh listed=true→OKF P ops nh .done fuel listed rdy
  | nil {fuel listed}:OKF P ops nh .nil fuel listed []
  | h {i o op sub f listed rdy}:ops[i]?=some op→cVO P false ops op=some o→xAo P ops i=true→i∈Region.ready .any ops listed→OKF P ops nh sub f (listed.setIfInBounds i true) (Region.ready .any ops (listed.setIfInBounds i true))→(sub=.nil→False)→OKF P ops nh (.h i o sub) (f+1) listed rdy
  | br {i o op sub rest f listed is}:ops[i]?=some op→cVO P false ops op=some o→OKF P ops nh sub f (listed.setIfInBounds i true) (Region.ready .any ops (listed.setIfInBounds i true))→(sub=.nil→False)→OKF P ops nh rest (f+1) listed is→(rest=.done→False)→(∀ a b c,rest=.h a b c→False)→OKF P ops nh (.br i o sub rest) (f+1) listed (i::is)
theorem zS0 {ops:Array Oper} {nh f:Nat} {listed:Array Bool} {g:Nat→Nat→Option (VT×Nat)} (hg:∀ i b t b',g i b=some (t,b')→OKF P ops nh t f (listed.setIfInBounds i true) (Region.ready .any ops (listed.setIfInBounds i true))∧(t=.nil→False)):∀ (is:List Nat) {bud:Nat} {t:VT} {b':Nat},yMv P g ops is bud=some (t,b')→OKF P ops nh t (f+1) listed is∧(t=.done→False)∧(∀ a b c,t=.h a b c→False)∧(t=.nil→is=[])
  | [],bud,t,b',h=>by simp only [yMv,xDi,xD0] at h;obtain ⟨rfl,_⟩:=h;exact ⟨.nil,(fun h=>by cases h),(fun _ _ _ h=>by cases h),fun _=>rfl⟩
  | i :: is,bud,t,b',h=>by
    simp only [yMv] at h;split at h
    · rename_i op hop;split at h
      · rename_i o ho;split at h
        · rename_i sub b1 hs;split at h
          · rename_i rest b2 hr;simp only [xDi,xD0] at h;obtain ⟨rfl,_⟩:=h;obtain ⟨h1,h2⟩:=hg _ _ _ _ hs;obtain ⟨h3,h4,h5,_⟩:=zS0 hg is hr;exact ⟨.br hop ho h1 h2 h3 h4 h5,(fun h=>by cases h),(fun _ _ _ h=>by cases h),(fun h=>by cases h)⟩
          · cases h
        · cases h
      · cases h
    · cases h
theorem zOs {ops:Array Oper} {M:List Nat} (hM:∀ i,i∈M→xAo P ops i=true) {nh:Nat}:∀ (fuel:Nat) {bud:Nat} {listed:Array Bool} {t:VT} {b':Nat},yG9 P ops M nh fuel bud listed=some (t,b')→OKF P ops nh t fuel listed (Region.ready .any ops listed)∧(t=.nil→False)
  | fuel, bud,listed,t,b',h=>by
    unfold yG9 at h;split at h
    · cases h
    · split at h
      · rename_i hd;simp only [xDn,decide_eq_true_eq,beq_iff_eq] at hd;simp only [xDi,xD0] at h;obtain ⟨rfl,_⟩:=h;exact ⟨.done hd.1.1 hd.1.2 hd.2,(fun h=>by cases h)⟩
      · cases fuel with
        | zero=>cases h
        | succ f =>
          simp only at h;split at h
          · rename_i i hf;have hmem:=xGm hf;have hp:=xHt hf;unfold xAn at h;split at h
            · rename_i op hop;split at h
              · rename_i o ho;split at h
                · rename_i sub b1 hs;simp only [xDi,xD0] at h;obtain ⟨rfl,_⟩:=h;obtain ⟨h1,h2⟩:=zOs hM f hs;exact ⟨.h hop ho (hM i (by simpa using hp)) hmem h1 h2,(fun h=>by cases h)⟩
                · cases h
              · cases h
            · cases h
          · split at h
            · cases h
            · rename_i hne;simp only [xF4,xGb,not_or] at hne;obtain ⟨h1,h2,_,h3⟩:=zS0 (nh:=nh) (f:=f) (listed:=listed) (fun i b t b' hgt=>zOs hM f hgt) _ h;refine ⟨h1,fun h=>?_⟩;rw [h3 h] at hne;exact hne.1 rfl
theorem yDw (hcl:∀ w',w0.Below w'→GI G w' I0) {ops:Array Oper} {nh:Nat} {Q:Exit→Act→World→Prop} (hQn:NoX Q) {KT:List D→Prop} (hs:Region.noSelect ops=true) (hT:∀ s a w,KT s→Rel w0 I0 s a w→wpList P ops Q (ops.toList.drop nh) a w) {t:VT} {fuel:Nat} {VL:Array Bool} {rdy:List Nat} (ok:OKF P ops nh t fuel VL rdy) :
    ((t=.done∨∃ i o sub,t=.h i o sub)→∀ (s:List D) (a:Act) (w:World),t.wp (CT P G) KT s→Rel w0 I0 s a w→wpAny P .any ops Q fuel VL a w) ∧
    ((t=.nil∨∃ i o sub rest,t=.br i o sub rest)→∀ (s:List D) (a:Act) (w:World),t.wp (CT P G) KT s→Rel w0 I0 s a w→∀ i∈rdy,wpOp P ops Q i (wpAny P .any ops Q (fuel-1) (VL.setIfInBounds i true)) a w):=by
  have up:∀ {t:VT} {f:Nat} {VL:Array Bool},OKF P ops nh t f VL (Region.ready .any ops VL)→(t=.nil→False) →
      (((t=.done∨∃ i o sub,t=.h i o sub)→∀ (s:List D) (a:Act) (w:World),t.wp (CT P G) KT s→Rel w0 I0 s a w→wpAny P .any ops Q f VL a w) ∧
      ((t=.nil∨∃ i o sub rest,t=.br i o sub rest)→∀ (s:List D) (a:Act) (w:World),t.wp (CT P G) KT s→Rel w0 I0 s a w→∀ i∈Region.ready .any ops VL,wpOp P ops Q i (wpAny P .any ops Q (f-1) (VL.setIfInBounds i true)) a w)) →
      ∀ (s:List D) (a:Act) (w:World),t.wp (CT P G) KT s→Rel w0 I0 s a w→wpAny P .any ops Q f VL a w:=by
    intro t f VL ok hnn ih s a w hk hR;cases t with
    | done=>exact ih.1 (.inl rfl) s a w hk hR
    | nil=>exact (hnn rfl).elim
    | h i o sub=>exact ih.1 (.inr ⟨_,_,_,rfl⟩) s a w hk hR
    | br i o sub rest =>
      obtain ⟨f2,is,rfl,hrr⟩:∃ f2 is,f=f2+1∧Region.ready .any ops VL=i::is:=by
        generalize Region.ready .any ops VL=rr at ok;cases ok with
        | br=>exact ⟨_,_,rfl,rfl⟩
      have:=ih.2 (.inr ⟨_,_,_,_,rfl⟩) s a w hk hR;exact ⟨fun h0=>(by rw [hrr] at h0;cases h0),this⟩
  induction ok with
  | @done fuel listed rdy h1 h2 h3 =>
    subst h1;subst h2;refine ⟨fun _ s a w hk hR=>?_,(fun h=>by rcases h with h | ⟨_,_,_,_,h⟩<;>cases h)⟩;have hl:(ops.toList.drop nh).length=ops.size-nh:=by simp
    have:=wpAny_of_seq (P:=P) (md:=.any) (ops:=ops) (Q':=Q) (ops.toList.drop nh) nh (zCj ops.size nh) a w (fun j=>by simp [xF1]) (by rw [hl];exact h3) (hT s a w hk hR);rw [hl] at this;exact this
  | nil=>exact ⟨(fun h=>by rcases h with h | ⟨_,_,_,h⟩<;>cases h),(fun _ _ _ _ _ _ i hi=>by cases hi)⟩
  | @h i o op sub f listed rdy hop ho hfr hrd hsub hsn ih =>
    refine ⟨fun _ s a w hk hR=>?_,(fun h=>by rcases h with h | ⟨_,_,_,_,h⟩<;>cases h)⟩;simp only [VT.wp] at hk;unfold xAo at hfr;rw [hop] at hfr;simp only [xDn] at hfr;obtain ⟨⟨hg,hfv⟩,hfree⟩:=hfr;have hg:op.guard=none:=by simpa using hg
    obtain ⟨hd,I,Fs,hRI⟩:=hR;have hGw:GI G w I0:=hcl _ hRI.below;have hv:=ho;simp only [cVO,hg,zF4] at hv;cases hcop:cOp P false op.op with
    | none=>simp [hcop] at hv
    | some vop =>
    simp only [hcop,xDi] at hv;rw [hcop] at hfv;subst hv;simp only [zIq] at hk;obtain ⟨u,hu⟩:=yI5 hRI hfv hcop hk;have hrun:=zQq (nn:=false) hGw hRI (fun h=>by cases h) hcop hk;unfold RunsTo at hrun;rw [hu] at hrun;obtain ⟨d,s',I',Fs',F,hK,hR',hT',hF,_⟩:=hrun;have hR2:Rel w0 I0 (match op.dst with | some t=>zMz s' t d | none=>s') (a.put op.dst u) w:=zKb hd hR' hT' hF;have hwant:∀ y,Region.wanted op y=true:=fun y=>by unfold Region.wanted;rw [hg]
    exact wpAny_take hop hs (yBz hop hfree hrd) (by simpa using hrd) (fun c a w h=>by have:=hQn _ _ _ h;cases this) (.inl ⟨hwant _,hu⟩) (up hsub hsn ih _ _ w hK hR2)
  | @br i o op sub rest f listed is hop ho hsub hsn hrest hrd hrh ih1 ih2 =>
    refine ⟨(fun h=>by rcases h with h | ⟨_,_,_,h⟩<;>cases h),fun _ s a w hk hR j hj=>?_⟩;simp only [VT.wp] at hk;by_cases hji:j=i
    · subst hji;exact zYe hcl hop ho hk.1 rfl rfl (fun s' u w' hk' hR'=>up hsub hsn ih1 s' _ w' hk' hR') hR
    · have hj':j∈is:=by
        rcases xEf.1 hj with h | h
        · exact absurd h hji
        · exact h
      cases rest with
      | done=>exact (hrd rfl).elim
      | nil=>cases hrest;cases hj'
      | h i2 o2 s2=>exact (hrh _ _ _ rfl).elim
      | br i2 o2 s2 r2=>exact ih2.2 (.inr ⟨_,_,_,_,rfl⟩) s a w hk.2 hR j hj'
theorem yAf (hcl:∀ w',w0.Below w'→GI G w' I0) {ops:Array Oper} {nh:Nat} {vc:VCode} (hc:zX3 P ops nh=some vc) {VQ:VExit→List D→Prop} {Q:Exit→Act→World→Prop} (hQn:NoX Q) {s:List D} (hk:vc.wp (CT P G) VQ s) (hQ:∀ s a w,VQ .normal s→Rel w0 I0 s a w→Q .normal a w) {a:Act} {w:World} (h:Rel w0 I0 s a w):RegAny P ops Q a w:=by
  unfold zX3 at hc;split at hc
  · rename_i hm;simp only [xDn] at hm;split at hc
    · rename_i t b tail hg ht;simp only [xDi] at hc;subst hc;simp only [VCode.wp] at hk;obtain ⟨ok,hnn⟩:=zOs (fun i hi=>by unfold yYl at hi;exact (xH6.1 hi).2) _ hg;obtain ⟨hd,I,Fs,hR⟩:=h;have hR':Rel w0 I0 s a { w with drawn:=w.drawn+1 }:=⟨hd,I,Fs,hR.world (w':={ w with drawn:=w.drawn+1 }) ((Below.refl _ w).drew)⟩
      have hT:∀ s a w,zMj (CT P G) s tail (VQ .normal)→Rel w0 I0 s a w→wpList P ops Q (ops.toList.drop nh) a w:=fun s a w hk h=>zIx hcl ops (KK:=VQ .normal) hQ _ tail s a w ht hk h;have:=yDw (nh:=nh) (Q:=Q) hcl hQn hm.1.2 (KT:=fun s'=>zMj (CT P G) s' tail (VQ .normal)) hT ok;refine ⟨hm.1.1,?_⟩;cases t with
      | done=>exact this.1 (.inl rfl) s a _ hk hR'
      | nil=>exact (hnn rfl).elim
      | h i o sub=>exact this.1 (.inr ⟨_,_,_,rfl⟩) s a _ hk hR'
      | br i o sub rest =>
        obtain ⟨f2,is,hf,hrr⟩:∃ f2 is,ops.size=f2+1∧Region.ready .any ops (Array.replicate ops.size false)=i::is:=by
          generalize Region.ready .any ops (Array.replicate ops.size false)=rr at ok;generalize Array.replicate ops.size false=ll at ok;generalize ops.size=nn at ok;cases ok with
          | br=>exact ⟨_,_,rfl,rfl⟩
        have h2:=this.2 (.inr ⟨_,_,_,_,rfl⟩) s a _ hk hR';rw [hf] at h2 ⊢;refine ⟨fun h0=>?_,?_⟩
        · rw [← hf,hrr] at h0;cases h0
        · exact h2
    · cases hc
  · cases hc
end
end Go.V
namespace Go.V
open Go.RowKit
def tmpsOf:List Operand→List Nat
  | []=>[]
  | .tmp t::l=>t::tmpsOf l
  | _::l=>tmpsOf l
def VOp.eats:VOp→List Nat
  | .asg x=>tmpsOf [x]
  | .box x=>tmpsOf [x]
  | .build _ ps=>tmpsOf (ps.map (·.2.2))
  | .bslN _ ps=>tmpsOf ps
  | .appN _ _ x y=>tmpsOf [x,y]
  | .app _ _ x y=>tmpsOf [x,y]
  | _=>[]
def yWd (l:List Nat):Nat:=l.foldl (fun m t=>max m (t+1)) 0
def zFt (l:List Nat):List Bool:=(List.range (yWd l)).map fun i=>l.contains i
def yS5 (ops:Array Oper) (o:Oper):Bool :=
  match o.op with
  | .call c=>match c.callee with
    | .builtin .append=>match c.args.toList with
      | .tmp t::_=>ops.toList.any fun p=>p.dst==some t&&(match p.op with | .load _ _=>true | .move _=>true | _=>false)
      | _=>false
    | _=>false
  | _=>false
section
variable (P:Program)
def zUr (ops:Array Oper) (w:Option Nat):List Nat→Option (List (Nat×VO))
  | []=>some []
  | i :: is=>match ops[i]? with
    | some o=>match cVO P (w != some i) ops o,zUr ops w is with
      | some v,some vs=>some ((i,v)::vs)
      | _,_=>none
    | none=>none
end
def dstsOf (vos:List (Nat×VO)):List Nat:=vos.filterMap fun v=>v.2.dst
def yXu (bs:List Nat)(start:List Bool)(vos:List (Nat×VO))(v:Nat×VO):DOp where
  idx:=v.1
  hid:=(List.range start.length).map fun r=>start.getD r false&&!(vos.any (fun e=>e.2.dst==some r&&(bs.getD v.1 0).testBit e.1)&&vos.all (fun j=>j.1==v.1||(bs.getD j.1 0).testBit v.1||!(j.2.op.eats.contains r)))
  cl:=zFt (v.2.op.eats.filter fun t=>vos.any fun e=>e.2.dst==some t&&(bs.getD v.1 0).testBit e.1)
  vo:=v.2
def yOK (o:DOp):Bool:=match o.vo.op with
  | .app _ _ _ (.tmp t)=>o.cl.getD t false
  | _=>true
section
variable (P:Program)
def yHz (ops:Array Oper) (bs:List Nat) (nh n1:Nat) (start:List Bool) (H:List DOp) (tail:List VO):Option VCode :=
  if (P.follows .mixedOrders&&drawB ops H start nh)=true then
    match H.drop n1 with
    | []=>if H.all (fun o=>o.vo.op.framed)=true then some (.draw start (zPt H) H tail) else none
    | o::l2=>if ((H.take n1).all (fun o=>o.vo.op.framed)&&l2.all (fun o=>o.vo.op.framed)&&(H.take n1).all (fun k=>(bs.getD o.idx 0).testBit k.idx)&&o.vo.guard.isNone&&yOK o)=true then some (.drawW start (zPt H) (H.take n1) o l2 tail) else none
  else none
def zWh (ops:Array Oper) (bs:List Nat) (nh n1:Nat):Option (List (Nat×VO))→Option VCode
  | some vos=>match zUq P ops (ops.toList.drop nh) with
    | some tail=>yHz P ops bs nh n1 (zFt (dstsOf vos)) (vos.map (yXu bs (zFt (dstsOf vos)) vos)) tail
    | none=>none
  | none=>none
def yZv (ops:Array Oper)(bs:List Nat)(nh:Nat):Option Nat→Option VCode
  | none=>zWh P ops bs nh nh (zUr P ops none (List.range nh))
  | some w=>zWh P ops bs nh ((List.range nh).filter fun i=>(bs.getD w 0).testBit i).length (zUr P ops (some w) (((List.range nh).filter fun i=>(bs.getD w 0).testBit i)++w::(List.range nh).filter fun i=>i != w&&!(bs.getD w 0).testBit i))
def zGl (ops:Array Oper)(bs:List Nat):Nat:=((List.range (ops.size+1)).find? fun i=>(List.range ops.size).all fun t=>decide (t<i)||bs.getD t 0==2 ^ t-1).getD ops.size
def yFg (ops:Array Oper)(nh:Nat):Option Nat:=(List.range nh).find? fun i=>match ops[i]? with | some o=>yS5 ops o | none=>false
def yH0 (ops:Array Oper):Option VCode:=yZv P ops (zF0 ops) (zGl ops (zF0 ops)) (yFg ops (zGl ops (zF0 ops)))
def yOu (ops:Array Oper) (nh:Nat):List Fl:=(List.range nh).filterMap fun j=>match ops[j]? with
  | some o=>match o.op with
    | .store ty (.tmp t) _=>match P.info? ty with
      | some ti=>some ⟨t,ti.size,j,(List.range nh).find? fun i=>match ops[i]? with
        | some o'=>o'.dst==some t
        | none=>false⟩
      | none=>none
    | _=>none
  | none=>none
def zTa (ops:Array Oper) (fl:List Fl):List Nat→Option (List (Nat×VO))
  | []=>some []
  | i::is=>match cVB P ops fl i,zTa ops fl is with
    | some v,some vs=>some ((i,v)::vs)
    | _,_=>none
def yO2 (ops:Array Oper)(bs:List Nat)(nh:Nat)(fl:List Fl)(start:List Bool)(H:List DOp)(tail:List VO):Option VCode :=
  if (P.follows .mixedOrders&&drawB ops H start nh&&H.all (fun o=>o.vo.op.framed)&&yTj bs nh fl)=true then some (.drawB (yXa fl) (yYm fl) start (zPt H) H tail) else none
def yO1 (ops:Array Oper) (bs:List Nat) (nh:Nat) (fl:List Fl):Option (List (Nat×VO))→Option VCode
  | some vos=>match zUq P ops (ops.toList.drop nh) with
    | some tail=>yO2 P ops bs nh fl (zFt (dstsOf vos)) (vos.map (yXu bs (zFt (dstsOf vos)) vos)) tail
    | none=>none
  | none=>none
def yO3 (ops:Array Oper)(bs:List Nat)(nh:Nat)(fl:List Fl):Option VCode:=yO1 P ops bs nh fl (zTa P ops fl (List.range nh))
def yNo (ops:Array Oper):Option VCode:=match yH0 P ops with
  | some l=>some l
  | none=>match yO3 P ops (zF0 ops) (zGl ops (zF0 ops)) (yOu P ops (zGl ops (zF0 ops))) with
    | some l=>some l
    | none=>zZv P ops (zGl ops (zF0 ops))
def yUu (ops:Array Oper)(M:List Nat)(nh:Nat):Option VCode:=zWh P ops (zF0 ops) nh nh (zUr P ops none (M++(List.range nh).filter fun i=>!M.contains i))
def yO0 (ops:Array Oper):Option VCode:=if Region.noSelect ops=true then yUu P (ahead (moves ops) ops) (moves ops) (zGl (ahead (moves ops) ops) (zF0 (ahead (moves ops) ops))) else none
def zS8 (pm pt:Bool)(ops:Array Oper):Option VCode:=if pm=true then (if pt=true then zX3 P ops (zGl ops (zF0 ops)) else yO0 P ops) else if pt=true then (match zZv P ops (zGl ops (zF0 ops)) with
  | some l=>some l
  | none=>yNo P ops) else yNo P ops
variable (pt:Nat)
def zAr:Code→List (List Bool)→Option (VCode×List (List Bool))
  | .skip,ms=>some (.skip,ms)
  | .region _ ops false,ms=>match zUq P ops ops.toList with
    | some l=>some (.ops l,ms)
    | none=>none
  | .region id ops true,ms=>match zS8 P (pt.testBit (2*id+1)) (pt.testBit (2*id)) ops with
    | some l=>some (l,ms)
    | none=>none
  | .seq a b,ms=>match zAr a ms with
    | some (x,ms1)=>match zAr b ms1 with
      | some (y,ms2)=>some (.seq x y,ms2)
      | none=>none
    | none=>none
  | .cond c a b,ms=>match zAr a ms with
    | some (x,ms1)=>match zAr b ms1 with
      | some (y,ms2)=>some (.cond c x y,ms2)
      | none=>none
    | none=>none
  | .block id c,ms=>match zAr c ms with
    | some (x,ms1)=>some (.block id x,ms1)
    | none=>none
  | .loop c,ms=>match ms with
    | m::ms=>match zAr c ms with
      | some (x,ms1)=>some (.loop m x,ms1)
      | none=>none
    | []=>none
  | .exit id,ms=>some (.exit id,ms)
  | .ret,ms=>some (.ret,ms)
  | _,_=>none
end
section
variable {P:Program} {G:World→(Nat→Prop)→Prop} {w0:Base} {I0:Nat→Prop}
theorem zS9 {ops:Array Oper} {w:Option Nat}:∀ {l:List Nat} {vos:List (Nat×VO)},zUr P ops w l=some vos→∀ v∈vos,∃ op n,ops[v.1]?=some op∧cVO P n ops op=some v.2
  | [],vos,h,v,hv=>by simp only [zUr,xDi] at h;subst h;cases hv
  | i :: l,vos,h,v,hv=>by
    simp only [zUr] at h;split at h
    · rename_i o ho;split at h
      · rename_i v' vs h1 h2;simp only [xDi] at h;subst h;rcases xEf.1 hv with rfl | hv
        · exact ⟨o,_,ho,h1⟩
        · exact zS9 h2 v hv
      · cases h
    · cases h
theorem yAh (hcl:∀ w',w0.Below w'→GI G w' I0) {ops:Array Oper} {nh n1:Nat} {start:List Bool} {H:List DOp} {tail:List VO} {vc:VCode} (hc:yHz P ops (zF0 ops) nh n1 start H tail=some vc) (hcomp:∀ o∈H,∃ op n,ops[o.idx]?=some op∧cVO P n ops op=some o.vo) (htl:zUq P ops (ops.toList.drop nh)=some tail) {VQ:VExit→List D→Prop} {Q:Exit→Act→World→Prop} {s:List D} (hk:vc.wp (CT P G) VQ s) (hQ:∀ s a w,VQ .normal s→Rel w0 I0 s a w→Q .normal a w) {a:Act} {w:World} (h:Rel w0 I0 s a w):RegAny P ops Q a w:=by
  unfold yHz at hc;by_cases hB:(P.follows .mixedOrders&&drawB ops H start nh)=true
  · rw [if_pos hB] at hc;simp only [xDn] at hB;cases hdrop:H.drop n1 with
    | nil =>
      rw [hdrop] at hc;simp only at hc;by_cases hf:H.all (fun o=>o.vo.op.framed)=true
      · rw [if_pos hf] at hc;simp only [xDi] at hc;subst hc;exact yJp hcl hB.1 hB.2 hf hcomp htl hk hQ h
      · rw [if_neg hf] at hc;cases hc
    | cons o l2 =>
      rw [hdrop] at hc;simp only at hc;by_cases hf:((H.take n1).all (fun o=>o.vo.op.framed)&&l2.all (fun o=>o.vo.op.framed)&&(H.take n1).all (fun k=>((zF0 ops).getD o.idx 0).testBit k.idx)&&o.vo.guard.isNone&&yOK o)=true
      · rw [if_pos hf] at hc;simp only [xDi] at hc;subst hc;simp only [xDn] at hf;obtain ⟨⟨⟨⟨f1,f2⟩,f3⟩,f4⟩,f5⟩:=hf;have hH:H=H.take n1++o::l2:=by rw [← hdrop,List.take_append_drop]
        refine yD1 hcl hB.1 (by rw [← hH];exact hB.2) f1 f2 f3 (by simpa using f4) ?_ (by rw [← hH];exact hcomp) htl (by rw [← hH];exact hk) hQ h;intro sz bytes x y hop t ht;subst ht;unfold yOK at f5;rw [hop] at f5;exact f5
      · rw [if_neg hf] at hc;cases hc
  · rw [if_neg hB] at hc;cases hc
theorem zOf (hcl:∀ w',w0.Below w'→GI G w' I0){ops:Array Oper}{nh n1:Nat}{w:Option Nat}{l:List Nat}{vc:VCode}(hc:zWh P ops (zF0 ops) nh n1 (zUr P ops w l)=some vc){VQ:VExit→List D→Prop}{Q:Exit→Act→World→Prop}{s:List D}(hk:vc.wp (CT P G) VQ s)(hQ:∀ s a w,VQ .normal s→Rel w0 I0 s a w→Q .normal a w){a:Act}{W:World}(h:Rel w0 I0 s a W):RegAny P ops Q a W:=by
  cases hv:zUr P ops w l with
  | none=>rw [hv] at hc;cases hc
  | some vos =>
    rw [hv] at hc;simp only [zWh] at hc;cases ht:zUq P ops (ops.toList.drop nh) with
    | none=>rw [ht] at hc;cases hc
    | some tail=>rw [ht] at hc;refine yAh hcl hc (fun o ho=>?_) ht hk hQ h;obtain ⟨v,hv',rfl⟩:=xEg.1 ho;exact zS9 hv v hv'
theorem yAi (hcl:∀ w',w0.Below w'→GI G w' I0){ops:Array Oper}{vc:VCode}(hc:yH0 P ops=some vc){VQ:VExit→List D→Prop}{Q:Exit→Act→World→Prop}{s:List D}(hk:vc.wp (CT P G) VQ s)(hQ:∀ s a w,VQ .normal s→Rel w0 I0 s a w→Q .normal a w){a:Act}{w:World}(h:Rel w0 I0 s a w):RegAny P ops Q a w:=by
  unfold yH0 at hc;cases hp:yFg ops (zGl ops (zF0 ops)) with
  | none=>rw [hp] at hc;exact zOf hcl hc hk hQ h
  | some w=>rw [hp] at hc;exact zOf hcl hc hk hQ h
end
section
variable {P:Program} {G:World→(Nat→Prop)→Prop} {w0:Base} {I0:Nat→Prop}
theorem zRt {ops:Array Oper}{fl:List Fl}:∀ {l:List Nat} {vos:List (Nat×VO)},zTa P ops fl l=some vos→∀ v∈vos,cVB P ops fl v.1=some v.2
  | [],vos,h,v,hv=>by simp only [zTa,xDi] at h;subst h;cases hv
  | i :: l,vos,h,v,hv=>by
    simp only [zTa] at h;split at h
    · rename_i v' vs h1 h2;simp only [xDi] at h;subst h;rcases xEf.1 hv with rfl | hv
      · exact h1
      · exact zRt h2 v hv
    · cases h
theorem zVd (hcl:∀ w',w0.Below w'→GI G w' I0) {ops:Array Oper} {vc:VCode} (hc:yNo P ops=some vc) {VQ:VExit→List D→Prop} {Q:Exit→Act→World→Prop} {s:List D} (hk:vc.wp (CT P G) VQ s) (hQ:∀ s a w,VQ .normal s→Rel w0 I0 s a w→Q .normal a w) {a:Act} {w:World} (h:Rel w0 I0 s a w):RegAny P ops Q a w:=by
  unfold yNo at hc;split at hc
  · rename_i l hl;simp only [xDi] at hc;subst hc;exact yAi hcl hl hk hQ h
  · split at hc
    case h_2=>exact zVa hcl hc hk hQ h
    rename_i l hl;simp only [xDi] at hc;subst hc;revert hl;unfold yO3;intro hc;revert hc;generalize yOu P ops (zGl ops (zF0 ops))=fl;generalize zGl ops (zF0 ops)=nh;intro hc;cases hv:zTa P ops fl (List.range nh) with
    | none=>rw [hv] at hc;cases hc
    | some vos =>
      rw [hv] at hc;simp only [yO1] at hc;split at hc
      · rename_i tail ht;unfold yO2 at hc;split at hc
        · rename_i hB;simp only [xDn] at hB;simp only [xDi] at hc;subst hc;simp only [VCode.wp] at hk;refine yD2 hcl hB.1.1.1 hB.1.1.2 hB.1.2 (fun o ho=>?_) hB.2 ht hk.1 hk.2 hQ h;obtain ⟨v,hv',rfl⟩:=xEg.1 ho;exact zRt hv v hv'
        · cases hc
      · cases hc
theorem zSh (hcl:∀ w',w0.Below w'→GI G w' I0){pm pt:Bool}{ops:Array Oper}{vc:VCode}(hc:zS8 P pm pt ops=some vc){VQ:VExit→List D→Prop}{Q:Exit→Act→World→Prop}(hQn:NoX Q){s:List D}(hk:vc.wp (CT P G) VQ s)(hQ:∀ s a w,VQ .normal s→Rel w0 I0 s a w→Q .normal a w){a:Act}{w:World}(h:Rel w0 I0 s a w):RegAny P ops Q a w:=by
  unfold zS8 at hc;split at hc
  · split at hc
    · exact yAf hcl hc hQn hk hQ h
    · unfold yO0 at hc;split at hc
      · rename_i hs;exact yEv hs hQn (zOf hcl hc hk hQ h)
      · cases hc
  split at hc
  · split at hc
    · rename_i l hl;simp only [xDi] at hc;subst hc;exact zVa hcl hl hk hQ h
    · exact zVd hcl hc hk hQ h
  · exact zVd hcl hc hk hQ h
theorem zHz {pt:Nat} (hcl:∀ w',w0.Below w'→GI G w' I0):∀ (c:Code) (ms ms':List (List Bool)) (vc:VCode) (VQ:VExit→List D→Prop) (Q:Exit→Act→World→Prop) (s:List D) (a:Act) (w:World),
    zAr P pt c ms=some (vc,ms')→vc.wp (CT P G) VQ s→Rel w0 I0 s a w→(∀ e s a w,VQ e s→Rel w0 I0 s a w→Q e.to a w)→c.wp P Q a w
  | .skip,ms,ms',vc,VQ,Q,s,a,w,hc,hk,h,hQ=>by simp only [zAr,xDi,xD0] at hc;obtain ⟨rfl,_⟩:=hc;exact wp_skip (hQ .normal s a w hk h)
  | .region id ops draw,ms,ms',vc,VQ,Q,s,a,w,hc,hk,h,hQ=>by
    cases draw with
    | true =>
      simp only [zAr] at hc;cases hl:zS8 P (pt.testBit (2*id+1)) (pt.testBit (2*id)) ops with
      | none=>simp [hl] at hc
      | some l=>simp only [hl,xDi,xD0] at hc;obtain ⟨rfl,_⟩:=hc;exact Code.wp_mono (fun e a w h=>by obtain ⟨rfl,h⟩:=h;exact h) (zSh (Q:=fun e a w=>e=.normal∧Q .normal a w) hcl hl (fun _ _ _ h=>h.1) hk (fun s a w hk h=>⟨rfl,hQ .normal s a w hk h⟩) h).wp
    | false =>
      simp only [zAr] at hc;cases hl:zUq P ops ops.toList with
      | none=>simp [hl] at hc
      | some l=>simp only [hl,xDi,xD0] at hc;obtain ⟨rfl,_⟩:=hc;simp only [VCode.wp] at hk;exact wp_region_list (zIx hcl ops (KK:=VQ .normal) (fun s a w hk h=>hQ .normal s a w hk h) ops.toList l s a w hl hk h)
  | .seq x y,ms,ms',vc,VQ,Q,s,a,w,hc,hk,h,hQ=>by
    simp only [zAr] at hc;cases hx:zAr P pt x ms with
    | none=>simp [hx] at hc
    | some r =>
      obtain ⟨vx,ms1⟩:=r;simp only [hx] at hc;cases hy:zAr P pt y ms1 with
      | none=>simp [hy] at hc
      | some r =>
        obtain ⟨vy,ms2⟩:=r;simp only [hy,xDi,xD0] at hc;obtain ⟨rfl,_⟩:=hc;simp only [VCode.wp] at hk;refine wp_seq (zHz hcl x ms ms1 vx _ _ s a w hx hk h ?_);intro e s' a' w' hq hr;cases e with
        | normal=>exact zHz hcl y ms1 ms2 vy VQ Q s' a' w' hy hq hr hQ
        | exit id=>exact hQ (.exit id) s' a' w' hq hr
        | ret=>exact hQ .ret s' a' w' hq hr
  | .cond c x y,ms,ms',vc,VQ,Q,s,a,w,hc,hk,h,hQ=>by
    simp only [zAr] at hc;cases hx:zAr P pt x ms with
    | none=>simp [hx] at hc
    | some r =>
      obtain ⟨vx,ms1⟩:=r;simp only [hx] at hc;cases hy:zAr P pt y ms1 with
      | none=>simp [hy] at hc
      | some r =>
        obtain ⟨vy,ms2⟩:=r;simp only [hy,xDi,xD0] at hc;obtain ⟨rfl,_⟩:=hc;simp only [VCode.wp] at hk;obtain ⟨hd,I,Fs,hR⟩:=h;have hT:=zDg hR c;split at hk
        · rename_i t e;rw [e] at hT;refine wp_cond_split (T_v hT).1 (fun ht=>?_) (fun ht=>?_)
          · exact zHz hcl x ms ms1 vx VQ Q s a w hx (hk.1 ht) ⟨hd,I,Fs,hR⟩ hQ
          · exact zHz hcl y ms1 ms2 vy VQ Q s a w hy (hk.2 ht) ⟨hd,I,Fs,hR⟩ hQ
        · exact hk.elim
  | .block id c,ms,ms',vc,VQ,Q,s,a,w,hc,hk,h,hQ=>by
    simp only [zAr] at hc;cases hx:zAr P pt c ms with
    | none=>simp [hx] at hc
    | some r =>
      obtain ⟨vx,ms1⟩:=r;simp only [hx,xDi,xD0] at hc;obtain ⟨rfl,_⟩:=hc;simp only [VCode.wp] at hk;refine wp_block (zHz hcl c ms ms1 vx _ _ s a w hx hk h ?_);intro e s' a' w' hq hr;cases e with
      | normal=>exact hQ .normal s' a' w' hq hr
      | ret=>exact hQ .ret s' a' w' hq hr
      | exit i =>
        simp only [zQd] at hq;by_cases hi:i=id
        · rw [if_pos hi] at hq;simp only [VExit.to,Exit.inBlock,hi,if_true];exact hQ .normal s' a' w' hq hr
        · rw [if_neg hi] at hq;simp only [VExit.to,Exit.inBlock,hi,if_false];exact hQ (.exit i) s' a' w' hq hr
  | .loop c,ms,ms',vc,VQ,Q,s,a,w,hc,hk,h,hQ=>by
    simp only [zAr] at hc;cases ms with
    | nil=>simp at hc
    | cons m ms =>
      simp only at hc;cases hx:zAr P pt c ms with
      | none=>simp [hx] at hc
      | some r =>
        obtain ⟨vx,ms1⟩:=r;simp only [hx,xDi,xD0] at hc;obtain ⟨rfl,_⟩:=hc;simp only [VCode.wp] at hk;obtain ⟨J,⟨n,s1,hle,h0⟩,hround⟩:=hk;have hclr:∀ s a w,Rel w0 I0 s a w→Rel w0 I0 (clr m s) a w:=fun s a w ⟨hd,I,Fs,hR⟩=>⟨hd,I,_,hR.clr m⟩
        have hnle:∀ s s1 a w,Rel w0 I0 s a w→zFf s s1→Rel w0 I0 s1 a w:=fun s s1 a w ⟨hd,I,Fs,hR⟩ hl=>⟨hd,I,_,hR.nle hl⟩
        refine wp_loop_ghost (fun n a w=>∃ s,J n s∧Rel w0 I0 s a w) n ⟨_,h0,hnle _ _ _ _ (hclr _ _ _ h) hle⟩ ?_;rintro n a w ⟨s,hJ,hr⟩;refine zHz hcl c ms ms1 vx _ _ s a w hx (hround n s hJ) hr ?_;intro e s' a' w' hq hr';cases e with
        | normal=>obtain ⟨m',hlt,s1,hle,hJ'⟩:=hq;exact ⟨m',hlt,_,hJ',hnle _ _ _ _ (hclr _ _ _ hr') hle⟩
        | exit id=>exact hQ (.exit id) s' a' w' hq hr'
        | ret=>exact hQ .ret s' a' w' hq hr'
  | .exit id,ms,ms',vc,VQ,Q,s,a,w,hc,hk,h,hQ=>by simp only [zAr,xDi,xD0] at hc;obtain ⟨rfl,_⟩:=hc;exact wp_exit (hQ (.exit id) s a w hk h)
  | .ret,ms,ms',vc,VQ,Q,s,a,w,hc,hk,h,hQ=>by simp only [zAr,xDi,xD0] at hc;obtain ⟨rfl,_⟩:=hc;exact wp_ret (hQ .ret s a w hk h)
  | .rangeFunc _ _ _ _,_,_,_,_,_,_,_,_,hc,_,_,_=>by simp [zAr] at hc
  | .scope _,_,_,_,_,_,_,_,_,hc,_,_,_=>by simp [zAr] at hc
  | .label _,_,_,_,_,_,_,_,_,hc,_,_,_=>by simp [zAr] at hc
  | .goto _,_,_,_,_,_,_,_,_,hc,_,_,_=>by simp [zAr] at hc
  | .refuse _,_,_,_,_,_,_,_,_,hc,_,_,_=>by simp [zAr] at hc
end
end Go.V
namespace Go.V
open Go.RowKit
def yKe (tmps:Array Value):ResultVar→Sem Value
  | .tmp t=>pure (tmps.getD t undef)
  | .cell x t=>do loadVar t (← asAddr (tmps.getD x undef))
theorem zSl (fn:Func)(tmps:Array Value):results fn tmps=(do let vs ← fn.results.mapM (yKe tmps);pure (if h:vs.size=1 then vs[0] else .tuple vs)):=by have:(fun v:ResultVar=>(match v with | .tmp t=>pure (tmps.getD t undef) | .cell a t=>do loadVar t (← asAddr (tmps.getD a undef)):Sem Value))=yKe tmps:=(by funext v;cases v<;>rfl);rw [← this];rfl
section
variable {P:Program} {G:World→(Nat→Prop)→Prop} {w0:Base} {I0:Nat→Prop} {s:List D} {a:Act} {w:World} {I:Nat→Prop} {Fs:Nat→List Nat}
theorem zVk (h:RelI w0 I0 s a.tmps w I Fs) {d:D} {u:Value} {F:List Nat} {KK:D→List D→Prop} (hok:d.okCells=true) (hT:T I w d (ρS s a.tmps w) u F) (hF:Fresh w0 w I Fs F) (hk:zCi s d KK) :
    ∃ d' s' Fs' F',KK d' s'∧RelI w0 I0 s' a.tmps w I Fs'∧T I w d' nil u F'∧Fresh w0 w I Fs' F'∧(∀ r b,b∈Fs' r→b∈Fs r)∧(∀ b,b∈F'→b∈F∨∃ r,b∈Fs r):=by
  unfold zCi at hk;split at hk
  · rename_i r;split at hk
    · rename_i tag cells hs;obtain ⟨u0,hu0,hTb⟩:=h.slot0 hs;simp only [T] at hT;obtain ⟨⟨d1,u1,t1,sz,rows,u2,b1,o1,m1,m2,m3,m4,m5,m6,m7⟩,_⟩:=hT;rw [hu0] at m2;cases m2;simp only [zBd,xDi] at m5;subst m5;have hTb':=hTb;simp only [T] at hTb;obtain ⟨b,cs,et,F',hub,_,hh,hFr,hcs⟩:=hTb;rw [hub] at m6;simp only [zBa,xDi,xD0] at m6;obtain ⟨rfl,rfl⟩:=m6;obtain ⟨hro,hk⟩:=hk;have hq:∀ x v,zMx r x=true→ρS s a.tmps w x v→ρS ((zAh (zAi r) s).set r .undef) a.tmps w x v:=fun x v hx hv=>by refine hv.forget r ?_;cases x<;>simp only [zMx] at hx<;>first | exact hx | cases hx
      have hb:b∈Fs r:=(by rw [hFr];simp);have hndr:=h.nd r;rw [hFr] at hndr;have hfr:Fresh w0 w I (upd Fs r []) F':=⟨(xEq.1 hndr).2,fun x hx=>by
        have hxr:x∈Fs r:=(by rw [hFr];simp [hx]);refine ⟨(h.own r x hxr).1,(h.own r x hxr).2.1,(h.own r x hxr).2.2,fun r' hr=>?_⟩;unfold upd at hr;split at hr
        · cases hr
        · rename_i hne;exact hne (h.disj r' r x hr hxr)⟩
      obtain ⟨cs',s2,Fs2,F2,hK,h2,hC2,hF2,hsub2,hin2,_⟩:=zMw _ (h.forget r) (Cells.turn hq cells hcs) hfr hro hk;have hnb:b∉F2:=fun hx=>by
        rcases hin2 b hx with hy | ⟨r',hy⟩
        · exact (xEq.1 hndr).1 hy
        · unfold upd at hy;split at hy
          · cases hy
          · rename_i hne;exact hne (h.disj r' r b hy hb)
      have hbn:∀ r',b∉Fs2 r':=fun r' hr=>by
        have:=hsub2 r' b hr;unfold upd at this;split at this
        · cases this
        · rename_i hne;exact hne (h.disj r' r b this hb)
      refine ⟨_,s2,Fs2,b::F2,hK,h2,?_,⟨xEq.2 ⟨hnb,hF2.1⟩,fun x hx=>?_⟩,fun r' x hx=>?_,fun x hx=>?_⟩
      · simp only [T];exact ⟨b,cs,et,F2,by rw [m7];simp,(fun _ h=>by cases h),hh,rfl,hC2⟩
      · rcases xEf.1 hx with rfl | hx
        · exact ⟨(h.own r x hb).1,(h.own r x hb).2.1,(h.own r x hb).2.2,hbn⟩
        · exact hF2.2 x hx
      · have:=hsub2 r' x hx;unfold upd at this;split at this
        · cases this
        · exact this
      · rcases xEf.1 hx with rfl | hx
        · exact .inr ⟨r,hb⟩
        · rcases hin2 x hx with hy | ⟨r',hy⟩
          · exact .inr ⟨r,by rw [hFr];simp [hy]⟩
          · unfold upd at hy;split at hy
            · cases hy
            · exact .inr ⟨r',hy⟩
    · exact hk.elim
  obtain ⟨hro,hk⟩:=hk;obtain ⟨cs',s2,Fs2,F',hK,h2,hC2,hF',hsub2,hin2,_⟩:=zMw _ h (zOv h hT hok) hF hro hk;refine ⟨_,s2,Fs2,F',hK,h2,?_,hF',hsub2,hin2⟩;by_cases hd:∃ cs,d=.agg cs
  · obtain ⟨cs,rfl⟩:=hd;simp only [T] at hT;obtain ⟨us,e,_⟩:=hT;simp only [zFk,T];refine ⟨us,e,?_⟩;rw [e] at hC2;simpa [Value.cells] using hC2
  · have hn:∀ cs,d≠.agg cs:=fun cs e=>hd ⟨cs,e⟩;obtain ⟨h1,h3⟩:=ok_one h hT hok hn;rw [h3] at hC2;have hr:zFk d cs'=cs'.headD .undef:=by cases d<;>first | rfl | exact absurd rfl (hn _)
    rw [hr];cases cs' with
    | nil=>simp only [Cells] at hC2;simp at hC2
    | cons c cs =>
      simp only [Cells] at hC2;obtain ⟨v,vs,F1,F2,e,hFe,_,ht,hc⟩:=hC2;simp only [xE6] at e;obtain ⟨rfl,rfl⟩:=e;have:=hc.len;cases cs with
      | cons x y=>simp at this
      | nil=>simp only [Cells] at hc;rw [hFe,hc.2,xEk];exact ht
theorem xDe (h : RelI w0 I0 s a.tmps w I Fs) {rv:RV} {v:ResultVar} {KK:D→List D→Prop} (hc:zRs P [v]=some [rv]) (hk:rvK s rv KK) :
    ∃ u d' s' Fs' F',(yKe a.tmps v).run P w=.ok u w∧KK d' s'∧RelI w0 I0 s' a.tmps w I Fs'∧T I w d' nil u F'∧Fresh w0 w I Fs' F'∧(∀ r b,b∈Fs' r→b∈Fs r)∧(∀ b,b∈F'→∃ r,b∈Fs r):=by
  cases v with
  | tmp t =>
    simp only [zRs,xDk,xDi,xE6,and_true] at hc;subst hc;obtain ⟨hok,hk⟩:=hk;obtain ⟨Fs1,F,h1,hT,hF,hsub⟩:=yWg h t;obtain ⟨d',s',Fs',F',k1,k2,k3,k4,k5,k6⟩:=zVk h1 hok hT hF hk;exact ⟨_,d',s',Fs',F',rfl,k1,k2,k3,k4,fun r b hb=>hsub.1 r b (k5 r b hb),fun b hb=>by
      rcases k6 b hb with hb | ⟨r,hr⟩
      · exact hsub.2.1 b hb
      · exact ⟨r,hsub.1 r b hr⟩⟩
  | cell x t =>
    simp only [zRs] at hc;split at hc
    · rename_i d i hu hi;have key:∀ (agg:Bool) (n:Nat),rv=.c x n agg→d.isRow=agg→i.size=n→(agg=false→n=1)→∃ u d' s' Fs' F',(do loadVar t (← asAddr (a.tmps.getD x undef)):Sem Value).run P w=.ok u w∧KK d' s'∧RelI w0 I0 s' a.tmps w I Fs'∧T I w d' nil u F'∧Fresh w0 w I Fs' F'∧(∀ r b,b∈Fs' r→b∈Fs r)∧(∀ b,b∈F'→∃ r,b∈Fs r):=by
        intro agg n hrv hd hn h1;subst hrv;simp only [rvK] at hk;split at hk
        · rename_i cells hs;obtain ⟨hlen,hok2,hk⟩:=hk;obtain ⟨u,hu',hT⟩:=h.slot0 hs;simp only [T] at hT;obtain ⟨b,cs,e,F',hub,_,hh,hFe,hcs⟩:=hT;have hf:=h.forget x;have hcl:=hcs.len;have hcs':Cells I w (zAh (zAi x) cells) (ρS ((zAh (zAi x) s).set x .undef) a.tmps w) cs.toList F':=Cells.turn (fun y v hq hy=>hy.forget x hq) cells hcs;have hnd:=h.nd x;rw [hFe] at hnd;have hF':Fresh w0 w I (upd Fs x []) F':=⟨(xEq.1 hnd).2,fun b' hb'=>by
            have hbx:b'∈Fs x:=(by rw [hFe];simp [hb']);refine ⟨(h.own x b' hbx).1,(h.own x b' hbx).2.1,(h.own x b' hbx).2.2,fun r hr=>?_⟩;unfold upd at hr;split at hr
            · cases hr
            · rename_i hne;exact hne (h.disj r x b' hr hbx)⟩
          have hmk:T I w (zFs agg (zAh (zAi x) cells)) (ρS ((zAh (zAi x) s).set x .undef) a.tmps w) (if agg then .agg cs else cs.toList.headD undef) F':=by
            cases agg with
            | true=>simp only [zFs,if_true,T];exact ⟨cs.toList,by simp,hcs'⟩
            | false =>
              have hn1:=h1 rfl;cases hp:zAh (zAi x) cells with
              | nil=>have:=zAv (zAi x) cells;rw [hp] at this;simp at this;omega
              | cons c cc =>
                rw [hp] at hcs';simp only [Cells] at hcs';obtain ⟨v,vs,F1,F2,e1,e2,_,ht,hc2⟩:=hcs';have hccl:cc=[]:=by have:=zAv (zAi x) cells;rw [hp] at this;exact xEw (by simp at this;omega)
                subst hccl;simp only [Cells] at hc2;rw [e2,hc2.2,xEk,e1];simpa [zFs] using ht
          have hrun:(do loadVar t (← asAddr (a.tmps.getD x undef)):Sem Value).run P w=.ok (if agg then .agg cs else cs.toList.headD undef) w:=by
            have hg:a.tmps.getD x undef=u:=(by simp [hu']);rw [hg,hub];have hr:w.rangeAt b 0 cs.toList:=fun j v hj=>by rw [zBt hh,xEm];simpa using hj
            have:=zY6 (P:=P) hu hd (by rw [hi];simp [hn]) h1 (us:=cs.toList) (by rw [hcl,hlen]) hr;simp only [Instr.loadAt,Instr.sureAddr] at this;simp only [asAddr];cases agg<;>simpa using this
          obtain ⟨d',s',Fs',F'',k1,k2,k3,k4,k5,k6⟩:=zVk hf hok2 hmk hF' hk;have hsub:∀ r b,b∈upd Fs x [] r→b∈Fs r:=fun r b hb=>by
            unfold upd at hb;split at hb
            · cases hb
            · exact hb
          exact ⟨_,d',s',Fs',F'',hrun,k1,k2,k3,k4,fun r b hb=>hsub r b (k5 r b hb),fun b hb=>by
            rcases k6 b hb with hb | ⟨r,hr⟩
            · exact ⟨x,by rw [hFe];simp [hb]⟩
            · exact ⟨r,hsub r b hr⟩⟩
        · exact hk.elim
      split at hc
      · rename_i hd;simp only [zRs,xDk,xDi,xE6,and_true] at hc;exact key true i.size hc.symm hd rfl (fun h=>by cases h)
      · rename_i hd;split at hc
        · rename_i h1;simp only [zRs,xDk,xDi,xE6,and_true] at hc;exact key false 1 hc.symm (by simpa using hd) h1 (fun _=>rfl)
        · cases hc
    · cases hc
theorem yHx {v:ResultVar} {vs:List ResultVar} {rvs:List RV} (h:zRs P (v::vs)=some rvs):∃ rv rs,rvs=rv::rs∧zRs P [v]=some [rv]∧zRs P vs=some rs:=by
  cases v with
  | tmp t=>simp only [zRs,xFv] at h;obtain ⟨rs,h1,rfl⟩:=h;exact ⟨_,rs,rfl,by simp [zRs],h1⟩
  | cell x t =>
    simp only [zRs] at h ⊢;split at h
    · rename_i d i hu hi;split at h
      · rename_i hd;simp only [xFv] at h;obtain ⟨rs,h1,rfl⟩:=h;exact ⟨_,rs,rfl,by simp [hd],h1⟩
      · rename_i hd;split at h
        · rename_i h1;simp only [xFv] at h;obtain ⟨rs,h2,rfl⟩:=h;exact ⟨_,rs,rfl,by simp [hd,h1],h2⟩
        · cases h
    · cases h
theorem yQp:∀ (vs:List ResultVar) {s:List D} {Fs:Nat→List Nat} {rvs:List RV} {KK:List D→List D→Prop},RelI w0 I0 s a.tmps w I Fs→zRs P vs=some rvs→zR4 s rvs KK →
    ∃ us ds F s2 Fs2,(vs.mapM (yKe a.tmps)).run P w=.ok us w∧us.length=vs.length∧KK ds s2∧Vals I w ds nil us F∧F.Nodup∧(∀ b,b∈F→w0.N b∧b<w.heap.size∧¬ I b)∧(∀ b,b∈F→∃ r,b∈Fs r)∧RelI w0 I0 s2 a.tmps w I Fs2∧(∀ r b,b∈Fs2 r→b∈Fs r)∧∀ b,b∈F→∀ r,b∉Fs2 r
  | [],s,Fs,rvs,KK,h,hc,hk=>by simp only [zRs,xDi] at hc;subst hc;exact ⟨[],[],[],s,Fs,by simp,rfl,hk,by simp [Vals],xFr,(fun _ h=>by cases h),(fun _ h=>by cases h),h,fun _ _ h=>h,fun _ h=>by cases h⟩
  | v :: vs,s,Fs,rvs,KK,h,hc,hk=>by
    obtain ⟨rv,rs,rfl,h1,h2⟩:=yHx hc;simp only [zR4] at hk;obtain ⟨u,d',s',Fs',F',k1,k2,k3,k4,k5,k6,k7⟩:=xDe h h1 hk;obtain ⟨us,ds,F,s2,Fs2,m1,m2,m3,m4,m5,m6,m7,m8,m9,m10⟩:=yQp vs k3 h2 k2;refine ⟨u::us,d'::ds,F'++F,s2,Fs2,?_,by simp [m2],m3,?_,xDs.2 ⟨k5.1,m5,fun x hx y hy hxy=>?_⟩,fun b hb=>?_,fun b hb=>?_,m8,fun r b hb=>k6 r b (m9 r b hb),fun b hb r hr=>?_⟩
    · rw [List.mapM_cons,Sem.run_bind,k1,Result.andThen_ok,Sem.run_bind,m1,Result.andThen_ok,Sem.run_pure]
    · simp only [Vals];exact ⟨u,us,F',F,rfl,rfl,k4,m4⟩
    · subst hxy;obtain ⟨r,hr⟩:=m7 x hy;exact (k5.2 x hx).2.2.2 r hr
    · rcases xD6.1 hb with hb | hb
      · exact ⟨(k5.2 b hb).1,(k5.2 b hb).2.1,(k5.2 b hb).2.2.1⟩
      · exact m6 b hb
    · rcases xD6.1 hb with hb | hb
      · exact k7 b hb
      · obtain ⟨r,hr⟩:=m7 b hb;exact ⟨r,k6 r b hr⟩
    · rcases xD6.1 hb with hb | hb
      · exact (k5.2 b hb).2.2.2 r (m9 r b hr)
      · exact m10 b hb r hr
end
def yMy (rvs:List RV)(KK:List D→List D→Prop):VExit→List D→Prop
  | .normal,s=>zR4 s rvs KK
  | .ret,s=>zR4 s rvs KK
  | .exit _,_=>False
def leK (d:D):List D→List D→Prop:=fun ds _=>(one ds).le d
def zG3 (rvs:List RV)(d:D):VExit→List D→Prop:=yMy rvs (leK d)
def xA8 (i b:Nat)(cells':List D)(s:List D):Prop:=match s[i]? with
  | some (.box (some b') cs)=>b'=b∧leL (zAh (fun _=>false) cs) cells'
  | _=>False
def leX (d:D)(i b:Nat)(cells':List D):List D→List D→Prop:=fun ds s=>(one ds).le d∧xA8 i b cells' s
def yHl (rvs:List RV)(d:D)(i b:Nat)(cells':List D):VExit→List D→Prop:=yMy rvs (leX d i b cells')
theorem zRv {pt:Nat} {P:Program} {G:World→(Nat→Prop)→Prop} {f:FuncId} {fn:Func} {c:Code} {ms ms':List (List Bool)} {vc:VCode} {rvs:List RV} {KK:List D→List D→Prop} {w:World} {I:Nat→Prop} {us:List Value} {X:List Nat} {s0:List D} {Fs0:Nat→List Nat} (hG:∀ w',(ioB w X).Below w'→GI G w' I) (hf:P.funcs[f]?=some fn) (hb:fn.body=some c)
    (hc:zAr P pt c ms=some (vc,ms')) (hr:zRs P fn.results.toList=some rvs) (hrel:RelI (ioB w X) I s0 (us.toArray++Array.replicate (fn.ntmps-us.toArray.size) undef) w I Fs0) (hk:vc.wp (CT P G) (yMy rvs KK) s0) :
    Calls P f us.toArray w fun e w'=>∃ v ds F s2 Fs2 I' tm,e=.returned v∧KK ds s2∧(ioB w X).Below w'∧T I' w' (one ds) nil v F∧F.Nodup∧(∀ b,b∈F→(ioB w X).N b∧b<w'.heap.size∧¬ I' b)∧RelI (ioB w X) I s2 tm w' I' Fs2∧∀ b,b∈F→∀ r,b∉Fs2 r:=by
  refine calls_of_wp hf hb ?_;refine zHz hG c ms ms' vc (yMy rvs KK) _ _ _ w hc hk ⟨rfl,I,Fs0,hrel⟩ ?_;intro e s a w' hq hr';obtain ⟨hd,I',Fs,hR⟩:=hr';have key:zR4 s rvs KK→a.defers=[]∧∃ v,(results fn a.tmps).run P w'=.ok v w'∧∃ v' ds F s2 Fs2 I' tm,Ending.returned v=.returned v'∧KK ds s2∧(ioB w X).Below w'∧T I' w' (one ds) nil v' F∧F.Nodup∧(∀ b,b∈F→(ioB w X).N b∧b<w'.heap.size∧¬ I' b)∧RelI (ioB w X) I s2 tm w' I' Fs2∧∀ b,b∈F→∀ r,b∉Fs2 r:=by
    intro hq;obtain ⟨us',ds,F,s2,Fs2,m1,m2,m3,m4,m5,m6,m7,m8,m9,m10⟩:=yQp fn.results.toList hR hr hq;have hrun:(results fn a.tmps).run P w'=.ok (if us'.length=1 then us'.headD undef else .tuple us'.toArray) w':=by
      rw [zSl,Sem.run_bind,xIr,Sem.run_map,m1];simp only [Result.andThen_ok,Sem.run_pure];by_cases h1:us'.length=1
      · rw [if_pos h1,dif_pos (by simpa using h1)];cases us' with
        | nil=>simp at h1
        | cons u us2=>simp
      · rw [if_neg h1,dif_neg (by simpa using h1)]
    have hT : T I' w' (one ds) nil (if us'.length=1 then us'.headD undef else .tuple us'.toArray) F:=by
      have hl:=m4.len;by_cases h1:us'.length=1
      · rw [if_pos h1];cases ds with
        | nil=>rw [h1] at hl;simp at hl
        | cons d1 ds =>
          cases ds with
          | nil=>simp only [Vals] at m4;obtain ⟨u,us2,F1,F2,e1,e2,ht,e3,e4⟩:=m4;subst e1;subst e2;subst e3;subst e4;simpa [one] using ht
          | cons d2 ds=>rw [h1] at hl;simp at hl
      · rw [if_neg h1];have:one ds=.tup ds:=by
          cases ds with
          | nil=>rfl
          | cons d1 ds=>cases ds with
            | nil=>exact absurd hl h1
            | cons d2 ds=>rfl
        rw [this];simp only [T];exact ⟨us',rfl,m4⟩
    exact ⟨hd,_,hrun,_,ds,F,s2,Fs2,I',a.tmps,rfl,m3,hR.below,hT,m5,m6,m8,m10⟩
  cases e with
  | normal=>exact key hq
  | ret=>exact key hq
  | exit id=>exact hq.elim
theorem zHy {w:World}{I:Nat→Prop}{args:List D}{us:List Value}{n:Nat}(hV:Vals I w args nil us []){r:Nat}{d':D}{u:Value}{ρ:D→Value→Prop}(h1:(args++List.replicate (n-args.length) D.undef)[r]?=some d')(h2:(us.toArray++Array.replicate (n-us.toArray.size) undef)[r]?=some u):T I w d' ρ u []:=by
  have hlen:=hV.len;by_cases hr:r<args.length
  · rw [xFj hr] at h1;have hu:us[r]?=some u:=by rw [xG6 (by simp;omega)] at h2;simpa using h2
    obtain ⟨u',A,F',B,k1,k2,k3,_⟩:=Vals.get r hV h1;rw [hu] at k1;cases k1;have hF':F'=[]:=(by have:=congrArg List.length k2;simp at this;exact xEw (by omega));rw [hF'] at k3;exact k3.res (fun _ _ h=>h.elim)
  · rw [xFq (by omega),List.getElem?_replicate] at h1;split at h1
    · cases h1;simp [T]
    · cases h1
theorem zAt {pt:Nat}{P:Program}{G:World→(Nat→Prop)→Prop}{f:FuncId}{fn:Func}{c:Code}{ms ms':List (List Bool)}{vc:VCode}{rvs:List RV}{args:List D}{d:D}(hcl:yV6 G)(hf:P.funcs[f]?=some fn)(hen:∀ (us:Array Value) (W:World),(callFunc f us).run P W=.ok (.enter f us) W)(hb:fn.body=some c)
    (hc:zAr P pt c ms=some (vc,ms')) (hr:zRs P fn.results.toList=some rvs) (hk:vc.wp (CT P G) (zG3 rvs d) (args++List.replicate (fn.ntmps-args.length) .undef)):Contract P G f args d:=by
  refine ⟨hen,fun w I us hG hI hV=>?_⟩;have hlen:=hV.len;refine (zRv (I:=I) (X:=[]) (us:=us) (Fs0:=fun _=>[]) (fun w' hb'=>hG.keep hcl fun b hb=>hb'.block b (fun hn=>hn.elim (fun h=>absurd (hI b hb) (by omega)) (fun h=>by cases h))) hf hb hc hr ?_ hk).mono ?_
  · exact {
      below:=Base.Below.refl
      len:=by simp [hlen]
      slot:=fun r d' u h1 h2=>zHy hV h1 h2
      nd:=fun _=>xFr
      disj:=fun _ _ _ h=>by cases h
      own:=fun _ _ h=>by cases h
      imm:=hI
      imm0:=fun _ h=>h
      immN:=fun _ h=>.inl h }
  · rintro e w' ⟨v,ds,F,s2,Fs2,I',tm,he,hle,hbel,hT,hnd,hF,hR,_⟩;obtain ⟨F',k1,k2⟩:=T.leF _ _ hT hle;have hN:∀ x,(ioB w []).N x→w.heap.size≤x:=fun x h=>h.elim id (fun h=>by cases h);exact ⟨v,F',I',he,⟨hbel.os,hbel.tape,hbel.output,hbel.size,fun k hk=>hbel.block k (fun h=>by have:=hN k h;omega)⟩,k1,k2.nodup hnd,fun b hb=>⟨hN b (hF b (k2.subset hb)).1,(hF b (k2.subset hb)).2⟩,hR.imm0,fun b hb=>⟨(hR.immN b hb).imp_right (hN b),hR.imm b hb⟩⟩
theorem zMs {args:List D}{i r:Nat}{d:D}(h:r≠i)(n:Nat):(args.set i d++List.replicate n D.undef)[r]?=(args.set i .undef++List.replicate n D.undef)[r]?:=by
  by_cases hr:r<args.length
  · rw [xFj (by simpa using hr),xFj (by simpa using hr),xDx (Ne.symm h),xDx (Ne.symm h)]
  · rw [xFq (by simpa using hr),xFq (by simpa using hr)];simp
theorem zDh {pt:Nat} {P:Program} {G:World→(Nat→Prop)→Prop} {f:FuncId} {fn:Func} {c:Code} {ms ms':List (List Bool)} {vc:VCode} {rvs:List RV} {args:List D} {d:D} {i:Nat} {cells cells':List D} (hcl:yV6 G) (hf:P.funcs[f]?=some fn) (hen:∀ (us:Array Value) (W:World),(callFunc f us).run P W=.ok (.enter f us) W) (hb:fn.body=some c)
    (hc:zAr P pt c ms=some (vc,ms')) (hr:zRs P fn.results.toList=some rvs) (hi:i<args.length) (hk:∀ b,vc.wp (CT P G) (yHl rvs d i b cells') (args.set i (.box (some b) cells)++List.replicate (fn.ntmps-args.length) .undef)):ContractX P G f i args cells d cells':=by
  refine ⟨hen,fun w I us b X hG hI hu hV hTb hXn hX=>?_⟩;have hlen:us.length=args.length:=by have:=hV.len;simpa using this
  refine (zRv (I:=I) (X:=X) (us:=us) (Fs0:=fun r=>if r=i then X else []) (fun w' hb'=>hG.keep hcl fun b hb=>hb'.block b (fun hn=>hn.elim (fun h=>absurd (hI b hb) (by omega)) (fun h=>(hX b h).2 hb))) hf hb hc hr ?_ (hk b)).mono ?_
  · exact {
      below:=Base.Below.refl
      len:=by simp [hlen]
      slot:=by
        intro r d' u h1 h2;by_cases hri:r=i
        · subst hri;rw [xFj (by simpa using hi),xEj hi] at h1;cases h1;have:us[r]?=some u:=by rw [xG6 (by simp;omega)] at h2;simpa using h2
          rw [hu] at this;cases this;simp only [if_true];exact hTb.res (fun _ _ h=>h.elim)
        · simp only [hri,if_false];rw [zMs hri] at h1;exact zHy hV (by simpa using h1) h2
      nd:=fun r=>by split;exact hXn;exact xFr
      disj:=fun r r' x h h'=>by
        split at h
        · split at h'
          · omega
          · cases h'
        · cases h
      own:=fun r x h=>by
        split at h
        · exact ⟨.inr h,(hX x h).1,(hX x h).2⟩
        · cases h
      imm:=hI
      imm0:=fun _ h=>h
      immN:=fun _ h=>.inl h }
  · rintro e w' ⟨v,ds,F,s2,Fs2,I',tm,he,⟨hle,hout⟩,hbel,hT,hnd,hF,hR,hFo⟩;obtain ⟨F',k1,k2⟩:=T.leF _ _ hT hle;unfold xA8 at hout;split at hout
    · rename_i b' cs hs;obtain ⟨rfl,hlc⟩:=hout;obtain ⟨u2,hu2,hT2⟩:=hR.slot0 hs;simp only [T] at hT2;obtain ⟨b2,cs2,et,F2,hub,htg,hh,hFr,hcs⟩:=hT2;have hb2:=htg b' rfl;subst hb2;obtain ⟨F3,hc3,hs3⟩:=Cells.leF _ _ (Cells.turn (ρ':=nil) (fun x v hq _=>by cases hq) cs hcs) hlc;have hsub:∀ x,x∈b2::F3→x∈Fs2 i:=fun x hx=>by
        rw [hFr];rcases xEf.1 hx with rfl | hx
        · simp
        · exact xE7 _ (hs3.subset hx)
      have hnr:=hR.nd i;rw [hFr] at hnr;refine ⟨v,F',b2::F3,I',he,hbel,k1,?_,?_,fun x hx=>?_,hR.imm0,fun x hx=>⟨?_,hR.imm x hx⟩⟩
      · simp only [T];exact ⟨b2,cs2,et,F3,rfl,fun k hk=>by cases hk;rfl,hh,rfl,hc3⟩
      · refine xDs.2 ⟨k2.nodup hnd,xEq.2 ⟨fun hb=>(xEq.1 hnr).1 (hs3.subset hb),hs3.nodup (xEq.1 hnr).2⟩,fun x hx y hy hxy=>?_⟩;subst hxy;exact hFo x (k2.subset hx) i (hsub x hy)
      · rcases xD6.1 hx with hx | hx
        · exact hF x (k2.subset hx)
        · exact hR.own i x (hsub x hx)
      · exact (hR.immN x hx)
    · exact hout.elim
def xCo (b:Nat)(cells':List D)(s:List D):Prop:=∃ (r:Nat) (d:D) (q:zBz) (b':Nat) (cs:List D),s[r]?=some d∧zAm d q=some (.box (some b') cs)∧b'=b∧leL (zAh (fun _=>false) cs) cells'
def leG (d:D)(b:Nat)(cells':List D):List D→List D→Prop:=fun ds s=>(one ds).le d∧xCo b cells' s
def xC5 (rvs:List RV)(d:D)(b:Nat)(cells':List D):VExit→List D→Prop:=yMy rvs (leG d b cells')
def xCp (i b:Nat)(cells':List D)(s:List D):Prop:=match s[i]? with
  | some (.fn _ [.box (some b') cs] [])=>b'=b∧leL (zAh (fun _=>false) cs) cells'
  | _=>False
def yX7 (d:D)(i b:Nat)(cells':List D):List D→List D→Prop:=fun ds s=>(one ds).le d∧xCp i b cells' s
def yZg (rvs:List RV)(d:D)(i b:Nat)(cells':List D):VExit→List D→Prop:=yMy rvs (yX7 d i b cells')
/-! A function whose result is a struct whose first cell is the address of a variable. -/
def rvP (x n:Nat)(s:List D)(K:D→List D→Prop):Prop:=match s[x]? with
  | some (.box _ (.ptr r [] 0 0::rest))=>rest.length+1=n∧r≠x∧rest.all D.flatI=true∧zCi ((zAh (zAi x) s).set x .undef) (.ptr r [] 0 0) (fun d' s'=>K (.agg (d'::rest)) s')
  | _=>False
def xC4 (x n:Nat)(d:D):VExit→List D→Prop
  | .exit _,_=>False
  | _,s=>rvP x n s (fun d' _=>d'.le d)
end Go.V
namespace Go.V
open Go.RowKit
/-! ### Code within a round, and behind one -/
def FR (ro:Option Nat):Fence:={ Fence.wide with round:=ro }
def zTe (ds:List Deferred)(a:Act):Act:={ a with defers:=a.defers++ds }
theorem yHi {ds:List Deferred}{a:Act}:(zTe ds a).eval=a.eval:=funext fun x=>by cases x<;>rfl
theorem zH2 {ds:List Deferred}{a:Act}{dst:Option Tmp}{v:Value}:(zTe ds a).put dst v=zTe ds (a.put dst v):=by cases dst<;>rfl
def zXb (o:Oper):Bool:=match o.op with
  | .defer _=>false
  | _=>true
theorem yLk {o:Oper}(h:zXb o=true):∀ c,o.op≠.defer c:=fun c e=>by unfold zXb at h;rw [e] at h;cases h
def yB5 (T:List Nat)(o:Oper):Bool:=match o.dst with
  | some d=>T.contains d
  | none=>true
def agr (T:List Nat)(t0 t:Array Value):Prop:=t.size=t0.size∧∀ r,r∉T→t[r]?=t0[r]?
theorem agr.refl {T:List Nat}{t:Array Value}:agr T t t:=⟨rfl,fun _ _=>rfl⟩
theorem agr.set {T:List Nat}{t0 t:Array Value}(h:agr T t0 t){d:Nat}(hd:d∈T)(v:Value):agr T t0 (t.setIfInBounds d v):=by refine ⟨by simp [h.1],fun r hr=>?_⟩;rw [xD1 (by intro e;subst e;exact hr hd)];exact h.2 r hr
theorem agr.put {T:List Nat}{t0:Array Value}{a:Act}(h:agr T t0 a.tmps){o:Oper}(hd:yB5 T o=true)(v:Value):agr T t0 (a.put o.dst v).tmps:=by
  unfold yB5 at hd;cases ho:o.dst with
  | none=>exact h
  | some d=>rw [ho] at hd;simp only [List.contains_iff_mem] at hd;exact h.set hd v
theorem agr.trans {T:List Nat}{t0 t1 t2:Array Value}(h:agr T t0 t1)(k:agr T t1 t2):agr T t0 t2:=⟨k.1.trans h.1,fun r hr=>(k.2 r hr).trans (h.2 r hr)⟩
section
variable {P:Program} {ro:Option Nat} {n:Nat} {ds:List Deferred} {Q Q':Exit→Act→World→Prop}
theorem NoX.lets (h:NoX Q):¬ LetsOut Q:=fun ⟨a,w,q⟩=>by have:=h _ _ _ q;cases this
theorem yPd {o:Oper}{a:Act}{next next':Act→World→Prop}(hQ:NoX Q)(hn:∀ ds' v w',next ({ a with defers:=ds' }.put o.dst v) w'→next' (zTe ds ({ a with defers:=ds' }.put o.dst v)) w') :
    ∀ {r:Result Next},o.upon P a next Q r→o.uponIn (FR ro) n P (zTe ds a) next' Q' r
  | .ok (.value v) w',h=>by have:=hn a.defers v w' h;rw [Oper.uponIn_value,zH2];exact this
  | .ok .skip w',h=>by have:=hn a.defers undef w' h;rw [Oper.uponIn_skip,zH2];exact this
  | .ok (.defer d) w',h=>by have:=hn (d::a.defers) undef w' h;rw [Oper.uponIn_defer];rw [← zH2] at this;exact this
  | .ok (.enter f args) w',h=>by
    rw [Oper.uponIn_enter];rw [Oper.upon_enter] at h;refine ⟨fun h=>absurd h (by simp [FR,Fence.wide]),?_⟩;have h2:CallsIn Fence.wide (n-1) P f args w' (fun
      | .returned v,w''=>next' ((zTe ds a).put o.dst v) w''
      | .panicked chain,w''=>Q' (.panic chain) (zTe ds a) w''
      | .outgrown,_=>LetsOut Q'):=by
      refine callsIn_wide.2 (Calls.mono h ?_);intro e w'' he;cases e with
      | returned v=>have:=hn a.defers v w'' he;simp only;rw [zH2];exact this
      | panicked chain=>have:=hQ _ _ _ he;cases this
      | outgrown=>exact (hQ.lets he).elim
    exact h2
  | .ok (.row row args) w',h=>by
    rw [Oper.uponIn_row];rw [Oper.upon_row] at h;refine ⟨fun h=>absurd h (by simp [FR,Fence.wide]),?_⟩;intro c cs _;obtain ⟨v,w'',hr,hs⟩:=h c cs;refine ⟨v,w'',?_,?_⟩
    · have:=hn a.defers v w'' hr;simp only;rw [zH2];exact this
    · exact stepsIn_wide.2 hs
  | .ok (.round _ _ _ _ _) _,h=>False.elim h
  | .ok (.spawn _) _,h=>False.elim h
  | .ok (.comm _ _ _) _,h=>False.elim h
  | .halt (.panic v) w',h=>by rw [Oper.upon_panic] at h;have:=hQ _ _ _ h;cases this
  | .halt x w',h=>by cases x<;>first | exact False.elim h | (rw [Oper.upon_panic] at h;have:=hQ _ _ _ h;cases this)
theorem yFo {o:Oper}{a:Act}{w:World}{next next':Act→World→Prop}(hQ:NoX Q)(hd:zXb o=true)(hn:∀ ds' v w',next ({ a with defers:=ds' }.put o.dst v) w'→next' (zTe ds ({ a with defers:=ds' }.put o.dst v)) w')(h:o.wp P a w next Q):o.wpIn (FR ro) n P (zTe ds a) w next' Q':=by refine ⟨fun _ _=>trivial,?_⟩;rw [Oper.semAt_eq _ _ _ (yLk hd),yHi];exact yPd hQ hn h
theorem zXk {ops:Array Oper}{T:List Nat}{t0:Array Value}(hQ:NoX Q)(hq:∀ a' w',Q .normal a' w'→agr T t0 a'.tmps→Q' .normal (zTe ds a') w'):∀ (l:List Oper) (a:Act) (w:World),(∀ o,o∈l→zXb o=true∧yB5 T o=true)→agr T t0 a.tmps→wpList P ops Q l a w→wpListIn (FR ro) n P ops Q' l (zTe ds a) w
  | [],a,w,_,ha,h=>hq a w h ha
  | o :: l,a,w,hl,ha,h=>by
    unfold wpListIn;unfold wpList at h;have hy:yielded ops (zTe ds a).tmps=yielded ops a.tmps:=rfl;rw [hy];split at h
    · rename_i hw;rw [if_pos hw];rcases h with h | ⟨_,h⟩
      · refine yFo hQ (hl o (by simp)).1 (fun ds' v w' hk=>?_) h;exact zXk hQ hq l _ w' (fun o' ho'=>hl o' (by simp [ho'])) (agr.put (a:={ a with defers:=ds' }) ha (hl o (by simp)).2 v) hk
      · exact (hQ.lets h).elim
    · rename_i hw;rw [if_neg hw];refine ⟨fun _ _=>trivial,?_⟩;rw [zH2];exact zXk hQ hq l _ w (fun o' ho'=>hl o' (by simp [ho'])) (ha.put (hl o (by simp)).2 _) h
theorem zZx {md:Region.Mode} {ops:Array Oper} {T:List Nat} {t0:Array Value} (hQ:NoX Q) (hq:∀ a' w',Q .normal a' w'→agr T t0 a'.tmps→Q' .normal (zTe ds a') w') (hl:∀ o,o∈ops→zXb o=true∧yB5 T o=true):∀ (fuel:Nat) (listed:Array Bool) (a:Act) (w:World),agr T t0 a.tmps→wpAny P md ops Q fuel listed a w→wpAnyIn (FR ro) n P md ops Q' fuel listed (zTe ds a) w
  | 0,listed,a,w,ha,h=>⟨h.1,hq a w h.2 ha⟩
  | fuel+1,listed,a,w,ha,h=>by
    refine ⟨fun hr=>hq a w (h.1 hr) ha,fun i hi=>?_⟩;have h2:=h.2 i hi;unfold wpOpIn;unfold wpOp at h2;split
    · rename_i ho;simp only [ho] at h2;exact zZx hQ hq hl fuel _ a w ha h2
    · rename_i o ho;simp only [ho] at h2;have hm:o∈ops:=Array.mem_of_getElem? ho;have hy:yielded ops (zTe ds a).tmps=yielded ops a.tmps:=rfl;rw [hy];split at h2
      · rename_i hw;rw [if_pos hw];rcases h2 with h2 | ⟨_,h2⟩
        · refine yFo hQ (hl o hm).1 (fun ds' v w' hk=>?_) h2;exact zZx hQ hq hl fuel _ _ w' (agr.put (a:={ a with defers:=ds' }) ha (hl o hm).2 v) hk
        · exact (hQ.lets h2).elim
      · rename_i hw;rw [if_neg hw];refine ⟨fun _ _=>trivial,?_⟩;rw [zH2];exact zZx hQ hq hl fuel _ _ w (ha.put (hl o hm).2 _) h2
end
end Go.V
namespace Go.V
open Go.RowKit
/-! ### States beside blocks that are nobody's -/
theorem RelI.other {w0:Base}{I0:Nat→Prop}{s:List D}{tm:Array Value}{w w':World}{I:Nat→Prop}{Fs:Nat→List Nat}(h:RelI w0 I0 s tm w I Fs)(hbel:w0.Below w')(hsz:w.heap.size≤w'.heap.size)(hk:∀ b,(I b∨∃ r,b∈Fs r)→w'.heap[b]?=w.heap[b]?):RelI w0 I0 s tm w' I Fs where
  below:=hbel
  len:=h.len
  slot:=by
    intro r d u h1 h2;refine (T.keep d (h.slot r d u h1 h2) (fun b hb'=>hk b (hb'.imp_right fun hb'=>⟨r,hb'⟩))).res (fun x v hx=>?_);cases x with
    | ref r' p=>obtain ⟨d',u0,t1,k1,k2,k3,ho,k4⟩:=hx;exact ⟨d',u0,t1,k1,k2,k3,ho,by rw [zCb p d' (h.slot r' d' u0 k1 k2) k3 (fun b hb'=>hk b (.inr ⟨r',hb'⟩))];exact k4⟩
    | ptr r' p i j=>obtain ⟨d',u0,t',sz,rows,u1,b,o,k1,k2,k3,k4,k5,k6⟩:=hx;exact ⟨d',u0,t',sz,rows,u1,b,o,k1,k2,k3,k4,by rw [zCb p d' (h.slot r' d' u0 k1 k2) k3 (fun b hb'=>hk b (.inr ⟨r',hb'⟩))];exact k5,k6⟩
    | sub r' p i n=>obtain ⟨d',u0,t',sz,rows,u1,b,o,cc,k1,k2,k3,k4,k5,k6⟩:=hx;exact ⟨d',u0,t',sz,rows,u1,b,o,cc,k1,k2,k3,k4,by rw [zCb p d' (h.slot r' d' u0 k1 k2) k3 (fun b hb'=>hk b (.inr ⟨r',hb'⟩))];exact k5,k6⟩
    | _=>exact hx.elim
  nd:=h.nd
  disj:=h.disj
  own:=fun r b hb'=>⟨(h.own r b hb').1,xE5 (h.own r b hb').2.1 hsz,(h.own r b hb').2.2⟩
  imm:=fun b hb'=>xE5 (h.imm b hb') hsz
  imm0:=h.imm0
  immN:=h.immN
theorem RelI.base {w0 w1:Base}{I0 I1:Nat→Prop}{s:List D}{tm:Array Value}{w:World}{I:Nat→Prop}{Fs:Nat→List Nat}(h:RelI w0 I0 s tm w I Fs)(hbel:w1.Below w)(hN:∀ r b,b∈Fs r→w1.N b)(hI1:∀ b,I1 b→I b)(hI2:∀ b,I b→I1 b∨w1.N b):RelI w1 I1 s tm w I Fs where
  below:=hbel
  len:=h.len
  slot:=h.slot
  nd:=h.nd
  disj:=h.disj
  own:=fun r b hb'=>⟨hN r b hb',(h.own r b hb').2⟩
  imm:=h.imm
  imm0:=hI1
  immN:=hI2
theorem Base.comp {w0 w1:Base}{w':World}(h:w0.Below w1.w)(hN:∀ b,w1.N b→w0.N b)(h':w1.Below w'):w0.Below w' :=
  ⟨h'.os.trans h.os,h'.tape.trans h.tape,h'.output.trans h.output,xG8 h.size h'.size,fun i hi=>(h'.block i fun hn=>hi (hN i hn)).trans (h.block i hi)⟩
theorem RelI.tmps {w0:Base} {I0:Nat→Prop} {s:List D} {tm tm':Array Value} {w:World} {I:Nat→Prop} {Fs:Nat→List Nat} (h:RelI w0 I0 s tm w I Fs) (hsz:tm'.size=tm.size) (hk:∀ (r:Nat) (d:D),s[r]?=some d→d=D.undef∨tm'[r]?=tm[r]?) (hF:∀ r:Nat,s[r]?=some D.undef→Fs r=[]):RelI w0 I0 s tm' w I Fs where
  below:=h.below
  len:=hsz.trans h.len
  slot := by
    have hk':∀ (r:Nat) (d:D) (u0:Value),s[r]?=some d→tm[r]?=some u0→d≠D.undef→tm'[r]?=some u0:=fun r d u0 h1 h2 hd=>by
      rcases hk r d h1 with h3 | h3
      · exact absurd h3 hd
      · rw [h3];exact h2
    intro r d u h1 h2;rcases hk r d h1 with rfl | h3
    · simp only [T];exact hF r h1
    · rw [h3] at h2;refine (h.slot r d u h1 h2).res (fun x v hx=>?_);cases x with
      | ref r' p =>
        obtain ⟨d',u0,t1,k1,k2,k3,ho,k4⟩:=hx;exact ⟨d',u0,t1,k1,hk' r' d' u0 k1 k2 (fun e=>by subst e;cases p with
          | nil=>simp only [zAm,xDi] at k3;subst k3;cases ho
          | cons y p=>obtain ⟨i,j⟩:=y;simp [zAm,D.cont] at k3),k3,ho,k4⟩
      | ptr r' p i j=>obtain ⟨d',u0,t',sz,rows,u1,b,o,k1,k2,k3,k4,k5,k6⟩:=hx;exact ⟨d',u0,t',sz,rows,u1,b,o,k1,hk' r' d' u0 k1 k2 (fun e=>by subst e;exact zDy k3 k4 rfl),k3,k4,k5,k6⟩
      | sub r' p i n=>obtain ⟨d',u0,t',sz,rows,u1,b,o,cc,k1,k2,k3,k4,k5,k6⟩:=hx;exact ⟨d',u0,t',sz,rows,u1,b,o,cc,k1,hk' r' d' u0 k1 k2 (fun e=>by subst e;exact zDy k3 k4 rfl),k3,k4,k5,k6⟩
      | _=>exact hx.elim
  nd:=h.nd
  disj:=h.disj
  own:=h.own
  imm:=h.imm
  imm0:=h.imm0
  immN:=h.immN
/-! ### The state, with marks -/
def mkD (D:Nat):Deferred:={ target:=.collected D,args:=#[] }
def xDa (w0:Base)(w:World)(I:Nat→Prop)(Fs:Nat→List Nat)(Pr:List (Nat×Obj)):Prop:=∀ p,p∈Pr→w.heap[p.1]?=some p.2∧¬ I p.1∧(∀ r,p.1∉Fs r)∧w0.N p.1
def zOl (D:Nat):Nat×Obj:=(D,.deferred (some []))
def RelR (Pr:List (Nat×Obj))(w0:Base)(I0:Nat→Prop)(s:List D)(a:Act)(w:World):Prop :=
  ∃ (Ds:List Nat) (I:Nat→Prop) (Fs:Nat→List Nat),a.defers=Ds.map mkD∧Ds.Nodup∧RelI w0 I0 s a.tmps w I Fs∧xDa w0 w I Fs (Pr++Ds.map zOl)
theorem zFy {w:World}{b:Nat}{o:Obj}(h:w.heap[b]?=some o):b<w.heap.size:=(xD2.1 h).1
theorem zYp {w0:Base}{I0:Nat→Prop}{Pr:List (Nat×Obj)}{VQ:List D→Prop}{s:List D}{a:Act}{w:World}(h:RelR Pr w0 I0 s a w){A:Array Value→Prop}{Q':Exit→Act→World→Prop}
    (hQ:∀ s a w,VQ s→RelR Pr w0 I0 s a w→A a.tmps→Q' .normal a w) :
    ∃ (wr:Base) (a0:Act) (ds:List Deferred),(∀ w',wr.Below w'→w0.Below w')∧a=zTe ds a0∧a0.tmps=a.tmps∧Rel wr I0 s a0 w∧∀ a' w',(∃ s',VQ s'∧Rel wr I0 s' a' w')→A a'.tmps→Q' .normal (zTe ds a') w':=by
  obtain ⟨Ds,I,Fs,hd,hnd,hR,hP⟩:=h;obtain ⟨wr,hwr⟩:∃ wr:Base,wr=⟨w,fun b=>(∃ r,b∈Fs r)∨(I b∧¬ I0 b)∨w.heap.size≤b,fun _ h=>.inr (.inr h)⟩:=⟨_,rfl⟩
  have hN:∀ b,wr.N b→w0.N b:=by
    intro b hb;rw [hwr] at hb;rcases hb with ⟨r,hb⟩ | ⟨hb,hn⟩ | hb
    · exact (hR.own r b hb).1
    · exact (hR.immN b hb).resolve_left hn
    · exact Base.N_of hR.below hb
  have hw:wr.w=w:=(by rw [hwr]);have hcomp:∀ w',wr.Below w'→w0.Below w':=fun w' h'=>Base.comp (by rw [hw];exact hR.below) hN h';have hRr:RelI wr I0 s a.tmps w I Fs:=hR.base (by rw [hwr];exact Base.Below.refl) (fun r b hb=>by rw [hwr];exact .inl ⟨r,hb⟩) hR.imm0 (fun b hb=>by
    by_cases h0:I0 b
    · exact .inl h0
    · rw [hwr];exact .inr (.inr (.inl ⟨hb,h0⟩)))
  refine ⟨wr,{ a with defers:=[] },a.defers,hcomp,by cases a;rfl,rfl,⟨rfl,I,Fs,hRr⟩,?_⟩;rintro a' w' ⟨s',hVQ,hd',I',Fs',hR'⟩ hag;refine hQ s' (zTe a.defers a') w' hVQ ⟨Ds,I',Fs',by simp [zTe,hd',hd],hnd,?_,?_⟩ hag
  · refine hR'.base (hcomp w' hR'.below) (fun r b hb=>hN b (hR'.own r b hb).1) hR'.imm0 (fun b hb=>(hR'.immN b hb).imp_right (hN b))
  · intro p hp;obtain ⟨h1,h2,h3,h4⟩:=hP p hp;have hnn:¬ wr.N p.1:=by
      rw [hwr];rintro (⟨r,hr⟩ | ⟨hi,_⟩ | hs)
      · exact h3 r hr
      · exact h2 hi
      · exact absurd (zFy h1) (by omega)
    refine ⟨?_,fun hi=>?_,fun r hr=>hnn (hR'.own r _ hr).1,h4⟩
    · have:=hR'.below.block p.1 hnn;rw [hw] at this;rw [this];exact h1
    · rcases hR'.immN _ hi with h0 | h0
      · exact h2 (hR.imm0 _ h0)
      · exact hnn h0
end Go.V
namespace Go.V
open Go.RowKit
def zC5:Code→List Nat
  | .region _ ops _=>ops.toList.filterMap (·.dst)
  | .seq a b=>zC5 a++zC5 b
  | .cond _ a b=>zC5 a++zC5 b
  | .block _ c=>zC5 c
  | .loop c=>zC5 c
  | _=>[]
def okR (T:List Nat):Code→Bool
  | .skip=>true
  | .region _ ops _=>ops.toList.all fun o=>zXb o&&yB5 T o
  | .seq a b=>okR T a&&okR T b
  | .cond _ a b=>okR T a&&okR T b
  | .block _ c=>okR T c
  | .loop c=>okR T c
  | .exit _=>true
  | .ret=>true
  | .rangeFunc _ _ _ _=>true
  | _=>false
section
variable (P:Program) (pt:Nat)
def zCn:Bool→Code→List (List Bool)→Option (VCode×List (List Bool))
  | _,.skip,ms=>some (.skip,ms)
  | _,.region _ ops false,ms=>match zUq P ops ops.toList with
    | some l=>some (.ops l,ms)
    | none=>none
  | _,.region id ops true,ms=>match zS8 P (pt.testBit (2*id+1)) (pt.testBit (2*id)) ops with
    | some l=>some (l,ms)
    | none=>none
  | r,.seq a b,ms=>match zCn r a ms with
    | some (x,ms1)=>match zCn r b ms1 with
      | some (y,ms2)=>some (.seq x y,ms2)
      | none=>none
    | none=>none
  | r,.cond c a b,ms=>match zCn r a ms with
    | some (x,ms1)=>match zCn r b ms1 with
      | some (y,ms2)=>some (.cond c x y,ms2)
      | none=>none
    | none=>none
  | r,.block id c,ms=>match zCn r c ms with
    | some (x,ms1)=>some (.block id x,ms1)
    | none=>none
  | r,.loop c,ms=>match ms with
    | m::ms=>match zCn r c ms with
      | some (x,ms1)=>some (.loop m x,ms1)
      | none=>none
    | []=>none
  | false,.rangeFunc g ps a b,ms=>if (okR (ps.toList++zC5 a++zC5 b) a&&okR (ps.toList++zC5 a++zC5 b) b)=true then (match zCn true a ms with
    | some (x,ms1)=>match zCn true b ms1 with
      | some (y,ms2)=>some (.rangeF g ps.toList (zFt (ps.toList++zC5 a++zC5 b)) x y,ms2)
      | none=>none
    | none=>none) else none
  | _,.exit id,ms=>some (.exit id,ms)
  | _,.ret,ms=>some (.ret,ms)
  | _,_,_=>none
end
theorem zO8:∀ (l:List Nat) (m t:Nat),(t∈l∨t<m)→t<l.foldl (fun m t=>max m (t+1)) m
  | [],m,t,h=>h.elim (fun h=>by cases h) id
  | x :: l,m,t,h=>by
    rw [xGf];refine zO8 l _ t ?_;rcases h with h | h
    · rcases xEf.1 h with rfl | h
      · exact .inr (by omega)
      · exact .inl h
    · exact .inr (by omega)
theorem yBg (l:List Nat)(r:Nat):(zFt l).getD r false=l.contains r:=by
  unfold zFt;rw [xDt,xDm];by_cases hr:r<yWd l
  · simp [xH1,hr]
  · have:r∉l:=fun h=>hr (zO8 l 0 r (.inl h));simp [xH1,hr,this]
theorem zVm {w0:Base}{I0:Nat→Prop}{w:World}{I:Nat→Prop}:∀ (ps:List Nat) (xs:List D) (us:List Value) {s:List D} {tm:Array Value} {Fs:Nat→List Nat},RelI w0 I0 s tm w I Fs→Vals I w xs nil us []→xs.length=ps.length →
    ∃ Fs',RelI w0 I0 (zD8 s ps xs) ((ps.zip us).foldl (fun t (p,v)=>t.setIfInBounds p v) tm) w I Fs'
  | [],[],us,s,tm,Fs,h,hV,_=>⟨Fs,by simpa [zD8] using h⟩
  | [],x::xs,us,s,tm,Fs,h,hV,hl=>by cases hl
  | p::ps,[],us,s,tm,Fs,h,hV,hl=>by cases hl
  | p::ps,x::xs,us,s,tm,Fs,h,hV,hl=>by
    simp only [Vals] at hV;obtain ⟨u,us',F1,F2,rfl,hF,hT,hV'⟩:=hV;have hF':=(xGl.1 hF.symm)
    rw [hF'.1] at hT;rw [hF'.2] at hV';obtain ⟨Fs1,h1⟩:=yOg (a:={ tmps:=tm,defers:=[] }) h p (hT.res (fun _ _ h=>h.elim)) Fresh.nil;obtain ⟨Fs2,h2⟩:=zVm ps xs us' h1 hV' (by simpa using hl);exact ⟨Fs2,by simpa [zD8,xHl] using h2⟩
theorem zZz {T:List Nat}:∀ (ps:List Nat) (us:List Value) {t0 tm:Array Value},(∀ p,p∈ps→p∈T)→agr T t0 tm→agr T t0 ((ps.zip us).foldl (fun t (p,v)=>t.setIfInBounds p v) tm)
  | [],us,t0,tm,_,h=>h
  | p::ps,[],t0,tm,_,h=>h
  | p::ps,u::us,t0,tm,hp,h=>by rw [xHl,xGf];exact zZz ps us (fun q hq=>hp q (by simp [hq])) (h.set (hp p (by simp)) u)
section
variable {P:Program} {G:World→(Nat→Prop)→Prop}
theorem RelR.back {Pr:List (Nat×Obj)}{w0:Base}{I0:Nat→Prop}{s:List D}{a:Act}{w:World}(h:RelR Pr w0 I0 s a w){T:List Nat}{t:Array Value}(ha:agr T t a.tmps):RelR Pr w0 I0 (clr (zFt T) s) { tmps:=t,defers:=a.defers } w:=by
  obtain ⟨Ds,I,Fs,hd,hnd,hR,hP⟩:=h;have hget:∀ r d,(clr (zFt T) s)[r]?=some d→d=.undef∨(r∉T∧∃ d',s[r]?=some d'∧d=d'.prune (zBj (zFt T))):=by
    intro r d h1;unfold clr at h1;rw [zD2] at h1;cases hs:s[r]? with
    | none=>simp [hs] at h1
    | some d' =>
      simp only [hs,xDk,xDi] at h1;by_cases hm:(zFt T).getD r false=true
      · rw [if_pos hm] at h1;exact .inl h1.symm
      · rw [if_neg hm] at h1;refine .inr ⟨fun hr=>hm ?_,d',rfl,h1.symm⟩;rw [yBg];simpa using hr
  have hc:=hR.clr (zFt T);refine ⟨Ds,I,_,hd,hnd,hc.tmps ha.1.symm (fun r d h1=>?_) (fun r h1=>?_),fun p hp=>?_⟩
  · rcases hget r d h1 with h2 | ⟨hr,_⟩
    · exact .inl h2
    · exact .inr (ha.2 r hr).symm
  · show (if (zFt T).getD r false then [] else Fs r)=[]
    split
    · rfl
    · rename_i hm;have hlt:r<a.tmps.size:=by have:=(xDq.1 h1).1;rw [hc.len];exact this
      have:=hc.slot r _ _ h1 (xEe hlt);simp only [Go.V.T,if_neg hm] at this;exact this
  · obtain ⟨h1,h2,h3,h4⟩:=hP p hp;refine ⟨h1,h2,fun r hr=>?_,h4⟩;split at hr
    · cases hr
    · exact h3 r hr
theorem RelR.nle {Pr:List (Nat×Obj)}{w0:Base}{I0:Nat→Prop}{s s1:List D}{a:Act}{w:World}(h:RelR Pr w0 I0 s a w)(hl:zFf s s1):RelR Pr w0 I0 s1 a w:=by obtain ⟨Ds,I,Fs,hd,hnd,hR,hP⟩:=h;exact ⟨Ds,I,Fs,hd,hnd,hR.nle hl,hP⟩
theorem RelR.clr {Pr:List (Nat×Obj)}{w0:Base}{I0:Nat→Prop}{s:List D}{a:Act}{w:World}(h:RelR Pr w0 I0 s a w)(m:List Bool):RelR Pr w0 I0 (clr m s) a w:=by
  obtain ⟨Ds,I,Fs,hd,hnd,hR,hP⟩:=h;refine ⟨Ds,I,_,hd,hnd,hR.clr m,fun p hp=>?_⟩;obtain ⟨h1,h2,h3,h4⟩:=hP p hp;refine ⟨h1,h2,fun r hr=>?_,h4⟩;split at hr
  · cases hr
  · exact h3 r hr
theorem RelR.putL {w0:Base}{I0:Nat→Prop}{s:List D}{a:Act}{w:World}{L:Nat}{r:Loop}{M:List (Nat×Obj)}(h:RelR ((L,.loop r)::M) w0 I0 s a w)(hM:∀ p,p∈M→p.1≠L)(r':Loop):RelR ((L,.loop r')::M) w0 I0 s a (w.putObj L (.loop r')):=by
  obtain ⟨Ds,I,Fs,hd,hnd,hR,hP⟩:=h;obtain ⟨k1,k2,k3,k4⟩:=hP (L,.loop r) (by simp);have hlt:=zFy k1;refine ⟨Ds,I,Fs,hd,hnd,hR.other ?_ (by simp) (fun b hb=>World.putObj_heap_other (fun e=>by
    subst e;rcases hb with hb | ⟨q,hb⟩
    · exact k2 hb
    · exact k3 q hb)),fun p hp=>?_⟩
  · exact ⟨hR.below.os,hR.below.tape,hR.below.output,by simpa using hR.below.size,fun i hi=>(World.putObj_heap_other (fun e=>by subst e;exact hi k4)).trans (hR.below.block i hi)⟩
  · rw [xD7] at hp;rcases xEf.1 hp with rfl | hp
    · exact ⟨World.putObj_heap_same hlt,k2,k3,k4⟩
    · obtain ⟨h1,h2,h3,h4⟩:=hP p (by rw [xD7];exact xE7 _ hp);refine ⟨(World.putObj_heap_other (fun e=>?_)).trans h1,h2,h3,h4⟩;rcases xD6.1 hp with hp | hp
      · exact hM p hp (by first | exact e | exact e.symm)
      · obtain ⟨D,_,rfl⟩:=xEg.1 hp;simp only [zOl] at e h1;subst e;rw [k1] at h1;cases h1
theorem RelR.sub {w0:Base}{I0:Nat→Prop}{s:List D}{a:Act}{w:World}{x:Nat×Obj}{M:List (Nat×Obj)}(h:RelR (x::M) w0 I0 s a w):RelR [x] w0 I0 s a w:=by
  obtain ⟨Ds,I,Fs,hd,hnd,hR,hP⟩:=h;refine ⟨Ds,I,Fs,hd,hnd,hR,fun p hp=>hP p ?_⟩;rcases xD6.1 hp with hp | hp
  · rw [xFp.1 hp];simp
  · exact xFk _ hp
theorem RelR.grow {w0:Base}{I0:Nat→Prop}{Pr:List (Nat×Obj)}{s:List D}{a:Act}{w w':World}(h:RelR Pr w0 I0 s a w)(hb:Go.RowKit.Below w.heap.size w w'):RelR Pr w0 I0 s a w':=by obtain ⟨Ds,I,Fs,hd,hnd,hR,hP⟩:=h;refine ⟨Ds,I,Fs,hd,hnd,hR.world hb,fun p hp=>?_⟩;obtain ⟨h1,h2,h3,h4⟩:=hP p hp;exact ⟨(hb.block _ (zFy h1)).trans h1,h2,h3,h4⟩
theorem RelR.add {w0:Base}{I0:Nat→Prop}{s:List D}{a:Act}{w:World}{x:Nat×Obj}{M:List (Nat×Obj)}(h:RelR (x::M) w0 I0 s a w)(o:Obj):RelR (x::(w.heap.size,o)::M) w0 I0 s a (w.alloc o):=by
  have hb:Go.RowKit.Below w.heap.size w (w.alloc o):=(Below.refl _ w).alloc (xD8 _) _;obtain ⟨Ds,I,Fs,hd,hnd,hR,hP⟩:=h;refine ⟨Ds,I,Fs,hd,hnd,hR.world hb,fun p hp=>?_⟩;have hcase:p=(w.heap.size,o)∨p∈x::M++Ds.map zOl:=by
    simp only [xD7,xEf,xD6] at hp ⊢;rcases hp with hp | hp | hp
    · exact .inr (.inl hp)
    · exact .inl hp
    · exact .inr (.inr hp)
  rcases hcase with rfl | hp
  · exact ⟨World.alloc_heap_new w o,fun hi=>by have:=hR.imm _ hi;simp only at this;omega,fun r hr=>by have:=(hR.own r _ hr).2.1;simp only at this;omega,Base.N_of hR.below (xD8 _)⟩
  · obtain ⟨h1,h2,h3,h4⟩:=hP p hp;exact ⟨(hb.block _ (zFy h1)).trans h1,h2,h3,h4⟩
theorem RelR.setM {w0:Base}{I0:Nat→Prop}{s:List D}{a:Act}{w:World}{L:Nat}{oL:Obj}{M1 M2:List (Nat×Obj)}{b:Nat}{cs:Array Value}{ty:TypeId}{fz:Nat×Nat}(h:RelR ((L,oL)::(M1++(b,.cells cs ty fz)::M2)) w0 I0 s a w)(hL:b≠L)(hn:((M1++(b,Obj.cells cs ty fz)::M2).map (·.1)).Nodup)(j:Nat)(v:Value):RelR ((L,oL)::(M1++(b,.cells (cs.setIfInBounds j v) ty fz)::M2)) w0 I0 s a (w.setCell ⟨b,j,none⟩ v):=by
  obtain ⟨Ds,I,Fs,hd,hnd,hR,hP⟩:=h;obtain ⟨k1,k2,k3,k4⟩:=hP (b,.cells cs ty fz) (by simp);have k1:w.heap[b]?=some (.cells cs ty fz):=k1;have hlt:=zFy k1;have hoth:∀ x,x≠b→(w.setCell ⟨b,j,none⟩ v).heap[x]?=w.heap[x]?:=fun x hx=>Below.heap_setCell _ _ _ _ hx;have hsz:(w.setCell ⟨b,j,none⟩ v).heap.size=w.heap.size:=(by simp [World.setCell]);have hsame:(w.setCell ⟨b,j,none⟩ v).heap[b]?=some (.cells (cs.setIfInBounds j v) ty fz):=(by obtain ⟨hlt',hk3⟩:=xD2.1 k1;show (w.heap.modify b _)[b]?=_;rw [xEe (by rw [xIx];exact hlt'),xHy,hk3];rfl);refine ⟨Ds,I,Fs,hd,hnd,hR.other ?_ (by rw [hsz];exact xD8 _) (fun x hx=>hoth x (fun e=>by
    subst e;rcases hx with hx | ⟨q,hx⟩
    · exact k2 hx
    · exact k3 q hx)),fun p hp=>?_⟩
  · exact ⟨hR.below.os,hR.below.tape,hR.below.output,by rw [hsz];exact hR.below.size,fun i hi=>(hoth i (fun e=>by subst e;exact hi k4)).trans (hR.below.block i hi)⟩
  · have hcase:p=(b,.cells (cs.setIfInBounds j v) ty fz)∨(p∈((L,oL)::(M1++(b,Obj.cells cs ty fz)::M2))++Ds.map zOl∧p.1≠b):=by
      rw [xEz,xDu,xDs] at hn;obtain ⟨n1,n2,n3⟩:=hn;have n2':=xEq.1 n2;simp only [xD7,xEf,xD6] at hp ⊢;rcases hp with hp | (hp | hp | hp) | hp
      · exact .inr ⟨.inl hp,by rw [hp];exact fun e=>hL e.symm⟩
      · exact .inr ⟨.inr (.inl (.inl hp)),fun e=>n3 b (xEg.2 ⟨p,hp,e⟩) b (by simp) rfl⟩
      · exact .inl hp
      · exact .inr ⟨.inr (.inl (.inr (.inr hp))),fun e=>n2'.1 (xEg.2 ⟨p,hp,e⟩)⟩
      · refine .inr ⟨.inr (.inr hp),fun e=>?_⟩;obtain ⟨D,_,rfl⟩:=xEg.1 hp;have h1:=(hP (zOl D) (xFk _ hp)).1;simp only [zOl] at e h1;rw [e,k1] at h1;cases h1
    rcases hcase with rfl | ⟨hp,hne⟩
    · exact ⟨hsame,k2,k3,k4⟩
    · obtain ⟨h1,h2,h3,h4⟩:=hP p hp;exact ⟨(hoth _ hne).trans h1,h2,h3,h4⟩
theorem RelR.drop {w0:Base}{I0:Nat→Prop}{Pr:List (Nat×Obj)}{s:List D}{a:Act}{w:World}(h:RelR Pr w0 I0 s a w):RelR Pr w0 I0 s { tmps:=a.tmps,defers:=[] } w:=by obtain ⟨Ds,I,Fs,hd,hnd,hR,hP⟩:=h;exact ⟨[],I,Fs,rfl,xFr,hR,fun p hp=>hP p (xE8 _ (by simpa using hp))⟩
theorem RelR.obj {w0:Base}{I0:Nat→Prop}{L:Nat}{o:Obj}{M:List (Nat×Obj)}{s:List D}{a:Act}{w:World}(h:RelR ((L,o)::M) w0 I0 s a w):w.heap[L]?=some o:=by obtain ⟨Ds,I,Fs,hd,hnd,hR,hP⟩:=h;exact (hP (L,o) (by simp)).1
theorem RelR.bel {w0:Base}{I0:Nat→Prop}{Pr:List (Nat×Obj)}{s:List D}{a:Act}{w:World}(h:RelR Pr w0 I0 s a w):w0.Below w:=by obtain ⟨Ds,I,Fs,hd,hnd,hR,hP⟩:=h;exact hR.below
theorem yIi (ps:Array Nat)(us:List Value)(tm:Array Value):(ps.zip us.toArray).foldl (fun t (p,v)=>t.setIfInBounds p v) tm=(ps.toList.zip us).foldl (fun t (p,v)=>t.setIfInBounds p v) tm:=by rw [← Array.foldl_toList,Array.toList_zip]
theorem zEy {pt:Nat}:∀ (c:Code) (rnd:Bool) (ro:Option Nat) (n:Nat) (w0:Base) (I0:Nat→Prop) (Pr:List (Nat×Obj)) (T:List Nat) (t0:Array Value) (ms ms':List (List Bool)) (vc:VCode) (VQ:VExit→List D→Prop) (Q:Exit→Act→World→Prop) (s:List D) (a:Act) (w:World),
    (rnd=false→ro=none)→(∀ w',w0.Below w'→GI G w' I0)→zCn P pt rnd c ms=some (vc,ms')→okR T c=true→vc.wp (CT P G) VQ s→RelR Pr w0 I0 s a w→agr T t0 a.tmps→(∀ e s a w,VQ e s→RelR Pr w0 I0 s a w→agr T t0 a.tmps→Q e.to a w)→c.wpIn (FR ro) n P Q a w
  | .skip,rnd,ro,n,w0,I0,Pr,T,t0,ms,ms',vc,VQ,Q,s,a,w,hro,hcl,hc,hT,hk,h,ha,hQ=>by simp only [zCn,xDi,xD0] at hc;obtain ⟨rfl,_⟩:=hc;exact wpIn_skip (hQ .normal s a w hk h ha)
  | .region id ops draw,rnd,ro,n,w0,I0,Pr,T,t0,ms,ms',vc,VQ,Q,s,a,w,hro,hcl,hc,hT,hk,h,ha,hQ=>by
    have hops:∀ o,o∈ops.toList→zXb o=true∧yB5 T o=true:=(by intro o ho;simp only [okR,xEh,xDn] at hT;exact hT o ho);obtain ⟨wr,a0,ds,hbel,rfl,hat,hrel,hend⟩:=zYp (VQ:=VQ .normal) (A:=agr T t0) (Q':=Q) h (fun s a w hk h ha=>hQ .normal s a w hk h ha);have hcl':∀ w',wr.Below w'→GI G w' I0:=fun w' hw'=>hcl w' (hbel w' hw');have hn:NoX (fun e a' w'=>e=Exit.normal∧∃ s',VQ .normal s'∧Rel wr I0 s' a' w'):=fun e a w h=>h.1;have ha0:agr T t0 a0.tmps:=(by rw [hat];exact ha);cases draw with
    | true =>
      simp only [zCn] at hc;cases hl:zS8 P (pt.testBit (2*id+1)) (pt.testBit (2*id)) ops with
      | none=>cases rnd<;>simp [hl] at hc
      | some l =>
        have hc':l=vc:=by cases rnd<;>(simp only [hl,xDi,xD0] at hc;exact hc.1)
        subst hc';have:=zSh (Q:=fun e a' w'=>e=Exit.normal∧∃ s',VQ .normal s'∧Rel wr I0 s' a' w') hcl' hl hn hk (fun s a w hk h=>⟨rfl,s,hk,h⟩) hrel;exact wpIn_region_any this.1 (zZx (T:=T) (t0:=t0) hn (fun a' w' hq hag=>hend a' w' hq.2 hag) (fun o ho=>hops o (by simpa using ho)) _ _ a0 _ ha0 this.2)
    | false =>
      simp only [zCn] at hc;cases hl:zUq P ops ops.toList with
      | none=>cases rnd<;>simp [hl] at hc
      | some l =>
        have hc':VCode.ops l=vc:=by cases rnd<;>(simp only [hl,xDi,xD0] at hc;exact hc.1)
        subst hc';simp only [VCode.wp] at hk;exact wpIn_region_list (zXk (T:=T) (t0:=t0) hn (fun a' w' hq hag=>hend a' w' hq.2 hag) _ a0 w hops ha0 (zIx hcl' ops (KK:=VQ .normal) (fun s a w hk h=>⟨rfl,s,hk,h⟩) ops.toList l s a0 w hl hk hrel))
  | .seq x y,rnd,ro,n,w0,I0,Pr,T,t0,ms,ms',vc,VQ,Q,s,a,w,hro,hcl,hc,hT,hk,h,ha,hQ=>by
    simp only [okR,xDn] at hT;simp only [zCn] at hc;cases hx:zCn P pt rnd x ms with
    | none=>cases rnd<;>simp [hx] at hc
    | some r =>
      obtain ⟨vx,ms1⟩:=r;cases hy:zCn P pt rnd y ms1 with
      | none=>cases rnd<;>simp [hx,hy] at hc
      | some r =>
        obtain ⟨vy,ms2⟩:=r;have hc':VCode.seq vx vy=vc:=by cases rnd<;>(simp only [hx,hy,xDi,xD0] at hc;exact hc.1)
        subst hc';simp only [VCode.wp] at hk;refine wpIn_seq (zEy x rnd ro n w0 I0 Pr T t0 ms ms1 vx _ _ s a w hro hcl hx hT.1 hk h ha ?_);intro e s' a' w' hq hr hag;cases e with
        | normal=>exact zEy y rnd ro n w0 I0 Pr T t0 ms1 ms2 vy VQ Q s' a' w' hro hcl hy hT.2 hq hr hag hQ
        | exit id=>exact hQ (.exit id) s' a' w' hq hr hag
        | ret=>exact hQ .ret s' a' w' hq hr hag
  | .cond c x y,rnd,ro,n,w0,I0,Pr,T,t0,ms,ms',vc,VQ,Q,s,a,w,hro,hcl,hc,hT,hk,h,ha,hQ=>by
    simp only [okR,xDn] at hT;simp only [zCn] at hc;cases hx:zCn P pt rnd x ms with
    | none=>cases rnd<;>simp [hx] at hc
    | some r =>
      obtain ⟨vx,ms1⟩:=r;cases hy:zCn P pt rnd y ms1 with
      | none=>cases rnd<;>simp [hx,hy] at hc
      | some r =>
        obtain ⟨vy,ms2⟩:=r;have hc':VCode.cond c vx vy=vc:=by cases rnd<;>(simp only [hx,hy,xDi,xD0] at hc;exact hc.1)
        subst hc';simp only [VCode.wp] at hk;obtain ⟨Ds,I,Fs,hd,hnd,hR,hP⟩:=h;have hTc:=zDg hR c;split at hk
        · rename_i t e;rw [e] at hTc;refine wpIn_cond_split (T_v hTc).1 (fun ht=>?_) (fun ht=>?_)
          · exact zEy x rnd ro n w0 I0 Pr T t0 ms ms1 vx VQ Q s a w hro hcl hx hT.1 (hk.1 ht) ⟨Ds,I,Fs,hd,hnd,hR,hP⟩ ha hQ
          · exact zEy y rnd ro n w0 I0 Pr T t0 ms1 ms2 vy VQ Q s a w hro hcl hy hT.2 (hk.2 ht) ⟨Ds,I,Fs,hd,hnd,hR,hP⟩ ha hQ
        · exact hk.elim
  | .block id c,rnd,ro,n,w0,I0,Pr,T,t0,ms,ms',vc,VQ,Q,s,a,w,hro,hcl,hc,hT,hk,h,ha,hQ=>by
    simp only [okR] at hT;simp only [zCn] at hc;cases hx:zCn P pt rnd c ms with
    | none=>cases rnd<;>simp [hx] at hc
    | some r =>
      obtain ⟨vx,ms1⟩:=r;have hc':VCode.block id vx=vc:=by cases rnd<;>(simp only [hx,xDi,xD0] at hc;exact hc.1)
      subst hc';simp only [VCode.wp] at hk;refine wpIn_block (zEy c rnd ro n w0 I0 Pr T t0 ms ms1 vx _ _ s a w hro hcl hx hT hk h ha ?_);intro e s' a' w' hq hr hag;cases e with
      | normal=>exact hQ .normal s' a' w' hq hr hag
      | ret=>exact hQ .ret s' a' w' hq hr hag
      | exit i =>
        simp only [zQd] at hq;by_cases hi:i=id
        · rw [if_pos hi] at hq;simp only [VExit.to,Exit.inBlock,hi,if_true];exact hQ .normal s' a' w' hq hr hag
        · rw [if_neg hi] at hq;simp only [VExit.to,Exit.inBlock,hi,if_false];exact hQ (.exit i) s' a' w' hq hr hag
  | .loop c,rnd,ro,n,w0,I0,Pr,T,t0,ms,ms',vc,VQ,Q,s,a,w,hro,hcl,hc,hT,hk,h,ha,hQ=>by
    simp only [okR] at hT;simp only [zCn] at hc;cases ms with
    | nil=>cases rnd<;>simp at hc
    | cons m ms =>
      cases hx:zCn P pt rnd c ms with
      | none=>cases rnd<;>simp [hx] at hc
      | some r =>
        obtain ⟨vx,ms1⟩:=r;have hc':VCode.loop m vx=vc:=by cases rnd<;>(simp only [hx,xDi,xD0] at hc;exact hc.1)
        subst hc';simp only [VCode.wp] at hk;obtain ⟨J,⟨k,s1,hle,h0⟩,hround⟩:=hk;refine wpIn_loop_ghost (fun n a w=>∃ s,J n s∧RelR Pr w0 I0 s a w∧agr T t0 a.tmps) k ⟨_,h0,(h.clr m).nle hle,ha⟩ ?_;rintro k a w ⟨s,hJ,hr,hag⟩;refine zEy c rnd ro n w0 I0 Pr T t0 ms ms1 vx _ _ s a w hro hcl hx hT (hround k s hJ) hr hag ?_;intro e s' a' w' hq hr' hag';cases e with
        | normal=>obtain ⟨m',hlt,s1,hle,hJ'⟩:=hq;exact ⟨m',hlt,_,hJ',(hr'.clr m).nle hle,hag'⟩
        | exit id=>exact hQ (.exit id) s' a' w' hq hr' hag'
        | ret=>exact hQ .ret s' a' w' hq hr' hag'
  | .exit id,rnd,ro,n,w0,I0,Pr,T,t0,ms,ms',vc,VQ,Q,s,a,w,hro,hcl,hc,hT,hk,h,ha,hQ=>by
    have hc':VCode.exit id=vc:=by cases rnd<;>(simp only [zCn,xDi,xD0] at hc;exact hc.1)
    subst hc';exact wpIn_exit (hQ (.exit id) s a w hk h ha)
  | .ret,rnd,ro,n,w0,I0,Pr,T,t0,ms,ms',vc,VQ,Q,s,a,w,hro,hcl,hc,hT,hk,h,ha,hQ=>by
    have hc':VCode.ret=vc:=by cases rnd<;>(simp only [zCn,xDi,xD0] at hc;exact hc.1)
    subst hc';exact wpIn_ret (hQ .ret s a w hk h ha)
  | .rangeFunc g ps ca cb,true,ro,n,w0,I0,Pr,T,t0,ms,ms',vc,VQ,Q,s,a,w,hro,hcl,hc,hT,hk,h,ha,hQ=>by simp [zCn] at hc
  | .rangeFunc g ps ca cb,false,ro,n,w0,I0,Pr,T,t0,ms,ms',vc,VQ,Q,s,a,w,hro,hcl,hc,hT,hk,h,ha,hQ=>by
    obtain rfl:=hro rfl;simp only [zCn] at hc;split at hc
    case isFalse=>cases hc
    rename_i hok;simp only [xDn] at hok;obtain ⟨hoka,hokb⟩:=hok;cases hx:zCn P pt true ca ms with
    | none=>simp [hx] at hc
    | some r =>
    obtain ⟨va,ms1⟩:=r;cases hy:zCn P pt true cb ms1 with
    | none=>simp [hx,hy] at hc
    | some r =>
    obtain ⟨vb,ms2⟩:=r;simp only [hx,hy,xDi,xD0] at hc;obtain ⟨rfl,_⟩:=hc;simp only [VCode.wp] at hk;obtain ⟨T',hT'⟩:∃ T',T'=ps.toList++zC5 ca++zC5 cb:=⟨_,rfl⟩
    have hps:∀ p,p∈ps.toList→p∈T':=fun p hp=>by rw [hT'];simp [hp]
    rw [← hT'] at hoka hokb hk;clear hT';obtain ⟨Ds,I,Fs,hd,hnd,hR,hP⟩:=h
    -- what the function value keeps of its own: X; the slots without it
    obtain ⟨F,caps,us,X,sX,FsX,xs,hev,hit,hV,hXn,hXo,hRX,hXF,hsubX,hlen,J,⟨s1,hle,hJ0⟩,hround,hdone⟩:∃ (F:FuncId) (caps:List D) (us:List Value) (X:List Nat) (sX:List D) (FsX:Nat→List Nat) (xs:List (List D)),a.eval g=.func (.func F) #[] us.toArray∧yH9 P G F (zAh (fun _=>false) caps) xs∧Vals I w (zAh (fun _=>false) caps) nil us X∧X.Nodup∧(∀ b,b∈X→(∃ r,b∈Fs r))∧RelI w0 I0 sX a.tmps w I FsX∧(∀ b,b∈X→∀ r,b∉FsX r)∧(∀ r b,b∈FsX r→b∈Fs r)∧(∀ x,x∈xs→x.length=ps.toList.length)∧∃ J:Nat→List D→Prop,(∃ s1,zFf (clr (zFt T') sX) s1∧J 0 s1) ∧
        (∀ i s' x,J i s'→xs[i]?=some x→va.wp (CT P G) (zMl (vb.wp (CT P G) (zMv (zFt T') (J (i+1)) VQ)) (fun _ _=>False)) (zD8 s' ps.toList x))∧(∀ s',J xs.length s'→VQ .normal s'):=by
      rcases hk with hk | ⟨tg,F,caps,rfl,hsg,xs,hit,hlen,J,h0,hround,hdone⟩
      · have hTg:=zDg hR g;split at hk
        case h_2=>exact hk.elim
        rename_i F caps elk;obtain ⟨xs,hit,hlen,J,h0,hround,hdone⟩:=hk;rw [elk] at hTg;simp only [Go.V.T] at hTg;obtain ⟨us0,us,F1,F2,hev,hFF,hV0,hV⟩:=hTg;have hFF':=xGl.1 hFF.symm;rw [hFF'.2] at hV;simp only [Vals] at hV0;obtain ⟨rfl,_⟩:=hV0;exact ⟨F,caps,us,[],s,Fs,xs,hev,hit,Vals.turn (ρ':=nil) (fun x v hq _=>by cases hq) caps hV,xFr,(fun b hb=>by cases hb),hR,(fun b hb=>by cases hb),(fun _ _ h=>h),hlen,J,h0,hround,hdone⟩
      · obtain ⟨u,hu,hTg⟩:=hR.slot0 hsg;simp only [Go.V.T] at hTg;obtain ⟨us0,us,F1,F2,hev,hFF,hV0,hV⟩:=hTg;simp only [Vals] at hV0;obtain ⟨rfl,rfl⟩:=hV0;rw [xEd] at hFF;have hg:a.eval (.tmp tg)=u:=(by simp [Act.eval,hu]);refine ⟨F,caps,us,Fs tg,_,upd Fs tg [],xs,by rw [hg,hev],hit,by rw [hFF];exact Vals.turn (ρ':=nil) (fun x v hq _=>by cases hq) caps hV,hR.nd tg,fun b hb=>⟨tg,hb⟩,hR.forget tg,fun b hb r hr=>?_,fun r b hb=>?_,hlen,J,h0,hround,hdone⟩
        · unfold upd at hr;split at hr
          · cases hr
          · rename_i hne;exact hne (hR.disj r tg b hr hb)
        · unfold upd at hb;split at hb
          · cases hb
          · exact hb
    obtain ⟨hen,hit⟩:=hit;have hXo2:∀ b,b∈X→b<w.heap.size∧¬ I b:=fun b hb=>by obtain ⟨r,hr⟩:=hXo b hb;exact ⟨(hR.own r b hr).2.1,(hR.own r b hr).2.2⟩
    obtain ⟨encs,henc,hiter⟩:=hit w I us X ((hcl w hR.below).mono hR.imm0) hR.imm hV hXn hXo2;obtain ⟨M0,hM0X,hM0⟩:∃ M0:List (Nat×Obj),M0.map (·.1)=X∧∀ p,p∈M0→w.heap[p.1]?=some p.2:=by
      clear hXn hXo hXF hV hiter hit;induction X with
      | nil=>exact ⟨[],rfl,fun p hp=>by cases hp⟩
      | cons b X ih =>
        obtain ⟨M,h1,h2⟩:=ih (fun b hb=>hXo2 b (by simp [hb]));have hlt:=(hXo2 b (by simp)).1;refine ⟨(b,w.heap[b])::M,by simp [h1],fun p hp=>?_⟩;rcases xEf.1 hp with rfl | hp
        · exact xEe hlt
        · exact h2 p hp
    refine wpIn_rangeFunc ?_;intro fn hfn;obtain ⟨rec,hrec⟩:∃ rec:LoopState→Option Code→Loop,rec=fun st pe=>{ state:=st,pending:=pe,fn,tmps:=a.tmps,params:=ps,assign:=ca,body:=cb,defers:=w.heap.size }:=⟨_,rfl⟩
    obtain ⟨W1,hW1⟩:∃ W1,(w.alloc (.deferred (some []))).alloc (.loop (rec .ready none))=W1:=⟨_,rfl⟩
    have hL1:W1.heap[w.heap.size+1]?=some (.loop (rec .ready none)):=(by rw [← hW1];have:=World.alloc_heap_new (w.alloc (.deferred (some []))) (.loop (rec .ready none));rwa [World.size_alloc] at this);have hK1:W1.heap[w.heap.size]?=some (.deferred (some [])):=(by rw [← hW1];exact (Below.heap_alloc _ _ _ (by simp)).trans (World.alloc_heap_new w _));have hbw:Go.RowKit.Below w.heap.size w W1:=(by rw [← hW1];exact ((Below.refl _ w).alloc (xD8 _) _).alloc (by simp) _);have hszW:W1.heap.size=w.heap.size+2:=(by rw [← hW1];simp);have hR1:=hR.world hbw
    -- the base of the rounds
    obtain ⟨wB,hwB⟩:∃ wB:Base,wB=⟨W1,fun b=>(∃ r,b∈Fs r)∨b=w.heap.size+1∨W1.heap.size≤b,fun _ h=>.inr (.inr h)⟩:=⟨_,rfl⟩
    have hwBw:wB.w=W1:=(by rw [hwB]);have hNB:∀ b,wB.N b→w0.N b:=by
      intro b hb;rw [hwB] at hb;rcases hb with ⟨r,hb⟩ | rfl | hb
      · exact (hR.own r b hb).1
      · exact Base.N_of hR.below (by omega)
      · exact Base.N_of hR1.below hb
    have hcomp:∀ w',wB.Below w'→w0.Below w':=fun w' h'=>Base.comp (by rw [hwBw];exact hR1.below) hNB h';have hIN:∀ b,I b→¬ wB.N b:=by
      intro b hb hn;rw [hwB] at hn;have:=hR.imm b hb;rcases hn with ⟨r,hr⟩ | rfl | hn
      · exact (hR.own r b hr).2.2 hb
      · omega
      · omega
    have hclB:∀ w',wB.Below w'→GI G w' I:=fun w' h'=>(hcl w' (hcomp w' h')).mono hR.imm0;have hRB:RelR ((w.heap.size+1,.loop (rec .ready none))::M0) wB I s1 { tmps:=a.tmps,defers:=[] } W1:=by
      have h0:RelR ((w.heap.size+1,.loop (rec .ready none))::M0) wB I sX { tmps:=a.tmps,defers:=[] } W1:=by
       refine ⟨[],I,FsX,rfl,xFr,(hRX.world hbw).base (w1:=wB) (by rw [hwB];exact Base.Below.refl) (fun r b hb=>by rw [hwB];exact .inl ⟨r,hsubX r b hb⟩) (fun _ h=>h) (fun _ h=>.inl h),fun p hp=>?_⟩;simp only [xEb,xEk] at hp;rcases xEf.1 hp with rfl | hp
       · refine ⟨hL1,fun hi=>by have:=hR.imm _ hi;simp only at this;omega,fun r hr=>by have:=(hR.own r _ (hsubX r _ hr)).2.1;simp only at this;omega,by rw [hwB];exact .inr (.inl rfl)⟩
       · have hpX:p.1∈X:=(by rw [← hM0X];exact xHi hp);have h1:=hM0 p hp;exact ⟨(hbw.block _ (zFy h1)).trans h1,(hXo2 _ hpX).2,hXF _ hpX,by rw [hwB];exact .inl (hXo _ hpX)⟩
      exact (h0.clr _).nle hle
    -- what holds between the rounds
    have hins:=hiter (w.heap.size+1)
      (fun k M W=>((∀ p,p∈M→p.1≠w.heap.size+1)∧(M.map (·.1)).Nodup)∧∃ s',J k s'∧RelR ((w.heap.size+1,.loop (rec .ready none))::M) wB I s' { tmps:=a.tmps,defers:=[] } W)
      (fun W=>∃ (e:VExit) (s':List D) (c:Code),((e=.ret∧c=.ret)∨∃ id,e=.exit id∧c=.exit id)∧VQ e s'∧RelR [(w.heap.size+1,.loop (rec .done (some c)))] wB I s' { tmps:=a.tmps,defers:=[] } W)
      W1 M0 hbw hM0X hM0 (fun k M1 M2 b cs ty fz A j v hJ=>by
        obtain ⟨⟨hM,hn⟩,s',h1,h2⟩:=hJ;have e:(M1++(b,Obj.cells (cs.setIfInBounds j v) ty fz)::M2).map (·.1)=(M1++(b,Obj.cells cs ty fz)::M2).map (·.1):=(by simp);refine ⟨⟨fun p hp=>?_,by rw [e];exact hn⟩,s',h1,h2.setM (hM (b,.cells cs ty fz) (by simp)) hn j v⟩;have:p.1∈(M1++(b,Obj.cells cs ty fz)::M2).map (·.1):=(by rw [← e];exact xHi hp);obtain ⟨q,hq,hqe⟩:=xEg.1 this;rw [← hqe];exact hM q hq) (fun k M A B hJ hb=>by obtain ⟨hM,s',h1,h2⟩:=hJ;exact ⟨hM,s',h1,h2.grow hb⟩) (fun k M A o hJ=>by
        obtain ⟨⟨hM,hn⟩,s',h1,h2⟩:=hJ;refine ⟨⟨fun p hp=>?_,?_⟩,s',h1,h2.add o⟩
        · rcases xEf.1 hp with rfl | hp
          · have:=zFy h2.obj;simp only;omega
          · exact hM p hp
        · rw [xDu];refine xEq.2 ⟨fun hm=>?_,hn⟩;obtain ⟨q,hq,hqe⟩:=xEg.1 hm;obtain ⟨_,_,_,_,_,_,hP2⟩:=h2;have:=zFy (hP2 q (xE8 _ (xE7 _ hq))).1;simp only at hqe;omega) (fun k M A p hJ hp=>by
        obtain ⟨_,s',_,_,_,_,_,_,_,hP⟩:=hJ;exact (hP p (xE8 _ (xE7 _ hp))).1) (fun A B hJ hb=>by obtain ⟨e,s',c,h0,h1,h2⟩:=hJ;exact ⟨e,s',c,h0,h1,h2.grow hb⟩) ?_ ⟨⟨(fun p hp=>by have hpX:p.1∈X:=by { rw [← hM0X];exact xHi hp };have:=(hXo2 _ hpX).1;omega),by rw [hM0X];exact hXn⟩,s1,hJ0,hRB⟩
    · refine ⟨w.heap.size+1,[{ target:=.collected w.heap.size,args:=#[] }],W1,{ target:=.fn (.func F) us.toArray,args:=#[.func (.yield (w.heap.size+1)) #[] #[]] },W1,F,
        #[.func (.yield (w.heap.size+1)) #[] #[]]++us.toArray,W1,?_,?_,fun _ _=>trivial,?_,fun h=>absurd h (by simp [FR,Fence.wide]),?_⟩
      · rw [← hW1,hrec];exact run_enterLoop_outer _ _ _ _ _
      · simp only [resolve,hev];simp [go_sem]
      · simp [invoke,go_sem,hen]
      · have hins2:CallsIn Fence.wide (n-1) P F (#[.func (.yield (w.heap.size+1)) #[] #[]]++us.toArray) W1 (rangePost (FR none) n P (w.heap.size+1) Q { a with defers:=[{ target:=.collected w.heap.size,args:=#[] }]++a.defers }):=by
          refine callsIn_wide.2 (Calls.mono (callsIn_wide.1 hins) ?_)
          -- behind the loop
          have behind:∀ (s':List D) (W2:World) (st:LoopState) (pe:Option Code),RelR [(w.heap.size+1,.loop (rec st pe))] wB I s' { tmps:=a.tmps,defers:=[] } W2 →
              RelR Pr w0 I0 s' { a with defers:=[{ target:=.collected w.heap.size,args:=#[] }]++a.defers } (W2.putObj (w.heap.size+1) (.loop { rec st pe with state:=.exhausted })):=by
            intro s' W2 st pe h2;obtain ⟨Ds',I',Fs',hd',hnd',hR',hP'⟩:=RelR.putL h2 (fun p hp=>by cases hp) { rec st pe with state:=.exhausted };have hold:∀ (b:Nat) (o:Obj),W1.heap[b]?=some o→¬ I b→(∀ r,b∉Fs r)→b≠w.heap.size+1→(W2.putObj (w.heap.size+1) (.loop { rec st pe with state:=.exhausted })).heap[b]?=some o∧¬ I' b∧(∀ r,b∉Fs' r):=by
              intro b o h1 h2 h3 h4;have hnn:¬ wB.N b:=by
                rw [hwB];rintro (⟨r,hr⟩ | hr | hr)
                · exact h3 r hr
                · exact h4 hr
                · have:=zFy h1;omega
              refine ⟨?_,fun hi=>?_,fun r hr=>hnn (hR'.own r _ hr).1⟩
              · have:=hR'.below.block b hnn;rw [hwBw] at this;rw [this];exact h1
              · rcases hR'.immN _ hi with h0 | h0
                · exact h2 h0
                · exact hnn h0
            have hDlt:∀ D,D∈Ds→D<w.heap.size:=fun D hD=>zFy (hP (zOl D) (xFk _ (xEg.2 ⟨D,hD,rfl⟩))).1;refine ⟨w.heap.size::Ds,I',Fs',by simp [hd,mkD],xEq.2 ⟨fun hm=>by have:=hDlt _ hm;omega,hnd⟩,?_,?_⟩
            · exact hR'.base (hcomp _ hR'.below) (fun r b hb=>hNB b (hR'.own r b hb).1) (fun b hb=>hR'.imm0 b (hR.imm0 b hb)) (fun b hb=>by
                rcases hR'.immN b hb with h0 | h0
                · exact hR.immN b h0
                · exact .inr (hNB b h0))
            · intro p hp;have hcase:p∈Pr++Ds.map zOl∨p=zOl w.heap.size:=by
                rcases xD6.1 hp with hp | hp
                · exact .inl (xE8 _ hp)
                · rw [xDu] at hp;rcases xEf.1 hp with rfl | hp
                  · exact .inr rfl
                  · exact .inl (xFk _ hp)
              rcases hcase with hp | rfl
              · obtain ⟨h1,h2,h3,h4⟩:=hP p hp;have hlt:=zFy h1;obtain ⟨k1,k2,k3⟩:=hold p.1 p.2 ((hbw.block _ hlt).trans h1) h2 h3 (by omega);exact ⟨k1,k2,k3,h4⟩
              · obtain ⟨k1,k2,k3⟩:=hold w.heap.size _ hK1 (fun hi=>by have:=hR.imm _ hi;omega) (fun r hr=>by have:=(hR.own r _ hr).2.1;omega) (by omega);exact ⟨k1,k2,k3,Base.N_of hR.below (xD8 _)⟩
          rintro e W2 ⟨⟨v,rfl⟩,(⟨M,_,s',hJ,h2⟩ | ⟨e,s',c,hec,hq,h2⟩)⟩
          · replace h2:=h2.sub
            obtain ⟨_,_,_,_,_,_,hP2⟩:=h2;have hl:=(hP2 _ (xE8 _ (xFp.2 rfl))).1;exact ⟨none,_,by have:=run_endLoop (P:=P) hl (by rw [hrec];simp);rw [hrec] at this ⊢;exact this,hQ .normal s' _ _ (hdone s' hJ) (behind s' W2 .ready none ⟨_,_,_,‹_›,‹_›,‹_›,hP2⟩) ha⟩
          · obtain ⟨_,_,_,_,_,_,hP2⟩:=h2;have hl:=(hP2 _ (xE8 _ (xFp.2 rfl))).1;have hb:=behind s' W2 .done (some c) ⟨_,_,_,‹_›,‹_›,‹_›,hP2⟩;refine ⟨some c,W2.putObj (w.heap.size+1) (.loop { rec .done (some c) with state:=.exhausted }),by have:=run_endLoop (P:=P) hl (by rw [hrec];simp);rw [hrec] at this ⊢;exact this,?_⟩;rcases hec with ⟨rfl,rfl⟩ | ⟨id,rfl,rfl⟩
            · exact wpIn_ret (hQ .ret s' _ _ hq hb ha)
            · exact wpIn_exit (hQ (.exit id) s' _ _ hq hb ha)
        exact hins2
    · -- one round
      rintro k M W hk ⟨hM,s',hJ,hrel⟩;obtain ⟨x,hxk⟩:∃ x,xs[k]?=some x:=⟨xs[k],xDl hk⟩
      have hVx:=henc k x hxk;have hlx:=hlen x (xG1 hxk);have hlu:(encs k).length=ps.size:=(by have:=hVx.len;rw [this,hlx];simp);obtain ⟨Ds0,I1,Fs1,hd1,hnd1,hR2,hP2⟩:=hrel;have hDs0:Ds0=[]:=by cases Ds0 with
        | nil=>rfl
        | cons D Ds0=>simp at hd1
      subst hDs0;have hl:=(hP2 _ (xE8 _ xG9)).1;have hyl:=run_yield (P:=P) (args:=(encs k).toArray) hl (by rw [hrec];simp [hlu]);rw [hrec] at hyl;simp only at hyl;rw [yIi] at hyl;refine ⟨fn,_,ca,cb,hyl,roundIn_of_wpIn trivial ?_⟩;clear hyl
      -- the values of the round, at their slots
      have hVxW:Vals I W x nil (encs k) []:=Vals.keep x hVx (fun b hb=>by
        rcases hb with hb | hb
        · have:=hR2.below.block b (hIN b hb);rw [hwBw] at this;exact this.trans (hbw.block b (hR.imm b hb))
        · cases hb)
      have hrel0:RelR ((w.heap.size+1,.loop (rec .ready none))::M) wB I s' { tmps:=a.tmps,defers:=[] } W:=⟨[],I1,Fs1,rfl,hnd1,hR2,hP2⟩
      have hput:RelR ((w.heap.size+1,.loop (rec .ready none))::M) wB I (zD8 s' ps.toList x) { tmps:=(ps.toList.zip (encs k)).foldl (fun t (p,v)=>t.setIfInBounds p v) a.tmps,defers:=[] } W:=(by obtain ⟨wr,a0,ds,hbel,ha0,hat,hrel1,hend⟩:=zYp (VQ:=fun s=>s=zD8 s' ps.toList x) (A:=fun _=>True) (Q':=fun _ a2 w2=>RelR ((w.heap.size+1,.loop (rec .ready none))::M) wB I (zD8 s' ps.toList x) a2 w2) hrel0 (fun s a w h hr _=>by rw [← h];exact hr);have hds:ds=[]:=(by have:=congrArg Act.defers ha0;simp only [zTe] at this;exact (xGl.1 this.symm).2);subst hds;obtain ⟨_,I2,Fs2,hR3⟩:=hrel1;obtain ⟨Fs3,hR4⟩:=zVm ps.toList x (encs k) hR3 (Vals.mono hR3.imm0 _ hVxW) (by simpa using hlx);rw [hat] at hR4;exact hend { tmps:=(ps.toList.zip (encs k)).foldl (fun t (p,v)=>t.setIfInBounds p v) a.tmps,defers:=[] } W ⟨_,rfl,rfl,I2,Fs3,hR4⟩ trivial);have hkeep:∀ w',wB.Below w'→yCm I W w':=fun w' h' b hb=>(h'.block b (hIN b hb)).trans (hR2.below.block b (hIN b hb)).symm;refine zEy ca true (some (w.heap.size+1)) 1 wB I _ T' a.tmps ms ms1 va _ _ _ _ W (fun h=>by cases h) hclB hx hoka (hround k s' x hJ hxk) hput (zZz ps.toList (encs k) hps agr.refl) ?_;intro e s2 a2 w2 hq hr2 hag2;cases e with
      | exit id=>exact hq.elim
      | ret=>exact hq.elim
      | normal =>
        have hl2:=hr2.obj;refine ⟨_,run_beginRound hl2 (by rw [hrec]),?_⟩;refine zEy cb true (some (w.heap.size+1)) 1 wB I _ T' a.tmps ms1 ms2 vb (zMv (zFt T') (J (k+1)) VQ) _ s2 a2 _ (fun h=>by cases h) hclB hy hokb hq (hr2.putL hM.1 _) hag2 ?_;intro e s3 a3 w3 hq3 hr3 hag3;have hl3:=hr3.obj;cases e with
        | normal=>obtain ⟨s4,hle4,hJ4⟩:=hq3;have hfin:=(((hr3.back hag3).nle hle4).drop).putL hM.1 (rec .ready none);refine ⟨_,w3.putObj (w.heap.size+1) (.loop (rec .ready none)),by have:=run_endRound (P:=P) none hl3;rw [hrec] at this ⊢;exact this,.inl ⟨rfl,⟨hM,s4,hJ4,hfin⟩,hkeep _ hfin.bel⟩⟩
        | ret=>have hfin:=(((hr3.back hag3).drop).sub).putL (fun p hp=>by cases hp) (rec .done (some .ret));refine ⟨_,w3.putObj (w.heap.size+1) (.loop (rec .done (some .ret))),by have:=run_endRound (P:=P) (some .ret) hl3;rw [hrec] at this ⊢;exact this,.inr ⟨rfl,.ret,_,.ret,.inl ⟨rfl,rfl⟩,hq3,hfin⟩⟩
        | exit id=>have hfin:=(((hr3.back hag3).drop).sub).putL (fun p hp=>by cases hp) (rec .done (some (.exit id)));refine ⟨_,w3.putObj (w.heap.size+1) (.loop (rec .done (some (.exit id)))),by have:=run_endRound (P:=P) (some (.exit id)) hl3;rw [hrec] at this ⊢;exact this,.inr ⟨rfl,.exit id,_,.exit id,.inr ⟨id,rfl,rfl⟩,hq3,hfin⟩⟩
  | .scope _,rnd,_,_,_,_,_,_,_,_,_,_,_,_,_,_,_,_,_,hc,_,_,_,_,_=>by cases rnd<;>simp [zCn] at hc
  | .label _,rnd,_,_,_,_,_,_,_,_,_,_,_,_,_,_,_,_,_,hc,_,_,_,_,_=>by cases rnd<;>simp [zCn] at hc
  | .goto _,rnd,_,_,_,_,_,_,_,_,_,_,_,_,_,_,_,_,_,hc,_,_,_,_,_=>by cases rnd<;>simp [zCn] at hc
  | .refuse _,rnd,_,_,_,_,_,_,_,_,_,_,_,_,_,_,_,_,_,hc,_,_,_,_,_=>by cases rnd<;>simp [zCn] at hc
end
end Go.V
namespace Go.V
open Go.RowKit
section
variable {P:Program} {w0:Base} {I0:Nat→Prop} {s:List D} {a:Act} {w':World} {I':Nat→Prop} {Fs:Nat→List Nat}
theorem xB4 {fn:Func} {rvs:List RV} {KK:List D→List D→Prop} (hr:zRs P fn.results.toList=some rvs) (hR:RelI w0 I0 s a.tmps w' I' Fs) (hq:zR4 s rvs KK) :
    ∃ v,(results fn a.tmps).run P w'=.ok v w'∧∃ ds F s2 Fs2,KK ds s2∧T I' w' (one ds) nil v F∧F.Nodup∧(∀ b,b∈F→w0.N b∧b<w'.heap.size∧¬ I' b)∧RelI w0 I0 s2 a.tmps w' I' Fs2∧∀ b,b∈F→∀ r,b∉Fs2 r:=by
  obtain ⟨us',ds,F,s2,Fs2,m1,m2,m3,m4,m5,m6,m7,m8,m9,m10⟩:=yQp fn.results.toList hR hr hq;have hrun:(results fn a.tmps).run P w'=.ok (if us'.length=1 then us'.headD undef else .tuple us'.toArray) w':=by
    rw [zSl,Sem.run_bind,xIr,Sem.run_map,m1];simp only [Result.andThen_ok,Sem.run_pure];by_cases h1:us'.length=1
    · rw [if_pos h1,dif_pos (by simpa using h1)];cases us' with
      | nil=>simp at h1
      | cons u us2=>simp
    · rw [if_neg h1,dif_neg (by simpa using h1)]
  have hT : T I' w' (one ds) nil (if us'.length=1 then us'.headD undef else .tuple us'.toArray) F:=by
    have hl:=m4.len;by_cases h1:us'.length=1
    · rw [if_pos h1];cases ds with
      | nil=>rw [h1] at hl;simp at hl
      | cons d1 ds =>
        cases ds with
        | nil=>simp only [Vals] at m4;obtain ⟨u,us2,F1,F2,e1,e2,ht,e3,e4⟩:=m4;subst e1;subst e2;subst e3;subst e4;simpa [one] using ht
        | cons d2 ds=>rw [h1] at hl;simp at hl
    · rw [if_neg h1];have:one ds=.tup ds:=by
        cases ds with
        | nil=>rfl
        | cons d1 ds=>cases ds with
          | nil=>exact absurd hl h1
          | cons d2 ds=>rfl
      rw [this];simp only [T];exact ⟨us',rfl,m4⟩
  exact ⟨_,hrun,ds,F,s2,Fs2,m3,hT,m5,m6,m8,m10⟩
theorem zO6 {fn:Func}{tm:Array Value}{R:Ending→World→Prop}(hend:∀ w'',RelI w0 I0 s tm w'' I' Fs→∃ v,(results fn tm).run P w''=.ok v w''∧R (.returned v) w''):∀ (Ds:List Nat) (w':World),RelI w0 I0 s tm w' I' Fs→Ds.Nodup→xDa w0 w' I' Fs (Ds.map zOl)→LeavesInM Fence.wide 0 P fn tm R (Ds.map mkD) .returning w'
  | [],w',hR,_,_=>hend w' hR
  | D :: Ds,w',hR,hnd,hP=>by
    obtain ⟨k1,k2,k3,k4⟩:=hP (zOl D) (by simp);simp only [zOl] at k1 k2 k3 k4;have hlt:=zFy k1;refine ⟨by simp,.inl ⟨D,w'.putObj D (.deferred none),rfl,run_takeDeferred k1,?_⟩⟩;refine zO6 hend Ds _ (hR.other ⟨hR.below.os,hR.below.tape,hR.below.output,by simpa using hR.below.size,fun i hi=>(World.putObj_heap_other (fun e=>by subst e;exact hi k4)).trans (hR.below.block i hi)⟩ (by simp) (fun b hb=>World.putObj_heap_other (fun e=>by
      subst e;rcases hb with hb | ⟨q,hb⟩
      · exact k2 hb
      · exact k3 q hb))) (xEq.1 hnd).2 (fun p hp=>?_)
    obtain ⟨h1,h2,h3,h4⟩:=hP p (by rw [xDu];exact xE7 _ hp);refine ⟨(World.putObj_heap_other (fun e=>?_)).trans h1,h2,h3,h4⟩;obtain ⟨D',hD',rfl⟩:=xEg.1 hp;simp only [zOl] at e;subst e;exact (xEq.1 hnd).1 hD'
end
theorem yCi {pt:Nat}{P:Program}{G:World→(Nat→Prop)→Prop}{f:FuncId}{fn:Func}{c:Code}{ms ms':List (List Bool)}{vc:VCode}{rvs:List RV}{KK:List D→List D→Prop}{w:World}{I:Nat→Prop}{us:List Value}{X:List Nat}{s0:List D}{Fs0:Nat→List Nat}(hG:∀ w',(ioB w X).Below w'→GI G w' I)(hf:P.funcs[f]?=some fn)(hb:fn.body=some c)
    (hc:zCn P pt false c ms=some (vc,ms')) (hok:okR (zC5 c) c=true) (hr:zRs P fn.results.toList=some rvs) (hrel:RelI (ioB w X) I s0 (us.toArray++Array.replicate (fn.ntmps-us.toArray.size) undef) w I Fs0) (hk:vc.wp (CT P G) (yMy rvs KK) s0) :
    Calls P f us.toArray w fun e w'=>∃ v ds F s2 Fs2 I' tm,e=.returned v∧KK ds s2∧(ioB w X).Below w'∧T I' w' (one ds) nil v F∧F.Nodup∧(∀ b,b∈F→(ioB w X).N b∧b<w'.heap.size∧¬ I' b)∧RelI (ioB w X) I s2 tm w' I' Fs2∧∀ b,b∈F→∀ r,b∉Fs2 r:=by
  refine (callsIn_wide (n:=0)).1 (callsIn_of_wp_marks hf hb trivial ?_ rfl);refine zEy c false none 0 (ioB w X) I [] (zC5 c) _ ms ms' vc (yMy rvs KK) _ _ _ w (fun _=>rfl) hG hc hok hk ⟨[],I,Fs0,rfl,xFr,hrel,fun p hp=>by simp at hp⟩ agr.refl ?_;intro e s a w' hq hr' _;obtain ⟨Ds,I',Fs,hd,hnd,hR,hP⟩:=hr';have key:zR4 s rvs KK→LeavesInM Fence.wide 0 P fn a.tmps (fun e w'=>∃ v ds F s2 Fs2 I' tm,e=.returned v∧KK ds s2∧(ioB w X).Below w'∧T I' w' (one ds) nil v F∧F.Nodup∧(∀ b,b∈F→(ioB w X).N b∧b<w'.heap.size∧¬ I' b)∧RelI (ioB w X) I s2 tm w' I' Fs2∧∀ b,b∈F→∀ r,b∉Fs2 r) a.defers .returning w':=by intro hq;rw [hd];refine zO6 (w0:=ioB w X) (I0:=I) (s:=s) (I':=I') (Fs:=Fs) (fun w'' hR=>?_) Ds w' hR hnd (fun p hp=>hP p (by simpa using hp));obtain ⟨v,hrun,ds,F,s2,Fs2,m3,hT,m5,m6,m8,m10⟩:=xB4 (a:=a) hr hR hq;exact ⟨v,hrun,v,ds,F,s2,Fs2,I',a.tmps,rfl,m3,hR.below,hT,m5,m6,m8,m10⟩
  cases e with
  | normal=>exact key hq
  | ret=>exact key hq
  | exit id=>exact hq.elim
theorem zPa {pt:Nat}{P:Program}{G:World→(Nat→Prop)→Prop}{f:FuncId}{fn:Func}{c:Code}{ms ms':List (List Bool)}{vc:VCode}{rvs:List RV}{args:List D}{d:D}(hcl:yV6 G)(hf:P.funcs[f]?=some fn)(hen:∀ (us:Array Value) (W:World),(callFunc f us).run P W=.ok (.enter f us) W)(hb:fn.body=some c)
    (hc:zCn P pt false c ms=some (vc,ms')) (hok:okR (zC5 c) c=true) (hr:zRs P fn.results.toList=some rvs) (hk:vc.wp (CT P G) (zG3 rvs d) (args++List.replicate (fn.ntmps-args.length) .undef)):Contract P G f args d:=by
  refine ⟨hen,fun w I us hG hI hV=>?_⟩;have hlen:=hV.len;refine (yCi (I:=I) (X:=[]) (us:=us) (Fs0:=fun _=>[]) (fun w' hb'=>hG.keep hcl fun b hb=>hb'.block b (fun hn=>hn.elim (fun h=>absurd (hI b hb) (by omega)) (fun h=>by cases h))) hf hb hc hok hr ?_ hk).mono ?_
  · exact {
      below:=Base.Below.refl
      len:=by simp [hlen]
      slot:=fun r d' u h1 h2=>zHy hV h1 h2
      nd:=fun _=>xFr
      disj:=fun _ _ _ h=>by cases h
      own:=fun _ _ h=>by cases h
      imm:=hI
      imm0:=fun _ h=>h
      immN:=fun _ h=>.inl h }
  · rintro e w' ⟨v,ds,F,s2,Fs2,I',tm,he,hle,hbel,hT,hnd,hF,hR,_⟩;obtain ⟨F',k1,k2⟩:=T.leF _ _ hT hle;have hN:∀ x,(ioB w []).N x→w.heap.size≤x:=fun x h=>h.elim id (fun h=>by cases h);exact ⟨v,F',I',he,⟨hbel.os,hbel.tape,hbel.output,hbel.size,fun k hk=>hbel.block k (fun h=>by have:=hN k h;omega)⟩,k1,k2.nodup hnd,fun b hb=>⟨hN b (hF b (k2.subset hb)).1,(hF b (k2.subset hb)).2⟩,hR.imm0,fun b hb=>⟨(hR.immN b hb).imp_right (hN b),hR.imm b hb⟩⟩
end Go.V
namespace Go.V
open Go.RowKit
/-! ### The machine run by simp: every continuation is a constant applied, none a function written out -/
variable {Ctr:CtrT} {s:List D} {K:D→List D→Prop} {KK:List D→Prop} {os:List VO}
def yUq (Ctr:CtrT)(os:List VO)(KK:List D→Prop):List D→Prop:=fun s=>zMj Ctr s os KK
def yVw (dst:Option Nat)(K:List D→Prop):D→List D→Prop:=fun d s=>K (match dst with | some t=>zMz s t d | none=>s)
def zGy (Ctr:CtrT)(dst:Option Nat)(want:Bool)(op:VOp)(d:D)(s:List D)(K:List D→Prop):Prop :=
  match d with
  | .v (.bool b)=>(b=want→zAn Ctr s op (yVw dst K))∧(b≠want→K (match dst with | some t=>zMz s t (.v (.tuple #[])) | none=>s))
  | .v _=>K (match dst with | some t=>zMz s t (.v (.tuple #[])) | none=>s)
  | _=>False
theorem yRj:zMj Ctr s [] KK=KK s:=rfl
theorem yLi {dst:Option Nat}{op:VOp}:zMj Ctr s (⟨dst,none,op⟩::os) KK=zAn Ctr s op (yVw dst (yUq Ctr os KK)):=rfl
theorem yFn {dst:Option Nat}{op:VOp}{g:Nat}{want:Bool}:zMj Ctr s (⟨dst,some (g,want),op⟩::os) KK=zGy Ctr dst want op (lkT s g) s (yUq Ctr os KK):=rfl
theorem yNe:yUq Ctr os KK s=zMj Ctr s os KK:=rfl
theorem yKn {t:Nat}{d:D}:yVw (some t) KK d s=KK (zMz s t d):=rfl
theorem yKo {d:D}:yVw none KK d s=KK s:=rfl
theorem yMm {dst:Option Nat}{op:VOp}:zGy Ctr dst true op (.v (.bool true)) s KK=zAn Ctr s op (yVw dst KK):=by simp [zGy]
theorem yMp {dst:Option Nat}{op:VOp}:zGy Ctr dst false op (.v (.bool false)) s KK=zAn Ctr s op (yVw dst KK):=by simp [zGy]
theorem yMn {t:Nat}{op:VOp}:zGy Ctr (some t) true op (.v (.bool false)) s KK=KK (zMz s t (.v (.tuple #[]))):=by simp [zGy]
theorem yMo {t:Nat}{op:VOp}:zGy Ctr (some t) false op (.v (.bool true)) s KK=KK (zMz s t (.v (.tuple #[]))):=by simp [zGy]
theorem yBw {t:Nat}{op:VOp}{want:Bool}:zGy Ctr (some t) want op (.v (.tuple #[])) s KK=KK (zMz s t (.v (.tuple #[]))):=by simp [zGy]
theorem zRi {dst:Option Nat}{op:VOp}{want b:Bool}{s:List D}{KK:List D→Prop}(h1:b=true→zGy Ctr dst want op (.v (.bool true)) s KK)(h2:b=false→zGy Ctr dst want op (.v (.bool false)) s KK):zGy Ctr dst want op (.v (.bool b)) s KK:=by
  cases b
  · exact h2 rfl
  · exact h1 rfl
/-! looking -/
def lkF (t:Nat):Option D→D
  | some (.sl true _ _)=>.ref t []
  | some (.mp _ _)=>.ref t []
  | some (.box _ _)=>.ptr t [] 0 0
  | some (.fn f a c)=>if zDf a||zDf c then yVz f a c else .fn f a c
  | some d=>if d.owny then .undef else d
  | none=>.undef
theorem yLa {f b cs}:yVz f [.box (some b) cs] []=.fn f [.v (.pointer (some ⟨b,0,none⟩))] []:=rfl
theorem yOp {t:Nat}:lk s (.tmp t)=lkF t s[t]?:=by unfold lk lkT lkF;rfl
theorem yXy {t:Nat}:lkT s t=lkF t s[t]?:=by unfold lkT lkF;rfl
theorem yL3 {v:Value}:lk s (.const v)=ofV v:=rfl
theorem ySk {f:FuncId}:lk s (.func f)=.fn f [] []:=rfl
section
variable {t:Nat}
theorem ySo {sz rows}:lkF t (some (.sl true sz rows))=.ref t []:=rfl
theorem ySq {sz rows}:lkF t (some (.sl false sz rows))=.sl false sz rows:=rfl
theorem ySr {g cs}:lkF t (some (.box g cs))=.ptr t [] 0 0:=rfl
theorem yXz {k e}:lkF t (some (.mp k e))=.ref t []:=rfl
theorem ySp {k e}:lkF t (some (.imp k e))=.imp k e:=rfl
theorem xBj {v}:lkF t (some (.v v))=.v v:=rfl
theorem yL4:lkF t (some .nils)=.nils:=rfl
theorem yGc:lkF t (some .undef)=.undef:=rfl
theorem ySm {r q}:lkF t (some (.ref r q))=.ref r q:=rfl
theorem ySl {r q i j}:lkF t (some (.sub r q i j))=.sub r q i j:=rfl
theorem ySn {r q i j}:lkF t (some (.ptr r q i j))=.ptr r q i j:=rfl
theorem yL5 {cs j}:lkF t (some (.iptr cs j))=.iptr cs j:=rfl
theorem ySs {cs}:lkF t (some (.agg cs))=if zDf cs then .undef else .agg cs:=rfl
theorem yX0 {f a b}:lkF t (some (.fn f a b))=if zDf a||zDf b then yVz f a b else .fn f a b:=rfl
end
def xA7 (t:Nat):Option D→D
  | some (.box _ _)=>.ptr t [] 0 0
  | some d=>d
  | none=>.undef
theorem yQ7 {t:Nat}:raw s (.tmp t)=xA7 t s[t]?:=by unfold raw xA7;rfl
theorem yE0 {v:Value}:raw s (.const v)=ofV v:=rfl
theorem yKl {f:FuncId}:raw s (.func f)=.fn f [] []:=rfl
def tkF (t:Nat)(s:List D):Option D→D×List D
  | some (.sl true sz rows)=>(.sl true sz rows,(zAh (zAi t) s).set t .undef)
  | some (.mp k e)=>(.mp k e,(zAh (zAi t) s).set t .undef)
  | some (.box _ _)=>(.ptr t [] 0 0,s)
  | some d=>(d,if d.owny then s.set t .undef else s)
  | none=>(.undef,s)
theorem yWe {t:Nat}:tk s (.tmp t)=tkF t s s[t]?:=by unfold tk tkT tkF;rfl
theorem yWf {t:Nat}:tkT s t=tkF t s s[t]?:=by unfold tkT tkF;rfl
theorem yIw {v:Value}:tk s (.const v)=(ofV v,s):=rfl
theorem yPk {f:FuncId}:tk s (.func f)=(.fn f [] [],s):=rfl
section
variable {t:Nat}
theorem yPq {sz rows}:tkF t s (some (.sl true sz rows))=(.sl true sz rows,(zAh (zAi t) s).set t .undef):=rfl
theorem yPs {sz rows}:tkF t s (some (.sl false sz rows))=(.sl false sz rows,s):=rfl
theorem yPt {g cs}:tkF t s (some (.box g cs))=(.ptr t [] 0 0,s):=rfl
theorem yWh {k e}:tkF t s (some (.mp k e))=(.mp k e,(zAh (zAi t) s).set t .undef):=rfl
theorem yPr {k e}:tkF t s (some (.imp k e))=(.imp k e,s):=rfl
theorem xAx {v}:tkF t s (some (.v v))=(.v v,s):=rfl
theorem yIy:tkF t s (some .nils)=(.nils,s):=rfl
theorem yDa:tkF t s (some .undef)=(.undef,s):=rfl
theorem yPo {r q}:tkF t s (some (.ref r q))=(.ref r q,s):=rfl
theorem yPn {r q i j}:tkF t s (some (.sub r q i j))=(.sub r q i j,s):=rfl
theorem yPp {r q i j}:tkF t s (some (.ptr r q i j))=(.ptr r q i j,s):=rfl
theorem yIz {cs j}:tkF t s (some (.iptr cs j))=(.iptr cs j,s):=rfl
theorem yPu {cs}:tkF t s (some (.agg cs))=(.agg cs,if zDf cs then s.set t .undef else s):=rfl
theorem yPm {cs}:tkF t s (some (.tup cs))=(.tup cs,if zDf cs then s.set t .undef else s):=rfl
theorem yWi {f a b}:tkF t s (some (.fn f a b))=(.fn f a b,if zDf a||zDf b then s.set t .undef else s):=rfl
end
theorem yPl:tkL s []=([],s):=rfl
theorem yIx {x:Operand}{xs:List Operand}:tkL s (x::xs)=((tk s x).1.prune (zHv (tkL (tk s x).2 xs).2)::(tkL (tk s x).2 xs).1,(tkL (tk s x).2 xs).2):=rfl
def zVn (s:List D)(t:Nat)(d:D):Option D→List D
  | some (.sl true sz rows)=>(zAh (zAi t) s).set t (zSn t sz rows d)
  | some (.mp _ _)=>(zAh (zAi t) s).set t (d.prune (zAi t))
  | some (.box _ _)=>(zAh (zAi t) s).set t (d.prune (zAi t))
  | _=>s.set t d
theorem yRe {t:Nat}{d:D}:zMz s t d=zVn s t d s[t]?:=by unfold zMz zVn;rfl
section
variable {t:Nat} {d:D}
theorem yK0 {sz rows}:zVn s t d (some (.sl true sz rows))=(zAh (zAi t) s).set t (zSn t sz rows d):=rfl
theorem yKq {sz rows r n}:zSn t sz rows (.sub r [] 0 n)=if r=t∧n≤rows.length then .sl true sz (rows.take n) else (D.sub r [] 0 n).prune (zAi t):=rfl
theorem yW8 {sz rows v}:zSn t sz rows (.v v)=.v v:=rfl
theorem yAy {sz rows}:zSn t sz rows .undef=.undef:=rfl
theorem yE4 {sz rows}:zSn t sz rows .nils=.nils:=rfl
theorem yQ9 {sz rows o z rs}:zSn t sz rows (.sl o z rs)=.sl o z rs:=rfl
theorem yRa {sz rows k e}:zSn t sz rows (.mp k e)=.mp k e:=rfl
theorem yKt {sz rows k e}:zSn t sz rows (.imp k e)=.imp k e:=rfl
theorem yE5 {sz rows c j}:zSn t sz rows (.iptr c j)=.iptr c j:=rfl
theorem yKv {sz rows cs}:zSn t sz rows (.agg cs)=(D.agg cs).prune (zAi t):=rfl
theorem yKp {sz rows cs}:zSn t sz rows (.tup cs)=(D.tup cs).prune (zAi t):=rfl
theorem yKu {sz rows g cs}:zSn t sz rows (.box g cs)=(D.box g cs).prune (zAi t):=rfl
theorem yRb {sz rows f a b}:zSn t sz rows (.fn f a b)=(D.fn f a b).prune (zAi t):=rfl
theorem yKr {sz rows r p}:zSn t sz rows (.ref r p)=(D.ref r p).prune (zAi t):=rfl
theorem yKs {sz rows r p i j}:zSn t sz rows (.ptr r p i j)=(D.ptr r p i j).prune (zAi t):=rfl
theorem yE3 {sz rows r x p i n}:zSn t sz rows (.sub r (x::p) i n)=(D.sub r (x::p) i n).prune (zAi t):=rfl
theorem yK3 {g cs}:zVn s t d (some (.box g cs))=(zAh (zAi t) s).set t (d.prune (zAi t)):=rfl
theorem yRc {k e}:zVn s t d (some (.mp k e))=(zAh (zAi t) s).set t (d.prune (zAi t)):=rfl
theorem yK1 {k e}:zVn s t d (some (.imp k e))=s.set t d:=rfl
theorem yK2 {sz rows}:zVn s t d (some (.sl false sz rows))=s.set t d:=rfl
theorem yW9 {v}:zVn s t d (some (.v v))=s.set t d:=rfl
theorem yE6:zVn s t d (some .nils)=s.set t d:=rfl
theorem yAz:zVn s t d (some .undef)=s.set t d:=rfl
theorem yKy {r q}:zVn s t d (some (.ref r q))=s.set t d:=rfl
theorem yKx {r q i j}:zVn s t d (some (.sub r q i j))=s.set t d:=rfl
theorem yKz {r q i j}:zVn s t d (some (.ptr r q i j))=s.set t d:=rfl
theorem yE7 {cs j}:zVn s t d (some (.iptr cs j))=s.set t d:=rfl
theorem yK4 {cs}:zVn s t d (some (.agg cs))=s.set t d:=rfl
theorem yKw {cs}:zVn s t d (some (.tup cs))=s.set t d:=rfl
theorem yRd {f a b}:zVn s t d (some (.fn f a b))=s.set t d:=rfl
end
/-! the operations -/
def mvF (t:Nat)(s:List D)(K:D→List D→Prop):Option D→Prop
  | some (.tup vs)=>K (.tup vs) (if zDf vs then s.set t .undef else s)
  | o=>K (lkF t o) s
theorem yRp {t vs}:mvF t s K (some (.tup vs))=K (.tup vs) (if zDf vs then s.set t .undef else s):=rfl
theorem yRt {t sz rows}:mvF t s K (some (.sl true sz rows))=K (.ref t []) s:=rfl
theorem yRv {t sz rows}:mvF t s K (some (.sl false sz rows))=K (.sl false sz rows) s:=rfl
theorem yRw {t g cs}:mvF t s K (some (.box g cs))=K (.ptr t [] 0 0) s:=rfl
theorem yXl {t k e}:mvF t s K (some (.mp k e))=K (.ref t []) s:=rfl
theorem yRu {t k e}:mvF t s K (some (.imp k e))=K (.imp k e) s:=rfl
theorem xBe {t v}:mvF t s K (some (.v v))=K (.v v) s:=rfl
theorem yLq {t}:mvF t s K (some .nils)=K .nils s:=rfl
theorem yFv {t}:mvF t s K (some .undef)=K .undef s:=rfl
theorem yRr {t r q}:mvF t s K (some (.ref r q))=K (.ref r q) s:=rfl
theorem yRq {t r q i j}:mvF t s K (some (.sub r q i j))=K (.sub r q i j) s:=rfl
theorem yRs {t r q i j}:mvF t s K (some (.ptr r q i j))=K (.ptr r q i j) s:=rfl
theorem yLr {t cs j}:mvF t s K (some (.iptr cs j))=K (.iptr cs j) s:=rfl
theorem yRx {t cs}:mvF t s K (some (.agg cs))=K (if zDf cs then .undef else .agg cs) s:=rfl
theorem yXm {t f a b}:mvF t s K (some (.fn f a b))=K (if zDf a||zDf b then yVz f a b else .fn f a b) s:=rfl
theorem yYr {t}:zAn Ctr s (.mv (.tmp t)) K=mvF t s K s[t]?:=by
  show (match s[t]? with
    | some (.tup vs)=>K (.tup vs) (if zDf vs then s.set t .undef else s)
    | _=>K (lk s (.tmp t)) s)=_
  rw [yOp];cases h:s[t]? with
  | none=>rfl
  | some d=>cases d<;>rfl
theorem yYt {v}:zAn Ctr s (.mv (.const v)) K=K (ofV v) s:=rfl
theorem yYs {f}:zAn Ctr s (.mv (.func f)) K=K (.fn f [] []) s:=rfl
def yXh (p:D×List D)(K:D→List D→Prop):Prop:=K p.1 p.2
theorem yK9 {d:D}:yXh (d,s) K=K d s:=rfl
theorem yY9 {x}:zAn Ctr s (.asg x) K=yXh (tk s x) K:=rfl
def yLn (d:D)(s:List D)(K:D→List D→Prop):Prop:=match d with
  | .ptr r q i j=>K (.ptr r q i j) s
  | .iptr c j=>K (.iptr c j) s
  | .fn f a b=>K (.fn f a b) s
  | _=>False
theorem yTs {x}:zAn Ctr s (.nilc x) K=yLn (lk s x) s K:=rfl
theorem yLm {r q i j}:yLn (.ptr r q i j) s K=K (.ptr r q i j) s:=rfl
theorem yFs {c j}:yLn (.iptr c j) s K=K (.iptr c j) s:=rfl
theorem yRn {f a b}:yLn (.fn f a b) s K=K (.fn f a b) s:=rfl
theorem yTr {c a b}:zAn Ctr s (.pick c a b) K=zQ1 (lk s c) (lk s a) (lk s b) s K:=rfl
theorem yXd {t x y}:zQ1 (.v (.bool t)) (.v (.bool x)) (.v (.bool y)) s K=K (.v (.bool (if t then x else y))) s:=rfl
theorem yXb {a b}:zQ1 (.v (.bool true)) a b s K=K a s:=by simp only [zQ1];split<;>simp
theorem yXc {a b}:zQ1 (.v (.bool false)) a b s K=K b s:=by simp only [zQ1];split<;>simp
def zJg (op:BinOp)(x y:D)(s:List D)(K:D→List D→Prop):Prop:=match x,y with
  | .v (.int k a),.v (.int k' b)=>zR1 op k a k' b (fun v=>K (.v v) s)
  | .v (.string a),.v (.string b)=>yPy op a b (fun v=>K (.v v) s)
  | _,_=>False
theorem yY7 {op x y}:zAn Ctr s (.bin op x y) K=zJg op (lk s x) (lk s y) s K:=rfl
section
variable {k:IntKind} {a b:Int} {x y:ByteArray}
theorem yVg:zJg .add (.v (.int k a)) (.v (.int k b)) s K=K (.v (.int k (k.wrap (a+b)))) s:=by simp [zJg,zR1]
theorem yU3:zJg .sub (.v (.int k a)) (.v (.int k b)) s K=K (.v (.int k (k.wrap (a-b)))) s:=by simp [zJg,zR1]
theorem yU9:zJg .mul (.v (.int k a)) (.v (.int k b)) s K=K (.v (.int k (k.wrap (a*b)))) s:=by simp [zJg,zR1]
theorem yU7:zJg .quo (.v (.int k a)) (.v (.int k b)) s K=(b≠0∧K (.v (.int k (k.wrap (a.tdiv b)))) s):=by simp [zJg,zR1]
theorem yU6:zJg .rem (.v (.int k a)) (.v (.int k b)) s K=(b≠0∧K (.v (.int k (a.tmod b))) s):=by simp [zJg,zR1]
theorem yVe:zJg .eql (.v (.int k a)) (.v (.int k b)) s K=K (.v (.bool (decide (a=b)))) s:=by simp [zJg,zR1]
theorem yU8:zJg .neq (.v (.int k a)) (.v (.int k b)) s K=K (.v (.bool (!decide (a=b)))) s:=by simp [zJg,zR1]
theorem yVa:zJg .lss (.v (.int k a)) (.v (.int k b)) s K=K (.v (.bool (decide (a<b)))) s:=by simp [zJg,zR1]
theorem yVb:zJg .leq (.v (.int k a)) (.v (.int k b)) s K=K (.v (.bool (decide (a≤b)))) s:=by simp [zJg,zR1]
theorem yVc:zJg .gtr (.v (.int k a)) (.v (.int k b)) s K=K (.v (.bool (decide (b<a)))) s:=by simp [zJg,zR1]
theorem yVd:zJg .geq (.v (.int k a)) (.v (.int k b)) s K=K (.v (.bool (decide (b≤a)))) s:=by simp [zJg,zR1]
theorem yU5 {k':IntKind}:zJg .shl (.v (.int k a)) (.v (.int k' b)) s K=(0≤b∧K (.v (.int k (k.wrap (a*2 ^ (min b.toNat k.bits))))) s):=by simp [zJg,zR1]
theorem yU4 {k':IntKind}:zJg .shr (.v (.int k a)) (.v (.int k' b)) s K=(0≤b∧K (.v (.int k (a.fdiv (2 ^ (min b.toNat k.bits))))) s):=by simp [zJg,zR1]
theorem yVf:zJg .and (.v (.int k a)) (.v (.int k b)) s K=K (.v (.int k (k.wrap ((BitVec.ofInt k.bits a &&& BitVec.ofInt k.bits b).toNat)))) s:=by simp [zJg,zR1]
theorem yZ1:zJg .or (.v (.int k a)) (.v (.int k b)) s K=K (.v (.int k (k.wrap ((BitVec.ofInt k.bits a ||| BitVec.ofInt k.bits b).toNat)))) s:=by simp [zJg,zR1]
theorem yNu:zJg .add (.v (.string x)) (.v (.string y)) s K=(x.size+y.size≤maxLen∧K (.v (.string (x++y))) s):=rfl
theorem yNt:zJg .eql (.v (.string x)) (.v (.string y)) s K=K (.v (.bool (decide (x=y)))) s:=rfl
theorem yNr:zJg .neq (.v (.string x)) (.v (.string y)) s K=K (.v (.bool (!decide (x=y)))) s:=rfl
theorem yNs:zJg .lss (.v (.string x)) (.v (.string y)) s K=K (.v (.bool (Op.bytesLess x.toList y.toList))) s:=rfl
end
def yVj (neg:Bool)(x y:D)(s:List D)(K:D→List D→Prop):Prop:=match x,y with
  | .v (.bool a),.v (.bool b)=>K (.v (.bool (if neg then !(a==b) else a==b))) s
  | _,_=>False
theorem yT2 {neg x y}:zAn Ctr s (.binB neg x y) K=yVj neg (lk s x) (lk s y) s K:=rfl
theorem yVi {a b}:yVj false (.v (.bool a)) (.v (.bool b)) s K=K (.v (.bool (a==b))) s:=rfl
theorem yVh {a b}:yVj true (.v (.bool a)) (.v (.bool b)) s K=K (.v (.bool (!(a==b)))) s:=rfl
def unK (op:UnOp)(x:D)(s:List D)(K:D→List D→Prop):Prop:=match op,x with
  | .not,.v (.bool b)=>K (.v (.bool (!b))) s
  | .neg,.v (.int k n)=>K (.v (.int k (k.wrap (0-n)))) s
  | _,_=>False
theorem xB5 {op x}:zAn Ctr s (.un op x) K=unK op (lk s x) s K:=rfl
theorem yV9 {b}:unK .not (.v (.bool b)) s K=K (.v (.bool (!b))) s:=rfl
theorem yWa {k n}:unK .neg (.v (.int k n)) s K=K (.v (.int k (k.wrap (0-n)))) s:=rfl
def yZm (k:IntKind)(x:D)(s:List D)(K:D→List D→Prop):Prop:=match x with
  | .v (.int _ n)=>K (.v (.int k (k.wrap n))) s
  | _=>False
theorem yT0 {k x}:zAn Ctr s (.conv k x) K=yZm k (lk s x) s K:=rfl
theorem yNd {k k' n}:yZm k (.v (.int k' n)) s K=K (.v (.int k (k.wrap n))) s:=rfl
theorem yM3 {z}:zAn Ctr s (.alloc z) K=K (.box none (z.map ofC)) s:=rfl
def xC8 (p:D×List D)(K:D→List D→Prop):Prop:=p.1.okCells=true∧K (.box none p.1.cells) p.2
theorem yY6 {x}:zAn Ctr s (.box x) K=xC8 (tk s x) K:=rfl
theorem yZy {d:D}:xC8 (d,s) K=(d.okCells=true∧K (.box none d.cells) s):=rfl
def yO4 (zero:List Value) (parts:List (Nat×Nat×Operand)) (p:List D×List D) (K:D→List D→Prop):Prop :=
  p.1.all D.okCells=true∧match zSb (parts.map fun p=>(p.1,p.2.1)) p.1 (zero.map ofC) with
    | some cells=>K (.agg cells) p.2
    | none=>False
theorem yM2 {zero parts}:zAn Ctr s (.build zero parts) K=yO4 zero parts (tkL s (parts.map (·.2.2))) K:=rfl
def yH1 (o:Option (List D))(s:List D)(K:D→List D→Prop):Prop:=match o with
  | some cells=>K (.agg cells) s
  | none=>False
theorem yNp {zero parts}{ds:List D}:yO4 zero parts (ds,s) K=(ds.all D.okCells=true∧yH1 (zSb (parts.map fun p=>(p.1,p.2.1)) ds (zero.map ofC)) s K):=rfl
theorem zX4 {cells}:yH1 (some cells) s K=K (.agg cells) s:=rfl
def xC7 (sz n:Nat)(p:List D×List D)(K:D→List D→Prop):Prop :=
  p.1.all (fun d=>d.okCells&&d.cells.length==sz)=true∧zCp (p.1.flatMap D.cells)=true∧zD0 p.2 (p.1.flatMap D.cells) (fun cs s'=>K (.sl true sz (zIv sz n cs)) s')
theorem yY5 {sz parts}:zAn Ctr s (.bsl sz parts) K=xC7 sz parts.length (tkL s parts) K:=rfl
def yOy (sz n:Nat)(K:D→List D→Prop):List D→List D→Prop:=fun cs s'=>K (.sl true sz (zIv sz n cs)) s'
theorem yHq {sz n cs}:yOy sz n K cs s=K (.sl true sz (zIv sz n cs)) s:=rfl
theorem yZw {sz n}{ds:List D}:xC7 sz n (ds,s) K=(ds.all (fun d=>d.okCells&&d.cells.length==sz)=true∧zCp (ds.flatMap D.cells)=true∧zD0 s (ds.flatMap D.cells) (yOy sz n K)):=rfl
variable {KL:List D→List D→Prop}
def zPs (d:D)(KL:List D→List D→Prop):List D→List D→Prop:=fun ds s=>KL (d::ds) s
theorem yNf {d:D}{ds:List D}:zPs d KL ds s=KL (d::ds) s:=rfl
def xCn (ds:List D)(KL:List D→List D→Prop):D→List D→Prop:=fun d s=>zD0 s ds (zPs d KL)
theorem yKc {ds:List D}{d:D}:xCn ds KL d s=zD0 s ds (zPs d KL):=rfl
theorem yQ2:zD0 s [] KL=KL [] s:=rfl
theorem yQ1 {r q}{ds:List D}:zD0 s (.ref r q::ds) KL=zDz s r q (xCn ds KL):=by simp only [zD0];rfl
def xAz (i n:Nat)(ds:List D)(KL:List D→List D→Prop):D→List D→Prop:=fun d s=>match d with
  | .sl true sz rows=>i+n≤rows.length∧zD0 s ds (zPs (.sl true sz ((rows.drop i).take n)) KL)
  | _=>False
theorem yPx {i n}{ds:List D}{sz rows}:xAz i n ds KL (.sl true sz rows) s=(i+n≤rows.length∧zD0 s ds (zPs (.sl true sz ((rows.drop i).take n)) KL)):=rfl
theorem yQ0 {r q i n}{ds:List D}(h:0<n):zD0 s (.sub r q i n::ds) KL=zDz s r q (xAz i n ds KL):=by simp only [zD0];exact propext ⟨fun h1=>h1.elim (fun h2=>h2.2) (fun h2=>absurd h2.1 (by omega)),fun h1=>.inl ⟨.inl h,h1⟩⟩
theorem yJ8 {r q n}{ds:List D}:zD0 s (.sub r q 0 n::ds) KL=zDz s r q (xAz 0 n ds KL):=by simp only [zD0];exact propext ⟨fun h1=>h1.elim (fun h2=>h2.2) (fun h2=>absurd rfl h2.2.1),fun h1=>.inl ⟨.inr trivial,h1⟩⟩
theorem yJ9 {r q i}{ds:List D}(h:i≠0):zD0 s (.sub r q i 0::ds) KL=∃ sz,zD0 s ds (zPs (.sl false sz []) KL):=by simp only [zD0];exact propext ⟨fun h1=>h1.elim (fun h2=>absurd h2.1 (by omega)) (fun h2=>h2.2.2),fun h1=>.inr ⟨trivial,h,h1⟩⟩
theorem yEu {ds:List D}:zD0 s (.undef::ds) KL=zD0 s ds (zPs .undef KL):=by simp only [zD0,D.leaf,true_and];rfl
theorem yKa {ds:List D}:zD0 s (.nils::ds) KL=zD0 s ds (zPs .nils KL):=by simp only [zD0,D.leaf,true_and];rfl
theorem xA3 {v}{ds:List D}:zD0 s (.v v::ds) KL=zD0 s ds (zPs (.v v) KL):=by simp only [zD0,D.leaf,true_and];rfl
theorem yWy {o sz rows}{ds:List D}:zD0 s (.sl o sz rows::ds) KL=zD0 s ds (zPs (.sl o sz rows) KL):=by simp only [zD0,D.leaf,true_and];rfl
def zYc (r:Nat)(q:zBz)(s:List D)(d:D)(o:Option D)(K:D→List D→Prop):Prop:=match o with
  | some (.sl true sz rows)=>K (.sl true sz rows) ((zAh (zAl r q) s).set r (setAt (d.prune (zAl r q)) q .undef))
  | some (.mp k e)=>K (.mp k e) ((zAh (zAl r q) s).set r (setAt (d.prune (zAl r q)) q .undef))
  | _=>False
def yDl (r:Nat)(q:zBz)(s:List D)(o:Option D)(K:D→List D→Prop):Prop:=match o with
  | some d=>zYc r q s d (zAm d q) K
  | none=>False
theorem yI8 {r q}:zDz s r q K=yDl r q s s[r]? K:=by unfold zDz yDl;cases s[r]? <;> rfl
theorem zWv {r q d}:yDl r q s (some d) K=zYc r q s d (zAm d q) K:=rfl
theorem yDm {r q d k e}:zYc r q s d (some (.mp k e)) K=K (.mp k e) ((zAh (zAl r q) s).set r (setAt (d.prune (zAl r q)) q .undef)):=rfl
theorem yWz {k e}{ds:List D}:zD0 s (.mp k e::ds) KL=zD0 s ds (zPs (.mp k e) KL):=by simp only [zD0,D.leaf,true_and];rfl
theorem yKb {c j}{ds:List D}:zD0 s (.iptr c j::ds) KL=zD0 s ds (zPs (.iptr c j) KL):=by simp only [zD0,D.leaf,true_and];rfl
theorem zWw {r q d sz rows}:zYc r q s d (some (.sl true sz rows)) K=K (.sl true sz rows) ((zAh (zAl r q) s).set r (setAt (d.prune (zAl r q)) q .undef)):=rfl
end Go.V
namespace Go.V
open Go.RowKit
variable {Ctr:CtrT} {s:List D} {K:D→List D→Prop} {KK:List D→Prop} {os:List VO}
def yGb (n:Nat)(agg:Bool)(r:Nat)(q:zBz)(i j:Nat)(o:Option (List D))(s:List D)(K:D→List D→Prop):Prop:=match o with
  | some row=>j+n≤row.length∧K (zFs agg (zJ6 r q i j ((row.drop j).take n))) s
  | none=>False
def ySj (n:Nat)(agg:Bool)(a:D)(s:List D)(K:D→List D→Prop):Prop:=match a with
  | .ptr r q i j=>yGb n agg r q i j (rowAt s r q i) s K
  | .iptr cells j=>j+n≤cells.length∧K (zFs agg ((cells.drop j).take n)) s
  | _=>False
theorem yTx {n agg a}:zAn Ctr s (.load n agg a) K=ySj n agg (lk s a) s K:=rfl
theorem yL1 {n agg r q i j}:ySj n agg (.ptr r q i j) s K=yGb n agg r q i j (rowAt s r q i) s K:=rfl
theorem yGa {n agg cells j}:ySj n agg (.iptr cells j) s K=(j+n≤cells.length∧K (zFs agg ((cells.drop j).take n)) s):=rfl
theorem yBi {n agg r q i j row}:yGb n agg r q i j (some row) s K=(j+n≤row.length∧K (zFs agg (zJ6 r q i j ((row.drop j).take n))) s):=rfl
def yM9 (K:D→List D→Prop):List D→Prop:=fun s=>K .undef s
theorem yUa:yM9 K s=K .undef s:=rfl
def xA1 (r:Nat)(q:zBz)(i j:Nat)(K:D→List D→Prop):List D→List D→Prop:=fun cs s'=>zM8 s' r q=false∧yAk r q i s' j cs (yM9 K)
theorem yQu {r q i j cs}:xA1 r q i j K cs s=(zM8 s r q=false∧yAk r q i s j cs (yM9 K)):=rfl
def yQw (r i n j:Nat)(K:D→List D→Prop):List D→List D→Prop:=fun cs s'=>cs.length=n∧zVe r i n s' j cs (yM9 K)
theorem yEr {r i n j cs}:yQw r i n j K cs s=(cs.length=n∧zVe r i n s j cs (yM9 K)):=rfl
def zTt (r:Nat)(q:zBz)(i n j:Nat)(cs:List D)(b:Bool)(s:List D)(K:D→List D→Prop):Prop :=
  if b then q=[]∧(if yAr r cs then zCp cs=true∧cs.all (zM1 (.ptr r q i j))=true∧zD0 s cs (fun cs s'=>cs.length=n∧zVe r i n s' j cs (yM9 K)) else zVe r i n s j cs (yM9 K)) else zCp cs=true∧cs.all (zM1 (.ptr r q i j))=true∧zD0 s cs (xA1 r q i j K)
def zWu (n:Nat)(d:D)(a:D)(s:List D)(K:D→List D→Prop):Prop:=match a with
  | .ptr r q i j=>d.okCells=true∧d.cells.length=n∧zTt r q i n j d.cells (zM8 s r q) s K
  | _=>False
def yN5 (n:Nat)(a:Operand)(p:D×List D)(K:D→List D→Prop):Prop:=zWu n p.1 (lk p.2 a) p.2 K
theorem yM0 {n a x}:zAn Ctr s (.store n a x) K=yN5 n a (tk s x) K:=rfl
theorem yI2 {n a}{d:D}:yN5 n a (d,s) K=zWu n d (lk s a) s K:=rfl
theorem yAa {n r q i j}{d:D}:zWu n d (.ptr r q i j) s K=(d.okCells=true∧d.cells.length=n∧zTt r q i n j d.cells (zM8 s r q) s K):=rfl
def yQn (r i n j:Nat)(q:zBz)(cs:List D)(b:Bool)(s:List D)(K:D→List D→Prop):Prop:=if b then zCp cs=true∧cs.all (zM1 (.ptr r q i j))=true∧zD0 s cs (yQw r i n j K) else zVe r i n s j cs (yM9 K)
theorem yI3 {r q i n j cs}:zTt r q i n j cs true s K=(q=[]∧yQn r i n j q cs (yAr r cs) s K):=rfl
theorem yQm {r i n j q cs}:yQn r i n j q cs false s K=zVe r i n s j cs (yM9 K):=rfl
theorem yQl {r i n j q cs}:yQn r i n j q cs true s K=(zCp cs=true∧cs.all (zM1 (.ptr r q i j))=true∧zD0 s cs (yQw r i n j K)):=rfl
theorem yI4 {r q i n j cs}:zTt r q i n j cs false s K=(zCp cs=true∧cs.all (zM1 (.ptr r q i j))=true∧zD0 s cs (xA1 r q i j K)):=rfl
variable {KQ:List D→(D→Bool)→Prop}
def yJx (r:Nat) (p:zBz) (c:D) (s:List D) (d:D) (o:Option D) (KQ:List D→(D→Bool)→Prop):Prop:=match o with
  | some old=>match old.cont with
    | some _=>KQ ((zAh (zAl r p) s).set r (setAt (d.prune (zAl r p)) p (c.prune (zAl r p)))) (zAl r p)
    | none=>KQ (s.set r (setAt d p c)) (fun _=>true)
  | none=>False
def yQk (r:Nat)(p:zBz)(c:D)(s:List D)(o:Option D)(KQ:List D→(D→Bool)→Prop):Prop:=match o with
  | some d=>yJx r p c s d (zAm d p) KQ
  | none=>False
theorem yQh {r p c}:yAp s r p c KQ=yQk r p c s s[r]? KQ:=by unfold yAp yQk;cases s[r]? <;> rfl
theorem yAo {r p c d}:yQk r p c s (some d) KQ=yJx r p c s d (zAm d p) KQ:=rfl
def xCh:D→Bool:=fun _=>true
def yJw (r:Nat)(p:zBz)(c:D)(s:List D)(d:D)(own:Bool)(KQ:List D→(D→Bool)→Prop):Prop :=
  if own then KQ ((zAh (zAl r p) s).set r (setAt (d.prune (zAl r p)) p (c.prune (zAl r p)))) (zAl r p) else KQ (s.set r (setAt d p c)) xCh
theorem yAn {r p c d old}:yJx r p c s d (some old) KQ=yJw r p c s d old.cont.isSome KQ:=by unfold yJx yJw;cases h:old.cont<;>simp [h]<;>rfl
theorem yQj {r p c d}:yJw r p c s d false KQ=KQ (s.set r (setAt d p c)) xCh:=rfl
theorem yQi {r p c d}:yJw r p c s d true KQ=KQ ((zAh (zAl r p) s).set r (setAt (d.prune (zAl r p)) p (c.prune (zAl r p)))) (zAl r p):=rfl
def bK (r i n j:Nat)(cs:List D)(KK:List D→Prop):List D→(D→Bool)→Prop:=fun s' q=>zVe r i n s' j (zAh q cs) KK
theorem yZ3 {r i n j cs}:bK r i n j cs KK s xCh=zVe r i n s j cs KK:=by show zVe r i n s j (zAh (fun _=>true) cs) KK=_;rw [zCd]
theorem yZ2 {r i n j cs r' p'}:bK r i n j cs KK s (zAl r' p')=zVe r i n s j (zAh (zAl r' p') cs) KK:=rfl
theorem yJy {r i n j}:zVe r i n s j [] KK=KK s:=by cases n<;>rfl
theorem yEa {r i n j c cs}:zVe r i (n+1) s j (c::cs) KK=(zM8 s r []=true∧yAp s r [(i,j)] c (bK r i n (j+1) cs KK)):=rfl
def rK (r:Nat)(q:zBz)(i j:Nat)(cs:List D)(KK:List D→Prop):List D→(D→Bool)→Prop:=fun s' _=>yAk r q i s' j cs KK
theorem yW5 {r q i j cs f}:rK r q i j cs KK s f=yAk r q i s j cs KK:=rfl
theorem yJu {r q i j}:yAk r q i s j [] KK=KK s:=rfl
theorem yD9 {r q i j c cs}:yAk r q i s j (c::cs) KK=(c.leaf=true∧yAp s r (q++[(i,j)]) c (rK r q i (j+1) cs KK)):=rfl
def zSw (q:zBz):Option D→Bool
  | some d=>match zAm d q with
    | some (.box _ _)=>true
    | _=>false
  | none=>false
theorem yMf {r q}:zM8 s r q=zSw q s[r]?:=by unfold zM8 zSw;rfl
theorem yBp {g cs}:zSw [] (some (.box g cs))=true:=rfl
theorem yGw {sz rows}:zSw [] (some (.sl true sz rows))=false:=rfl
def yVv (q:zBz) (i:Nat):Option D→Option (List D)
  | some d=>match zAm d q with
    | some t=>match t.cont with
      | some (_,rows)=>rows[i]?
      | none=>none
    | none=>none
  | none=>none
theorem yJ6 {r q i}:rowAt s r q i=yVv q i s[r]?:=by unfold rowAt yVv;rfl
theorem yJ5 {g cs}:yVv [] 0 (some (.box g cs))=some cs:=rfl
theorem yQv {i sz rows}:yVv [] i (some (.sl true sz rows))=rows[i]?:=rfl
def faK (off:Nat)(x:D)(s:List D)(K:D→List D→Prop):Prop:=match x with
  | .ptr r q i j=>K (.ptr r q i (j+off)) s
  | .iptr c j=>K (.iptr c (j+off)) s
  | _=>False
theorem xB8 {off x}:zAn Ctr s (.fa off x) K=faK off (lk s x) s K:=rfl
theorem yYn {off r q i j}:faK off (.ptr r q i j) s K=K (.ptr r q i (j+off)) s:=rfl
theorem yTn {off c j}:faK off (.iptr c j) s K=K (.iptr c (j+off)) s:=rfl
def xC1 (off n:Nat)(agg:Bool)(x:D)(s:List D)(K:D→List D→Prop):Prop:=match x with
  | .agg cs=>off+n≤cs.length∧K (zFs agg ((cs.drop off).take n)) s
  | _=>False
theorem yY2 {off n agg x}:zAn Ctr s (.fld off n agg x) K=xC1 off n agg (lk s x) s K:=rfl
theorem yTi {off n agg cs}:xC1 off n agg (.agg cs) s K=(off+n≤cs.length∧K (zFs agg ((cs.drop off).take n)) s):=rfl
def xBu (sz:Nat)(n:Int)(r:Nat)(q:zBz)(o:Option (Nat×List (List D)))(s:List D)(K:D→List D→Prop):Prop:=match o with
  | some (sz',rows)=>0≤n∧n<rows.length∧sz'=sz∧K (.ptr r q n.toNat 0) s
  | none=>False
def iaK (sz:Nat)(i x:D)(s:List D)(K:D→List D→Prop):Prop:=match i,x with
  | .v (.int _ n),.ref r q=>xBu sz n r q (zFq s (.ref r q)) s K
  | .v (.int _ n),.sl false sz' rows=>0≤n∧n<rows.length∧sz'=sz∧∃ row,rows[n.toNat]?=some row∧K (.iptr row 0) s
  | _,_=>False
theorem xB7 {sz x i}:zAn Ctr s (.ia sz x i) K=iaK sz (lk s i) (lk s x) s K:=rfl
theorem yYe {sz k n r q}:iaK sz (.v (.int k n)) (.ref r q) s K=xBu sz n r q (zFq s (.ref r q)) s K:=rfl
theorem xBt {sz k n sz' rows}:iaK sz (.v (.int k n)) (.sl false sz' rows) s K=(0≤n∧n<rows.length∧sz'=sz∧∃ row,rows[n.toNat]?=some row∧K (.iptr row 0) s):=rfl
theorem yMj {sz n r q sz' rows}:xBu sz n r q (some (sz',rows)) s K=(0≤n∧n<rows.length∧sz'=sz∧K (.ptr r q n.toNat 0) s):=rfl
def slF (q:zBz):Option D→Option (Nat×List (List D))
  | some d=>match zAm d q with
    | some (.sl true sz rows)=>some (sz,rows)
    | _=>none
  | none=>none
theorem yJe {r q}:zFq s (.ref r q)=slF q s[r]?:=by unfold zFq slF;rfl
theorem yP2 {o sz rows}:zFq s (.sl o sz rows)=some (sz,rows):=rfl
theorem yDt:zFq s .nils=some (0,[]):=rfl
theorem yWr {sz rows}:slF [] (some (.sl true sz rows))=some (sz,rows):=rfl
def xBs (len sz:Nat)(i x:D)(s:List D)(K:D→List D→Prop):Prop:=match i,x with
  | .v (.int _ n),.ptr r q i j=>0≤n∧n<len∧K (.ptr r q i (j+n.toNat*sz)) s
  | .v (.int _ n),.iptr c j=>0≤n∧n<len∧K (.iptr c (j+n.toNat*sz)) s
  | _,_=>False
theorem yY1 {len sz x i}:zAn Ctr s (.iaa len sz x i) K=xBs len sz (lk s i) (lk s x) s K:=rfl
theorem yS8 {len sz k n r q i j}:xBs len sz (.v (.int k n)) (.ptr r q i j) s K=(0≤n∧n<len∧K (.ptr r q i (j+n.toNat*sz)) s):=rfl
theorem yMi {len sz k n c j}:xBs len sz (.v (.int k n)) (.iptr c j) s K=(0≤n∧n<len∧K (.iptr c (j+n.toNat*sz)) s):=rfl
def xCw (i x:D)(s:List D)(K:D→List D→Prop):Prop:=match i,x with
  | .v (.int _ n),.v (.string b)=>0≤n∧∃ c,b[n.toNat]?=some c∧K (.v (.int .u8 (c.toNat:Int))) s
  | _,_=>False
theorem yYz {x i}:zAn Ctr s (.ixs x i) K=xCw (lk s i) (lk s x) s K:=rfl
theorem xBr {k n b}:xCw (.v (.int k n)) (.v (.string b)) s K=(0≤n∧∃ c,b[n.toNat]?=some c∧K (.v (.int .u8 (c.toNat:Int))) s):=rfl
def xCx (len sz:Nat)(agg:Bool)(i x:D)(s:List D)(K:D→List D→Prop):Prop:=match i,x with
  | .v (.int _ n),.agg cs=>0≤n∧n<len∧len*sz≤cs.length∧K (zFs agg ((cs.drop (n.toNat*sz)).take sz)) s
  | _,_=>False
theorem yY0 {len sz agg x i}:zAn Ctr s (.ixa len sz agg x i) K=xCx len sz agg (lk s i) (lk s x) s K:=rfl
theorem yS4 {len sz agg k n cs}:xCx len sz agg (.v (.int k n)) (.agg cs) s K=(0≤n∧n<len∧len*sz≤cs.length∧K (zFs agg ((cs.drop (n.toNat*sz)).take sz)) s):=rfl
theorem yTq {x lo hi}:zAn Ctr s (.slcS x lo hi) K=zWx (lk s x) (zUw s lo 0) (zUw s hi (yAe (lk s x))) s K:=rfl
theorem yWp {b k l k' h}:zWx (.v (.string b)) (.v (.int k l)) (.v (.int k' h)) s K=(0≤l∧l≤h∧h≤b.size∧K (.v (.string (b.extract l.toNat h.toNat))) s):=rfl
theorem yYq {sz x lo hi mx}:zAn Ctr s (.slc sz x lo hi mx) K=yJb sz (lk s x) (zUw s lo 0) (zUw s hi (zQp s (lk s x))) (zUw s mx (zQp s (lk s x))) s K:=rfl
theorem yJf {o sz rows}:zQp s (.sl o sz rows)=rows.length:=rfl
theorem yDu {r q i n}:zQp s (.sub r q i n)=n:=rfl
def yWs:Option (Nat×List (List D))→Nat
  | some (_,rows)=>rows.length
  | none=>0
theorem yDv {r q}:zQp s (.ref r q)=yWs (zFq s (.ref r q)):=rfl
theorem yAd {sz rows}:yWs (some (sz,rows))=rows.length:=rfl
def xCl (sz:Nat)(r:Nat)(q:zBz)(l h m:Int)(o:Option (Nat×List (List D)))(s:List D)(K:D→List D→Prop):Prop:=match o with
  | some (sz',rows)=>0≤l∧l≤h∧h≤rows.length∧sz'=sz∧h≤m∧m≤rows.length∧K (.sub r q l.toNat (h.toNat-l.toNat)) s
  | none=>False
def xCm (sz:Nat)(r:Nat)(q:zBz)(i n:Nat)(l h m:Int)(o:Option (Nat×List (List D)))(s:List D)(K:D→List D→Prop):Prop:=match o with
  | some (sz',rows)=>0≤l∧l≤h∧h≤n∧sz'=sz∧h≤m∧m≤n∧K (.sub r q (i+l.toNat) (h.toNat-l.toNat)) s
  | none=>False
theorem yP1 {sz r q k l k' h k'' m}:yJb sz (.ref r q) (.v (.int k l)) (.v (.int k' h)) (.v (.int k'' m)) s K=xCl sz r q l h m (zFq s (.ref r q)) s K:=rfl
theorem yJa {sz r q i n k l k' h k'' m}:yJb sz (.sub r q i n) (.v (.int k l)) (.v (.int k' h)) (.v (.int k'' m)) s K=xCm sz r q i n l h m (zFq s (.sub r q i n)) s K:=rfl
theorem yDp {sz r q l h m sz' rows}:xCl sz r q l h m (some (sz',rows)) s K=(0≤l∧l≤h∧h≤rows.length∧sz'=sz∧h≤m∧m≤rows.length∧K (.sub r q l.toNat (h.toNat-l.toNat)) s):=rfl
theorem yDr {sz r q i n l h m sz' rows}:xCm sz r q i n l h m (some (sz',rows)) s K=(0≤l∧l≤h∧h≤n∧sz'=sz∧h≤m∧m≤n∧K (.sub r q (i+l.toNat) (h.toNat-l.toNat)) s):=rfl
def xCk (i n:Nat):Option (Nat×List (List D))→Option (Nat×List (List D))
  | some (sz,rows)=>if i+n≤rows.length then some (sz,(rows.drop i).take n) else none
  | none=>none
theorem yJd {r q i n}:zFq s (.sub r q i n)=xCk i n (zFq s (.ref r q)):=by
  simp only [zFq];cases s[r]? with
  | none=>rfl
  | some d =>
    simp only;cases zAm d q with
    | none=>rfl
    | some t=>cases t<;>first | rfl | (rename_i o _ _;cases o<;>rfl)
theorem yDc {i n sz rows}:xCk i n (some (sz,rows))=if i+n≤rows.length then some (sz,(rows.drop i).take n) else none:=rfl
theorem yWo {sz sz' rows k l k' h k'' m}:yJb sz (.sl false sz' rows) (.v (.int k l)) (.v (.int k' h)) (.v (.int k'' m)) s K=(0≤l∧l≤h∧h≤rows.length∧sz'=sz∧h≤m∧m≤rows.length∧K (.sl false sz ((rows.drop l.toNat).take (h.toNat-l.toNat))) s):=rfl
theorem yLh {n}:zUw s none n=.v (.int .i64 n):=rfl
theorem yLg {x n}:zUw s (some x) n=lk s x:=rfl
def yTp (t i:Nat)(vs:List D)(o:Option D)(s:List D)(K:D→List D→Prop):Prop:=match o with
  | some d=>K d (if d.owny then s.set t (.tup (vs.set i .undef)) else s)
  | none=>False
def xC2 (t i:Nat)(o:Option D)(s:List D)(K:D→List D→Prop):Prop:=match o with
  | some (.tup vs)=>yTp t i vs vs[i]? s K
  | _=>False
theorem yY3 {t i}:zAn Ctr s (.ext (.tmp t) i) K=xC2 t i s[t]? s K:=rfl
theorem yTo {t i vs}:xC2 t i (some (.tup vs)) s K=yTp t i vs vs[i]? s K:=rfl
theorem yHg {t i vs d}:yTp t i vs (some d) s K=K d (if d.owny then s.set t (.tup (vs.set i .undef)) else s):=rfl
def xCv (o:Option (Nat×List (List D)))(s:List D)(K:D→List D→Prop):Prop:=match o with
  | some (_,rows)=>K (.v (.int .i64 (rows.length:Int))) s
  | none=>False
theorem yYy {x}:zAn Ctr s (.len x) K=xCv (zFq s (lk s x)) s K:=rfl
theorem yL7 {sz rows}:xCv (some (sz,rows)) s K=K (.v (.int .i64 (rows.length:Int))) s:=rfl
def yX3 (x:D)(s:List D)(K:D→List D→Prop):Prop:=match x with
  | .v (.string b)=>K (.v (.int .i64 (b.size:Int))) s
  | _=>False
theorem yTy {x}:zAn Ctr s (.lenS x) K=yX3 (lk s x) s K:=rfl
theorem yX2 {b}:yX3 (.v (.string b)) s K=K (.v (.int .i64 (b.size:Int))) s:=rfl
def mmK (mx:Bool)(x y:D)(s:List D)(K:D→List D→Prop):Prop:=match x,y with
  | .v (.int k a),.v (.int k' b)=>k=k'∧K (.v (.int k (if mx then (if b>a then b else a) else (if b<a then b else a)))) s
  | _,_=>False
theorem xB6 {mx x y}:zAn Ctr s (.mm mx [x,y]) K=mmK mx (lk s x) (lk s y) s K:=by
  simp only [zAn,xDu,xEb,mmK];split
  · rename_i h;simp only [xE6,and_true] at h;rw [h.1,h.2]
  · rename_i h;split
    · rename_i e1 e2;exact absurd (by rw [e1,e2]) (h _ _ _ _)
    · rfl
theorem yXs {k a b}:mmK true (.v (.int k a)) (.v (.int k b)) s K=K (.v (.int k (if b>a then b else a))) s:=by simp [mmK]
theorem yXr {k a b}:mmK false (.v (.int k a)) (.v (.int k b)) s K=K (.v (.int k (if b<a then b else a))) s:=by simp [mmK]
variable {KR:List (List D)→List D→Prop}
def yVo (sz bytes:Nat)(rows:List (List D))(K:D→List D→Prop):List (List D)→List D→Prop:=fun more s2=>(rows.length+more.length)*(bytes+1)≤2 ^ 40∧K (.sl true sz (rows++more)) s2
theorem yNw {sz bytes rows more}:yVo sz bytes rows K more s=((rows.length+more.length)*(bytes+1)≤2 ^ 40∧K (.sl true sz (rows++more)) s):=rfl
def yVp (sz bytes:Nat)(y:Operand)(K:D→List D→Prop):List (List D)→List D→Prop:=fun rows s1=>zR0 s1 sz y (yVo sz bytes rows K)
theorem yNx {sz bytes y rows}:yVp sz bytes y K rows s=zR0 s sz y (yVo sz bytes rows K):=rfl
theorem yZa {sz bytes x y}:zAn Ctr s (.app sz bytes x y) K=zV5 s sz x (yVp sz bytes y K):=rfl
def yVn (bytes:Nat)(d:D)(rows:List (List D))(s1:List D)(K:D→List D→Prop):Prop:=match d with
  | .v (.string b)=>(rows.length+b.size)*(bytes+1)≤2 ^ 40∧K (.sl true 1 (rows++(zPc b).map zYo)) s1
  | _=>False
theorem yVm {bytes b rows}:yVn bytes (.v (.string b)) rows s K=((rows.length+b.size)*(bytes+1)≤2 ^ 40∧K (.sl true 1 (rows++(zPc b).map zYo)) s):=rfl
def yZ8 (bytes:Nat)(y:Operand)(K:D→List D→Prop):List (List D)→List D→Prop:=fun rows s1=>yVn bytes (lk s1 y) rows s1 K
theorem yH6 {bytes y rows}:yZ8 bytes y K rows s=yVn bytes (lk s y) rows s K:=rfl
theorem yT3 {bytes x y}:zAn Ctr s (.appS bytes x y) K=zV5 s 1 x (yZ8 bytes y K):=rfl
def yTf (sz:Nat)(KR:List (List D)→List D→Prop):D→List D→Prop:=fun d s'=>match d with
  | .sl true sz' rows=>sz'=sz∧KR rows s'
  | _=>False
theorem yMr {sz sz' rows}:yTf sz KR (.sl true sz' rows) s=(sz'=sz∧KR rows s):=rfl
def yMt (sz:Nat)(s0:List D)(p:D×List D)(KR:List (List D)→List D→Prop):Prop:=match p.1 with
  | .sl true sz' rows=>sz'=sz∧KR rows p.2
  | .nils=>KR [] s0
  | .ref r q=>zDz s0 r q (yTf sz KR)
  | _=>False
theorem yTd {sz x}:zV5 s sz x KR=yMt sz s (tk s x) KR:=rfl
theorem yMs {sz s0 sz' rows}:yMt sz s0 (.sl true sz' rows,s) KR=(sz'=sz∧KR rows s):=rfl
theorem yBx {sz s0}:yMt sz s0 (.nils,s) KR=KR [] s0:=rfl
theorem yG8 {sz s0 r q}:yMt sz s0 (.ref r q,s) KR=zDz s0 r q (yTf sz KR):=rfl
def xAc (sz:Nat)(s0:List D)(o:Option (Nat×List (List D)))(KR:List (List D)→List D→Prop):Prop:=match o with
  | some (sz',rows)=>(sz'=sz∨rows=[])∧(∀ row,row∈rows→zDf row=false)∧KR rows s0
  | none=>False
theorem yH7 {sz s0 sz' rows}:xAc sz s0 (some (sz',rows)) KR=((sz'=sz∨rows=[])∧(∀ row,row∈rows→zDf row=false)∧KR rows s0):=rfl
def yV5 (sz:Nat)(s0:List D)(p:D×List D)(KR:List (List D)→List D→Prop):Prop:=match p.1 with
  | .sl true sz' rows=>(sz'=sz∨rows=[])∧KR rows p.2
  | .sl false sz' rows=>(sz'=sz∨rows=[])∧KR rows s0
  | .nils=>KR [] s0
  | .ref r q=>xAc sz s0 (zFq s0 (.ref r q)) KR
  | .sub r q i n=>xAc sz s0 (zFq s0 (.sub r q i n)) KR
  | _=>False
theorem xAa {sz y}:zR0 s sz y KR=yV5 sz s (tk s y) KR:=rfl
theorem yN1 {sz s0 sz' rows}:yV5 sz s0 (.sl true sz' rows,s) KR=((sz'=sz∨rows=[])∧KR rows s):=rfl
theorem yN2 {sz s0 sz' rows}:yV5 sz s0 (.sl false sz' rows,s) KR=((sz'=sz∨rows=[])∧KR rows s0):=rfl
theorem yH8 {sz s0}:yV5 sz s0 (.nils,s) KR=KR [] s0:=rfl
theorem yNz {sz s0 r q i n}:yV5 sz s0 (.sub r q i n,s) KR=xAc sz s0 (zFq s0 (.sub r q i n)) KR:=rfl
theorem yN0 {sz s0 r q}:yV5 sz s0 (.ref r q,s) KR=xAc sz s0 (zFq s0 (.ref r q)) KR:=rfl
theorem yYx {f first caps}:zAn Ctr s (.mkf f first caps) K=K (.fn f (first.map (lk s)) (caps.map (lk s))) s:=rfl
def xCt (sz bytes:Nat)(zero:List Value)(l c:D)(s:List D)(K:D→List D→Prop):Prop:=match l,c with
  | .v (.int _ n),.v (.int _ m)=>0≤n∧n≤m∧m*(bytes+1)≤2 ^ 40∧K (.sl true sz (List.replicate n.toNat (zero.map ofC))) s
  | _,_=>False
theorem yYv {sz bytes zero l c}:zAn Ctr s (.mks sz bytes zero l c) K=xCt sz bytes zero (lk s l) (lk s c) s K:=rfl
theorem yR2 {sz bytes zero k n k' m}:xCt sz bytes zero (.v (.int k n)) (.v (.int k' m)) s K=(0≤n∧n≤m∧m*(bytes+1)≤2 ^ 40∧K (.sl true sz (List.replicate n.toNat (zero.map ofC))) s):=rfl
/-! the code -/
variable {Q:VExit→List D→Prop} {next:List D→Prop}
theorem yPb {l:List VO}:(VCode.ops l).wp Ctr Q s=zMj Ctr s l (Q .normal):=rfl
theorem yO9 {x y:VCode}:(VCode.seq x y).wp Ctr Q s=x.wp Ctr (zMl (y.wp Ctr Q) Q) s:=rfl
theorem yIj:VCode.skip.wp Ctr Q s=Q .normal s:=rfl
theorem yPa:VCode.ret.wp Ctr Q s=Q .ret s:=rfl
theorem yIk {i}:(VCode.exit i).wp Ctr Q s=Q (.exit i) s:=rfl
theorem yCs {i}{c:VCode}:(VCode.block i c).wp Ctr Q s=c.wp Ctr (zQd i Q) s:=rfl
def yCb (d:D)(A B:List D→Prop)(s:List D):Prop:=match d with
  | .v (.bool t)=>(t=true→A s)∧(t=false→B s)
  | _=>False
theorem yIm {x}{a b:VCode}:(VCode.cond x a b).wp Ctr Q s=yCb (lk s x) (a.wp Ctr Q) (b.wp Ctr Q) s:=rfl
variable {A B:List D→Prop}
theorem yZn:yCb (.v (.bool true)) A B s=A s:=by simp [yCb]
theorem yZo:yCb (.v (.bool false)) A B s=B s:=by simp [yCb]
theorem zAu {t:Bool}{A B:List D→Prop}{s:List D}(h1:t=true→A s)(h2:t=false→B s):yCb (.v (.bool t)) A B s:=⟨h1,h2⟩
theorem yWk:zMl next Q .normal s=next s:=rfl
theorem yWj:zMl next Q .ret s=Q .ret s:=rfl
theorem yWl {i}:zMl next Q (.exit i) s=Q (.exit i) s:=rfl
theorem yU0 {i}:zQd i Q .normal s=Q .normal s:=rfl
theorem yUz {i}:zQd i Q .ret s=Q .ret s:=rfl
theorem yU1 {i j}:zQd i Q (.exit j) s=if j=i then Q .normal s else Q (.exit j) s:=rfl
theorem yBh {mask:List Bool}{c:VCode}{Q:VExit→List D→Prop}{s:List D}(J:Nat→List D→Prop)(n:Nat)(h0:∃ s1,zFf (clr mask s) s1∧J n s1)(h:∀ n s',J n s'→c.wp Ctr (zMl (fun s''=>∃ m,m<n∧∃ s1,zFf (clr mask s'') s1∧J m s1) Q) s'):(VCode.loop mask c).wp Ctr Q s:=⟨J,⟨n,h0⟩,h⟩
/-! the results -/
def NoG:World→(Nat→Prop)→Prop:=fun _ _=>True
theorem noG:yV6 NoG:=fun _ _ _ _ _=>trivial
theorem gI {w:World}{I:Nat→Prop}:GI NoG w I:=⟨fun _=>False,fun _ h=>h.elim,trivial⟩
end Go.V
namespace Go.V
open Go.RowKit
section
variable {Ctr:CtrT} {s s':List D} {K:D→List D→Prop} {KP:List D→Prop} {KD:D→Prop} {KL:List D→Prop} {Q:VExit→List D→Prop} {pr:Option (Nat×zBz)} {os:List DOp}
/-! ### Regions that draw -/
def zQa (Ctr:CtrT)(cls:List Bool)(tail:List VO)(Q:VExit→List D→Prop):List D→Prop:=fun s=>zMj Ctr (clr cls s) tail (Q .normal)
theorem yIl {start cls l1 tail}:(VCode.draw start cls l1 tail).wp Ctr Q s=zIu Ctr none (clr start s) l1 (zQa Ctr cls tail Q):=rfl
theorem zXx {cls tail}:zQa Ctr cls tail Q s=zMj Ctr (clr cls s) tail (Q .normal):=rfl
def yTb (Ctr:CtrT)(pr:Option (Nat×zBz))(s:List D)(dst:Option Nat)(os:List DOp)(KP:List D→Prop):D→Prop:=fun d=>zIu Ctr pr (zPg s dst (prO pr d)) os KP
def zI6 (Ctr:CtrT)(V:List D)(cl:List Bool)(want:Bool)(op:VOp)(d:D)(KD:D→Prop):Prop:=match d with
  | .v (.bool b)=>(b=want→zWd Ctr V cl op KD)∧(b≠want→KD (.v (.tuple #[])))
  | .v _=>KD (.v (.tuple #[]))
  | _=>False
theorem yMk:zIu Ctr pr s [] KP=KP s:=rfl
theorem yG3 {i hid cl dst op}:zIu Ctr pr s (⟨i,hid,cl,⟨dst,none,op⟩⟩::os) KP=zWd Ctr (clr hid s) cl op (yTb Ctr pr s dst os KP):=rfl
theorem yBv {i hid cl dst op g want}:zIu Ctr pr s (⟨i,hid,cl,⟨dst,some (g,want),op⟩⟩::os) KP=zI6 Ctr (clr hid s) cl want op (lkT (clr hid s) g) (yTb Ctr pr s dst os KP):=rfl
theorem yG5 {dst d}:yTb Ctr pr s dst os KP d=zIu Ctr pr (zPg s dst (prO pr d)) os KP:=rfl
theorem xBz {V cl op}:zI6 Ctr V cl true op (.v (.bool true)) KD=zWd Ctr V cl op KD:=by simp [zI6]
theorem xB2 {V cl op}:zI6 Ctr V cl false op (.v (.bool false)) KD=zWd Ctr V cl op KD:=by simp [zI6]
theorem xB0 {V cl op}:zI6 Ctr V cl true op (.v (.bool false)) KD=KD (.v (.tuple #[])):=by simp [zI6]
theorem xB1 {V cl op}:zI6 Ctr V cl false op (.v (.bool true)) KD=KD (.v (.tuple #[])):=by simp [zI6]
theorem yTg {V cl op want}:zI6 Ctr V cl want op (.v (.tuple #[])) KD=KD (.v (.tuple #[])):=by simp [zI6]
def yNc (V:List D)(cl:List Bool)(KD:D→Prop):D→List D→Prop:=fun d s'=>clr cl s'=clr cl V∧KD d
theorem yNb {V cl op}:zWd Ctr V cl op KD=zAn Ctr V op (yNc V cl KD):=rfl
theorem zZq:∀ (s:List D),clr [] s=s:=by
  intro s;apply xF3;intro r;rw [zBm];cases s[r]? with
  | none=>rfl
  | some d=>have:zBj []=fun _=>true:=(by funext x;cases x<;>rfl);simp [this,D.prune_yes]
theorem yHn {V d}:yNc V [] KD d s'=(s'=V∧KD d):=by unfold yNc;rw [zZq,zZq]
theorem yB8 {V d b cl}:yNc V (b::cl) KD d s'=(clr (b::cl) s'=clr (b::cl) V∧KD d):=rfl
theorem yAl {t d}:zPg s (some t) d=s.set t d:=rfl
theorem yAm {d}:zPg s none d=s:=rfl
theorem yFb {d}:prO none d=d:=rfl
theorem yFa {r q d}:prO (some (r,q)) d=d.prune (zAl r q):=rfl
theorem yZp {m}:clr m s=zNj (zBj m) m s:=rfl
theorem yNg {q m}:zNj q m []=[]:=by simp [zNj]
theorem yZr {q m d}:zNj q (true::m) (d::s)=.undef::zNj q m s:=rfl
theorem yZs {q m d}:zNj q (false::m) (d::s)=d.prune q::zNj q m s:=rfl
theorem yZt {q d}:zNj q [] (d::s)=d.prune q::zNj q [] s:=rfl
theorem yGp {m r p}:zBj m (.ref r p)=!m.getD r false:=rfl
theorem yGo {m r p i j}:zBj m (.sub r p i j)=!m.getD r false:=rfl
theorem yGq {m r p i j}:zBj m (.ptr r p i j)=!m.getD r false:=rfl
theorem yYh {b:Bool}{m:List Bool}:(b::m).getD 0 false=b:=rfl
theorem yYi {b:Bool}{m:List Bool}{n:Nat}:(b::m).getD (n+1) false=m.getD n false:=by simp
theorem yYj {n:Nat}:([]:List Bool).getD n false=false:=by simp
def xCu (Ctr:CtrT)(start cls:List Bool)(o:DOp)(l2:List DOp)(tail:List VO)(Q:VExit→List D→Prop):List D→Prop:=fun s=>xBg Ctr start cls s o l2 fun s''=>zMj Ctr s'' tail (Q .normal)
def zZk (Ctr:CtrT)(fills:List (Nat×Nat))(cls:List Bool)(tail:List VO)(Q:VExit→List D→Prop):List D→Prop:=fun s=>zN5 s fills∧zMj Ctr (clr cls s) tail (Q .normal)
/-! order by order -/
def yWm (Ctr:CtrT)(tail:List VO)(Q:VExit→List D→Prop):List D→Prop:=fun s=>zMj Ctr s tail (Q .normal)
theorem zJh {tail}:yWm Ctr tail Q s=zMj Ctr s tail (Q .normal):=rfl
def zOu (Ctr:CtrT)(dst:Option Nat)(t:VT)(KP:List D→Prop):D→List D→Prop:=fun d s'=>t.wp Ctr KP (match dst with | some t=>zMz s' t d | none=>s')
theorem yC7:VT.done.wp Ctr KP s=KP s:=rfl
theorem yIr {i dst op sub}:(VT.br i ⟨dst,none,op⟩ sub .nil).wp Ctr KP s=zAn Ctr s op (zOu Ctr dst sub KP):=by simp only [VT.wp,and_true];rfl
theorem yWc {i dst op sub}:(VT.h i ⟨dst,none,op⟩ sub).wp Ctr KP s=zAn Ctr s op (zOu Ctr dst sub KP):=rfl
theorem yPe {i dst op sub j o sub2 rest}:(VT.br i ⟨dst,none,op⟩ sub (.br j o sub2 rest)).wp Ctr KP s=(zAn Ctr s op (zOu Ctr dst sub KP)∧(VT.br j o sub2 rest).wp Ctr KP s):=rfl
def zIn (Ctr:CtrT)(s:List D)(dst:Option Nat)(want:Bool)(op:VOp)(sub:VT)(KP:List D→Prop)(d:D):Prop:=match d with
  | .v (.bool b)=>(b=want→zAn Ctr s op (zOu Ctr dst sub KP))∧(b≠want→zOu Ctr dst sub KP (.v (.tuple #[])) s)
  | .v _=>zOu Ctr dst sub KP (.v (.tuple #[])) s
  | _=>False
theorem yC6 {i dst g want op sub}:(VT.br i ⟨dst,some (g,want),op⟩ sub .nil).wp Ctr KP s=zIn Ctr s dst want op sub KP (lkT s g):=by simp only [VT.wp,and_true];rfl
theorem yIs {i dst g want op sub j o sub2 rest}:(VT.br i ⟨dst,some (g,want),op⟩ sub (.br j o sub2 rest)).wp Ctr KP s=(zIn Ctr s dst want op sub KP (lkT s g)∧(VT.br j o sub2 rest).wp Ctr KP s):=rfl
theorem xBv {dst op sub}:zIn Ctr s dst true op sub KP (.v (.bool true))=zAn Ctr s op (zOu Ctr dst sub KP):=by simp [zIn]
theorem xBy {dst op sub}:zIn Ctr s dst false op sub KP (.v (.bool false))=zAn Ctr s op (zOu Ctr dst sub KP):=by simp [zIn]
theorem xBw {dst op sub}:zIn Ctr s dst true op sub KP (.v (.bool false))=zOu Ctr dst sub KP (.v (.tuple #[])) s:=by simp [zIn]
theorem xBx {dst op sub}:zIn Ctr s dst false op sub KP (.v (.bool true))=zOu Ctr dst sub KP (.v (.tuple #[])) s:=by simp [zIn]
theorem yTc {dst op sub want}:zIn Ctr s dst want op sub KP (.v (.tuple #[]))=zOu Ctr dst sub KP (.v (.tuple #[])) s:=by simp [zIn]
theorem yB9 {t sub d}:zOu Ctr (some t) sub KP d s=sub.wp Ctr KP (zMz s t d):=rfl
theorem yCa {sub d}:zOu Ctr none sub KP d s=sub.wp Ctr KP s:=rfl
theorem yCr {pre fills start cls l1 tail}:(VCode.drawB pre fills start cls l1 tail).wp Ctr Q s=(zPd s pre∧zIu Ctr none (clr start s) l1 (zZk Ctr fills cls tail Q)):=rfl
theorem zWc {fills cls tail}:zZk Ctr fills cls tail Q s=(zN5 s fills∧zMj Ctr (clr cls s) tail (Q .normal)):=rfl
theorem yCh:zPd s []=True:=rfl
theorem zX6 {t n l}:zPd s ((t,n)::l)=(yV4 s t n∧zPd s l):=rfl
theorem yCg:zN5 s []=True:=rfl
theorem zX5 {t n l}:zN5 s ((t,n)::l)=(yNq s t n∧zN5 s l):=rfl
def yZ0 (n:Nat):Option D→Prop
  | some (.box _ cells)=>cells.length=n
  | _=>False
def yZz (n:Nat):Option D→Prop
  | some (.box none cells)=>cells.length=n
  | _=>False
theorem yUx {t n}:yV4 s t n=yZ0 n s[t]?:=rfl
theorem yUw {t n}:yNq s t n=yZz n s[t]?:=rfl
theorem yH3 {n tag cells}:yZ0 n (some (.box tag cells))=(cells.length=n):=rfl
theorem yH2 {n cells}:yZz n (some (.box none cells))=(cells.length=n):=rfl
theorem yCq {start cls l1 o l2 tail}:(VCode.drawW start cls l1 o l2 tail).wp Ctr Q s=zIu Ctr none (clr start s) l1 (xCu Ctr start cls o l2 tail Q):=rfl
def yOi (Ctr:CtrT)(s:List D)(dst:Option Nat)(l2:List DOp)(cls:List Bool)(tail:List VO)(Q:VExit→List D→Prop):Nat→zBz→D→Prop:=fun r q d=>zIu Ctr (some (r,q)) (zPg (zDl r q s) dst d) l2 (zQa Ctr cls tail Q)
theorem yR5 {start cls i hid cl dst g sz by' x y l2 tail}:xCu Ctr start cls ⟨i,hid,cl,⟨dst,g,.app sz by' x y⟩⟩ l2 tail Q s=zM0 start (clr hid s) sz by' x y (yOi Ctr s dst l2 cls tail Q):=rfl
theorem yA2 {dst l2 cls tail r q d}:yOi Ctr s dst l2 cls tail Q r q d=zIu Ctr (some (r,q)) (zPg (zDl r q s) dst d) l2 (zQa Ctr cls tail Q):=rfl
variable {KR:Nat→zBz→D→Prop}
def yFh (sz by':Nat)(rows:List (List D))(KD:D→Prop):List (List D)→List D→Prop:=fun more _=>(rows.length+more.length)*(by'+1)≤2 ^ 40∧KD (.sl true sz (rows++more))
theorem yA3 {sz by' rows more}:yFh sz by' rows KD more s=((rows.length+more.length)*(by'+1)≤2 ^ 40∧KD (.sl true sz (rows++more))):=rfl
def yFi (sz by':Nat)(y:Operand)(KD:D→Prop):D→List D→Prop:=fun d s1=>match d with
  | .sl true sz' rows=>sz'=sz∧zR0 s1 sz y (yFh sz by' rows KD)
  | _=>False
theorem yA4 {sz by' y sz' rows}:yFi sz by' y KD (.sl true sz' rows) s=(sz'=sz∧zR0 s sz y (yFh sz by' rows KD)):=rfl
def yOj (start:List Bool)(V:List D)(sz by':Nat)(y:Operand)(p:D×List D)(KR:Nat→zBz→D→Prop):Prop:=match p.1 with
  | .ref r q=>start.getD r false=false∧zDz V r q (yFi sz by' y (KR r q))
  | _=>False
theorem yK5 {start V sz by' x y}:zM0 start V sz by' x y KR=yOj start V sz by' y (tk V x) KR:=rfl
theorem yA5 {start V sz by' y r q}:yOj start V sz by' y (.ref r q,s) KR=(start.getD r false=false∧zDz V r q (yFi sz by' y (KR r q))):=rfl
def yYf (r:Nat)(q:zBz)(s:List D)(o:Option D):List D:=match o with
  | some d=>(zAh (zAl r q) s).set r (setAt (d.prune (zAl r q)) q .undef)
  | none=>s
theorem yS9 {r q}:zDl r q s=yYf r q s s[r]?:=rfl
theorem yBq {r q d}:yYf r q s (some d)=(zAh (zAl r q) s).set r (setAt (d.prune (zAl r q)) q .undef):=rfl
/-! ### Kin of append and the like -/
variable {KG:List (List D)→List D→Prop}
def yG7 (sz:Nat)(s0:List D)(p:D×List D)(KG:List (List D)→List D→Prop):Prop:=match p.1 with
  | .sl true sz' rows=>sz'=sz∧KG rows p.2
  | .nils=>KG [] s0
  | _=>False
theorem yMq {sz x}:zI7 s sz x KG=yG7 sz s (tk s x) KG:=rfl
theorem yG6 {sz s0 sz' rows}:yG7 sz s0 (.sl true sz' rows,s) KG=(sz'=sz∧KG rows s):=rfl
theorem zXs {sz s0}:yG7 sz s0 (.nils,s) KG=KG [] s0:=rfl
theorem yT4 {sz by' x y}:zAn Ctr s (.appN sz by' x y) K=zI7 s sz x (yVp sz by' y K):=rfl
def yZx (sz n:Nat)(p:List D×List D)(K:D→List D→Prop):Prop :=
  p.1.all (fun d=>d.okCells&&d.cells.length==sz)=true∧zQ5 (p.1.flatMap D.cells)=true∧K (.sl true sz (zIv sz n (p.1.flatMap D.cells))) p.2
theorem yT1 {sz parts}:zAn Ctr s (.bslN sz parts) K=yZx sz parts.length (tkL s parts) K:=rfl
theorem yUv {sz n}{ds:List D}:yZx sz n (ds,s) K=(ds.all (fun d=>d.okCells&&d.cells.length==sz)=true∧zQ5 (ds.flatMap D.cells)=true∧K (.sl true sz (zIv sz n (ds.flatMap D.cells))) s):=rfl
def yYo (o:Option D) (s:List D) (K:D→List D→Prop) (i:Nat):Prop:=match o with
  | some (.tup vs)=>match vs[i]? with
    | some d=>d.owny=false∧K d s
    | none=>False
  | _=>False
def yYp (o:Option D)(s:List D)(K:D→List D→Prop):Prop:=match o with
  | some d=>d.owny=false∧K d s
  | none=>False
theorem yTz {t i}:zAn Ctr s (.extN (.tmp t) i) K=yYo s[t]? s K i:=rfl
theorem yMz {vs i}:yYo (some (.tup vs)) s K i=yYp vs[i]? s K:=rfl
theorem yB1 {d}:yYp (some d) s K=(d.owny=false∧K d s):=rfl
/-! ### A function's end -/
theorem yT9 {rvs d}:zG3 rvs d .ret s=zR4 s rvs (leK d):=rfl
theorem xCa {rvs d}:zG3 rvs d .normal s=zR4 s rvs (leK d):=rfl
theorem yM7 {rvs d i b cs}:yHl rvs d i b cs .ret s=zR4 s rvs (leX d i b cs):=rfl
theorem yZe {rvs d i b cs}:yHl rvs d i b cs .normal s=zR4 s rvs (leX d i b cs):=rfl
section
variable {KS:List D→List D→Prop}
def yQ6 (d:D)(KL:List D→List D→Prop):List D→List D→Prop:=fun ds=>KL (d::ds)
def rvN (rs:List RV)(KL:List D→List D→Prop):D→List D→Prop:=fun d s'=>zR4 s' rs (yQ6 d KL)
theorem yQo:zR4 s [] KS=KS [] s:=rfl
theorem yJ0 {r rs}:zR4 s (r::rs) KS=rvK s r (rvN rs KS):=rfl
theorem yQq {rs d}:rvN rs KS d s=zR4 s rs (yQ6 d KS):=rfl
theorem yEz {d ds}:yQ6 d KS ds s=KS (d::ds) s:=rfl
end
theorem yS1 {d ds}:leK d ds s=(one ds).le d:=rfl
def xAj (b:Nat)(cells':List D):Option D→Prop
  | some (.box (some b') cs)=>b'=b∧leL (zAh (fun _=>false) cs) cells'
  | _=>False
theorem yNa {rvs d b cs}:xC5 rvs d b cs .ret s=zR4 s rvs (leG d b cs):=rfl
theorem yZh {rvs d b cs}:xC5 rvs d b cs .normal s=zR4 s rvs (leG d b cs):=rfl
theorem yS2 {d ds b cs}:leG d b cs ds s=((one ds).le d∧xCo b cs s):=rfl
def xA0 (x n:Nat)(s:List D)(K:D→List D→Prop):Option D→Prop
  | some (.box _ (.ptr r [] 0 0::rest))=>rest.length+1=n∧r≠x∧rest.all D.flatI=true∧zCi ((zAh (zAi x) s).set x .undef) (.ptr r [] 0 0) (fun d' s'=>K (.agg (d'::rest)) s')
  | _=>False
theorem yM8 {x n d}:xC4 x n d .ret s=xA0 x n s (fun d' _=>d'.le d) s[x]?:=rfl
theorem yZf {x n d}:xC4 x n d .normal s=xA0 x n s (fun d' _=>d'.le d) s[x]?:=rfl
theorem yJ1 {x n K g r rest}:xA0 x n s K (some (.box g (.ptr r [] 0 0::rest)))=(rest.length+1=n∧r≠x∧rest.all D.flatI=true∧zCi ((zAh (zAi x) s).set x .undef) (.ptr r [] 0 0) (fun d' s'=>K (.agg (d'::rest)) s')):=rfl
theorem yHm {rvs d i b cs}:yZg rvs d i b cs .ret s=zR4 s rvs (yX7 d i b cs):=rfl
theorem yUb {rvs d i b cs}:yZg rvs d i b cs .normal s=zR4 s rvs (yX7 d i b cs):=rfl
def yRi (b:Nat)(cells':List D):Option D→Prop
  | some (.fn _ [.box (some b') cs] [])=>b'=b∧leL (zAh (fun _=>false) cs) cells'
  | _=>False
theorem yMb {d ds i b cs}:yX7 d i b cs ds s=((one ds).le d∧yRi b cs s[i]?):=by unfold yX7 xCp yRi;rfl
theorem yLd {g b b' cs cells'}:yRi b cells' (some (.fn g [.box (some b') cs] []))=(b'=b∧leL (zAh (fun _=>false) cs) cells'):=rfl
def yR3 (ty:Nat)(t:Nat)(s:List D)(K:D→List D→Prop):Option D→Prop
  | some (.box _ [.v (.int .i64 m),.v (.int .i64 n)])=>K (.mp (.err ty) [(.int .i64 m,.int .i64 n)]) ((zAh (zAi t) s).set t .undef)
  | _=>False
theorem yS0 {d ds i b cs}:leX d i b cs ds s=((one ds).le d∧xAj b cs s[i]?):=by unfold leX xA8 xAj;rfl
theorem yLf {b cs cells'}:xAj b cells' (some (.box (some b) cs))=leL (zAh (fun _=>false) cs) cells':=by simp [xAj]
theorem xBa {d}:one [d]=d:=rfl
theorem xBb:one []=.tup []:=rfl
theorem xA9 {d e ds}:one (d::e::ds)=.tup (d::e::ds):=rfl
def rv2 (p:D×List D)(K:D→List D→Prop):Prop:=p.1.okCells=true∧zCi p.2 p.1 K
theorem xDc {t}:rvK s (.t t) K=rv2 (tkT s t) K:=rfl
theorem yWx {d}:rv2 (d,s) K=(d.okCells=true∧zCi s d K):=rfl
def rv3 (t n:Nat)(agg:Bool)(s:List D)(o:Option D)(K:D→List D→Prop):Prop:=match o with
  | some (.box _ cells)=>cells.length=n∧(zFs agg (zAh (zAi t) cells)).okCells=true∧zCi ((zAh (zAi t) s).set t .undef) (zFs agg (zAh (zAi t) cells)) K
  | _=>False
theorem xDd {t n agg}:rvK s (.c t n agg) K=rv3 t n agg s s[t]? K:=rfl
theorem yQr {t n agg g cells}:rv3 t n agg s (some (.box g cells)) K=(cells.length=n∧(zFs agg (zAh (zAi t) cells)).okCells=true∧zCi ((zAh (zAi t) s).set t .undef) (zFs agg (zAh (zAi t) cells)) K):=rfl
def yKk (d:D)(K:D→List D→Prop):List D→List D→Prop:=fun cs s'=>K (zFk d cs) s'
def yUy (K:D→List D→Prop):List D→List D→Prop:=fun cs s'=>K (.box none cs) s'
theorem yH4 {cs}:yUy K cs s=K (.box none cs) s:=rfl
def xA4 (r:Nat)(s:List D)(K:D→List D→Prop):Option D→Prop
  | some (.box _ cells)=>zCp (zAh (zMx r) cells)=true∧zD0 ((zAh (zAi r) s).set r .undef) (zAh (zMx r) cells) (yUy K)
  | _=>False
theorem zW1 {r}:zCi s (.ptr r [] 0 0) K=xA4 r s K s[r]?:=by unfold zCi xA4;rfl
theorem yKd {r g cells}:xA4 r s K (some (.box g cells))=(zCp (zAh (zMx r) cells)=true∧zD0 ((zAh (zAi r) s).set r .undef) (zAh (zMx r) cells) (yUy K)):=rfl
theorem zW2 {cs}:zCi s (.agg cs) K=(zCp cs=true∧zD0 s cs (yKk (.agg cs) K)):=rfl
theorem yEt {x}:zCi s (.v x) K=(zCp [.v x]=true∧zD0 s [.v x] (yKk (.v x) K)):=rfl
theorem zVi:zCi s .nils K=(zCp [.nils]=true∧zD0 s [.nils] (yKk .nils K)):=rfl
theorem zT0:zCi s .undef K=(zCp [.undef]=true∧zD0 s [.undef] (yKk .undef K)):=rfl
theorem yAw {o z r}:zCi s (.sl o z r) K=(zCp [.sl o z r]=true∧zD0 s [.sl o z r] (yKk (.sl o z r) K)):=rfl
theorem zW0 {r p}:zCi s (.ref r p) K=(zCp [.ref r p]=true∧zD0 s [.ref r p] (yKk (.ref r p) K)):=rfl
theorem yAx {k e}:zCi s (.mp k e) K=(zCp [.mp k e]=true∧zD0 s [.mp k e] (yKk (.mp k e) K)):=rfl
theorem zVj {c j}:zCi s (.iptr c j) K=(zCp [.iptr c j]=true∧zD0 s [.iptr c j] (yKk (.iptr c j) K)):=rfl
theorem yW3 {k e ds}:zFk (.mp k e) ds=ds.headD .undef:=rfl
theorem yX5 {k e k' e'}:(D.mp k e).le (.mp k' e')=(k=k'∧e=e'):=by simp [D.le]
theorem ySy {g e g' e'}:(D.box g e).le (.box g' e')=(g=g'∧e=e'):=by simp [D.le]
theorem yKj {d cs}:yKk d K cs s=K (zFk d cs) s:=rfl
theorem yQ5 {cs ds}:zFk (.agg cs) ds=.agg ds:=rfl
theorem xA5 {x ds}:zFk (.v x) ds=ds.headD .undef:=rfl
theorem yKh {ds}:zFk .nils ds=ds.headD .undef:=rfl
theorem yEx {ds}:zFk .undef ds=ds.headD .undef:=rfl
theorem yW2 {o z r ds}:zFk (.sl o z r) ds=ds.headD .undef:=rfl
theorem yQ4 {r p ds}:zFk (.ref r p) ds=ds.headD .undef:=rfl
theorem yKi {c j ds}:zFk (.iptr c j) ds=ds.headD .undef:=rfl
theorem yGi {d:D}:d.le .undef=True:=by cases d<;>simp [D.le]
theorem xBk {a b:Value}:(D.v a).le (.v b)=(a=b):=by simp [D.le]
theorem yL9:D.nils.le .nils=True:=by simp [D.le]
theorem yL8 {o z r}:D.nils.le (.sl o z r)=(r=[]):=by simp [D.le]
theorem yX4 {o z r o' z' r'}:(D.sl o z r).le (.sl o' z' r')=(o=o'∧z=z'∧r=r'):=by simp [D.le]
theorem ySz {a b}:(D.agg a).le (.agg b)=leL a b:=by simp [D.le]
theorem ySx {a b}:(D.tup a).le (.tup b)=leL a b:=by simp [D.le]
theorem yX6 {f g a b c d}:(D.fn f a b).le (.fn g c d)=(f=g∧leL a c∧leL b d):=by simp [D.le]
theorem yMa:leL [] []=True:=by simp [leL]
theorem yGk {a b a2 b2}:leL (a::a2) (b::b2)=(a.le b∧leL a2 b2):=by simp [leL]
end
theorem zJs {C:CtrT}{Q:VExit→List D→Prop}{s:List D}{t:VT}{tail:List VO}{s0:List D}(h:∀ K:List D→Prop,K s0→t.wp C K s)(p:yWm C tail Q s0):(VCode.drawT t tail).wp C Q s:=h _ p
end Go.V
namespace Go.V
open Go.RowKit
section
variable {Ctr:CtrT} {s:List D} {K:D→List D→Prop}
def xC3 (neg:Bool) (ks:List Nat) (x y:D) (s:List D) (K:D→List D→Prop):Prop:=match x,y with
  | .agg a,.agg b=>zAy ks a=true∧match zA9 a b with
    | some c=>K (.v (.bool (if neg then !c else c))) s
    | none=>False
  | _,_=>False
theorem yY4 {neg ks x y}:zAn Ctr s (.eqs neg ks x y) K=xC3 neg ks (lk s x) (lk s y) s K:=rfl
def xB9 (neg:Bool)(o:Option Bool)(s:List D)(K:D→List D→Prop):Prop:=match o with
  | some c=>K (.v (.bool (if neg then !c else c))) s
  | none=>False
theorem yT5 {neg ks a b}:xC3 neg ks (.agg a) (.agg b) s K=(zAy ks a=true∧xB9 neg (zA9 a b) s K):=rfl
theorem yZc {c}:xB9 false (some c) s K=K (.v (.bool c)) s:=rfl
theorem yZb {c}:xB9 true (some c) s K=K (.v (.bool (!c))) s:=rfl
theorem yT7:zA9 [] []=some true:=rfl
theorem yT8 {k a b xs ys}:zA9 (.v (.int k a)::xs) (.v (.int k b)::ys)=(zA9 xs ys).map (decide (a=b)&&·):=by simp [zA9]
theorem yT6 {a b xs ys}:zA9 (.v (.string a)::xs) (.v (.string b)::ys)=(zA9 xs ys).map (decide (a=b)&&·):=rfl
theorem yM4 {a b xs ys}:zA9 (.v (.bool a)::xs) (.v (.bool b)::ys)=(zA9 xs ys).map ((a==b)&&·):=rfl
theorem yS3:zAy [] []=true:=rfl
theorem xBo {ks b ds}:zAy (0::ks) (.v (.bool b)::ds)=zAy ks ds:=rfl
theorem xBn {ks k n ds}:zAy (1::ks) (.v (.int k n)::ds)=zAy ks ds:=rfl
theorem xBm {ks b ds}:zAy (2::ks) (.v (.string b)::ds)=zAy ks ds:=rfl
theorem yY8 {x}:zAn Ctr s (.b2s x) K=yZ5 (zFq s (lk s x)) s K:=rfl
theorem yZ4 {sz rows}:yZ5 (some (sz,rows)) s K=∃ xs:List Int,rows=xs.map zYo∧K (.v (.string (xAe xs))) s:=rfl
theorem yM1 {neg x}:zAn Ctr s (.isnil neg x) K=zV2 neg (lk s x) (zFq s (lk s x)) s K:=rfl
theorem yBn {neg o}:zV2 neg .nils o s K=K (.v (.bool (!neg))) s:=rfl
/-! maps -/
theorem yYw {k}:zAn Ctr s (.mkm k) K=K (.mp k k.e0) s:=rfl
theorem yZj:KK.e0 .str=[]:=rfl
theorem yUd:KK.e0 .bool=[]:=rfl
theorem yZk {k}:KK.e0 (.int k)=[]:=rfl
theorem yUc {ks}:KK.e0 (.flat ks)=[]:=rfl
theorem yTv {ty t}:zAn Ctr s (.mkif ty (.tmp t)) K=yR3 ty t s K s[t]?:=by unfold yR3;rfl
theorem yF5 {ty t g m n}:yR3 ty t s K (some (.box g [.v (.int .i64 m),.v (.int .i64 n)]))=K (.mp (.err ty) [(.int .i64 m,.int .i64 n)]) ((zAh (zAi t) s).set t .undef):=rfl
theorem yZl {t e}:KK.e0 (.bld t e)=[(.string ⟨#[]⟩,undef)]:=rfl
def yRy (k:KK)(r:Nat)(q:zBz)(d:D)(e:List (Value×Value))(ou ov:Option Value)(s:List D)(K:D→List D→Prop):Prop:=match ou,ov with
  | some u,some v=>zCc k u=true∧K .undef (s.set r (setAt d q (.mp k (zP3 e u v))))
  | _,_=>False
def yLt (k:KK)(r:Nat)(q:zBz)(d:D)(o:Option D)(ou ov:Option Value)(s:List D)(K:D→List D→Prop):Prop:=match o with
  | some (.mp k' e)=>k'=k∧yRy k r q d e ou ov s K
  | _=>False
def yRz (k:KK)(r:Nat)(q:zBz)(o:Option D)(ou ov:Option Value)(s:List D)(K:D→List D→Prop):Prop:=match o with
  | some d=>yLt k r q d (zAm d q) ou ov s K
  | none=>False
def yXn (k:KK)(m:D)(ou ov:Option Value)(s:List D)(K:D→List D→Prop):Prop:=match m with
  | .ref r q=>yRz k r q s[r]? ou ov s K
  | _=>False
theorem yTt {k m i x}:zAn Ctr s (.mupd k m i x) K=yXn k (lk s m) (toV (lk s i)) (toV (lk s x)) s K:=rfl
theorem yFw {k r q ou ov}:yXn k (.ref r q) ou ov s K=yRz k r q s[r]? ou ov s K:=rfl
theorem yBa {k r q d ou ov}:yRz k r q (some d) ou ov s K=yLt k r q d (zAm d q) ou ov s K:=rfl
theorem yLs {k r q d e ou ov}:yLt k r q d (some (.mp k e)) ou ov s K=yRy k r q d e ou ov s K:=by simp [yLt]
theorem yA9 {k r q d e u v}:yRy k r q d e (some u) (some v) s K=(zCc k u=true∧K .undef (s.set r (setAt d q (.mp k (zP3 e u v))))):=rfl
def yR7 (k:KK)(r:Nat)(q:zBz)(d:D)(e:List (Value×Value))(ou:Option Value)(s:List D)(K:D→List D→Prop):Prop:=match ou with
  | some u=>zCc k u=true∧K .undef (s.set r (setAt d q (.mp k (mdel e u))))
  | _=>False
def yL0 (k:KK)(r:Nat)(q:zBz)(d:D)(o:Option D)(ou:Option Value)(s:List D)(K:D→List D→Prop):Prop:=match o with
  | some (.mp k' e)=>k'=k∧yR7 k r q d e ou s K
  | _=>False
def yR8 (k:KK)(r:Nat)(q:zBz)(o:Option D)(ou:Option Value)(s:List D)(K:D→List D→Prop):Prop:=match o with
  | some d=>yL0 k r q d (zAm d q) ou s K
  | none=>False
def yXx (k:KK)(m:D)(ou:Option Value)(s:List D)(K:D→List D→Prop):Prop:=match m with
  | .ref r q=>yR8 k r q s[r]? ou s K
  | _=>False
theorem yTw {k m i}:zAn Ctr s (.mdel k m i) K=yXx k (lk s m) (toV (lk s i)) s K:=rfl
theorem yF8 {k r q ou}:yXx k (.ref r q) ou s K=yR8 k r q s[r]? ou s K:=rfl
theorem yBf {k r q d ou}:yR8 k r q (some d) ou s K=yL0 k r q d (zAm d q) ou s K:=rfl
theorem yLz {k r q d e ou}:yL0 k r q d (some (.mp k e)) ou s K=yR7 k r q d e ou s K:=by simp [yL0]
theorem yBe {k r q d e u}:yR7 k r q d e (some u) s K=(zCc k u=true∧K .undef (s.set r (setAt d q (.mp k (mdel e u))))):=rfl
def xCs (k:KK)(z:Value)(ok:Bool)(ou:Option Value)(m:D)(o:Option (KK×List (Value×Value)))(s:List D)(K:D→List D→Prop):Prop:=match ou with
  | some u=>zCc k u=true∧yOn k z ok u m o s K
  | none=>False
theorem yYu {k z ok m i}:zAn Ctr s (.mlk k z ok m i) K=xCs k z ok (toV (lk s i)) (lk s m) (zXf s (lk s m)) s K:=rfl
theorem yF1 {k z ok u m o}:xCs k z ok (some u) m o s K=(zCc k u=true∧yOn k z ok u m o s K):=rfl
def zXi (z:Value)(ok:Bool)(o:Option Value)(s:List D)(K:D→List D→Prop):Prop:=match o with
  | some v=>K (if ok then .tup [ofV v,.v (.bool true)] else ofV v) s
  | none=>K (if ok then .tup [ofV z,.v (.bool false)] else ofV z) s
theorem yLx {k z ok u m e}:yOn k z ok u m (some (k,e)) s K=zXi z ok (zXh e u) s K:=by unfold yOn zXi;simp only [true_and];cases zXh e u<;>rfl
theorem yR1 {k z ok u}:yOn k z ok u (.v (.map none)) none s K=zXi z ok none s K:=rfl
theorem ySg {z v}:zXi z false (some v) s K=K (ofV v) s:=rfl
theorem ySf {z v}:zXi z true (some v) s K=K (.tup [ofV v,.v (.bool true)]) s:=rfl
theorem ySi {z}:zXi z false none s K=K (ofV z) s:=rfl
theorem ySh {z}:zXi z true none s K=K (.tup [ofV z,.v (.bool false)]) s:=rfl
def yXt (m:D) (o:Option (KK×List (Value×Value))) (s:List D) (K:D→List D→Prop):Prop:=match o with
  | some (k,e)=>zVw k (K (.v (.int .i64 (e.length:Int))) s)
  | none=>match m with
    | .v (.map none)=>K (.v (.int .i64 0)) s
    | _=>False
theorem yTu {m}:zAn Ctr s (.mlen m) K=yXt (lk s m) (zXf s (lk s m)) s K:=rfl
theorem yBd {m k e}:yXt m (some (k,e)) s K=zVw k (K (.v (.int .i64 (e.length:Int))) s):=rfl
theorem yF2 {p}:zVw .str p=p:=rfl
theorem yBc {p}:zVw .bool p=p:=rfl
theorem yF4 {k p}:zVw (.int k) p=p:=rfl
theorem yBb {ks p}:zVw (.flat ks) p=p:=rfl
theorem yLw {k e}:zXf s (.imp k e)=some (k,e):=rfl
def mpG:Option D→Option (KK×List (Value×Value))
  | some (.mp k e)=>some (k,e)
  | _=>none
def mpF (q:zBz):Option D→Option (KK×List (Value×Value))
  | some d=>mpG (zAm d q)
  | none=>none
theorem yLv {r q}:zXf s (.ref r q)=mpF q s[r]?:=by unfold zXf mpF mpG;rfl
theorem yLu {q d}:mpF q (some d)=mpG (zAm d q):=rfl
theorem yXp {k e}:mpG (some (.mp k e))=some (k,e):=rfl
theorem yXq {x}:zXf s (.v x)=none:=rfl
theorem xAw {x}:toV (.v x)=some x:=rfl
theorem yIt:toV .nils=some (.slice none 0 0):=rfl
theorem yPi {cs}:toV (.agg cs)=(zGh cs).map fun vs=>.agg ⟨vs⟩:=rfl
theorem yFd:zGh []=some []:=rfl
theorem yFe {k n ds}:zGh (.v (.int k n)::ds)=(zGh ds).map (.int k n::·):=rfl
theorem yFc {b ds}:zGh (.v (.string b)::ds)=(zGh ds).map (.string b::·):=rfl
theorem yA1 {b ds}:zGh (.v (.bool b)::ds)=(zGh ds).map (.bool b::·):=rfl
theorem yGl {b}:zCc .str (.string b)=true:=rfl
theorem yBl {b}:zCc .bool (.bool b)=true:=rfl
theorem yGm {k n}:zCc (.int k) (.int k n)=true:=by simp [zCc]
theorem yBk {ks cs}:zCc (.flat ks) (.agg ⟨cs⟩)=zA6 ks cs:=rfl
theorem yYb:zA6 [] []=true:=rfl
theorem xDh {ks b vs}:zA6 (0::ks) (.bool b::vs)=zA6 ks vs:=rfl
theorem xDg {ks n vs}:zA6 (1::ks) (.int .i64 n::vs)=zA6 ks vs:=rfl
theorem xDf {ks b vs}:zA6 (2::ks) (.string b::vs)=zA6 ks vs:=rfl
end
attribute [go_sem ↓] yC7 yWc yIr yPe yC6 yIs yB9 yCa yIl yCr zWc yCq yMk yG3 yBv yNb yG5 yR5 yA2 zXx yT4 yT1 yTz yPb yO9 yIj yPa yIk yCs yIm yWk yWj
  yWl yU0 yUz yU1 yRj yLi yFn yNe yKn yKo yYr yYt yYs yY9 yTs yTr yY7 yT2 xB5 yT0 yM3 yY6 yM2 yY5 yTx yM0 xB8
  yY2 xB7 yY1 yYz yY0 yTq yYq yY3 yYy yTy xB6 yZa yT3 yH6 yVm yYx yYv yY4 yY8 yM1 yYw yTt yTw yYu yTu
attribute [go_sem] xBv xBy xBw xBx yTc yRp yRt yRv yRw yXl yRu xBe yLq yFv yRr yRq yRs yLr yRx yXm yCh zX6 yCg zX5 yUx yUw yH3 yH2 yMm yMp yMn yMo yBw yZn yZo yOp yXy yL3 ySk ySo ySq ySr yXz ySp xBj yL4 yGc ySm ySn yL5 ySs yX0 yQ7 yE0
  yKl xA7 yWe yWf yIw yPk yPq yPs yPt yWh yPr xAx yIy yDa yPo yPp yIz yPu yPm yWi yPl yIx yRe yK0 yK3 yRc yK1 yK2 yW9
  yE6 yAz yKy yKz yE7 yK4 yKw yRd yK9 yLm yFs yRn yXd yXb yXc yVg yU3 yU9 yU7 yU6 yVe yU8 yVa
  yVb yVc yVd yU5 yU4 yVf yZ1 yNu yNt yNr yNs yVi yVh yV9 yWa yNd yZy yNp zX4 yZw yHq yNf yKc yQ2
  yQ1 yQ0 yJ8 yJ9 yPx yEu yKa xA3 yWy yI8 zWv zWw yL1 yGa yBi yUa yQu yI2 yAa yI3 yQm yQl yEr yAr yI4 yQh yAo yAn yQj
  yQi yZ3 yZ2 yJy yEa yW5 yJu yD9 yMf yBp yGw yJ6 yJ5 yQv yYn yTn yTi yYe xBt yMj yJe yP2 yDt
  yWr yS8 yMi xBr yS4 yWp yWo yP1 yJa yDp yDr yJf yDu yDv yAd yJd yDc yNz ySl yPn yKx yGo yLh yLg yTo yHg yL7 yX2 yXs yXr yNw yNx yMr yTd yMs yBx yG8 yH7 xAa
  yN1 yN2 yH8 yN0 yR2 ofV ofC D.owny zDf D.prune zAh zAi zFh List.isEmpty_nil List.isEmpty_cons zAl zHv D.cont zAm setAt D.withCont D.cells D.okCells D.leaf zCp zM1 zFs zJ6 zIv yAe
  zSb splice xBz xB2 xB0 xB1 yTg yHn yB8 yAl yAm yFb yFa yZp yNg yZr yZs yZt yGp yGq yYh yYi yYj yA3
  yA4 yK5 yA5 yS9 yBq yMq yG6 zXs yUv zQ5 yMz yB1 yT9 xCa yQo yJ0 yQq yEz yS1 xBa xBb xA9 xDc
  yWx xDd yQr zW2 yEt zVi zT0 yAw zW0 yAx zVj zW1 yKd yH4 zMx yW3 yWz yKb yDm yX5 ySy yM7 yZe yNa yZh yS2 yM8 yZf yJ1 yHm yUb yKq yW8 yAy yE4 yQ9 yRa yKt yE5 yKv yKp yKu yRb yKr yKs yE3 yMb yLd yLa yTv yF5 yS0 yLf yKj yQ5 xA5 yKh yEx yW2 yQ4 yKi yGi xBk yL9 yL8 yX4 ySz ySx yX6 yMa yGk yT5
  yFw yBa yLs yA9 yF8 yBf yLz yBe yF1 yLx yR1 ySg ySf ySi ySh yBd yF2 yBc yF4 yBb yZj yUd yZk yUc yZl yLw yLv yLu yXp yXq xAw yIt yPi yFd yFe yFc yA1 yGl yBl yGm yBk yYb xDh xDg xDf xDk
  yZc yZb yT7 yT8 yT6 yM4 yS3 xBo xBn xBm yZ4 yBn
end Go.V
namespace Go.V
open Go.RowKit
mutual
theorem D.le_rfl:∀ d:D,d.le d
  | .undef=>by simp [D.le]
  | .nils=>by simp [D.le]
  | .v _=>by simp [D.le]
  | .sl _ _ _=>by simp [D.le]
  | .agg cs=>by simp only [D.le];exact zFn cs
  | .tup cs=>by simp only [D.le];exact zFn cs
  | .ref _ _=>by simp [D.le]
  | .ptr _ _ _ _=>by simp [D.le]
  | .sub _ _ _ _=>by simp [D.le]
  | .iptr cs _=>by simp only [D.le];exact ⟨0,by omega,by rw [xE3,xF8];exact zFn cs⟩
  | .box _ _=>by simp [D.le]
  | .mp _ _=>by simp [D.le]
  | .imp _ _=>by simp [D.le]
  | .fn _ a b=>by simp only [D.le];exact ⟨trivial,zFn a,zFn b⟩
theorem zFn:∀ ds:List D,leL ds ds
  | []=>by simp [leL]
  | d::ds=>by simp only [leL];exact ⟨D.le_rfl d,zFn ds⟩
end
theorem zA1 {ds es:List D}(h:ds=es):leL ds es:=h▸zFn ds
theorem zBi {d e:D}{ds es:List D}(h1:d.le e)(h2:leL ds es):leL (d::ds) (e::es):=by simp only [leL];exact ⟨h1,h2⟩
theorem zB3:leL [] []:=by simp [leL]
theorem le_of_eq {d e:D}(h:d=e):d.le e:=h▸D.le_rfl d
theorem zC4 {cs ds:List D}(h:leL cs ds):(D.agg cs).le (.agg ds):=by simp only [D.le];exact h
theorem yGj:∀ {cs ds:List D},leL cs ds→cs.length=ds.length
  | [],[],_=>rfl
  | [],_::_,h=>by simp [leL] at h
  | _::_,[],h=>by simp [leL] at h
  | c::cs,d::ds,h=>by simp only [leL] at h;simp [yGj h.2]
theorem zB2 {cs ds:List D}{j:Nat}(h:leL cs ds):(D.iptr cs j).le (.iptr ds j):=by simp only [D.le];exact ⟨0,by omega,by rw [xE3,← yGj h,xF8];exact h⟩
theorem zBh {cs ds:List D}{i:Nat}(h:leL ((cs.drop i).take ds.length) ds):(D.iptr cs i).le (.iptr ds 0):=by simp only [D.le];exact ⟨i,by omega,h⟩
theorem zE8 {f:FuncId}{a b c d:List D}(h1:leL a c)(h2:leL b d):(D.fn f a b).le (.fn f c d):=by simp only [D.le];exact ⟨trivial,h1,h2⟩
theorem zC3 {d:D}{z:Nat}{rows rows':List (List D)}(h:d=.sl false z (zFx rows))(h2:zFx rows=rows'):d.le (.sl false z rows'):=by rw [h,h2];exact D.le_rfl _
theorem zZf:∀ xs ys:List D,zJp (xs++ys)=zJp xs++zJp ys
  | [],_=>rfl
  | x::xs,ys=>by simp only [xD7,zJp,zZf xs ys]
theorem zA5 {o z}:D.nils.le (.sl o z []):=by simp [D.le]
theorem zE9 {α:Type}{f g:α→List D}(h:∀ x,zJp (f x)=g x):∀ xs:List α,zFx (xs.map f)=xs.map g
  | []=>by simp [zFx]
  | x::xs=>by simp only [xDu,zFx,h,zE9 h xs]
section
variable {P:Program} {G:World→(Nat→Prop)→Prop} {s:List D} {K:D→List D→Prop} {Q:VExit→List D→Prop}
theorem zX1 {f:FuncId}{args:List Operand}{args':List D}{d:D}(hC:Contract P G f args' d)(he:leL (args.map fun x=>deep s 8 (raw s x)) args')(hi:d.noImm=true∨((args.map fun x=>raw s x).all D.noRef)=true)(hK:K d s):zAn (CT P G) s (.callX f args) K :=
  .inl ⟨args',d,he,hC,hi,hK⟩
theorem zZs {x:Operand}{f:FuncId}{first caps:List D}{args:List Operand}{args':List D}{d:D}(hx:lk s x=.fn f first caps)(hC:Contract P G f args' d)(he:leL ((first++args.map (fun x=>raw s x)++caps).map (deep s 8)) args')(hi:d.noImm=true∨(first++args.map (fun x=>raw s x)++caps).all D.noRef=true)(hK:K d s):zAn (CT P G) s (.callvX x args) K:=by simp only [zAn,hx];exact .inl ⟨args',d,he,hC,hi,hK⟩
theorem yUs {f:FuncId}{args:List Operand}{i r:Nat}{tag:Option Nat}{cells args' cells0:List D}{d:D}{cells':List D}(hC:ContractX P G f i args' cells0 d cells')(hi:(args.map fun x=>raw s x)[i]?=some (.ptr r [] 0 0))(hs:s[r]?=some (.box tag cells))
    (hle:leL (((args.map fun x=>raw s x).map (D.prune (zAi r))).map (deep ((zAh (zAi r) s).set r .undef) 8)) args') (hlc:leL (zAh (fun _=>false) cells) cells0) (hn:(d.noImm=true∧zBc cells'=true)∨((args.map fun x=>raw s x).map (D.prune (zAi r))).all D.noRef=true) (hK:K d ((zAh (zFh r) s).set r (.box tag cells'))):zAn (CT P G) s (.callX f args) K :=
  .inr (.inl ⟨i,r,tag,cells,args',cells0,hi,hs,hle,hlc,fun b _=>⟨d,cells',tag,.inl rfl,hC.at b,hn,hK⟩⟩)
theorem zWg {f:FuncId}{args:List Operand}{i r:Nat}{x:Operand}{d0 d' dnew res:D}{args':List D}(fr:Bool)(hC:ContractL P G f i args' d0 res d')(hx:args[i]?=some x)(hl:zT9 s r x fr d0 d' dnew d')(ho:((args.map fun x=>raw s x).set i .undef).all (fun u=>!u.owny)=true)
    (hle:leL ((((args.map fun x=>raw s x).set i .undef).map (D.prune (zAi r))).map (deep ((zAh (zAi r) s).set r .undef) 8)) args') (hn:(fr=false∧res.noImm=true∧d'.noImm=true)∨(fr=true∧(((args.map fun x=>raw s x).set i .undef).map (D.prune (zAi r))).all D.noRef=true)) (hK:K res ((zAh (zAi r) s).set r dnew)):zAn (CT P G) s (.callX f args) K :=
  .inr (.inr (.inl ⟨i,r,x,fr,d0,d',dnew,d',res,args',hx,hl,.inr ho,hle,hC,hn,.inl hK⟩))
theorem zS7 {f:FuncId}{args:List Operand}{i r:Nat}{x:Operand}{tag:Option Nat}{cells:List D}{q:zBz}{tg:Option Nat}{cs cells0 cells':List D}{d res dnew:D}{args' A:List D}(hC:ContractX P G f i args' cells0 res cells')(hx:args[i]?=some x)(hs:s[r]?=some d)(hd:d=.box tag cells)(hq:q≠[])(hlk:lk s x=.ptr r q 0 0)(htr:zAm d q=some (.box tg cs))(h0:zAh (fun _=>false) cs=cells0)(hnew:setAt (d.prune (fun _=>false)) q (.box tg cells')=dnew)(hb:dnew.boxy=true)
    (hA:(((args.map fun x=>raw s x).set i .undef).map (D.prune (zAi r))).map (deep ((zAh (zAi r) s).set r .undef) 8)=A) (hle:leL A args') (hn:res.noImm=true∧zBc cells'=true) (hK:K res ((zAh (zFh r) s).set r dnew)):zAn (CT P G) s (.callX f args) K:=by
  refine .inr (.inr (.inl ⟨i,r,x,false,.box none cells0,.box none cells',dnew,.box tg cells',res,args',hx,?_,.inl ⟨d,hs,by rw [hd];rfl⟩,hA▸hle,hC.lend,.inl ⟨rfl,hn.1,by simpa [D.noImm] using hn.2⟩,.inr ⟨⟨d,hs,by rw [hd];rfl⟩,hb,hK⟩⟩));unfold zT9;rw [hs];exact .inr (.inr (.inr (.inl ⟨q,tg,cs,cells',rfl,hq,hlk,htr,by rw [h0],rfl,rfl,hnew.symm⟩)))
theorem yNm {f:FuncId}{args:List Operand}{s':List D}(t:Nat){i r:Nat}{tag:Option Nat}{cells A args' cells0:List D}{d:D}{cells':List D}(hC:ContractX P G f i args' cells0 d cells')(hf:frz t s=s')(hi:(args.map fun x=>raw s' x)[i]?=some (.ptr r [] 0 0))(hs:s'[r]?=some (.box tag cells))
    (hA:((args.map fun x=>raw s' x).map (D.prune (zAi r))).map (deep ((zAh (zAi r) s').set r .undef) 8)=A) (hle:leL A args') (hlc:leL (zAh (fun _=>false) cells) cells0) (hn:(d.noImm=true∧zBc cells'=true)∨((args.map fun x=>raw s' x).map (D.prune (zAi r))).all D.noRef=true) (hK:K d ((zAh (zFh r) s').set r (.box tag cells'))):zAn (CT P G) s (.callX f args) K:=by
  subst hf;exact .inr (.inr (.inr (.inl ⟨t,i,r,tag,cells,args',cells0,hi,hs,hA▸hle,hlc,fun b _=>⟨d,cells',tag,.inl rfl,hC.at b,hn,hK⟩⟩)))
theorem zZu {f:FuncId}{args:List Operand}{s':List D}(r0 t:Nat){i r:Nat}{tag:Option Nat}{cells A args' cells0:List D}{d:D}{cells':List D}(hC:ContractX P G f i args' cells0 d cells')(hf:pull r0 t s=s')(hi:(args.map fun x=>raw s' x)[i]?=some (.ptr r [] 0 0))(hs:s'[r]?=some (.box tag cells))
    (hA:((args.map fun x=>raw s' x).map (D.prune (zAi r))).map (deep ((zAh (zAi r) s').set r .undef) 8)=A) (hle:leL A args') (hlc:leL (zAh (fun _=>false) cells) cells0) (hn:(d.noImm=true∧zBc cells'=true)∨((args.map fun x=>raw s' x).map (D.prune (zAi r))).all D.noRef=true) (hK:K d ((zAh (zFh r) s').set r (.box tag cells'))):zAn (CT P G) s (.callX f args) K:=by
  subst hf;exact .inr (.inr (.inr (.inr (.inr (.inr (.inr ⟨r0,t,i,r,tag,cells,args',cells0,hi,hs,hA▸hle,hlc,fun b _=>⟨d,cells',tag,.inl rfl,hC.at b,hn,hK⟩⟩))))))
theorem zUp {f:FuncId}{args:List Operand}{i r:Nat}{tag:Option Nat}{cells A args' cells0:List D}{d:D}{cells':List D}(hC:ContractX P G f i args' cells0 d cells')(hi:(args.map fun x=>raw s x)[i]?=some (.ptr r [] 0 0))(hs:s[r]?=some (.box tag cells))
    (hA:((args.map fun x=>raw s x).map (D.prune (zAi r))).map (deep ((zAh (zAi r) s).set r .undef) 8)=A) (hle:leL A args') (hlc:leL (zAh (fun _=>false) cells) cells0) (hn:(d.noImm=true∧zBc cells'=true)∨((args.map fun x=>raw s x).map (D.prune (zAi r))).all D.noRef=true) (hK:K d ((zAh (zFh r) s).set r (.box tag cells'))):zAn (CT P G) s (.callX f args) K :=
  yUs hC hi hs (hA▸hle) hlc hn hK
theorem Contract.imm {f:FuncId}{args:List D}{d:D}(h:Contract P G f args d):Contract P G f args d.imm:=by refine ⟨h.1,fun w I us hG hI hV=>(h.2 w I us hG hI hV).mono ?_⟩;rintro e w' ⟨v,F,I',he,hb,hT,hn,hF,hI1,hI2⟩;exact ⟨v,[],fun b=>I' b∨b∈F,he,hb,T.imm (fun b h=>.inl h) d hT (fun b hb=>.inr hb),xFr,fun b hb=>(xI3 hb).elim,fun b hb=>.inl (hI1 b hb),fun b hb=>hb.elim (hI2 b) (fun h=>⟨.inr (hF b h).1,(hF b h).2.1⟩)⟩
theorem yNl {f:FuncId}{args:List Operand}{args':List D}{d:D}(hC:Contract P G f args' d)(he:leL (args.map fun x=>deep s 8 (raw s x)) args')(hi:d.noImm=true∨((args.map fun x=>raw s x).all D.noRef)=true)(hK:K d s):zAn (CT P G) s (.call f args) K :=
  .inl ⟨args',d,he,hC,hi,hK⟩
def xAg (x:Value×Value×Value):List D:=[.v x.1,.v x.2.1,.v x.2.2]
theorem zT8 {α:Type}{Ctr:CtrT}{mask:List Bool}{c:VCode}(st:α→List D)(J:α→Prop)(μ:α→Nat)(a:α)(h0:zFf (clr mask s) (st a))(hJ:J a)(h:∀ a,J a→c.wp Ctr (zMl (fun s''=>∃ b,μ b<μ a∧J b∧zFf (clr mask s'') (st b)) Q) (st a)):(VCode.loop mask c).wp Ctr Q s:=by
  refine yBh (fun n s=>∃ a,μ a=n∧J a∧s=st a) (μ a) ⟨_,h0,a,rfl,hJ,rfl⟩ ?_;rintro n s' ⟨b,rfl,hb,rfl⟩;have e:(fun s''=>∃ m,m<μ b∧∃ s1,zFf (clr mask s'') s1∧∃ a,μ a=m∧J a∧s1=st a)=(fun s''=>∃ a,μ a<μ b∧J a∧zFf (clr mask s'') (st a)):=by funext s'';exact propext ⟨fun ⟨m,h1,s1,h2,a,h3,h4,h5⟩=>⟨a,by omega,h4,h5▸h2⟩,fun ⟨a,h1,h2,h3⟩=>⟨μ a,h1,_,h3,a,rfl,h2,rfl⟩⟩
  rw [e];exact h b hb
theorem wrN {i:Nat}(h:i+1<9223372036854775808):IntKind.i64.wrap ((i:Int)+1)=((i+1:Nat):Int):=IntWalk.i64_in _ (by omega)
theorem wrI {a:Int}(h1 : -9223372036854775808≤a)(h2:a≤9223372036854775807):IntKind.i64.wrap a=a:=IntWalk.i64_in _ (by omega)
end
def slG:Option D→Option (Nat×List (List D))
  | some (.sl true sz rows)=>some (sz,rows)
  | _=>none
theorem yJc {q:zBz}{d:D}:slF q (some d)=slG (zAm d q):=by unfold slF slG;rfl
theorem yWq {sz rows}:slG (some (.sl true sz rows))=some (sz,rows):=rfl
def zY8:Option D→Bool
  | some (.box _ _)=>true
  | _=>false
theorem zXp {q:zBz}{d:D}:zSw q (some d)=zY8 (zAm d q):=by unfold zSw zY8;rfl
theorem yGv {o sz rows}:zY8 (some (.sl o sz rows))=false:=rfl
theorem yBo {g cs}:zY8 (some (.box g cs))=true:=rfl
def xAf (i:Nat):Option (Nat×List (List D))→Option (List D)
  | some (_,rows)=>rows[i]?
  | none=>none
def xA2 (i:Nat):Option D→Option (List D)
  | some t=>xAf i t.cont
  | none=>none
theorem yEq {q:zBz}{i:Nat}{d:D}:yVv q i (some d)=xA2 i (zAm d q):=by unfold yVv xA2 xAf;rfl
theorem yEp {i:Nat}{t:D}:xA2 i (some t)=xAf i t.cont:=rfl
theorem yEo {i:Nat}{n rows}:xAf i (some (n,rows))=rows[i]?:=rfl
theorem yK8 {a b c d:Nat}:((a,b)==(c,d))=(a==c&&b==d):=rfl
attribute [go_sem] yK8 yJc yWq zXp yGv yBo yEq yEp yEo
end Go.V
namespace Go.V
open Go.RowKit
set_option autoImplicit false
def ovr (s:List D):List (Nat×D)→List D
  | []=>s
  | p::r=>ovr (s.set p.1 p.2) r
theorem zB0 {s:List D}:ovr s []=s:=rfl
theorem zBe {s:List D}{i:Nat}{d:D}{r:List (Nat×D)}:ovr s ((i,d)::r)=ovr (s.set i d) r:=rfl
theorem zB5 {α:Type}{Ctr:CtrT}{mask:List Bool}{c:VCode}{Q:VExit→List D→Prop}{s s0:List D}{st:α→List D}(hs:clr mask s=s0)(ov:α→List (Nat×D))(hst:∀ a,ovr s0 (ov a)=st a)(J:α→Prop)(μ:α→Nat)(a:α)(h0:zFf s0 (st a))(hJ:J a)
    (h:∀ a,J a→c.wp Ctr (zMl (fun s''=>∃ b,μ b<μ a∧J b∧zFf (clr mask s'') (st b)) Q) (st a)):(VCode.loop mask c).wp Ctr Q s :=
  zT8 st J μ a (hs▸h0) hJ h
theorem zCz {a b:D}{xs ys:List D}:zFf (a::xs) (b::ys)=(nle a b∧zFf xs ys) :=
  propext ⟨fun h=>by simp only [zFf] at h;obtain ⟨e,es,h1,h2,h3⟩:=h;simp only [xE6] at h1;obtain ⟨rfl,rfl⟩:=h1;exact ⟨h2,h3⟩,fun h=>zBl h.1 h.2⟩
theorem zCy:zFf [] []=True:=eq_true zB1
theorem zB6 {d:D}:nle d d=True:=eq_true (zXc d)
theorem zB8 {t:Option Nat}{cs es:List D}:nle (.box t cs) (.box t es)=zFf cs es :=
  propext ⟨fun h=>by simp only [nle] at h;obtain ⟨e,h1,h2⟩:=h;simp only [D.box.injEq,true_and] at h1;exact h1▸h2,zCv⟩
theorem zB9 {cs es:List D}:nle (.agg cs) (.agg es)=zFf cs es :=
  propext ⟨fun h=>by simp only [nle] at h;obtain ⟨e,h1,h2⟩:=h;simp only [D.agg.injEq] at h1;exact h1▸h2,zCw⟩
theorem zB7 {sz:Nat}:nle .nils (.sl true sz [])=True:=eq_true zCu
section
variable {P:Program} {G:World→(Nat→Prop)→Prop} {s:List D} {K:D→List D→Prop}
theorem zQc {f:FuncId}{args:List Operand}{A args':List D}{d:D}(hC:Contract P G f args' d)(hA:(args.map fun x=>deep s 8 (raw s x))=A)(he:leL A args')(hi:d.noImm=true∨((args.map fun x=>raw s x).all D.noRef)=true)(hK:K d s):zAn (CT P G) s (.callX f args) K :=
  zX1 hC (hA▸he) hi hK
theorem zJe {f:FuncId}{args:List Operand}{A args':List D}{d:D}(hC:Contract P G f args' d)(hA:(args.map fun x=>deep s 8 (raw s x))=A)(he:leL A args')(hi:d.noImm=true∨((args.map fun x=>raw s x).all D.noRef)=true)(hK:K d s):zAn (CT P G) s (.call f args) K :=
  yNl hC (hA▸he) hi hK
end
section
variable {Ctr:CtrT} {m:List Bool} {next:List D→Prop} {Q:VExit→List D→Prop} {s:List D}
theorem yQy:zMv m next Q .normal s=∃ s1,zFf (clr m s) s1∧next s1:=rfl
theorem yQx:zMv m next Q .ret s=Q .ret (clr m s):=rfl
theorem yQz {i}:zMv m next Q (.exit i) s=Q (.exit i) (clr m s):=rfl
theorem zW6 {ds:List D}:zD8 s [] ds=s:=by cases ds<;>rfl
theorem zVl {p ps d ds}:zD8 s (p::ps) (d::ds)=zD8 (zMz s p d) ps ds:=rfl
theorem yKm {g:Operand}{ps:List Nat}{va vb:VCode}{F:FuncId}{caps:List D}(hg:lk s g=.fn F [] caps){N:Nat}(xs:Nat→List D)(hi:Ctr.i F (zAh (fun _=>false) caps) ((List.range N).map xs))(hl:∀ i,i<N→(xs i).length=ps.length)(st:Nat→List D)(h0:zFf (clr m s) (st 0))
    (hr:∀ i,i<N→va.wp Ctr (zMl (vb.wp Ctr (zMv m (fun s1=>s1=st (i+1)) Q)) (fun _ _=>False)) (zD8 (st i) ps (xs i))) (hd:Q .normal (st N)):(VCode.rangeF g ps m va vb).wp Ctr Q s:=by
  simp only [VCode.wp,hg];refine .inl ⟨(List.range N).map xs,hi,fun x hx=>?_,fun i s'=>s'=st i,⟨_,h0,rfl⟩,fun i s' x hs hx=>?_,fun s' hs=>?_⟩
  · obtain ⟨i,hi,rfl⟩:=xEg.1 hx;exact hl i (by simpa using hi)
  · subst hs;have hlt:i<N:=by have:=(xDq.1 hx).1;simpa using this
    have:x=xs i:=(by rw [xDm,xH1 hlt] at hx;simpa using hx.symm);rw [this];exact hr i hlt
  · subst hs;simpa using hd
theorem zYq {P:Program}{G:World→(Nat→Prop)→Prop}{g:Operand}{ps:List Nat}{va vb:VCode}{F:FuncId}{caps caps':List D}(hg:lk s g=.fn F [] caps)(hc:zAh (fun _=>false) caps=caps'){N:Nat}(xs:Nat→List D)(hi:yH9 P G F caps' ((List.range N).map xs))(hl:∀ i,i<N→(xs i).length=ps.length){s0:List D}(hs:clr m s=s0)(ov:Nat→List (Nat×D)){st:Nat→List D}(hst:∀ i,ovr s0 (ov i)=st i)(h0:zFf s0 (st 0))
    (hr:∀ i,i<N→va.wp (CT P G) (zMl (vb.wp (CT P G) (zMv m (fun s1=>s1=st (i+1)) Q)) (fun _ _=>False)) (zD8 (st i) ps (xs i))) (hd:Q .normal (st N)):(VCode.rangeF g ps m va vb).wp (CT P G) Q s :=
  yKm (Ctr:=CT P G) hg xs (hc▸hi) hl st (hs▸h0) hr hd
end
attribute [go_sem] yQy yQx yQz zW6 zVl
end Go.V
