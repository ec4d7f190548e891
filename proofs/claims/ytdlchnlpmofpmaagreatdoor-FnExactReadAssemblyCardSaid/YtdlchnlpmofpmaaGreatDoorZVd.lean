/- Laws that the proof stands on. -/
import Derived.Test.YtdlchnlpmofpmaaGreatDoorZVc
set_option linter.all false
namespace Go.V
open Go.RowKit
/-! ### Regions that draw, order by order: what hangs on no memory goes first -/
def zYm:Op→VOp→Bool
  | .move _,.mv _=>true
  | .fieldAddr _ _ _,.fa _ _=>true
  | .indexAddr _ _ _,.ia _ _ _=>true
  | .call _,.len _=>true
  | .binOp _ _ _ _ _,.bin _ _ _=>true
  | _,_=>false
section
variable (P:Program)
def yOs (ops:Array Oper)(oi:Oper)(i:Nat):Bool:=(List.range ops.size).all fun j=>j==i||match ops[j]? with
  | some oj=>oj.after.any (fun e=>Region.binds .any e&&e.on==i)||oi.after.any (fun e=>Region.binds .any e&&e.on==j)||oi.apart ops oj
  | none=>true
def yVo (ops:Array Oper)(i:Nat):Bool:=match ops[i]? with
  | some o=>o.guard.isNone&&(match cOp P false o.op with | some v=>zYm o.op v | none=>false)&&yOs ops o i
  | none=>false
def yTe (ops:Array Oper)(nh:Nat):List Nat:=(List.range nh).filter (yVo P ops)
def yDc (ops:Array Oper) (M:List Nat) (nh:Nat):Nat→Nat→Array Bool→Option (VT×Nat)
  | fuel,bud,listed =>
    if (bud==0)=true then none else
    if (decide (fuel=ops.size-nh)&&listed==zBi ops.size nh&&Region.seqB .any ops (ops.size-nh) nh listed)=true then some (.done,bud-1) else
    match fuel with
    | 0=>none
    | f+1=>match (Region.ready .any ops listed).find? (fun i=>M.contains i) with
      | some i=>yVk P (fun i b=>yDc ops M nh f b (listed.setIfInBounds i true)) ops i (bud-1)
      | none=>if ((Region.ready .any ops listed).isEmpty||!(Region.ready .any ops listed).all (fun i=>decide (i<nh)))=true then none else yIp P (fun i b=>yDc ops M nh f b (listed.setIfInBounds i true)) ops (Region.ready .any ops listed) (bud-1)
def zUt (ops:Array Oper) (nh:Nat):Option VCode :=
  if (P.follows .mixedOrders&&Region.noSelect ops&&decide (nh≤ops.size))=true then
    match yDc P ops (yTe P ops nh) nh ops.size 1200 (Array.replicate ops.size false),zQl P ops (ops.toList.drop nh) with
    | some (t,_),some tail=>some (.drawT t tail)
    | _,_=>none
  else none
end
section
variable {P:Program} {G:World→(Nat→Prop)→Prop} {w0:Base} {I0:Nat→Prop}
theorem zYn {ops:Array Oper} {i:Nat} {oi:Oper} {listed:Array Bool} (hi:ops[i]?=some oi) (h:yOs ops oi i=true) (hr:i∈Region.ready .any ops listed):Region.free .any ops listed i=true:=by
  obtain ⟨_,o',ho',hed⟩:=mem_ready.1 hr;rw [hi] at ho';cases ho';unfold Region.free;rw [hi];simp only;unfold yOs at h;rw [List.all_eq_true] at h ⊢;intro j hj;have h1:=h j hj;cases ho:ops[j]? with
  | none=>simp
  | some oj =>
    rw [ho] at h1;simp only at h1;rcases Bool.or_eq_true_iff.1 h1 with h2 | h2
    · rw [h2];rfl
    · rcases Bool.or_eq_true_iff.1 h2 with h3 | h3
      · rcases Bool.or_eq_true_iff.1 h3 with h4 | h4
        · simp only [h4,Bool.true_or,Bool.or_true]
        · obtain ⟨e,he,hb⟩:=Array.any_eq_true'.1 h4;simp only [Bool.and_eq_true,beq_iff_eq] at hb;have h5:=hed e he hb.1;rw [hb.2] at h5;have h6:listed.getD j true=true:=by
            rcases Nat.lt_or_ge j listed.size with h' | h'
            · simp [h'] at h5 ⊢;exact h5
            · simp [Array.getElem?_eq_none h']
          simp only [h6,Bool.or_true,Bool.true_or]
      · simp only [h3,Bool.or_true]
def zZb (P:Program)(m:Sem Next):Prop:=∃ v,∀ w,m.run P w=.ok (.value v) w
variable {Ctr:CtrT} {s:List D} {a:Act} {w:World} {I:Nat→Prop} {Fs:Nat→List Nat} {K:D→List D→Prop}
theorem yE6 (h:RelI w0 I0 s a.tmps w I Fs){off n:Nat}{x:Operand}{st:TypeId}{f:Nat}{fs:Array Field}{fd:Field}{o:Oper}(ho:o.op=.fieldAddr st x f)(hs:P.underlying st=some (.struct fs))(hf:fs[f]?=some fd)(hn:(P.info? fd.type).map (·.size)=some (n+1))(hk:zAl Ctr s (.fa off x) K):zZb P (execOp a.eval o):=by
  have hx:=zCc h x;simp only [zAl] at hk;split at hk
  · rename_i r q i j e;rw [e] at hx;simp only [T] at hx;obtain ⟨⟨d,u0,t,sz,rows,u1,b,oo,h1,h2,h3,h4,h5,h6,h7⟩,_⟩:=hx;exact ⟨.pointer (some ⟨b,oo+i*sz+j+fd.offset,none⟩),fun w'=>by simp [execOp,ho,h7,Instr.fieldAt,run_underlying hs,hf,Instr.sureAddr,zDh hn]⟩
  · rename_i c j e;rw [e] at hx;simp only [T] at hx;obtain ⟨_,b,oo,raw,e',hI,hr,hc⟩:=hx;exact ⟨.pointer (some ⟨b,oo+j+fd.offset,none⟩),fun w'=>by simp [execOp,ho,e',Instr.fieldAt,run_underlying hs,hf,Instr.sureAddr,zDh hn]⟩
  · exact hk.elim
theorem yE5 (h:RelI w0 I0 s a.tmps w I Fs) {sz:Nat} {x i:Operand} {xt et:TypeId} {o:Oper} (ho:o.op=.indexAddr xt x i) (hx:P.underlying xt=some (.slice et)) (hsz:(P.info? et).map (·.size)=some sz) (hk:zAl Ctr s (.ia sz x i) K):zZb P (execOp a.eval o):=by
  have hX:=zCc h x;have hI:=zCc h i;have hrun:∀ (k:IntKind) (n:Int) (b oo l c:Nat),a.eval i=.int k n→a.eval x=.slice (some ⟨b,oo,none⟩) l c→0≤n→n<l→zZb P (execOp a.eval o):=by
    intro k n b oo l c e1 e2 h1 h2;cases hq:P.info? et with
    | none=>simp [hq] at hsz
    | some ii=>simp [hq] at hsz;exact ⟨.pointer (some ⟨b,oo+n.toNat*sz,none⟩),fun w'=>by simp [execOp,ho,e1,e2,Instr.indexAt,asIntOf,run_underlying hx,h1,h2,sizeOf,typeInfo,hq,hsz,Addr.add_mid]⟩
  simp only [zAl] at hk;split at hk
  · rename_i k n r q e1 e2;rw [e1] at hI;rw [e2] at hX;split at hk
    · rename_i sz' rows e3;obtain ⟨h1,h2,rfl,hK⟩:=hk;obtain ⟨F',ρ',k2,_⟩:=zFh h hX e3;have hlt:n.toNat<rows.length:=by omega
      obtain ⟨b,oo,us,F2,ρ2,hb,_⟩:=yA2 k2 (by rfl) (List.getElem?_eq_getElem hlt);obtain ⟨ad,c,e4,_,_⟩:=zDt k2;rw [e4] at hb;have:ad=some ⟨b,oo,none⟩:=by
        cases ad with
        | none=>simp [zA0] at hb
        | some z=>obtain ⟨z1,z2,z3⟩:=z;cases z3<;>simp [zA0] at hb;simp [hb]
      subst this;exact hrun k n b oo _ c (T_v hI).1 e4 h1 h2
    · exact hk.elim
  · rename_i k n sz' rows e1 e2;rw [e1] at hI;rw [e2] at hX;obtain ⟨h1,h2,rfl,row,hrow,hK⟩:=hk;simp only [T] at hX;obtain ⟨ad,c,e4,_,_,h3⟩:=hX;rcases h3 with ⟨_,_,h3⟩ | ⟨h3,_⟩
    · rcases h3 with h3 | ⟨b,oo,raw,rfl,hIb,hr,hR⟩
      · subst h3;simp at hrow
      · exact hrun k n b oo _ c (T_v hI).1 e4 h1 h2
    · simp at h3
  · exact hk.elim
theorem zZ2 (h:RelI w0 I0 s a.tmps w I Fs){x:Operand}{xt e:TypeId}{args:Array TypeId}{o:Oper}(ho:o.op=.call { callee:=.builtin .len,args:=#[x],argTypes:=args })(ha:args[0]?=some xt)(hx:P.underlying xt=some (.slice e))(hk:zAl Ctr s (.len x) K):zZb P (execOp a.eval o):=by
  have hX:=zCc h x;simp only [zAl] at hk;split at hk
  · rename_i sz rows e1;obtain ⟨b,c,e2,_⟩:=yAd h hX e1;exact ⟨.int .i64 rows.length,fun w'=>by simp [execOp,ho,resolve,invoke,builtin,Builtin.len_,ha,e2,run_underlying hx,goInt]⟩
  · exact hk.elim
theorem zZ3 (h:RelI w0 I0 s a.tmps w I Fs){op:BinOp}{x y:Operand}{xt yt:TypeId}{o:Oper}(ho:o.op=.binOp op xt x y yt)(hk:zAl Ctr s (.bin op x y) K):zZb P (execOp a.eval o):=by
  have hx:=zCc h x;have hy:=zCc h y;simp only [zAl] at hk;split at hk
  · rename_i k b1 k' b2 e1 e2;rw [e1] at hx;rw [e2] at hy;obtain ⟨v,hv,hr⟩:=zVx (P:=P) hk xt;refine ⟨v,fun w'=>?_⟩;have hg:(eqGuard op xt x y (.int k b1) (.int k' b2)).run P w'=.ok () w':=by unfold eqGuard;split<;>rfl
    simp only [execOp,ho,(T_v hx).1,(T_v hy).1,Sem.run_bind,hg,Result.andThen_ok,hr];rfl
  · rename_i b1 b2 e1 e2;rw [e1] at hx;rw [e2] at hy;obtain ⟨v,hv,hr⟩:=zU6 (P:=P) hk xt;refine ⟨v,fun w'=>?_⟩;have hg:(eqGuard op xt x y (.string b1) (.string b2)).run P w'=.ok () w':=by unfold eqGuard;split<;>rfl
    simp only [execOp,ho,(T_v hx).1,(T_v hy).1,Sem.run_bind,hg,Result.andThen_ok,hr];rfl
  · exact hk.elim
theorem yE4 (h:RelI w0 I0 s a.tmps w I Fs) {o:Oper} {v:VOp} (hf:zYm o.op v=true) (hc:cOp P false o.op=some v) (hk:zAl Ctr s v K):zZb P (execOp a.eval o):=by
  cases hop:o.op with
  | move x=>exact ⟨a.eval x,fun w'=>by simp only [execOp,hop];rfl⟩
  | fieldAddr st x f =>
    rw [hop] at hc;simp only [cOp] at hc;split at hc
    · rename_i fs hs;split at hc
      · rename_i fd hfd;split at hc
        · rename_i i hi;split at hc
          · rename_i hpos;simp only [Option.some.injEq] at hc;subst hc;exact yE6 (n:=i.size-1) h hop hs hfd (by rw [hi];simp;omega) hk
          · cases hc
        · cases hc
      · cases hc
    · cases hc
  | indexAddr t x i =>
    rw [hop] at hc hf;simp only [cOp] at hc;split at hc
    · rename_i e hs;split at hc
      · rename_i ie hi;simp only [Option.some.injEq] at hc;subst hc;exact yE5 h hop hs (by rw [hi];rfl) hk
      · cases hc
    · split at hc
      · simp only [Option.some.injEq] at hc;subst hc;simp [zYm] at hf
      · cases hc
    · cases hc
  | binOp op xt x y yt =>
    rw [hop] at hc hf;have:∀ op2 x2 y2,v=.bin op2 x2 y2→op2=op∧x2=x∧y2=y:=by
      rintro op2 x2 y2 rfl;simp only [cOp] at hc
      repeat' split at hc
      all_goals simp_all
    cases v<;>simp only [zYm,Bool.false_eq_true] at hf;obtain ⟨rfl,rfl,rfl⟩:=this _ _ _ rfl;exact zZ3 h hop hk
  | call c =>
    rw [hop] at hc hf;obtain ⟨callee,args,ats⟩:=c;cases v<;>simp only [zYm,Bool.false_eq_true] at hf;rename_i x;simp only [cOp] at hc;split at hc
    · simp at hc
    · simp at hc
    · split at hc
      · rename_i y t ha ht;split at hc
        · simp at hc
        · rename_i e hu;simp only [Option.some.injEq,VOp.len.injEq] at hc;subst hc;rw [yVr ha] at hop;exact zZ2 h hop ht hu hk
        · simp at hc
        · cases hc
      · cases hc
    all_goals exfalso;revert hc;repeat' split
    all_goals simp
  | _=>rw [hop] at hf;simp [zYm] at hf
inductive OKF (P:Program) (ops:Array Oper) (nh:Nat):VT→Nat→Array Bool→List Nat→Prop
  | done {fuel listed rdy}:fuel=ops.size-nh→listed=zBi ops.size nh→Region.seqB .any ops (ops.size-nh) nh listed=true→OKF P ops nh .done fuel listed rdy
  | nil {fuel listed}:OKF P ops nh .nil fuel listed []
  | h {i o op sub f listed rdy}:ops[i]?=some op→cVO P false ops op=some o→yVo P ops i=true→i∈Region.ready .any ops listed→OKF P ops nh sub f (listed.setIfInBounds i true) (Region.ready .any ops (listed.setIfInBounds i true))→(sub=.nil→False)→OKF P ops nh (.h i o sub) (f+1) listed rdy
  | br {i o op sub rest f listed is}:ops[i]?=some op→cVO P false ops op=some o→OKF P ops nh sub f (listed.setIfInBounds i true) (Region.ready .any ops (listed.setIfInBounds i true))→(sub=.nil→False)→OKF P ops nh rest (f+1) listed is→(rest=.done→False)→(∀ a b c,rest=.h a b c→False)→OKF P ops nh (.br i o sub rest) (f+1) listed (i::is)
theorem zO2 {ops:Array Oper} {nh f:Nat} {listed:Array Bool} {g:Nat→Nat→Option (VT×Nat)} (hg:∀ i b t b',g i b=some (t,b')→OKF P ops nh t f (listed.setIfInBounds i true) (Region.ready .any ops (listed.setIfInBounds i true))∧(t=.nil→False)):∀ (is:List Nat) {bud:Nat} {t:VT} {b':Nat},yIp P g ops is bud=some (t,b')→OKF P ops nh t (f+1) listed is∧(t=.done→False)∧(∀ a b c,t=.h a b c→False)∧(t=.nil→is=[])
  | [],bud,t,b',h=>by simp only [yIp,Option.some.injEq,Prod.mk.injEq] at h;obtain ⟨rfl,_⟩:=h;exact ⟨.nil,(fun h=>by cases h),(fun _ _ _ h=>by cases h),fun _=>rfl⟩
  | i :: is,bud,t,b',h=>by
    simp only [yIp] at h;split at h
    · rename_i op hop;split at h
      · rename_i o ho;split at h
        · rename_i sub b1 hs;split at h
          · rename_i rest b2 hr;simp only [Option.some.injEq,Prod.mk.injEq] at h;obtain ⟨rfl,_⟩:=h;obtain ⟨h1,h2⟩:=hg _ _ _ _ hs;obtain ⟨h3,h4,h5,_⟩:=zO2 hg is hr;exact ⟨.br hop ho h1 h2 h3 h4 h5,(fun h=>by cases h),(fun _ _ _ h=>by cases h),(fun h=>by cases h)⟩
          · cases h
        · cases h
      · cases h
    · cases h
theorem zJ9 {ops:Array Oper} {M:List Nat} (hM:∀ i,i∈M→yVo P ops i=true) {nh:Nat}:∀ (fuel:Nat) {bud:Nat} {listed:Array Bool} {t:VT} {b':Nat},yDc P ops M nh fuel bud listed=some (t,b')→OKF P ops nh t fuel listed (Region.ready .any ops listed)∧(t=.nil→False)
  | fuel, bud,listed,t,b',h=>by
    unfold yDc at h;split at h
    · cases h
    · split at h
      · rename_i hd;simp only [Bool.and_eq_true,decide_eq_true_eq,beq_iff_eq] at hd;simp only [Option.some.injEq,Prod.mk.injEq] at h;obtain ⟨rfl,_⟩:=h;exact ⟨.done hd.1.1 hd.1.2 hd.2,(fun h=>by cases h)⟩
      · cases fuel with
        | zero=>cases h
        | succ f =>
          simp only at h;split at h
          · rename_i i hf;have hmem:=List.mem_of_find?_eq_some hf;have hp:=List.find?_some hf;unfold yVk at h;split at h
            · rename_i op hop;split at h
              · rename_i o ho;split at h
                · rename_i sub b1 hs;simp only [Option.some.injEq,Prod.mk.injEq] at h;obtain ⟨rfl,_⟩:=h;obtain ⟨h1,h2⟩:=zJ9 hM f hs;exact ⟨.h hop ho (hM i (by simpa using hp)) hmem h1 h2,(fun h=>by cases h)⟩
                · cases h
              · cases h
            · cases h
          · split at h
            · cases h
            · rename_i hne;simp only [Bool.or_eq_true,Bool.not_eq_true',not_or] at hne;obtain ⟨h1,h2,_,h3⟩:=zO2 (nh:=nh) (f:=f) (listed:=listed) (fun i b t b' hgt=>zJ9 hM f hgt) _ h;refine ⟨h1,fun h=>?_⟩;rw [h3 h] at hne;exact hne.1 rfl
theorem yAh (hcl:∀ w',w0.Below w'→GI G w' I0) {ops:Array Oper} {nh:Nat} {Q:Exit→Act→World→Prop} (hQn:NoX Q) {KT:List D→Prop} (hs:Region.noSelect ops=true) (hT:∀ s a w,KT s→Rel w0 I0 s a w→wpList P ops Q (ops.toList.drop nh) a w) {t:VT} {fuel:Nat} {VL:Array Bool} {rdy:List Nat} (ok:OKF P ops nh t fuel VL rdy) :
    ((t=.done∨∃ i o sub,t=.h i o sub)→∀ (s:List D) (a:Act) (w:World),t.wp (CT P G) KT s→Rel w0 I0 s a w→wpAny P .any ops Q fuel VL a w) ∧
    ((t=.nil∨∃ i o sub rest,t=.br i o sub rest)→∀ (s:List D) (a:Act) (w:World),t.wp (CT P G) KT s→Rel w0 I0 s a w→∀ i∈rdy,wpOp P ops Q i (wpAny P .any ops Q (fuel-1) (VL.setIfInBounds i true)) a w):=by
  have up:∀ {t:VT} {f:Nat} {VL:Array Bool},OKF P ops nh t f VL (Region.ready .any ops VL)→(t=.nil→False) →
      (((t=.done∨∃ i o sub,t=.h i o sub)→∀ (s:List D) (a:Act) (w:World),t.wp (CT P G) KT s→Rel w0 I0 s a w→wpAny P .any ops Q f VL a w) ∧
      ((t=.nil∨∃ i o sub rest,t=.br i o sub rest)→∀ (s:List D) (a:Act) (w:World),t.wp (CT P G) KT s→Rel w0 I0 s a w→∀ i∈Region.ready .any ops VL,wpOp P ops Q i (wpAny P .any ops Q (f-1) (VL.setIfInBounds i true)) a w)) →
      ∀ (s:List D) (a:Act) (w:World),t.wp (CT P G) KT s→Rel w0 I0 s a w→wpAny P .any ops Q f VL a w:=by
    intro t f VL ok hnn ih s a w hk hR;cases t with
    | done=>exact ih.1 (.inl rfl) s a w hk hR
    | nil=>exact (hnn rfl).elim
    | h i o sub=>exact ih.1 (.inr ⟨_,_,_,rfl⟩) s a w hk hR
    | br i o sub rest =>
      obtain ⟨f2,is,rfl,hrr⟩:∃ f2 is,f=f2+1∧Region.ready .any ops VL=i::is:=by
        generalize Region.ready .any ops VL=rr at ok;cases ok with
        | br=>exact ⟨_,_,rfl,rfl⟩
      have:=ih.2 (.inr ⟨_,_,_,_,rfl⟩) s a w hk hR;exact ⟨fun h0=>(by rw [hrr] at h0;cases h0),this⟩
  induction ok with
  | @done fuel listed rdy h1 h2 h3 =>
    subst h1;subst h2;refine ⟨fun _ s a w hk hR=>?_,(fun h=>by rcases h with h | ⟨_,_,_,_,h⟩<;>cases h)⟩;have hl:(ops.toList.drop nh).length=ops.size-nh:=by simp
    have:=wpAny_of_seq (P:=P) (md:=.any) (ops:=ops) (Q':=Q) (ops.toList.drop nh) nh (zBi ops.size nh) a w (fun j=>by simp [List.getElem?_drop]) (by rw [hl];exact h3) (hT s a w hk hR);rw [hl] at this;exact this
  | nil=>exact ⟨(fun h=>by rcases h with h | ⟨_,_,_,h⟩<;>cases h),(fun _ _ _ _ _ _ i hi=>by cases hi)⟩
  | @h i o op sub f listed rdy hop ho hfr hrd hsub hsn ih =>
    refine ⟨fun _ s a w hk hR=>?_,(fun h=>by rcases h with h | ⟨_,_,_,_,h⟩<;>cases h)⟩;simp only [VT.wp] at hk;unfold yVo at hfr;rw [hop] at hfr;simp only [Bool.and_eq_true] at hfr;obtain ⟨⟨hg,hfv⟩,hfree⟩:=hfr;have hg:op.guard=none:=by simpa using hg
    obtain ⟨hd,I,Fs,hRI⟩:=hR;have hGw:GI G w I0:=hcl _ hRI.below;have hv:=ho;simp only [cVO,hg,zD0] at hv;cases hcop:cOp P false op.op with
    | none=>simp [hcop] at hv
    | some vop =>
    simp only [hcop,Option.some.injEq] at hv;rw [hcop] at hfv;subst hv;simp only [zRd] at hk;obtain ⟨u,hu⟩:=yE4 hRI hfv hcop hk;have hrun:=zMa (nn:=false) hGw hRI (fun h=>by cases h) hcop hk;unfold RunsTo at hrun;rw [hu] at hrun;obtain ⟨d,s',I',Fs',F,hK,hR',hT',hF,_⟩:=hrun;have hR2:Rel w0 I0 (match op.dst with | some t=>zId s' t d | none=>s') (a.put op.dst u) w:=zHh hd hR' hT' hF;have hwant:∀ y,Region.wanted op y=true:=fun y=>by unfold Region.wanted;rw [hg]
    exact wpAny_take hop hs (zYn hop hfree hrd) (by simpa using hrd) (fun c a w h=>by have:=hQn _ _ _ h;cases this) (.inl ⟨hwant _,hu⟩) (up hsub hsn ih _ _ w hK hR2)
  | @br i o op sub rest f listed is hop ho hsub hsn hrest hrd hrh ih1 ih2 =>
    refine ⟨(fun h=>by rcases h with h | ⟨_,_,_,h⟩<;>cases h),fun _ s a w hk hR j hj=>?_⟩;simp only [VT.wp] at hk;by_cases hji:j=i
    · subst hji;exact zU9 hcl hop ho hk.1 rfl rfl (fun s' u w' hk' hR'=>up hsub hsn ih1 s' _ w' hk' hR') hR
    · have hj':j∈is:=by
        rcases List.mem_cons.1 hj with h | h
        · exact absurd h hji
        · exact h
      cases rest with
      | done=>exact (hrd rfl).elim
      | nil=>cases hrest;cases hj'
      | h i2 o2 s2=>exact (hrh _ _ _ rfl).elim
      | br i2 o2 s2 r2=>exact ih2.2 (.inr ⟨_,_,_,_,rfl⟩) s a w hk.2 hR j hj'
theorem zW5 (hcl:∀ w',w0.Below w'→GI G w' I0) {ops:Array Oper} {nh:Nat} {vc:VCode} (hc:zUt P ops nh=some vc) {VQ:VExit→List D→Prop} {Q:Exit→Act→World→Prop} (hQn:NoX Q) {s:List D} (hk:vc.wp (CT P G) VQ s) (hQ:∀ s a w,VQ .normal s→Rel w0 I0 s a w→Q .normal a w) {a:Act} {w:World} (h:Rel w0 I0 s a w):RegAny P ops Q a w:=by
  unfold zUt at hc;split at hc
  · rename_i hm;simp only [Bool.and_eq_true] at hm;split at hc
    · rename_i t b tail hg ht;simp only [Option.some.injEq] at hc;subst hc;simp only [VCode.wp] at hk;obtain ⟨ok,hnn⟩:=zJ9 (fun i hi=>by unfold yTe at hi;exact (List.mem_filter.1 hi).2) _ hg;obtain ⟨hd,I,Fs,hR⟩:=h;have hR':Rel w0 I0 s a { w with drawn:=w.drawn+1 }:=⟨hd,I,Fs,hR.world (w':={ w with drawn:=w.drawn+1 }) ((Below.refl _ w).drew)⟩
      have hT:∀ s a w,zJe (CT P G) s tail (VQ .normal)→Rel w0 I0 s a w→wpList P ops Q (ops.toList.drop nh) a w:=fun s a w hk h=>zF4 hcl ops (KK:=VQ .normal) hQ _ tail s a w ht hk h;have:=yAh (nh:=nh) (Q:=Q) hcl hQn hm.1.2 (KT:=fun s'=>zJe (CT P G) s' tail (VQ .normal)) hT ok;refine ⟨hm.1.1,?_⟩;cases t with
      | done=>exact this.1 (.inl rfl) s a _ hk hR'
      | nil=>exact (hnn rfl).elim
      | h i o sub=>exact this.1 (.inr ⟨_,_,_,rfl⟩) s a _ hk hR'
      | br i o sub rest =>
        obtain ⟨f2,is,hf,hrr⟩:∃ f2 is,ops.size=f2+1∧Region.ready .any ops (Array.replicate ops.size false)=i::is:=by
          generalize Region.ready .any ops (Array.replicate ops.size false)=rr at ok;generalize Array.replicate ops.size false=ll at ok;generalize ops.size=nn at ok;cases ok with
          | br=>exact ⟨_,_,rfl,rfl⟩
        have h2:=this.2 (.inr ⟨_,_,_,_,rfl⟩) s a _ hk hR';rw [hf] at h2 ⊢;refine ⟨fun h0=>?_,?_⟩
        · rw [← hf,hrr] at h0;cases h0
        · exact h2
    · cases hc
  · cases hc
end
end Go.V
namespace Go.V
open Go.RowKit
def tmpsOf:List Operand→List Nat
  | []=>[]
  | .tmp t::l=>t::tmpsOf l
  | _::l=>tmpsOf l
def VOp.eats:VOp→List Nat
  | .asg x=>tmpsOf [x]
  | .box x=>tmpsOf [x]
  | .build _ ps=>tmpsOf (ps.map (·.2.2))
  | .bslN _ ps=>tmpsOf ps
  | .appN _ _ x y=>tmpsOf [x,y]
  | .app _ _ x y=>tmpsOf [x,y]
  | _=>[]
def yRb (l:List Nat):Nat:=l.foldl (fun m t=>max m (t+1)) 0
def zDq (l:List Nat):List Bool:=(List.range (yRb l)).map fun i=>l.contains i
def yOg (ops:Array Oper) (o:Oper):Bool :=
  match o.op with
  | .call c=>match c.callee with
    | .builtin .append=>match c.args.toList with
      | .tmp t::_=>ops.toList.any fun p=>p.dst==some t&&(match p.op with | .load _ _=>true | .move _=>true | _=>false)
      | _=>false
    | _=>false
  | _=>false
section
variable (P:Program)
def zQn (ops:Array Oper) (w:Option Nat):List Nat→Option (List (Nat×VO))
  | []=>some []
  | i :: is=>match ops[i]? with
    | some o=>match cVO P (w != some i) ops o,zQn ops w is with
      | some v,some vs=>some ((i,v)::vs)
      | _,_=>none
    | none=>none
end
def dstsOf (vos:List (Nat×VO)):List Nat:=vos.filterMap fun v=>v.2.dst
def ySp (bs:List Nat)(start:List Bool)(vos:List (Nat×VO))(v:Nat×VO):DOp where
  idx:=v.1
  hid:=(List.range start.length).map fun r=>start.getD r false&&!(vos.any (fun e=>e.2.dst==some r&&(bs.getD v.1 0).testBit e.1)&&vos.all (fun j=>j.1==v.1||(bs.getD j.1 0).testBit v.1||!(j.2.op.eats.contains r)))
  cl:=zDq (v.2.op.eats.filter fun t=>vos.any fun e=>e.2.dst==some t&&(bs.getD v.1 0).testBit e.1)
  vo:=v.2
def yOK (o:DOp):Bool:=match o.vo.op with
  | .app _ _ _ (.tmp t)=>o.cl.getD t false
  | _=>true
section
variable (P:Program)
def yDx (ops:Array Oper) (bs:List Nat) (nh n1:Nat) (start:List Bool) (H:List DOp) (tail:List VO):Option VCode :=
  if (P.follows .mixedOrders&&drawB ops H start nh)=true then
    match H.drop n1 with
    | []=>if H.all (fun o=>o.vo.op.framed)=true then some (.draw start (zLe H) H tail) else none
    | o::l2=>if ((H.take n1).all (fun o=>o.vo.op.framed)&&l2.all (fun o=>o.vo.op.framed)&&(H.take n1).all (fun k=>(bs.getD o.idx 0).testBit k.idx)&&o.vo.guard.isNone&&yOK o)=true then some (.drawW start (zLe H) (H.take n1) o l2 tail) else none
  else none
def zSy (ops:Array Oper) (bs:List Nat) (nh n1:Nat):Option (List (Nat×VO))→Option VCode
  | some vos=>match zQl P ops (ops.toList.drop nh) with
    | some tail=>yDx P ops bs nh n1 (zDq (dstsOf vos)) (vos.map (ySp bs (zDq (dstsOf vos)) vos)) tail
    | none=>none
  | none=>none
def yUr (ops:Array Oper)(bs:List Nat)(nh:Nat):Option Nat→Option VCode
  | none=>zSy P ops bs nh nh (zQn P ops none (List.range nh))
  | some w=>zSy P ops bs nh ((List.range nh).filter fun i=>(bs.getD w 0).testBit i).length (zQn P ops (some w) (((List.range nh).filter fun i=>(bs.getD w 0).testBit i)++w::(List.range nh).filter fun i=>i != w&&!(bs.getD w 0).testBit i))
def zEi (ops:Array Oper)(bs:List Nat):Nat:=((List.range (ops.size+1)).find? fun i=>(List.range ops.size).all fun t=>decide (t<i)||bs.getD t 0==2 ^ t-1).getD ops.size
def yBw (ops:Array Oper)(nh:Nat):Option Nat:=(List.range nh).find? fun i=>match ops[i]? with | some o=>yOg ops o | none=>false
def yDy (ops:Array Oper):Option VCode:=yUr P ops (zDx ops) (zEi ops (zDx ops)) (yBw ops (zEi ops (zDx ops)))
def yKg (ops:Array Oper) (nh:Nat):List Fl:=(List.range nh).filterMap fun j=>match ops[j]? with
  | some o=>match o.op with
    | .store ty (.tmp t) _=>match P.info? ty with
      | some ti=>some ⟨t,ti.size,j,(List.range nh).find? fun i=>match ops[i]? with
        | some o'=>o'.dst==some t
        | none=>false⟩
      | none=>none
    | _=>none
  | none=>none
def zPc (ops:Array Oper) (fl:List Fl):List Nat→Option (List (Nat×VO))
  | []=>some []
  | i::is=>match cVB P ops fl i,zPc ops fl is with
    | some v,some vs=>some ((i,v)::vs)
    | _,_=>none
def yKp (ops:Array Oper)(bs:List Nat)(nh:Nat)(fl:List Fl)(start:List Bool)(H:List DOp)(tail:List VO):Option VCode :=
  if (P.follows .mixedOrders&&drawB ops H start nh&&H.all (fun o=>o.vo.op.framed)&&yOu bs nh fl)=true then some (.drawB (yR9 fl) (yTf fl) start (zLe H) H tail) else none
def yKo (ops:Array Oper) (bs:List Nat) (nh:Nat) (fl:List Fl):Option (List (Nat×VO))→Option VCode
  | some vos=>match zQl P ops (ops.toList.drop nh) with
    | some tail=>yKp P ops bs nh fl (zDq (dstsOf vos)) (vos.map (ySp bs (zDq (dstsOf vos)) vos)) tail
    | none=>none
  | none=>none
def yKq (ops:Array Oper)(bs:List Nat)(nh:Nat)(fl:List Fl):Option VCode:=yKo P ops bs nh fl (zPc P ops fl (List.range nh))
def yJc (ops:Array Oper):Option VCode:=match yDy P ops with
  | some l=>some l
  | none=>match yKq P ops (zDx ops) (zEi ops (zDx ops)) (yKg P ops (zEi ops (zDx ops))) with
    | some l=>some l
    | none=>zWd P ops (zEi ops (zDx ops))
def yPw (ops:Array Oper)(M:List Nat)(nh:Nat):Option VCode:=zSy P ops (zDx ops) nh nh (zQn P ops none (M++(List.range nh).filter fun i=>!M.contains i))
def yKn (ops:Array Oper):Option VCode:=if Region.noSelect ops=true then yPw P (ahead (moves ops) ops) (moves ops) (zEi (ahead (moves ops) ops) (zDx (ahead (moves ops) ops))) else none
def zPa (pm pt:Bool)(ops:Array Oper):Option VCode:=if pm=true then (if pt=true then zUt P ops (zEi ops (zDx ops)) else yKn P ops) else if pt=true then (match zWd P ops (zEi ops (zDx ops)) with
  | some l=>some l
  | none=>yJc P ops) else yJc P ops
variable (pt:Nat)
def zCy:Code→List (List Bool)→Option (VCode×List (List Bool))
  | .skip,ms=>some (.skip,ms)
  | .region _ ops false,ms=>match zQl P ops ops.toList with
    | some l=>some (.ops l,ms)
    | none=>none
  | .region id ops true,ms=>match zPa P (pt.testBit (2*id+1)) (pt.testBit (2*id)) ops with
    | some l=>some (l,ms)
    | none=>none
  | .seq a b,ms=>match zCy a ms with
    | some (x,ms1)=>match zCy b ms1 with
      | some (y,ms2)=>some (.seq x y,ms2)
      | none=>none
    | none=>none
  | .cond c a b,ms=>match zCy a ms with
    | some (x,ms1)=>match zCy b ms1 with
      | some (y,ms2)=>some (.cond c x y,ms2)
      | none=>none
    | none=>none
  | .block id c,ms=>match zCy c ms with
    | some (x,ms1)=>some (.block id x,ms1)
    | none=>none
  | .loop c,ms=>match ms with
    | m::ms=>match zCy c ms with
      | some (x,ms1)=>some (.loop m x,ms1)
      | none=>none
    | []=>none
  | .exit id,ms=>some (.exit id,ms)
  | .ret,ms=>some (.ret,ms)
  | _,_=>none
end
section
variable {P:Program} {G:World→(Nat→Prop)→Prop} {w0:Base} {I0:Nat→Prop}
theorem zPb {ops:Array Oper} {w:Option Nat}:∀ {l:List Nat} {vos:List (Nat×VO)},zQn P ops w l=some vos→∀ v∈vos,∃ op n,ops[v.1]?=some op∧cVO P n ops op=some v.2
  | [],vos,h,v,hv=>by simp only [zQn,Option.some.injEq] at h;subst h;cases hv
  | i :: l,vos,h,v,hv=>by
    simp only [zQn] at h;split at h
    · rename_i o ho;split at h
      · rename_i v' vs h1 h2;simp only [Option.some.injEq] at h;subst h;rcases List.mem_cons.1 hv with rfl | hv
        · exact ⟨o,_,ho,h1⟩
        · exact zPb h2 v hv
      · cases h
    · cases h
theorem zW7 (hcl:∀ w',w0.Below w'→GI G w' I0) {ops:Array Oper} {nh n1:Nat} {start:List Bool} {H:List DOp} {tail:List VO} {vc:VCode} (hc:yDx P ops (zDx ops) nh n1 start H tail=some vc) (hcomp:∀ o∈H,∃ op n,ops[o.idx]?=some op∧cVO P n ops op=some o.vo) (htl:zQl P ops (ops.toList.drop nh)=some tail) {VQ:VExit→List D→Prop} {Q:Exit→Act→World→Prop} {s:List D} (hk:vc.wp (CT P G) VQ s) (hQ:∀ s a w,VQ .normal s→Rel w0 I0 s a w→Q .normal a w) {a:Act} {w:World} (h:Rel w0 I0 s a w):RegAny P ops Q a w:=by
  unfold yDx at hc;by_cases hB:(P.follows .mixedOrders&&drawB ops H start nh)=true
  · rw [if_pos hB] at hc;simp only [Bool.and_eq_true] at hB;cases hdrop:H.drop n1 with
    | nil =>
      rw [hdrop] at hc;simp only at hc;by_cases hf:H.all (fun o=>o.vo.op.framed)=true
      · rw [if_pos hf] at hc;simp only [Option.some.injEq] at hc;subst hc;exact yFn hcl hB.1 hB.2 hf hcomp htl hk hQ h
      · rw [if_neg hf] at hc;cases hc
    | cons o l2 =>
      rw [hdrop] at hc;simp only at hc;by_cases hf:((H.take n1).all (fun o=>o.vo.op.framed)&&l2.all (fun o=>o.vo.op.framed)&&(H.take n1).all (fun k=>((zDx ops).getD o.idx 0).testBit k.idx)&&o.vo.guard.isNone&&yOK o)=true
      · rw [if_pos hf] at hc;simp only [Option.some.injEq] at hc;subst hc;simp only [Bool.and_eq_true] at hf;obtain ⟨⟨⟨⟨f1,f2⟩,f3⟩,f4⟩,f5⟩:=hf;have hH:H=H.take n1++o::l2:=by rw [← hdrop,List.take_append_drop]
        refine yAm hcl hB.1 (by rw [← hH];exact hB.2) f1 f2 f3 (by simpa using f4) ?_ (by rw [← hH];exact hcomp) htl (by rw [← hH];exact hk) hQ h;intro sz bytes x y hop t ht;subst ht;unfold yOK at f5;rw [hop] at f5;exact f5
      · rw [if_neg hf] at hc;cases hc
  · rw [if_neg hB] at hc;cases hc
theorem zJj (hcl:∀ w',w0.Below w'→GI G w' I0){ops:Array Oper}{nh n1:Nat}{w:Option Nat}{l:List Nat}{vc:VCode}(hc:zSy P ops (zDx ops) nh n1 (zQn P ops w l)=some vc){VQ:VExit→List D→Prop}{Q:Exit→Act→World→Prop}{s:List D}(hk:vc.wp (CT P G) VQ s)(hQ:∀ s a w,VQ .normal s→Rel w0 I0 s a w→Q .normal a w){a:Act}{W:World}(h:Rel w0 I0 s a W):RegAny P ops Q a W:=by
  cases hv:zQn P ops w l with
  | none=>rw [hv] at hc;cases hc
  | some vos =>
    rw [hv] at hc;simp only [zSy] at hc;cases ht:zQl P ops (ops.toList.drop nh) with
    | none=>rw [ht] at hc;cases hc
    | some tail=>rw [ht] at hc;refine zW7 hcl hc (fun o ho=>?_) ht hk hQ h;obtain ⟨v,hv',rfl⟩:=List.mem_map.1 ho;exact zPb hv v hv'
theorem zW8 (hcl:∀ w',w0.Below w'→GI G w' I0){ops:Array Oper}{vc:VCode}(hc:yDy P ops=some vc){VQ:VExit→List D→Prop}{Q:Exit→Act→World→Prop}{s:List D}(hk:vc.wp (CT P G) VQ s)(hQ:∀ s a w,VQ .normal s→Rel w0 I0 s a w→Q .normal a w){a:Act}{w:World}(h:Rel w0 I0 s a w):RegAny P ops Q a w:=by
  unfold yDy at hc;cases hp:yBw ops (zEi ops (zDx ops)) with
  | none=>rw [hp] at hc;exact zJj hcl hc hk hQ h
  | some w=>rw [hp] at hc;exact zJj hcl hc hk hQ h
end
section
variable {P:Program} {G:World→(Nat→Prop)→Prop} {w0:Base} {I0:Nat→Prop}
theorem zNm {ops:Array Oper}{fl:List Fl}:∀ {l:List Nat} {vos:List (Nat×VO)},zPc P ops fl l=some vos→∀ v∈vos,cVB P ops fl v.1=some v.2
  | [],vos,h,v,hv=>by simp only [zPc,Option.some.injEq] at h;subst h;cases hv
  | i :: l,vos,h,v,hv=>by
    simp only [zPc] at h;split at h
    · rename_i v' vs h1 h2;simp only [Option.some.injEq] at h;subst h;rcases List.mem_cons.1 hv with rfl | hv
      · exact h1
      · exact zNm h2 v hv
    · cases h
theorem zRj (hcl:∀ w',w0.Below w'→GI G w' I0) {ops:Array Oper} {vc:VCode} (hc:yJc P ops=some vc) {VQ:VExit→List D→Prop} {Q:Exit→Act→World→Prop} {s:List D} (hk:vc.wp (CT P G) VQ s) (hQ:∀ s a w,VQ .normal s→Rel w0 I0 s a w→Q .normal a w) {a:Act} {w:World} (h:Rel w0 I0 s a w):RegAny P ops Q a w:=by
  unfold yJc at hc;split at hc
  · rename_i l hl;simp only [Option.some.injEq] at hc;subst hc;exact zW8 hcl hl hk hQ h
  · split at hc
    case h_2=>exact zRg hcl hc hk hQ h
    rename_i l hl;simp only [Option.some.injEq] at hc;subst hc;revert hl;unfold yKq;intro hc;revert hc;generalize yKg P ops (zEi ops (zDx ops))=fl;generalize zEi ops (zDx ops)=nh;intro hc;cases hv:zPc P ops fl (List.range nh) with
    | none=>rw [hv] at hc;cases hc
    | some vos =>
      rw [hv] at hc;simp only [yKo] at hc;split at hc
      · rename_i tail ht;unfold yKp at hc;split at hc
        · rename_i hB;simp only [Bool.and_eq_true] at hB;simp only [Option.some.injEq] at hc;subst hc;simp only [VCode.wp] at hk;refine yAn hcl hB.1.1.1 hB.1.1.2 hB.1.2 (fun o ho=>?_) hB.2 ht hk.1 hk.2 hQ h;obtain ⟨v,hv',rfl⟩:=List.mem_map.1 ho;exact zNm hv v hv'
        · cases hc
      · cases hc
theorem zOh (hcl:∀ w',w0.Below w'→GI G w' I0){pm pt:Bool}{ops:Array Oper}{vc:VCode}(hc:zPa P pm pt ops=some vc){VQ:VExit→List D→Prop}{Q:Exit→Act→World→Prop}(hQn:NoX Q){s:List D}(hk:vc.wp (CT P G) VQ s)(hQ:∀ s a w,VQ .normal s→Rel w0 I0 s a w→Q .normal a w){a:Act}{w:World}(h:Rel w0 I0 s a w):RegAny P ops Q a w:=by
  unfold zPa at hc;split at hc
  · split at hc
    · exact zW5 hcl hc hQn hk hQ h
    · unfold yKn at hc;split at hc
      · rename_i hs;exact yBa hs hQn (zJj hcl hc hk hQ h)
      · cases hc
  split at hc
  · split at hc
    · rename_i l hl;simp only [Option.some.injEq] at hc;subst hc;exact zRg hcl hl hk hQ h
    · exact zRj hcl hc hk hQ h
  · exact zRj hcl hc hk hQ h
theorem zFg {pt:Nat} (hcl:∀ w',w0.Below w'→GI G w' I0):∀ (c:Code) (ms ms':List (List Bool)) (vc:VCode) (VQ:VExit→List D→Prop) (Q:Exit→Act→World→Prop) (s:List D) (a:Act) (w:World),
    zCy P pt c ms=some (vc,ms')→vc.wp (CT P G) VQ s→Rel w0 I0 s a w→(∀ e s a w,VQ e s→Rel w0 I0 s a w→Q e.to a w)→c.wp P Q a w
  | .skip,ms,ms',vc,VQ,Q,s,a,w,hc,hk,h,hQ=>by simp only [zCy,Option.some.injEq,Prod.mk.injEq] at hc;obtain ⟨rfl,_⟩:=hc;exact wp_skip (hQ .normal s a w hk h)
  | .region id ops draw,ms,ms',vc,VQ,Q,s,a,w,hc,hk,h,hQ=>by
    cases draw with
    | true =>
      simp only [zCy] at hc;cases hl:zPa P (pt.testBit (2*id+1)) (pt.testBit (2*id)) ops with
      | none=>simp [hl] at hc
      | some l=>simp only [hl,Option.some.injEq,Prod.mk.injEq] at hc;obtain ⟨rfl,_⟩:=hc;exact Code.wp_mono (fun e a w h=>by obtain ⟨rfl,h⟩:=h;exact h) (zOh (Q:=fun e a w=>e=.normal∧Q .normal a w) hcl hl (fun _ _ _ h=>h.1) hk (fun s a w hk h=>⟨rfl,hQ .normal s a w hk h⟩) h).wp
    | false =>
      simp only [zCy] at hc;cases hl:zQl P ops ops.toList with
      | none=>simp [hl] at hc
      | some l=>simp only [hl,Option.some.injEq,Prod.mk.injEq] at hc;obtain ⟨rfl,_⟩:=hc;simp only [VCode.wp] at hk;exact wp_region_list (zF4 hcl ops (KK:=VQ .normal) (fun s a w hk h=>hQ .normal s a w hk h) ops.toList l s a w hl hk h)
  | .seq x y,ms,ms',vc,VQ,Q,s,a,w,hc,hk,h,hQ=>by
    simp only [zCy] at hc;cases hx:zCy P pt x ms with
    | none=>simp [hx] at hc
    | some r =>
      obtain ⟨vx,ms1⟩:=r;simp only [hx] at hc;cases hy:zCy P pt y ms1 with
      | none=>simp [hy] at hc
      | some r =>
        obtain ⟨vy,ms2⟩:=r;simp only [hy,Option.some.injEq,Prod.mk.injEq] at hc;obtain ⟨rfl,_⟩:=hc;simp only [VCode.wp] at hk;refine wp_seq (zFg hcl x ms ms1 vx _ _ s a w hx hk h ?_);intro e s' a' w' hq hr;cases e with
        | normal=>exact zFg hcl y ms1 ms2 vy VQ Q s' a' w' hy hq hr hQ
        | exit id=>exact hQ (.exit id) s' a' w' hq hr
        | ret=>exact hQ .ret s' a' w' hq hr
  | .cond c x y,ms,ms',vc,VQ,Q,s,a,w,hc,hk,h,hQ=>by
    simp only [zCy] at hc;cases hx:zCy P pt x ms with
    | none=>simp [hx] at hc
    | some r =>
      obtain ⟨vx,ms1⟩:=r;simp only [hx] at hc;cases hy:zCy P pt y ms1 with
      | none=>simp [hy] at hc
      | some r =>
        obtain ⟨vy,ms2⟩:=r;simp only [hy,Option.some.injEq,Prod.mk.injEq] at hc;obtain ⟨rfl,_⟩:=hc;simp only [VCode.wp] at hk;obtain ⟨hd,I,Fs,hR⟩:=h;have hT:=zCc hR c;split at hk
        · rename_i t e;rw [e] at hT;refine wp_cond_split (T_v hT).1 (fun ht=>?_) (fun ht=>?_)
          · exact zFg hcl x ms ms1 vx VQ Q s a w hx (hk.1 ht) ⟨hd,I,Fs,hR⟩ hQ
          · exact zFg hcl y ms1 ms2 vy VQ Q s a w hy (hk.2 ht) ⟨hd,I,Fs,hR⟩ hQ
        · exact hk.elim
  | .block id c,ms,ms',vc,VQ,Q,s,a,w,hc,hk,h,hQ=>by
    simp only [zCy] at hc;cases hx:zCy P pt c ms with
    | none=>simp [hx] at hc
    | some r =>
      obtain ⟨vx,ms1⟩:=r;simp only [hx,Option.some.injEq,Prod.mk.injEq] at hc;obtain ⟨rfl,_⟩:=hc;simp only [VCode.wp] at hk;refine wp_block (zFg hcl c ms ms1 vx _ _ s a w hx hk h ?_);intro e s' a' w' hq hr;cases e with
      | normal=>exact hQ .normal s' a' w' hq hr
      | ret=>exact hQ .ret s' a' w' hq hr
      | exit i =>
        simp only [zLy] at hq;by_cases hi:i=id
        · rw [if_pos hi] at hq;simp only [VExit.to,Exit.inBlock,hi,if_true];exact hQ .normal s' a' w' hq hr
        · rw [if_neg hi] at hq;simp only [VExit.to,Exit.inBlock,hi,if_false];exact hQ (.exit i) s' a' w' hq hr
  | .loop c,ms,ms',vc,VQ,Q,s,a,w,hc,hk,h,hQ=>by
    simp only [zCy] at hc;cases ms with
    | nil=>simp at hc
    | cons m ms =>
      simp only at hc;cases hx:zCy P pt c ms with
      | none=>simp [hx] at hc
      | some r =>
        obtain ⟨vx,ms1⟩:=r;simp only [hx,Option.some.injEq,Prod.mk.injEq] at hc;obtain ⟨rfl,_⟩:=hc;simp only [VCode.wp] at hk;obtain ⟨J,⟨n,s1,hle,h0⟩,hround⟩:=hk;have hclr:∀ s a w,Rel w0 I0 s a w→Rel w0 I0 (clr m s) a w:=fun s a w ⟨hd,I,Fs,hR⟩=>⟨hd,I,_,hR.clr m⟩
        have hnle:∀ s s1 a w,Rel w0 I0 s a w→zC7 s s1→Rel w0 I0 s1 a w:=fun s s1 a w ⟨hd,I,Fs,hR⟩ hl=>⟨hd,I,_,hR.nle hl⟩
        refine wp_loop_ghost (fun n a w=>∃ s,J n s∧Rel w0 I0 s a w) n ⟨_,h0,hnle _ _ _ _ (hclr _ _ _ h) hle⟩ ?_;rintro n a w ⟨s,hJ,hr⟩;refine zFg hcl c ms ms1 vx _ _ s a w hx (hround n s hJ) hr ?_;intro e s' a' w' hq hr';cases e with
        | normal=>obtain ⟨m',hlt,s1,hle,hJ'⟩:=hq;exact ⟨m',hlt,_,hJ',hnle _ _ _ _ (hclr _ _ _ hr') hle⟩
        | exit id=>exact hQ (.exit id) s' a' w' hq hr'
        | ret=>exact hQ .ret s' a' w' hq hr'
  | .exit id,ms,ms',vc,VQ,Q,s,a,w,hc,hk,h,hQ=>by simp only [zCy,Option.some.injEq,Prod.mk.injEq] at hc;obtain ⟨rfl,_⟩:=hc;exact wp_exit (hQ (.exit id) s a w hk h)
  | .ret,ms,ms',vc,VQ,Q,s,a,w,hc,hk,h,hQ=>by simp only [zCy,Option.some.injEq,Prod.mk.injEq] at hc;obtain ⟨rfl,_⟩:=hc;exact wp_ret (hQ .ret s a w hk h)
  | .rangeFunc _ _ _ _,_,_,_,_,_,_,_,_,hc,_,_,_=>by simp [zCy] at hc
  | .scope _,_,_,_,_,_,_,_,_,hc,_,_,_=>by simp [zCy] at hc
  | .label _,_,_,_,_,_,_,_,_,hc,_,_,_=>by simp [zCy] at hc
  | .goto _,_,_,_,_,_,_,_,_,hc,_,_,_=>by simp [zCy] at hc
  | .refuse _,_,_,_,_,_,_,_,_,hc,_,_,_=>by simp [zCy] at hc
end
end Go.V
namespace Go.V
open Go.RowKit
def yF9 (tmps:Array Value):ResultVar→Sem Value
  | .tmp t=>pure (tmps.getD t undef)
  | .cell x t=>do loadVar t (← asAddr (tmps.getD x undef))
theorem zOl (fn:Func)(tmps:Array Value):results fn tmps=(do let vs ← fn.results.mapM (yF9 tmps);pure (if h:vs.size=1 then vs[0] else .tuple vs)):=by have:(fun v:ResultVar=>(match v with | .tmp t=>pure (tmps.getD t undef) | .cell a t=>do loadVar t (← asAddr (tmps.getD a undef)):Sem Value))=yF9 tmps:=(by funext v;cases v<;>rfl);rw [← this];rfl
section
variable {P:Program} {G:World→(Nat→Prop)→Prop} {w0:Base} {I0:Nat→Prop} {s:List D} {a:Act} {w:World} {I:Nat→Prop} {Fs:Nat→List Nat}
theorem zRo (h:RelI w0 I0 s a.tmps w I Fs) {d:D} {u:Value} {F:List Nat} {KK:D→List D→Prop} (hok:d.okCells=true) (hT:T I w d (ρS s a.tmps w) u F) (hF:Fresh w0 w I Fs F) (hk:zBg s d KK) :
    ∃ d' s' Fs' F',KK d' s'∧RelI w0 I0 s' a.tmps w I Fs'∧T I w d' nil u F'∧Fresh w0 w I Fs' F'∧(∀ r b,b∈Fs' r→b∈Fs r)∧(∀ b,b∈F'→b∈F∨∃ r,b∈Fs r):=by
  unfold zBg at hk;split at hk
  · rename_i r;split at hk
    · rename_i tag cells hs;obtain ⟨u0,hu0,hTb⟩:=h.slot0 hs;simp only [T] at hT;obtain ⟨⟨d1,u1,t1,sz,rows,u2,b1,o1,m1,m2,m3,m4,m5,m6,m7⟩,_⟩:=hT;rw [hu0] at m2;cases m2;simp only [zA1,Option.some.injEq] at m5;subst m5;have hTb':=hTb;simp only [T] at hTb;obtain ⟨b,cs,et,F',hub,_,hh,hFr,hcs⟩:=hTb;rw [hub] at m6;simp only [zA0,Option.some.injEq,Prod.mk.injEq] at m6;obtain ⟨rfl,rfl⟩:=m6;obtain ⟨hro,hk⟩:=hk;have hq:∀ x v,zIb r x=true→ρS s a.tmps w x v→ρS ((zAh (zAg r) s).set r .undef) a.tmps w x v:=fun x v hx hv=>by refine hv.forget r ?_;cases x<;>simp only [zIb] at hx<;>first | exact hx | cases hx
      have hb:b∈Fs r:=(by rw [hFr];simp);have hndr:=h.nd r;rw [hFr] at hndr;have hfr:Fresh w0 w I (upd Fs r []) F':=⟨(List.nodup_cons.1 hndr).2,fun x hx=>by
        have hxr:x∈Fs r:=(by rw [hFr];simp [hx]);refine ⟨(h.own r x hxr).1,(h.own r x hxr).2.1,(h.own r x hxr).2.2,fun r' hr=>?_⟩;unfold upd at hr;split at hr
        · cases hr
        · rename_i hne;exact hne (h.disj r' r x hr hxr)⟩
      obtain ⟨cs',s2,Fs2,F2,hK,h2,hC2,hF2,hsub2,hin2,_⟩:=zIa _ (h.forget r) (Cells.turn hq cells hcs) hfr hro hk;have hnb:b∉F2:=fun hx=>by
        rcases hin2 b hx with hy | ⟨r',hy⟩
        · exact (List.nodup_cons.1 hndr).1 hy
        · unfold upd at hy;split at hy
          · cases hy
          · rename_i hne;exact hne (h.disj r' r b hy hb)
      have hbn:∀ r',b∉Fs2 r':=fun r' hr=>by
        have:=hsub2 r' b hr;unfold upd at this;split at this
        · cases this
        · rename_i hne;exact hne (h.disj r' r b this hb)
      refine ⟨_,s2,Fs2,b::F2,hK,h2,?_,⟨List.nodup_cons.2 ⟨hnb,hF2.1⟩,fun x hx=>?_⟩,fun r' x hx=>?_,fun x hx=>?_⟩
      · simp only [T];exact ⟨b,cs,et,F2,by rw [m7];simp,(fun _ h=>by cases h),hh,rfl,hC2⟩
      · rcases List.mem_cons.1 hx with rfl | hx
        · exact ⟨(h.own r x hb).1,(h.own r x hb).2.1,(h.own r x hb).2.2,hbn⟩
        · exact hF2.2 x hx
      · have:=hsub2 r' x hx;unfold upd at this;split at this
        · cases this
        · exact this
      · rcases List.mem_cons.1 hx with rfl | hx
        · exact .inr ⟨r,hb⟩
        · rcases hin2 x hx with hy | ⟨r',hy⟩
          · exact .inr ⟨r,by rw [hFr];simp [hy]⟩
          · unfold upd at hy;split at hy
            · cases hy
            · exact .inr ⟨r',hy⟩
    · exact hk.elim
  obtain ⟨hro,hk⟩:=hk;obtain ⟨cs',s2,Fs2,F',hK,h2,hC2,hF',hsub2,hin2,_⟩:=zIa _ h (zKe h hT hok) hF hro hk;refine ⟨_,s2,Fs2,F',hK,h2,?_,hF',hsub2,hin2⟩;by_cases hd:∃ cs,d=.agg cs
  · obtain ⟨cs,rfl⟩:=hd;simp only [T] at hT;obtain ⟨us,e,_⟩:=hT;simp only [zDd,T];refine ⟨us,e,?_⟩;rw [e] at hC2;simpa [Value.cells] using hC2
  · have hn:∀ cs,d≠.agg cs:=fun cs e=>hd ⟨cs,e⟩;obtain ⟨h1,h3⟩:=ok_one h hT hok hn;rw [h3] at hC2;have hr:zDd d cs'=cs'.headD .undef:=by cases d<;>first | rfl | exact absurd rfl (hn _)
    rw [hr];cases cs' with
    | nil=>simp only [Cells] at hC2;simp at hC2
    | cons c cs =>
      simp only [Cells] at hC2;obtain ⟨v,vs,F1,F2,e,hFe,_,ht,hc⟩:=hC2;simp only [List.cons.injEq] at e;obtain ⟨rfl,rfl⟩:=e;have:=hc.len;cases cs with
      | cons x y=>simp at this
      | nil=>simp only [Cells] at hc;rw [hFe,hc.2,List.append_nil];exact ht
theorem yX9 (h : RelI w0 I0 s a.tmps w I Fs) {rv:RV} {v:ResultVar} {KK:D→List D→Prop} (hc:zNl P [v]=some [rv]) (hk:rvK s rv KK) :
    ∃ u d' s' Fs' F',(yF9 a.tmps v).run P w=.ok u w∧KK d' s'∧RelI w0 I0 s' a.tmps w I Fs'∧T I w d' nil u F'∧Fresh w0 w I Fs' F'∧(∀ r b,b∈Fs' r→b∈Fs r)∧(∀ b,b∈F'→∃ r,b∈Fs r):=by
  cases v with
  | tmp t =>
    simp only [zNl,Option.map_some,Option.some.injEq,List.cons.injEq,and_true] at hc;subst hc;obtain ⟨hok,hk⟩:=hk;obtain ⟨Fs1,F,h1,hT,hF,hsub⟩:=yRe h t;obtain ⟨d',s',Fs',F',k1,k2,k3,k4,k5,k6⟩:=zRo h1 hok hT hF hk;exact ⟨_,d',s',Fs',F',rfl,k1,k2,k3,k4,fun r b hb=>hsub.1 r b (k5 r b hb),fun b hb=>by
      rcases k6 b hb with hb | ⟨r,hr⟩
      · exact hsub.2.1 b hb
      · exact ⟨r,hsub.1 r b hr⟩⟩
  | cell x t =>
    simp only [zNl] at hc;split at hc
    · rename_i d i hu hi;have key:∀ (agg:Bool) (n:Nat),rv=.c x n agg→d.isRow=agg→i.size=n→(agg=false→n=1)→∃ u d' s' Fs' F',(do loadVar t (← asAddr (a.tmps.getD x undef)):Sem Value).run P w=.ok u w∧KK d' s'∧RelI w0 I0 s' a.tmps w I Fs'∧T I w d' nil u F'∧Fresh w0 w I Fs' F'∧(∀ r b,b∈Fs' r→b∈Fs r)∧(∀ b,b∈F'→∃ r,b∈Fs r):=by
        intro agg n hrv hd hn h1;subst hrv;simp only [rvK] at hk;split at hk
        · rename_i cells hs;obtain ⟨hlen,hok2,hk⟩:=hk;obtain ⟨u,hu',hT⟩:=h.slot0 hs;simp only [T] at hT;obtain ⟨b,cs,e,F',hub,_,hh,hFe,hcs⟩:=hT;have hf:=h.forget x;have hcl:=hcs.len;have hcs':Cells I w (zAh (zAg x) cells) (ρS ((zAh (zAg x) s).set x .undef) a.tmps w) cs.toList F':=Cells.turn (fun y v hq hy=>hy.forget x hq) cells hcs;have hnd:=h.nd x;rw [hFe] at hnd;have hF':Fresh w0 w I (upd Fs x []) F':=⟨(List.nodup_cons.1 hnd).2,fun b' hb'=>by
            have hbx:b'∈Fs x:=(by rw [hFe];simp [hb']);refine ⟨(h.own x b' hbx).1,(h.own x b' hbx).2.1,(h.own x b' hbx).2.2,fun r hr=>?_⟩;unfold upd at hr;split at hr
            · cases hr
            · rename_i hne;exact hne (h.disj r x b' hr hbx)⟩
          have hmk:T I w (zDp agg (zAh (zAg x) cells)) (ρS ((zAh (zAg x) s).set x .undef) a.tmps w) (if agg then .agg cs else cs.toList.headD undef) F':=by
            cases agg with
            | true=>simp only [zDp,if_true,T];exact ⟨cs.toList,by simp,hcs'⟩
            | false =>
              have hn1:=h1 rfl;cases hp:zAh (zAg x) cells with
              | nil=>have:=zAo (zAg x) cells;rw [hp] at this;simp at this;omega
              | cons c cc =>
                rw [hp] at hcs';simp only [Cells] at hcs';obtain ⟨v,vs,F1,F2,e1,e2,_,ht,hc2⟩:=hcs';have hccl:cc=[]:=by have:=zAo (zAg x) cells;rw [hp] at this;exact List.eq_nil_of_length_eq_zero (by simp at this;omega)
                subst hccl;simp only [Cells] at hc2;rw [e2,hc2.2,List.append_nil,e1];simpa [zDp] using ht
          have hrun:(do loadVar t (← asAddr (a.tmps.getD x undef)):Sem Value).run P w=.ok (if agg then .agg cs else cs.toList.headD undef) w:=by
            have hg:a.tmps.getD x undef=u:=(by simp [hu']);rw [hg,hub];have hr:w.rangeAt b 0 cs.toList:=fun j v hj=>by rw [zA4 hh,Nat.zero_add];simpa using hj
            have:=zVt (P:=P) hu hd (by rw [hi];simp [hn]) h1 (us:=cs.toList) (by rw [hcl,hlen]) hr;simp only [Instr.loadAt,Instr.sureAddr] at this;simp only [asAddr];cases agg<;>simpa using this
          obtain ⟨d',s',Fs',F'',k1,k2,k3,k4,k5,k6⟩:=zRo hf hok2 hmk hF' hk;have hsub:∀ r b,b∈upd Fs x [] r→b∈Fs r:=fun r b hb=>by
            unfold upd at hb;split at hb
            · cases hb
            · exact hb
          exact ⟨_,d',s',Fs',F'',hrun,k1,k2,k3,k4,fun r b hb=>hsub r b (k5 r b hb),fun b hb=>by
            rcases k6 b hb with hb | ⟨r,hr⟩
            · exact ⟨x,by rw [hFe];simp [hb]⟩
            · exact ⟨r,hsub r b hr⟩⟩
        · exact hk.elim
      split at hc
      · rename_i hd;simp only [zNl,Option.map_some,Option.some.injEq,List.cons.injEq,and_true] at hc;exact key true i.size hc.symm hd rfl (fun h=>by cases h)
      · rename_i hd;split at hc
        · rename_i h1;simp only [zNl,Option.map_some,Option.some.injEq,List.cons.injEq,and_true] at hc;exact key false 1 hc.symm (by simpa using hd) h1 (fun _=>rfl)
        · cases hc
    · cases hc
theorem yDv {v:ResultVar} {vs:List ResultVar} {rvs:List RV} (h:zNl P (v::vs)=some rvs):∃ rv rs,rvs=rv::rs∧zNl P [v]=some [rv]∧zNl P vs=some rs:=by
  cases v with
  | tmp t=>simp only [zNl,Option.map_eq_some_iff] at h;obtain ⟨rs,h1,rfl⟩:=h;exact ⟨_,rs,rfl,by simp [zNl],h1⟩
  | cell x t =>
    simp only [zNl] at h ⊢;split at h
    · rename_i d i hu hi;split at h
      · rename_i hd;simp only [Option.map_eq_some_iff] at h;obtain ⟨rs,h1,rfl⟩:=h;exact ⟨_,rs,rfl,by simp [hd],h1⟩
      · rename_i hd;split at h
        · rename_i h1;simp only [Option.map_eq_some_iff] at h;obtain ⟨rs,h2,rfl⟩:=h;exact ⟨_,rs,rfl,by simp [hd,h1],h2⟩
        · cases h
    · cases h
theorem yMb:∀ (vs:List ResultVar) {s:List D} {Fs:Nat→List Nat} {rvs:List RV} {KK:List D→List D→Prop},RelI w0 I0 s a.tmps w I Fs→zNl P vs=some rvs→zOi s rvs KK →
    ∃ us ds F s2 Fs2,(vs.mapM (yF9 a.tmps)).run P w=.ok us w∧us.length=vs.length∧KK ds s2∧Vals I w ds nil us F∧F.Nodup∧(∀ b,b∈F→w0.N b∧b<w.heap.size∧¬ I b)∧(∀ b,b∈F→∃ r,b∈Fs r)∧RelI w0 I0 s2 a.tmps w I Fs2∧(∀ r b,b∈Fs2 r→b∈Fs r)∧∀ b,b∈F→∀ r,b∉Fs2 r
  | [],s,Fs,rvs,KK,h,hc,hk=>by simp only [zNl,Option.some.injEq] at hc;subst hc;exact ⟨[],[],[],s,Fs,by simp,rfl,hk,by simp [Vals],List.nodup_nil,(fun _ h=>by cases h),(fun _ h=>by cases h),h,fun _ _ h=>h,fun _ h=>by cases h⟩
  | v :: vs,s,Fs,rvs,KK,h,hc,hk=>by
    obtain ⟨rv,rs,rfl,h1,h2⟩:=yDv hc;simp only [zOi] at hk;obtain ⟨u,d',s',Fs',F',k1,k2,k3,k4,k5,k6,k7⟩:=yX9 h h1 hk;obtain ⟨us,ds,F,s2,Fs2,m1,m2,m3,m4,m5,m6,m7,m8,m9,m10⟩:=yMb vs k3 h2 k2;refine ⟨u::us,d'::ds,F'++F,s2,Fs2,?_,by simp [m2],m3,?_,List.nodup_append.2 ⟨k5.1,m5,fun x hx y hy hxy=>?_⟩,fun b hb=>?_,fun b hb=>?_,m8,fun r b hb=>k6 r b (m9 r b hb),fun b hb r hr=>?_⟩
    · rw [List.mapM_cons,Sem.run_bind,k1,Result.andThen_ok,Sem.run_bind,m1,Result.andThen_ok,Sem.run_pure]
    · simp only [Vals];exact ⟨u,us,F',F,rfl,rfl,k4,m4⟩
    · subst hxy;obtain ⟨r,hr⟩:=m7 x hy;exact (k5.2 x hx).2.2.2 r hr
    · rcases List.mem_append.1 hb with hb | hb
      · exact ⟨(k5.2 b hb).1,(k5.2 b hb).2.1,(k5.2 b hb).2.2.1⟩
      · exact m6 b hb
    · rcases List.mem_append.1 hb with hb | hb
      · exact k7 b hb
      · obtain ⟨r,hr⟩:=m7 b hb;exact ⟨r,k6 r b hr⟩
    · rcases List.mem_append.1 hb with hb | hb
      · exact (k5.2 b hb).2.2.2 r (m9 r b hr)
      · exact m10 b hb r hr
end
def yKh (rvs:List RV)(KK:List D→List D→Prop):VExit→List D→Prop
  | .normal,s=>zOi s rvs KK
  | .ret,s=>zOi s rvs KK
  | .exit _,_=>False
def leK (d:D):List D→List D→Prop:=fun ds _=>(one ds).le d
def zC9 (rvs:List RV)(d:D):VExit→List D→Prop:=yKh rvs (leK d)
def yWb (i b:Nat)(cells':List D)(s:List D):Prop:=match s[i]? with
  | some (.box (some b') cs)=>b'=b∧leL (zAh (fun _=>false) cs) cells'
  | _=>False
def leX (d:D)(i b:Nat)(cells':List D):List D→List D→Prop:=fun ds s=>(one ds).le d∧yWb i b cells' s
def yT9 (rvs:List RV)(d:D)(i b:Nat)(cells':List D):VExit→List D→Prop:=yKh rvs (leX d i b cells')
theorem zNo {pt:Nat} {P:Program} {G:World→(Nat→Prop)→Prop} {f:FuncId} {fn:Func} {c:Code} {ms ms':List (List Bool)} {vc:VCode} {rvs:List RV} {KK:List D→List D→Prop} {w:World} {I:Nat→Prop} {us:List Value} {X:List Nat} {s0:List D} {Fs0:Nat→List Nat} (hG:∀ w',(ioB w X).Below w'→GI G w' I) (hf:P.funcs[f]?=some fn) (hb:fn.body=some c)
    (hc:zCy P pt c ms=some (vc,ms')) (hr:zNl P fn.results.toList=some rvs) (hrel:RelI (ioB w X) I s0 (us.toArray++Array.replicate (fn.ntmps-us.toArray.size) undef) w I Fs0) (hk:vc.wp (CT P G) (yKh rvs KK) s0) :
    Calls P f us.toArray w fun e w'=>∃ v ds F s2 Fs2 I' tm,e=.returned v∧KK ds s2∧(ioB w X).Below w'∧T I' w' (one ds) nil v F∧F.Nodup∧(∀ b,b∈F→(ioB w X).N b∧b<w'.heap.size∧¬ I' b)∧RelI (ioB w X) I s2 tm w' I' Fs2∧∀ b,b∈F→∀ r,b∉Fs2 r:=by
  refine calls_of_wp hf hb ?_;refine zFg hG c ms ms' vc (yKh rvs KK) _ _ _ w hc hk ⟨rfl,I,Fs0,hrel⟩ ?_;intro e s a w' hq hr';obtain ⟨hd,I',Fs,hR⟩:=hr';have key:zOi s rvs KK→a.defers=[]∧∃ v,(results fn a.tmps).run P w'=.ok v w'∧∃ v' ds F s2 Fs2 I' tm,Ending.returned v=.returned v'∧KK ds s2∧(ioB w X).Below w'∧T I' w' (one ds) nil v' F∧F.Nodup∧(∀ b,b∈F→(ioB w X).N b∧b<w'.heap.size∧¬ I' b)∧RelI (ioB w X) I s2 tm w' I' Fs2∧∀ b,b∈F→∀ r,b∉Fs2 r:=by
    intro hq;obtain ⟨us',ds,F,s2,Fs2,m1,m2,m3,m4,m5,m6,m7,m8,m9,m10⟩:=yMb fn.results.toList hR hr hq;have hrun:(results fn a.tmps).run P w'=.ok (if us'.length=1 then us'.headD undef else .tuple us'.toArray) w':=by
      rw [zOl,Sem.run_bind,Array.mapM_eq_mapM_toList,Sem.run_map,m1];simp only [Result.andThen_ok,Sem.run_pure];by_cases h1:us'.length=1
      · rw [if_pos h1,dif_pos (by simpa using h1)];cases us' with
        | nil=>simp at h1
        | cons u us2=>simp
      · rw [if_neg h1,dif_neg (by simpa using h1)]
    have hT : T I' w' (one ds) nil (if us'.length=1 then us'.headD undef else .tuple us'.toArray) F:=by
      have hl:=m4.len;by_cases h1:us'.length=1
      · rw [if_pos h1];cases ds with
        | nil=>rw [h1] at hl;simp at hl
        | cons d1 ds =>
          cases ds with
          | nil=>simp only [Vals] at m4;obtain ⟨u,us2,F1,F2,e1,e2,ht,e3,e4⟩:=m4;subst e1;subst e2;subst e3;subst e4;simpa [one] using ht
          | cons d2 ds=>rw [h1] at hl;simp at hl
      · rw [if_neg h1];have:one ds=.tup ds:=by
          cases ds with
          | nil=>rfl
          | cons d1 ds=>cases ds with
            | nil=>exact absurd hl h1
            | cons d2 ds=>rfl
        rw [this];simp only [T];exact ⟨us',rfl,m4⟩
    exact ⟨hd,_,hrun,_,ds,F,s2,Fs2,I',a.tmps,rfl,m3,hR.below,hT,m5,m6,m8,m10⟩
  cases e with
  | normal=>exact key hq
  | ret=>exact key hq
  | exit id=>exact hq.elim
theorem zFf {w:World}{I:Nat→Prop}{args:List D}{us:List Value}{n:Nat}(hV:Vals I w args nil us []){r:Nat}{d':D}{u:Value}{ρ:D→Value→Prop}(h1:(args++List.replicate (n-args.length) D.undef)[r]?=some d')(h2:(us.toArray++Array.replicate (n-us.toArray.size) undef)[r]?=some u):T I w d' ρ u []:=by
  have hlen:=hV.len;by_cases hr:r<args.length
  · rw [List.getElem?_append_left hr] at h1;have hu:us[r]?=some u:=by rw [Array.getElem?_append_left (by simp;omega)] at h2;simpa using h2
    obtain ⟨u',A,F',B,k1,k2,k3,_⟩:=Vals.get r hV h1;rw [hu] at k1;cases k1;have hF':F'=[]:=(by have:=congrArg List.length k2;simp at this;exact List.eq_nil_of_length_eq_zero (by omega));rw [hF'] at k3;exact k3.res (fun _ _ h=>h.elim)
  · rw [List.getElem?_append_right (by omega),List.getElem?_replicate] at h1;split at h1
    · cases h1;simp [T]
    · cases h1
theorem zAk {pt:Nat}{P:Program}{G:World→(Nat→Prop)→Prop}{f:FuncId}{fn:Func}{c:Code}{ms ms':List (List Bool)}{vc:VCode}{rvs:List RV}{args:List D}{d:D}(hcl:yQw G)(hf:P.funcs[f]?=some fn)(hen:∀ (us:Array Value) (W:World),(callFunc f us).run P W=.ok (.enter f us) W)(hb:fn.body=some c)
    (hc:zCy P pt c ms=some (vc,ms')) (hr:zNl P fn.results.toList=some rvs) (hk:vc.wp (CT P G) (zC9 rvs d) (args++List.replicate (fn.ntmps-args.length) .undef)):Contract P G f args d:=by
  refine ⟨hen,fun w I us hG hI hV=>?_⟩;have hlen:=hV.len;refine (zNo (I:=I) (X:=[]) (us:=us) (Fs0:=fun _=>[]) (fun w' hb'=>hG.keep hcl fun b hb=>hb'.block b (fun hn=>hn.elim (fun h=>absurd (hI b hb) (by omega)) (fun h=>by cases h))) hf hb hc hr ?_ hk).mono ?_
  · exact {
      below:=Base.Below.refl
      len:=by simp [hlen]
      slot:=fun r d' u h1 h2=>zFf hV h1 h2
      nd:=fun _=>List.nodup_nil
      disj:=fun _ _ _ h=>by cases h
      own:=fun _ _ h=>by cases h
      imm:=hI
      imm0:=fun _ h=>h
      immN:=fun _ h=>.inl h }
  · rintro e w' ⟨v,ds,F,s2,Fs2,I',tm,he,hle,hbel,hT,hnd,hF,hR,_⟩;obtain ⟨F',k1,k2⟩:=T.leF _ _ hT hle;have hN:∀ x,(ioB w []).N x→w.heap.size≤x:=fun x h=>h.elim id (fun h=>by cases h);exact ⟨v,F',I',he,⟨hbel.os,hbel.tape,hbel.output,hbel.size,fun k hk=>hbel.block k (fun h=>by have:=hN k h;omega)⟩,k1,k2.nodup hnd,fun b hb=>⟨hN b (hF b (k2.subset hb)).1,(hF b (k2.subset hb)).2⟩,hR.imm0,fun b hb=>⟨(hR.immN b hb).imp_right (hN b),hR.imm b hb⟩⟩
theorem zH8 {args:List D}{i r:Nat}{d:D}(h:r≠i)(n:Nat):(args.set i d++List.replicate n D.undef)[r]?=(args.set i .undef++List.replicate n D.undef)[r]?:=by
  by_cases hr:r<args.length
  · rw [List.getElem?_append_left (by simpa using hr),List.getElem?_append_left (by simpa using hr),List.getElem?_set_ne (Ne.symm h),List.getElem?_set_ne (Ne.symm h)]
  · rw [List.getElem?_append_right (by simpa using hr),List.getElem?_append_right (by simpa using hr)];simp
theorem zKv {pt:Nat} {P:Program} {G:World→(Nat→Prop)→Prop} {f:FuncId} {fn:Func} {c:Code} {ms ms':List (List Bool)} {vc:VCode} {rvs:List RV} {args:List D} {d:D} {i:Nat} {cells cells':List D} (hcl:yQw G) (hf:P.funcs[f]?=some fn) (hen:∀ (us:Array Value) (W:World),(callFunc f us).run P W=.ok (.enter f us) W) (hb:fn.body=some c)
    (hc:zCy P pt c ms=some (vc,ms')) (hr:zNl P fn.results.toList=some rvs) (hi:i<args.length) (hk:∀ b,vc.wp (CT P G) (yT9 rvs d i b cells') (args.set i (.box (some b) cells)++List.replicate (fn.ntmps-args.length) .undef)):ContractX P G f i args cells d cells':=by
  refine ⟨hen,fun w I us b X hG hI hu hV hTb hXn hX=>?_⟩;have hlen:us.length=args.length:=by have:=hV.len;simpa using this
  refine (zNo (I:=I) (X:=X) (us:=us) (Fs0:=fun r=>if r=i then X else []) (fun w' hb'=>hG.keep hcl fun b hb=>hb'.block b (fun hn=>hn.elim (fun h=>absurd (hI b hb) (by omega)) (fun h=>(hX b h).2 hb))) hf hb hc hr ?_ (hk b)).mono ?_
  · exact {
      below:=Base.Below.refl
      len:=by simp [hlen]
      slot:=by
        intro r d' u h1 h2;by_cases hri:r=i
        · subst hri;rw [List.getElem?_append_left (by simpa using hi),List.getElem?_set_self hi] at h1;cases h1;have:us[r]?=some u:=by rw [Array.getElem?_append_left (by simp;omega)] at h2;simpa using h2
          rw [hu] at this;cases this;simp only [if_true];exact hTb.res (fun _ _ h=>h.elim)
        · simp only [hri,if_false];rw [zH8 hri] at h1;exact zFf hV (by simpa using h1) h2
      nd:=fun r=>by split;exact hXn;exact List.nodup_nil
      disj:=fun r r' x h h'=>by
        split at h
        · split at h'
          · omega
          · cases h'
        · cases h
      own:=fun r x h=>by
        split at h
        · exact ⟨.inr h,(hX x h).1,(hX x h).2⟩
        · cases h
      imm:=hI
      imm0:=fun _ h=>h
      immN:=fun _ h=>.inl h }
  · rintro e w' ⟨v,ds,F,s2,Fs2,I',tm,he,⟨hle,hout⟩,hbel,hT,hnd,hF,hR,hFo⟩;obtain ⟨F',k1,k2⟩:=T.leF _ _ hT hle;unfold yWb at hout;split at hout
    · rename_i b' cs hs;obtain ⟨rfl,hlc⟩:=hout;obtain ⟨u2,hu2,hT2⟩:=hR.slot0 hs;simp only [T] at hT2;obtain ⟨b2,cs2,et,F2,hub,htg,hh,hFr,hcs⟩:=hT2;have hb2:=htg b' rfl;subst hb2;obtain ⟨F3,hc3,hs3⟩:=Cells.leF _ _ (Cells.turn (ρ':=nil) (fun x v hq _=>by cases hq) cs hcs) hlc;have hsub:∀ x,x∈b2::F3→x∈Fs2 i:=fun x hx=>by
        rw [hFr];rcases List.mem_cons.1 hx with rfl | hx
        · simp
        · exact List.mem_cons_of_mem _ (hs3.subset hx)
      have hnr:=hR.nd i;rw [hFr] at hnr;refine ⟨v,F',b2::F3,I',he,hbel,k1,?_,?_,fun x hx=>?_,hR.imm0,fun x hx=>⟨?_,hR.imm x hx⟩⟩
      · simp only [T];exact ⟨b2,cs2,et,F3,rfl,fun k hk=>by cases hk;rfl,hh,rfl,hc3⟩
      · refine List.nodup_append.2 ⟨k2.nodup hnd,List.nodup_cons.2 ⟨fun hb=>(List.nodup_cons.1 hnr).1 (hs3.subset hb),hs3.nodup (List.nodup_cons.1 hnr).2⟩,fun x hx y hy hxy=>?_⟩;subst hxy;exact hFo x (k2.subset hx) i (hsub x hy)
      · rcases List.mem_append.1 hx with hx | hx
        · exact hF x (k2.subset hx)
        · exact hR.own i x (hsub x hx)
      · exact (hR.immN x hx)
    · exact hout.elim
def yXh (b:Nat)(cells':List D)(s:List D):Prop:=∃ (r:Nat) (d:D) (q:zBa) (b':Nat) (cs:List D),s[r]?=some d∧zAj d q=some (.box (some b') cs)∧b'=b∧leL (zAh (fun _=>false) cs) cells'
def leG (d:D)(b:Nat)(cells':List D):List D→List D→Prop:=fun ds s=>(one ds).le d∧yXh b cells' s
def yXv (rvs:List RV)(d:D)(b:Nat)(cells':List D):VExit→List D→Prop:=yKh rvs (leG d b cells')
def yWc (i b:Nat)(cells':List D)(s:List D):Prop:=match s[i]? with
  | some (.fn _ [.box (some b') cs] [])=>b'=b∧leL (zAh (fun _=>false) cs) cells'
  | _=>False
def yS0 (d:D)(i b:Nat)(cells':List D):List D→List D→Prop:=fun ds s=>(one ds).le d∧yWc i b cells' s
def yIy (rvs:List RV)(d:D)(i b:Nat)(cells':List D):VExit→List D→Prop:=yKh rvs (yS0 d i b cells')
theorem zSt {pt:Nat} {P:Program} {G:World→(Nat→Prop)→Prop} {f F0:FuncId} {fn:Func} {c:Code} {ms ms':List (List Bool)} {vc:VCode} {rvs:List RV} {args:List D} {d:D} {i:Nat} {cells cells':List D} (hcl:yQw G) (hf:P.funcs[f]?=some fn) (hen:∀ (us:Array Value) (W:World),(callFunc f us).run P W=.ok (.enter f us) W) (hb:fn.body=some c)
    (hc:zCy P pt c ms=some (vc,ms')) (hr:zNl P fn.results.toList=some rvs) (hi:i<args.length) (hk:∀ b,vc.wp (CT P G) (yIy rvs d i b cells') (args.set i (.fn F0 [.box (some b) cells] [])++List.replicate (fn.ntmps-args.length) .undef)):zBj P G f i args (.fn F0 [.box none cells] []) d (.fn F0 [.box none cells'] []):=by
  refine ⟨hen,fun w I us u X hG hI hu hV hT hXn hX=>?_⟩;have hlen:us.length=args.length:=by have:=hV.len;simpa using this
  simp only [T,Vals] at hT;obtain ⟨us1,vs1,F1,F2,heu,hF12,⟨u1,us2,G1,G2,rfl,hG1,⟨b,cs,et,F',hub,_,hh,hFb,hcs⟩,rfl,hG2⟩,rfl,hF2⟩:=hT;have hXe:X=G1:=by rw [hF12,hG1,hG2,hF2];simp
  subst hXe;have hTb:T I w (.fn F0 [.box (some b) cells] []) nil u X:=by rw [heu];simp only [T,Vals];exact ⟨_,_,X,[],rfl,by simp,⟨u1,[],X,[],rfl,by simp,⟨b,cs,et,F',hub,(fun k hk=>by cases hk;rfl),hh,hFb,hcs⟩,rfl,rfl⟩,rfl,rfl⟩
  refine (zNo (I:=I) (X:=X) (us:=us) (Fs0:=fun r=>if r=i then X else []) (fun w' hb'=>hG.keep hcl fun b hb=>hb'.block b (fun hn=>hn.elim (fun h=>absurd (hI b hb) (by omega)) (fun h=>(hX b h).2 hb))) hf hb hc hr ?_ (hk b)).mono ?_
  · exact {
      below:=Base.Below.refl
      len:=by simp [hlen]
      slot:=by
        intro r d' v h1 h2;by_cases hri:r=i
        · subst hri;rw [List.getElem?_append_left (by simpa using hi),List.getElem?_set_self hi] at h1;cases h1;have:us[r]?=some v:=by rw [Array.getElem?_append_left (by simp;omega)] at h2;simpa using h2
          rw [hu] at this;cases this;simp only [if_true];exact hTb.res (fun _ _ h=>h.elim)
        · simp only [hri,if_false];rw [zH8 hri] at h1;exact zFf hV (by simpa using h1) h2
      nd:=fun r=>by split;exact hXn;exact List.nodup_nil
      disj:=fun r r' x h h'=>by
        split at h
        · split at h'
          · omega
          · cases h'
        · cases h
      own:=fun r x h=>by
        split at h
        · exact ⟨.inr h,(hX x h).1,(hX x h).2⟩
        · cases h
      imm:=hI
      imm0:=fun _ h=>h
      immN:=fun _ h=>.inl h }
  · rintro e w' ⟨v,ds,F,s2,Fs2,I',tm,he,⟨hle,hout⟩,hbel,hT,hnd,hF,hR,hFo⟩;obtain ⟨F',k1,k2⟩:=T.leF _ _ hT hle;unfold yWc at hout;split at hout
    case h_2=>exact hout.elim
    rename_i g2 b' cs2 hs;obtain ⟨rfl,hlc⟩:=hout;obtain ⟨u2,hu2,hT2⟩:=hR.slot0 hs;simp only [T,Vals] at hT2;obtain ⟨us3,vs3,H1,H2,_,hFr,⟨u3,us4,J1,J2,rfl,hJ1,⟨b2,cs3,et3,F4,hub2,htg,hh2,hF4,hcs3⟩,rfl,hJ2⟩,rfl,hH2⟩:=hT2;have hb2:=htg b' rfl;subst hb2;have hFr:Fs2 i=b2::F4:=by rw [hFr,hJ1,hJ2,hH2,hF4];simp
    obtain ⟨F5,hc5,hs5⟩:=Cells.leF _ _ (Cells.turn (ρ':=nil) (fun x v hq _=>by cases hq) cs2 hcs3) hlc;have hsub:∀ x,x∈b2::F5→x∈Fs2 i:=fun x hx=>by
      rw [hFr];rcases List.mem_cons.1 hx with rfl | hx
      · simp
      · have:=hs5.subset hx;simp [this]
    have hnr:=hR.nd i;rw [hFr] at hnr;refine ⟨v,F',b2::F5,I',he,hbel,k1,?_,?_,fun x hx=>?_,hR.imm0,fun x hx=>⟨?_,hR.imm x hx⟩⟩
    · rw [heu];simp only [T,Vals];exact ⟨_,_,b2::F5,[],rfl,by simp,⟨u1,[],b2::F5,[],rfl,by simp,⟨b2,cs3,et3,F5,hub,(fun k hk=>by cases hk),hh2,rfl,hc5⟩,rfl,rfl⟩,rfl,rfl⟩
    · refine List.nodup_append.2 ⟨k2.nodup hnd,List.nodup_cons.2 ⟨fun hb=>(List.nodup_cons.1 hnr).1 (hs5.subset hb),hs5.nodup (List.nodup_cons.1 hnr).2⟩,fun x hx y hy hxy=>?_⟩;subst hxy;exact hFo x (k2.subset hx) i (hsub x hy)
    · rcases List.mem_append.1 hx with hx | hx
      · exact hF x (k2.subset hx)
      · exact hR.own i x (hsub x hx)
    · exact (hR.immN x hx)
/-! A function whose result is a struct whose first cell is the address of a variable. -/
def rvP (x n:Nat)(s:List D)(K:D→List D→Prop):Prop:=match s[x]? with
  | some (.box _ (.ptr r [] 0 0::rest))=>rest.length+1=n∧r≠x∧rest.all D.flatI=true∧zBg ((zAh (zAg x) s).set x .undef) (.ptr r [] 0 0) (fun d' s'=>K (.agg (d'::rest)) s')
  | _=>False
def yXu (x n:Nat)(d:D):VExit→List D→Prop
  | .exit _,_=>False
  | _,s=>rvP x n s (fun d' _=>d'.le d)
end Go.V
namespace Go.V
open Go.RowKit
/-! ### Code within a round, and behind one -/
def FR (ro:Option Nat):Fence:={ Fence.wide with round:=ro }
def zPh (ds:List Deferred)(a:Act):Act:={ a with defers:=a.defers++ds }
theorem yDh {ds:List Deferred}{a:Act}:(zPh ds a).eval=a.eval:=funext fun x=>by cases x<;>rfl
theorem zFi {ds:List Deferred}{a:Act}{dst:Option Tmp}{v:Value}:(zPh ds a).put dst v=zPh ds (a.put dst v):=by cases dst<;>rfl
def zTu (o:Oper):Bool:=match o.op with
  | .defer _=>false
  | _=>true
theorem yHi {o:Oper}(h:zTu o=true):∀ c,o.op≠.defer c:=fun c e=>by unfold zTu at h;rw [e] at h;cases h
def zYu (T:List Nat)(o:Oper):Bool:=match o.dst with
  | some d=>T.contains d
  | none=>true
def agr (T:List Nat)(t0 t:Array Value):Prop:=t.size=t0.size∧∀ r,r∉T→t[r]?=t0[r]?
theorem agr.refl {T:List Nat}{t:Array Value}:agr T t t:=⟨rfl,fun _ _=>rfl⟩
theorem agr.set {T:List Nat}{t0 t:Array Value}(h:agr T t0 t){d:Nat}(hd:d∈T)(v:Value):agr T t0 (t.setIfInBounds d v):=by refine ⟨by simp [h.1],fun r hr=>?_⟩;rw [Array.getElem?_setIfInBounds_ne (by intro e;subst e;exact hr hd)];exact h.2 r hr
theorem agr.put {T:List Nat}{t0:Array Value}{a:Act}(h:agr T t0 a.tmps){o:Oper}(hd:zYu T o=true)(v:Value):agr T t0 (a.put o.dst v).tmps:=by
  unfold zYu at hd;cases ho:o.dst with
  | none=>exact h
  | some d=>rw [ho] at hd;simp only [List.contains_iff_mem] at hd;exact h.set hd v
theorem agr.trans {T:List Nat}{t0 t1 t2:Array Value}(h:agr T t0 t1)(k:agr T t1 t2):agr T t0 t2:=⟨k.1.trans h.1,fun r hr=>(k.2 r hr).trans (h.2 r hr)⟩
section
variable {P:Program} {ro:Option Nat} {n:Nat} {ds:List Deferred} {Q Q':Exit→Act→World→Prop}
theorem NoX.lets (h:NoX Q):¬ LetsOut Q:=fun ⟨a,w,q⟩=>by have:=h _ _ _ q;cases this
theorem yK3 {o:Oper}{a:Act}{next next':Act→World→Prop}(hQ:NoX Q)(hn:∀ ds' v w',next ({ a with defers:=ds' }.put o.dst v) w'→next' (zPh ds ({ a with defers:=ds' }.put o.dst v)) w') :
    ∀ {r:Result Next},o.upon P a next Q r→o.uponIn (FR ro) n P (zPh ds a) next' Q' r
  | .ok (.value v) w',h=>by have:=hn a.defers v w' h;rw [Oper.uponIn_value,zFi];exact this
  | .ok .skip w',h=>by have:=hn a.defers undef w' h;rw [Oper.uponIn_skip,zFi];exact this
  | .ok (.defer d) w',h=>by have:=hn (d::a.defers) undef w' h;rw [Oper.uponIn_defer];rw [← zFi] at this;exact this
  | .ok (.enter f args) w',h=>by
    rw [Oper.uponIn_enter];rw [Oper.upon_enter] at h;refine ⟨fun h=>absurd h (by simp [FR,Fence.wide]),?_⟩;have h2:CallsIn Fence.wide (n-1) P f args w' (fun
      | .returned v,w''=>next' ((zPh ds a).put o.dst v) w''
      | .panicked chain,w''=>Q' (.panic chain) (zPh ds a) w''
      | .outgrown,_=>LetsOut Q'):=by
      refine callsIn_wide.2 (Calls.mono h ?_);intro e w'' he;cases e with
      | returned v=>have:=hn a.defers v w'' he;simp only;rw [zFi];exact this
      | panicked chain=>have:=hQ _ _ _ he;cases this
      | outgrown=>exact (hQ.lets he).elim
    exact h2
  | .ok (.row row args) w',h=>by
    rw [Oper.uponIn_row];rw [Oper.upon_row] at h;refine ⟨fun h=>absurd h (by simp [FR,Fence.wide]),?_⟩;intro c cs _;obtain ⟨v,w'',hr,hs⟩:=h c cs;refine ⟨v,w'',?_,?_⟩
    · have:=hn a.defers v w'' hr;simp only;rw [zFi];exact this
    · exact stepsIn_wide.2 hs
  | .ok (.round _ _ _ _ _) _,h=>False.elim h
  | .ok (.spawn _) _,h=>False.elim h
  | .ok (.comm _ _ _) _,h=>False.elim h
  | .halt (.panic v) w',h=>by rw [Oper.upon_panic] at h;have:=hQ _ _ _ h;cases this
  | .halt x w',h=>by cases x<;>first | exact False.elim h | (rw [Oper.upon_panic] at h;have:=hQ _ _ _ h;cases this)
theorem yB2 {o:Oper}{a:Act}{w:World}{next next':Act→World→Prop}(hQ:NoX Q)(hd:zTu o=true)(hn:∀ ds' v w',next ({ a with defers:=ds' }.put o.dst v) w'→next' (zPh ds ({ a with defers:=ds' }.put o.dst v)) w')(h:o.wp P a w next Q):o.wpIn (FR ro) n P (zPh ds a) w next' Q':=by refine ⟨fun _ _=>trivial,?_⟩;rw [Oper.semAt_eq _ _ _ (yHi hd),yDh];exact yK3 hQ hn h
theorem zT4 {ops:Array Oper}{T:List Nat}{t0:Array Value}(hQ:NoX Q)(hq:∀ a' w',Q .normal a' w'→agr T t0 a'.tmps→Q' .normal (zPh ds a') w'):∀ (l:List Oper) (a:Act) (w:World),(∀ o,o∈l→zTu o=true∧zYu T o=true)→agr T t0 a.tmps→wpList P ops Q l a w→wpListIn (FR ro) n P ops Q' l (zPh ds a) w
  | [],a,w,_,ha,h=>hq a w h ha
  | o :: l,a,w,hl,ha,h=>by
    unfold wpListIn;unfold wpList at h;have hy:yielded ops (zPh ds a).tmps=yielded ops a.tmps:=rfl;rw [hy];split at h
    · rename_i hw;rw [if_pos hw];rcases h with h | ⟨_,h⟩
      · refine yB2 hQ (hl o (by simp)).1 (fun ds' v w' hk=>?_) h;exact zT4 hQ hq l _ w' (fun o' ho'=>hl o' (by simp [ho'])) (agr.put (a:={ a with defers:=ds' }) ha (hl o (by simp)).2 v) hk
      · exact (hQ.lets h).elim
    · rename_i hw;rw [if_neg hw];refine ⟨fun _ _=>trivial,?_⟩;rw [zFi];exact zT4 hQ hq l _ w (fun o' ho'=>hl o' (by simp [ho'])) (ha.put (hl o (by simp)).2 _) h
theorem zWg {md:Region.Mode} {ops:Array Oper} {T:List Nat} {t0:Array Value} (hQ:NoX Q) (hq:∀ a' w',Q .normal a' w'→agr T t0 a'.tmps→Q' .normal (zPh ds a') w') (hl:∀ o,o∈ops→zTu o=true∧zYu T o=true):∀ (fuel:Nat) (listed:Array Bool) (a:Act) (w:World),agr T t0 a.tmps→wpAny P md ops Q fuel listed a w→wpAnyIn (FR ro) n P md ops Q' fuel listed (zPh ds a) w
  | 0,listed,a,w,ha,h=>⟨h.1,hq a w h.2 ha⟩
  | fuel+1,listed,a,w,ha,h=>by
    refine ⟨fun hr=>hq a w (h.1 hr) ha,fun i hi=>?_⟩;have h2:=h.2 i hi;unfold wpOpIn;unfold wpOp at h2;split
    · rename_i ho;simp only [ho] at h2;exact zWg hQ hq hl fuel _ a w ha h2
    · rename_i o ho;simp only [ho] at h2;have hm:o∈ops:=Array.mem_of_getElem? ho;have hy:yielded ops (zPh ds a).tmps=yielded ops a.tmps:=rfl;rw [hy];split at h2
      · rename_i hw;rw [if_pos hw];rcases h2 with h2 | ⟨_,h2⟩
        · refine yB2 hQ (hl o hm).1 (fun ds' v w' hk=>?_) h2;exact zWg hQ hq hl fuel _ _ w' (agr.put (a:={ a with defers:=ds' }) ha (hl o hm).2 v) hk
        · exact (hQ.lets h2).elim
      · rename_i hw;rw [if_neg hw];refine ⟨fun _ _=>trivial,?_⟩;rw [zFi];exact zWg hQ hq hl fuel _ _ w (ha.put (hl o hm).2 _) h2
end
end Go.V
namespace Go.V
open Go.RowKit
/-! ### States beside blocks that are nobody's -/
theorem RelI.other {w0:Base}{I0:Nat→Prop}{s:List D}{tm:Array Value}{w w':World}{I:Nat→Prop}{Fs:Nat→List Nat}(h:RelI w0 I0 s tm w I Fs)(hbel:w0.Below w')(hsz:w.heap.size≤w'.heap.size)(hk:∀ b,(I b∨∃ r,b∈Fs r)→w'.heap[b]?=w.heap[b]?):RelI w0 I0 s tm w' I Fs where
  below:=hbel
  len:=h.len
  slot:=by
    intro r d u h1 h2;refine (T.keep d (h.slot r d u h1 h2) (fun b hb'=>hk b (hb'.imp_right fun hb'=>⟨r,hb'⟩))).res (fun x v hx=>?_);cases x with
    | ref r' p=>obtain ⟨d',u0,t1,k1,k2,k3,ho,k4⟩:=hx;exact ⟨d',u0,t1,k1,k2,k3,ho,by rw [zBc p d' (h.slot r' d' u0 k1 k2) k3 (fun b hb'=>hk b (.inr ⟨r',hb'⟩))];exact k4⟩
    | ptr r' p i j=>obtain ⟨d',u0,t',sz,rows,u1,b,o,k1,k2,k3,k4,k5,k6⟩:=hx;exact ⟨d',u0,t',sz,rows,u1,b,o,k1,k2,k3,k4,by rw [zBc p d' (h.slot r' d' u0 k1 k2) k3 (fun b hb'=>hk b (.inr ⟨r',hb'⟩))];exact k5,k6⟩
    | sub r' p i n=>obtain ⟨d',u0,t',sz,rows,u1,b,o,cc,k1,k2,k3,k4,k5,k6⟩:=hx;exact ⟨d',u0,t',sz,rows,u1,b,o,cc,k1,k2,k3,k4,by rw [zBc p d' (h.slot r' d' u0 k1 k2) k3 (fun b hb'=>hk b (.inr ⟨r',hb'⟩))];exact k5,k6⟩
    | _=>exact hx.elim
  nd:=h.nd
  disj:=h.disj
  own:=fun r b hb'=>⟨(h.own r b hb').1,Nat.lt_of_lt_of_le (h.own r b hb').2.1 hsz,(h.own r b hb').2.2⟩
  imm:=fun b hb'=>Nat.lt_of_lt_of_le (h.imm b hb') hsz
  imm0:=h.imm0
  immN:=h.immN
theorem RelI.base {w0 w1:Base}{I0 I1:Nat→Prop}{s:List D}{tm:Array Value}{w:World}{I:Nat→Prop}{Fs:Nat→List Nat}(h:RelI w0 I0 s tm w I Fs)(hbel:w1.Below w)(hN:∀ r b,b∈Fs r→w1.N b)(hI1:∀ b,I1 b→I b)(hI2:∀ b,I b→I1 b∨w1.N b):RelI w1 I1 s tm w I Fs where
  below:=hbel
  len:=h.len
  slot:=h.slot
  nd:=h.nd
  disj:=h.disj
  own:=fun r b hb'=>⟨hN r b hb',(h.own r b hb').2⟩
  imm:=h.imm
  imm0:=hI1
  immN:=hI2
theorem Base.comp {w0 w1:Base}{w':World}(h:w0.Below w1.w)(hN:∀ b,w1.N b→w0.N b)(h':w1.Below w'):w0.Below w' :=
  ⟨h'.os.trans h.os,h'.tape.trans h.tape,h'.output.trans h.output,Nat.le_trans h.size h'.size,fun i hi=>(h'.block i fun hn=>hi (hN i hn)).trans (h.block i hi)⟩
theorem RelI.tmps {w0:Base} {I0:Nat→Prop} {s:List D} {tm tm':Array Value} {w:World} {I:Nat→Prop} {Fs:Nat→List Nat} (h:RelI w0 I0 s tm w I Fs) (hsz:tm'.size=tm.size) (hk:∀ (r:Nat) (d:D),s[r]?=some d→d=D.undef∨tm'[r]?=tm[r]?) (hF:∀ r:Nat,s[r]?=some D.undef→Fs r=[]):RelI w0 I0 s tm' w I Fs where
  below:=h.below
  len:=hsz.trans h.len
  slot := by
    have hk':∀ (r:Nat) (d:D) (u0:Value),s[r]?=some d→tm[r]?=some u0→d≠D.undef→tm'[r]?=some u0:=fun r d u0 h1 h2 hd=>by
      rcases hk r d h1 with h3 | h3
      · exact absurd h3 hd
      · rw [h3];exact h2
    intro r d u h1 h2;rcases hk r d h1 with rfl | h3
    · simp only [T];exact hF r h1
    · rw [h3] at h2;refine (h.slot r d u h1 h2).res (fun x v hx=>?_);cases x with
      | ref r' p =>
        obtain ⟨d',u0,t1,k1,k2,k3,ho,k4⟩:=hx;exact ⟨d',u0,t1,k1,hk' r' d' u0 k1 k2 (fun e=>by subst e;cases p with
          | nil=>simp only [zAj,Option.some.injEq] at k3;subst k3;cases ho
          | cons y p=>obtain ⟨i,j⟩:=y;simp [zAj,D.cont] at k3),k3,ho,k4⟩
      | ptr r' p i j=>obtain ⟨d',u0,t',sz,rows,u1,b,o,k1,k2,k3,k4,k5,k6⟩:=hx;exact ⟨d',u0,t',sz,rows,u1,b,o,k1,hk' r' d' u0 k1 k2 (fun e=>by subst e;exact zCh k3 k4 rfl),k3,k4,k5,k6⟩
      | sub r' p i n=>obtain ⟨d',u0,t',sz,rows,u1,b,o,cc,k1,k2,k3,k4,k5,k6⟩:=hx;exact ⟨d',u0,t',sz,rows,u1,b,o,cc,k1,hk' r' d' u0 k1 k2 (fun e=>by subst e;exact zCh k3 k4 rfl),k3,k4,k5,k6⟩
      | _=>exact hx.elim
  nd:=h.nd
  disj:=h.disj
  own:=h.own
  imm:=h.imm
  imm0:=h.imm0
  immN:=h.immN
/-! ### The state, with marks -/
def mkD (D:Nat):Deferred:={ target:=.collected D,args:=#[] }
def yX3 (w0:Base)(w:World)(I:Nat→Prop)(Fs:Nat→List Nat)(Pr:List (Nat×Obj)):Prop:=∀ p,p∈Pr→w.heap[p.1]?=some p.2∧¬ I p.1∧(∀ r,p.1∉Fs r)∧w0.N p.1
def zJw (D:Nat):Nat×Obj:=(D,.deferred (some []))
def RelR (Pr:List (Nat×Obj))(w0:Base)(I0:Nat→Prop)(s:List D)(a:Act)(w:World):Prop :=
  ∃ (Ds:List Nat) (I:Nat→Prop) (Fs:Nat→List Nat),a.defers=Ds.map mkD∧Ds.Nodup∧RelI w0 I0 s a.tmps w I Fs∧yX3 w0 w I Fs (Pr++Ds.map zJw)
theorem zDw {w:World}{b:Nat}{o:Obj}(h:w.heap[b]?=some o):b<w.heap.size:=(Array.getElem?_eq_some_iff.1 h).1
theorem zVh {w0:Base}{I0:Nat→Prop}{Pr:List (Nat×Obj)}{VQ:List D→Prop}{s:List D}{a:Act}{w:World}(h:RelR Pr w0 I0 s a w){A:Array Value→Prop}{Q':Exit→Act→World→Prop}
    (hQ:∀ s a w,VQ s→RelR Pr w0 I0 s a w→A a.tmps→Q' .normal a w) :
    ∃ (wr:Base) (a0:Act) (ds:List Deferred),(∀ w',wr.Below w'→w0.Below w')∧a=zPh ds a0∧a0.tmps=a.tmps∧Rel wr I0 s a0 w∧∀ a' w',(∃ s',VQ s'∧Rel wr I0 s' a' w')→A a'.tmps→Q' .normal (zPh ds a') w':=by
  obtain ⟨Ds,I,Fs,hd,hnd,hR,hP⟩:=h;obtain ⟨wr,hwr⟩:∃ wr:Base,wr=⟨w,fun b=>(∃ r,b∈Fs r)∨(I b∧¬ I0 b)∨w.heap.size≤b,fun _ h=>.inr (.inr h)⟩:=⟨_,rfl⟩
  have hN:∀ b,wr.N b→w0.N b:=by
    intro b hb;rw [hwr] at hb;rcases hb with ⟨r,hb⟩ | ⟨hb,hn⟩ | hb
    · exact (hR.own r b hb).1
    · exact (hR.immN b hb).resolve_left hn
    · exact Base.N_of hR.below hb
  have hw:wr.w=w:=(by rw [hwr]);have hcomp:∀ w',wr.Below w'→w0.Below w':=fun w' h'=>Base.comp (by rw [hw];exact hR.below) hN h';have hRr:RelI wr I0 s a.tmps w I Fs:=hR.base (by rw [hwr];exact Base.Below.refl) (fun r b hb=>by rw [hwr];exact .inl ⟨r,hb⟩) hR.imm0 (fun b hb=>by
    by_cases h0:I0 b
    · exact .inl h0
    · rw [hwr];exact .inr (.inr (.inl ⟨hb,h0⟩)))
  refine ⟨wr,{ a with defers:=[] },a.defers,hcomp,by cases a;rfl,rfl,⟨rfl,I,Fs,hRr⟩,?_⟩;rintro a' w' ⟨s',hVQ,hd',I',Fs',hR'⟩ hag;refine hQ s' (zPh a.defers a') w' hVQ ⟨Ds,I',Fs',by simp [zPh,hd',hd],hnd,?_,?_⟩ hag
  · refine hR'.base (hcomp w' hR'.below) (fun r b hb=>hN b (hR'.own r b hb).1) hR'.imm0 (fun b hb=>(hR'.immN b hb).imp_right (hN b))
  · intro p hp;obtain ⟨h1,h2,h3,h4⟩:=hP p hp;have hnn:¬ wr.N p.1:=by
      rw [hwr];rintro (⟨r,hr⟩ | ⟨hi,_⟩ | hs)
      · exact h3 r hr
      · exact h2 hi
      · exact absurd (zDw h1) (by omega)
    refine ⟨?_,fun hi=>?_,fun r hr=>hnn (hR'.own r _ hr).1,h4⟩
    · have:=hR'.below.block p.1 hnn;rw [hw] at this;rw [this];exact h1
    · rcases hR'.immN _ hi with h0 | h0
      · exact h2 (hR.imm0 _ h0)
      · exact hnn h0
end Go.V
namespace Go.V
open Go.RowKit
def zBw:Code→List Nat
  | .region _ ops _=>ops.toList.filterMap (·.dst)
  | .seq a b=>zBw a++zBw b
  | .cond _ a b=>zBw a++zBw b
  | .block _ c=>zBw c
  | .loop c=>zBw c
  | _=>[]
def okR (T:List Nat):Code→Bool
  | .skip=>true
  | .region _ ops _=>ops.toList.all fun o=>zTu o&&zYu T o
  | .seq a b=>okR T a&&okR T b
  | .cond _ a b=>okR T a&&okR T b
  | .block _ c=>okR T c
  | .loop c=>okR T c
  | .exit _=>true
  | .ret=>true
  | .rangeFunc _ _ _ _=>true
  | _=>false
section
variable (P:Program) (pt:Nat)
def zBl:Bool→Code→List (List Bool)→Option (VCode×List (List Bool))
  | _,.skip,ms=>some (.skip,ms)
  | _,.region _ ops false,ms=>match zQl P ops ops.toList with
    | some l=>some (.ops l,ms)
    | none=>none
  | _,.region id ops true,ms=>match zPa P (pt.testBit (2*id+1)) (pt.testBit (2*id)) ops with
    | some l=>some (l,ms)
    | none=>none
  | r,.seq a b,ms=>match zBl r a ms with
    | some (x,ms1)=>match zBl r b ms1 with
      | some (y,ms2)=>some (.seq x y,ms2)
      | none=>none
    | none=>none
  | r,.cond c a b,ms=>match zBl r a ms with
    | some (x,ms1)=>match zBl r b ms1 with
      | some (y,ms2)=>some (.cond c x y,ms2)
      | none=>none
    | none=>none
  | r,.block id c,ms=>match zBl r c ms with
    | some (x,ms1)=>some (.block id x,ms1)
    | none=>none
  | r,.loop c,ms=>match ms with
    | m::ms=>match zBl r c ms with
      | some (x,ms1)=>some (.loop m x,ms1)
      | none=>none
    | []=>none
  | false,.rangeFunc g ps a b,ms=>if (okR (ps.toList++zBw a++zBw b) a&&okR (ps.toList++zBw a++zBw b) b)=true then (match zBl true a ms with
    | some (x,ms1)=>match zBl true b ms1 with
      | some (y,ms2)=>some (.rangeF g ps.toList (zDq (ps.toList++zBw a++zBw b)) x y,ms2)
      | none=>none
    | none=>none) else none
  | _,.exit id,ms=>some (.exit id,ms)
  | _,.ret,ms=>some (.ret,ms)
  | _,_,_=>none
end
theorem zKu:∀ (l:List Nat) (m t:Nat),(t∈l∨t<m)→t<l.foldl (fun m t=>max m (t+1)) m
  | [],m,t,h=>h.elim (fun h=>by cases h) id
  | x :: l,m,t,h=>by
    rw [List.foldl_cons];refine zKu l _ t ?_;rcases h with h | h
    · rcases List.mem_cons.1 h with rfl | h
      · exact .inr (by omega)
      · exact .inl h
    · exact .inr (by omega)
theorem zX2 (l:List Nat)(r:Nat):(zDq l).getD r false=l.contains r:=by
  unfold zDq;rw [List.getD_eq_getElem?_getD,List.getElem?_map];by_cases hr:r<yRb l
  · simp [List.getElem?_range,hr]
  · have:r∉l:=fun h=>hr (zKu l 0 r (.inl h));simp [List.getElem?_range,hr,this]
theorem zRx {w0:Base}{I0:Nat→Prop}{w:World}{I:Nat→Prop}:∀ (ps:List Nat) (xs:List D) (us:List Value) {s:List D} {tm:Array Value} {Fs:Nat→List Nat},RelI w0 I0 s tm w I Fs→Vals I w xs nil us []→xs.length=ps.length →
    ∃ Fs',RelI w0 I0 (zC4 s ps xs) ((ps.zip us).foldl (fun t (p,v)=>t.setIfInBounds p v) tm) w I Fs'
  | [],[],us,s,tm,Fs,h,hV,_=>⟨Fs,by simpa [zC4] using h⟩
  | [],x::xs,us,s,tm,Fs,h,hV,hl=>by cases hl
  | p::ps,[],us,s,tm,Fs,h,hV,hl=>by cases hl
  | p::ps,x::xs,us,s,tm,Fs,h,hV,hl=>by
    simp only [Vals] at hV;obtain ⟨u,us',F1,F2,rfl,hF,hT,hV'⟩:=hV;have hF':=(List.append_eq_nil_iff.1 hF.symm)
    rw [hF'.1] at hT;rw [hF'.2] at hV';obtain ⟨Fs1,h1⟩:=yJ5 (a:={ tmps:=tm,defers:=[] }) h p (hT.res (fun _ _ h=>h.elim)) Fresh.nil;obtain ⟨Fs2,h2⟩:=zRx ps xs us' h1 hV' (by simpa using hl);exact ⟨Fs2,by simpa [zC4,List.zip_cons_cons] using h2⟩
theorem zWi {T:List Nat}:∀ (ps:List Nat) (us:List Value) {t0 tm:Array Value},(∀ p,p∈ps→p∈T)→agr T t0 tm→agr T t0 ((ps.zip us).foldl (fun t (p,v)=>t.setIfInBounds p v) tm)
  | [],us,t0,tm,_,h=>h
  | p::ps,[],t0,tm,_,h=>h
  | p::ps,u::us,t0,tm,hp,h=>by rw [List.zip_cons_cons,List.foldl_cons];exact zWi ps us (fun q hq=>hp q (by simp [hq])) (h.set (hp p (by simp)) u)
section
variable {P:Program} {G:World→(Nat→Prop)→Prop}
theorem RelR.back {Pr:List (Nat×Obj)}{w0:Base}{I0:Nat→Prop}{s:List D}{a:Act}{w:World}(h:RelR Pr w0 I0 s a w){T:List Nat}{t:Array Value}(ha:agr T t a.tmps):RelR Pr w0 I0 (clr (zDq T) s) { tmps:=t,defers:=a.defers } w:=by
  obtain ⟨Ds,I,Fs,hd,hnd,hR,hP⟩:=h;have hget:∀ r d,(clr (zDq T) s)[r]?=some d→d=.undef∨(r∉T∧∃ d',s[r]?=some d'∧d=d'.prune (zA3 (zDq T))):=by
    intro r d h1;unfold clr at h1;rw [zCq] at h1;cases hs:s[r]? with
    | none=>simp [hs] at h1
    | some d' =>
      simp only [hs,Option.map_some,Option.some.injEq] at h1;by_cases hm:(zDq T).getD r false=true
      · rw [if_pos hm] at h1;exact .inl h1.symm
      · rw [if_neg hm] at h1;refine .inr ⟨fun hr=>hm ?_,d',rfl,h1.symm⟩;rw [zX2];simpa using hr
  have hc:=hR.clr (zDq T);refine ⟨Ds,I,_,hd,hnd,hc.tmps ha.1.symm (fun r d h1=>?_) (fun r h1=>?_),fun p hp=>?_⟩
  · rcases hget r d h1 with h2 | ⟨hr,_⟩
    · exact .inl h2
    · exact .inr (ha.2 r hr).symm
  · show (if (zDq T).getD r false then [] else Fs r)=[]
    split
    · rfl
    · rename_i hm;have hlt:r<a.tmps.size:=by have:=(List.getElem?_eq_some_iff.1 h1).1;rw [hc.len];exact this
      have:=hc.slot r _ _ h1 (Array.getElem?_eq_getElem hlt);simp only [Go.V.T,if_neg hm] at this;exact this
  · obtain ⟨h1,h2,h3,h4⟩:=hP p hp;refine ⟨h1,h2,fun r hr=>?_,h4⟩;split at hr
    · cases hr
    · exact h3 r hr
theorem RelR.nle {Pr:List (Nat×Obj)}{w0:Base}{I0:Nat→Prop}{s s1:List D}{a:Act}{w:World}(h:RelR Pr w0 I0 s a w)(hl:zC7 s s1):RelR Pr w0 I0 s1 a w:=by obtain ⟨Ds,I,Fs,hd,hnd,hR,hP⟩:=h;exact ⟨Ds,I,Fs,hd,hnd,hR.nle hl,hP⟩
theorem RelR.clr {Pr:List (Nat×Obj)}{w0:Base}{I0:Nat→Prop}{s:List D}{a:Act}{w:World}(h:RelR Pr w0 I0 s a w)(m:List Bool):RelR Pr w0 I0 (clr m s) a w:=by
  obtain ⟨Ds,I,Fs,hd,hnd,hR,hP⟩:=h;refine ⟨Ds,I,_,hd,hnd,hR.clr m,fun p hp=>?_⟩;obtain ⟨h1,h2,h3,h4⟩:=hP p hp;refine ⟨h1,h2,fun r hr=>?_,h4⟩;split at hr
  · cases hr
  · exact h3 r hr
theorem RelR.putL {w0:Base}{I0:Nat→Prop}{s:List D}{a:Act}{w:World}{L:Nat}{r:Loop}{M:List (Nat×Obj)}(h:RelR ((L,.loop r)::M) w0 I0 s a w)(hM:∀ p,p∈M→p.1≠L)(r':Loop):RelR ((L,.loop r')::M) w0 I0 s a (w.putObj L (.loop r')):=by
  obtain ⟨Ds,I,Fs,hd,hnd,hR,hP⟩:=h;obtain ⟨k1,k2,k3,k4⟩:=hP (L,.loop r) (by simp);have hlt:=zDw k1;refine ⟨Ds,I,Fs,hd,hnd,hR.other ?_ (by simp) (fun b hb=>World.putObj_heap_other (fun e=>by
    subst e;rcases hb with hb | ⟨q,hb⟩
    · exact k2 hb
    · exact k3 q hb)),fun p hp=>?_⟩
  · exact ⟨hR.below.os,hR.below.tape,hR.below.output,by simpa using hR.below.size,fun i hi=>(World.putObj_heap_other (fun e=>by subst e;exact hi k4)).trans (hR.below.block i hi)⟩
  · rw [List.cons_append] at hp;rcases List.mem_cons.1 hp with rfl | hp
    · exact ⟨World.putObj_heap_same hlt,k2,k3,k4⟩
    · obtain ⟨h1,h2,h3,h4⟩:=hP p (by rw [List.cons_append];exact List.mem_cons_of_mem _ hp);refine ⟨(World.putObj_heap_other (fun e=>?_)).trans h1,h2,h3,h4⟩;rcases List.mem_append.1 hp with hp | hp
      · exact hM p hp (by first | exact e | exact e.symm)
      · obtain ⟨D,_,rfl⟩:=List.mem_map.1 hp;simp only [zJw] at e h1;subst e;rw [k1] at h1;cases h1
theorem RelR.sub {w0:Base}{I0:Nat→Prop}{s:List D}{a:Act}{w:World}{x:Nat×Obj}{M:List (Nat×Obj)}(h:RelR (x::M) w0 I0 s a w):RelR [x] w0 I0 s a w:=by
  obtain ⟨Ds,I,Fs,hd,hnd,hR,hP⟩:=h;refine ⟨Ds,I,Fs,hd,hnd,hR,fun p hp=>hP p ?_⟩;rcases List.mem_append.1 hp with hp | hp
  · rw [List.mem_singleton.1 hp];simp
  · exact List.mem_append_right _ hp
theorem RelR.grow {w0:Base}{I0:Nat→Prop}{Pr:List (Nat×Obj)}{s:List D}{a:Act}{w w':World}(h:RelR Pr w0 I0 s a w)(hb:Go.RowKit.Below w.heap.size w w'):RelR Pr w0 I0 s a w':=by obtain ⟨Ds,I,Fs,hd,hnd,hR,hP⟩:=h;refine ⟨Ds,I,Fs,hd,hnd,hR.world hb,fun p hp=>?_⟩;obtain ⟨h1,h2,h3,h4⟩:=hP p hp;exact ⟨(hb.block _ (zDw h1)).trans h1,h2,h3,h4⟩
theorem RelR.add {w0:Base}{I0:Nat→Prop}{s:List D}{a:Act}{w:World}{x:Nat×Obj}{M:List (Nat×Obj)}(h:RelR (x::M) w0 I0 s a w)(o:Obj):RelR (x::(w.heap.size,o)::M) w0 I0 s a (w.alloc o):=by
  have hb:Go.RowKit.Below w.heap.size w (w.alloc o):=(Below.refl _ w).alloc (Nat.le_refl _) _;obtain ⟨Ds,I,Fs,hd,hnd,hR,hP⟩:=h;refine ⟨Ds,I,Fs,hd,hnd,hR.world hb,fun p hp=>?_⟩;have hcase:p=(w.heap.size,o)∨p∈x::M++Ds.map zJw:=by
    simp only [List.cons_append,List.mem_cons,List.mem_append] at hp ⊢;rcases hp with hp | hp | hp
    · exact .inr (.inl hp)
    · exact .inl hp
    · exact .inr (.inr hp)
  rcases hcase with rfl | hp
  · exact ⟨World.alloc_heap_new w o,fun hi=>by have:=hR.imm _ hi;simp only at this;omega,fun r hr=>by have:=(hR.own r _ hr).2.1;simp only at this;omega,Base.N_of hR.below (Nat.le_refl _)⟩
  · obtain ⟨h1,h2,h3,h4⟩:=hP p hp;exact ⟨(hb.block _ (zDw h1)).trans h1,h2,h3,h4⟩
theorem RelR.setM {w0:Base}{I0:Nat→Prop}{s:List D}{a:Act}{w:World}{L:Nat}{oL:Obj}{M1 M2:List (Nat×Obj)}{b:Nat}{cs:Array Value}{ty:TypeId}{fz:Nat×Nat}(h:RelR ((L,oL)::(M1++(b,.cells cs ty fz)::M2)) w0 I0 s a w)(hL:b≠L)(hn:((M1++(b,Obj.cells cs ty fz)::M2).map (·.1)).Nodup)(j:Nat)(v:Value):RelR ((L,oL)::(M1++(b,.cells (cs.setIfInBounds j v) ty fz)::M2)) w0 I0 s a (w.setCell ⟨b,j,none⟩ v):=by
  obtain ⟨Ds,I,Fs,hd,hnd,hR,hP⟩:=h;obtain ⟨k1,k2,k3,k4⟩:=hP (b,.cells cs ty fz) (by simp);have k1:w.heap[b]?=some (.cells cs ty fz):=k1;have hlt:=zDw k1;have hoth:∀ x,x≠b→(w.setCell ⟨b,j,none⟩ v).heap[x]?=w.heap[x]?:=fun x hx=>Below.heap_setCell _ _ _ _ hx;have hsz:(w.setCell ⟨b,j,none⟩ v).heap.size=w.heap.size:=(by simp [World.setCell]);have hsame:(w.setCell ⟨b,j,none⟩ v).heap[b]?=some (.cells (cs.setIfInBounds j v) ty fz):=(by obtain ⟨hlt',hk3⟩:=Array.getElem?_eq_some_iff.1 k1;show (w.heap.modify b _)[b]?=_;rw [Array.getElem?_eq_getElem (by rw [Array.size_modify];exact hlt'),Array.getElem_modify_self,hk3];rfl);refine ⟨Ds,I,Fs,hd,hnd,hR.other ?_ (by rw [hsz];exact Nat.le_refl _) (fun x hx=>hoth x (fun e=>by
    subst e;rcases hx with hx | ⟨q,hx⟩
    · exact k2 hx
    · exact k3 q hx)),fun p hp=>?_⟩
  · exact ⟨hR.below.os,hR.below.tape,hR.below.output,by rw [hsz];exact hR.below.size,fun i hi=>(hoth i (fun e=>by subst e;exact hi k4)).trans (hR.below.block i hi)⟩
  · have hcase:p=(b,.cells (cs.setIfInBounds j v) ty fz)∨(p∈((L,oL)::(M1++(b,Obj.cells cs ty fz)::M2))++Ds.map zJw∧p.1≠b):=by
      rw [List.map_append,List.map_cons,List.nodup_append] at hn;obtain ⟨n1,n2,n3⟩:=hn;have n2':=List.nodup_cons.1 n2;simp only [List.cons_append,List.mem_cons,List.mem_append] at hp ⊢;rcases hp with hp | (hp | hp | hp) | hp
      · exact .inr ⟨.inl hp,by rw [hp];exact fun e=>hL e.symm⟩
      · exact .inr ⟨.inr (.inl (.inl hp)),fun e=>n3 b (List.mem_map.2 ⟨p,hp,e⟩) b (by simp) rfl⟩
      · exact .inl hp
      · exact .inr ⟨.inr (.inl (.inr (.inr hp))),fun e=>n2'.1 (List.mem_map.2 ⟨p,hp,e⟩)⟩
      · refine .inr ⟨.inr (.inr hp),fun e=>?_⟩;obtain ⟨D,_,rfl⟩:=List.mem_map.1 hp;have h1:=(hP (zJw D) (List.mem_append_right _ hp)).1;simp only [zJw] at e h1;rw [e,k1] at h1;cases h1
    rcases hcase with rfl | ⟨hp,hne⟩
    · exact ⟨hsame,k2,k3,k4⟩
    · obtain ⟨h1,h2,h3,h4⟩:=hP p hp;exact ⟨(hoth _ hne).trans h1,h2,h3,h4⟩
theorem RelR.drop {w0:Base}{I0:Nat→Prop}{Pr:List (Nat×Obj)}{s:List D}{a:Act}{w:World}(h:RelR Pr w0 I0 s a w):RelR Pr w0 I0 s { tmps:=a.tmps,defers:=[] } w:=by obtain ⟨Ds,I,Fs,hd,hnd,hR,hP⟩:=h;exact ⟨[],I,Fs,rfl,List.nodup_nil,hR,fun p hp=>hP p (List.mem_append_left _ (by simpa using hp))⟩
theorem RelR.obj {w0:Base}{I0:Nat→Prop}{L:Nat}{o:Obj}{M:List (Nat×Obj)}{s:List D}{a:Act}{w:World}(h:RelR ((L,o)::M) w0 I0 s a w):w.heap[L]?=some o:=by obtain ⟨Ds,I,Fs,hd,hnd,hR,hP⟩:=h;exact (hP (L,o) (by simp)).1
theorem RelR.bel {w0:Base}{I0:Nat→Prop}{Pr:List (Nat×Obj)}{s:List D}{a:Act}{w:World}(h:RelR Pr w0 I0 s a w):w0.Below w:=by obtain ⟨Ds,I,Fs,hd,hnd,hR,hP⟩:=h;exact hR.below
theorem yEe (ps:Array Nat)(us:List Value)(tm:Array Value):(ps.zip us.toArray).foldl (fun t (p,v)=>t.setIfInBounds p v) tm=(ps.toList.zip us).foldl (fun t (p,v)=>t.setIfInBounds p v) tm:=by rw [← Array.foldl_toList,Array.toList_zip]
theorem zC3 {pt:Nat}:∀ (c:Code) (rnd:Bool) (ro:Option Nat) (n:Nat) (w0:Base) (I0:Nat→Prop) (Pr:List (Nat×Obj)) (T:List Nat) (t0:Array Value) (ms ms':List (List Bool)) (vc:VCode) (VQ:VExit→List D→Prop) (Q:Exit→Act→World→Prop) (s:List D) (a:Act) (w:World),
    (rnd=false→ro=none)→(∀ w',w0.Below w'→GI G w' I0)→zBl P pt rnd c ms=some (vc,ms')→okR T c=true→vc.wp (CT P G) VQ s→RelR Pr w0 I0 s a w→agr T t0 a.tmps→(∀ e s a w,VQ e s→RelR Pr w0 I0 s a w→agr T t0 a.tmps→Q e.to a w)→c.wpIn (FR ro) n P Q a w
  | .skip,rnd,ro,n,w0,I0,Pr,T,t0,ms,ms',vc,VQ,Q,s,a,w,hro,hcl,hc,hT,hk,h,ha,hQ=>by simp only [zBl,Option.some.injEq,Prod.mk.injEq] at hc;obtain ⟨rfl,_⟩:=hc;exact wpIn_skip (hQ .normal s a w hk h ha)
  | .region id ops draw,rnd,ro,n,w0,I0,Pr,T,t0,ms,ms',vc,VQ,Q,s,a,w,hro,hcl,hc,hT,hk,h,ha,hQ=>by
    have hops:∀ o,o∈ops.toList→zTu o=true∧zYu T o=true:=(by intro o ho;simp only [okR,List.all_eq_true,Bool.and_eq_true] at hT;exact hT o ho);obtain ⟨wr,a0,ds,hbel,rfl,hat,hrel,hend⟩:=zVh (VQ:=VQ .normal) (A:=agr T t0) (Q':=Q) h (fun s a w hk h ha=>hQ .normal s a w hk h ha);have hcl':∀ w',wr.Below w'→GI G w' I0:=fun w' hw'=>hcl w' (hbel w' hw');have hn:NoX (fun e a' w'=>e=Exit.normal∧∃ s',VQ .normal s'∧Rel wr I0 s' a' w'):=fun e a w h=>h.1;have ha0:agr T t0 a0.tmps:=(by rw [hat];exact ha);cases draw with
    | true =>
      simp only [zBl] at hc;cases hl:zPa P (pt.testBit (2*id+1)) (pt.testBit (2*id)) ops with
      | none=>cases rnd<;>simp [hl] at hc
      | some l =>
        have hc':l=vc:=by cases rnd<;>(simp only [hl,Option.some.injEq,Prod.mk.injEq] at hc;exact hc.1)
        subst hc';have:=zOh (Q:=fun e a' w'=>e=Exit.normal∧∃ s',VQ .normal s'∧Rel wr I0 s' a' w') hcl' hl hn hk (fun s a w hk h=>⟨rfl,s,hk,h⟩) hrel;exact wpIn_region_any this.1 (zWg (T:=T) (t0:=t0) hn (fun a' w' hq hag=>hend a' w' hq.2 hag) (fun o ho=>hops o (by simpa using ho)) _ _ a0 _ ha0 this.2)
    | false =>
      simp only [zBl] at hc;cases hl:zQl P ops ops.toList with
      | none=>cases rnd<;>simp [hl] at hc
      | some l =>
        have hc':VCode.ops l=vc:=by cases rnd<;>(simp only [hl,Option.some.injEq,Prod.mk.injEq] at hc;exact hc.1)
        subst hc';simp only [VCode.wp] at hk;exact wpIn_region_list (zT4 (T:=T) (t0:=t0) hn (fun a' w' hq hag=>hend a' w' hq.2 hag) _ a0 w hops ha0 (zF4 hcl' ops (KK:=VQ .normal) (fun s a w hk h=>⟨rfl,s,hk,h⟩) ops.toList l s a0 w hl hk hrel))
  | .seq x y,rnd,ro,n,w0,I0,Pr,T,t0,ms,ms',vc,VQ,Q,s,a,w,hro,hcl,hc,hT,hk,h,ha,hQ=>by
    simp only [okR,Bool.and_eq_true] at hT;simp only [zBl] at hc;cases hx:zBl P pt rnd x ms with
    | none=>cases rnd<;>simp [hx] at hc
    | some r =>
      obtain ⟨vx,ms1⟩:=r;cases hy:zBl P pt rnd y ms1 with
      | none=>cases rnd<;>simp [hx,hy] at hc
      | some r =>
        obtain ⟨vy,ms2⟩:=r;have hc':VCode.seq vx vy=vc:=by cases rnd<;>(simp only [hx,hy,Option.some.injEq,Prod.mk.injEq] at hc;exact hc.1)
        subst hc';simp only [VCode.wp] at hk;refine wpIn_seq (zC3 x rnd ro n w0 I0 Pr T t0 ms ms1 vx _ _ s a w hro hcl hx hT.1 hk h ha ?_);intro e s' a' w' hq hr hag;cases e with
        | normal=>exact zC3 y rnd ro n w0 I0 Pr T t0 ms1 ms2 vy VQ Q s' a' w' hro hcl hy hT.2 hq hr hag hQ
        | exit id=>exact hQ (.exit id) s' a' w' hq hr hag
        | ret=>exact hQ .ret s' a' w' hq hr hag
  | .cond c x y,rnd,ro,n,w0,I0,Pr,T,t0,ms,ms',vc,VQ,Q,s,a,w,hro,hcl,hc,hT,hk,h,ha,hQ=>by
    simp only [okR,Bool.and_eq_true] at hT;simp only [zBl] at hc;cases hx:zBl P pt rnd x ms with
    | none=>cases rnd<;>simp [hx] at hc
    | some r =>
      obtain ⟨vx,ms1⟩:=r;cases hy:zBl P pt rnd y ms1 with
      | none=>cases rnd<;>simp [hx,hy] at hc
      | some r =>
        obtain ⟨vy,ms2⟩:=r;have hc':VCode.cond c vx vy=vc:=by cases rnd<;>(simp only [hx,hy,Option.some.injEq,Prod.mk.injEq] at hc;exact hc.1)
        subst hc';simp only [VCode.wp] at hk;obtain ⟨Ds,I,Fs,hd,hnd,hR,hP⟩:=h;have hTc:=zCc hR c;split at hk
        · rename_i t e;rw [e] at hTc;refine wpIn_cond_split (T_v hTc).1 (fun ht=>?_) (fun ht=>?_)
          · exact zC3 x rnd ro n w0 I0 Pr T t0 ms ms1 vx VQ Q s a w hro hcl hx hT.1 (hk.1 ht) ⟨Ds,I,Fs,hd,hnd,hR,hP⟩ ha hQ
          · exact zC3 y rnd ro n w0 I0 Pr T t0 ms1 ms2 vy VQ Q s a w hro hcl hy hT.2 (hk.2 ht) ⟨Ds,I,Fs,hd,hnd,hR,hP⟩ ha hQ
        · exact hk.elim
  | .block id c,rnd,ro,n,w0,I0,Pr,T,t0,ms,ms',vc,VQ,Q,s,a,w,hro,hcl,hc,hT,hk,h,ha,hQ=>by
    simp only [okR] at hT;simp only [zBl] at hc;cases hx:zBl P pt rnd c ms with
    | none=>cases rnd<;>simp [hx] at hc
    | some r =>
      obtain ⟨vx,ms1⟩:=r;have hc':VCode.block id vx=vc:=by cases rnd<;>(simp only [hx,Option.some.injEq,Prod.mk.injEq] at hc;exact hc.1)
      subst hc';simp only [VCode.wp] at hk;refine wpIn_block (zC3 c rnd ro n w0 I0 Pr T t0 ms ms1 vx _ _ s a w hro hcl hx hT hk h ha ?_);intro e s' a' w' hq hr hag;cases e with
      | normal=>exact hQ .normal s' a' w' hq hr hag
      | ret=>exact hQ .ret s' a' w' hq hr hag
      | exit i =>
        simp only [zLy] at hq;by_cases hi:i=id
        · rw [if_pos hi] at hq;simp only [VExit.to,Exit.inBlock,hi,if_true];exact hQ .normal s' a' w' hq hr hag
        · rw [if_neg hi] at hq;simp only [VExit.to,Exit.inBlock,hi,if_false];exact hQ (.exit i) s' a' w' hq hr hag
  | .loop c,rnd,ro,n,w0,I0,Pr,T,t0,ms,ms',vc,VQ,Q,s,a,w,hro,hcl,hc,hT,hk,h,ha,hQ=>by
    simp only [okR] at hT;simp only [zBl] at hc;cases ms with
    | nil=>cases rnd<;>simp at hc
    | cons m ms =>
      cases hx:zBl P pt rnd c ms with
      | none=>cases rnd<;>simp [hx] at hc
      | some r =>
        obtain ⟨vx,ms1⟩:=r;have hc':VCode.loop m vx=vc:=by cases rnd<;>(simp only [hx,Option.some.injEq,Prod.mk.injEq] at hc;exact hc.1)
        subst hc';simp only [VCode.wp] at hk;obtain ⟨J,⟨k,s1,hle,h0⟩,hround⟩:=hk;refine wpIn_loop_ghost (fun n a w=>∃ s,J n s∧RelR Pr w0 I0 s a w∧agr T t0 a.tmps) k ⟨_,h0,(h.clr m).nle hle,ha⟩ ?_;rintro k a w ⟨s,hJ,hr,hag⟩;refine zC3 c rnd ro n w0 I0 Pr T t0 ms ms1 vx _ _ s a w hro hcl hx hT (hround k s hJ) hr hag ?_;intro e s' a' w' hq hr' hag';cases e with
        | normal=>obtain ⟨m',hlt,s1,hle,hJ'⟩:=hq;exact ⟨m',hlt,_,hJ',(hr'.clr m).nle hle,hag'⟩
        | exit id=>exact hQ (.exit id) s' a' w' hq hr' hag'
        | ret=>exact hQ .ret s' a' w' hq hr' hag'
  | .exit id,rnd,ro,n,w0,I0,Pr,T,t0,ms,ms',vc,VQ,Q,s,a,w,hro,hcl,hc,hT,hk,h,ha,hQ=>by
    have hc':VCode.exit id=vc:=by cases rnd<;>(simp only [zBl,Option.some.injEq,Prod.mk.injEq] at hc;exact hc.1)
    subst hc';exact wpIn_exit (hQ (.exit id) s a w hk h ha)
  | .ret,rnd,ro,n,w0,I0,Pr,T,t0,ms,ms',vc,VQ,Q,s,a,w,hro,hcl,hc,hT,hk,h,ha,hQ=>by
    have hc':VCode.ret=vc:=by cases rnd<;>(simp only [zBl,Option.some.injEq,Prod.mk.injEq] at hc;exact hc.1)
    subst hc';exact wpIn_ret (hQ .ret s a w hk h ha)
  | .rangeFunc g ps ca cb,true,ro,n,w0,I0,Pr,T,t0,ms,ms',vc,VQ,Q,s,a,w,hro,hcl,hc,hT,hk,h,ha,hQ=>by simp [zBl] at hc
  | .rangeFunc g ps ca cb,false,ro,n,w0,I0,Pr,T,t0,ms,ms',vc,VQ,Q,s,a,w,hro,hcl,hc,hT,hk,h,ha,hQ=>by
    obtain rfl:=hro rfl;simp only [zBl] at hc;split at hc
    case isFalse=>cases hc
    rename_i hok;simp only [Bool.and_eq_true] at hok;obtain ⟨hoka,hokb⟩:=hok;cases hx:zBl P pt true ca ms with
    | none=>simp [hx] at hc
    | some r =>
    obtain ⟨va,ms1⟩:=r;cases hy:zBl P pt true cb ms1 with
    | none=>simp [hx,hy] at hc
    | some r =>
    obtain ⟨vb,ms2⟩:=r;simp only [hx,hy,Option.some.injEq,Prod.mk.injEq] at hc;obtain ⟨rfl,_⟩:=hc;simp only [VCode.wp] at hk;obtain ⟨T',hT'⟩:∃ T',T'=ps.toList++zBw ca++zBw cb:=⟨_,rfl⟩
    have hps:∀ p,p∈ps.toList→p∈T':=fun p hp=>by rw [hT'];simp [hp]
    rw [← hT'] at hoka hokb hk;clear hT';obtain ⟨Ds,I,Fs,hd,hnd,hR,hP⟩:=h
    -- what the function value keeps of its own: X; the slots without it
    obtain ⟨F,caps,us,X,sX,FsX,xs,hev,hit,hV,hXn,hXo,hRX,hXF,hsubX,hlen,J,⟨s1,hle,hJ0⟩,hround,hdone⟩:∃ (F:FuncId) (caps:List D) (us:List Value) (X:List Nat) (sX:List D) (FsX:Nat→List Nat) (xs:List (List D)),a.eval g=.func (.func F) #[] us.toArray∧yJs P G F (zAh (fun _=>false) caps) xs∧Vals I w (zAh (fun _=>false) caps) nil us X∧X.Nodup∧(∀ b,b∈X→(∃ r,b∈Fs r))∧RelI w0 I0 sX a.tmps w I FsX∧(∀ b,b∈X→∀ r,b∉FsX r)∧(∀ r b,b∈FsX r→b∈Fs r)∧(∀ x,x∈xs→x.length=ps.toList.length)∧∃ J:Nat→List D→Prop,(∃ s1,zC7 (clr (zDq T') sX) s1∧J 0 s1) ∧
        (∀ i s' x,J i s'→xs[i]?=some x→va.wp (CT P G) (zJf (vb.wp (CT P G) (zKm (zDq T') (J (i+1)) VQ)) (fun _ _=>False)) (zC4 s' ps.toList x))∧(∀ s',J xs.length s'→VQ .normal s'):=by
      rcases hk with hk | ⟨tg,F,caps,rfl,hsg,xs,hit,hlen,J,h0,hround,hdone⟩
      · have hTg:=zCc hR g;split at hk
        case h_2=>exact hk.elim
        rename_i F caps elk;obtain ⟨xs,hit,hlen,J,h0,hround,hdone⟩:=hk;rw [elk] at hTg;simp only [Go.V.T] at hTg;obtain ⟨us0,us,F1,F2,hev,hFF,hV0,hV⟩:=hTg;have hFF':=List.append_eq_nil_iff.1 hFF.symm;rw [hFF'.2] at hV;simp only [Vals] at hV0;obtain ⟨rfl,_⟩:=hV0;exact ⟨F,caps,us,[],s,Fs,xs,hev,hit,Vals.turn (ρ':=nil) (fun x v hq _=>by cases hq) caps hV,List.nodup_nil,(fun b hb=>by cases hb),hR,(fun b hb=>by cases hb),(fun _ _ h=>h),hlen,J,h0,hround,hdone⟩
      · obtain ⟨u,hu,hTg⟩:=hR.slot0 hsg;simp only [Go.V.T] at hTg;obtain ⟨us0,us,F1,F2,hev,hFF,hV0,hV⟩:=hTg;simp only [Vals] at hV0;obtain ⟨rfl,rfl⟩:=hV0;rw [List.nil_append] at hFF;have hg:a.eval (.tmp tg)=u:=(by simp [Act.eval,hu]);refine ⟨F,caps,us,Fs tg,_,upd Fs tg [],xs,by rw [hg,hev],hit,by rw [hFF];exact Vals.turn (ρ':=nil) (fun x v hq _=>by cases hq) caps hV,hR.nd tg,fun b hb=>⟨tg,hb⟩,hR.forget tg,fun b hb r hr=>?_,fun r b hb=>?_,hlen,J,h0,hround,hdone⟩
        · unfold upd at hr;split at hr
          · cases hr
          · rename_i hne;exact hne (hR.disj r tg b hr hb)
        · unfold upd at hb;split at hb
          · cases hb
          · exact hb
    obtain ⟨hen,hit⟩:=hit;have hXo2:∀ b,b∈X→b<w.heap.size∧¬ I b:=fun b hb=>by obtain ⟨r,hr⟩:=hXo b hb;exact ⟨(hR.own r b hr).2.1,(hR.own r b hr).2.2⟩
    obtain ⟨encs,henc,hiter⟩:=hit w I us X ((hcl w hR.below).mono hR.imm0) hR.imm hV hXn hXo2;obtain ⟨M0,hM0X,hM0⟩:∃ M0:List (Nat×Obj),M0.map (·.1)=X∧∀ p,p∈M0→w.heap[p.1]?=some p.2:=by
      clear hXn hXo hXF hV hiter hit;induction X with
      | nil=>exact ⟨[],rfl,fun p hp=>by cases hp⟩
      | cons b X ih =>
        obtain ⟨M,h1,h2⟩:=ih (fun b hb=>hXo2 b (by simp [hb]));have hlt:=(hXo2 b (by simp)).1;refine ⟨(b,w.heap[b])::M,by simp [h1],fun p hp=>?_⟩;rcases List.mem_cons.1 hp with rfl | hp
        · exact Array.getElem?_eq_getElem hlt
        · exact h2 p hp
    refine wpIn_rangeFunc ?_;intro fn hfn;obtain ⟨rec,hrec⟩:∃ rec:LoopState→Option Code→Loop,rec=fun st pe=>{ state:=st,pending:=pe,fn,tmps:=a.tmps,params:=ps,assign:=ca,body:=cb,defers:=w.heap.size }:=⟨_,rfl⟩
    obtain ⟨W1,hW1⟩:∃ W1,(w.alloc (.deferred (some []))).alloc (.loop (rec .ready none))=W1:=⟨_,rfl⟩
    have hL1:W1.heap[w.heap.size+1]?=some (.loop (rec .ready none)):=(by rw [← hW1];have:=World.alloc_heap_new (w.alloc (.deferred (some []))) (.loop (rec .ready none));rwa [World.size_alloc] at this);have hK1:W1.heap[w.heap.size]?=some (.deferred (some [])):=(by rw [← hW1];exact (Below.heap_alloc _ _ _ (by simp)).trans (World.alloc_heap_new w _));have hbw:Go.RowKit.Below w.heap.size w W1:=(by rw [← hW1];exact ((Below.refl _ w).alloc (Nat.le_refl _) _).alloc (by simp) _);have hszW:W1.heap.size=w.heap.size+2:=(by rw [← hW1];simp);have hR1:=hR.world hbw
    -- the base of the rounds
    obtain ⟨wB,hwB⟩:∃ wB:Base,wB=⟨W1,fun b=>(∃ r,b∈Fs r)∨b=w.heap.size+1∨W1.heap.size≤b,fun _ h=>.inr (.inr h)⟩:=⟨_,rfl⟩
    have hwBw:wB.w=W1:=(by rw [hwB]);have hNB:∀ b,wB.N b→w0.N b:=by
      intro b hb;rw [hwB] at hb;rcases hb with ⟨r,hb⟩ | rfl | hb
      · exact (hR.own r b hb).1
      · exact Base.N_of hR.below (by omega)
      · exact Base.N_of hR1.below hb
    have hcomp:∀ w',wB.Below w'→w0.Below w':=fun w' h'=>Base.comp (by rw [hwBw];exact hR1.below) hNB h';have hIN:∀ b,I b→¬ wB.N b:=by
      intro b hb hn;rw [hwB] at hn;have:=hR.imm b hb;rcases hn with ⟨r,hr⟩ | rfl | hn
      · exact (hR.own r b hr).2.2 hb
      · omega
      · omega
    have hclB:∀ w',wB.Below w'→GI G w' I:=fun w' h'=>(hcl w' (hcomp w' h')).mono hR.imm0;have hRB:RelR ((w.heap.size+1,.loop (rec .ready none))::M0) wB I s1 { tmps:=a.tmps,defers:=[] } W1:=by
      have h0:RelR ((w.heap.size+1,.loop (rec .ready none))::M0) wB I sX { tmps:=a.tmps,defers:=[] } W1:=by
       refine ⟨[],I,FsX,rfl,List.nodup_nil,(hRX.world hbw).base (w1:=wB) (by rw [hwB];exact Base.Below.refl) (fun r b hb=>by rw [hwB];exact .inl ⟨r,hsubX r b hb⟩) (fun _ h=>h) (fun _ h=>.inl h),fun p hp=>?_⟩;simp only [List.map_nil,List.append_nil] at hp;rcases List.mem_cons.1 hp with rfl | hp
       · refine ⟨hL1,fun hi=>by have:=hR.imm _ hi;simp only at this;omega,fun r hr=>by have:=(hR.own r _ (hsubX r _ hr)).2.1;simp only at this;omega,by rw [hwB];exact .inr (.inl rfl)⟩
       · have hpX:p.1∈X:=(by rw [← hM0X];exact List.mem_map_of_mem hp);have h1:=hM0 p hp;exact ⟨(hbw.block _ (zDw h1)).trans h1,(hXo2 _ hpX).2,hXF _ hpX,by rw [hwB];exact .inl (hXo _ hpX)⟩
      exact (h0.clr _).nle hle
    -- what holds between the rounds
    have hins:=hiter (w.heap.size+1)
      (fun k M W=>((∀ p,p∈M→p.1≠w.heap.size+1)∧(M.map (·.1)).Nodup)∧∃ s',J k s'∧RelR ((w.heap.size+1,.loop (rec .ready none))::M) wB I s' { tmps:=a.tmps,defers:=[] } W)
      (fun W=>∃ (e:VExit) (s':List D) (c:Code),((e=.ret∧c=.ret)∨∃ id,e=.exit id∧c=.exit id)∧VQ e s'∧RelR [(w.heap.size+1,.loop (rec .done (some c)))] wB I s' { tmps:=a.tmps,defers:=[] } W)
      W1 M0 hbw hM0X hM0 (fun k M1 M2 b cs ty fz A j v hJ=>by
        obtain ⟨⟨hM,hn⟩,s',h1,h2⟩:=hJ;have e:(M1++(b,Obj.cells (cs.setIfInBounds j v) ty fz)::M2).map (·.1)=(M1++(b,Obj.cells cs ty fz)::M2).map (·.1):=(by simp);refine ⟨⟨fun p hp=>?_,by rw [e];exact hn⟩,s',h1,h2.setM (hM (b,.cells cs ty fz) (by simp)) hn j v⟩;have:p.1∈(M1++(b,Obj.cells cs ty fz)::M2).map (·.1):=(by rw [← e];exact List.mem_map_of_mem hp);obtain ⟨q,hq,hqe⟩:=List.mem_map.1 this;rw [← hqe];exact hM q hq) (fun k M A B hJ hb=>by obtain ⟨hM,s',h1,h2⟩:=hJ;exact ⟨hM,s',h1,h2.grow hb⟩) (fun k M A o hJ=>by
        obtain ⟨⟨hM,hn⟩,s',h1,h2⟩:=hJ;refine ⟨⟨fun p hp=>?_,?_⟩,s',h1,h2.add o⟩
        · rcases List.mem_cons.1 hp with rfl | hp
          · have:=zDw h2.obj;simp only;omega
          · exact hM p hp
        · rw [List.map_cons];refine List.nodup_cons.2 ⟨fun hm=>?_,hn⟩;obtain ⟨q,hq,hqe⟩:=List.mem_map.1 hm;obtain ⟨_,_,_,_,_,_,hP2⟩:=h2;have:=zDw (hP2 q (List.mem_append_left _ (List.mem_cons_of_mem _ hq))).1;simp only at hqe;omega) (fun k M A p hJ hp=>by
        obtain ⟨_,s',_,_,_,_,_,_,_,hP⟩:=hJ;exact (hP p (List.mem_append_left _ (List.mem_cons_of_mem _ hp))).1) (fun A B hJ hb=>by obtain ⟨e,s',c,h0,h1,h2⟩:=hJ;exact ⟨e,s',c,h0,h1,h2.grow hb⟩) ?_ ⟨⟨(fun p hp=>by have hpX:p.1∈X:=by { rw [← hM0X];exact List.mem_map_of_mem hp };have:=(hXo2 _ hpX).1;omega),by rw [hM0X];exact hXn⟩,s1,hJ0,hRB⟩
    · refine ⟨w.heap.size+1,[{ target:=.collected w.heap.size,args:=#[] }],W1,{ target:=.fn (.func F) us.toArray,args:=#[.func (.yield (w.heap.size+1)) #[] #[]] },W1,F,
        #[.func (.yield (w.heap.size+1)) #[] #[]]++us.toArray,W1,?_,?_,fun _ _=>trivial,?_,fun h=>absurd h (by simp [FR,Fence.wide]),?_⟩
      · rw [← hW1,hrec];exact run_enterLoop_outer _ _ _ _ _
      · simp only [resolve,hev];simp [go_sem]
      · simp [invoke,go_sem,hen]
      · have hins2:CallsIn Fence.wide (n-1) P F (#[.func (.yield (w.heap.size+1)) #[] #[]]++us.toArray) W1 (rangePost (FR none) n P (w.heap.size+1) Q { a with defers:=[{ target:=.collected w.heap.size,args:=#[] }]++a.defers }):=by
          refine callsIn_wide.2 (Calls.mono (callsIn_wide.1 hins) ?_)
          -- behind the loop
          have behind:∀ (s':List D) (W2:World) (st:LoopState) (pe:Option Code),RelR [(w.heap.size+1,.loop (rec st pe))] wB I s' { tmps:=a.tmps,defers:=[] } W2 →
              RelR Pr w0 I0 s' { a with defers:=[{ target:=.collected w.heap.size,args:=#[] }]++a.defers } (W2.putObj (w.heap.size+1) (.loop { rec st pe with state:=.exhausted })):=by
            intro s' W2 st pe h2;obtain ⟨Ds',I',Fs',hd',hnd',hR',hP'⟩:=RelR.putL h2 (fun p hp=>by cases hp) { rec st pe with state:=.exhausted };have hold:∀ (b:Nat) (o:Obj),W1.heap[b]?=some o→¬ I b→(∀ r,b∉Fs r)→b≠w.heap.size+1→(W2.putObj (w.heap.size+1) (.loop { rec st pe with state:=.exhausted })).heap[b]?=some o∧¬ I' b∧(∀ r,b∉Fs' r):=by
              intro b o h1 h2 h3 h4;have hnn:¬ wB.N b:=by
                rw [hwB];rintro (⟨r,hr⟩ | hr | hr)
                · exact h3 r hr
                · exact h4 hr
                · have:=zDw h1;omega
              refine ⟨?_,fun hi=>?_,fun r hr=>hnn (hR'.own r _ hr).1⟩
              · have:=hR'.below.block b hnn;rw [hwBw] at this;rw [this];exact h1
              · rcases hR'.immN _ hi with h0 | h0
                · exact h2 h0
                · exact hnn h0
            have hDlt:∀ D,D∈Ds→D<w.heap.size:=fun D hD=>zDw (hP (zJw D) (List.mem_append_right _ (List.mem_map.2 ⟨D,hD,rfl⟩))).1;refine ⟨w.heap.size::Ds,I',Fs',by simp [hd,mkD],List.nodup_cons.2 ⟨fun hm=>by have:=hDlt _ hm;omega,hnd⟩,?_,?_⟩
            · exact hR'.base (hcomp _ hR'.below) (fun r b hb=>hNB b (hR'.own r b hb).1) (fun b hb=>hR'.imm0 b (hR.imm0 b hb)) (fun b hb=>by
                rcases hR'.immN b hb with h0 | h0
                · exact hR.immN b h0
                · exact .inr (hNB b h0))
            · intro p hp;have hcase:p∈Pr++Ds.map zJw∨p=zJw w.heap.size:=by
                rcases List.mem_append.1 hp with hp | hp
                · exact .inl (List.mem_append_left _ hp)
                · rw [List.map_cons] at hp;rcases List.mem_cons.1 hp with rfl | hp
                  · exact .inr rfl
                  · exact .inl (List.mem_append_right _ hp)
              rcases hcase with hp | rfl
              · obtain ⟨h1,h2,h3,h4⟩:=hP p hp;have hlt:=zDw h1;obtain ⟨k1,k2,k3⟩:=hold p.1 p.2 ((hbw.block _ hlt).trans h1) h2 h3 (by omega);exact ⟨k1,k2,k3,h4⟩
              · obtain ⟨k1,k2,k3⟩:=hold w.heap.size _ hK1 (fun hi=>by have:=hR.imm _ hi;omega) (fun r hr=>by have:=(hR.own r _ hr).2.1;omega) (by omega);exact ⟨k1,k2,k3,Base.N_of hR.below (Nat.le_refl _)⟩
          rintro e W2 ⟨⟨v,rfl⟩,(⟨M,_,s',hJ,h2⟩ | ⟨e,s',c,hec,hq,h2⟩)⟩
          · replace h2:=h2.sub
            obtain ⟨_,_,_,_,_,_,hP2⟩:=h2;have hl:=(hP2 _ (List.mem_append_left _ (List.mem_singleton.2 rfl))).1;exact ⟨none,_,by have:=run_endLoop (P:=P) hl (by rw [hrec];simp);rw [hrec] at this ⊢;exact this,hQ .normal s' _ _ (hdone s' hJ) (behind s' W2 .ready none ⟨_,_,_,‹_›,‹_›,‹_›,hP2⟩) ha⟩
          · obtain ⟨_,_,_,_,_,_,hP2⟩:=h2;have hl:=(hP2 _ (List.mem_append_left _ (List.mem_singleton.2 rfl))).1;have hb:=behind s' W2 .done (some c) ⟨_,_,_,‹_›,‹_›,‹_›,hP2⟩;refine ⟨some c,W2.putObj (w.heap.size+1) (.loop { rec .done (some c) with state:=.exhausted }),by have:=run_endLoop (P:=P) hl (by rw [hrec];simp);rw [hrec] at this ⊢;exact this,?_⟩;rcases hec with ⟨rfl,rfl⟩ | ⟨id,rfl,rfl⟩
            · exact wpIn_ret (hQ .ret s' _ _ hq hb ha)
            · exact wpIn_exit (hQ (.exit id) s' _ _ hq hb ha)
        exact hins2
    · -- one round
      rintro k M W hk ⟨hM,s',hJ,hrel⟩;obtain ⟨x,hxk⟩:∃ x,xs[k]?=some x:=⟨xs[k],List.getElem?_eq_getElem hk⟩
      have hVx:=henc k x hxk;have hlx:=hlen x (List.mem_of_getElem? hxk);have hlu:(encs k).length=ps.size:=(by have:=hVx.len;rw [this,hlx];simp);obtain ⟨Ds0,I1,Fs1,hd1,hnd1,hR2,hP2⟩:=hrel;have hDs0:Ds0=[]:=by cases Ds0 with
        | nil=>rfl
        | cons D Ds0=>simp at hd1
      subst hDs0;have hl:=(hP2 _ (List.mem_append_left _ List.mem_cons_self)).1;have hyl:=run_yield (P:=P) (args:=(encs k).toArray) hl (by rw [hrec];simp [hlu]);rw [hrec] at hyl;simp only at hyl;rw [yEe] at hyl;refine ⟨fn,_,ca,cb,hyl,roundIn_of_wpIn trivial ?_⟩;clear hyl
      -- the values of the round, at their slots
      have hVxW:Vals I W x nil (encs k) []:=Vals.keep x hVx (fun b hb=>by
        rcases hb with hb | hb
        · have:=hR2.below.block b (hIN b hb);rw [hwBw] at this;exact this.trans (hbw.block b (hR.imm b hb))
        · cases hb)
      have hrel0:RelR ((w.heap.size+1,.loop (rec .ready none))::M) wB I s' { tmps:=a.tmps,defers:=[] } W:=⟨[],I1,Fs1,rfl,hnd1,hR2,hP2⟩
      have hput:RelR ((w.heap.size+1,.loop (rec .ready none))::M) wB I (zC4 s' ps.toList x) { tmps:=(ps.toList.zip (encs k)).foldl (fun t (p,v)=>t.setIfInBounds p v) a.tmps,defers:=[] } W:=(by obtain ⟨wr,a0,ds,hbel,ha0,hat,hrel1,hend⟩:=zVh (VQ:=fun s=>s=zC4 s' ps.toList x) (A:=fun _=>True) (Q':=fun _ a2 w2=>RelR ((w.heap.size+1,.loop (rec .ready none))::M) wB I (zC4 s' ps.toList x) a2 w2) hrel0 (fun s a w h hr _=>by rw [← h];exact hr);have hds:ds=[]:=(by have:=congrArg Act.defers ha0;simp only [zPh] at this;exact (List.append_eq_nil_iff.1 this.symm).2);subst hds;obtain ⟨_,I2,Fs2,hR3⟩:=hrel1;obtain ⟨Fs3,hR4⟩:=zRx ps.toList x (encs k) hR3 (Vals.mono hR3.imm0 _ hVxW) (by simpa using hlx);rw [hat] at hR4;exact hend { tmps:=(ps.toList.zip (encs k)).foldl (fun t (p,v)=>t.setIfInBounds p v) a.tmps,defers:=[] } W ⟨_,rfl,rfl,I2,Fs3,hR4⟩ trivial);have hkeep:∀ w',wB.Below w'→zZc I W w':=fun w' h' b hb=>(h'.block b (hIN b hb)).trans (hR2.below.block b (hIN b hb)).symm;refine zC3 ca true (some (w.heap.size+1)) 1 wB I _ T' a.tmps ms ms1 va _ _ _ _ W (fun h=>by cases h) hclB hx hoka (hround k s' x hJ hxk) hput (zWi ps.toList (encs k) hps agr.refl) ?_;intro e s2 a2 w2 hq hr2 hag2;cases e with
      | exit id=>exact hq.elim
      | ret=>exact hq.elim
      | normal =>
        have hl2:=hr2.obj;refine ⟨_,run_beginRound hl2 (by rw [hrec]),?_⟩;refine zC3 cb true (some (w.heap.size+1)) 1 wB I _ T' a.tmps ms1 ms2 vb (zKm (zDq T') (J (k+1)) VQ) _ s2 a2 _ (fun h=>by cases h) hclB hy hokb hq (hr2.putL hM.1 _) hag2 ?_;intro e s3 a3 w3 hq3 hr3 hag3;have hl3:=hr3.obj;cases e with
        | normal=>obtain ⟨s4,hle4,hJ4⟩:=hq3;have hfin:=(((hr3.back hag3).nle hle4).drop).putL hM.1 (rec .ready none);refine ⟨_,w3.putObj (w.heap.size+1) (.loop (rec .ready none)),by have:=run_endRound (P:=P) none hl3;rw [hrec] at this ⊢;exact this,.inl ⟨rfl,⟨hM,s4,hJ4,hfin⟩,hkeep _ hfin.bel⟩⟩
        | ret=>have hfin:=(((hr3.back hag3).drop).sub).putL (fun p hp=>by cases hp) (rec .done (some .ret));refine ⟨_,w3.putObj (w.heap.size+1) (.loop (rec .done (some .ret))),by have:=run_endRound (P:=P) (some .ret) hl3;rw [hrec] at this ⊢;exact this,.inr ⟨rfl,.ret,_,.ret,.inl ⟨rfl,rfl⟩,hq3,hfin⟩⟩
        | exit id=>have hfin:=(((hr3.back hag3).drop).sub).putL (fun p hp=>by cases hp) (rec .done (some (.exit id)));refine ⟨_,w3.putObj (w.heap.size+1) (.loop (rec .done (some (.exit id)))),by have:=run_endRound (P:=P) (some (.exit id)) hl3;rw [hrec] at this ⊢;exact this,.inr ⟨rfl,.exit id,_,.exit id,.inr ⟨id,rfl,rfl⟩,hq3,hfin⟩⟩
  | .scope _,rnd,_,_,_,_,_,_,_,_,_,_,_,_,_,_,_,_,_,hc,_,_,_,_,_=>by cases rnd<;>simp [zBl] at hc
  | .label _,rnd,_,_,_,_,_,_,_,_,_,_,_,_,_,_,_,_,_,hc,_,_,_,_,_=>by cases rnd<;>simp [zBl] at hc
  | .goto _,rnd,_,_,_,_,_,_,_,_,_,_,_,_,_,_,_,_,_,hc,_,_,_,_,_=>by cases rnd<;>simp [zBl] at hc
  | .refuse _,rnd,_,_,_,_,_,_,_,_,_,_,_,_,_,_,_,_,_,hc,_,_,_,_,_=>by cases rnd<;>simp [zBl] at hc
end
end Go.V
namespace Go.V
open Go.RowKit
section
variable {P:Program} {w0:Base} {I0:Nat→Prop} {s:List D} {a:Act} {w':World} {I':Nat→Prop} {Fs:Nat→List Nat}
theorem yW2 {fn:Func} {rvs:List RV} {KK:List D→List D→Prop} (hr:zNl P fn.results.toList=some rvs) (hR:RelI w0 I0 s a.tmps w' I' Fs) (hq:zOi s rvs KK) :
    ∃ v,(results fn a.tmps).run P w'=.ok v w'∧∃ ds F s2 Fs2,KK ds s2∧T I' w' (one ds) nil v F∧F.Nodup∧(∀ b,b∈F→w0.N b∧b<w'.heap.size∧¬ I' b)∧RelI w0 I0 s2 a.tmps w' I' Fs2∧∀ b,b∈F→∀ r,b∉Fs2 r:=by
  obtain ⟨us',ds,F,s2,Fs2,m1,m2,m3,m4,m5,m6,m7,m8,m9,m10⟩:=yMb fn.results.toList hR hr hq;have hrun:(results fn a.tmps).run P w'=.ok (if us'.length=1 then us'.headD undef else .tuple us'.toArray) w':=by
    rw [zOl,Sem.run_bind,Array.mapM_eq_mapM_toList,Sem.run_map,m1];simp only [Result.andThen_ok,Sem.run_pure];by_cases h1:us'.length=1
    · rw [if_pos h1,dif_pos (by simpa using h1)];cases us' with
      | nil=>simp at h1
      | cons u us2=>simp
    · rw [if_neg h1,dif_neg (by simpa using h1)]
  have hT : T I' w' (one ds) nil (if us'.length=1 then us'.headD undef else .tuple us'.toArray) F:=by
    have hl:=m4.len;by_cases h1:us'.length=1
    · rw [if_pos h1];cases ds with
      | nil=>rw [h1] at hl;simp at hl
      | cons d1 ds =>
        cases ds with
        | nil=>simp only [Vals] at m4;obtain ⟨u,us2,F1,F2,e1,e2,ht,e3,e4⟩:=m4;subst e1;subst e2;subst e3;subst e4;simpa [one] using ht
        | cons d2 ds=>rw [h1] at hl;simp at hl
    · rw [if_neg h1];have:one ds=.tup ds:=by
        cases ds with
        | nil=>rfl
        | cons d1 ds=>cases ds with
          | nil=>exact absurd hl h1
          | cons d2 ds=>rfl
      rw [this];simp only [T];exact ⟨us',rfl,m4⟩
  exact ⟨_,hrun,ds,F,s2,Fs2,m3,hT,m5,m6,m8,m10⟩
theorem zKs {fn:Func}{tm:Array Value}{R:Ending→World→Prop}(hend:∀ w'',RelI w0 I0 s tm w'' I' Fs→∃ v,(results fn tm).run P w''=.ok v w''∧R (.returned v) w''):∀ (Ds:List Nat) (w':World),RelI w0 I0 s tm w' I' Fs→Ds.Nodup→yX3 w0 w' I' Fs (Ds.map zJw)→LeavesInM Fence.wide 0 P fn tm R (Ds.map mkD) .returning w'
  | [],w',hR,_,_=>hend w' hR
  | D :: Ds,w',hR,hnd,hP=>by
    obtain ⟨k1,k2,k3,k4⟩:=hP (zJw D) (by simp);simp only [zJw] at k1 k2 k3 k4;have hlt:=zDw k1;refine ⟨by simp,.inl ⟨D,w'.putObj D (.deferred none),rfl,run_takeDeferred k1,?_⟩⟩;refine zKs hend Ds _ (hR.other ⟨hR.below.os,hR.below.tape,hR.below.output,by simpa using hR.below.size,fun i hi=>(World.putObj_heap_other (fun e=>by subst e;exact hi k4)).trans (hR.below.block i hi)⟩ (by simp) (fun b hb=>World.putObj_heap_other (fun e=>by
      subst e;rcases hb with hb | ⟨q,hb⟩
      · exact k2 hb
      · exact k3 q hb))) (List.nodup_cons.1 hnd).2 (fun p hp=>?_)
    obtain ⟨h1,h2,h3,h4⟩:=hP p (by rw [List.map_cons];exact List.mem_cons_of_mem _ hp);refine ⟨(World.putObj_heap_other (fun e=>?_)).trans h1,h2,h3,h4⟩;obtain ⟨D',hD',rfl⟩:=List.mem_map.1 hp;simp only [zJw] at e;subst e;exact (List.nodup_cons.1 hnd).1 hD'
end
theorem zY6 {pt:Nat}{P:Program}{G:World→(Nat→Prop)→Prop}{f:FuncId}{fn:Func}{c:Code}{ms ms':List (List Bool)}{vc:VCode}{rvs:List RV}{KK:List D→List D→Prop}{w:World}{I:Nat→Prop}{us:List Value}{X:List Nat}{s0:List D}{Fs0:Nat→List Nat}(hG:∀ w',(ioB w X).Below w'→GI G w' I)(hf:P.funcs[f]?=some fn)(hb:fn.body=some c)
    (hc:zBl P pt false c ms=some (vc,ms')) (hok:okR (zBw c) c=true) (hr:zNl P fn.results.toList=some rvs) (hrel:RelI (ioB w X) I s0 (us.toArray++Array.replicate (fn.ntmps-us.toArray.size) undef) w I Fs0) (hk:vc.wp (CT P G) (yKh rvs KK) s0) :
    Calls P f us.toArray w fun e w'=>∃ v ds F s2 Fs2 I' tm,e=.returned v∧KK ds s2∧(ioB w X).Below w'∧T I' w' (one ds) nil v F∧F.Nodup∧(∀ b,b∈F→(ioB w X).N b∧b<w'.heap.size∧¬ I' b)∧RelI (ioB w X) I s2 tm w' I' Fs2∧∀ b,b∈F→∀ r,b∉Fs2 r:=by
  refine (callsIn_wide (n:=0)).1 (callsIn_of_wp_marks hf hb trivial ?_ rfl);refine zC3 c false none 0 (ioB w X) I [] (zBw c) _ ms ms' vc (yKh rvs KK) _ _ _ w (fun _=>rfl) hG hc hok hk ⟨[],I,Fs0,rfl,List.nodup_nil,hrel,fun p hp=>by simp at hp⟩ agr.refl ?_;intro e s a w' hq hr' _;obtain ⟨Ds,I',Fs,hd,hnd,hR,hP⟩:=hr';have key:zOi s rvs KK→LeavesInM Fence.wide 0 P fn a.tmps (fun e w'=>∃ v ds F s2 Fs2 I' tm,e=.returned v∧KK ds s2∧(ioB w X).Below w'∧T I' w' (one ds) nil v F∧F.Nodup∧(∀ b,b∈F→(ioB w X).N b∧b<w'.heap.size∧¬ I' b)∧RelI (ioB w X) I s2 tm w' I' Fs2∧∀ b,b∈F→∀ r,b∉Fs2 r) a.defers .returning w':=by intro hq;rw [hd];refine zKs (w0:=ioB w X) (I0:=I) (s:=s) (I':=I') (Fs:=Fs) (fun w'' hR=>?_) Ds w' hR hnd (fun p hp=>hP p (by simpa using hp));obtain ⟨v,hrun,ds,F,s2,Fs2,m3,hT,m5,m6,m8,m10⟩:=yW2 (a:=a) hr hR hq;exact ⟨v,hrun,v,ds,F,s2,Fs2,I',a.tmps,rfl,m3,hR.below,hT,m5,m6,m8,m10⟩
  cases e with
  | normal=>exact key hq
  | ret=>exact key hq
  | exit id=>exact hq.elim
theorem zSs {pt:Nat}{P:Program}{G:World→(Nat→Prop)→Prop}{f:FuncId}{fn:Func}{c:Code}{ms ms':List (List Bool)}{vc:VCode}{rvs:List RV}{args:List D}{d:D}(hcl:yQw G)(hf:P.funcs[f]?=some fn)(hen:∀ (us:Array Value) (W:World),(callFunc f us).run P W=.ok (.enter f us) W)(hb:fn.body=some c)
    (hc:zBl P pt false c ms=some (vc,ms')) (hok:okR (zBw c) c=true) (hr:zNl P fn.results.toList=some rvs) (hk:vc.wp (CT P G) (zC9 rvs d) (args++List.replicate (fn.ntmps-args.length) .undef)):Contract P G f args d:=by
  refine ⟨hen,fun w I us hG hI hV=>?_⟩;have hlen:=hV.len;refine (zY6 (I:=I) (X:=[]) (us:=us) (Fs0:=fun _=>[]) (fun w' hb'=>hG.keep hcl fun b hb=>hb'.block b (fun hn=>hn.elim (fun h=>absurd (hI b hb) (by omega)) (fun h=>by cases h))) hf hb hc hok hr ?_ hk).mono ?_
  · exact {
      below:=Base.Below.refl
      len:=by simp [hlen]
      slot:=fun r d' u h1 h2=>zFf hV h1 h2
      nd:=fun _=>List.nodup_nil
      disj:=fun _ _ _ h=>by cases h
      own:=fun _ _ h=>by cases h
      imm:=hI
      imm0:=fun _ h=>h
      immN:=fun _ h=>.inl h }
  · rintro e w' ⟨v,ds,F,s2,Fs2,I',tm,he,hle,hbel,hT,hnd,hF,hR,_⟩;obtain ⟨F',k1,k2⟩:=T.leF _ _ hT hle;have hN:∀ x,(ioB w []).N x→w.heap.size≤x:=fun x h=>h.elim id (fun h=>by cases h);exact ⟨v,F',I',he,⟨hbel.os,hbel.tape,hbel.output,hbel.size,fun k hk=>hbel.block k (fun h=>by have:=hN k h;omega)⟩,k1,k2.nodup hnd,fun b hb=>⟨hN b (hF b (k2.subset hb)).1,(hF b (k2.subset hb)).2⟩,hR.imm0,fun b hb=>⟨(hR.immN b hb).imp_right (hN b),hR.imm b hb⟩⟩
end Go.V
namespace Go.V
open Go.RowKit
/-! ### The machine run by simp: every continuation is a constant applied, none a function written out -/
variable {Ctr:CtrT} {s:List D} {K:D→List D→Prop} {KK:List D→Prop} {os:List VO}
def yPs (Ctr:CtrT)(os:List VO)(KK:List D→Prop):List D→Prop:=fun s=>zJe Ctr s os KK
def yQ0 (dst:Option Nat)(K:List D→Prop):D→List D→Prop:=fun d s=>K (match dst with | some t=>zId s t d | none=>s)
def zEs (Ctr:CtrT)(dst:Option Nat)(want:Bool)(op:VOp)(d:D)(s:List D)(K:List D→Prop):Prop :=
  match d with
  | .v (.bool b)=>(b=want→zAl Ctr s op (yQ0 dst K))∧(b≠want→K (match dst with | some t=>zId s t (.v (.tuple #[])) | none=>s))
  | .v _=>K (match dst with | some t=>zId s t (.v (.tuple #[])) | none=>s)
  | _=>False
theorem yM3:zJe Ctr s [] KK=KK s:=rfl
theorem yHg {dst:Option Nat}{op:VOp}:zJe Ctr s (⟨dst,none,op⟩::os) KK=zAl Ctr s op (yQ0 dst (yPs Ctr os KK)):=rfl
theorem yB1 {dst:Option Nat}{op:VOp}{g:Nat}{want:Bool}:zJe Ctr s (⟨dst,some (g,want),op⟩::os) KK=zEs Ctr dst want op (lkT s g) s (yPs Ctr os KK):=rfl
theorem yI5:yPs Ctr os KK s=zJe Ctr s os KK:=rfl
theorem yGm {t:Nat}{d:D}:yQ0 (some t) KK d s=KK (zId s t d):=rfl
theorem yGn {d:D}:yQ0 none KK d s=KK s:=rfl
theorem yIg {dst:Option Nat}{op:VOp}:zEs Ctr dst true op (.v (.bool true)) s KK=zAl Ctr s op (yQ0 dst KK):=by simp [zEs]
theorem yIj {dst:Option Nat}{op:VOp}:zEs Ctr dst false op (.v (.bool false)) s KK=zAl Ctr s op (yQ0 dst KK):=by simp [zEs]
theorem yIh {t:Nat}{op:VOp}:zEs Ctr (some t) true op (.v (.bool false)) s KK=KK (zId s t (.v (.tuple #[]))):=by simp [zEs]
theorem yIi {t:Nat}{op:VOp}:zEs Ctr (some t) false op (.v (.bool true)) s KK=KK (zId s t (.v (.tuple #[]))):=by simp [zEs]
theorem zYk {t:Nat}{op:VOp}{want:Bool}:zEs Ctr (some t) want op (.v (.tuple #[])) s KK=KK (zId s t (.v (.tuple #[]))):=by simp [zEs]
theorem zAw {dst:Option Nat}{op:VOp}{want b:Bool}{s:List D}{KK:List D→Prop}(h1:b=true→zEs Ctr dst want op (.v (.bool true)) s KK)(h2:b=false→zEs Ctr dst want op (.v (.bool false)) s KK):zEs Ctr dst want op (.v (.bool b)) s KK:=by
  cases b
  · exact h2 rfl
  · exact h1 rfl
/-! looking -/
def lkF (t:Nat):Option D→D
  | some (.sl true _ _)=>.ref t []
  | some (.mp _ _)=>.ref t []
  | some (.box _ _)=>.ptr t [] 0 0
  | some (.fn f a c)=>if zCb a||zCb c then yQ1 f a c else .fn f a c
  | some d=>if d.owny then .undef else d
  | none=>.undef
theorem yHb {f b cs}:yQ1 f [.box (some b) cs] []=.fn f [.v (.pointer (some ⟨b,0,none⟩))] []:=rfl
theorem yKd {t:Nat}:lk s (.tmp t)=lkF t s[t]?:=by unfold lk lkT lkF;rfl
theorem ySr {t:Nat}:lkT s t=lkF t s[t]?:=by unfold lkT lkF;rfl
theorem yHy {v:Value}:lk s (.const v)=ofV v:=rfl
theorem yNv {f:FuncId}:lk s (.func f)=.fn f [] []:=rfl
section
variable {t:Nat}
theorem yNz {sz rows}:lkF t (some (.sl true sz rows))=.ref t []:=rfl
theorem yN1 {sz rows}:lkF t (some (.sl false sz rows))=.sl false sz rows:=rfl
theorem yN2 {g cs}:lkF t (some (.box g cs))=.ptr t [] 0 0:=rfl
theorem ySs {k e}:lkF t (some (.mp k e))=.ref t []:=rfl
theorem yN0 {k e}:lkF t (some (.imp k e))=.imp k e:=rfl
theorem yWj {v}:lkF t (some (.v v))=.v v:=rfl
theorem yHz:lkF t (some .nils)=.nils:=rfl
theorem yCk:lkF t (some .undef)=.undef:=rfl
theorem yNx {r q}:lkF t (some (.ref r q))=.ref r q:=rfl
theorem yNw {r q i j}:lkF t (some (.sub r q i j))=.sub r q i j:=rfl
theorem yNy {r q i j}:lkF t (some (.ptr r q i j))=.ptr r q i j:=rfl
theorem yH0 {cs j}:lkF t (some (.iptr cs j))=.iptr cs j:=rfl
theorem yN3 {cs}:lkF t (some (.agg cs))=if zCb cs then .undef else .agg cs:=rfl
theorem ySt {f a b}:lkF t (some (.fn f a b))=if zCb a||zCb b then yQ1 f a b else .fn f a b:=rfl
end
def yV9 (t:Nat):Option D→D
  | some (.box _ _)=>.ptr t [] 0 0
  | some d=>d
  | none=>.undef
theorem yMs {t:Nat}:raw s (.tmp t)=yV9 t s[t]?:=by unfold raw yV9;rfl
theorem yBh {v:Value}:raw s (.const v)=ofV v:=rfl
theorem yGj {f:FuncId}:raw s (.func f)=.fn f [] []:=rfl
def tkF (t:Nat)(s:List D):Option D→D×List D
  | some (.sl true sz rows)=>(.sl true sz rows,(zAh (zAg t) s).set t .undef)
  | some (.mp k e)=>(.mp k e,(zAh (zAg t) s).set t .undef)
  | some (.box _ _)=>(.ptr t [] 0 0,s)
  | some d=>(d,if d.owny then s.set t .undef else s)
  | none=>(.undef,s)
theorem yRc {t:Nat}:tk s (.tmp t)=tkF t s s[t]?:=by unfold tk tkT tkF;rfl
theorem yRd {t:Nat}:tkT s t=tkF t s s[t]?:=by unfold tkT tkF;rfl
theorem yEv {v:Value}:tk s (.const v)=(ofV v,s):=rfl
theorem yK9 {f:FuncId}:tk s (.func f)=(.fn f [] [],s):=rfl
section
variable {t:Nat}
theorem yLf {sz rows}:tkF t s (some (.sl true sz rows))=(.sl true sz rows,(zAh (zAg t) s).set t .undef):=rfl
theorem yLh {sz rows}:tkF t s (some (.sl false sz rows))=(.sl false sz rows,s):=rfl
theorem yLi {g cs}:tkF t s (some (.box g cs))=(.ptr t [] 0 0,s):=rfl
theorem yRf {k e}:tkF t s (some (.mp k e))=(.mp k e,(zAh (zAg t) s).set t .undef):=rfl
theorem yLg {k e}:tkF t s (some (.imp k e))=(.imp k e,s):=rfl
theorem yVu {v}:tkF t s (some (.v v))=(.v v,s):=rfl
theorem yEx:tkF t s (some .nils)=(.nils,s):=rfl
theorem zZx:tkF t s (some .undef)=(.undef,s):=rfl
theorem yLd {r q}:tkF t s (some (.ref r q))=(.ref r q,s):=rfl
theorem yLc {r q i j}:tkF t s (some (.sub r q i j))=(.sub r q i j,s):=rfl
theorem yLe {r q i j}:tkF t s (some (.ptr r q i j))=(.ptr r q i j,s):=rfl
theorem yEy {cs j}:tkF t s (some (.iptr cs j))=(.iptr cs j,s):=rfl
theorem yLj {cs}:tkF t s (some (.agg cs))=(.agg cs,if zCb cs then s.set t .undef else s):=rfl
theorem yLb {cs}:tkF t s (some (.tup cs))=(.tup cs,if zCb cs then s.set t .undef else s):=rfl
theorem yRg {f a b}:tkF t s (some (.fn f a b))=(.fn f a b,if zCb a||zCb b then s.set t .undef else s):=rfl
end
theorem yLa:tkL s []=([],s):=rfl
theorem yEw {x:Operand}{xs:List Operand}:tkL s (x::xs)=((tk s x).1.prune (zFc (tkL (tk s x).2 xs).2)::(tkL (tk s x).2 xs).1,(tkL (tk s x).2 xs).2):=rfl
def zRy (s:List D)(t:Nat)(d:D):Option D→List D
  | some (.sl true sz rows)=>(zAh (zAg t) s).set t (zOq t sz rows d)
  | some (.mp _ _)=>(zAh (zAg t) s).set t (d.prune (zAg t))
  | some (.box _ _)=>(zAh (zAg t) s).set t (d.prune (zAg t))
  | _=>s.set t d
theorem yM0 {t:Nat}{d:D}:zId s t d=zRy s t d s[t]?:=by unfold zId zRy;rfl
section
variable {t:Nat} {d:D}
theorem yG0 {sz rows}:zRy s t d (some (.sl true sz rows))=(zAh (zAg t) s).set t (zOq t sz rows d):=rfl
theorem yGq {sz rows r n}:zOq t sz rows (.sub r [] 0 n)=if r=t∧n≤rows.length then .sl true sz (rows.take n) else (D.sub r [] 0 n).prune (zAg t):=rfl
theorem yR6 {sz rows v}:zOq t sz rows (.v v)=.v v:=rfl
theorem zXl {sz rows}:zOq t sz rows .undef=.undef:=rfl
theorem yBk {sz rows}:zOq t sz rows .nils=.nils:=rfl
theorem yMv {sz rows o z rs}:zOq t sz rows (.sl o z rs)=.sl o z rs:=rfl
theorem yMw {sz rows k e}:zOq t sz rows (.mp k e)=.mp k e:=rfl
theorem yGt {sz rows k e}:zOq t sz rows (.imp k e)=.imp k e:=rfl
theorem yBl {sz rows c j}:zOq t sz rows (.iptr c j)=.iptr c j:=rfl
theorem yGv {sz rows cs}:zOq t sz rows (.agg cs)=(D.agg cs).prune (zAg t):=rfl
theorem yGp {sz rows cs}:zOq t sz rows (.tup cs)=(D.tup cs).prune (zAg t):=rfl
theorem yGu {sz rows g cs}:zOq t sz rows (.box g cs)=(D.box g cs).prune (zAg t):=rfl
theorem yMx {sz rows f a b}:zOq t sz rows (.fn f a b)=(D.fn f a b).prune (zAg t):=rfl
theorem yGr {sz rows r p}:zOq t sz rows (.ref r p)=(D.ref r p).prune (zAg t):=rfl
theorem yGs {sz rows r p i j}:zOq t sz rows (.ptr r p i j)=(D.ptr r p i j).prune (zAg t):=rfl
theorem yBj {sz rows r x p i n}:zOq t sz rows (.sub r (x::p) i n)=(D.sub r (x::p) i n).prune (zAg t):=rfl
theorem yG3 {g cs}:zRy s t d (some (.box g cs))=(zAh (zAg t) s).set t (d.prune (zAg t)):=rfl
theorem yMy {k e}:zRy s t d (some (.mp k e))=(zAh (zAg t) s).set t (d.prune (zAg t)):=rfl
theorem yG1 {k e}:zRy s t d (some (.imp k e))=s.set t d:=rfl
theorem yG2 {sz rows}:zRy s t d (some (.sl false sz rows))=s.set t d:=rfl
theorem yR7 {v}:zRy s t d (some (.v v))=s.set t d:=rfl
theorem yBm:zRy s t d (some .nils)=s.set t d:=rfl
theorem zXm:zRy s t d (some .undef)=s.set t d:=rfl
theorem yGy {r q}:zRy s t d (some (.ref r q))=s.set t d:=rfl
theorem yGx {r q i j}:zRy s t d (some (.sub r q i j))=s.set t d:=rfl
theorem yGz {r q i j}:zRy s t d (some (.ptr r q i j))=s.set t d:=rfl
theorem yBn {cs j}:zRy s t d (some (.iptr cs j))=s.set t d:=rfl
theorem yG4 {cs}:zRy s t d (some (.agg cs))=s.set t d:=rfl
theorem yGw {cs}:zRy s t d (some (.tup cs))=s.set t d:=rfl
theorem yMz {f a b}:zRy s t d (some (.fn f a b))=s.set t d:=rfl
end
/-! the operations -/
def mvF (t:Nat)(s:List D)(K:D→List D→Prop):Option D→Prop
  | some (.tup vs)=>K (.tup vs) (if zCb vs then s.set t .undef else s)
  | o=>K (lkF t o) s
theorem yM6 {t vs}:mvF t s K (some (.tup vs))=K (.tup vs) (if zCb vs then s.set t .undef else s):=rfl
theorem yNa {t sz rows}:mvF t s K (some (.sl true sz rows))=K (.ref t []) s:=rfl
theorem yNc {t sz rows}:mvF t s K (some (.sl false sz rows))=K (.sl false sz rows) s:=rfl
theorem yNd {t g cs}:mvF t s K (some (.box g cs))=K (.ptr t [] 0 0) s:=rfl
theorem ySg {t k e}:mvF t s K (some (.mp k e))=K (.ref t []) s:=rfl
theorem yNb {t k e}:mvF t s K (some (.imp k e))=K (.imp k e) s:=rfl
theorem yWg {t v}:mvF t s K (some (.v v))=K (.v v) s:=rfl
theorem yHl {t}:mvF t s K (some .nils)=K .nils s:=rfl
theorem yB5 {t}:mvF t s K (some .undef)=K .undef s:=rfl
theorem yM8 {t r q}:mvF t s K (some (.ref r q))=K (.ref r q) s:=rfl
theorem yM7 {t r q i j}:mvF t s K (some (.sub r q i j))=K (.sub r q i j) s:=rfl
theorem yM9 {t r q i j}:mvF t s K (some (.ptr r q i j))=K (.ptr r q i j) s:=rfl
theorem yHm {t cs j}:mvF t s K (some (.iptr cs j))=K (.iptr cs j) s:=rfl
theorem yNe {t cs}:mvF t s K (some (.agg cs))=K (if zCb cs then .undef else .agg cs) s:=rfl
theorem ySh {t f a b}:mvF t s K (some (.fn f a b))=K (if zCb a||zCb b then yQ1 f a b else .fn f a b) s:=rfl
theorem yTl {t}:zAl Ctr s (.mv (.tmp t)) K=mvF t s K s[t]?:=by
  show (match s[t]? with
    | some (.tup vs)=>K (.tup vs) (if zCb vs then s.set t .undef else s)
    | _=>K (lk s (.tmp t)) s)=_
  rw [yKd];cases h:s[t]? with
  | none=>rfl
  | some d=>cases d<;>rfl
theorem yTn {v}:zAl Ctr s (.mv (.const v)) K=K (ofV v) s:=rfl
theorem yTm {f}:zAl Ctr s (.mv (.func f)) K=K (.fn f [] []) s:=rfl
def ySd (p:D×List D)(K:D→List D→Prop):Prop:=K p.1 p.2
theorem yHa {d:D}:ySd (d,s) K=K d s:=rfl
theorem yT3 {x}:zAl Ctr s (.asg x) K=ySd (tk s x) K:=rfl
def yHk (d:D)(s:List D)(K:D→List D→Prop):Prop:=match d with
  | .ptr r q i j=>K (.ptr r q i j) s
  | .iptr c j=>K (.iptr c j) s
  | .fn f a b=>K (.fn f a b) s
  | _=>False
theorem yO2 {x}:zAl Ctr s (.nilc x) K=yHk (lk s x) s K:=rfl
theorem yHj {r q i j}:yHk (.ptr r q i j) s K=K (.ptr r q i j) s:=rfl
theorem yB4 {c j}:yHk (.iptr c j) s K=K (.iptr c j) s:=rfl
theorem yM5 {f a b}:yHk (.fn f a b) s K=K (.fn f a b) s:=rfl
theorem yO1 {c a b}:zAl Ctr s (.pick c a b) K=zMi (lk s c) (lk s a) (lk s b) s K:=rfl
theorem ySc {t x y}:zMi (.v (.bool t)) (.v (.bool x)) (.v (.bool y)) s K=K (.v (.bool (if t then x else y))) s:=rfl
theorem ySa {a b}:zMi (.v (.bool true)) a b s K=K a s:=by simp only [zMi];split<;>simp
theorem ySb {a b}:zMi (.v (.bool false)) a b s K=K b s:=by simp only [zMi];split<;>simp
def zGk (op:BinOp)(x y:D)(s:List D)(K:D→List D→Prop):Prop:=match x,y with
  | .v (.int k a),.v (.int k' b)=>zNx op k a k' b (fun v=>K (.v v) s)
  | .v (.string a),.v (.string b)=>yLm op a b (fun v=>K (.v v) s)
  | _,_=>False
theorem yT1 {op x y}:zAl Ctr s (.bin op x y) K=zGk op (lk s x) (lk s y) s K:=rfl
section
variable {k:IntKind} {a b:Int} {x y:ByteArray}
theorem yQk:zGk .add (.v (.int k a)) (.v (.int k b)) s K=K (.v (.int k (k.wrap (a+b)))) s:=by simp [zGk,zNx]
theorem yP7:zGk .sub (.v (.int k a)) (.v (.int k b)) s K=K (.v (.int k (k.wrap (a-b)))) s:=by simp [zGk,zNx]
theorem yQd:zGk .mul (.v (.int k a)) (.v (.int k b)) s K=K (.v (.int k (k.wrap (a*b)))) s:=by simp [zGk,zNx]
theorem yQb:zGk .quo (.v (.int k a)) (.v (.int k b)) s K=(b≠0∧K (.v (.int k (k.wrap (a.tdiv b)))) s):=by simp [zGk,zNx]
theorem yQa:zGk .rem (.v (.int k a)) (.v (.int k b)) s K=(b≠0∧K (.v (.int k (a.tmod b))) s):=by simp [zGk,zNx]
theorem yQi:zGk .eql (.v (.int k a)) (.v (.int k b)) s K=K (.v (.bool (decide (a=b)))) s:=by simp [zGk,zNx]
theorem yQc:zGk .neq (.v (.int k a)) (.v (.int k b)) s K=K (.v (.bool (!decide (a=b)))) s:=by simp [zGk,zNx]
theorem yQe:zGk .lss (.v (.int k a)) (.v (.int k b)) s K=K (.v (.bool (decide (a<b)))) s:=by simp [zGk,zNx]
theorem yQf:zGk .leq (.v (.int k a)) (.v (.int k b)) s K=K (.v (.bool (decide (a≤b)))) s:=by simp [zGk,zNx]
theorem yQg:zGk .gtr (.v (.int k a)) (.v (.int k b)) s K=K (.v (.bool (decide (b<a)))) s:=by simp [zGk,zNx]
theorem yQh:zGk .geq (.v (.int k a)) (.v (.int k b)) s K=K (.v (.bool (decide (b≤a)))) s:=by simp [zGk,zNx]
theorem yP9 {k':IntKind}:zGk .shl (.v (.int k a)) (.v (.int k' b)) s K=(0≤b∧K (.v (.int k (k.wrap (a*2 ^ (min b.toNat k.bits))))) s):=by simp [zGk,zNx]
theorem yP8 {k':IntKind}:zGk .shr (.v (.int k a)) (.v (.int k' b)) s K=(0≤b∧K (.v (.int k (a.fdiv (2 ^ (min b.toNat k.bits))))) s):=by simp [zGk,zNx]
theorem yQj:zGk .and (.v (.int k a)) (.v (.int k b)) s K=K (.v (.int k (k.wrap ((BitVec.ofInt k.bits a &&& BitVec.ofInt k.bits b).toNat)))) s:=by simp [zGk,zNx]
theorem yUy:zGk .or (.v (.int k a)) (.v (.int k b)) s K=K (.v (.int k (k.wrap ((BitVec.ofInt k.bits a ||| BitVec.ofInt k.bits b).toNat)))) s:=by simp [zGk,zNx]
theorem yJj:zGk .add (.v (.string x)) (.v (.string y)) s K=(x.size+y.size≤maxLen∧K (.v (.string (x++y))) s):=rfl
theorem yJi:zGk .eql (.v (.string x)) (.v (.string y)) s K=K (.v (.bool (decide (x=y)))) s:=rfl
theorem yJg:zGk .neq (.v (.string x)) (.v (.string y)) s K=K (.v (.bool (!decide (x=y)))) s:=rfl
theorem yJh:zGk .lss (.v (.string x)) (.v (.string y)) s K=K (.v (.bool (Op.bytesLess x.toList y.toList))) s:=rfl
end
def yQn (neg:Bool)(x y:D)(s:List D)(K:D→List D→Prop):Prop:=match x,y with
  | .v (.bool a),.v (.bool b)=>K (.v (.bool (if neg then !(a==b) else a==b))) s
  | _,_=>False
theorem yPc {neg x y}:zAl Ctr s (.binB neg x y) K=yQn neg (lk s x) (lk s y) s K:=rfl
theorem yQm {a b}:yQn false (.v (.bool a)) (.v (.bool b)) s K=K (.v (.bool (a==b))) s:=rfl
theorem yQl {a b}:yQn true (.v (.bool a)) (.v (.bool b)) s K=K (.v (.bool (!(a==b)))) s:=rfl
def unK (op:UnOp)(x:D)(s:List D)(K:D→List D→Prop):Prop:=match op,x with
  | .not,.v (.bool b)=>K (.v (.bool (!b))) s
  | .neg,.v (.int k n)=>K (.v (.int k (k.wrap (0-n)))) s
  | _,_=>False
theorem yW3 {op x}:zAl Ctr s (.un op x) K=unK op (lk s x) s K:=rfl
theorem yQ8 {b}:unK .not (.v (.bool b)) s K=K (.v (.bool (!b))) s:=rfl
theorem yQ9 {k n}:unK .neg (.v (.int k n)) s K=K (.v (.int k (k.wrap (0-n)))) s:=rfl
def yUi (k:IntKind)(x:D)(s:List D)(K:D→List D→Prop):Prop:=match x with
  | .v (.int _ n)=>K (.v (.int k (k.wrap n))) s
  | _=>False
theorem yPa {k x}:zAl Ctr s (.conv k x) K=yUi k (lk s x) s K:=rfl
theorem yI4 {k k' n}:yUi k (.v (.int k' n)) s K=K (.v (.int k (k.wrap n))) s:=rfl
theorem yIu {z}:zAl Ctr s (.alloc z) K=K (.box none (z.map ofC)) s:=rfl
def yX0 (p:D×List D)(K:D→List D→Prop):Prop:=p.1.okCells=true∧K (.box none p.1.cells) p.2
theorem yT0 {x}:zAl Ctr s (.box x) K=yX0 (tk s x) K:=rfl
theorem yUu {d:D}:yX0 (d,s) K=(d.okCells=true∧K (.box none d.cells) s):=rfl
def yKr (zero:List Value) (parts:List (Nat×Nat×Operand)) (p:List D×List D) (K:D→List D→Prop):Prop :=
  p.1.all D.okCells=true∧match zOa (parts.map fun p=>(p.1,p.2.1)) p.1 (zero.map ofC) with
    | some cells=>K (.agg cells) p.2
    | none=>False
theorem yIt {zero parts}:zAl Ctr s (.build zero parts) K=yKr zero parts (tkL s (parts.map (·.2.2))) K:=rfl
def yDz (o:Option (List D))(s:List D)(K:D→List D→Prop):Prop:=match o with
  | some cells=>K (.agg cells) s
  | none=>False
theorem yJd {zero parts}{ds:List D}:yKr zero parts (ds,s) K=(ds.all D.okCells=true∧yDz (zOa (parts.map fun p=>(p.1,p.2.1)) ds (zero.map ofC)) s K):=rfl
theorem zUu {cells}:yDz (some cells) s K=K (.agg cells) s:=rfl
def yXz (sz n:Nat)(p:List D×List D)(K:D→List D→Prop):Prop :=
  p.1.all (fun d=>d.okCells&&d.cells.length==sz)=true∧zBr (p.1.flatMap D.cells)=true∧zCo p.2 (p.1.flatMap D.cells) (fun cs s'=>K (.sl true sz (zFx sz n cs)) s')
theorem yTz {sz parts}:zAl Ctr s (.bsl sz parts) K=yXz sz parts.length (tkL s parts) K:=rfl
def yKl (sz n:Nat)(K:D→List D→Prop):List D→List D→Prop:=fun cs s'=>K (.sl true sz (zFx sz n cs)) s'
theorem yDp {sz n cs}:yKl sz n K cs s=K (.sl true sz (zFx sz n cs)) s:=rfl
theorem yUs {sz n}{ds:List D}:yXz sz n (ds,s) K=(ds.all (fun d=>d.okCells&&d.cells.length==sz)=true∧zBr (ds.flatMap D.cells)=true∧zCo s (ds.flatMap D.cells) (yKl sz n K)):=rfl
variable {KL:List D→List D→Prop}
def zLd (d:D)(KL:List D→List D→Prop):List D→List D→Prop:=fun ds s=>KL (d::ds) s
theorem yI6 {d:D}{ds:List D}:zLd d KL ds s=KL (d::ds) s:=rfl
def yXg (ds:List D)(KL:List D→List D→Prop):D→List D→Prop:=fun d s=>zCo s ds (zLd d KL)
theorem yF7 {ds:List D}{d:D}:yXg ds KL d s=zCo s ds (zLd d KL):=rfl
theorem yMn:zCo s [] KL=KL [] s:=rfl
theorem yMm {r q}{ds:List D}:zCo s (.ref r q::ds) KL=zCi s r q (yXg ds KL):=by simp only [zCo];rfl
def yV0 (i n:Nat)(ds:List D)(KL:List D→List D→Prop):D→List D→Prop:=fun d s=>match d with
  | .sl true sz rows=>i+n≤rows.length∧zCo s ds (zLd (.sl true sz ((rows.drop i).take n)) KL)
  | _=>False
theorem yLl {i n}{ds:List D}{sz rows}:yV0 i n ds KL (.sl true sz rows) s=(i+n≤rows.length∧zCo s ds (zLd (.sl true sz ((rows.drop i).take n)) KL)):=rfl
theorem yMl {r q i n}{ds:List D}(h:0<n):zCo s (.sub r q i n::ds) KL=zCi s r q (yV0 i n ds KL):=by simp only [zCo];exact propext ⟨fun h1=>h1.elim (fun h2=>h2.2) (fun h2=>absurd h2.1 (by omega)),fun h1=>.inl ⟨.inl h,h1⟩⟩
theorem yF3 {r q n}{ds:List D}:zCo s (.sub r q 0 n::ds) KL=zCi s r q (yV0 0 n ds KL):=by simp only [zCo];exact propext ⟨fun h1=>h1.elim (fun h2=>h2.2) (fun h2=>absurd rfl h2.2.1),fun h1=>.inl ⟨.inr trivial,h1⟩⟩
theorem yF4 {r q i}{ds:List D}(h:i≠0):zCo s (.sub r q i 0::ds) KL=∃ sz,zCo s ds (zLd (.sl false sz []) KL):=by simp only [zCo];exact propext ⟨fun h1=>h1.elim (fun h2=>absurd h2.1 (by omega)) (fun h2=>h2.2.2),fun h1=>.inr ⟨trivial,h,h1⟩⟩
theorem yA9 {ds:List D}:zCo s (.undef::ds) KL=zCo s ds (zLd .undef KL):=by simp only [zCo,D.leaf,true_and];rfl
theorem yF5 {ds:List D}:zCo s (.nils::ds) KL=zCo s ds (zLd .nils KL):=by simp only [zCo,D.leaf,true_and];rfl
theorem yV5 {v}{ds:List D}:zCo s (.v v::ds) KL=zCo s ds (zLd (.v v) KL):=by simp only [zCo,D.leaf,true_and];rfl
theorem yRx {o sz rows}{ds:List D}:zCo s (.sl o sz rows::ds) KL=zCo s ds (zLd (.sl o sz rows) KL):=by simp only [zCo,D.leaf,true_and];rfl
def zU7 (r:Nat)(q:zBa)(s:List D)(d:D)(o:Option D)(K:D→List D→Prop):Prop:=match o with
  | some (.sl true sz rows)=>K (.sl true sz rows) ((zAh (zAi r q) s).set r (setAt (d.prune (zAi r q)) q .undef))
  | some (.mp k e)=>K (.mp k e) ((zAh (zAi r q) s).set r (setAt (d.prune (zAi r q)) q .undef))
  | _=>False
def zZ4 (r:Nat)(q:zBa)(s:List D)(o:Option D)(K:D→List D→Prop):Prop:=match o with
  | some d=>zU7 r q s d (zAj d q) K
  | none=>False
theorem yE7 {r q}:zCi s r q K=zZ4 r q s s[r]? K:=by unfold zCi zZ4;cases s[r]? <;> rfl
theorem zTg {r q d}:zZ4 r q s (some d) K=zU7 r q s d (zAj d q) K:=rfl
theorem zZ5 {r q d k e}:zU7 r q s d (some (.mp k e)) K=K (.mp k e) ((zAh (zAi r q) s).set r (setAt (d.prune (zAi r q)) q .undef)):=rfl
theorem yRy {k e}{ds:List D}:zCo s (.mp k e::ds) KL=zCo s ds (zLd (.mp k e) KL):=by simp only [zCo,D.leaf,true_and];rfl
theorem yF6 {c j}{ds:List D}:zCo s (.iptr c j::ds) KL=zCo s ds (zLd (.iptr c j) KL):=by simp only [zCo,D.leaf,true_and];rfl
theorem zTh {r q d sz rows}:zU7 r q s d (some (.sl true sz rows)) K=K (.sl true sz rows) ((zAh (zAi r q) s).set r (setAt (d.prune (zAi r q)) q .undef)):=rfl
end Go.V
namespace Go.V
open Go.RowKit
variable {Ctr:CtrT} {s:List D} {K:D→List D→Prop} {KK:List D→Prop} {os:List VO}
def yCi (n:Nat)(agg:Bool)(r:Nat)(q:zBa)(i j:Nat)(o:Option (List D))(s:List D)(K:D→List D→Prop):Prop:=match o with
  | some row=>j+n≤row.length∧K (zDp agg (zHr r q i j ((row.drop j).take n))) s
  | none=>False
def yNt (n:Nat)(agg:Bool)(a:D)(s:List D)(K:D→List D→Prop):Prop:=match a with
  | .ptr r q i j=>yCi n agg r q i j (rowAt s r q i) s K
  | .iptr cells j=>j+n≤cells.length∧K (zDp agg ((cells.drop j).take n)) s
  | _=>False
theorem yO7 {n agg a}:zAl Ctr s (.load n agg a) K=yNt n agg (lk s a) s K:=rfl
theorem yHw {n agg r q i j}:yNt n agg (.ptr r q i j) s K=yCi n agg r q i j (rowAt s r q i) s K:=rfl
theorem yCh {n agg cells j}:yNt n agg (.iptr cells j) s K=(j+n≤cells.length∧K (zDp agg ((cells.drop j).take n)) s):=rfl
theorem zX4 {n agg r q i j row}:yCi n agg r q i j (some row) s K=(j+n≤row.length∧K (zDp agg (zHr r q i j ((row.drop j).take n))) s):=rfl
def yIz (K:D→List D→Prop):List D→Prop:=fun s=>K .undef s
theorem yPk:yIz K s=K .undef s:=rfl
def yV3 (r:Nat)(q:zBa)(i j:Nat)(K:D→List D→Prop):List D→List D→Prop:=fun cs s'=>zIt s' r q=false∧zXa r q i s' j cs (yIz K)
theorem yMe {r q i j cs}:yV3 r q i j K cs s=(zIt s r q=false∧zXa r q i s j cs (yIz K)):=rfl
def yMh (r i n j:Nat)(K:D→List D→Prop):List D→List D→Prop:=fun cs s'=>cs.length=n∧setB r i n s' j cs (yIz K)
theorem yA6 {r i n j cs}:yMh r i n j K cs s=(cs.length=n∧setB r i n s j cs (yIz K)):=rfl
def zPq (r:Nat)(q:zBa)(i n j:Nat)(cs:List D)(b:Bool)(s:List D)(K:D→List D→Prop):Prop :=
  if b then q=[]∧(if zXg r cs then zBr cs=true∧cs.all (zIg (.ptr r q i j))=true∧zCo s cs (fun cs s'=>cs.length=n∧setB r i n s' j cs (yIz K)) else setB r i n s j cs (yIz K)) else zBr cs=true∧cs.all (zIg (.ptr r q i j))=true∧zCo s cs (yV3 r q i j K)
def zTf (n:Nat)(d:D)(a:D)(s:List D)(K:D→List D→Prop):Prop:=match a with
  | .ptr r q i j=>d.okCells=true∧d.cells.length=n∧zPq r q i n j d.cells (zIt s r q) s K
  | _=>False
def yJv (n:Nat)(a:Operand)(p:D×List D)(K:D→List D→Prop):Prop:=zTf n p.1 (lk p.2 a) p.2 K
theorem yIr {n a x}:zAl Ctr s (.store n a x) K=yJv n a (tk s x) K:=rfl
theorem yE1 {n a}{d:D}:yJv n a (d,s) K=zTf n d (lk s a) s K:=rfl
theorem zW1 {n r q i j}{d:D}:zTf n d (.ptr r q i j) s K=(d.okCells=true∧d.cells.length=n∧zPq r q i n j d.cells (zIt s r q) s K):=rfl
def yL9 (r i n j:Nat)(q:zBa)(cs:List D)(b:Bool)(s:List D)(K:D→List D→Prop):Prop:=if b then zBr cs=true∧cs.all (zIg (.ptr r q i j))=true∧zCo s cs (yMh r i n j K) else setB r i n s j cs (yIz K)
theorem yE2 {r q i n j cs}:zPq r q i n j cs true s K=(q=[]∧yL9 r i n j q cs (zXg r cs) s K):=rfl
theorem yL8 {r i n j q cs}:yL9 r i n j q cs false s K=setB r i n s j cs (yIz K):=rfl
theorem yL7 {r i n j q cs}:yL9 r i n j q cs true s K=(zBr cs=true∧cs.all (zIg (.ptr r q i j))=true∧zCo s cs (yMh r i n j K)):=rfl
theorem yE3 {r q i n j cs}:zPq r q i n j cs false s K=(zBr cs=true∧cs.all (zIg (.ptr r q i j))=true∧zCo s cs (yV3 r q i j K)):=rfl
variable {KQ:List D→(D→Bool)→Prop}
def yFv (r:Nat) (p:zBa) (c:D) (s:List D) (d:D) (o:Option D) (KQ:List D→(D→Bool)→Prop):Prop:=match o with
  | some old=>match old.cont with
    | some _=>KQ ((zAh (zAi r p) s).set r (setAt (d.prune (zAi r p)) p (c.prune (zAi r p)))) (zAi r p)
    | none=>KQ (s.set r (setAt d p c)) (fun _=>true)
  | none=>False
def yL6 (r:Nat)(p:zBa)(c:D)(s:List D)(o:Option D)(KQ:List D→(D→Bool)→Prop):Prop:=match o with
  | some d=>yFv r p c s d (zAj d p) KQ
  | none=>False
theorem yL3 {r p c}:yAv s r p c KQ=yL6 r p c s s[r]? KQ:=by unfold yAv yL6;cases s[r]? <;> rfl
theorem zXe {r p c d}:yL6 r p c s (some d) KQ=yFv r p c s d (zAj d p) KQ:=rfl
def yXb:D→Bool:=fun _=>true
def yFu (r:Nat)(p:zBa)(c:D)(s:List D)(d:D)(own:Bool)(KQ:List D→(D→Bool)→Prop):Prop :=
  if own then KQ ((zAh (zAi r p) s).set r (setAt (d.prune (zAi r p)) p (c.prune (zAi r p)))) (zAi r p) else KQ (s.set r (setAt d p c)) yXb
theorem zXd {r p c d old}:yFv r p c s d (some old) KQ=yFu r p c s d old.cont.isSome KQ:=by unfold yFv yFu;cases h:old.cont<;>simp [h]<;>rfl
theorem yL5 {r p c d}:yFu r p c s d false KQ=KQ (s.set r (setAt d p c)) yXb:=rfl
theorem yL4 {r p c d}:yFu r p c s d true KQ=KQ ((zAh (zAi r p) s).set r (setAt (d.prune (zAi r p)) p (c.prune (zAi r p)))) (zAi r p):=rfl
def bK (r i n j:Nat)(cs:List D)(KK:List D→Prop):List D→(D→Bool)→Prop:=fun s' q=>setB r i n s' j (zAh q cs) KK
theorem yU0 {r i n j cs}:bK r i n j cs KK s yXb=setB r i n s j cs KK:=by show setB r i n s j (zAh (fun _=>true) cs) KK=_;rw [zBf]
theorem yUz {r i n j cs r' p'}:bK r i n j cs KK s (zAi r' p')=setB r i n s j (zAh (zAi r' p') cs) KK:=rfl
theorem yFw {r i n j}:setB r i n s j [] KK=KK s:=by cases n<;>rfl
theorem yAx {r i n j c cs}:setB r i (n+1) s j (c::cs) KK=(zIt s r []=true∧yAv s r [(i,j)] c (bK r i n (j+1) cs KK)):=rfl
def rK (r:Nat)(q:zBa)(i j:Nat)(cs:List D)(KK:List D→Prop):List D→(D→Bool)→Prop:=fun s' _=>zXa r q i s' j cs KK
theorem yR3 {r q i j cs f}:rK r q i j cs KK s f=zXa r q i s j cs KK:=rfl
theorem yFs {r q i j}:zXa r q i s j [] KK=KK s:=rfl
theorem yAu {r q i j c cs}:zXa r q i s j (c::cs) KK=(c.leaf=true∧yAv s r (q++[(i,j)]) c (rK r q i (j+1) cs KK)):=rfl
def zO0 (q:zBa):Option D→Bool
  | some d=>match zAj d q with
    | some (.box _ _)=>true
    | _=>false
  | none=>false
theorem yIa {r q}:zIt s r q=zO0 q s[r]?:=by unfold zIt zO0;rfl
theorem zYc {g cs}:zO0 [] (some (.box g cs))=true:=rfl
theorem yC0 {sz rows}:zO0 [] (some (.sl true sz rows))=false:=rfl
def yQz (q:zBa) (i:Nat):Option D→Option (List D)
  | some d=>match zAj d q with
    | some t=>match t.cont with
      | some (_,rows)=>rows[i]?
      | none=>none
    | none=>none
  | none=>none
theorem yF2 {r q i}:rowAt s r q i=yQz q i s[r]?:=by unfold rowAt yQz;rfl
theorem yF1 {g cs}:yQz [] 0 (some (.box g cs))=some cs:=rfl
theorem yMg {i sz rows}:yQz [] i (some (.sl true sz rows))=rows[i]?:=rfl
def faK (off:Nat)(x:D)(s:List D)(K:D→List D→Prop):Prop:=match x with
  | .ptr r q i j=>K (.ptr r q i (j+off)) s
  | .iptr c j=>K (.iptr c (j+off)) s
  | _=>False
theorem yW6 {off x}:zAl Ctr s (.fa off x) K=faK off (lk s x) s K:=rfl
theorem yTg {off r q i j}:faK off (.ptr r q i j) s K=K (.ptr r q i (j+off)) s:=rfl
theorem yOv {off c j}:faK off (.iptr c j) s K=K (.iptr c (j+off)) s:=rfl
def yXr (off n:Nat)(agg:Bool)(x:D)(s:List D)(K:D→List D→Prop):Prop:=match x with
  | .agg cs=>off+n≤cs.length∧K (zDp agg ((cs.drop off).take n)) s
  | _=>False
theorem yTw {off n agg x}:zAl Ctr s (.fld off n agg x) K=yXr off n agg (lk s x) s K:=rfl
theorem yOt {off n agg cs}:yXr off n agg (.agg cs) s K=(off+n≤cs.length∧K (zDp agg ((cs.drop off).take n)) s):=rfl
def yWr (sz:Nat)(n:Int)(r:Nat)(q:zBa)(o:Option (Nat×List (List D)))(s:List D)(K:D→List D→Prop):Prop:=match o with
  | some (sz',rows)=>0≤n∧n<rows.length∧sz'=sz∧K (.ptr r q n.toNat 0) s
  | none=>False
def iaK (sz:Nat)(i x:D)(s:List D)(K:D→List D→Prop):Prop:=match i,x with
  | .v (.int _ n),.ref r q=>yWr sz n r q (zDk s (.ref r q)) s K
  | .v (.int _ n),.sl false sz' rows=>0≤n∧n<rows.length∧sz'=sz∧∃ row,rows[n.toNat]?=some row∧K (.iptr row 0) s
  | _,_=>False
theorem yW5 {sz x i}:zAl Ctr s (.ia sz x i) K=iaK sz (lk s i) (lk s x) s K:=rfl
theorem yS7 {sz k n r q}:iaK sz (.v (.int k n)) (.ref r q) s K=yWr sz n r q (zDk s (.ref r q)) s K:=rfl
theorem yWq {sz k n sz' rows}:iaK sz (.v (.int k n)) (.sl false sz' rows) s K=(0≤n∧n<rows.length∧sz'=sz∧∃ row,rows[n.toNat]?=some row∧K (.iptr row 0) s):=rfl
theorem yId {sz n r q sz' rows}:yWr sz n r q (some (sz',rows)) s K=(0≤n∧n<rows.length∧sz'=sz∧K (.ptr r q n.toNat 0) s):=rfl
def slF (q:zBa):Option D→Option (Nat×List (List D))
  | some d=>match zAj d q with
    | some (.sl true sz rows)=>some (sz,rows)
    | _=>none
  | none=>none
theorem yFc {r q}:zDk s (.ref r q)=slF q s[r]?:=by unfold zDk slF;rfl
theorem yLo {o sz rows}:zDk s (.sl o sz rows)=some (sz,rows):=rfl
theorem yAe:zDk s .nils=some (0,[]):=rfl
theorem yRo {sz rows}:slF [] (some (.sl true sz rows))=some (sz,rows):=rfl
def yWp (len sz:Nat)(i x:D)(s:List D)(K:D→List D→Prop):Prop:=match i,x with
  | .v (.int _ n),.ptr r q i j=>0≤n∧n<len∧K (.ptr r q i (j+n.toNat*sz)) s
  | .v (.int _ n),.iptr c j=>0≤n∧n<len∧K (.iptr c (j+n.toNat*sz)) s
  | _,_=>False
theorem yTv {len sz x i}:zAl Ctr s (.iaa len sz x i) K=yWp len sz (lk s i) (lk s x) s K:=rfl
theorem yOi {len sz k n r q i j}:yWp len sz (.v (.int k n)) (.ptr r q i j) s K=(0≤n∧n<len∧K (.ptr r q i (j+n.toNat*sz)) s):=rfl
theorem yIc {len sz k n c j}:yWp len sz (.v (.int k n)) (.iptr c j) s K=(0≤n∧n<len∧K (.iptr c (j+n.toNat*sz)) s):=rfl
def yXn (i x:D)(s:List D)(K:D→List D→Prop):Prop:=match i,x with
  | .v (.int _ n),.v (.string b)=>0≤n∧∃ c,b[n.toNat]?=some c∧K (.v (.int .u8 (c.toNat:Int))) s
  | _,_=>False
theorem yTt {x i}:zAl Ctr s (.ixs x i) K=yXn (lk s i) (lk s x) s K:=rfl
theorem yWo {k n b}:yXn (.v (.int k n)) (.v (.string b)) s K=(0≤n∧∃ c,b[n.toNat]?=some c∧K (.v (.int .u8 (c.toNat:Int))) s):=rfl
def yXo (len sz:Nat)(agg:Bool)(i x:D)(s:List D)(K:D→List D→Prop):Prop:=match i,x with
  | .v (.int _ n),.agg cs=>0≤n∧n<len∧len*sz≤cs.length∧K (zDp agg ((cs.drop (n.toNat*sz)).take sz)) s
  | _,_=>False
theorem yTu {len sz agg x i}:zAl Ctr s (.ixa len sz agg x i) K=yXo len sz agg (lk s i) (lk s x) s K:=rfl
theorem yOe {len sz agg k n cs}:yXo len sz agg (.v (.int k n)) (.agg cs) s K=(0≤n∧n<len∧len*sz≤cs.length∧K (zDp agg ((cs.drop (n.toNat*sz)).take sz)) s):=rfl
theorem yO0 {x lo hi}:zAl Ctr s (.slcS x lo hi) K=zTk (lk s x) (zQw s lo 0) (zQw s hi (zW4 (lk s x))) s K:=rfl
theorem yRm {b k l k' h}:zTk (.v (.string b)) (.v (.int k l)) (.v (.int k' h)) s K=(0≤l∧l≤h∧h≤b.size∧K (.v (.string (b.extract l.toNat h.toNat))) s):=rfl
theorem yTk {sz x lo hi mx}:zAl Ctr s (.slc sz x lo hi mx) K=yE9 sz (lk s x) (zQw s lo 0) (zQw s hi (zL9 s (lk s x))) (zQw s mx (zL9 s (lk s x))) s K:=rfl
theorem yFd {o sz rows}:zL9 s (.sl o sz rows)=rows.length:=rfl
theorem yAf {r q i n}:zL9 s (.sub r q i n)=n:=rfl
def yRp:Option (Nat×List (List D))→Nat
  | some (_,rows)=>rows.length
  | none=>0
theorem yAg {r q}:zL9 s (.ref r q)=yRp (zDk s (.ref r q)):=rfl
theorem zW3 {sz rows}:yRp (some (sz,rows))=rows.length:=rfl
def yXe (sz:Nat)(r:Nat)(q:zBa)(l h m:Int)(o:Option (Nat×List (List D)))(s:List D)(K:D→List D→Prop):Prop:=match o with
  | some (sz',rows)=>0≤l∧l≤h∧h≤rows.length∧sz'=sz∧h≤m∧m≤rows.length∧K (.sub r q l.toNat (h.toNat-l.toNat)) s
  | none=>False
def yXf (sz:Nat)(r:Nat)(q:zBa)(i n:Nat)(l h m:Int)(o:Option (Nat×List (List D)))(s:List D)(K:D→List D→Prop):Prop:=match o with
  | some (sz',rows)=>0≤l∧l≤h∧h≤n∧sz'=sz∧h≤m∧m≤n∧K (.sub r q (i+l.toNat) (h.toNat-l.toNat)) s
  | none=>False
theorem yLn {sz r q k l k' h k'' m}:yE9 sz (.ref r q) (.v (.int k l)) (.v (.int k' h)) (.v (.int k'' m)) s K=yXe sz r q l h m (zDk s (.ref r q)) s K:=rfl
theorem yE8 {sz r q i n k l k' h k'' m}:yE9 sz (.sub r q i n) (.v (.int k l)) (.v (.int k' h)) (.v (.int k'' m)) s K=yXf sz r q i n l h m (zDk s (.sub r q i n)) s K:=rfl
theorem yAa {sz r q l h m sz' rows}:yXe sz r q l h m (some (sz',rows)) s K=(0≤l∧l≤h∧h≤rows.length∧sz'=sz∧h≤m∧m≤rows.length∧K (.sub r q l.toNat (h.toNat-l.toNat)) s):=rfl
theorem yAc {sz r q i n l h m sz' rows}:yXf sz r q i n l h m (some (sz',rows)) s K=(0≤l∧l≤h∧h≤n∧sz'=sz∧h≤m∧m≤n∧K (.sub r q (i+l.toNat) (h.toNat-l.toNat)) s):=rfl
def yXd (i n:Nat):Option (Nat×List (List D))→Option (Nat×List (List D))
  | some (sz,rows)=>if i+n≤rows.length then some (sz,(rows.drop i).take n) else none
  | none=>none
theorem yFb {r q i n}:zDk s (.sub r q i n)=yXd i n (zDk s (.ref r q)):=by
  simp only [zDk];cases s[r]? with
  | none=>rfl
  | some d =>
    simp only;cases zAj d q with
    | none=>rfl
    | some t=>cases t<;>first | rfl | (rename_i o _ _;cases o<;>rfl)
theorem zZ0 {i n sz rows}:yXd i n (some (sz,rows))=if i+n≤rows.length then some (sz,(rows.drop i).take n) else none:=rfl
theorem yRl {sz sz' rows k l k' h k'' m}:yE9 sz (.sl false sz' rows) (.v (.int k l)) (.v (.int k' h)) (.v (.int k'' m)) s K=(0≤l∧l≤h∧h≤rows.length∧sz'=sz∧h≤m∧m≤rows.length∧K (.sl false sz ((rows.drop l.toNat).take (h.toNat-l.toNat))) s):=rfl
theorem yHf {n}:zQw s none n=.v (.int .i64 n):=rfl
theorem yHe {x n}:zQw s (some x) n=lk s x:=rfl
def yOx (t i:Nat)(vs:List D)(o:Option D)(s:List D)(K:D→List D→Prop):Prop:=match o with
  | some d=>K d (if d.owny then s.set t (.tup (vs.set i .undef)) else s)
  | none=>False
def yXs (t i:Nat)(o:Option D)(s:List D)(K:D→List D→Prop):Prop:=match o with
  | some (.tup vs)=>yOx t i vs vs[i]? s K
  | _=>False
theorem yTx {t i}:zAl Ctr s (.ext (.tmp t) i) K=yXs t i s[t]? s K:=rfl
theorem yOw {t i vs}:yXs t i (some (.tup vs)) s K=yOx t i vs vs[i]? s K:=rfl
theorem yDg {t i vs d}:yOx t i vs (some d) s K=K d (if d.owny then s.set t (.tup (vs.set i .undef)) else s):=rfl
def yXm (o:Option (Nat×List (List D)))(s:List D)(K:D→List D→Prop):Prop:=match o with
  | some (_,rows)=>K (.v (.int .i64 (rows.length:Int))) s
  | none=>False
theorem yTs {x}:zAl Ctr s (.len x) K=yXm (zDk s (lk s x)) s K:=rfl
theorem yH2 {sz rows}:yXm (some (sz,rows)) s K=K (.v (.int .i64 (rows.length:Int))) s:=rfl
def ySw (x:D)(s:List D)(K:D→List D→Prop):Prop:=match x with
  | .v (.string b)=>K (.v (.int .i64 (b.size:Int))) s
  | _=>False
theorem yO8 {x}:zAl Ctr s (.lenS x) K=ySw (lk s x) s K:=rfl
theorem ySv {b}:ySw (.v (.string b)) s K=K (.v (.int .i64 (b.size:Int))) s:=rfl
def mmK (mx:Bool)(x y:D)(s:List D)(K:D→List D→Prop):Prop:=match x,y with
  | .v (.int k a),.v (.int k' b)=>k=k'∧K (.v (.int k (if mx then (if b>a then b else a) else (if b<a then b else a)))) s
  | _,_=>False
theorem yW4 {mx x y}:zAl Ctr s (.mm mx [x,y]) K=mmK mx (lk s x) (lk s y) s K:=by
  simp only [zAl,List.map_cons,List.map_nil,mmK];split
  · rename_i h;simp only [List.cons.injEq,and_true] at h;rw [h.1,h.2]
  · rename_i h;split
    · rename_i e1 e2;exact absurd (by rw [e1,e2]) (h _ _ _ _)
    · rfl
theorem ySm {k a b}:mmK true (.v (.int k a)) (.v (.int k b)) s K=K (.v (.int k (if b>a then b else a))) s:=by simp [mmK]
theorem ySl {k a b}:mmK false (.v (.int k a)) (.v (.int k b)) s K=K (.v (.int k (if b<a then b else a))) s:=by simp [mmK]
variable {KR:List (List D)→List D→Prop}
def yQu (sz bytes:Nat)(rows:List (List D))(K:D→List D→Prop):List (List D)→List D→Prop:=fun more s2=>(rows.length+more.length)*(bytes+1)≤2 ^ 40∧K (.sl true sz (rows++more)) s2
theorem yJl {sz bytes rows more}:yQu sz bytes rows K more s=((rows.length+more.length)*(bytes+1)≤2 ^ 40∧K (.sl true sz (rows++more)) s):=rfl
def yQv (sz bytes:Nat)(y:Operand)(K:D→List D→Prop):List (List D)→List D→Prop:=fun rows s1=>zNw s1 sz y (yQu sz bytes rows K)
theorem yJm {sz bytes y rows}:yQv sz bytes y K rows s=zNw s sz y (yQu sz bytes rows K):=rfl
theorem yT4 {sz bytes x y}:zAl Ctr s (.app sz bytes x y) K=zSg s sz x (yQv sz bytes y K):=rfl
def yQt (bytes:Nat)(d:D)(rows:List (List D))(s1:List D)(K:D→List D→Prop):Prop:=match d with
  | .v (.string b)=>(rows.length+b.size)*(bytes+1)≤2 ^ 40∧K (.sl true 1 (rows++(zKx b).map zVg)) s1
  | _=>False
theorem yQs {bytes b rows}:yQt bytes (.v (.string b)) rows s K=((rows.length+b.size)*(bytes+1)≤2 ^ 40∧K (.sl true 1 (rows++(zKx b).map zVg)) s):=rfl
def yVa (bytes:Nat)(y:Operand)(K:D→List D→Prop):List (List D)→List D→Prop:=fun rows s1=>yQt bytes (lk s1 y) rows s1 K
theorem yD8 {bytes y rows}:yVa bytes y K rows s=yQt bytes (lk s y) rows s K:=rfl
theorem yPd {bytes x y}:zAl Ctr s (.appS bytes x y) K=zSg s 1 x (yVa bytes y K):=rfl
def yOo (sz:Nat)(KR:List (List D)→List D→Prop):D→List D→Prop:=fun d s'=>match d with
  | .sl true sz' rows=>sz'=sz∧KR rows s'
  | _=>False
theorem yIl {sz sz' rows}:yOo sz KR (.sl true sz' rows) s=(sz'=sz∧KR rows s):=rfl
def yIn (sz:Nat)(s0:List D)(p:D×List D)(KR:List (List D)→List D→Prop):Prop:=match p.1 with
  | .sl true sz' rows=>sz'=sz∧KR rows p.2
  | .nils=>KR [] s0
  | .ref r q=>zCi s0 r q (yOo sz KR)
  | _=>False
theorem yOm {sz x}:zSg s sz x KR=yIn sz s (tk s x) KR:=rfl
theorem yIm {sz s0 sz' rows}:yIn sz s0 (.sl true sz' rows,s) KR=(sz'=sz∧KR rows s):=rfl
theorem zYl {sz s0}:yIn sz s0 (.nils,s) KR=KR [] s0:=rfl
theorem yDb {sz s0 r q}:yIn sz s0 (.ref r q,s) KR=zCi s0 r q (yOo sz KR):=rfl
def yVe (sz:Nat)(s0:List D)(o:Option (Nat×List (List D)))(KR:List (List D)→List D→Prop):Prop:=match o with
  | some (sz',rows)=>(sz'=sz∨rows=[])∧(∀ row,row∈rows→zCb row=false)∧KR rows s0
  | none=>False
theorem yD9 {sz s0 sz' rows}:yVe sz s0 (some (sz',rows)) KR=((sz'=sz∨rows=[])∧(∀ row,row∈rows→zCb row=false)∧KR rows s0):=rfl
def yQ4 (sz:Nat)(s0:List D)(p:D×List D)(KR:List (List D)→List D→Prop):Prop:=match p.1 with
  | .sl true sz' rows=>(sz'=sz∨rows=[])∧KR rows p.2
  | .sl false sz' rows=>(sz'=sz∨rows=[])∧KR rows s0
  | .nils=>KR [] s0
  | .ref r q=>yVe sz s0 (zDk s0 (.ref r q)) KR
  | .sub r q i n=>yVe sz s0 (zDk s0 (.sub r q i n)) KR
  | _=>False
theorem yVc {sz y}:zNw s sz y KR=yQ4 sz s (tk s y) KR:=rfl
theorem yJp {sz s0 sz' rows}:yQ4 sz s0 (.sl true sz' rows,s) KR=((sz'=sz∨rows=[])∧KR rows s):=rfl
theorem yJq {sz s0 sz' rows}:yQ4 sz s0 (.sl false sz' rows,s) KR=((sz'=sz∨rows=[])∧KR rows s0):=rfl
theorem yEa {sz s0}:yQ4 sz s0 (.nils,s) KR=KR [] s0:=rfl
theorem yJn {sz s0 r q i n}:yQ4 sz s0 (.sub r q i n,s) KR=yVe sz s0 (zDk s0 (.sub r q i n)) KR:=rfl
theorem yJo {sz s0 r q}:yQ4 sz s0 (.ref r q,s) KR=yVe sz s0 (zDk s0 (.ref r q)) KR:=rfl
theorem yTr {f first caps}:zAl Ctr s (.mkf f first caps) K=K (.fn f (first.map (lk s)) (caps.map (lk s))) s:=rfl
def yXk (sz bytes:Nat)(zero:List Value)(l c:D)(s:List D)(K:D→List D→Prop):Prop:=match l,c with
  | .v (.int _ n),.v (.int _ m)=>0≤n∧n≤m∧m*(bytes+1)≤2 ^ 40∧K (.sl true sz (List.replicate n.toNat (zero.map ofC))) s
  | _,_=>False
theorem yTp {sz bytes zero l c}:zAl Ctr s (.mks sz bytes zero l c) K=yXk sz bytes zero (lk s l) (lk s c) s K:=rfl
theorem yNi {sz bytes zero k n k' m}:yXk sz bytes zero (.v (.int k n)) (.v (.int k' m)) s K=(0≤n∧n≤m∧m*(bytes+1)≤2 ^ 40∧K (.sl true sz (List.replicate n.toNat (zero.map ofC))) s):=rfl
/-! the code -/
variable {Q:VExit→List D→Prop} {next:List D→Prop}
theorem yKx {l:List VO}:(VCode.ops l).wp Ctr Q s=zJe Ctr s l (Q .normal):=rfl
theorem yKv {x y:VCode}:(VCode.seq x y).wp Ctr Q s=x.wp Ctr (zJf (y.wp Ctr Q) Q) s:=rfl
theorem yEf:VCode.skip.wp Ctr Q s=Q .normal s:=rfl
theorem yKw:VCode.ret.wp Ctr Q s=Q .ret s:=rfl
theorem yEg {i}:(VCode.exit i).wp Ctr Q s=Q (.exit i) s:=rfl
theorem zZk {i}{c:VCode}:(VCode.block i c).wp Ctr Q s=c.wp Ctr (zLy i Q) s:=rfl
def zY0 (d:D)(A B:List D→Prop)(s:List D):Prop:=match d with
  | .v (.bool t)=>(t=true→A s)∧(t=false→B s)
  | _=>False
theorem yEi {x}{a b:VCode}:(VCode.cond x a b).wp Ctr Q s=zY0 (lk s x) (a.wp Ctr Q) (b.wp Ctr Q) s:=rfl
variable {A B:List D→Prop}
theorem yUj:zY0 (.v (.bool true)) A B s=A s:=by simp [zY0]
theorem yUk:zY0 (.v (.bool false)) A B s=B s:=by simp [zY0]
theorem zAn {t:Bool}{A B:List D→Prop}{s:List D}(h1:t=true→A s)(h2:t=false→B s):zY0 (.v (.bool t)) A B s:=⟨h1,h2⟩
theorem yRi:zJf next Q .normal s=next s:=rfl
theorem yRh:zJf next Q .ret s=Q .ret s:=rfl
theorem yRj {i}:zJf next Q (.exit i) s=Q (.exit i) s:=rfl
theorem yP4 {i}:zLy i Q .normal s=Q .normal s:=rfl
theorem yP3 {i}:zLy i Q .ret s=Q .ret s:=rfl
theorem yP5 {i j}:zLy i Q (.exit j) s=if j=i then Q .normal s else Q (.exit j) s:=rfl
theorem zX3 {mask:List Bool}{c:VCode}{Q:VExit→List D→Prop}{s:List D}(J:Nat→List D→Prop)(n:Nat)(h0:∃ s1,zC7 (clr mask s) s1∧J n s1)(h:∀ n s',J n s'→c.wp Ctr (zJf (fun s''=>∃ m,m<n∧∃ s1,zC7 (clr mask s'') s1∧J m s1) Q) s'):(VCode.loop mask c).wp Ctr Q s:=⟨J,⟨n,h0⟩,h⟩
/-! the results -/
def NoG:World→(Nat→Prop)→Prop:=fun _ _=>True
theorem noG:yQw NoG:=fun _ _ _ _ _=>trivial
theorem gI {w:World}{I:Nat→Prop}:GI NoG w I:=⟨fun _=>False,fun _ h=>h.elim,trivial⟩
end Go.V
namespace Go.V
open Go.RowKit
section
variable {Ctr:CtrT} {s s':List D} {K:D→List D→Prop} {KP:List D→Prop} {KD:D→Prop} {KL:List D→Prop} {Q:VExit→List D→Prop} {pr:Option (Nat×zBa)} {os:List DOp}
/-! ### Regions that draw -/
def zLv (Ctr:CtrT)(cls:List Bool)(tail:List VO)(Q:VExit→List D→Prop):List D→Prop:=fun s=>zJe Ctr (clr cls s) tail (Q .normal)
theorem yEh {start cls l1 tail}:(VCode.draw start cls l1 tail).wp Ctr Q s=zFw Ctr none (clr start s) l1 (zLv Ctr cls tail Q):=rfl
theorem zUj {cls tail}:zLv Ctr cls tail Q s=zJe Ctr (clr cls s) tail (Q .normal):=rfl
def yOk (Ctr:CtrT)(pr:Option (Nat×zBa))(s:List D)(dst:Option Nat)(os:List DOp)(KP:List D→Prop):D→Prop:=fun d=>zFw Ctr pr (zK4 s dst (prO pr d)) os KP
def zEt (Ctr:CtrT)(V:List D)(cl:List Bool)(want:Bool)(op:VOp)(d:D)(KD:D→Prop):Prop:=match d with
  | .v (.bool b)=>(b=want→zSo Ctr V cl op KD)∧(b≠want→KD (.v (.tuple #[])))
  | .v _=>KD (.v (.tuple #[]))
  | _=>False
theorem yIe:zFw Ctr pr s [] KP=KP s:=rfl
theorem yC5 {i hid cl dst op}:zFw Ctr pr s (⟨i,hid,cl,⟨dst,none,op⟩⟩::os) KP=zSo Ctr (clr hid s) cl op (yOk Ctr pr s dst os KP):=rfl
theorem zYj {i hid cl dst op g want}:zFw Ctr pr s (⟨i,hid,cl,⟨dst,some (g,want),op⟩⟩::os) KP=zEt Ctr (clr hid s) cl want op (lkT (clr hid s) g) (yOk Ctr pr s dst os KP):=rfl
theorem yC7 {dst d}:yOk Ctr pr s dst os KP d=zFw Ctr pr (zK4 s dst (prO pr d)) os KP:=rfl
theorem yWw {V cl op}:zEt Ctr V cl true op (.v (.bool true)) KD=zSo Ctr V cl op KD:=by simp [zEt]
theorem yWz {V cl op}:zEt Ctr V cl false op (.v (.bool false)) KD=zSo Ctr V cl op KD:=by simp [zEt]
theorem yWx {V cl op}:zEt Ctr V cl true op (.v (.bool false)) KD=KD (.v (.tuple #[])):=by simp [zEt]
theorem yWy {V cl op}:zEt Ctr V cl false op (.v (.bool true)) KD=KD (.v (.tuple #[])):=by simp [zEt]
theorem yOp {V cl op want}:zEt Ctr V cl want op (.v (.tuple #[])) KD=KD (.v (.tuple #[])):=by simp [zEt]
theorem zLu {V cl op want}{b:Bool}(h1:b=true→zEt Ctr V cl want op (.v (.bool true)) KD)(h2:b=false→zEt Ctr V cl want op (.v (.bool false)) KD):zEt Ctr V cl want op (.v (.bool b)) KD:=by
  cases b
  · exact h2 rfl
  · exact h1 rfl
def yI2 (V:List D)(cl:List Bool)(KD:D→Prop):D→List D→Prop:=fun d s'=>clr cl s'=clr cl V∧KD d
theorem yI1 {V cl op}:zSo Ctr V cl op KD=zAl Ctr V op (yI2 V cl KD):=rfl
theorem zV9:∀ (s:List D),clr [] s=s:=by
  intro s;apply List.ext_getElem?;intro r;rw [zA2];cases s[r]? with
  | none=>rfl
  | some d=>have:zA3 []=fun _=>true:=(by funext x;cases x<;>rfl);simp [this,D.prune_yes]
theorem yDk {V d}:yI2 V [] KD d s'=(s'=V∧KD d):=by unfold yI2;rw [zV9,zV9]
theorem zYw {V d b cl}:yI2 V (b::cl) KD d s'=(clr (b::cl) s'=clr (b::cl) V∧KD d):=rfl
theorem zXb {t d}:zK4 s (some t) d=s.set t d:=rfl
theorem zXc {d}:zK4 s none d=s:=rfl
theorem yBr {d}:prO none d=d:=rfl
theorem yBq {r q d}:prO (some (r,q)) d=d.prune (zAi r q):=rfl
theorem yUl {m}:clr m s=zKw (zA3 m) m s:=rfl
theorem yI7 {q m}:zKw q m []=[]:=by simp [zKw]
theorem yUn {q m d}:zKw q (true::m) (d::s)=.undef::zKw q m s:=rfl
theorem yUo {q m d}:zKw q (false::m) (d::s)=d.prune q::zKw q m s:=rfl
theorem yUp {q d}:zKw q [] (d::s)=d.prune q::zKw q [] s:=rfl
theorem yCu {m r p}:zA3 m (.ref r p)=!m.getD r false:=rfl
theorem yCt {m r p i j}:zA3 m (.sub r p i j)=!m.getD r false:=rfl
theorem yCv {m r p i j}:zA3 m (.ptr r p i j)=!m.getD r false:=rfl
theorem yTa {b:Bool}{m:List Bool}:(b::m).getD 0 false=b:=rfl
theorem yTb {b:Bool}{m:List Bool}{n:Nat}:(b::m).getD (n+1) false=m.getD n false:=by simp
theorem yTc {n:Nat}:([]:List Bool).getD n false=false:=by simp
def yXl (Ctr:CtrT)(start cls:List Bool)(o:DOp)(l2:List DOp)(tail:List VO)(Q:VExit→List D→Prop):List D→Prop:=fun s=>yWi Ctr start cls s o l2 fun s''=>zJe Ctr s'' tail (Q .normal)
def zV2 (Ctr:CtrT)(fills:List (Nat×Nat))(cls:List Bool)(tail:List VO)(Q:VExit→List D→Prop):List D→Prop:=fun s=>zI7 s fills∧zJe Ctr (clr cls s) tail (Q .normal)
/-! order by order -/
def zKb (Ctr:CtrT)(dst:Option Nat)(t:VT)(KP:List D→Prop):D→List D→Prop:=fun d s'=>t.wp Ctr KP (match dst with | some t=>zId s' t d | none=>s')
theorem zZv:VT.done.wp Ctr KP s=KP s:=rfl
theorem yEq {i dst op sub}:(VT.br i ⟨dst,none,op⟩ sub .nil).wp Ctr KP s=zAl Ctr s op (zKb Ctr dst sub KP):=by simp only [VT.wp,and_true];rfl
theorem yRa {i dst op sub}:(VT.h i ⟨dst,none,op⟩ sub).wp Ctr KP s=zAl Ctr s op (zKb Ctr dst sub KP):=rfl
theorem yK5 {i dst op sub j o sub2 rest}:(VT.br i ⟨dst,none,op⟩ sub (.br j o sub2 rest)).wp Ctr KP s=(zAl Ctr s op (zKb Ctr dst sub KP)∧(VT.br j o sub2 rest).wp Ctr KP s):=rfl
def zFr (Ctr:CtrT)(s:List D)(dst:Option Nat)(want:Bool)(op:VOp)(sub:VT)(KP:List D→Prop)(d:D):Prop:=match d with
  | .v (.bool b)=>(b=want→zAl Ctr s op (zKb Ctr dst sub KP))∧(b≠want→zKb Ctr dst sub KP (.v (.tuple #[])) s)
  | .v _=>zKb Ctr dst sub KP (.v (.tuple #[])) s
  | _=>False
theorem zZu {i dst g want op sub}:(VT.br i ⟨dst,some (g,want),op⟩ sub .nil).wp Ctr KP s=zFr Ctr s dst want op sub KP (lkT s g):=by simp only [VT.wp,and_true];rfl
theorem yEr {i dst g want op sub j o sub2 rest}:(VT.br i ⟨dst,some (g,want),op⟩ sub (.br j o sub2 rest)).wp Ctr KP s=(zFr Ctr s dst want op sub KP (lkT s g)∧(VT.br j o sub2 rest).wp Ctr KP s):=rfl
theorem yWs {dst op sub}:zFr Ctr s dst true op sub KP (.v (.bool true))=zAl Ctr s op (zKb Ctr dst sub KP):=by simp [zFr]
theorem yWv {dst op sub}:zFr Ctr s dst false op sub KP (.v (.bool false))=zAl Ctr s op (zKb Ctr dst sub KP):=by simp [zFr]
theorem yWt {dst op sub}:zFr Ctr s dst true op sub KP (.v (.bool false))=zKb Ctr dst sub KP (.v (.tuple #[])) s:=by simp [zFr]
theorem yWu {dst op sub}:zFr Ctr s dst false op sub KP (.v (.bool true))=zKb Ctr dst sub KP (.v (.tuple #[])) s:=by simp [zFr]
theorem yOl {dst op sub want}:zFr Ctr s dst want op sub KP (.v (.tuple #[]))=zKb Ctr dst sub KP (.v (.tuple #[])) s:=by simp [zFr]
theorem zYy {t sub d}:zKb Ctr (some t) sub KP d s=sub.wp Ctr KP (zId s t d):=rfl
theorem zYz {sub d}:zKb Ctr none sub KP d s=sub.wp Ctr KP s:=rfl
theorem zZj {pre fills start cls l1 tail}:(VCode.drawB pre fills start cls l1 tail).wp Ctr Q s=(zKy s pre∧zFw Ctr none (clr start s) l1 (zV2 Ctr fills cls tail Q)):=rfl
theorem zSn {fills cls tail}:zV2 Ctr fills cls tail Q s=(zI7 s fills∧zJe Ctr (clr cls s) tail (Q .normal)):=rfl
theorem zY5:zKy s []=True:=rfl
theorem zUw {t n l}:zKy s ((t,n)::l)=(yQ3 s t n∧zKy s l):=rfl
theorem zY4:zI7 s []=True:=rfl
theorem zUv {t n l}:zI7 s ((t,n)::l)=(yJf s t n∧zI7 s l):=rfl
def yUx (n:Nat):Option D→Prop
  | some (.box _ cells)=>cells.length=n
  | _=>False
def yUw (n:Nat):Option D→Prop
  | some (.box none cells)=>cells.length=n
  | _=>False
theorem yP0 {t n}:yQ3 s t n=yUx n s[t]?:=rfl
theorem yPz {t n}:yJf s t n=yUw n s[t]?:=rfl
theorem yD2 {n tag cells}:yUx n (some (.box tag cells))=(cells.length=n):=rfl
theorem yD1 {n cells}:yUw n (some (.box none cells))=(cells.length=n):=rfl
theorem zZi {start cls l1 o l2 tail}:(VCode.drawW start cls l1 o l2 tail).wp Ctr Q s=zFw Ctr none (clr start s) l1 (yXl Ctr start cls o l2 tail Q):=rfl
def yJ7 (Ctr:CtrT)(s:List D)(dst:Option Nat)(l2:List DOp)(cls:List Bool)(tail:List VO)(Q:VExit→List D→Prop):Nat→zBa→D→Prop:=fun r q d=>zFw Ctr (some (r,q)) (zK4 (zCa r q s) dst d) l2 (zLv Ctr cls tail Q)
theorem yNk {start cls i hid cl dst g sz by' x y l2 tail}:yXl Ctr start cls ⟨i,hid,cl,⟨dst,g,.app sz by' x y⟩⟩ l2 tail Q s=zIe start (clr hid s) sz by' x y (yJ7 Ctr s dst l2 cls tail Q):=rfl
theorem zXq {dst l2 cls tail r q d}:yJ7 Ctr s dst l2 cls tail Q r q d=zFw Ctr (some (r,q)) (zK4 (zCa r q s) dst d) l2 (zLv Ctr cls tail Q):=rfl
variable {KR:Nat→zBa→D→Prop}
def yBx (sz by':Nat)(rows:List (List D))(KD:D→Prop):List (List D)→List D→Prop:=fun more _=>(rows.length+more.length)*(by'+1)≤2 ^ 40∧KD (.sl true sz (rows++more))
theorem zXr {sz by' rows more}:yBx sz by' rows KD more s=((rows.length+more.length)*(by'+1)≤2 ^ 40∧KD (.sl true sz (rows++more))):=rfl
def yBy (sz by':Nat)(y:Operand)(KD:D→Prop):D→List D→Prop:=fun d s1=>match d with
  | .sl true sz' rows=>sz'=sz∧zNw s1 sz y (yBx sz by' rows KD)
  | _=>False
theorem zXs {sz by' y sz' rows}:yBy sz by' y KD (.sl true sz' rows) s=(sz'=sz∧zNw s sz y (yBx sz by' rows KD)):=rfl
def yJ8 (start:List Bool)(V:List D)(sz by':Nat)(y:Operand)(p:D×List D)(KR:Nat→zBa→D→Prop):Prop:=match p.1 with
  | .ref r q=>start.getD r false=false∧zCi V r q (yBy sz by' y (KR r q))
  | _=>False
theorem yG5 {start V sz by' x y}:zIe start V sz by' x y KR=yJ8 start V sz by' y (tk V x) KR:=rfl
theorem zXt {start V sz by' y r q}:yJ8 start V sz by' y (.ref r q,s) KR=(start.getD r false=false∧zCi V r q (yBy sz by' y (KR r q))):=rfl
def yS8 (r:Nat)(q:zBa)(s:List D)(o:Option D):List D:=match o with
  | some d=>(zAh (zAi r q) s).set r (setAt (d.prune (zAi r q)) q .undef)
  | none=>s
theorem yOj {r q}:zCa r q s=yS8 r q s s[r]?:=rfl
theorem zYe {r q d}:yS8 r q s (some d)=(zAh (zAi r q) s).set r (setAt (d.prune (zAi r q)) q .undef):=rfl
/-! ### Kin of append and the like -/
variable {KG:List (List D)→List D→Prop}
def yDa (sz:Nat)(s0:List D)(p:D×List D)(KG:List (List D)→List D→Prop):Prop:=match p.1 with
  | .sl true sz' rows=>sz'=sz∧KG rows p.2
  | .nils=>KG [] s0
  | _=>False
theorem yIk {sz x}:zGf s sz x KG=yDa sz s (tk s x) KG:=rfl
theorem yC9 {sz s0 sz' rows}:yDa sz s0 (.sl true sz' rows,s) KG=(sz'=sz∧KG rows s):=rfl
theorem zUc {sz s0}:yDa sz s0 (.nils,s) KG=KG [] s0:=rfl
theorem yPe {sz by' x y}:zAl Ctr s (.appN sz by' x y) K=zGf s sz x (yQv sz by' y K):=rfl
def yUt (sz n:Nat)(p:List D×List D)(K:D→List D→Prop):Prop :=
  p.1.all (fun d=>d.okCells&&d.cells.length==sz)=true∧zMl (p.1.flatMap D.cells)=true∧K (.sl true sz (zFx sz n (p.1.flatMap D.cells))) p.2
theorem yPb {sz parts}:zAl Ctr s (.bslN sz parts) K=yUt sz parts.length (tkL s parts) K:=rfl
theorem yPy {sz n}{ds:List D}:yUt sz n (ds,s) K=(ds.all (fun d=>d.okCells&&d.cells.length==sz)=true∧zMl (ds.flatMap D.cells)=true∧K (.sl true sz (zFx sz n (ds.flatMap D.cells))) s):=rfl
def yTh (o:Option D) (s:List D) (K:D→List D→Prop) (i:Nat):Prop:=match o with
  | some (.tup vs)=>match vs[i]? with
    | some d=>d.owny=false∧K d s
    | none=>False
  | _=>False
def yTi (o:Option D)(s:List D)(K:D→List D→Prop):Prop:=match o with
  | some d=>d.owny=false∧K d s
  | none=>False
theorem yO9 {t i}:zAl Ctr s (.extN (.tmp t) i) K=yTh s[t]? s K i:=rfl
theorem yIq {vs i}:yTh (some (.tup vs)) s K i=yTi vs[i]? s K:=rfl
theorem zYo {d}:yTi (some d) s K=(d.owny=false∧K d s):=rfl
/-! ### A function's end -/
theorem yPj {rvs d}:zC9 rvs d .ret s=zOi s rvs (leK d):=rfl
theorem yW8 {rvs d}:zC9 rvs d .normal s=zOi s rvs (leK d):=rfl
theorem yIw {rvs d i b cs}:yT9 rvs d i b cs .ret s=zOi s rvs (leX d i b cs):=rfl
theorem yT8 {rvs d i b cs}:yT9 rvs d i b cs .normal s=zOi s rvs (leX d i b cs):=rfl
section
variable {KS:List D→List D→Prop}
def yMr (d:D)(KL:List D→List D→Prop):List D→List D→Prop:=fun ds=>KL (d::ds)
def rvN (rs:List RV)(KL:List D→List D→Prop):D→List D→Prop:=fun d s'=>zOi s' rs (yMr d KL)
theorem yMa:zOi s [] KS=KS [] s:=rfl
theorem yFy {r rs}:zOi s (r::rs) KS=rvK s r (rvN rs KS):=rfl
theorem yMc {rs d}:rvN rs KS d s=zOi s rs (yMr d KS):=rfl
theorem yBg {d ds}:yMr d KS ds s=KS (d::ds) s:=rfl
end
theorem yOb {d ds}:leK d ds s=(one ds).le d:=rfl
def yVi (b:Nat)(cells':List D):Option D→Prop
  | some (.box (some b') cs)=>b'=b∧leL (zAh (fun _=>false) cs) cells'
  | _=>False
theorem yI0 {rvs d b cs}:yXv rvs d b cs .ret s=zOi s rvs (leG d b cs):=rfl
theorem yUb {rvs d b cs}:yXv rvs d b cs .normal s=zOi s rvs (leG d b cs):=rfl
theorem yOc {d ds b cs}:leG d b cs ds s=((one ds).le d∧yXh b cs s):=rfl
def yV1 (x n:Nat)(s:List D)(K:D→List D→Prop):Option D→Prop
  | some (.box _ (.ptr r [] 0 0::rest))=>rest.length+1=n∧r≠x∧rest.all D.flatI=true∧zBg ((zAh (zAg x) s).set x .undef) (.ptr r [] 0 0) (fun d' s'=>K (.agg (d'::rest)) s')
  | _=>False
theorem yIx {x n d}:yXu x n d .ret s=yV1 x n s (fun d' _=>d'.le d) s[x]?:=rfl
theorem yUa {x n d}:yXu x n d .normal s=yV1 x n s (fun d' _=>d'.le d) s[x]?:=rfl
theorem yFz {x n K g r rest}:yV1 x n s K (some (.box g (.ptr r [] 0 0::rest)))=(rest.length+1=n∧r≠x∧rest.all D.flatI=true∧zBg ((zAh (zAg x) s).set x .undef) (.ptr r [] 0 0) (fun d' s'=>K (.agg (d'::rest)) s')):=rfl
theorem yDj {rvs d i b cs}:yIy rvs d i b cs .ret s=zOi s rvs (yS0 d i b cs):=rfl
theorem yPl {rvs d i b cs}:yIy rvs d i b cs .normal s=zOi s rvs (yS0 d i b cs):=rfl
def yM2 (b:Nat)(cells':List D):Option D→Prop
  | some (.fn _ [.box (some b') cs] [])=>b'=b∧leL (zAh (fun _=>false) cs) cells'
  | _=>False
theorem yH6 {d ds i b cs}:yS0 d i b cs ds s=((one ds).le d∧yM2 b cs s[i]?):=by unfold yS0 yWc yM2;rfl
theorem yHc {g b b' cs cells'}:yM2 b cells' (some (.fn g [.box (some b') cs] []))=(b'=b∧leL (zAh (fun _=>false) cs) cells'):=rfl
def yNj (ty:Nat)(t:Nat)(s:List D)(K:D→List D→Prop):Option D→Prop
  | some (.box _ [.v (.int .i64 m),.v (.int .i64 n)])=>K (.mp (.err ty) [(.int .i64 m,.int .i64 n)]) ((zAh (zAg t) s).set t .undef)
  | _=>False
theorem yOa {d ds i b cs}:leX d i b cs ds s=((one ds).le d∧yVi b cs s[i]?):=by unfold leX yWb yVi;rfl
theorem yHd {b cs cells'}:yVi b cells' (some (.box (some b) cs))=leL (zAh (fun _=>false) cs) cells':=by simp [yVi]
theorem yWe {d}:one [d]=d:=rfl
theorem yWf:one []=.tup []:=rfl
theorem yWd {d e ds}:one (d::e::ds)=.tup (d::e::ds):=rfl
def rv2 (p:D×List D)(K:D→List D→Prop):Prop:=p.1.okCells=true∧zBg p.2 p.1 K
theorem yX7 {t}:rvK s (.t t) K=rv2 (tkT s t) K:=rfl
theorem yRu {d}:rv2 (d,s) K=(d.okCells=true∧zBg s d K):=rfl
def rv3 (t n:Nat)(agg:Bool)(s:List D)(o:Option D)(K:D→List D→Prop):Prop:=match o with
  | some (.box _ cells)=>cells.length=n∧(zDp agg (zAh (zAg t) cells)).okCells=true∧zBg ((zAh (zAg t) s).set t .undef) (zDp agg (zAh (zAg t) cells)) K
  | _=>False
theorem yX8 {t n agg}:rvK s (.c t n agg) K=rv3 t n agg s s[t]? K:=rfl
theorem yMd {t n agg g cells}:rv3 t n agg s (some (.box g cells)) K=(cells.length=n∧(zDp agg (zAh (zAg t) cells)).okCells=true∧zBg ((zAh (zAg t) s).set t .undef) (zDp agg (zAh (zAg t) cells)) K):=rfl
def yGd (d:D)(K:D→List D→Prop):List D→List D→Prop:=fun cs s'=>K (zDd d cs) s'
def yP1 (K:D→List D→Prop):List D→List D→Prop:=fun cs s'=>K (.box none cs) s'
theorem yD3 {cs}:yP1 K cs s=K (.box none cs) s:=rfl
def yV6 (r:Nat)(s:List D)(K:D→List D→Prop):Option D→Prop
  | some (.box _ cells)=>zBr (zAh (zIb r) cells)=true∧zCo ((zAh (zAg r) s).set r .undef) (zAh (zIb r) cells) (yP1 K)
  | _=>False
theorem zTm {r}:zBg s (.ptr r [] 0 0) K=yV6 r s K s[r]?:=by unfold zBg yV6;rfl
theorem yF8 {r g cells}:yV6 r s K (some (.box g cells))=(zBr (zAh (zIb r) cells)=true∧zCo ((zAh (zAg r) s).set r .undef) (zAh (zIb r) cells) (yP1 K)):=rfl
theorem zTn {cs}:zBg s (.agg cs) K=(zBr cs=true∧zCo s cs (yGd (.agg cs) K)):=rfl
theorem yA8 {x}:zBg s (.v x) K=(zBr [.v x]=true∧zCo s [.v x] (yGd (.v x) K)):=rfl
theorem zRm:zBg s .nils K=(zBr [.nils]=true∧zCo s [.nils] (yGd .nils K)):=rfl
theorem zPt:zBg s .undef K=(zBr [.undef]=true∧zCo s [.undef] (yGd .undef K)):=rfl
theorem zXh {o z r}:zBg s (.sl o z r) K=(zBr [.sl o z r]=true∧zCo s [.sl o z r] (yGd (.sl o z r) K)):=rfl
theorem zTl {r p}:zBg s (.ref r p) K=(zBr [.ref r p]=true∧zCo s [.ref r p] (yGd (.ref r p) K)):=rfl
theorem zXi {k e}:zBg s (.mp k e) K=(zBr [.mp k e]=true∧zCo s [.mp k e] (yGd (.mp k e) K)):=rfl
theorem zRn {c j}:zBg s (.iptr c j) K=(zBr [.iptr c j]=true∧zCo s [.iptr c j] (yGd (.iptr c j) K)):=rfl
theorem yR0 {k e ds}:zDd (.mp k e) ds=ds.headD .undef:=rfl
theorem ySy {k e k' e'}:(D.mp k e).le (.mp k' e')=(k=k'∧e=e'):=by simp [D.le]
theorem yN8 {g e g' e'}:(D.box g e).le (.box g' e')=(g=g'∧e=e'):=by simp [D.le]
theorem yGc {d cs}:yGd d K cs s=K (zDd d cs) s:=rfl
theorem yMq {cs ds}:zDd (.agg cs) ds=.agg ds:=rfl
theorem yV7 {x ds}:zDd (.v x) ds=ds.headD .undef:=rfl
theorem yGa {ds}:zDd .nils ds=ds.headD .undef:=rfl
theorem yBc {ds}:zDd .undef ds=ds.headD .undef:=rfl
theorem yRz {o z r ds}:zDd (.sl o z r) ds=ds.headD .undef:=rfl
theorem yMp {r p ds}:zDd (.ref r p) ds=ds.headD .undef:=rfl
theorem yGb {c j ds}:zDd (.iptr c j) ds=ds.headD .undef:=rfl
theorem yCm {d:D}:d.le .undef=True:=by cases d<;>simp [D.le]
theorem yWk {a b:Value}:(D.v a).le (.v b)=(a=b):=by simp [D.le]
theorem yH4:D.nils.le .nils=True:=by simp [D.le]
theorem yH3 {o z r}:D.nils.le (.sl o z r)=(r=[]):=by simp [D.le]
theorem ySx {o z r o' z' r'}:(D.sl o z r).le (.sl o' z' r')=(o=o'∧z=z'∧r=r'):=by simp [D.le]
theorem yN9 {a b}:(D.agg a).le (.agg b)=leL a b:=by simp [D.le]
theorem yN7 {a b}:(D.tup a).le (.tup b)=leL a b:=by simp [D.le]
theorem ySz {f g a b c d}:(D.fn f a b).le (.fn g c d)=(f=g∧leL a c∧leL b d):=by simp [D.le]
theorem yH5:leL [] []=True:=by simp [leL]
theorem yCo {a b a2 b2}:leL (a::a2) (b::b2)=(a.le b∧leL a2 b2):=by simp [leL]
end
end Go.V
namespace Go.V
open Go.RowKit
section
variable {Ctr:CtrT} {s:List D} {K:D→List D→Prop}
def yXt (neg:Bool) (ks:List Nat) (x y:D) (s:List D) (K:D→List D→Prop):Prop:=match x,y with
  | .agg a,.agg b=>zAq ks a=true∧match zAx a b with
    | some c=>K (.v (.bool (if neg then !c else c))) s
    | none=>False
  | _,_=>False
theorem yTy {neg ks x y}:zAl Ctr s (.eqs neg ks x y) K=yXt neg ks (lk s x) (lk s y) s K:=rfl
def yW7 (neg:Bool)(o:Option Bool)(s:List D)(K:D→List D→Prop):Prop:=match o with
  | some c=>K (.v (.bool (if neg then !c else c))) s
  | none=>False
theorem yPf {neg ks a b}:yXt neg ks (.agg a) (.agg b) s K=(zAq ks a=true∧yW7 neg (zAx a b) s K):=rfl
theorem yT6 {c}:yW7 false (some c) s K=K (.v (.bool c)) s:=rfl
theorem yT5 {c}:yW7 true (some c) s K=K (.v (.bool (!c))) s:=rfl
theorem yPh:zAx [] []=some true:=rfl
theorem yPi {k a b xs ys}:zAx (.v (.int k a)::xs) (.v (.int k b)::ys)=(zAx xs ys).map (decide (a=b)&&·):=by simp [zAx]
theorem yPg {a b xs ys}:zAx (.v (.string a)::xs) (.v (.string b)::ys)=(zAx xs ys).map (decide (a=b)&&·):=rfl
theorem yIv {a b xs ys}:zAx (.v (.bool a)::xs) (.v (.bool b)::ys)=(zAx xs ys).map ((a==b)&&·):=rfl
theorem yOd:zAq [] []=true:=rfl
theorem yWn {ks b ds}:zAq (0::ks) (.v (.bool b)::ds)=zAq ks ds:=rfl
theorem yWm {ks k n ds}:zAq (1::ks) (.v (.int k n)::ds)=zAq ks ds:=rfl
theorem yWl {ks b ds}:zAq (2::ks) (.v (.string b)::ds)=zAq ks ds:=rfl
theorem yT2 {x}:zAl Ctr s (.b2s x) K=yU3 (zDk s (lk s x)) s K:=rfl
theorem yU2 {sz rows}:yU3 (some (sz,rows)) s K=∃ xs:List Int,rows=xs.map zVg∧K (.v (.string (zZd xs))) s:=rfl
theorem yIs {neg x}:zAl Ctr s (.isnil neg x) K=zSa neg (lk s x) (zDk s (lk s x)) s K:=rfl
theorem zYa {neg o}:zSa neg .nils o s K=K (.v (.bool (!neg))) s:=rfl
/-! maps -/
theorem yTq {k}:zAl Ctr s (.mkm k) K=K (.mp k k.e0) s:=rfl
theorem yUd:KK.e0 .str=[]:=rfl
theorem yPn:KK.e0 .bool=[]:=rfl
theorem yUe {k}:KK.e0 (.int k)=[]:=rfl
theorem yPm {ks}:KK.e0 (.flat ks)=[]:=rfl
theorem yO5 {ty t}:zAl Ctr s (.mkif ty (.tmp t)) K=yNj ty t s K s[t]?:=by unfold yNj;rfl
theorem yCd {ty t g m n}:yNj ty t s K (some (.box g [.v (.int .i64 m),.v (.int .i64 n)]))=K (.mp (.err ty) [(.int .i64 m,.int .i64 n)]) ((zAh (zAg t) s).set t .undef):=rfl
theorem yUf {t e}:KK.e0 (.bld t e)=[(.string ⟨#[]⟩,undef)]:=rfl
def yNf (k:KK)(r:Nat)(q:zBa)(d:D)(e:List (Value×Value))(ou ov:Option Value)(s:List D)(K:D→List D→Prop):Prop:=match ou,ov with
  | some u,some v=>zBe k u=true∧K .undef (s.set r (setAt d q (.mp k (yB8 e u v))))
  | _,_=>False
def yHo (k:KK)(r:Nat)(q:zBa)(d:D)(o:Option D)(ou ov:Option Value)(s:List D)(K:D→List D→Prop):Prop:=match o with
  | some (.mp k' e)=>k'=k∧yNf k r q d e ou ov s K
  | _=>False
def yNg (k:KK)(r:Nat)(q:zBa)(o:Option D)(ou ov:Option Value)(s:List D)(K:D→List D→Prop):Prop:=match o with
  | some d=>yHo k r q d (zAj d q) ou ov s K
  | none=>False
def ySi (k:KK)(m:D)(ou ov:Option Value)(s:List D)(K:D→List D→Prop):Prop:=match m with
  | .ref r q=>yNg k r q s[r]? ou ov s K
  | _=>False
theorem yO3 {k m i x}:zAl Ctr s (.mupd k m i x) K=ySi k (lk s m) (toV (lk s i)) (toV (lk s x)) s K:=rfl
theorem yB6 {k r q ou ov}:ySi k (.ref r q) ou ov s K=yNg k r q s[r]? ou ov s K:=rfl
theorem zXw {k r q d ou ov}:yNg k r q (some d) ou ov s K=yHo k r q d (zAj d q) ou ov s K:=rfl
theorem yHn {k r q d e ou ov}:yHo k r q d (some (.mp k e)) ou ov s K=yNf k r q d e ou ov s K:=by simp [yHo]
theorem zXv {k r q d e u v}:yNf k r q d e (some u) (some v) s K=(zBe k u=true∧K .undef (s.set r (setAt d q (.mp k (yB8 e u v))))):=rfl
def yNn (k:KK)(r:Nat)(q:zBa)(d:D)(e:List (Value×Value))(ou:Option Value)(s:List D)(K:D→List D→Prop):Prop:=match ou with
  | some u=>zBe k u=true∧K .undef (s.set r (setAt d q (.mp k (mdel e u))))
  | _=>False
def yHv (k:KK)(r:Nat)(q:zBa)(d:D)(o:Option D)(ou:Option Value)(s:List D)(K:D→List D→Prop):Prop:=match o with
  | some (.mp k' e)=>k'=k∧yNn k r q d e ou s K
  | _=>False
def yNo (k:KK)(r:Nat)(q:zBa)(o:Option D)(ou:Option Value)(s:List D)(K:D→List D→Prop):Prop:=match o with
  | some d=>yHv k r q d (zAj d q) ou s K
  | none=>False
def ySq (k:KK)(m:D)(ou:Option Value)(s:List D)(K:D→List D→Prop):Prop:=match m with
  | .ref r q=>yNo k r q s[r]? ou s K
  | _=>False
theorem yO6 {k m i}:zAl Ctr s (.mdel k m i) K=ySq k (lk s m) (toV (lk s i)) s K:=rfl
theorem yCg {k r q ou}:ySq k (.ref r q) ou s K=yNo k r q s[r]? ou s K:=rfl
theorem zX1 {k r q d ou}:yNo k r q (some d) ou s K=yHv k r q d (zAj d q) ou s K:=rfl
theorem yHu {k r q d e ou}:yHv k r q d (some (.mp k e)) ou s K=yNn k r q d e ou s K:=by simp [yHv]
theorem zX0 {k r q d e u}:yNn k r q d e (some u) s K=(zBe k u=true∧K .undef (s.set r (setAt d q (.mp k (mdel e u))))):=rfl
def yXj (k:KK)(z:Value)(ok:Bool)(ou:Option Value)(m:D)(o:Option (KK×List (Value×Value)))(s:List D)(K:D→List D→Prop):Prop:=match ou with
  | some u=>zBe k u=true∧yKc k z ok u m o s K
  | none=>False
theorem yTo {k z ok m i}:zAl Ctr s (.mlk k z ok m i) K=yXj k z ok (toV (lk s i)) (lk s m) (zTz s (lk s m)) s K:=rfl
theorem yB9 {k z ok u m o}:yXj k z ok (some u) m o s K=(zBe k u=true∧yKc k z ok u m o s K):=rfl
def zT2 (z:Value)(ok:Bool)(o:Option Value)(s:List D)(K:D→List D→Prop):Prop:=match o with
  | some v=>K (if ok then .tup [ofV v,.v (.bool true)] else ofV v) s
  | none=>K (if ok then .tup [ofV z,.v (.bool false)] else ofV z) s
theorem yHs {k z ok u m e}:yKc k z ok u m (some (k,e)) s K=zT2 z ok (yNl e u) s K:=by unfold yKc zT2;simp only [true_and];cases yNl e u<;>rfl
theorem yNh {k z ok u}:yKc k z ok u (.v (.map none)) none s K=zT2 z ok none s K:=rfl
theorem yNq {z v}:zT2 z false (some v) s K=K (ofV v) s:=rfl
theorem yNp {z v}:zT2 z true (some v) s K=K (.tup [ofV v,.v (.bool true)]) s:=rfl
theorem yNs {z}:zT2 z false none s K=K (ofV z) s:=rfl
theorem yNr {z}:zT2 z true none s K=K (.tup [ofV z,.v (.bool false)]) s:=rfl
def ySn (m:D) (o:Option (KK×List (Value×Value))) (s:List D) (K:D→List D→Prop):Prop:=match o with
  | some (k,e)=>zR5 k (K (.v (.int .i64 (e.length:Int))) s)
  | none=>match m with
    | .v (.map none)=>K (.v (.int .i64 0)) s
    | _=>False
theorem yO4 {m}:zAl Ctr s (.mlen m) K=ySn (lk s m) (zTz s (lk s m)) s K:=rfl
theorem zXz {m k e}:ySn m (some (k,e)) s K=zR5 k (K (.v (.int .i64 (e.length:Int))) s):=rfl
theorem yCa {p}:zR5 .str p=p:=rfl
theorem zXy {p}:zR5 .bool p=p:=rfl
theorem yCc {k p}:zR5 (.int k) p=p:=rfl
theorem zXx {ks p}:zR5 (.flat ks) p=p:=rfl
theorem yHr {k e}:zTz s (.imp k e)=some (k,e):=rfl
def mpG:Option D→Option (KK×List (Value×Value))
  | some (.mp k e)=>some (k,e)
  | _=>none
def mpF (q:zBa):Option D→Option (KK×List (Value×Value))
  | some d=>mpG (zAj d q)
  | none=>none
theorem yHq {r q}:zTz s (.ref r q)=mpF q s[r]?:=by unfold zTz mpF mpG;rfl
theorem yHp {q d}:mpF q (some d)=mpG (zAj d q):=rfl
theorem ySj {k e}:mpG (some (.mp k e))=some (k,e):=rfl
theorem ySk {x}:zTz s (.v x)=none:=rfl
theorem yVt {x}:toV (.v x)=some x:=rfl
theorem yEs:toV .nils=some (.slice none 0 0):=rfl
theorem yK7 {cs}:toV (.agg cs)=(zEf cs).map fun vs=>.agg ⟨vs⟩:=rfl
theorem yBt:zEf []=some []:=rfl
theorem yBu {k n ds}:zEf (.v (.int k n)::ds)=(zEf ds).map (.int k n::·):=rfl
theorem yBs {b ds}:zEf (.v (.string b)::ds)=(zEf ds).map (.string b::·):=rfl
theorem zXp {b ds}:zEf (.v (.bool b)::ds)=(zEf ds).map (.bool b::·):=rfl
theorem yCq {b}:zBe .str (.string b)=true:=rfl
theorem zX9 {b}:zBe .bool (.bool b)=true:=rfl
theorem yCr {k n}:zBe (.int k) (.int k n)=true:=by simp [zBe]
theorem zX8 {ks cs}:zBe (.flat ks) (.agg ⟨cs⟩)=zAv ks cs:=rfl
theorem yS4:zAv [] []=true:=rfl
theorem yYc {ks b vs}:zAv (0::ks) (.bool b::vs)=zAv ks vs:=rfl
theorem yYb {ks n vs}:zAv (1::ks) (.int .i64 n::vs)=zAv ks vs:=rfl
theorem yYa {ks b vs}:zAv (2::ks) (.string b::vs)=zAv ks vs:=rfl
end
attribute [go_sem ↓] zZv yRa yEq yK5 zZu yEr zYy zYz yEh zZj zSn zZi yIe yC5 zYj yI1 yC7 yNk zXq zUj yPe yPb yO9 yKx yKv yEf yKw yEg zZk yEi yRi yRh
  yRj yP4 yP3 yP5 yM3 yHg yB1 yI5 yGm yGn yTl yTn yTm yT3 yO2 yO1 yT1 yPc yW3 yPa yIu yT0 yIt yTz yO7 yIr yW6
  yTw yW5 yTv yTt yTu yO0 yTk yTx yTs yO8 yW4 yT4 yPd yD8 yQs yTr yTp yTy yT2 yIs yTq yO3 yO6 yTo yO4
attribute [go_sem] yWs yWv yWt yWu yOl yM6 yNa yNc yNd ySg yNb yWg yHl yB5 yM8 yM7 yM9 yHm yNe ySh zY5 zUw zY4 zUv yP0 yPz yD2 yD1 yIg yIj yIh yIi zYk yUj yUk yKd ySr yHy yNv yNz yN1 yN2 ySs yN0 yWj yHz yCk yNx yNy yH0 yN3 ySt yMs yBh
  yGj yV9 yRc yRd yEv yK9 yLf yLh yLi yRf yLg yVu yEx zZx yLd yLe yEy yLj yLb yRg yLa yEw yM0 yG0 yG3 yMy yG1 yG2 yR7
  yBm zXm yGy yGz yBn yG4 yGw yMz yHa yHj yB4 yM5 ySc ySa ySb yQk yP7 yQd yQb yQa yQi yQc yQe
  yQf yQg yQh yP9 yP8 yQj yUy yJj yJi yJg yJh yQm yQl yQ8 yQ9 yI4 yUu yJd zUu yUs yDp yI6 yF7 yMn
  yMm yMl yF3 yF4 yLl yA9 yF5 yV5 yRx yE7 zTg zTh yHw yCh zX4 yPk yMe yE1 zW1 yE2 yL8 yL7 yA6 zXg yE3 yL3 zXe zXd yL5
  yL4 yU0 yUz yFw yAx yR3 yFs yAu yIa zYc yC0 yF2 yF1 yMg yTg yOv yOt yS7 yWq yId yFc yLo yAe
  yRo yOi yIc yWo yOe yRm yRl yLn yE8 yAa yAc yFd yAf yAg zW3 yFb zZ0 yJn yNw yLc yGx yCt yHf yHe yOw yDg yH2 ySv ySm ySl yJl yJm yIl yOm yIm zYl yDb yD9 yVc
  yJp yJq yEa yJo yNi ofV ofC D.owny zCb D.prune zAh zAg zFm List.isEmpty_nil List.isEmpty_cons zAi zFc D.cont zAj setAt D.withCont D.cells D.okCells D.leaf zBr zIg zDp zHr zFx zW4
  zOa splice yWw yWz yWx yWy yOp yDk zYw zXb zXc yBr yBq yUl yI7 yUn yUo yUp yCu yCv yTa yTb yTc zXr
  zXs yG5 zXt yOj zYe yIk yC9 zUc yPy zMl yIq zYo yPj yW8 yMa yFy yMc yBg yOb yWe yWf yWd yX7
  yRu yX8 yMd zTn yA8 zRm zPt zXh zTl zXi zRn zTm yF8 yD3 zIb yR0 yRy yF6 zZ5 ySy yN8 yIw yT8 yI0 yUb yOc yIx yUa yFz yDj yPl yGq yR6 zXl yBk yMv yMw yGt yBl yGv yGp yGu yMx yGr yGs yBj yH6 yHc yHb yO5 yCd yOa yHd yGc yMq yV7 yGa yBc yRz yMp yGb yCm yWk yH4 yH3 ySx yN9 yN7 ySz yH5 yCo yPf
  yB6 zXw yHn zXv yCg zX1 yHu zX0 yB9 yHs yNh yNq yNp yNs yNr zXz yCa zXy yCc zXx yUd yPn yUe yPm yUf yHr yHq yHp ySj ySk yVt yEs yK7 yBt yBu yBs zXp yCq zX9 yCr zX8 yS4 yYc yYb yYa Option.map_some
  yT6 yT5 yPh yPi yPg yIv yOd yWn yWm yWl yU2 zYa
end Go.V
namespace Go.V
open Go.RowKit
mutual
theorem D.le_rfl:∀ d:D,d.le d
  | .undef=>by simp [D.le]
  | .nils=>by simp [D.le]
  | .v _=>by simp [D.le]
  | .sl _ _ _=>by simp [D.le]
  | .agg cs=>by simp only [D.le];exact zHi cs
  | .tup cs=>by simp only [D.le];exact zHi cs
  | .ref _ _=>by simp [D.le]
  | .ptr _ _ _ _=>by simp [D.le]
  | .sub _ _ _ _=>by simp [D.le]
  | .iptr cs _=>by simp only [D.le];exact ⟨0,by omega,by rw [List.drop_zero,List.take_length];exact zHi cs⟩
  | .box _ _=>by simp [D.le]
  | .mp _ _=>by simp [D.le]
  | .imp _ _=>by simp [D.le]
  | .fn _ a b=>by simp only [D.le];exact ⟨trivial,zHi a,zHi b⟩
theorem zHi:∀ ds:List D,leL ds ds
  | []=>by simp [leL]
  | d::ds=>by simp only [leL];exact ⟨D.le_rfl d,zHi ds⟩
end
theorem zAz {ds es:List D}(h:ds=es):leL ds es:=h▸zHi ds
theorem zGt {d e:D}{ds es:List D}(h1:d.le e)(h2:leL ds es):leL (d::ds) (e::es):=by simp only [leL];exact ⟨h1,h2⟩
theorem zJy:leL [] []:=by simp [leL]
theorem zBv {d e:D}(h:d=e):d.le e:=h▸D.le_rfl d
theorem zOz {cs ds:List D}(h:leL cs ds):(D.agg cs).le (.agg ds):=by simp only [D.le];exact h
theorem yCn:∀ {cs ds:List D},leL cs ds→cs.length=ds.length
  | [],[],_=>rfl
  | [],_::_,h=>by simp [leL] at h
  | _::_,[],h=>by simp [leL] at h
  | c::cs,d::ds,h=>by simp only [leL] at h;simp [yCn h.2]
theorem zJx {cs ds:List D}{j:Nat}(h:leL cs ds):(D.iptr cs j).le (.iptr ds j):=by simp only [D.le];exact ⟨0,by omega,by rw [List.drop_zero,← yCn h,List.take_length];exact h⟩
theorem zGs {cs ds:List D}{i:Nat}(h:leL ((cs.drop i).take ds.length) ds):(D.iptr cs i).le (.iptr ds 0):=by simp only [D.le];exact ⟨i,by omega,h⟩
theorem zX7 {f:FuncId}{a b c d:List D}(h1:leL a c)(h2:leL b d):(D.fn f a b).le (.fn f c d):=by simp only [D.le];exact ⟨trivial,h1,h2⟩
theorem zOy {d:D}{z:Nat}{rows rows':List (List D)}(h:d=.sl false z (zDv rows))(h2:zDv rows=rows'):d.le (.sl false z rows'):=by rw [h,h2];exact D.le_rfl _
theorem zVy:∀ xs ys:List D,zHy (xs++ys)=zHy xs++zHy ys
  | [],_=>rfl
  | x::xs,ys=>by simp only [List.cons_append,zHy,zVy xs ys]
theorem zE7 {o z}:D.nils.le (.sl o z []):=by simp [D.le]
theorem zC5 {α:Type}{f g:α→List D}(h:∀ x,zHy (f x)=g x):∀ xs:List α,zDv (xs.map f)=xs.map g
  | []=>by simp [zDv]
  | x::xs=>by simp only [List.map_cons,zDv,h,zC5 h xs]
section
variable {P:Program} {G:World→(Nat→Prop)→Prop} {s:List D} {K:D→List D→Prop} {Q:VExit→List D→Prop}
theorem zUp {f:FuncId}{args:List Operand}{args':List D}{d:D}(hC:Contract P G f args' d)(he:leL (args.map fun x=>deep s 8 (raw s x)) args')(hi:d.noImm=true∨((args.map fun x=>raw s x).all D.noRef)=true)(hK:K d s):zAl (CT P G) s (.callX f args) K :=
  .inl ⟨args',d,he,hC,hi,hK⟩
theorem zQk {x:Operand}{f:FuncId}{first caps:List D}{args:List Operand}{args':List D}{d:D}(hx:lk s x=.fn f first caps)(hC:Contract P G f args' d)(he:leL ((first++args.map (fun x=>raw s x)++caps).map (deep s 8)) args')(hi:d.noImm=true∨(first++args.map (fun x=>raw s x)++caps).all D.noRef=true)(hK:K d s):zAl (CT P G) s (.callvX x args) K:=by simp only [zAl,hx];exact .inl ⟨args',d,he,hC,hi,hK⟩
theorem yPt {f:FuncId}{args:List Operand}{i r:Nat}{tag:Option Nat}{cells args' cells0:List D}{d:D}{cells':List D}(hC:ContractX P G f i args' cells0 d cells')(hi:(args.map fun x=>raw s x)[i]?=some (.ptr r [] 0 0))(hs:s[r]?=some (.box tag cells))
    (hle:leL (((args.map fun x=>raw s x).map (D.prune (zAg r))).map (deep ((zAh (zAg r) s).set r .undef) 8)) args') (hlc:leL (zAh (fun _=>false) cells) cells0) (hn:(d.noImm=true∧zBh cells'=true)∨((args.map fun x=>raw s x).map (D.prune (zAg r))).all D.noRef=true) (hK:K d ((zAh (zFm r) s).set r (.box tag cells'))):zAl (CT P G) s (.callX f args) K :=
  .inr (.inl ⟨i,r,tag,cells,args',cells0,hi,hs,hle,hlc,fun b _=>⟨d,cells',tag,.inl rfl,hC.at b,hn,hK⟩⟩)
theorem zSv {f:FuncId}{args:List Operand}{i r:Nat}{x:Operand}{d0 d' dnew res:D}{args':List D}(fr:Bool)(hC:zBj P G f i args' d0 res d')(hx:args[i]?=some x)(hl:zX6 s r x fr d0 d' dnew d')(ho:((args.map fun x=>raw s x).set i .undef).all (fun u=>!u.owny)=true)
    (hle:leL ((((args.map fun x=>raw s x).set i .undef).map (D.prune (zAg r))).map (deep ((zAh (zAg r) s).set r .undef) 8)) args') (hn:(fr=false∧res.noImm=true∧d'.noImm=true)∨(fr=true∧(((args.map fun x=>raw s x).set i .undef).map (D.prune (zAg r))).all D.noRef=true)) (hK:K res ((zAh (zAg r) s).set r dnew)):zAl (CT P G) s (.callX f args) K :=
  .inr (.inr (.inl ⟨i,r,x,fr,d0,d',dnew,d',res,args',hx,hl,.inr ho,hle,hC,hn,.inl hK⟩))
theorem zUq {f F:FuncId}{args:List Operand}{i r:Nat}{x:Operand}{tag:Option Nat}{cells:List D}{cells0 cells':List D}{res:D}{args' A:List D}(hC:zBj P G f i args' (.fn F [.box none cells0] []) res (.fn F [.box none cells'] []))(hx:args[i]?=some x)(hs:s[r]?=some (.box tag cells))(hlk:lk s x=.fn F [.ptr r [] 0 0] [])(h0:zAh (fun _=>false) cells=cells0)
    (hA:(((args.map fun x=>raw s x).set i .undef).map (D.prune (zAg r))).map (deep ((zAh (zAg r) s).set r .undef) 8)=A) (hle:leL A args') (hn:(((args.map fun x=>raw s x).set i .undef).map (D.prune (zAg r))).all D.noRef=true) (hK:K res ((zAh (zFm r) s).set r (.box tag cells'))):zAl (CT P G) s (.callX f args) K:=by
  refine .inr (.inr (.inl ⟨i,r,x,true,_,_,.box tag cells',.box tag cells',res,args',hx,?_,.inl ⟨_,hs,rfl⟩,hA▸hle,hC,.inr ⟨rfl,hn⟩,.inr ⟨⟨_,hs,rfl⟩,rfl,hK⟩⟩));unfold zX6;rw [hs];exact .inr (.inr (.inr (.inr (.inr ⟨F,tag,cells,cells',hlk,rfl,by rw [h0],rfl,rfl,rfl⟩))))
theorem zUo {f g:FuncId}{x:Operand}{first caps:List D}{args:List Operand}{i r:Nat}{b:Nat}{cells cells0 cells' args' A:List D}{res:D}(hf:lk s x=.fn f first caps)(hC:ContractX P G f i args' cells0 res cells')(hi:(first++args.map (fun x=>raw s x)++caps)[i]?=some (.v (.pointer (some ⟨b,0,none⟩))))(hs:s[r]?=some (.fn g [.box (some b) cells] []))(ho:((first++args.map (fun x=>raw s x)++caps).set i .undef).all (fun u=>!u.owny)=true)(h0:zAh (fun _=>false) cells=cells0)
    (hA:(((first++args.map (fun x=>raw s x)++caps).set i .undef).map (D.prune (zAg r))).map (deep ((zAh (zAg r) s).set r .undef) 8)=A) (hle:leL A args') (hn:(((first++args.map (fun x=>raw s x)++caps).set i .undef).map (D.prune (zAg r))).all D.noRef=true) (hK:K res ((zAh (zAg r) s).set r (.fn g [.box (some b) cells'] []))):zAl (CT P G) s (.callvX x args) K:=by
  simp only [zAl,hf];exact .inr (.inr (.inr ⟨i,r,g,b,cells,cells',cells0,res,args',hi,hs,ho,hA▸hle,h0,hC.lend,.inr hn,hK⟩))
theorem zWc {f:FuncId}{args:List Operand}{i r:Nat}{tag:Option Nat}{cells A args' cells0:List D}{d:D}{cells':List D}(hC:ContractX P G f i args' cells0 d cells')(hi:(args.map fun x=>raw s x)[i]?=some (.ptr r [] 0 0))(hs:s[r]?=some (.box tag cells))
    (hA:((args.map fun x=>raw s x).map (D.prune (zAg r))).map (deep ((zAh (zAg r) s).set r .undef) 8)=A) (hle:leL A args') (hlc:leL (zAh (fun _=>false) cells) cells0) (hn:(d.noImm=true∧zBh cells'=true)∨((args.map fun x=>raw s x).map (D.prune (zAg r))).all D.noRef=true) (hK:K d ((zAh (zFm r) s).set r (.box tag cells'))):zAl (CT P G) s (.callX f args) K :=
  yPt hC hi hs (hA▸hle) hlc hn hK
theorem zO9 {f:FuncId}{r:Nat}{x y:Operand}{tag:Option Nat}{cells cells':List D}{k:Value}{res:D}(hC:zBj P G f 0 [.undef,.v k] (.agg cells) res (.agg cells'))(hs:s[r]?=some (.box tag cells))(hx:lk s x=.agg (zHr r [] 0 0 cells))(hy:raw s y=.v k)(he:zDa cells=true)(hK:K res ((zAh (zAg r) s).set r (.box tag cells'))):zAl (CT P G) s (.callX f [x,y]) K :=
  zSv (x:=x) true hC rfl (by unfold zX6;rw [hs];exact .inr (.inl ⟨rfl,tag,cells,cells',rfl,hx,he,rfl,rfl,rfl⟩)) (by simp [hy,D.owny]) (by simp [hy,D.prune,deep,leL,D.le]) (.inr ⟨rfl,by simp [hy,D.prune,D.noRef]⟩) hK
theorem Contract.imm {f:FuncId}{args:List D}{d:D}(h:Contract P G f args d):Contract P G f args d.imm:=by refine ⟨h.1,fun w I us hG hI hV=>(h.2 w I us hG hI hV).mono ?_⟩;rintro e w' ⟨v,F,I',he,hb,hT,hn,hF,hI1,hI2⟩;exact ⟨v,[],fun b=>I' b∨b∈F,he,hb,T.imm (fun b h=>.inl h) d hT (fun b hb=>.inr hb),List.nodup_nil,fun b hb=>(List.not_mem_nil hb).elim,fun b hb=>.inl (hI1 b hb),fun b hb=>hb.elim (hI2 b) (fun h=>⟨.inr (hF b h).1,(hF b h).2.1⟩)⟩
theorem yJa {f:FuncId}{args:List Operand}{args':List D}{d:D}(hC:Contract P G f args' d)(he:leL (args.map fun x=>deep s 8 (raw s x)) args')(hi:d.noImm=true∨((args.map fun x=>raw s x).all D.noRef)=true)(hK:K d s):zAl (CT P G) s (.call f args) K :=
  .inl ⟨args',d,he,hC,hi,hK⟩
def yVh (x:Value×Value×Value):List D:=[.v x.1,.v x.2.1,.v x.2.2]
theorem zCm {α:Type}{Ctr:CtrT}{mask:List Bool}{c:VCode}(st:α→List D)(J:α→Prop)(μ:α→Nat)(a:α)(h0:zC7 (clr mask s) (st a))(hJ:J a)(h:∀ a,J a→c.wp Ctr (zJf (fun s''=>∃ b,μ b<μ a∧J b∧zC7 (clr mask s'') (st b)) Q) (st a)):(VCode.loop mask c).wp Ctr Q s:=by
  refine zX3 (fun n s=>∃ a,μ a=n∧J a∧s=st a) (μ a) ⟨_,h0,a,rfl,hJ,rfl⟩ ?_;rintro n s' ⟨b,rfl,hb,rfl⟩;have e:(fun s''=>∃ m,m<μ b∧∃ s1,zC7 (clr mask s'') s1∧∃ a,μ a=m∧J a∧s1=st a)=(fun s''=>∃ a,μ a<μ b∧J a∧zC7 (clr mask s'') (st a)):=by funext s'';exact propext ⟨fun ⟨m,h1,s1,h2,a,h3,h4,h5⟩=>⟨a,by omega,h4,h5▸h2⟩,fun ⟨a,h1,h2,h3⟩=>⟨μ a,h1,_,h3,a,rfl,h2,rfl⟩⟩
  rw [e];exact h b hb
theorem wrN {i:Nat}(h:i+1<9223372036854775808):IntKind.i64.wrap ((i:Int)+1)=((i+1:Nat):Int):=IntWalk.i64_in _ (by omega)
theorem wrI {a:Int}(h1 : -9223372036854775808≤a)(h2:a≤9223372036854775807):IntKind.i64.wrap a=a:=IntWalk.i64_in _ (by omega)
end
def slG:Option D→Option (Nat×List (List D))
  | some (.sl true sz rows)=>some (sz,rows)
  | _=>none
theorem yFa {q:zBa}{d:D}:slF q (some d)=slG (zAj d q):=by unfold slF slG;rfl
theorem yRn {sz rows}:slG (some (.sl true sz rows))=some (sz,rows):=rfl
def zVw:Option D→Bool
  | some (.box _ _)=>true
  | _=>false
theorem zT9 {q:zBa}{d:D}:zO0 q (some d)=zVw (zAj d q):=by unfold zO0 zVw;rfl
theorem yCz {o sz rows}:zVw (some (.sl o sz rows))=false:=rfl
theorem zYb {g cs}:zVw (some (.box g cs))=true:=rfl
def yVg (i:Nat):Option (Nat×List (List D))→Option (List D)
  | some (_,rows)=>rows[i]?
  | none=>none
def yV4 (i:Nat):Option D→Option (List D)
  | some t=>yVg i t.cont
  | none=>none
theorem yA5 {q:zBa}{i:Nat}{d:D}:yQz q i (some d)=yV4 i (zAj d q):=by unfold yQz yV4 yVg;rfl
theorem yA4 {i:Nat}{t:D}:yV4 i (some t)=yVg i t.cont:=rfl
theorem yA3 {i:Nat}{n rows}:yVg i (some (n,rows))=rows[i]?:=rfl
theorem yG9 {a b c d:Nat}:((a,b)==(c,d))=(a==c&&b==d):=rfl
attribute [go_sem] yG9 yFa yRn zT9 yCz zYb yA5 yA4 yA3
end Go.V
namespace Go.V
open Go.RowKit
set_option autoImplicit false
def ovr (s:List D):List (Nat×D)→List D
  | []=>s
  | p::r=>ovr (s.set p.1 p.2) r
theorem zFk {s:List D}:ovr s []=s:=rfl
theorem zD1 {s:List D}{i:Nat}{d:D}{r:List (Nat×D)}:ovr s ((i,d)::r)=ovr (s.set i d) r:=rfl
theorem zF9 {α:Type}{Ctr:CtrT}{mask:List Bool}{c:VCode}{Q:VExit→List D→Prop}{s s0:List D}{st:α→List D}(hs:clr mask s=s0)(ov:α→List (Nat×D))(hst:∀ a,ovr s0 (ov a)=st a)(J:α→Prop)(μ:α→Nat)(a:α)(h0:zC7 s0 (st a))(hJ:J a)
    (h:∀ a,J a→c.wp Ctr (zJf (fun s''=>∃ b,μ b<μ a∧J b∧zC7 (clr mask s'') (st b)) Q) (st a)):(VCode.loop mask c).wp Ctr Q s :=
  zCm st J μ a (hs▸h0) hJ h
theorem zCs {a b:D}{xs ys:List D}:zC7 (a::xs) (b::ys)=(nle a b∧zC7 xs ys) :=
  propext ⟨fun h=>by simp only [zC7] at h;obtain ⟨e,es,h1,h2,h3⟩:=h;simp only [List.cons.injEq] at h1;obtain ⟨rfl,rfl⟩:=h1;exact ⟨h2,h3⟩,fun h=>zA7 h.1 h.2⟩
theorem zCr:zC7 [] []=True:=eq_true zBo
theorem zB0 {d:D}:nle d d=True:=eq_true (zTv d)
theorem zB2 {t:Option Nat}{cs es:List D}:nle (.box t cs) (.box t es)=zC7 cs es :=
  propext ⟨fun h=>by simp only [nle] at h;obtain ⟨e,h1,h2⟩:=h;simp only [D.box.injEq,true_and] at h1;exact h1▸h2,zCe⟩
theorem zB3 {cs es:List D}:nle (.agg cs) (.agg es)=zC7 cs es :=
  propext ⟨fun h=>by simp only [nle] at h;obtain ⟨e,h1,h2⟩:=h;simp only [D.agg.injEq] at h1;exact h1▸h2,zCl⟩
theorem zB1 {sz:Nat}:nle .nils (.sl true sz [])=True:=eq_true zCd
section
variable {P:Program} {G:World→(Nat→Prop)→Prop} {s:List D} {K:D→List D→Prop}
theorem yJb {f:FuncId}{args:List Operand}{A args':List D}{d:D}(hC:Contract P G f args' d)(hA:(args.map fun x=>deep s 8 (raw s x))=A)(he:leL A args')(hi:d.noImm=true∨((args.map fun x=>raw s x).all D.noRef)=true)(hK:K d s):zAl (CT P G) s (.callX f args) K :=
  zUp hC (hA▸he) hi hK
theorem yDs {f:FuncId}{args:List Operand}{A args':List D}{d:D}(hC:Contract P G f args' d)(hA:(args.map fun x=>deep s 8 (raw s x))=A)(he:leL A args')(hi:d.noImm=true∨((args.map fun x=>raw s x).all D.noRef)=true)(hK:K d s):zAl (CT P G) s (.call f args) K :=
  yJa hC (hA▸he) hi hK
end
section
variable {Ctr:CtrT} {m:List Bool} {next:List D→Prop} {Q:VExit→List D→Prop} {s:List D}
theorem yMj:zKm m next Q .normal s=∃ s1,zC7 (clr m s) s1∧next s1:=rfl
theorem yMi:zKm m next Q .ret s=Q .ret (clr m s):=rfl
theorem yMk {i}:zKm m next Q (.exit i) s=Q (.exit i) (clr m s):=rfl
theorem zTq {ds:List D}:zC4 s [] ds=s:=by cases ds<;>rfl
theorem zRw {p ps d ds}:zC4 s (p::ps) (d::ds)=zC4 (zId s p d) ps ds:=rfl
theorem yBi {P:Program}{G:World→(Nat→Prop)→Prop}(t:Nat){ps:List Nat}{va vb:VCode}{F:FuncId}{caps caps':List D}(hg:s[t]?=some (.fn F [] caps))(hc:zAh (fun _=>false) caps=caps'){N:Nat}(xs:Nat→List D)(hi:yJs P G F caps' ((List.range N).map xs))(hl:∀ i,i<N→(xs i).length=ps.length){s0:List D}(hs:clr m ((zAh (zAg t) s).set t .undef)=s0)(ov:Nat→List (Nat×D)){st:Nat→List D}(hst:∀ i,ovr s0 (ov i)=st i)(h0:zC7 s0 (st 0))
    (hr:∀ i,i<N→va.wp (CT P G) (zJf (vb.wp (CT P G) (zKm m (fun s1=>s1=st (i+1)) Q)) (fun _ _=>False)) (zC4 (st i) ps (xs i))) (hd:Q .normal (st N)):(VCode.rangeF (.tmp t) ps m va vb).wp (CT P G) Q s:=by
  simp only [VCode.wp];refine .inr ⟨t,F,caps,rfl,hg,(List.range N).map xs,hc▸hi,fun x hx=>?_,fun i s'=>s'=st i,⟨_,hs▸h0,rfl⟩,fun i s' x hs' hx=>?_,fun s' hs'=>?_⟩
  · obtain ⟨i,hi,rfl⟩:=List.mem_map.1 hx;exact hl i (by simpa using hi)
  · subst hs';have hlt:i<N:=by have:=(List.getElem?_eq_some_iff.1 hx).1;simpa using this
    have:x=xs i:=(by rw [List.getElem?_map,List.getElem?_range hlt] at hx;simpa using hx.symm);rw [this];exact hr i hlt
  · subst hs';simpa using hd
end
attribute [go_sem] yMj yMi yMk zTq zRw
end Go.V
