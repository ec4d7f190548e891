/- Laws that the proof stands on. -/
import Derived.Test.YteaicicfbpehbaaGreatDoorZVc
set_option linter.all false
namespace Go.V
open Go.RowKit
/-! ### Regions that draw, order by order: what hangs on no memory goes first -/
def zXp:Op→VOp→Bool
  | .move _,.mv _=>true
  | .fieldAddr _ _ _,.fa _ _=>true
  | .indexAddr _ _ _,.ia _ _ _=>true
  | .call _,.len _=>true
  | .binOp _ _ _ _ _,.bin _ _ _=>true
  | _,_=>false
section
variable (P:Program)
def yMo (ops:Array Oper) (oi:Oper) (i:Nat):Bool:=(List.range ops.size).all fun j=>j==i||match ops[j]? with
  | some oj=>oj.after.any (fun e=>Region.binds .any e&&e.on==i)||oi.after.any (fun e=>Region.binds .any e&&e.on==j)||oi.apart ops oj
  | none=>true
def yTr (ops:Array Oper) (i:Nat):Bool:=match ops[i]? with
  | some o=>o.guard.isNone&&(match cOp P false o.op with | some v=>zXp o.op v | none=>false)&&yMo ops o i
  | none=>false
def yRg (ops:Array Oper) (nh:Nat):List Nat:=(List.range nh).filter (yTr P ops)
def yBz (ops:Array Oper) (M:List Nat) (nh:Nat):Nat→Nat→Array Bool→Option (VT × Nat)
  | fuel,bud,listed =>
    if (bud==0)=true then none else
    if (decide (fuel=ops.size - nh)&&listed==zCf ops.size nh&&Region.seqB .any ops (ops.size - nh) nh listed)=true then some (.done,bud - 1) else
    match fuel with
    | 0=>none
    | f+1=>match (Region.ready .any ops listed).find? (fun i=>M.contains i) with
      | some i=>yTq P (fun i b=>yBz ops M nh f b (listed.setIfInBounds i true)) ops i (bud - 1)
      | none=>if ((Region.ready .any ops listed).isEmpty||!(Region.ready .any ops listed).all (fun i=>decide (i < nh)))=true then none else yGp P (fun i b=>yBz ops M nh f b (listed.setIfInBounds i true)) ops (Region.ready .any ops listed) (bud - 1)
def zT9 (ops:Array Oper) (nh:Nat):Option VCode :=
  if (P.follows .mixedOrders&&Region.noSelect ops&&decide (nh≤ops.size))=true then
    match yBz P ops (yRg P ops nh) nh ops.size 1200 (Array.replicate ops.size false),zSh P ops (ops.toList.drop nh) with
    | some (t,_),some tail=>some (.drawT t tail)
    | _,_=>none
  else none
end
section
variable {P:Program} {G:World→(Nat→Prop)→Prop} {w0:Base} {I0:Nat→Prop}
theorem zXq {ops:Array Oper} {i:Nat} {oi:Oper} {listed:Array Bool} (hi:ops[i]?=some oi) (h:yMo ops oi i=true) (hr:i∈Region.ready .any ops listed):Region.free .any ops listed i=true:=by
  obtain ⟨_,o',ho',hed⟩:=mem_ready.1 hr;rw [hi] at ho';cases ho';unfold Region.free;rw [hi];simp only;unfold yMo at h;rw [List.all_eq_true] at h ⊢;intro j hj;have h1:=h j hj;cases ho:ops[j]? with
  | none=>simp
  | some oj =>
    rw [ho] at h1;simp only at h1;rcases Bool.or_eq_true_iff.1 h1 with h2 | h2
    · rw [h2];rfl
    · rcases Bool.or_eq_true_iff.1 h2 with h3 | h3
      · rcases Bool.or_eq_true_iff.1 h3 with h4 | h4
        · simp only [h4,Bool.true_or,Bool.or_true]
        · obtain ⟨e,he,hb⟩:=Array.any_eq_true'.1 h4;simp only [Bool.and_eq_true,beq_iff_eq] at hb;have h5:=hed e he hb.1;rw [hb.2] at h5;have h6:listed.getD j true=true:=by
            rcases Nat.lt_or_ge j listed.size with h' | h'
            · simp [h'] at h5 ⊢;exact h5
            · simp [Array.getElem?_eq_none h']
          simp only [h6,Bool.or_true,Bool.true_or]
      · simp only [h3,Bool.or_true]
def zYb (P:Program) (m:Sem Next):Prop:=∃ v,∀ w,m.run P w=.ok (.value v) w
variable {Ctr:CtrT} {s:List D} {a:Act} {w:World} {I:Nat→Prop} {Fs:Nat→List Nat} {K:D→List D→Prop}
theorem yDo (h:RelI w0 I0 s a.tmps w I Fs) {off n:Nat} {x:Operand} {st:TypeId} {f:Nat} {fs:Array Field} {fd:Field} {o:Oper} (ho:o.op=.fieldAddr st x f) (hs:P.underlying st=some (.struct fs)) (hf:fs[f]?=some fd) (hn:(P.info? fd.type).map (·.size)=some (n+1)) (hk:zAn Ctr s (.fa off x) K):zYb P (execOp a.eval o):=by
  have hx:=zDa h x;simp only [zAn] at hk;split at hk
  · rename_i r q i j e;rw [e] at hx;simp only [T] at hx;obtain ⟨⟨d,u0,t,sz,rows,u1,b,oo,h1,h2,h3,h4,h5,h6,h7⟩,_⟩:=hx;exact ⟨.pointer (some ⟨b,oo+i*sz+j+fd.offset,none⟩),fun w'=>by simp [execOp,ho,h7,Instr.fieldAt,run_underlying hs,hf,Instr.sureAddr,zEf hn]⟩
  · rename_i c j e;rw [e] at hx;simp only [T] at hx;obtain ⟨_,b,oo,raw,e',hI,hr,hc⟩:=hx;exact ⟨.pointer (some ⟨b,oo+j+fd.offset,none⟩),fun w'=>by simp [execOp,ho,e',Instr.fieldAt,run_underlying hs,hf,Instr.sureAddr,zEf hn]⟩
  · exact hk.elim
theorem yDn (h:RelI w0 I0 s a.tmps w I Fs) {sz:Nat} {x i:Operand} {xt et:TypeId} {o:Oper} (ho:o.op=.indexAddr xt x i) (hx:P.underlying xt=some (.slice et)) (hsz:(P.info? et).map (·.size)=some sz) (hk:zAn Ctr s (.ia sz x i) K):zYb P (execOp a.eval o):=by
  have hX:=zDa h x;have hI:=zDa h i;have hrun:∀ (k:IntKind) (n:Int) (b oo l c:Nat),a.eval i=.int k n→a.eval x=.slice (some ⟨b,oo,none⟩) l c→0≤n→n < l→zYb P (execOp a.eval o):=by
    intro k n b oo l c e1 e2 h1 h2;cases hq:P.info? et with
    | none=>simp [hq] at hsz
    | some ii=>simp [hq] at hsz;exact ⟨.pointer (some ⟨b,oo+n.toNat*sz,none⟩),fun w'=>by simp [execOp,ho,e1,e2,Instr.indexAt,asIntOf,run_underlying hx,h1,h2,sizeOf,typeInfo,hq,hsz,Addr.add_mid]⟩
  simp only [zAn] at hk;split at hk
  · rename_i k n r q e1 e2;rw [e1] at hI;rw [e2] at hX;split at hk
    · rename_i sz' rows e3;obtain ⟨h1,h2,rfl,hK⟩:=hk;obtain ⟨F',ρ',k2,_⟩:=zF8 h hX e3;have hlt:n.toNat < rows.length:=by omega
      obtain ⟨b,oo,us,F2,ρ2,hb,_⟩:=zZw k2 (by rfl) (List.getElem?_eq_getElem hlt);obtain ⟨ad,c,e4,_,_⟩:=zEm k2;rw [e4] at hb;have:ad=some ⟨b,oo,none⟩:=by
        cases ad with
        | none=>simp [zBn] at hb
        | some z=>obtain ⟨z1,z2,z3⟩:=z;cases z3 <;> simp [zBn] at hb;simp [hb]
      subst this;exact hrun k n b oo _ c (T_v hI).1 e4 h1 h2
    · exact hk.elim
  · rename_i k n sz' rows e1 e2;rw [e1] at hI;rw [e2] at hX;obtain ⟨h1,h2,rfl,row,hrow,hK⟩:=hk;simp only [T] at hX;obtain ⟨ad,c,e4,_,_,h3⟩:=hX;rcases h3 with ⟨_,_,h3⟩ | ⟨h3,_⟩
    · rcases h3 with h3 | ⟨b,oo,raw,rfl,hIb,hr,hR⟩
      · subst h3;simp at hrow
      · exact hrun k n b oo _ c (T_v hI).1 e4 h1 h2
    · simp at h3
  · exact hk.elim
theorem zYz (h:RelI w0 I0 s a.tmps w I Fs) {x:Operand} {xt e:TypeId} {args:Array TypeId} {o:Oper} (ho:o.op=.call { callee:=.builtin .len,args:=#[x],argTypes:=args }) (ha:args[0]?=some xt) (hx:P.underlying xt=some (.slice e)) (hk:zAn Ctr s (.len x) K):zYb P (execOp a.eval o):=by
  have hX:=zDa h x;simp only [zAn] at hk;split at hk
  · rename_i sz rows e1;obtain ⟨b,c,e2,_⟩:=zY9 h hX e1;exact ⟨.int .i64 rows.length,fun w'=>by simp [execOp,ho,resolve,invoke,builtin,Builtin.len_,ha,e2,run_underlying hx,goInt]⟩
  · exact hk.elim
theorem zY0 (h:RelI w0 I0 s a.tmps w I Fs) {op:BinOp} {x y:Operand} {xt yt:TypeId} {o:Oper} (ho:o.op=.binOp op xt x y yt) (hk:zAn Ctr s (.bin op x y) K):zYb P (execOp a.eval o):=by
  have hx:=zDa h x;have hy:=zDa h y;simp only [zAn] at hk;split at hk
  · rename_i k b1 k' b2 e1 e2;rw [e1] at hx;rw [e2] at hy;obtain ⟨v,hv,hr⟩:=zU6 (P:=P) hk xt;refine ⟨v,fun w'=>?_⟩;have hg:(eqGuard op xt x y (.int k b1) (.int k' b2)).run P w'=.ok () w':=by unfold eqGuard;split <;> rfl
    simp only [execOp,ho,(T_v hx).1,(T_v hy).1,Sem.run_bind,hg,Result.andThen_ok,hr];rfl
  · rename_i b1 b2 e1 e2;rw [e1] at hx;rw [e2] at hy;obtain ⟨v,hv,hr⟩:=zUi (P:=P) hk xt;refine ⟨v,fun w'=>?_⟩;have hg:(eqGuard op xt x y (.string b1) (.string b2)).run P w'=.ok () w':=by unfold eqGuard;split <;> rfl
    simp only [execOp,ho,(T_v hx).1,(T_v hy).1,Sem.run_bind,hg,Result.andThen_ok,hr];rfl
  · exact hk.elim
theorem yDm (h:RelI w0 I0 s a.tmps w I Fs) {o:Oper} {v:VOp} (hf:zXp o.op v=true) (hc:cOp P false o.op=some v) (hk:zAn Ctr s v K):zYb P (execOp a.eval o):=by
  cases hop:o.op with
  | move x=>exact ⟨a.eval x,fun w'=>by simp only [execOp,hop];rfl⟩
  | fieldAddr st x f =>
    rw [hop] at hc;simp only [cOp] at hc;split at hc
    · rename_i fs hs;split at hc
      · rename_i fd hfd;split at hc
        · rename_i i hi;split at hc
          · rename_i hpos;simp only [Option.some.injEq] at hc;subst hc;exact yDo (n:=i.size - 1) h hop hs hfd (by rw [hi];simp;omega) hk
          · cases hc
        · cases hc
      · cases hc
    · cases hc
  | indexAddr t x i =>
    rw [hop] at hc hf;simp only [cOp] at hc;split at hc
    · rename_i e hs;split at hc
      · rename_i ie hi;simp only [Option.some.injEq] at hc;subst hc;exact yDn h hop hs (by rw [hi];rfl) hk
      · cases hc
    · split at hc
      · simp only [Option.some.injEq] at hc;subst hc;simp [zXp] at hf
      · cases hc
    · cases hc
  | binOp op xt x y yt =>
    rw [hop] at hc hf;have:∀ op2 x2 y2,v=.bin op2 x2 y2→op2=op∧x2=x∧y2=y:=by
      rintro op2 x2 y2 rfl;simp only [cOp] at hc
      repeat' split at hc
      all_goals simp_all
    cases v <;> simp only [zXp,Bool.false_eq_true] at hf;obtain ⟨rfl,rfl,rfl⟩:=this _ _ _ rfl;exact zY0 h hop hk
  | call c =>
    rw [hop] at hc hf;obtain ⟨callee,args,ats⟩:=c;cases v <;> simp only [zXp,Bool.false_eq_true] at hf;rename_i x;simp only [cOp] at hc;split at hc
    · simp at hc
    · simp at hc
    · split at hc
      · rename_i y t ha ht;split at hc
        · simp at hc
        · rename_i e hu;simp only [Option.some.injEq,VOp.len.injEq] at hc;subst hc;rw [yTu ha] at hop;exact zYz h hop ht hu hk
        · simp at hc
        · cases hc
      · cases hc
    all_goals exfalso;revert hc;repeat' split
    all_goals simp
  | _=>rw [hop] at hf;simp [zXp] at hf
inductive OKF (P:Program) (ops:Array Oper) (nh:Nat):VT→Nat→Array Bool→List Nat→Prop
  | done {fuel listed rdy}:fuel=ops.size - nh→listed=zCf ops.size nh→Region.seqB .any ops (ops.size - nh) nh listed=true→OKF P ops nh .done fuel listed rdy
  | nil {fuel listed}:OKF P ops nh .nil fuel listed []
  | h {i o op sub f listed rdy}:ops[i]?=some op→cVO P false ops op=some o→yTr P ops i=true→i∈Region.ready .any ops listed→OKF P ops nh sub f (listed.setIfInBounds i true) (Region.ready .any ops (listed.setIfInBounds i true))→(sub=.nil→False)→OKF P ops nh (.h i o sub) (f+1) listed rdy
  | br {i o op sub rest f listed is}:ops[i]?=some op→cVO P false ops op=some o→OKF P ops nh sub f (listed.setIfInBounds i true) (Region.ready .any ops (listed.setIfInBounds i true))→(sub=.nil→False)→OKF P ops nh rest (f+1) listed is→(rest=.done→False)→(∀ a b c,rest=.h a b c→False)→OKF P ops nh (.br i o sub rest) (f+1) listed (i::is)
theorem zOs {ops:Array Oper} {nh f:Nat} {listed:Array Bool} {g:Nat→Nat→Option (VT × Nat)} (hg:∀ i b t b',g i b=some (t,b')→OKF P ops nh t f (listed.setIfInBounds i true) (Region.ready .any ops (listed.setIfInBounds i true))∧(t=.nil→False)):∀ (is:List Nat) {bud:Nat} {t:VT} {b':Nat},yGp P g ops is bud=some (t,b')→OKF P ops nh t (f+1) listed is∧(t=.done→False)∧(∀ a b c,t=.h a b c→False)∧(t=.nil→is=[])
  | [],bud,t,b',h=>by simp only [yGp,Option.some.injEq,Prod.mk.injEq] at h;obtain ⟨rfl,_⟩:=h;exact ⟨.nil,(fun h=>by cases h),(fun _ _ _ h=>by cases h),fun _=>rfl⟩
  | i :: is,bud,t,b',h=>by
    simp only [yGp] at h;split at h
    · rename_i op hop;split at h
      · rename_i o ho;split at h
        · rename_i sub b1 hs;split at h
          · rename_i rest b2 hr;simp only [Option.some.injEq,Prod.mk.injEq] at h;obtain ⟨rfl,_⟩:=h;obtain ⟨h1,h2⟩:=hg _ _ _ _ hs;obtain ⟨h3,h4,h5,_⟩:=zOs hg is hr;exact ⟨.br hop ho h1 h2 h3 h4 h5,(fun h=>by cases h),(fun _ _ _ h=>by cases h),(fun h=>by cases h)⟩
          · cases h
        · cases h
      · cases h
    · cases h
theorem zKm {ops:Array Oper} {M:List Nat} (hM:∀ i,i∈M→yTr P ops i=true) {nh:Nat}:∀ (fuel:Nat) {bud:Nat} {listed:Array Bool} {t:VT} {b':Nat},yBz P ops M nh fuel bud listed=some (t,b')→OKF P ops nh t fuel listed (Region.ready .any ops listed)∧(t=.nil→False)
  | fuel, bud,listed,t,b',h=>by
    unfold yBz at h;split at h
    · cases h
    · split at h
      · rename_i hd;simp only [Bool.and_eq_true,decide_eq_true_eq,beq_iff_eq] at hd;simp only [Option.some.injEq,Prod.mk.injEq] at h;obtain ⟨rfl,_⟩:=h;exact ⟨.done hd.1.1 hd.1.2 hd.2,(fun h=>by cases h)⟩
      · cases fuel with
        | zero=>cases h
        | succ f =>
          simp only at h;split at h
          · rename_i i hf;have hmem:=List.mem_of_find?_eq_some hf;have hp:=List.find?_some hf;unfold yTq at h;split at h
            · rename_i op hop;split at h
              · rename_i o ho;split at h
                · rename_i sub b1 hs;simp only [Option.some.injEq,Prod.mk.injEq] at h;obtain ⟨rfl,_⟩:=h;obtain ⟨h1,h2⟩:=zKm hM f hs;exact ⟨.h hop ho (hM i (by simpa using hp)) hmem h1 h2,(fun h=>by cases h)⟩
                · cases h
              · cases h
            · cases h
          · split at h
            · cases h
            · rename_i hne;simp only [Bool.or_eq_true,Bool.not_eq_true',not_or] at hne;obtain ⟨h1,h2,_,h3⟩:=zOs (nh:=nh) (f:=f) (listed:=listed) (fun i b t b' hgt=>zKm hM f hgt) _ h;refine ⟨h1,fun h=>?_⟩;rw [h3 h] at hne;exact hne.1 rfl
theorem zZd (hcl:∀ w',w0.Below w'→GI G w' I0) {ops:Array Oper} {nh:Nat} {Q:Exit→Act→World→Prop} (hQn:NoX Q) {KT:List D→Prop} (hs:Region.noSelect ops=true) (hT:∀ s a w,KT s→Rel w0 I0 s a w→wpList P ops Q (ops.toList.drop nh) a w) {t:VT} {fuel:Nat} {VL:Array Bool} {rdy:List Nat} (ok:OKF P ops nh t fuel VL rdy) :
    ((t=.done∨∃ i o sub,t=.h i o sub)→∀ (s:List D) (a:Act) (w:World),t.wp (CT P G) KT s→Rel w0 I0 s a w→wpAny P .any ops Q fuel VL a w) ∧
    ((t=.nil∨∃ i o sub rest,t=.br i o sub rest)→∀ (s:List D) (a:Act) (w:World),t.wp (CT P G) KT s→Rel w0 I0 s a w→∀ i∈rdy,wpOp P ops Q i (wpAny P .any ops Q (fuel - 1) (VL.setIfInBounds i true)) a w):=by
  have up:∀ {t:VT} {f:Nat} {VL:Array Bool},OKF P ops nh t f VL (Region.ready .any ops VL)→(t=.nil→False) →
      (((t=.done∨∃ i o sub,t=.h i o sub)→∀ (s:List D) (a:Act) (w:World),t.wp (CT P G) KT s→Rel w0 I0 s a w→wpAny P .any ops Q f VL a w) ∧
      ((t=.nil∨∃ i o sub rest,t=.br i o sub rest)→∀ (s:List D) (a:Act) (w:World),t.wp (CT P G) KT s→Rel w0 I0 s a w→∀ i∈Region.ready .any ops VL,wpOp P ops Q i (wpAny P .any ops Q (f - 1) (VL.setIfInBounds i true)) a w)) →
      ∀ (s:List D) (a:Act) (w:World),t.wp (CT P G) KT s→Rel w0 I0 s a w→wpAny P .any ops Q f VL a w:=by
    intro t f VL ok hnn ih s a w hk hR;cases t with
    | done=>exact ih.1 (.inl rfl) s a w hk hR
    | nil=>exact (hnn rfl).elim
    | h i o sub=>exact ih.1 (.inr ⟨_,_,_,rfl⟩) s a w hk hR
    | br i o sub rest =>
      obtain ⟨f2,is,rfl,hrr⟩:∃ f2 is,f=f2+1∧Region.ready .any ops VL=i::is:=by
        generalize Region.ready .any ops VL=rr at ok;cases ok with
        | br=>exact ⟨_,_,rfl,rfl⟩
      have:=ih.2 (.inr ⟨_,_,_,_,rfl⟩) s a w hk hR;exact ⟨fun h0=>(by rw [hrr] at h0;cases h0),this⟩
  induction ok with
  | @done fuel listed rdy h1 h2 h3 =>
    subst h1;subst h2;refine ⟨fun _ s a w hk hR=>?_,(fun h=>by rcases h with h | ⟨_,_,_,_,h⟩ <;> cases h)⟩;have hl:(ops.toList.drop nh).length=ops.size - nh:=by simp
    have:=wpAny_of_seq (P:=P) (md:=.any) (ops:=ops) (Q':=Q) (ops.toList.drop nh) nh (zCf ops.size nh) a w (fun j=>by simp [List.getElem?_drop]) (by rw [hl];exact h3) (hT s a w hk hR);rw [hl] at this;exact this
  | nil=>exact ⟨(fun h=>by rcases h with h | ⟨_,_,_,h⟩ <;> cases h),(fun _ _ _ _ _ _ i hi=>by cases hi)⟩
  | @h i o op sub f listed rdy hop ho hfr hrd hsub hsn ih =>
    refine ⟨fun _ s a w hk hR=>?_,(fun h=>by rcases h with h | ⟨_,_,_,_,h⟩ <;> cases h)⟩;simp only [VT.wp] at hk;unfold yTr at hfr;rw [hop] at hfr;simp only [Bool.and_eq_true] at hfr;obtain ⟨⟨hg,hfv⟩,hfree⟩:=hfr;have hg:op.guard=none:=by simpa using hg
    obtain ⟨hd,I,Fs,hRI⟩:=hR;have hGw:GI G w I0:=hcl _ hRI.below;have hv:=ho;simp only [cVO,hg,zEp] at hv;cases hcop:cOp P false op.op with
    | none=>simp [hcop] at hv
    | some vop =>
    simp only [hcop,Option.some.injEq] at hv;rw [hcop] at hfv;subst hv;simp only [zQx] at hk;obtain ⟨u,hu⟩:=yDm hRI hfv hcop hk;have hrun:=zMe (nn:=false) hGw hRI (fun h=>by cases h) hcop hk;unfold RunsTo at hrun;rw [hu] at hrun;obtain ⟨d,s',I',Fs',F,hK,hR',hT',hF,_⟩:=hrun;have hR2:Rel w0 I0 (match op.dst with | some t=>zI3 s' t d | none=>s') (a.put op.dst u) w:=zH2 hd hR' hT' hF;have hwant:∀ y,Region.wanted op y=true:=fun y=>by unfold Region.wanted;rw [hg]
    exact wpAny_take hop hs (zXq hop hfree hrd) (by simpa using hrd) (fun c a w h=>by have:=hQn _ _ _ h;cases this) (.inl ⟨hwant _,hu⟩) (up hsub hsn ih _ _ w hK hR2)
  | @br i o op sub rest f listed is hop ho hsub hsn hrest hrd hrh ih1 ih2 =>
    refine ⟨(fun h=>by rcases h with h | ⟨_,_,_,h⟩ <;> cases h),fun _ s a w hk hR j hj=>?_⟩;simp only [VT.wp] at hk;by_cases hji:j=i
    · subst hji;exact zUl hcl hop ho hk.1 rfl rfl (fun s' u w' hk' hR'=>up hsub hsn ih1 s' _ w' hk' hR') hR
    · have hj':j∈is:=by
        rcases List.mem_cons.1 hj with h | h
        · exact absurd h hji
        · exact h
      cases rest with
      | done=>exact (hrd rfl).elim
      | nil=>cases hrest;cases hj'
      | h i2 o2 s2=>exact (hrh _ _ _ rfl).elim
      | br i2 o2 s2 r2=>exact ih2.2 (.inr ⟨_,_,_,_,rfl⟩) s a w hk.2 hR j hj'
theorem zWc (hcl:∀ w',w0.Below w'→GI G w' I0) {ops:Array Oper} {nh:Nat} {vc:VCode} (hc:zT9 P ops nh=some vc) {VQ:VExit→List D→Prop} {Q:Exit→Act→World→Prop} (hQn:NoX Q) {s:List D} (hk:vc.wp (CT P G) VQ s) (hQ:∀ s a w,VQ .normal s→Rel w0 I0 s a w→Q .normal a w) {a:Act} {w:World} (h:Rel w0 I0 s a w):RegAny P ops Q a w:=by
  unfold zT9 at hc;split at hc
  · rename_i hm;simp only [Bool.and_eq_true] at hm;split at hc
    · rename_i t b tail hg ht;simp only [Option.some.injEq] at hc;subst hc;simp only [VCode.wp] at hk;obtain ⟨ok,hnn⟩:=zKm (fun i hi=>by unfold yRg at hi;exact (List.mem_filter.1 hi).2) _ hg;obtain ⟨hd,I,Fs,hR⟩:=h;have hR':Rel w0 I0 s a { w with drawn:=w.drawn+1 }:=⟨hd,I,Fs,hR.world (w':={ w with drawn:=w.drawn+1 }) ((Below.refl _ w).drew)⟩
      have hT:∀ s a w,zIm (CT P G) s tail (VQ .normal)→Rel w0 I0 s a w→wpList P ops Q (ops.toList.drop nh) a w:=fun s a w hk h=>zH0 hcl ops (KK:=VQ .normal) hQ _ tail s a w ht hk h;have:=zZd (nh:=nh) (Q:=Q) hcl hQn hm.1.2 (KT:=fun s'=>zIm (CT P G) s' tail (VQ .normal)) hT ok;refine ⟨hm.1.1,?_⟩;cases t with
      | done=>exact this.1 (.inl rfl) s a _ hk hR'
      | nil=>exact (hnn rfl).elim
      | h i o sub=>exact this.1 (.inr ⟨_,_,_,rfl⟩) s a _ hk hR'
      | br i o sub rest =>
        obtain ⟨f2,is,hf,hrr⟩:∃ f2 is,ops.size=f2+1∧Region.ready .any ops (Array.replicate ops.size false)=i::is:=by
          generalize Region.ready .any ops (Array.replicate ops.size false)=rr at ok;generalize Array.replicate ops.size false=ll at ok;generalize ops.size=nn at ok;cases ok with
          | br=>exact ⟨_,_,rfl,rfl⟩
        have h2:=this.2 (.inr ⟨_,_,_,_,rfl⟩) s a _ hk hR';rw [hf] at h2 ⊢;refine ⟨fun h0=>?_,?_⟩
        · rw [← hf,hrr] at h0;cases h0
        · exact h2
    · cases hc
  · cases hc
end
end Go.V
namespace Go.V
open Go.RowKit
def tmpsOf:List Operand→List Nat
  | []=>[]
  | .tmp t::l=>t::tmpsOf l
  | _::l=>tmpsOf l
def VOp.eats:VOp→List Nat
  | .asg x=>tmpsOf [x]
  | .box x=>tmpsOf [x]
  | .build _ ps=>tmpsOf (ps.map (·.2.2))
  | .bslN _ ps=>tmpsOf ps
  | .appN _ _ x y=>tmpsOf [x,y]
  | .app _ _ x y=>tmpsOf [x,y]
  | _=>[]
def yTw (l:List Nat):Nat:=l.foldl (fun m t=>max m (t+1)) 0
def zRi (l:List Nat):List Bool:=(List.range (yTw l)).map fun i=>l.contains i
def yMe (ops:Array Oper) (o:Oper):Bool :=
  match o.op with
  | .call c=>match c.callee with
    | .builtin .append=>match c.args.toList with
      | .tmp t::_=>ops.toList.any fun p=>p.dst==some t&&(match p.op with | .load _ _=>true | .move _=>true | _=>false)
      | _=>false
    | _=>false
  | _=>false
section
variable (P:Program)
def zQh (ops:Array Oper) (w:Option Nat):List Nat→Option (List (Nat × VO))
  | []=>some []
  | i :: is=>match ops[i]? with
    | some o=>match cVO P (w != some i) ops o,zQh ops w is with
      | some v,some vs=>some ((i,v)::vs)
      | _,_=>none
    | none=>none
end
def dstsOf (vos:List (Nat × VO)):List Nat:=vos.filterMap fun v=>v.2.dst
def yQk (bs:List Nat) (start:List Bool) (vos:List (Nat × VO)) (v:Nat × VO):DOp where
  idx:=v.1
  hid:=(List.range start.length).map fun r=>start.getD r false&&!(vos.any (fun e=>e.2.dst==some r&&(bs.getD v.1 0).testBit e.1)&&vos.all (fun j=>j.1==v.1||(bs.getD j.1 0).testBit v.1||!(j.2.op.eats.contains r)))
  cl:=zRi (v.2.op.eats.filter fun t=>vos.any fun e=>e.2.dst==some t&&(bs.getD v.1 0).testBit e.1)
  vo:=v.2
def yOK (o:DOp):Bool:=match o.vo.op with
  | .app _ _ _ (.tmp t)=>o.cl.getD t false
  | _=>true
section
variable (P:Program)
def yCg (ops:Array Oper) (bs:List Nat) (nh n1:Nat) (start:List Bool) (H:List DOp) (tail:List VO):Option VCode :=
  if (P.follows .mixedOrders&&drawB ops H start nh)=true then
    match H.drop n1 with
    | []=>if H.all (fun o=>o.vo.op.framed)=true then some (.draw start (zLp H) H tail) else none
    | o::l2=>if ((H.take n1).all (fun o=>o.vo.op.framed)&&l2.all (fun o=>o.vo.op.framed)&&(H.take n1).all (fun k=>(bs.getD o.idx 0).testBit k.idx)&&o.vo.guard.isNone&&yOK o)=true then some (.drawW start (zLp H) (H.take n1) o l2 tail) else none
  else none
def zSi (ops:Array Oper) (bs:List Nat) (nh n1:Nat):Option (List (Nat × VO))→Option VCode
  | some vos=>match zSh P ops (ops.toList.drop nh) with
    | some tail=>yCg P ops bs nh n1 (zRi (dstsOf vos)) (vos.map (yQk bs (zRi (dstsOf vos)) vos)) tail
    | none=>none
  | none=>none
def ySx (ops:Array Oper) (bs:List Nat) (nh:Nat):Option Nat→Option VCode
  | none=>zSi P ops bs nh nh (zQh P ops none (List.range nh))
  | some w=>zSi P ops bs nh ((List.range nh).filter fun i=>(bs.getD w 0).testBit i).length (zQh P ops (some w) (((List.range nh).filter fun i=>(bs.getD w 0).testBit i)++w::(List.range nh).filter fun i=>i != w&&!(bs.getD w 0).testBit i))
def zE7 (ops:Array Oper) (bs:List Nat):Nat:=((List.range (ops.size+1)).find? fun i=>(List.range ops.size).all fun t=>decide (t < i)||bs.getD t 0==2 ^ t - 1).getD ops.size
def yAl (ops:Array Oper) (nh:Nat):Option Nat:=(List.range nh).find? fun i=>match ops[i]? with | some o=>yMe ops o | none=>false
def yCh (ops:Array Oper):Option VCode:=ySx P ops (zEo ops) (zE7 ops (zEo ops)) (yAl ops (zE7 ops (zEo ops)))
def yIh (ops:Array Oper) (nh:Nat):List Fl:=(List.range nh).filterMap fun j=>match ops[j]? with
  | some o=>match o.op with
    | .store ty (.tmp t) _=>match P.info? ty with
      | some ti=>some ⟨t,ti.size,j,(List.range nh).find? fun i=>match ops[i]? with
        | some o'=>o'.dst==some t
        | none=>false⟩
      | none=>none
    | _=>none
  | none=>none
def zO2 (ops:Array Oper) (fl:List Fl):List Nat→Option (List (Nat × VO))
  | []=>some []
  | i::is=>match cVB P ops fl i,zO2 ops fl is with
    | some v,some vs=>some ((i,v)::vs)
    | _,_=>none
def yIq (ops:Array Oper) (bs:List Nat) (nh:Nat) (fl:List Fl) (start:List Bool) (H:List DOp) (tail:List VO):Option VCode :=
  if (P.follows .mixedOrders&&drawB ops H start nh&&H.all (fun o=>o.vo.op.framed)&&yMr bs nh fl)=true then some (.drawB (yP4 fl) (yRn fl) start (zLp H) H tail) else none
def yIp (ops:Array Oper) (bs:List Nat) (nh:Nat) (fl:List Fl):Option (List (Nat × VO))→Option VCode
  | some vos=>match zSh P ops (ops.toList.drop nh) with
    | some tail=>yIq P ops bs nh fl (zRi (dstsOf vos)) (vos.map (yQk bs (zRi (dstsOf vos)) vos)) tail
    | none=>none
  | none=>none
def yIr (ops:Array Oper) (bs:List Nat) (nh:Nat) (fl:List Fl):Option VCode:=yIp P ops bs nh fl (zO2 P ops fl (List.range nh))
def yHg (ops:Array Oper):Option VCode:=match yCh P ops with
  | some l=>some l
  | none=>match yIr P ops (zEo ops) (zE7 ops (zEo ops)) (yIh P ops (zE7 ops (zEo ops))) with
    | some l=>some l
    | none=>zVr P ops (zE7 ops (zEo ops))
def yNt (ops:Array Oper) (M:List Nat) (nh:Nat):Option VCode:=zSi P ops (zEo ops) nh nh (zQh P ops none (M++(List.range nh).filter fun i=>!M.contains i))
def yIo (ops:Array Oper):Option VCode:=if Region.noSelect ops=true then yNt P (ahead (moves ops) ops) (moves ops) (zE7 (ahead (moves ops) ops) (zEo (ahead (moves ops) ops))) else none
def zVq (pm pt:Bool) (ops:Array Oper):Option VCode:=if pm=true then (if pt=true then zT9 P ops (zE7 ops (zEo ops)) else yIo P ops) else if pt=true then (match zVr P ops (zE7 ops (zEo ops)) with
  | some l=>some l
  | none=>yHg P ops) else yHg P ops
variable (pt:Nat)
def zDn:Code→List (List Bool)→Option (VCode × List (List Bool))
  | .skip,ms=>some (.skip,ms)
  | .region _ ops false,ms=>match zSh P ops ops.toList with
    | some l=>some (.ops l,ms)
    | none=>none
  | .region id ops true,ms=>match zVq P (pt.testBit (2*id+1)) (pt.testBit (2*id)) ops with
    | some l=>some (l,ms)
    | none=>none
  | .seq a b,ms=>match zDn a ms with
    | some (x,ms1)=>match zDn b ms1 with
      | some (y,ms2)=>some (.seq x y,ms2)
      | none=>none
    | none=>none
  | .cond c a b,ms=>match zDn a ms with
    | some (x,ms1)=>match zDn b ms1 with
      | some (y,ms2)=>some (.cond c x y,ms2)
      | none=>none
    | none=>none
  | .block id c,ms=>match zDn c ms with
    | some (x,ms1)=>some (.block id x,ms1)
    | none=>none
  | .loop c,ms=>match ms with
    | m::ms=>match zDn c ms with
      | some (x,ms1)=>some (.loop m x,ms1)
      | none=>none
    | []=>none
  | .exit id,ms=>some (.exit id,ms)
  | .ret,ms=>some (.ret,ms)
  | _,_=>none
end
section
variable {P:Program} {G:World→(Nat→Prop)→Prop} {w0:Base} {I0:Nat→Prop}
theorem zO1 {ops:Array Oper} {w:Option Nat}:∀ {l:List Nat} {vos:List (Nat × VO)},zQh P ops w l=some vos→∀ v∈vos,∃ op n,ops[v.1]?=some op∧cVO P n ops op=some v.2
  | [],vos,h,v,hv=>by simp only [zQh,Option.some.injEq] at h;subst h;cases hv
  | i :: l,vos,h,v,hv=>by
    simp only [zQh] at h;split at h
    · rename_i o ho;split at h
      · rename_i v' vs h1 h2;simp only [Option.some.injEq] at h;subst h;rcases List.mem_cons.1 hv with rfl | hv
        · exact ⟨o,_,ho,h1⟩
        · exact zO1 h2 v hv
      · cases h
    · cases h
theorem zWf (hcl:∀ w',w0.Below w'→GI G w' I0) {ops:Array Oper} {nh n1:Nat} {start:List Bool} {H:List DOp} {tail:List VO} {vc:VCode} (hc:yCg P ops (zEo ops) nh n1 start H tail=some vc) (hcomp:∀ o∈H,∃ op n,ops[o.idx]?=some op∧cVO P n ops op=some o.vo) (htl:zSh P ops (ops.toList.drop nh)=some tail) {VQ:VExit→List D→Prop} {Q:Exit→Act→World→Prop} {s:List D} (hk:vc.wp (CT P G) VQ s) (hQ:∀ s a w,VQ .normal s→Rel w0 I0 s a w→Q .normal a w) {a:Act} {w:World} (h:Rel w0 I0 s a w):RegAny P ops Q a w:=by
  unfold yCg at hc;by_cases hB:(P.follows .mixedOrders&&drawB ops H start nh)=true
  · rw [if_pos hB] at hc;simp only [Bool.and_eq_true] at hB;cases hdrop:H.drop n1 with
    | nil =>
      rw [hdrop] at hc;simp only at hc;by_cases hf:H.all (fun o=>o.vo.op.framed)=true
      · rw [if_pos hf] at hc;simp only [Option.some.injEq] at hc;subst hc;exact yD5 hcl hB.1 hB.2 hf hcomp htl hk hQ h
      · rw [if_neg hf] at hc;cases hc
    | cons o l2 =>
      rw [hdrop] at hc;simp only at hc;by_cases hf:((H.take n1).all (fun o=>o.vo.op.framed)&&l2.all (fun o=>o.vo.op.framed)&&(H.take n1).all (fun k=>((zEo ops).getD o.idx 0).testBit k.idx)&&o.vo.guard.isNone&&yOK o)=true
      · rw [if_pos hf] at hc;simp only [Option.some.injEq] at hc;subst hc;simp only [Bool.and_eq_true] at hf;obtain ⟨⟨⟨⟨f1,f2⟩,f3⟩,f4⟩,f5⟩:=hf;have hH:H=H.take n1++o::l2:=by rw [← hdrop,List.take_append_drop]
        refine zZi hcl hB.1 (by rw [← hH];exact hB.2) f1 f2 f3 (by simpa using f4) ?_ (by rw [← hH];exact hcomp) htl (by rw [← hH];exact hk) hQ h;intro sz bytes x y hop t ht;subst ht;unfold yOK at f5;rw [hop] at f5;exact f5
      · rw [if_neg hf] at hc;cases hc
  · rw [if_neg hB] at hc;cases hc
theorem zJ7 (hcl:∀ w',w0.Below w'→GI G w' I0) {ops:Array Oper} {nh n1:Nat} {w:Option Nat} {l:List Nat} {vc:VCode} (hc:zSi P ops (zEo ops) nh n1 (zQh P ops w l)=some vc) {VQ:VExit→List D→Prop} {Q:Exit→Act→World→Prop} {s:List D} (hk:vc.wp (CT P G) VQ s) (hQ:∀ s a w,VQ .normal s→Rel w0 I0 s a w→Q .normal a w) {a:Act} {W:World} (h:Rel w0 I0 s a W):RegAny P ops Q a W:=by
  cases hv:zQh P ops w l with
  | none=>rw [hv] at hc;cases hc
  | some vos =>
    rw [hv] at hc;simp only [zSi] at hc;cases ht:zSh P ops (ops.toList.drop nh) with
    | none=>rw [ht] at hc;cases hc
    | some tail=>rw [ht] at hc;refine zWf hcl hc (fun o ho=>?_) ht hk hQ h;obtain ⟨v,hv',rfl⟩:=List.mem_map.1 ho;exact zO1 hv v hv'
theorem zWg (hcl:∀ w',w0.Below w'→GI G w' I0) {ops:Array Oper} {vc:VCode} (hc:yCh P ops=some vc) {VQ:VExit→List D→Prop} {Q:Exit→Act→World→Prop} {s:List D} (hk:vc.wp (CT P G) VQ s) (hQ:∀ s a w,VQ .normal s→Rel w0 I0 s a w→Q .normal a w) {a:Act} {w:World} (h:Rel w0 I0 s a w):RegAny P ops Q a w:=by
  unfold yCh at hc;cases hp:yAl ops (zE7 ops (zEo ops)) with
  | none=>rw [hp] at hc;exact zJ7 hcl hc hk hQ h
  | some w=>rw [hp] at hc;exact zJ7 hcl hc hk hQ h
end
section
variable {P:Program} {G:World→(Nat→Prop)→Prop} {w0:Base} {I0:Nat→Prop}
theorem zNn {ops:Array Oper} {fl:List Fl}:∀ {l:List Nat} {vos:List (Nat × VO)},zO2 P ops fl l=some vos→∀ v∈vos,cVB P ops fl v.1=some v.2
  | [],vos,h,v,hv=>by simp only [zO2,Option.some.injEq] at h;subst h;cases hv
  | i :: l,vos,h,v,hv=>by
    simp only [zO2] at h;split at h
    · rename_i v' vs h1 h2;simp only [Option.some.injEq] at h;subst h;rcases List.mem_cons.1 hv with rfl | hv
      · exact h1
      · exact zNn h2 v hv
    · cases h
theorem zQ3 (hcl:∀ w',w0.Below w'→GI G w' I0) {ops:Array Oper} {vc:VCode} (hc:yHg P ops=some vc) {VQ:VExit→List D→Prop} {Q:Exit→Act→World→Prop} {s:List D} (hk:vc.wp (CT P G) VQ s) (hQ:∀ s a w,VQ .normal s→Rel w0 I0 s a w→Q .normal a w) {a:Act} {w:World} (h:Rel w0 I0 s a w):RegAny P ops Q a w:=by
  unfold yHg at hc;split at hc
  · rename_i l hl;simp only [Option.some.injEq] at hc;subst hc;exact zWg hcl hl hk hQ h
  · split at hc
    case h_2=>exact zQ0 hcl hc hk hQ h
    rename_i l hl;simp only [Option.some.injEq] at hc;subst hc;revert hl;unfold yIr;intro hc;revert hc;generalize yIh P ops (zE7 ops (zEo ops))=fl;generalize zE7 ops (zEo ops)=nh;intro hc;cases hv:zO2 P ops fl (List.range nh) with
    | none=>rw [hv] at hc;cases hc
    | some vos =>
      rw [hv] at hc;simp only [yIp] at hc;split at hc
      · rename_i tail ht;unfold yIq at hc;split at hc
        · rename_i hB;simp only [Bool.and_eq_true] at hB;simp only [Option.some.injEq] at hc;subst hc;simp only [VCode.wp] at hk;refine zZj hcl hB.1.1.1 hB.1.1.2 hB.1.2 (fun o ho=>?_) hB.2 ht hk.1 hk.2 hQ h;obtain ⟨v,hv',rfl⟩:=List.mem_map.1 ho;exact zNn hv v hv'
        · cases hc
      · cases hc
theorem zWe (hcl:∀ w',w0.Below w'→GI G w' I0) {pm pt:Bool} {ops:Array Oper} {vc:VCode} (hc:zVq P pm pt ops=some vc) {VQ:VExit→List D→Prop} {Q:Exit→Act→World→Prop} (hQn:NoX Q) {s:List D} (hk:vc.wp (CT P G) VQ s) (hQ:∀ s a w,VQ .normal s→Rel w0 I0 s a w→Q .normal a w) {a:Act} {w:World} (h:Rel w0 I0 s a w):RegAny P ops Q a w:=by
  unfold zVq at hc;split at hc
  · split at hc
    · exact zWc hcl hc hQn hk hQ h
    · unfold yIo at hc;split at hc
      · rename_i hs;exact zZ6 hs hQn (zJ7 hcl hc hk hQ h)
      · cases hc
  split at hc
  · split at hc
    · rename_i l hl;simp only [Option.some.injEq] at hc;subst hc;exact zQ0 hcl hl hk hQ h
    · exact zQ3 hcl hc hk hQ h
  · exact zQ3 hcl hc hk hQ h
theorem zFb {pt:Nat} (hcl:∀ w',w0.Below w'→GI G w' I0):∀ (c:Code) (ms ms':List (List Bool)) (vc:VCode) (VQ:VExit→List D→Prop) (Q:Exit→Act→World→Prop) (s:List D) (a:Act) (w:World),
    zDn P pt c ms=some (vc,ms')→vc.wp (CT P G) VQ s→Rel w0 I0 s a w→(∀ e s a w,VQ e s→Rel w0 I0 s a w→Q e.to a w)→c.wp P Q a w
  | .skip,ms,ms',vc,VQ,Q,s,a,w,hc,hk,h,hQ=>by simp only [zDn,Option.some.injEq,Prod.mk.injEq] at hc;obtain ⟨rfl,_⟩:=hc;exact wp_skip (hQ .normal s a w hk h)
  | .region id ops draw,ms,ms',vc,VQ,Q,s,a,w,hc,hk,h,hQ=>by
    cases draw with
    | true =>
      simp only [zDn] at hc;cases hl:zVq P (pt.testBit (2*id+1)) (pt.testBit (2*id)) ops with
      | none=>simp [hl] at hc
      | some l=>simp only [hl,Option.some.injEq,Prod.mk.injEq] at hc;obtain ⟨rfl,_⟩:=hc;exact Code.wp_mono (fun e a w h=>by obtain ⟨rfl,h⟩:=h;exact h) (zWe (Q:=fun e a w=>e=.normal∧Q .normal a w) hcl hl (fun _ _ _ h=>h.1) hk (fun s a w hk h=>⟨rfl,hQ .normal s a w hk h⟩) h).wp
    | false =>
      simp only [zDn] at hc;cases hl:zSh P ops ops.toList with
      | none=>simp [hl] at hc
      | some l=>simp only [hl,Option.some.injEq,Prod.mk.injEq] at hc;obtain ⟨rfl,_⟩:=hc;simp only [VCode.wp] at hk;exact wp_region_list (zH0 hcl ops (KK:=VQ .normal) (fun s a w hk h=>hQ .normal s a w hk h) ops.toList l s a w hl hk h)
  | .seq x y,ms,ms',vc,VQ,Q,s,a,w,hc,hk,h,hQ=>by
    simp only [zDn] at hc;cases hx:zDn P pt x ms with
    | none=>simp [hx] at hc
    | some r =>
      obtain ⟨vx,ms1⟩:=r;simp only [hx] at hc;cases hy:zDn P pt y ms1 with
      | none=>simp [hy] at hc
      | some r =>
        obtain ⟨vy,ms2⟩:=r;simp only [hy,Option.some.injEq,Prod.mk.injEq] at hc;obtain ⟨rfl,_⟩:=hc;simp only [VCode.wp] at hk;refine wp_seq (zFb hcl x ms ms1 vx _ _ s a w hx hk h ?_);intro e s' a' w' hq hr;cases e with
        | normal=>exact zFb hcl y ms1 ms2 vy VQ Q s' a' w' hy hq hr hQ
        | exit id=>exact hQ (.exit id) s' a' w' hq hr
        | ret=>exact hQ .ret s' a' w' hq hr
  | .cond c x y,ms,ms',vc,VQ,Q,s,a,w,hc,hk,h,hQ=>by
    simp only [zDn] at hc;cases hx:zDn P pt x ms with
    | none=>simp [hx] at hc
    | some r =>
      obtain ⟨vx,ms1⟩:=r;simp only [hx] at hc;cases hy:zDn P pt y ms1 with
      | none=>simp [hy] at hc
      | some r =>
        obtain ⟨vy,ms2⟩:=r;simp only [hy,Option.some.injEq,Prod.mk.injEq] at hc;obtain ⟨rfl,_⟩:=hc;simp only [VCode.wp] at hk;obtain ⟨hd,I,Fs,hR⟩:=h;have hT:=zDa hR c;split at hk
        · rename_i t e;rw [e] at hT;refine wp_cond_split (T_v hT).1 (fun ht=>?_) (fun ht=>?_)
          · exact zFb hcl x ms ms1 vx VQ Q s a w hx (hk.1 ht) ⟨hd,I,Fs,hR⟩ hQ
          · exact zFb hcl y ms1 ms2 vy VQ Q s a w hy (hk.2 ht) ⟨hd,I,Fs,hR⟩ hQ
        · exact hk.elim
  | .block id c,ms,ms',vc,VQ,Q,s,a,w,hc,hk,h,hQ=>by
    simp only [zDn] at hc;cases hx:zDn P pt c ms with
    | none=>simp [hx] at hc
    | some r =>
      obtain ⟨vx,ms1⟩:=r;simp only [hx,Option.some.injEq,Prod.mk.injEq] at hc;obtain ⟨rfl,_⟩:=hc;simp only [VCode.wp] at hk;refine wp_block (zFb hcl c ms ms1 vx _ _ s a w hx hk h ?_);intro e s' a' w' hq hr;cases e with
      | normal=>exact hQ .normal s' a' w' hq hr
      | ret=>exact hQ .ret s' a' w' hq hr
      | exit i =>
        simp only [zOh] at hq;by_cases hi:i=id
        · rw [if_pos hi] at hq;simp only [VExit.to,Exit.inBlock,hi,if_true];exact hQ .normal s' a' w' hq hr
        · rw [if_neg hi] at hq;simp only [VExit.to,Exit.inBlock,hi,if_false];exact hQ (.exit i) s' a' w' hq hr
  | .loop c,ms,ms',vc,VQ,Q,s,a,w,hc,hk,h,hQ=>by
    simp only [zDn] at hc;cases ms with
    | nil=>simp at hc
    | cons m ms =>
      simp only at hc;cases hx:zDn P pt c ms with
      | none=>simp [hx] at hc
      | some r =>
        obtain ⟨vx,ms1⟩:=r;simp only [hx,Option.some.injEq,Prod.mk.injEq] at hc;obtain ⟨rfl,_⟩:=hc;simp only [VCode.wp] at hk;obtain ⟨J,⟨n,s1,hle,h0⟩,hround⟩:=hk;have hclr:∀ s a w,Rel w0 I0 s a w→Rel w0 I0 (clr m s) a w:=fun s a w ⟨hd,I,Fs,hR⟩=>⟨hd,I,_,hR.clr m⟩
        have hnle:∀ s s1 a w,Rel w0 I0 s a w→zEj s s1→Rel w0 I0 s1 a w:=fun s s1 a w ⟨hd,I,Fs,hR⟩ hl=>⟨hd,I,_,hR.nle hl⟩
        refine wp_loop_ghost (fun n a w=>∃ s,J n s∧Rel w0 I0 s a w) n ⟨_,h0,hnle _ _ _ _ (hclr _ _ _ h) hle⟩ ?_;rintro n a w ⟨s,hJ,hr⟩;refine zFb hcl c ms ms1 vx _ _ s a w hx (hround n s hJ) hr ?_;intro e s' a' w' hq hr';cases e with
        | normal=>obtain ⟨m',hlt,s1,hle,hJ'⟩:=hq;exact ⟨m',hlt,_,hJ',hnle _ _ _ _ (hclr _ _ _ hr') hle⟩
        | exit id=>exact hQ (.exit id) s' a' w' hq hr'
        | ret=>exact hQ .ret s' a' w' hq hr'
  | .exit id,ms,ms',vc,VQ,Q,s,a,w,hc,hk,h,hQ=>by simp only [zDn,Option.some.injEq,Prod.mk.injEq] at hc;obtain ⟨rfl,_⟩:=hc;exact wp_exit (hQ (.exit id) s a w hk h)
  | .ret,ms,ms',vc,VQ,Q,s,a,w,hc,hk,h,hQ=>by simp only [zDn,Option.some.injEq,Prod.mk.injEq] at hc;obtain ⟨rfl,_⟩:=hc;exact wp_ret (hQ .ret s a w hk h)
  | .rangeFunc _ _ _ _,_,_,_,_,_,_,_,_,hc,_,_,_=>by simp [zDn] at hc
  | .scope _,_,_,_,_,_,_,_,_,hc,_,_,_=>by simp [zDn] at hc
  | .label _,_,_,_,_,_,_,_,_,hc,_,_,_=>by simp [zDn] at hc
  | .goto _,_,_,_,_,_,_,_,_,hc,_,_,_=>by simp [zDn] at hc
  | .refuse _,_,_,_,_,_,_,_,_,hc,_,_,_=>by simp [zDn] at hc
end
end Go.V
namespace Go.V
open Go.RowKit
def zZ5 (tmps:Array Value):ResultVar→Sem Value
  | .tmp t=>pure (tmps.getD t undef)
  | .cell x t=>do loadVar t (← asAddr (tmps.getD x undef))
theorem zOk (fn:Func) (tmps:Array Value):results fn tmps=(do let vs ← fn.results.mapM (zZ5 tmps);pure (if h:vs.size=1 then vs[0] else .tuple vs)):=by have:(fun v:ResultVar=>(match v with | .tmp t=>pure (tmps.getD t undef) | .cell a t=>do loadVar t (← asAddr (tmps.getD a undef)):Sem Value))=zZ5 tmps:=(by funext v;cases v <;> rfl);rw [← this];rfl
section
variable {P:Program} {G:World→(Nat→Prop)→Prop} {w0:Base} {I0:Nat→Prop} {s:List D} {a:Act} {w:World} {I:Nat→Prop} {Fs:Nat→List Nat}
theorem zMg (h:RelI w0 I0 s a.tmps w I Fs) {d:D} {u:Value} {F:List Nat} {KK:D→List D→Prop} (hok:d.okCells=true) (hT:T I w d (ρS s a.tmps w) u F) (hF:Fresh w0 w I Fs F) (hk:zCb s d KK) :
    ∃ d' s' Fs' F',KK d' s'∧RelI w0 I0 s' a.tmps w I Fs'∧T I w d' nil u F'∧Fresh w0 w I Fs' F'∧(∀ r b,b∈Fs' r→b∈Fs r)∧(∀ b,b∈F'→b∈F∨∃ r,b∈Fs r):=by
  unfold zCb at hk;split at hk
  · rename_i r;split at hk
    · rename_i tag cells hs;obtain ⟨u0,hu0,hTb⟩:=h.slot0 hs;simp only [T] at hT;obtain ⟨⟨d1,u1,t1,sz,rows,u2,b1,o1,m1,m2,m3,m4,m5,m6,m7⟩,_⟩:=hT;rw [hu0] at m2;cases m2;simp only [zBo,Option.some.injEq] at m5;subst m5;have hTb':=hTb;simp only [T] at hTb;obtain ⟨b,cs,et,F',hub,_,hh,hFr,hcs⟩:=hTb;rw [hub] at m6;simp only [zBn,Option.some.injEq,Prod.mk.injEq] at m6;obtain ⟨rfl,rfl⟩:=m6;obtain ⟨hro,hk⟩:=hk;have hq:∀ x v,zI1 r x=true→ρS s a.tmps w x v→ρS ((zAg (zAh r) s).set r .undef) a.tmps w x v:=fun x v hx hv=>by refine hv.forget r ?_;cases x <;> simp only [zI1] at hx <;> first | exact hx | cases hx
      have hb:b∈Fs r:=(by rw [hFr];simp);have hndr:=h.nd r;rw [hFr] at hndr;have hfr:Fresh w0 w I (upd Fs r []) F':=⟨(List.nodup_cons.1 hndr).2,fun x hx=>by
        have hxr:x∈Fs r:=(by rw [hFr];simp [hx]);refine ⟨(h.own r x hxr).1,(h.own r x hxr).2.1,(h.own r x hxr).2.2,fun r' hr=>?_⟩;unfold upd at hr;split at hr
        · cases hr
        · rename_i hne;exact hne (h.disj r' r x hr hxr)⟩
      obtain ⟨cs',s2,Fs2,F2,hK,h2,hC2,hF2,hsub2,hin2,_⟩:=zI0 _ (h.forget r) (Cells.turn hq cells hcs) hfr hro hk;have hnb:b∉F2:=fun hx=>by
        rcases hin2 b hx with hy | ⟨r',hy⟩
        · exact (List.nodup_cons.1 hndr).1 hy
        · unfold upd at hy;split at hy
          · cases hy
          · rename_i hne;exact hne (h.disj r' r b hy hb)
      have hbn:∀ r',b∉Fs2 r':=fun r' hr=>by
        have:=hsub2 r' b hr;unfold upd at this;split at this
        · cases this
        · rename_i hne;exact hne (h.disj r' r b this hb)
      refine ⟨_,s2,Fs2,b::F2,hK,h2,?_,⟨List.nodup_cons.2 ⟨hnb,hF2.1⟩,fun x hx=>?_⟩,fun r' x hx=>?_,fun x hx=>?_⟩
      · simp only [T];exact ⟨b,cs,et,F2,by rw [m7];simp,(fun _ h=>by cases h),hh,rfl,hC2⟩
      · rcases List.mem_cons.1 hx with rfl | hx
        · exact ⟨(h.own r x hb).1,(h.own r x hb).2.1,(h.own r x hb).2.2,hbn⟩
        · exact hF2.2 x hx
      · have:=hsub2 r' x hx;unfold upd at this;split at this
        · cases this
        · exact this
      · rcases List.mem_cons.1 hx with rfl | hx
        · exact .inr ⟨r,hb⟩
        · rcases hin2 x hx with hy | ⟨r',hy⟩
          · exact .inr ⟨r,by rw [hFr];simp [hy]⟩
          · unfold upd at hy;split at hy
            · cases hy
            · exact .inr ⟨r',hy⟩
    · exact hk.elim
  obtain ⟨hro,hk⟩:=hk;obtain ⟨cs',s2,Fs2,F',hK,h2,hC2,hF',hsub2,hin2,_⟩:=zI0 _ h (zKq h hT hok) hF hro hk;refine ⟨_,s2,Fs2,F',hK,h2,?_,hF',hsub2,hin2⟩;by_cases hd:∃ cs,d=.agg cs
  · obtain ⟨cs,rfl⟩:=hd;simp only [T] at hT;obtain ⟨us,e,_⟩:=hT;simp only [zD7,T];refine ⟨us,e,?_⟩;rw [e] at hC2;simpa [Value.cells] using hC2
  · have hn:∀ cs,d≠.agg cs:=fun cs e=>hd ⟨cs,e⟩;obtain ⟨h1,h3⟩:=ok_one h hT hok hn;rw [h3] at hC2;have hr:zD7 d cs'=cs'.headD .undef:=by cases d <;> first | rfl | exact absurd rfl (hn _)
    rw [hr];cases cs' with
    | nil=>simp only [Cells] at hC2;simp at hC2
    | cons c cs =>
      simp only [Cells] at hC2;obtain ⟨v,vs,F1,F2,e,hFe,_,ht,hc⟩:=hC2;simp only [List.cons.injEq] at e;obtain ⟨rfl,rfl⟩:=e;have:=hc.len;cases cs with
      | cons x y=>simp at this
      | nil=>simp only [Cells] at hc;rw [hFe,hc.2,List.append_nil];exact ht
theorem yWf (h : RelI w0 I0 s a.tmps w I Fs) {rv:RV} {v:ResultVar} {KK:D→List D→Prop} (hc:zL2 P [v]=some [rv]) (hk:rvK s rv KK) :
    ∃ u d' s' Fs' F',(zZ5 a.tmps v).run P w=.ok u w∧KK d' s'∧RelI w0 I0 s' a.tmps w I Fs'∧T I w d' nil u F'∧Fresh w0 w I Fs' F'∧(∀ r b,b∈Fs' r→b∈Fs r)∧(∀ b,b∈F'→∃ r,b∈Fs r):=by
  cases v with
  | tmp t =>
    simp only [zL2,Option.map_some,Option.some.injEq,List.cons.injEq,and_true] at hc;subst hc;obtain ⟨hok,hk⟩:=hk;obtain ⟨Fs1,F,h1,hT,hF,hsub⟩:=yPa h t;obtain ⟨d',s',Fs',F',k1,k2,k3,k4,k5,k6⟩:=zMg h1 hok hT hF hk;exact ⟨_,d',s',Fs',F',rfl,k1,k2,k3,k4,fun r b hb=>hsub.1 r b (k5 r b hb),fun b hb=>by
      rcases k6 b hb with hb | ⟨r,hr⟩
      · exact hsub.2.1 b hb
      · exact ⟨r,hsub.1 r b hr⟩⟩
  | cell x t =>
    simp only [zL2] at hc;split at hc
    · rename_i d i hu hi;have key:∀ (agg:Bool) (n:Nat),rv=.c x n agg→d.isRow=agg→i.size=n→(agg=false→n=1)→∃ u d' s' Fs' F',(do loadVar t (← asAddr (a.tmps.getD x undef)):Sem Value).run P w=.ok u w∧KK d' s'∧RelI w0 I0 s' a.tmps w I Fs'∧T I w d' nil u F'∧Fresh w0 w I Fs' F'∧(∀ r b,b∈Fs' r→b∈Fs r)∧(∀ b,b∈F'→∃ r,b∈Fs r):=by
        intro agg n hrv hd hn h1;subst hrv;simp only [rvK] at hk;split at hk
        · rename_i cells hs;obtain ⟨hlen,hok2,hk⟩:=hk;obtain ⟨u,hu',hT⟩:=h.slot0 hs;simp only [T] at hT;obtain ⟨b,cs,e,F',hub,_,hh,hFe,hcs⟩:=hT;have hf:=h.forget x;have hcl:=hcs.len;have hcs':Cells I w (zAg (zAh x) cells) (ρS ((zAg (zAh x) s).set x .undef) a.tmps w) cs.toList F':=Cells.turn (fun y v hq hy=>hy.forget x hq) cells hcs;have hnd:=h.nd x;rw [hFe] at hnd;have hF':Fresh w0 w I (upd Fs x []) F':=⟨(List.nodup_cons.1 hnd).2,fun b' hb'=>by
            have hbx:b'∈Fs x:=(by rw [hFe];simp [hb']);refine ⟨(h.own x b' hbx).1,(h.own x b' hbx).2.1,(h.own x b' hbx).2.2,fun r hr=>?_⟩;unfold upd at hr;split at hr
            · cases hr
            · rename_i hne;exact hne (h.disj r x b' hr hbx)⟩
          have hmk:T I w (zEk agg (zAg (zAh x) cells)) (ρS ((zAg (zAh x) s).set x .undef) a.tmps w) (if agg then .agg cs else cs.toList.headD undef) F':=by
            cases agg with
            | true=>simp only [zEk,if_true,T];exact ⟨cs.toList,by simp,hcs'⟩
            | false =>
              have hn1:=h1 rfl;cases hp:zAg (zAh x) cells with
              | nil=>have:=zA0 (zAh x) cells;rw [hp] at this;simp at this;omega
              | cons c cc =>
                rw [hp] at hcs';simp only [Cells] at hcs';obtain ⟨v,vs,F1,F2,e1,e2,_,ht,hc2⟩:=hcs';have hccl:cc=[]:=by have:=zA0 (zAh x) cells;rw [hp] at this;exact List.eq_nil_of_length_eq_zero (by simp at this;omega)
                subst hccl;simp only [Cells] at hc2;rw [e2,hc2.2,List.append_nil,e1];simpa [zEk] using ht
          have hrun:(do loadVar t (← asAddr (a.tmps.getD x undef)):Sem Value).run P w=.ok (if agg then .agg cs else cs.toList.headD undef) w:=by
            have hg:a.tmps.getD x undef=u:=(by simp [hu']);rw [hg,hub];have hr:w.rangeAt b 0 cs.toList:=fun j v hj=>by rw [zB2 hh,Nat.zero_add];simpa using hj
            have:=zPq (P:=P) hu hd (by rw [hi];simp [hn]) h1 (us:=cs.toList) (by rw [hcl,hlen]) hr;simp only [Instr.loadAt,Instr.sureAddr] at this;simp only [asAddr];cases agg <;> simpa using this
          obtain ⟨d',s',Fs',F'',k1,k2,k3,k4,k5,k6⟩:=zMg hf hok2 hmk hF' hk;have hsub:∀ r b,b∈upd Fs x [] r→b∈Fs r:=fun r b hb=>by
            unfold upd at hb;split at hb
            · cases hb
            · exact hb
          exact ⟨_,d',s',Fs',F'',hrun,k1,k2,k3,k4,fun r b hb=>hsub r b (k5 r b hb),fun b hb=>by
            rcases k6 b hb with hb | ⟨r,hr⟩
            · exact ⟨x,by rw [hFe];simp [hb]⟩
            · exact ⟨r,hsub r b hr⟩⟩
        · exact hk.elim
      split at hc
      · rename_i hd;simp only [zL2,Option.map_some,Option.some.injEq,List.cons.injEq,and_true] at hc;exact key true i.size hc.symm hd rfl (fun h=>by cases h)
      · rename_i hd;split at hc
        · rename_i h1;simp only [zL2,Option.map_some,Option.some.injEq,List.cons.injEq,and_true] at hc;exact key false 1 hc.symm (by simpa using hd) h1 (fun _=>rfl)
        · cases hc
    · cases hc
theorem yCe {v:ResultVar} {vs:List ResultVar} {rvs:List RV} (h:zL2 P (v::vs)=some rvs):∃ rv rs,rvs=rv::rs∧zL2 P [v]=some [rv]∧zL2 P vs=some rs:=by
  cases v with
  | tmp t=>simp only [zL2,Option.map_eq_some_iff] at h;obtain ⟨rs,h1,rfl⟩:=h;exact ⟨_,rs,rfl,by simp [zL2],h1⟩
  | cell x t =>
    simp only [zL2] at h ⊢;split at h
    · rename_i d i hu hi;split at h
      · rename_i hd;simp only [Option.map_eq_some_iff] at h;obtain ⟨rs,h1,rfl⟩:=h;exact ⟨_,rs,rfl,by simp [hd],h1⟩
      · rename_i hd;split at h
        · rename_i h1;simp only [Option.map_eq_some_iff] at h;obtain ⟨rs,h2,rfl⟩:=h;exact ⟨_,rs,rfl,by simp [hd,h1],h2⟩
        · cases h
    · cases h
theorem yPs:∀ (vs:List ResultVar) {s:List D} {Fs:Nat→List Nat} {rvs:List RV} {KK:List D→List D→Prop},RelI w0 I0 s a.tmps w I Fs→zL2 P vs=some rvs→zQl s rvs KK →
    ∃ us ds F s2 Fs2,(vs.mapM (zZ5 a.tmps)).run P w=.ok us w∧us.length=vs.length∧KK ds s2∧Vals I w ds nil us F∧F.Nodup∧(∀ b,b∈F→w0.N b∧b < w.heap.size∧¬ I b)∧(∀ b,b∈F→∃ r,b∈Fs r)∧RelI w0 I0 s2 a.tmps w I Fs2∧(∀ r b,b∈Fs2 r→b∈Fs r)∧∀ b,b∈F→∀ r,b∉Fs2 r
  | [],s,Fs,rvs,KK,h,hc,hk=>by simp only [zL2,Option.some.injEq] at hc;subst hc;exact ⟨[],[],[],s,Fs,by simp,rfl,hk,by simp [Vals],List.nodup_nil,(fun _ h=>by cases h),(fun _ h=>by cases h),h,fun _ _ h=>h,fun _ h=>by cases h⟩
  | v :: vs,s,Fs,rvs,KK,h,hc,hk=>by
    obtain ⟨rv,rs,rfl,h1,h2⟩:=yCe hc;simp only [zQl] at hk;obtain ⟨u,d',s',Fs',F',k1,k2,k3,k4,k5,k6,k7⟩:=yWf h h1 hk;obtain ⟨us,ds,F,s2,Fs2,m1,m2,m3,m4,m5,m6,m7,m8,m9,m10⟩:=yPs vs k3 h2 k2;refine ⟨u::us,d'::ds,F'++F,s2,Fs2,?_,by simp [m2],m3,?_,List.nodup_append.2 ⟨k5.1,m5,fun x hx y hy hxy=>?_⟩,fun b hb=>?_,fun b hb=>?_,m8,fun r b hb=>k6 r b (m9 r b hb),fun b hb r hr=>?_⟩
    · rw [List.mapM_cons,Sem.run_bind,k1,Result.andThen_ok,Sem.run_bind,m1,Result.andThen_ok,Sem.run_pure]
    · simp only [Vals];exact ⟨u,us,F',F,rfl,rfl,k4,m4⟩
    · subst hxy;obtain ⟨r,hr⟩:=m7 x hy;exact (k5.2 x hx).2.2.2 r hr
    · rcases List.mem_append.1 hb with hb | hb
      · exact ⟨(k5.2 b hb).1,(k5.2 b hb).2.1,(k5.2 b hb).2.2.1⟩
      · exact m6 b hb
    · rcases List.mem_append.1 hb with hb | hb
      · exact k7 b hb
      · obtain ⟨r,hr⟩:=m7 b hb;exact ⟨r,k6 r b hr⟩
    · rcases List.mem_append.1 hb with hb | hb
      · exact (k5.2 b hb).2.2.2 r (m9 r b hr)
      · exact m10 b hb r hr
end
def yOx (rvs:List RV) (KK:List D→List D→Prop):VExit→List D→Prop
  | .normal,s=>zQl s rvs KK
  | .ret,s=>zQl s rvs KK
  | .exit _,_=>False
def leK (d:D):List D→List D→Prop:=fun ds _=>(one ds).le d
def zD5 (rvs:List RV) (d:D):VExit→List D→Prop:=yOx rvs (leK d)
def yUc (i b:Nat) (cells':List D) (s:List D):Prop:=match s[i]? with
  | some (.box (some b') cs)=>b'=b∧leL (zAg (fun _=>false) cs) cells'
  | _=>False
def leX (d:D) (i b:Nat) (cells':List D):List D→List D→Prop:=fun ds s=>(one ds).le d∧yUc i b cells' s
def yGz (rvs:List RV) (d:D) (i b:Nat) (cells':List D):VExit→List D→Prop:=yOx rvs (leX d i b cells')
theorem zNp {pt:Nat} {P:Program} {G:World→(Nat→Prop)→Prop} {f:FuncId} {fn:Func} {c:Code} {ms ms':List (List Bool)} {vc:VCode} {rvs:List RV} {KK:List D→List D→Prop} {w:World} {I:Nat→Prop} {us:List Value} {X:List Nat} {s0:List D} {Fs0:Nat→List Nat} (hG:∀ w',(ioB w X).Below w'→GI G w' I) (hf:P.funcs[f]?=some fn) (hb:fn.body=some c)
    (hc:zDn P pt c ms=some (vc,ms')) (hr:zL2 P fn.results.toList=some rvs) (hrel:RelI (ioB w X) I s0 (us.toArray++Array.replicate (fn.ntmps - us.toArray.size) undef) w I Fs0) (hk:vc.wp (CT P G) (yOx rvs KK) s0) :
    Calls P f us.toArray w fun e w'=>∃ v ds F s2 Fs2 I' tm,e=.returned v∧KK ds s2∧(ioB w X).Below w'∧T I' w' (one ds) nil v F∧F.Nodup∧(∀ b,b∈F→(ioB w X).N b∧b < w'.heap.size∧¬ I' b)∧RelI (ioB w X) I s2 tm w' I' Fs2∧∀ b,b∈F→∀ r,b∉Fs2 r:=by
  refine calls_of_wp hf hb ?_;refine zFb hG c ms ms' vc (yOx rvs KK) _ _ _ w hc hk ⟨rfl,I,Fs0,hrel⟩ ?_;intro e s a w' hq hr';obtain ⟨hd,I',Fs,hR⟩:=hr';have key:zQl s rvs KK→a.defers=[]∧∃ v,(results fn a.tmps).run P w'=.ok v w'∧∃ v' ds F s2 Fs2 I' tm,Ending.returned v=.returned v'∧KK ds s2∧(ioB w X).Below w'∧T I' w' (one ds) nil v' F∧F.Nodup∧(∀ b,b∈F→(ioB w X).N b∧b < w'.heap.size∧¬ I' b)∧RelI (ioB w X) I s2 tm w' I' Fs2∧∀ b,b∈F→∀ r,b∉Fs2 r:=by
    intro hq;obtain ⟨us',ds,F,s2,Fs2,m1,m2,m3,m4,m5,m6,m7,m8,m9,m10⟩:=yPs fn.results.toList hR hr hq;have hrun:(results fn a.tmps).run P w'=.ok (if us'.length=1 then us'.headD undef else .tuple us'.toArray) w':=by
      rw [zOk,Sem.run_bind,Array.mapM_eq_mapM_toList,Sem.run_map,m1];simp only [Result.andThen_ok,Sem.run_pure];by_cases h1:us'.length=1
      · rw [if_pos h1,dif_pos (by simpa using h1)];cases us' with
        | nil=>simp at h1
        | cons u us2=>simp
      · rw [if_neg h1,dif_neg (by simpa using h1)]
    have hT : T I' w' (one ds) nil (if us'.length=1 then us'.headD undef else .tuple us'.toArray) F:=by
      have hl:=m4.len;by_cases h1:us'.length=1
      · rw [if_pos h1];cases ds with
        | nil=>rw [h1] at hl;simp at hl
        | cons d1 ds =>
          cases ds with
          | nil=>simp only [Vals] at m4;obtain ⟨u,us2,F1,F2,e1,e2,ht,e3,e4⟩:=m4;subst e1;subst e2;subst e3;subst e4;simpa [one] using ht
          | cons d2 ds=>rw [h1] at hl;simp at hl
      · rw [if_neg h1];have:one ds=.tup ds:=by
          cases ds with
          | nil=>rfl
          | cons d1 ds=>cases ds with
            | nil=>exact absurd hl h1
            | cons d2 ds=>rfl
        rw [this];simp only [T];exact ⟨us',rfl,m4⟩
    exact ⟨hd,_,hrun,_,ds,F,s2,Fs2,I',a.tmps,rfl,m3,hR.below,hT,m5,m6,m8,m10⟩
  cases e with
  | normal=>exact key hq
  | ret=>exact key hq
  | exit id=>exact hq.elim
theorem zF7 {w:World} {I:Nat→Prop} {args:List D} {us:List Value} {n:Nat} (hV:Vals I w args nil us []) {r:Nat} {d':D} {u:Value} {ρ:D→Value→Prop} (h1:(args++List.replicate (n - args.length) D.undef)[r]?=some d') (h2:(us.toArray++Array.replicate (n - us.toArray.size) undef)[r]?=some u):T I w d' ρ u []:=by
  have hlen:=hV.len;by_cases hr:r < args.length
  · rw [List.getElem?_append_left hr] at h1;have hu:us[r]?=some u:=by rw [Array.getElem?_append_left (by simp;omega)] at h2;simpa using h2
    obtain ⟨u',A,F',B,k1,k2,k3,_⟩:=Vals.get r hV h1;rw [hu] at k1;cases k1;have hF':F'=[]:=(by have:=congrArg List.length k2;simp at this;exact List.eq_nil_of_length_eq_zero (by omega));rw [hF'] at k3;exact k3.res (fun _ _ h=>h.elim)
  · rw [List.getElem?_append_right (by omega),List.getElem?_replicate] at h1;split at h1
    · cases h1;simp [T]
    · cases h1
theorem zAm {pt:Nat} {P:Program} {G:World→(Nat→Prop)→Prop} {f:FuncId} {fn:Func} {c:Code} {ms ms':List (List Bool)} {vc:VCode} {rvs:List RV} {args:List D} {d:D} (hcl:yOs G) (hf:P.funcs[f]?=some fn) (hen:∀ (us:Array Value) (W:World),(callFunc f us).run P W=.ok (.enter f us) W) (hb:fn.body=some c)
    (hc:zDn P pt c ms=some (vc,ms')) (hr:zL2 P fn.results.toList=some rvs) (hk:vc.wp (CT P G) (zD5 rvs d) (args++List.replicate (fn.ntmps - args.length) .undef)):Contract P G f args d:=by
  refine ⟨hen,fun w I us hG hI hV=>?_⟩;have hlen:=hV.len;refine (zNp (I:=I) (X:=[]) (us:=us) (Fs0:=fun _=>[]) (fun w' hb'=>hG.keep hcl fun b hb=>hb'.block b (fun hn=>hn.elim (fun h=>absurd (hI b hb) (by omega)) (fun h=>by cases h))) hf hb hc hr ?_ hk).mono ?_
  · exact {
      below:=Base.Below.refl
      len:=by simp [hlen]
      slot:=fun r d' u h1 h2=>zF7 hV h1 h2
      nd:=fun _=>List.nodup_nil
      disj:=fun _ _ _ h=>by cases h
      own:=fun _ _ h=>by cases h
      imm:=hI
      imm0:=fun _ h=>h
      immN:=fun _ h=>.inl h }
  · rintro e w' ⟨v,ds,F,s2,Fs2,I',tm,he,hle,hbel,hT,hnd,hF,hR,_⟩;obtain ⟨F',k1,k2⟩:=T.leF _ _ hT hle;have hN:∀ x,(ioB w []).N x→w.heap.size≤x:=fun x h=>h.elim id (fun h=>by cases h);exact ⟨v,F',I',he,⟨hbel.os,hbel.tape,hbel.output,hbel.size,fun k hk=>hbel.block k (fun h=>by have:=hN k h;omega)⟩,k1,k2.nodup hnd,fun b hb=>⟨hN b (hF b (k2.subset hb)).1,(hF b (k2.subset hb)).2⟩,hR.imm0,fun b hb=>⟨(hR.immN b hb).imp_right (hN b),hR.imm b hb⟩⟩
theorem zIy {args:List D} {i r:Nat} {d:D} (h:r≠i) (n:Nat):(args.set i d++List.replicate n D.undef)[r]?=(args.set i .undef++List.replicate n D.undef)[r]?:=by
  by_cases hr:r < args.length
  · rw [List.getElem?_append_left (by simpa using hr),List.getElem?_append_left (by simpa using hr),List.getElem?_set_ne (Ne.symm h),List.getElem?_set_ne (Ne.symm h)]
  · rw [List.getElem?_append_right (by simpa using hr),List.getElem?_append_right (by simpa using hr)];simp
theorem zDx {pt:Nat} {P:Program} {G:World→(Nat→Prop)→Prop} {f:FuncId} {fn:Func} {c:Code} {ms ms':List (List Bool)} {vc:VCode} {rvs:List RV} {args:List D} {d:D} {i:Nat} {cells cells':List D} (hcl:yOs G) (hf:P.funcs[f]?=some fn) (hen:∀ (us:Array Value) (W:World),(callFunc f us).run P W=.ok (.enter f us) W) (hb:fn.body=some c)
    (hc:zDn P pt c ms=some (vc,ms')) (hr:zL2 P fn.results.toList=some rvs) (hi:i < args.length) (hk:∀ b,vc.wp (CT P G) (yGz rvs d i b cells') (args.set i (.box (some b) cells)++List.replicate (fn.ntmps - args.length) .undef)):ContractX P G f i args cells d cells':=by
  refine ⟨hen,fun w I us b X hG hI hu hV hTb hXn hX=>?_⟩;have hlen:us.length=args.length:=by have:=hV.len;simpa using this
  refine (zNp (I:=I) (X:=X) (us:=us) (Fs0:=fun r=>if r=i then X else []) (fun w' hb'=>hG.keep hcl fun b hb=>hb'.block b (fun hn=>hn.elim (fun h=>absurd (hI b hb) (by omega)) (fun h=>(hX b h).2 hb))) hf hb hc hr ?_ (hk b)).mono ?_
  · exact {
      below:=Base.Below.refl
      len:=by simp [hlen]
      slot:=by
        intro r d' u h1 h2;by_cases hri:r=i
        · subst hri;rw [List.getElem?_append_left (by simpa using hi),List.getElem?_set_self hi] at h1;cases h1;have:us[r]?=some u:=by rw [Array.getElem?_append_left (by simp;omega)] at h2;simpa using h2
          rw [hu] at this;cases this;simp only [if_true];exact hTb.res (fun _ _ h=>h.elim)
        · simp only [hri,if_false];rw [zIy hri] at h1;exact zF7 hV (by simpa using h1) h2
      nd:=fun r=>by split;exact hXn;exact List.nodup_nil
      disj:=fun r r' x h h'=>by
        split at h
        · split at h'
          · omega
          · cases h'
        · cases h
      own:=fun r x h=>by
        split at h
        · exact ⟨.inr h,(hX x h).1,(hX x h).2⟩
        · cases h
      imm:=hI
      imm0:=fun _ h=>h
      immN:=fun _ h=>.inl h }
  · rintro e w' ⟨v,ds,F,s2,Fs2,I',tm,he,⟨hle,hout⟩,hbel,hT,hnd,hF,hR,hFo⟩;obtain ⟨F',k1,k2⟩:=T.leF _ _ hT hle;unfold yUc at hout;split at hout
    · rename_i b' cs hs;obtain ⟨rfl,hlc⟩:=hout;obtain ⟨u2,hu2,hT2⟩:=hR.slot0 hs;simp only [T] at hT2;obtain ⟨b2,cs2,et,F2,hub,htg,hh,hFr,hcs⟩:=hT2;have hb2:=htg b' rfl;subst hb2;obtain ⟨F3,hc3,hs3⟩:=Cells.leF _ _ (Cells.turn (ρ':=nil) (fun x v hq _=>by cases hq) cs hcs) hlc;have hsub:∀ x,x∈b2::F3→x∈Fs2 i:=fun x hx=>by
        rw [hFr];rcases List.mem_cons.1 hx with rfl | hx
        · simp
        · exact List.mem_cons_of_mem _ (hs3.subset hx)
      have hnr:=hR.nd i;rw [hFr] at hnr;refine ⟨v,F',b2::F3,I',he,hbel,k1,?_,?_,fun x hx=>?_,hR.imm0,fun x hx=>⟨?_,hR.imm x hx⟩⟩
      · simp only [T];exact ⟨b2,cs2,et,F3,rfl,fun k hk=>by cases hk;rfl,hh,rfl,hc3⟩
      · refine List.nodup_append.2 ⟨k2.nodup hnd,List.nodup_cons.2 ⟨fun hb=>(List.nodup_cons.1 hnr).1 (hs3.subset hb),hs3.nodup (List.nodup_cons.1 hnr).2⟩,fun x hx y hy hxy=>?_⟩;subst hxy;exact hFo x (k2.subset hx) i (hsub x hy)
      · rcases List.mem_append.1 hx with hx | hx
        · exact hF x (k2.subset hx)
        · exact hR.own i x (hsub x hx)
      · exact (hR.immN x hx)
    · exact hout.elim
def yUd (b:Nat) (cells':List D) (s:List D):Prop:=∃ (r:Nat) (d:D) (q:zB1) (b':Nat) (cs:List D),s[r]?=some d∧zAj d q=some (.box (some b') cs)∧b'=b∧leL (zAg (fun _=>false) cs) cells'
def leG (d:D) (b:Nat) (cells':List D):List D→List D→Prop:=fun ds s=>(one ds).le d∧yUd b cells' s
def ySk (rvs:List RV) (d:D) (b:Nat) (cells':List D):VExit→List D→Prop:=yOx rvs (leG d b cells')
theorem yHv {I:Nat→Prop} {w:World}:∀ (q:zB1) (d:D) {ρ:D→Value→Prop} {u:Value} {F:List Nat} {t:D},T I w d ρ u F→zAj d q=some t→∃ u' F' ρ',T I w t ρ' u' F'∧∃ A B,F=A++F'++B
  | [],d,ρ,u,F,t,h,ht=>by simp only [zAj,Option.some.injEq] at ht;subst ht;exact ⟨u,F,ρ,h,[],[],by simp⟩
  | (i,j)::q,d,ρ,u,F,t,h,ht=>by
    simp only [zAj] at ht;cases hd:d.cont with
    | none=>simp [hd] at ht
    | some x =>
    obtain ⟨sz,rows⟩:=x;simp only [hd] at ht;cases hi:rows[i]? with
    | none=>simp [hi] at ht
    | some row =>
    cases hj:row[j]? with
    | none=>simp [hi,hj] at ht
    | some c =>
    simp only [hi,hj] at ht;obtain ⟨b,o,u',A,F',B,hb,hcl,hF,⟨ρ',hT,_⟩,_⟩:=T.step h hd hi hj;obtain ⟨u2,F2,ρ2,h2,A2,B2,e⟩:=yHv q c hT ht;exact ⟨u2,F2,ρ2,h2,b::(A++A2),B2++B,by rw [hF,e];simp⟩
theorem zK2 {pt:Nat} {P:Program} {G:World→(Nat→Prop)→Prop} {f:FuncId} {fn:Func} {c:Code} {ms ms':List (List Bool)} {vc:VCode} {rvs:List RV} {args:List D} {d:D} {i:Nat} {cells cells' rest:List D} (hcl:yOs G) (hf:P.funcs[f]?=some fn) (hen:∀ (us:Array Value) (W:World),(callFunc f us).run P W=.ok (.enter f us) W) (hb:fn.body=some c)
    (hc:zDn P pt c ms=some (vc,ms')) (hr:zL2 P fn.results.toList=some rvs) (hi:i < args.length) (hfl:rest.all D.flatI=true) (hk:∀ b,vc.wp (CT P G) (ySk rvs d b cells') (args.set i (.agg (.box (some b) cells::rest))++List.replicate (fn.ntmps - args.length) .undef)):zB6 P G f i args (.agg (.box none cells::rest)) d (.agg (.box none cells'::rest)):=by
  refine ⟨hen,fun w I us u X hG hI hu hV hT hXn hX=>?_⟩;have hlen:us.length=args.length:=by have:=hV.len;simpa using this
  simp only [T,Cells] at hT;obtain ⟨uu,heu,u1,us',F1,F2,rfl,hF12,ho1,⟨b,cs,et,F',hub,_,hh,hFb,hcs⟩,hrest⟩:=hT;obtain ⟨rfl,hrest⟩:=zJo (ρ':=nil) hfl hrest;rw [List.append_nil] at hF12;subst hF12;have hTb:T I w (.agg (.box (some b) cells::rest)) nil u X:=by rw [heu];simp only [T,Cells];exact ⟨_,rfl,u1,us',X,[],rfl,by simp,ho1,⟨b,cs,et,F',hub,(fun k hk=>by cases hk;rfl),hh,hFb,hcs⟩,hrest⟩
  refine (zNp (I:=I) (X:=X) (us:=us) (Fs0:=fun r=>if r=i then X else []) (fun w' hb'=>hG.keep hcl fun b hb=>hb'.block b (fun hn=>hn.elim (fun h=>absurd (hI b hb) (by omega)) (fun h=>(hX b h).2 hb))) hf hb hc hr ?_ (hk b)).mono ?_
  · exact {
      below:=Base.Below.refl
      len:=by simp [hlen]
      slot:=by
        intro r d' v h1 h2;by_cases hri:r=i
        · subst hri;rw [List.getElem?_append_left (by simpa using hi),List.getElem?_set_self hi] at h1;cases h1;have:us[r]?=some v:=by rw [Array.getElem?_append_left (by simp;omega)] at h2;simpa using h2
          rw [hu] at this;cases this;simp only [if_true];exact hTb.res (fun _ _ h=>h.elim)
        · simp only [hri,if_false];rw [zIy hri] at h1;exact zF7 hV (by simpa using h1) h2
      nd:=fun r=>by split;exact hXn;exact List.nodup_nil
      disj:=fun r r' x h h'=>by
        split at h
        · split at h'
          · omega
          · cases h'
        · cases h
      own:=fun r x h=>by
        split at h
        · exact ⟨.inr h,(hX x h).1,(hX x h).2⟩
        · cases h
      imm:=hI
      imm0:=fun _ h=>h
      immN:=fun _ h=>.inl h }
  · rintro e w' ⟨v,ds,F,s2,Fs2,I',tm,he,⟨hle,r,D2,q,b',cs2,hs,htr,rfl,hlc⟩,hbel,hT,hnd,hF,hR,hFo⟩;obtain ⟨F',k1,k2⟩:=T.leF _ _ hT hle;obtain ⟨u2,hu2,hT2⟩:=hR.slot0 hs;obtain ⟨u3,F3,ρ3,hT3,A,B,hFr⟩:=yHv q D2 hT2 htr;simp only [T] at hT3;obtain ⟨b2,cs3,et3,F4,hub2,htg,hh2,hF4,hcs3⟩:=hT3;have hb2:=htg b' rfl;subst hb2;obtain ⟨F5,hc5,hs5⟩:=Cells.leF _ _ (Cells.turn (ρ':=nil) (fun x v hq _=>by cases hq) cs2 hcs3) hlc;have hsub:∀ x,x∈b2::F5→x∈Fs2 r:=fun x hx=>by
      rw [hFr,hF4];rcases List.mem_cons.1 hx with rfl | hx
      · simp
      · have:=hs5.subset hx;simp [this]
    have hnr:=hR.nd r;rw [hFr,hF4] at hnr;have hnr:=(List.nodup_append.1 (List.nodup_append.1 hnr).1).2.1;have hrk:∀ x,I x→w'.heap[x]?=w.heap[x]?:=fun x hx=>hbel.block x (fun hn=>hn.elim (fun h=>absurd (hI x hx) (by omega)) (fun h=>(hX x h).2 hx));have hrest':Cells I' w' rest nil us' []:=Cells.mono hR.imm0 rest (Cells.keep rest hrest (fun x hx=>hrk x (hx.resolve_right (by simp))));refine ⟨v,F',b2::F5,I',he,hbel,k1,?_,?_,fun x hx=>?_,hR.imm0,fun x hx=>⟨?_,hR.imm x hx⟩⟩
    · rw [heu];simp only [T,Cells];exact ⟨_,rfl,u1,us',b2::F5,[],rfl,by simp,ho1,⟨b2,cs3,et3,F5,hub,(fun k hk=>by cases hk),hh2,rfl,hc5⟩,hrest'⟩
    · refine List.nodup_append.2 ⟨k2.nodup hnd,List.nodup_cons.2 ⟨fun hb=>(List.nodup_cons.1 hnr).1 (hs5.subset hb),hs5.nodup (List.nodup_cons.1 hnr).2⟩,fun x hx y hy hxy=>?_⟩;subst hxy;exact hFo x (k2.subset hx) r (hsub x hy)
    · rcases List.mem_append.1 hx with hx | hx
      · exact hF x (k2.subset hx)
      · exact hR.own r x (hsub x hx)
    · exact (hR.immN x hx)
def yVq (i b:Nat) (cells':List D) (s:List D):Prop:=match s[i]? with
  | some (.fn _ [.box (some b') cs] [])=>b'=b∧leL (zAg (fun _=>false) cs) cells'
  | _=>False
def yQ0 (d:D) (i b:Nat) (cells':List D):List D→List D→Prop:=fun ds s=>(one ds).le d∧yVq i b cells' s
def ySi (rvs:List RV) (d:D) (i b:Nat) (cells':List D):VExit→List D→Prop:=yOx rvs (yQ0 d i b cells')
/-! A function whose result is a struct whose first cell is the address of a variable. -/
def rvP (x n:Nat) (s:List D) (K:D→List D→Prop):Prop:=match s[x]? with
  | some (.box _ (.ptr r [] 0 0::rest))=>rest.length+1=n∧r≠x∧rest.all D.flatI=true∧zCb ((zAg (zAh x) s).set x .undef) (.ptr r [] 0 0) (fun d' s'=>K (.agg (d'::rest)) s')
  | _=>False
def ySh (x n:Nat) (d:D):VExit→List D→Prop
  | .exit _,_=>False
  | _,s=>rvP x n s (fun d' _=>d'.le d)
theorem zOv {q:D→Bool}:∀ {ds:List D},ds.all D.flatI=true→zAg q ds=ds
  | [],_=>rfl
  | d::ds,h=>by simp only [List.all_cons,Bool.and_eq_true] at h;have:=zOv (q:=q) h.2;cases d <;> simp [D.flatI] at h <;> simp [zAg,D.prune,this]
theorem yT3 {P:Program} {w0:Base} {I0:Nat→Prop} {s:List D} {a:Act} {w:World} {I:Nat→Prop} {Fs:Nat→List Nat} (h:RelI w0 I0 s a.tmps w I Fs) {x n:Nat} {t:TypeId} {KK:D→List D→Prop} (hc:zL2 P [.cell x t]=some [.c x n true]) (hk:rvP x n s KK) :
    ∃ u d' s' Fs' F',(zZ5 a.tmps (.cell x t)).run P w=.ok u w∧KK d' s'∧RelI w0 I0 s' a.tmps w I Fs'∧T I w d' nil u F'∧Fresh w0 w I Fs' F':=by
  unfold rvP at hk;split at hk
  case h_2=>exact hk.elim
  rename_i tg r rest hs;obtain ⟨hlen,hrx,hfl,hk⟩:=hk;simp only [zL2] at hc;split at hc
  case h_2=>cases hc
  rename_i dd i hu hi;split at hc
  case isFalse=>split at hc <;> simp at hc
  rename_i hd;simp only [zL2,Option.map_some,Option.some.injEq,List.cons.injEq,RV.c.injEq,and_true,true_and] at hc;obtain ⟨u,hu',hT⟩:=h.slot0 hs;simp only [T] at hT;obtain ⟨b,cs,e,F',hub,_,hh,hFe,hcs⟩:=hT;have hf:=h.forget x;have hcl:=hcs.len;have hcs':Cells I w (zAg (zAh x) (.ptr r [] 0 0::rest)) (ρS ((zAg (zAh x) s).set x .undef) a.tmps w) cs.toList F':=Cells.turn (fun y v hq hy=>hy.forget x hq) _ hcs;have hpr:zAg (zAh x) (.ptr r [] 0 0::rest)=.ptr r [] 0 0::rest:=by simp [zAg,D.prune,zAh,hrx,zOv hfl]
  rw [hpr] at hcs';simp only [Cells] at hcs';obtain ⟨u1,us',F1,F2,e1,e2,ho1,hp1,hrest⟩:=hcs';obtain ⟨rfl,hrest'⟩:=zJo (ρ':=nil) hfl hrest;have hF1:F1=[]:=by simp only [T] at hp1;exact hp1.2
  subst hF1;obtain ⟨d',s',Fs',F'',k1,k2,k3,k4,k5,k6⟩:=zMg hf rfl hp1 ⟨List.nodup_nil,fun _ hb=>by cases hb⟩ hk;refine ⟨.agg cs,.agg (d'::rest),s',Fs',F'',?_,k1,k2,?_,k4⟩
  · have hg:a.tmps.getD x undef=u:=(by simp [hu']);show (do loadVar t (← asAddr (a.tmps.getD x undef)):Sem Value).run P w=_;rw [hg,hub];have hr:w.rangeAt b 0 cs.toList:=fun j v hj=>by rw [zB2 hh,Nat.zero_add];simpa using hj
    have:=zPq (P:=P) (n:=n) hu hd (by rw [hi];simp [hc]) (fun h=>by cases h) (us:=cs.toList) (by rw [hcl,← hlen];rfl) hr;simp only [Instr.loadAt,Instr.sureAddr] at this;simp only [asAddr];simpa using this
  · simp only [T,Cells];exact ⟨cs.toList,by simp,u1,us',F'',[],e1,by simp,ho1,k3,hrest'⟩
theorem zSd {pt:Nat} {P:Program} {G:World→(Nat→Prop)→Prop} {f:FuncId} {fn:Func} {c:Code} {ms ms':List (List Bool)} {vc:VCode} {x n:Nat} {t:TypeId} {args:List D} {d:D} (hcl:yOs G) (hf:P.funcs[f]?=some fn) (hen:∀ (us:Array Value) (W:World),(callFunc f us).run P W=.ok (.enter f us) W) (hb:fn.body=some c)
    (hc:zDn P pt c ms=some (vc,ms')) (hrs:fn.results.toList=[.cell x t]) (hr:zL2 P [.cell x t]=some [.c x n true]) (hk:vc.wp (CT P G) (ySh x n d) (args++List.replicate (fn.ntmps - args.length) .undef)):Contract P G f args d:=by
  refine ⟨hen,fun w I us hG hI hV=>?_⟩;have hlen:=hV.len;have hGk:∀ w',(ioB w []).Below w'→GI G w' I:=fun w' hb'=>hG.keep hcl fun b hb=>hb'.block b (fun hn=>hn.elim (fun h=>absurd (hI b hb) (by omega)) (fun h=>by cases h));refine calls_of_wp hf hb ?_;refine zFb hGk c ms ms' vc (ySh x n d) _ _ _ w hc hk ⟨rfl,I,fun _=>[],?_⟩ ?_
  · exact {
      below:=Base.Below.refl
      len:=by simp [hlen]
      slot:=fun r d' u h1 h2=>zF7 hV h1 h2
      nd:=fun _=>List.nodup_nil
      disj:=fun _ _ _ h=>by cases h
      own:=fun _ _ h=>by cases h
      imm:=hI
      imm0:=fun _ h=>h
      immN:=fun _ h=>.inl h }
  · intro e s a w' hq hr';obtain ⟨hd,I',Fs,hR⟩:=hr';have hq':rvP x n s (fun d' _=>d'.le d):=by cases e <;> first | exact hq | exact hq.elim
    have key:a.defers=[]∧∃ v,(results fn a.tmps).run P w'=.ok v w'∧∃ v' F I',Ending.returned v=.returned v'∧Below w.heap.size w w'∧T I' w' d nil v' F∧F.Nodup∧(∀ b,b∈F→w.heap.size≤b∧b < w'.heap.size∧¬ I' b)∧(∀ b,I b→I' b)∧∀ b,I' b→(I b∨w.heap.size≤b)∧b < w'.heap.size:=(by obtain ⟨u,d',s2,Fs2,F,m1,hle,m3,m4,m5⟩:=yT3 hR hr hq';have hrun:(results fn a.tmps).run P w'=.ok u w':=(by rw [zOk,Sem.run_bind,Array.mapM_eq_mapM_toList,Sem.run_map,hrs];simp [List.mapM_cons,Sem.run_bind,m1]);obtain ⟨F',k1,k2⟩:=T.leF _ _ m4 hle;have hN:∀ x,(ioB w []).N x→w.heap.size≤x:=fun x h=>h.elim id (fun h=>by cases h);have hbel:=hR.below;exact ⟨hd,u,hrun,u,F',I',rfl,⟨hbel.os,hbel.tape,hbel.output,hbel.size,fun k hk=>hbel.block k (fun h=>by have:=hN k h;omega)⟩,k1,k2.nodup m5.1,fun b hb=>⟨hN b (m5.2 b (k2.subset hb)).1,(m5.2 b (k2.subset hb)).2.1,(m5.2 b (k2.subset hb)).2.2.1⟩,hR.imm0,fun b hb=>⟨(hR.immN b hb).imp_right (hN b),hR.imm b hb⟩⟩);cases e with
    | normal=>exact key
    | ret=>exact key
    | exit id=>exact hq.elim
end Go.V
namespace Go.V
open Go.RowKit
/-! ### Code within a round, and behind one -/
def yUh (o:Oper):Bool:=match o.op with
  | .defer _=>false
  | _=>true
def yVb (T:List Nat) (o:Oper):Bool:=match o.dst with
  | some d=>T.contains d
  | none=>true
section
variable {P:Program} {ro:Option Nat} {n:Nat} {ds:List Deferred} {Q Q':Exit→Act→World→Prop}
end
end Go.V
namespace Go.V
open Go.RowKit
/-! ### States beside blocks that are nobody's -/
theorem RelI.other {w0:Base} {I0:Nat→Prop} {s:List D} {tm:Array Value} {w w':World} {I:Nat→Prop} {Fs:Nat→List Nat} (h:RelI w0 I0 s tm w I Fs) (hbel:w0.Below w') (hsz:w.heap.size≤w'.heap.size) (hk:∀ b,(I b∨∃ r,b∈Fs r)→w'.heap[b]?=w.heap[b]?):RelI w0 I0 s tm w' I Fs where
  below:=hbel
  len:=h.len
  slot:=by
    intro r d u h1 h2;refine (T.keep d (h.slot r d u h1 h2) (fun b hb'=>hk b (hb'.imp_right fun hb'=>⟨r,hb'⟩))).res (fun x v hx=>?_);cases x with
    | ref r' p=>obtain ⟨d',u0,t1,k1,k2,k3,ho,k4⟩:=hx;exact ⟨d',u0,t1,k1,k2,k3,ho,by rw [zB4 p d' (h.slot r' d' u0 k1 k2) k3 (fun b hb'=>hk b (.inr ⟨r',hb'⟩))];exact k4⟩
    | ptr r' p i j=>obtain ⟨d',u0,t',sz,rows,u1,b,o,k1,k2,k3,k4,k5,k6⟩:=hx;exact ⟨d',u0,t',sz,rows,u1,b,o,k1,k2,k3,k4,by rw [zB4 p d' (h.slot r' d' u0 k1 k2) k3 (fun b hb'=>hk b (.inr ⟨r',hb'⟩))];exact k5,k6⟩
    | sub r' p i n=>obtain ⟨d',u0,t',sz,rows,u1,b,o,cc,k1,k2,k3,k4,k5,k6⟩:=hx;exact ⟨d',u0,t',sz,rows,u1,b,o,cc,k1,k2,k3,k4,by rw [zB4 p d' (h.slot r' d' u0 k1 k2) k3 (fun b hb'=>hk b (.inr ⟨r',hb'⟩))];exact k5,k6⟩
    | _=>exact hx.elim
  nd:=h.nd
  disj:=h.disj
  own:=fun r b hb'=>⟨(h.own r b hb').1,Nat.lt_of_lt_of_le (h.own r b hb').2.1 hsz,(h.own r b hb').2.2⟩
  imm:=fun b hb'=>Nat.lt_of_lt_of_le (h.imm b hb') hsz
  imm0:=h.imm0
  immN:=h.immN
theorem RelI.base {w0 w1:Base} {I0 I1:Nat→Prop} {s:List D} {tm:Array Value} {w:World} {I:Nat→Prop} {Fs:Nat→List Nat} (h:RelI w0 I0 s tm w I Fs) (hbel:w1.Below w) (hN:∀ r b,b∈Fs r→w1.N b) (hI1:∀ b,I1 b→I b) (hI2:∀ b,I b→I1 b∨w1.N b):RelI w1 I1 s tm w I Fs where
  below:=hbel
  len:=h.len
  slot:=h.slot
  nd:=h.nd
  disj:=h.disj
  own:=fun r b hb'=>⟨hN r b hb',(h.own r b hb').2⟩
  imm:=h.imm
  imm0:=hI1
  immN:=hI2
theorem RelI.tmps {w0:Base} {I0:Nat→Prop} {s:List D} {tm tm':Array Value} {w:World} {I:Nat→Prop} {Fs:Nat→List Nat} (h:RelI w0 I0 s tm w I Fs) (hsz:tm'.size=tm.size) (hk:∀ (r:Nat) (d:D),s[r]?=some d→d=D.undef∨tm'[r]?=tm[r]?) (hF:∀ r:Nat,s[r]?=some D.undef→Fs r=[]):RelI w0 I0 s tm' w I Fs where
  below:=h.below
  len:=hsz.trans h.len
  slot := by
    have hk':∀ (r:Nat) (d:D) (u0:Value),s[r]?=some d→tm[r]?=some u0→d≠D.undef→tm'[r]?=some u0:=fun r d u0 h1 h2 hd=>by
      rcases hk r d h1 with h3 | h3
      · exact absurd h3 hd
      · rw [h3];exact h2
    intro r d u h1 h2;rcases hk r d h1 with rfl | h3
    · simp only [T];exact hF r h1
    · rw [h3] at h2;refine (h.slot r d u h1 h2).res (fun x v hx=>?_);cases x with
      | ref r' p =>
        obtain ⟨d',u0,t1,k1,k2,k3,ho,k4⟩:=hx;exact ⟨d',u0,t1,k1,hk' r' d' u0 k1 k2 (fun e=>by subst e;cases p with
          | nil=>simp only [zAj,Option.some.injEq] at k3;subst k3;cases ho
          | cons y p=>obtain ⟨i,j⟩:=y;simp [zAj,D.cont] at k3),k3,ho,k4⟩
      | ptr r' p i j=>obtain ⟨d',u0,t',sz,rows,u1,b,o,k1,k2,k3,k4,k5,k6⟩:=hx;exact ⟨d',u0,t',sz,rows,u1,b,o,k1,hk' r' d' u0 k1 k2 (fun e=>by subst e;exact zDc k3 k4 rfl),k3,k4,k5,k6⟩
      | sub r' p i n=>obtain ⟨d',u0,t',sz,rows,u1,b,o,cc,k1,k2,k3,k4,k5,k6⟩:=hx;exact ⟨d',u0,t',sz,rows,u1,b,o,cc,k1,hk' r' d' u0 k1 k2 (fun e=>by subst e;exact zDc k3 k4 rfl),k3,k4,k5,k6⟩
      | _=>exact hx.elim
  nd:=h.nd
  disj:=h.disj
  own:=h.own
  imm:=h.imm
  imm0:=h.imm0
  immN:=h.immN
/-! ### The state, with marks -/
end Go.V
namespace Go.V
open Go.RowKit
def okR (T:List Nat):Code→Bool
  | .skip=>true
  | .region _ ops _=>ops.toList.all fun o=>yUh o&&yVb T o
  | .seq a b=>okR T a&&okR T b
  | .cond _ a b=>okR T a&&okR T b
  | .block _ c=>okR T c
  | .loop c=>okR T c
  | .exit _=>true
  | .ret=>true
  | .rangeFunc _ _ _ _=>true
  | _=>false
section
variable (P:Program) (pt:Nat)
end
section
variable {P:Program} {G:World→(Nat→Prop)→Prop}
end
end Go.V
namespace Go.V
open Go.RowKit
section
variable {P:Program} {w0:Base} {I0:Nat→Prop} {s:List D} {a:Act} {w':World} {I':Nat→Prop} {Fs:Nat→List Nat}
end
end Go.V
namespace Go.V
open Go.RowKit
/-! ### The machine run by simp: every continuation is a constant applied, none a function written out -/
variable {Ctr:CtrT} {s:List D} {K:D→List D→Prop} {KK:List D→Prop} {os:List VO}
def yNp (Ctr:CtrT) (os:List VO) (KK:List D→Prop):List D→Prop:=fun s=>zIm Ctr s os KK
def yOv (dst:Option Nat) (K:List D→Prop):D→List D→Prop:=fun d s=>K (match dst with | some t=>zI3 s t d | none=>s)
def zFh (Ctr:CtrT) (dst:Option Nat) (want:Bool) (op:VOp) (d:D) (s:List D) (K:List D→Prop):Prop :=
  match d with
  | .v (.bool b)=>(b=want→zAn Ctr s op (yOv dst K))∧(b≠want→K (match dst with | some t=>zI3 s t (.v (.tuple #[])) | none=>s))
  | .v _=>K (match dst with | some t=>zI3 s t (.v (.tuple #[])) | none=>s)
  | _=>False
theorem yK3:zIm Ctr s [] KK=KK s:=rfl
theorem yFh {dst:Option Nat} {op:VOp}:zIm Ctr s (⟨dst,none,op⟩::os) KK=zAn Ctr s op (yOv dst (yNp Ctr os KK)):=rfl
theorem yAp {dst:Option Nat} {op:VOp} {g:Nat} {want:Bool}:zIm Ctr s (⟨dst,some (g,want),op⟩::os) KK=zFh Ctr dst want op (lkT s g) s (yNp Ctr os KK):=rfl
theorem yG8:yNp Ctr os KK s=zIm Ctr s os KK:=rfl
theorem yEw {t:Nat} {d:D}:yOv (some t) KK d s=KK (zI3 s t d):=rfl
theorem yEx {d:D}:yOv none KK d s=KK s:=rfl
theorem yGh {dst:Option Nat} {op:VOp}:zFh Ctr dst true op (.v (.bool true)) s KK=zAn Ctr s op (yOv dst KK):=by simp [zFh]
theorem yGk {dst:Option Nat} {op:VOp}:zFh Ctr dst false op (.v (.bool false)) s KK=zAn Ctr s op (yOv dst KK):=by simp [zFh]
theorem yGi {t:Nat} {op:VOp}:zFh Ctr (some t) true op (.v (.bool false)) s KK=KK (zI3 s t (.v (.tuple #[]))):=by simp [zFh]
theorem yGj {t:Nat} {op:VOp}:zFh Ctr (some t) false op (.v (.bool true)) s KK=KK (zI3 s t (.v (.tuple #[]))):=by simp [zFh]
theorem zXl {t:Nat} {op:VOp} {want:Bool}:zFh Ctr (some t) want op (.v (.tuple #[])) s KK=KK (zI3 s t (.v (.tuple #[]))):=by simp [zFh]
theorem zEa {dst:Option Nat} {op:VOp} {want b:Bool} {s:List D} {KK:List D→Prop} (h1:b=true→zFh Ctr dst want op (.v (.bool true)) s KK) (h2:b=false→zFh Ctr dst want op (.v (.bool false)) s KK):zFh Ctr dst want op (.v (.bool b)) s KK:=by
  cases b
  · exact h2 rfl
  · exact h1 rfl
/-! looking -/
def lkF (t:Nat):Option D→D
  | some (.sl true _ _)=>.ref t []
  | some (.mp _ _)=>.ref t []
  | some (.box _ _)=>.ptr t [] 0 0
  | some (.fn f a c)=>if zC9 a||zC9 c then yOw f a c else .fn f a c
  | some d=>if d.owny then .undef else d
  | none=>.undef
theorem yFc {f b cs}:yOw f [.box (some b) cs] []=.fn f [.v (.pointer (some ⟨b,0,none⟩))] []:=rfl
theorem yH9 {t:Nat}:lk s (.tmp t)=lkF t s[t]?:=by unfold lk lkT lkF;rfl
theorem yQm {t:Nat}:lkT s t=lkF t s[t]?:=by unfold lkT lkF;rfl
theorem yF0 {v:Value}:lk s (.const v)=ofV v:=rfl
theorem yLv {f:FuncId}:lk s (.func f)=.fn f [] []:=rfl
section
variable {t:Nat}
theorem yLz {sz rows}:lkF t (some (.sl true sz rows))=.ref t []:=rfl
theorem yL1 {sz rows}:lkF t (some (.sl false sz rows))=.sl false sz rows:=rfl
theorem yL2 {g cs}:lkF t (some (.box g cs))=.ptr t [] 0 0:=rfl
theorem yQn {k e}:lkF t (some (.mp k e))=.ref t []:=rfl
theorem yL0 {k e}:lkF t (some (.imp k e))=.imp k e:=rfl
theorem yUl {v}:lkF t (some (.v v))=.v v:=rfl
theorem yF1:lkF t (some .nils)=.nils:=rfl
theorem yBa:lkF t (some .undef)=.undef:=rfl
theorem yLx {r q}:lkF t (some (.ref r q))=.ref r q:=rfl
theorem yLw {r q i j}:lkF t (some (.sub r q i j))=.sub r q i j:=rfl
theorem yLy {r q i j}:lkF t (some (.ptr r q i j))=.ptr r q i j:=rfl
theorem yF2 {cs j}:lkF t (some (.iptr cs j))=.iptr cs j:=rfl
theorem yL3 {cs}:lkF t (some (.agg cs))=if zC9 cs then .undef else .agg cs:=rfl
theorem yQo {f a b}:lkF t (some (.fn f a b))=if zC9 a||zC9 b then yOw f a b else .fn f a b:=rfl
end
def yUb (t:Nat):Option D→D
  | some (.box _ _)=>.ptr t [] 0 0
  | some d=>d
  | none=>.undef
theorem yKx {t:Nat}:raw s (.tmp t)=yUb t s[t]?:=by unfold raw yUb;rfl
theorem yAa {v:Value}:raw s (.const v)=ofV v:=rfl
theorem yEv {f:FuncId}:raw s (.func f)=.fn f [] []:=rfl
def tkF (t:Nat) (s:List D):Option D→D × List D
  | some (.sl true sz rows)=>(.sl true sz rows,(zAg (zAh t) s).set t .undef)
  | some (.mp k e)=>(.mp k e,(zAg (zAh t) s).set t .undef)
  | some (.box _ _)=>(.ptr t [] 0 0,s)
  | some d=>(d,if d.owny then s.set t .undef else s)
  | none=>(.undef,s)
theorem yO8 {t:Nat}:tk s (.tmp t)=tkF t s s[t]?:=by unfold tk tkT tkF;rfl
theorem yO9 {t:Nat}:tkT s t=tkF t s s[t]?:=by unfold tkT tkF;rfl
theorem yDd {v:Value}:tk s (.const v)=(ofV v,s):=rfl
theorem yJa {f:FuncId}:tk s (.func f)=(.fn f [] [],s):=rfl
section
variable {t:Nat}
theorem yJg {sz rows}:tkF t s (some (.sl true sz rows))=(.sl true sz rows,(zAg (zAh t) s).set t .undef):=rfl
theorem yJi {sz rows}:tkF t s (some (.sl false sz rows))=(.sl false sz rows,s):=rfl
theorem yJj {g cs}:tkF t s (some (.box g cs))=(.ptr t [] 0 0,s):=rfl
theorem yPb {k e}:tkF t s (some (.mp k e))=(.mp k e,(zAg (zAh t) s).set t .undef):=rfl
theorem yJh {k e}:tkF t s (some (.imp k e))=(.imp k e,s):=rfl
theorem yTy {v}:tkF t s (some (.v v))=(.v v,s):=rfl
theorem yDf:tkF t s (some .nils)=(.nils,s):=rfl
theorem zYu:tkF t s (some .undef)=(.undef,s):=rfl
theorem yJe {r q}:tkF t s (some (.ref r q))=(.ref r q,s):=rfl
theorem yJd {r q i j}:tkF t s (some (.sub r q i j))=(.sub r q i j,s):=rfl
theorem yJf {r q i j}:tkF t s (some (.ptr r q i j))=(.ptr r q i j,s):=rfl
theorem yDg {cs j}:tkF t s (some (.iptr cs j))=(.iptr cs j,s):=rfl
theorem yJk {cs}:tkF t s (some (.agg cs))=(.agg cs,if zC9 cs then s.set t .undef else s):=rfl
theorem yJc {cs}:tkF t s (some (.tup cs))=(.tup cs,if zC9 cs then s.set t .undef else s):=rfl
theorem yPc {f a b}:tkF t s (some (.fn f a b))=(.fn f a b,if zC9 a||zC9 b then s.set t .undef else s):=rfl
end
theorem yJb:tkL s []=([],s):=rfl
theorem yDe {x:Operand} {xs:List Operand}:tkL s (x::xs)=((tk s x).1.prune (zF4 (tkL (tk s x).2 xs).2)::(tkL (tk s x).2 xs).1,(tkL (tk s x).2 xs).2):=rfl
def zRa (s:List D) (t:Nat) (d:D):Option D→List D
  | some (.sl true _ _)=>(zAg (zAh t) s).set t (d.prune (zAh t))
  | some (.mp _ _)=>(zAg (zAh t) s).set t (d.prune (zAh t))
  | some (.box _ _)=>(zAg (zAh t) s).set t (d.prune (zAh t))
  | _=>s.set t d
theorem yK0 {t:Nat} {d:D}:zI3 s t d=zRa s t d s[t]?:=by unfold zI3 zRa;rfl
section
variable {t:Nat} {d:D}
theorem yE2 {sz rows}:zRa s t d (some (.sl true sz rows))=(zAg (zAh t) s).set t (d.prune (zAh t)):=rfl
theorem yE5 {g cs}:zRa s t d (some (.box g cs))=(zAg (zAh t) s).set t (d.prune (zAh t)):=rfl
theorem yKy {k e}:zRa s t d (some (.mp k e))=(zAg (zAh t) s).set t (d.prune (zAh t)):=rfl
theorem yE3 {k e}:zRa s t d (some (.imp k e))=s.set t d:=rfl
theorem yE4 {sz rows}:zRa s t d (some (.sl false sz rows))=s.set t d:=rfl
theorem yP2 {v}:zRa s t d (some (.v v))=s.set t d:=rfl
theorem yAb:zRa s t d (some .nils)=s.set t d:=rfl
theorem zWr:zRa s t d (some .undef)=s.set t d:=rfl
theorem yE0 {r q}:zRa s t d (some (.ref r q))=s.set t d:=rfl
theorem yEz {r q i j}:zRa s t d (some (.sub r q i j))=s.set t d:=rfl
theorem yE1 {r q i j}:zRa s t d (some (.ptr r q i j))=s.set t d:=rfl
theorem yAc {cs j}:zRa s t d (some (.iptr cs j))=s.set t d:=rfl
theorem yE6 {cs}:zRa s t d (some (.agg cs))=s.set t d:=rfl
theorem yEy {cs}:zRa s t d (some (.tup cs))=s.set t d:=rfl
theorem yKz {f a b}:zRa s t d (some (.fn f a b))=s.set t d:=rfl
end
/-! the operations -/
def mvF (t:Nat) (s:List D) (K:D→List D→Prop):Option D→Prop
  | some (.tup vs)=>K (.tup vs) (if zC9 vs then s.set t .undef else s)
  | o=>K (lkF t o) s
theorem yK7 {t vs}:mvF t s K (some (.tup vs))=K (.tup vs) (if zC9 vs then s.set t .undef else s):=rfl
theorem yLb {t sz rows}:mvF t s K (some (.sl true sz rows))=K (.ref t []) s:=rfl
theorem yLd {t sz rows}:mvF t s K (some (.sl false sz rows))=K (.sl false sz rows) s:=rfl
theorem yLe {t g cs}:mvF t s K (some (.box g cs))=K (.ptr t [] 0 0) s:=rfl
theorem yQc {t k e}:mvF t s K (some (.mp k e))=K (.ref t []) s:=rfl
theorem yLc {t k e}:mvF t s K (some (.imp k e))=K (.imp k e) s:=rfl
theorem yUi {t v}:mvF t s K (some (.v v))=K (.v v) s:=rfl
theorem yFm {t}:mvF t s K (some .nils)=K .nils s:=rfl
theorem yAv {t}:mvF t s K (some .undef)=K .undef s:=rfl
theorem yK9 {t r q}:mvF t s K (some (.ref r q))=K (.ref r q) s:=rfl
theorem yK8 {t r q i j}:mvF t s K (some (.sub r q i j))=K (.sub r q i j) s:=rfl
theorem yLa {t r q i j}:mvF t s K (some (.ptr r q i j))=K (.ptr r q i j) s:=rfl
theorem yFn {t cs j}:mvF t s K (some (.iptr cs j))=K (.iptr cs j) s:=rfl
theorem yLf {t cs}:mvF t s K (some (.agg cs))=K (if zC9 cs then .undef else .agg cs) s:=rfl
theorem yQd {t f a b}:mvF t s K (some (.fn f a b))=K (if zC9 a||zC9 b then yOw f a b else .fn f a b) s:=rfl
theorem yRs {t}:zAn Ctr s (.mv (.tmp t)) K=mvF t s K s[t]?:=by
  show (match s[t]? with
    | some (.tup vs)=>K (.tup vs) (if zC9 vs then s.set t .undef else s)
    | _=>K (lk s (.tmp t)) s)=_
  rw [yH9];cases h:s[t]? with
  | none=>rfl
  | some d=>cases d <;> rfl
theorem yRu {v}:zAn Ctr s (.mv (.const v)) K=K (ofV v) s:=rfl
theorem yRt {f}:zAn Ctr s (.mv (.func f)) K=K (.fn f [] []) s:=rfl
def yP8 (p:D × List D) (K:D→List D→Prop):Prop:=K p.1 p.2
theorem yFa {d:D}:yP8 (d,s) K=K d s:=rfl
theorem ySa {x}:zAn Ctr s (.asg x) K=yP8 (tk s x) K:=rfl
def yFl (d:D) (s:List D) (K:D→List D→Prop):Prop:=match d with
  | .ptr r q i j=>K (.ptr r q i j) s
  | .iptr c j=>K (.iptr c j) s
  | .fn f a b=>K (.fn f a b) s
  | _=>False
theorem yMy {x}:zAn Ctr s (.nilc x) K=yFl (lk s x) s K:=rfl
theorem yFk {r q i j}:yFl (.ptr r q i j) s K=K (.ptr r q i j) s:=rfl
theorem yAu {c j}:yFl (.iptr c j) s K=K (.iptr c j) s:=rfl
theorem yK6 {f a b}:yFl (.fn f a b) s K=K (.fn f a b) s:=rfl
theorem yMx {c a b}:zAn Ctr s (.pick c a b) K=zMk (lk s c) (lk s a) (lk s b) s K:=rfl
theorem yP7 {t x y}:zMk (.v (.bool t)) (.v (.bool x)) (.v (.bool y)) s K=K (.v (.bool (if t then x else y))) s:=rfl
theorem yP5 {a b}:zMk (.v (.bool true)) a b s K=K a s:=by simp only [zMk];split <;> simp
theorem yP6 {a b}:zMk (.v (.bool false)) a b s K=K b s:=by simp only [zMk];split <;> simp
def zHf (op:BinOp) (x y:D) (s:List D) (K:D→List D→Prop):Prop:=match x,y with
  | .v (.int k a),.v (.int k' b)=>zNw op k a k' b (fun v=>K (.v v) s)
  | .v (.string a),.v (.string b)=>yJo op a b (fun v=>K (.v v) s)
  | _,_=>False
theorem yR8 {op x y}:zAn Ctr s (.bin op x y) K=zHf op (lk s x) (lk s y) s K:=rfl
section
variable {k:IntKind} {a b:Int} {x y:ByteArray}
theorem yOh:zHf .add (.v (.int k a)) (.v (.int k b)) s K=K (.v (.int k (k.wrap (a+b)))) s:=by simp [zHf,zNw]
theorem yN4:zHf .sub (.v (.int k a)) (.v (.int k b)) s K=K (.v (.int k (k.wrap (a - b)))) s:=by simp [zHf,zNw]
theorem yOa:zHf .mul (.v (.int k a)) (.v (.int k b)) s K=K (.v (.int k (k.wrap (a*b)))) s:=by simp [zHf,zNw]
theorem yN8:zHf .quo (.v (.int k a)) (.v (.int k b)) s K=(b≠0∧K (.v (.int k (k.wrap (a.tdiv b)))) s):=by simp [zHf,zNw]
theorem yN7:zHf .rem (.v (.int k a)) (.v (.int k b)) s K=(b≠0∧K (.v (.int k (a.tmod b))) s):=by simp [zHf,zNw]
theorem yOf:zHf .eql (.v (.int k a)) (.v (.int k b)) s K=K (.v (.bool (decide (a=b)))) s:=by simp [zHf,zNw]
theorem yN9:zHf .neq (.v (.int k a)) (.v (.int k b)) s K=K (.v (.bool (!decide (a=b)))) s:=by simp [zHf,zNw]
theorem yOb:zHf .lss (.v (.int k a)) (.v (.int k b)) s K=K (.v (.bool (decide (a < b)))) s:=by simp [zHf,zNw]
theorem yOc:zHf .leq (.v (.int k a)) (.v (.int k b)) s K=K (.v (.bool (decide (a≤b)))) s:=by simp [zHf,zNw]
theorem yOd:zHf .gtr (.v (.int k a)) (.v (.int k b)) s K=K (.v (.bool (decide (b < a)))) s:=by simp [zHf,zNw]
theorem yOe:zHf .geq (.v (.int k a)) (.v (.int k b)) s K=K (.v (.bool (decide (b≤a)))) s:=by simp [zHf,zNw]
theorem yN6 {k':IntKind}:zHf .shl (.v (.int k a)) (.v (.int k' b)) s K=(0≤b∧K (.v (.int k (k.wrap (a*2 ^ (min b.toNat k.bits))))) s):=by simp [zHf,zNw]
theorem yN5 {k':IntKind}:zHf .shr (.v (.int k a)) (.v (.int k' b)) s K=(0≤b∧K (.v (.int k (a.fdiv (2 ^ (min b.toNat k.bits))))) s):=by simp [zHf,zNw]
theorem yOg:zHf .and (.v (.int k a)) (.v (.int k b)) s K=K (.v (.int k (k.wrap ((BitVec.ofInt k.bits a &&& BitVec.ofInt k.bits b).toNat)))) s:=by simp [zHf,zNw]
theorem yS4:zHf .or (.v (.int k a)) (.v (.int k b)) s K=K (.v (.int k (k.wrap ((BitVec.ofInt k.bits a ||| BitVec.ofInt k.bits b).toNat)))) s:=by simp [zHf,zNw]
theorem yHm:zHf .add (.v (.string x)) (.v (.string y)) s K=(x.size+y.size≤maxLen∧K (.v (.string (x++y))) s):=rfl
theorem yHl:zHf .eql (.v (.string x)) (.v (.string y)) s K=K (.v (.bool (decide (x=y)))) s:=rfl
theorem yHj:zHf .neq (.v (.string x)) (.v (.string y)) s K=K (.v (.bool (!decide (x=y)))) s:=rfl
theorem yHk:zHf .lss (.v (.string x)) (.v (.string y)) s K=K (.v (.bool (Op.bytesLess x.toList y.toList))) s:=rfl
end
def yOk (neg:Bool) (x y:D) (s:List D) (K:D→List D→Prop):Prop:=match x,y with
  | .v (.bool a),.v (.bool b)=>K (.v (.bool (if neg then !(a==b) else a==b))) s
  | _,_=>False
theorem yM8 {neg x y}:zAn Ctr s (.binB neg x y) K=yOk neg (lk s x) (lk s y) s K:=rfl
theorem yOj {a b}:yOk false (.v (.bool a)) (.v (.bool b)) s K=K (.v (.bool (a==b))) s:=rfl
theorem yOi {a b}:yOk true (.v (.bool a)) (.v (.bool b)) s K=K (.v (.bool (!(a==b)))) s:=rfl
def unK (op:UnOp) (x:D) (s:List D) (K:D→List D→Prop):Prop:=match op,x with
  | .not,.v (.bool b)=>K (.v (.bool (!b))) s
  | .neg,.v (.int k n)=>K (.v (.int k (k.wrap (0 - n)))) s
  | _,_=>False
theorem yU5 {op x}:zAn Ctr s (.un op x) K=unK op (lk s x) s K:=rfl
theorem yO5 {b}:unK .not (.v (.bool b)) s K=K (.v (.bool (!b))) s:=rfl
theorem yO6 {k n}:unK .neg (.v (.int k n)) s K=K (.v (.int k (k.wrap (0 - n)))) s:=rfl
def ySp (k:IntKind) (x:D) (s:List D) (K:D→List D→Prop):Prop:=match x with
  | .v (.int _ n)=>K (.v (.int k (k.wrap n))) s
  | _=>False
theorem yM6 {k x}:zAn Ctr s (.conv k x) K=ySp k (lk s x) s K:=rfl
theorem yG7 {k k' n}:ySp k (.v (.int k' n)) s K=K (.v (.int k (k.wrap n))) s:=rfl
theorem yGw {z}:zAn Ctr s (.alloc z) K=K (.box none (z.map ofC)) s:=rfl
def yV9 (p:D × List D) (K:D→List D→Prop):Prop:=p.1.okCells=true∧K (.box none p.1.cells) p.2
theorem yR7 {x}:zAn Ctr s (.box x) K=yV9 (tk s x) K:=rfl
theorem yS0 {d:D}:yV9 (d,s) K=(d.okCells=true∧K (.box none d.cells) s):=rfl
def yIs (zero:List Value) (parts:List (Nat × Nat × Operand)) (p:List D × List D) (K:D→List D→Prop):Prop :=
  p.1.all D.okCells=true∧match zOd (parts.map fun p=>(p.1,p.2.1)) p.1 (zero.map ofC) with
    | some cells=>K (.agg cells) p.2
    | none=>False
theorem yGv {zero parts}:zAn Ctr s (.build zero parts) K=yIs zero parts (tkL s (parts.map (·.2.2))) K:=rfl
def yCi (o:Option (List D)) (s:List D) (K:D→List D→Prop):Prop:=match o with
  | some cells=>K (.agg cells) s
  | none=>False
theorem yHh {zero parts} {ds:List D}:yIs zero parts (ds,s) K=(ds.all D.okCells=true∧yCi (zOd (parts.map fun p=>(p.1,p.2.1)) ds (zero.map ofC)) s K):=rfl
theorem zUa {cells}:yCi (some cells) s K=K (.agg cells) s:=rfl
def yV8 (sz n:Nat) (p:List D × List D) (K:D→List D→Prop):Prop :=
  p.1.all (fun d=>d.okCells&&d.cells.length==sz)=true∧zCi (p.1.flatMap D.cells)=true∧zDg p.2 (p.1.flatMap D.cells) (fun cs s'=>K (.sl true sz (zGu sz n cs)) s')
theorem yR6 {sz parts}:zAn Ctr s (.bsl sz parts) K=yV8 sz parts.length (tkL s parts) K:=rfl
def yIl (sz n:Nat) (K:D→List D→Prop):List D→List D→Prop:=fun cs s'=>K (.sl true sz (zGu sz n cs)) s'
theorem yCa {sz n cs}:yIl sz n K cs s=K (.sl true sz (zGu sz n cs)) s:=rfl
theorem ySy {sz n} {ds:List D}:yV8 sz n (ds,s) K=(ds.all (fun d=>d.okCells&&d.cells.length==sz)=true∧zCi (ds.flatMap D.cells)=true∧zDg s (ds.flatMap D.cells) (yIl sz n K)):=rfl
variable {KL:List D→List D→Prop}
def zLo (d:D) (KL:List D→List D→Prop):List D→List D→Prop:=fun ds s=>KL (d::ds) s
theorem yG9 {d:D} {ds:List D}:zLo d KL ds s=KL (d::ds) s:=rfl
def yVp (ds:List D) (KL:List D→List D→Prop):D→List D→Prop:=fun d s=>zDg s ds (zLo d KL)
theorem yEp {ds:List D} {d:D}:yVp ds KL d s=zDg s ds (zLo d KL):=rfl
theorem yKs:zDg s [] KL=KL [] s:=rfl
theorem yKr {r q} {ds:List D}:zDg s (.ref r q::ds) KL=zDd s r q (yVp ds KL):=by simp only [zDg];rfl
def yT0 (i n:Nat) (ds:List D) (KL:List D→List D→Prop):D→List D→Prop:=fun d s=>match d with
  | .sl true sz rows=>i+n≤rows.length∧zDg s ds (zLo (.sl true sz ((rows.drop i).take n)) KL)
  | _=>False
theorem yJn {i n} {ds:List D} {sz rows}:yT0 i n ds KL (.sl true sz rows) s=(i+n≤rows.length∧zDg s ds (zLo (.sl true sz ((rows.drop i).take n)) KL)):=rfl
theorem yKq {r q i n} {ds:List D} (h:0 < n):zDg s (.sub r q i n::ds) KL=zDd s r q (yT0 i n ds KL):=by simp only [zDg];exact propext ⟨fun h1=>h1.elim (fun h2=>h2.2) (fun h2=>absurd h2.1 (by omega)),fun h1=>.inl ⟨.inl h,h1⟩⟩
theorem yEl {r q n} {ds:List D}:zDg s (.sub r q 0 n::ds) KL=zDd s r q (yT0 0 n ds KL):=by simp only [zDg];exact propext ⟨fun h1=>h1.elim (fun h2=>h2.2) (fun h2=>absurd rfl h2.2.1),fun h1=>.inl ⟨.inr trivial,h1⟩⟩
theorem yEm {r q i} {ds:List D} (h:i≠0):zDg s (.sub r q i 0::ds) KL=∃ sz,zDg s ds (zLo (.sl false sz []) KL):=by simp only [zDg];exact propext ⟨fun h1=>h1.elim (fun h2=>absurd h2.1 (by omega)) (fun h2=>h2.2.2),fun h1=>.inr ⟨trivial,h,h1⟩⟩
theorem zZ4 {ds:List D}:zDg s (.undef::ds) KL=zDg s ds (zLo .undef KL):=by simp only [zDg,D.leaf,true_and];rfl
theorem yEn {ds:List D}:zDg s (.nils::ds) KL=zDg s ds (zLo .nils KL):=by simp only [zDg,D.leaf,true_and];rfl
theorem yT7 {v} {ds:List D}:zDg s (.v v::ds) KL=zDg s ds (zLo (.v v) KL):=by simp only [zDg,D.leaf,true_and];rfl
theorem yPu {o sz rows} {ds:List D}:zDg s (.sl o sz rows::ds) KL=zDg s ds (zLo (.sl o sz rows) KL):=by simp only [zDg,D.leaf,true_and];rfl
def zUj (r:Nat) (q:zB1) (s:List D) (d:D) (o:Option D) (K:D→List D→Prop):Prop:=match o with
  | some (.sl true sz rows)=>K (.sl true sz rows) ((zAg (zAi r q) s).set r (setAt (d.prune (zAi r q)) q .undef))
  | some (.mp k e)=>K (.mp k e) ((zAg (zAi r q) s).set r (setAt (d.prune (zAi r q)) q .undef))
  | _=>False
def zY1 (r:Nat) (q:zB1) (s:List D) (o:Option D) (K:D→List D→Prop):Prop:=match o with
  | some d=>zUj r q s d (zAj d q) K
  | none=>False
theorem yDp {r q}:zDd s r q K=zY1 r q s s[r]? K:=by unfold zDd zY1;cases s[r]? <;> rfl
theorem zSw {r q d}:zY1 r q s (some d) K=zUj r q s d (zAj d q) K:=rfl
theorem zY2 {r q d k e}:zUj r q s d (some (.mp k e)) K=K (.mp k e) ((zAg (zAi r q) s).set r (setAt (d.prune (zAi r q)) q .undef)):=rfl
theorem yPv {k e} {ds:List D}:zDg s (.mp k e::ds) KL=zDg s ds (zLo (.mp k e) KL):=by simp only [zDg,D.leaf,true_and];rfl
theorem yEo {c j} {ds:List D}:zDg s (.iptr c j::ds) KL=zDg s ds (zLo (.iptr c j) KL):=by simp only [zDg,D.leaf,true_and];rfl
theorem zSx {r q d sz rows}:zUj r q s d (some (.sl true sz rows)) K=K (.sl true sz rows) ((zAg (zAi r q) s).set r (setAt (d.prune (zAi r q)) q .undef)):=rfl
end Go.V
namespace Go.V
open Go.RowKit
variable {Ctr:CtrT} {s:List D} {K:D→List D→Prop} {KK:List D→Prop} {os:List VO}
def yA9 (n:Nat) (agg:Bool) (r:Nat) (q:zB1) (i j:Nat) (o:Option (List D)) (s:List D) (K:D→List D→Prop):Prop:=match o with
  | some row=>j+n≤row.length∧K (zEk agg (zIf r q i j ((row.drop j).take n))) s
  | none=>False
def yLu (n:Nat) (agg:Bool) (a:D) (s:List D) (K:D→List D→Prop):Prop:=match a with
  | .ptr r q i j=>yA9 n agg r q i j (rowAt s r q i) s K
  | .iptr cells j=>j+n≤cells.length∧K (zEk agg ((cells.drop j).take n)) s
  | _=>False
theorem yM3 {n agg a}:zAn Ctr s (.load n agg a) K=yLu n agg (lk s a) s K:=rfl
theorem yFz {n agg r q i j}:yLu n agg (.ptr r q i j) s K=yA9 n agg r q i j (rowAt s r q i) s K:=rfl
theorem yA8 {n agg cells j}:yLu n agg (.iptr cells j) s K=(j+n≤cells.length∧K (zEk agg ((cells.drop j).take n)) s):=rfl
theorem zW8 {n agg r q i j row}:yA9 n agg r q i j (some row) s K=(j+n≤row.length∧K (zEk agg (zIf r q i j ((row.drop j).take n))) s):=rfl
def yG1 (K:D→List D→Prop):List D→Prop:=fun s=>K .undef s
theorem yNg:yG1 K s=K .undef s:=rfl
def yT5 (r:Nat) (q:zB1) (i j:Nat) (K:D→List D→Prop):List D→List D→Prop:=fun cs s'=>zJe s' r q=false∧zWi r q i s' j cs (yG1 K)
theorem yKi {r q i j cs}:yT5 r q i j K cs s=(zJe s r q=false∧zWi r q i s j cs (yG1 K)):=rfl
def yKk (r i n j:Nat) (K:D→List D→Prop):List D→List D→Prop:=fun cs s'=>cs.length=n∧setB r i n s' j cs (yG1 K)
theorem zZ1 {r i n j cs}:yKk r i n j K cs s=(cs.length=n∧setB r i n s j cs (yG1 K)):=rfl
def zPc (r:Nat) (q:zB1) (i n j:Nat) (cs:List D) (b:Bool) (s:List D) (K:D→List D→Prop):Prop :=
  if b then q=[]∧(if zWo r cs then zCi cs=true∧cs.all (zI5 (.ptr r q i j))=true∧zDg s cs (fun cs s'=>cs.length=n∧setB r i n s' j cs (yG1 K)) else setB r i n s j cs (yG1 K)) else zCi cs=true∧cs.all (zI5 (.ptr r q i j))=true∧zDg s cs (yT5 r q i j K)
def zSv (n:Nat) (d:D) (a:D) (s:List D) (K:D→List D→Prop):Prop:=match a with
  | .ptr r q i j=>d.okCells=true∧d.cells.length=n∧zPc r q i n j d.cells (zJe s r q) s K
  | _=>False
def yHw (n:Nat) (a:Operand) (p:D × List D) (K:D→List D→Prop):Prop:=zSv n p.1 (lk p.2 a) p.2 K
theorem yGt {n a x}:zAn Ctr s (.store n a x) K=yHw n a (tk s x) K:=rfl
theorem yDj {n a} {d:D}:yHw n a (d,s) K=zSv n d (lk s a) s K:=rfl
theorem zV8 {n r q i j} {d:D}:zSv n d (.ptr r q i j) s K=(d.okCells=true∧d.cells.length=n∧zPc r q i n j d.cells (zJe s r q) s K):=rfl
def yKe (r i n j:Nat) (q:zB1) (cs:List D) (b:Bool) (s:List D) (K:D→List D→Prop):Prop:=if b then zCi cs=true∧cs.all (zI5 (.ptr r q i j))=true∧zDg s cs (yKk r i n j K) else setB r i n s j cs (yG1 K)
theorem yDk {r q i n j cs}:zPc r q i n j cs true s K=(q=[]∧yKe r i n j q cs (zWo r cs) s K):=rfl
theorem yKd {r i n j q cs}:yKe r i n j q cs false s K=setB r i n s j cs (yG1 K):=rfl
theorem yKc {r i n j q cs}:yKe r i n j q cs true s K=(zCi cs=true∧cs.all (zI5 (.ptr r q i j))=true∧zDg s cs (yKk r i n j K)):=rfl
theorem yDl {r q i n j cs}:zPc r q i n j cs false s K=(zCi cs=true∧cs.all (zI5 (.ptr r q i j))=true∧zDg s cs (yT5 r q i j K)):=rfl
variable {KQ:List D→(D→Bool)→Prop}
def yEd (r:Nat) (p:zB1) (c:D) (s:List D) (d:D) (o:Option D) (KQ:List D→(D→Bool)→Prop):Prop:=match o with
  | some old=>match old.cont with
    | some _=>KQ ((zAg (zAi r p) s).set r (setAt (d.prune (zAi r p)) p (c.prune (zAi r p)))) (zAi r p)
    | none=>KQ (s.set r (setAt d p c)) (fun _=>true)
  | none=>False
def yKb (r:Nat) (p:zB1) (c:D) (s:List D) (o:Option D) (KQ:List D→(D→Bool)→Prop):Prop:=match o with
  | some d=>yEd r p c s d (zAj d p) KQ
  | none=>False
theorem yJ8 {r p c}:zZq s r p c KQ=yKb r p c s s[r]? KQ:=by unfold zZq yKb;cases s[r]? <;> rfl
theorem zWm {r p c d}:yKb r p c s (some d) KQ=yEd r p c s d (zAj d p) KQ:=rfl
def yVf:D→Bool:=fun _=>true
def yEc (r:Nat) (p:zB1) (c:D) (s:List D) (d:D) (own:Bool) (KQ:List D→(D→Bool)→Prop):Prop :=
  if own then KQ ((zAg (zAi r p) s).set r (setAt (d.prune (zAi r p)) p (c.prune (zAi r p)))) (zAi r p) else KQ (s.set r (setAt d p c)) yVf
theorem zWl {r p c d old}:yEd r p c s d (some old) KQ=yEc r p c s d old.cont.isSome KQ:=by unfold yEd yEc;cases h:old.cont <;> simp [h] <;> rfl
theorem yKa {r p c d}:yEc r p c s d false KQ=KQ (s.set r (setAt d p c)) yVf:=rfl
theorem yJ9 {r p c d}:yEc r p c s d true KQ=KQ ((zAg (zAi r p) s).set r (setAt (d.prune (zAi r p)) p (c.prune (zAi r p)))) (zAi r p):=rfl
def bK (r i n j:Nat) (cs:List D) (KK:List D→Prop):List D→(D→Bool)→Prop:=fun s' q=>setB r i n s' j (zAg q cs) KK
theorem yS6 {r i n j cs}:bK r i n j cs KK s yVf=setB r i n s j cs KK:=by show setB r i n s j (zAg (fun _=>true) cs) KK=_;rw [zB7]
theorem yS5 {r i n j cs r' p'}:bK r i n j cs KK s (zAi r' p')=setB r i n s j (zAg (zAi r' p') cs) KK:=rfl
theorem yEe {r i n j}:setB r i n s j [] KK=KK s:=by cases n <;> rfl
theorem zZr {r i n j c cs}:setB r i (n+1) s j (c::cs) KK=(zJe s r []=true∧zZq s r [(i,j)] c (bK r i n (j+1) cs KK)):=rfl
def rK (r:Nat) (q:zB1) (i j:Nat) (cs:List D) (KK:List D→Prop):List D→(D→Bool)→Prop:=fun s' _=>zWi r q i s' j cs KK
theorem yPz {r q i j cs f}:rK r q i j cs KK s f=zWi r q i s j cs KK:=rfl
theorem yEa {r q i j}:zWi r q i s j [] KK=KK s:=rfl
theorem zZp {r q i j c cs}:zWi r q i s j (c::cs) KK=(c.leaf=true∧zZq s r (q++[(i,j)]) c (rK r q i (j+1) cs KK)):=rfl
def zOp (q:zB1):Option D→Bool
  | some d=>match zAj d q with
    | some (.box _ _)=>true
    | _=>false
  | none=>false
theorem yGb {r q}:zJe s r q=zOp q s[r]?:=by unfold zJe zOp;rfl
theorem zXe {g cs}:zOp [] (some (.box g cs))=true:=rfl
theorem yBn {sz rows}:zOp [] (some (.sl true sz rows))=false:=rfl
def yOu (q:zB1) (i:Nat):Option D→Option (List D)
  | some d=>match zAj d q with
    | some t=>match t.cont with
      | some (_,rows)=>rows[i]?
      | none=>none
    | none=>none
  | none=>none
theorem yEk {r q i}:rowAt s r q i=yOu q i s[r]?:=by unfold rowAt yOu;rfl
theorem yEj {g cs}:yOu [] 0 (some (.box g cs))=some cs:=rfl
theorem yKj {i sz rows}:yOu [] i (some (.sl true sz rows))=rows[i]?:=rfl
def faK (off:Nat) (x:D) (s:List D) (K:D→List D→Prop):Prop:=match x with
  | .ptr r q i j=>K (.ptr r q i (j+off)) s
  | .iptr c j=>K (.iptr c (j+off)) s
  | _=>False
theorem yU8 {off x}:zAn Ctr s (.fa off x) K=faK off (lk s x) s K:=rfl
theorem yRo {off r q i j}:faK off (.ptr r q i j) s K=K (.ptr r q i (j+off)) s:=rfl
theorem yMs {off c j}:faK off (.iptr c j) s K=K (.iptr c (j+off)) s:=rfl
def yV0 (off n:Nat) (agg:Bool) (x:D) (s:List D) (K:D→List D→Prop):Prop:=match x with
  | .agg cs=>off+n≤cs.length∧K (zEk agg ((cs.drop off).take n)) s
  | _=>False
theorem yR3 {off n agg x}:zAn Ctr s (.fld off n agg x) K=yV0 off n agg (lk s x) s K:=rfl
theorem yMq {off n agg cs}:yV0 off n agg (.agg cs) s K=(off+n≤cs.length∧K (zEk agg ((cs.drop off).take n)) s):=rfl
def yUt (sz:Nat) (n:Int) (r:Nat) (q:zB1) (o:Option (Nat × List (List D))) (s:List D) (K:D→List D→Prop):Prop:=match o with
  | some (sz',rows)=>0≤n∧n < rows.length∧sz'=sz∧K (.ptr r q n.toNat 0) s
  | none=>False
def iaK (sz:Nat) (i x:D) (s:List D) (K:D→List D→Prop):Prop:=match i,x with
  | .v (.int _ n),.ref r q=>yUt sz n r q (zEh s (.ref r q)) s K
  | .v (.int _ n),.sl false sz' rows=>0≤n∧n < rows.length∧sz'=sz∧∃ row,rows[n.toNat]?=some row∧K (.iptr row 0) s
  | _,_=>False
theorem yU7 {sz x i}:zAn Ctr s (.ia sz x i) K=iaK sz (lk s i) (lk s x) s K:=rfl
theorem yQ7 {sz k n r q}:iaK sz (.v (.int k n)) (.ref r q) s K=yUt sz n r q (zEh s (.ref r q)) s K:=rfl
theorem yUs {sz k n sz' rows}:iaK sz (.v (.int k n)) (.sl false sz' rows) s K=(0≤n∧n < rows.length∧sz'=sz∧∃ row,rows[n.toNat]?=some row∧K (.iptr row 0) s):=rfl
theorem yGd {sz n r q sz' rows}:yUt sz n r q (some (sz',rows)) s K=(0≤n∧n < rows.length∧sz'=sz∧K (.ptr r q n.toNat 0) s):=rfl
def slF (q:zB1):Option D→Option (Nat × List (List D))
  | some d=>match zAj d q with
    | some (.sl true sz rows)=>some (sz,rows)
    | _=>none
  | none=>none
theorem yDu {r q}:zEh s (.ref r q)=slF q s[r]?:=by unfold zEh slF;rfl
theorem yJt {o sz rows}:zEh s (.sl o sz rows)=some (sz,rows):=rfl
theorem zZa:zEh s .nils=some (0,[]):=rfl
theorem yPm {sz rows}:slF [] (some (.sl true sz rows))=some (sz,rows):=rfl
def yUr (len sz:Nat) (i x:D) (s:List D) (K:D→List D→Prop):Prop:=match i,x with
  | .v (.int _ n),.ptr r q i j=>0≤n∧n < len∧K (.ptr r q i (j+n.toNat*sz)) s
  | .v (.int _ n),.iptr c j=>0≤n∧n < len∧K (.iptr c (j+n.toNat*sz)) s
  | _,_=>False
theorem yR2 {len sz x i}:zAn Ctr s (.iaa len sz x i) K=yUr len sz (lk s i) (lk s x) s K:=rfl
theorem yMf {len sz k n r q i j}:yUr len sz (.v (.int k n)) (.ptr r q i j) s K=(0≤n∧n < len∧K (.ptr r q i (j+n.toNat*sz)) s):=rfl
theorem yGc {len sz k n c j}:yUr len sz (.v (.int k n)) (.iptr c j) s K=(0≤n∧n < len∧K (.iptr c (j+n.toNat*sz)) s):=rfl
def yVx (i x:D) (s:List D) (K:D→List D→Prop):Prop:=match i,x with
  | .v (.int _ n),.v (.string b)=>0≤n∧∃ c,b[n.toNat]?=some c∧K (.v (.int .u8 (c.toNat:Int))) s
  | _,_=>False
theorem yR0 {x i}:zAn Ctr s (.ixs x i) K=yVx (lk s i) (lk s x) s K:=rfl
theorem yUq {k n b}:yVx (.v (.int k n)) (.v (.string b)) s K=(0≤n∧∃ c,b[n.toNat]?=some c∧K (.v (.int .u8 (c.toNat:Int))) s):=rfl
def yVy (len sz:Nat) (agg:Bool) (i x:D) (s:List D) (K:D→List D→Prop):Prop:=match i,x with
  | .v (.int _ n),.agg cs=>0≤n∧n < len∧len*sz≤cs.length∧K (zEk agg ((cs.drop (n.toNat*sz)).take sz)) s
  | _,_=>False
theorem yR1 {len sz agg x i}:zAn Ctr s (.ixa len sz agg x i) K=yVy len sz agg (lk s i) (lk s x) s K:=rfl
theorem yMd {len sz agg k n cs}:yVy len sz agg (.v (.int k n)) (.agg cs) s K=(0≤n∧n < len∧len*sz≤cs.length∧K (zEk agg ((cs.drop (n.toNat*sz)).take sz)) s):=rfl
theorem yMw {x lo hi}:zAn Ctr s (.slcS x lo hi) K=zS0 (lk s x) (zQm s lo 0) (zQm s hi (zWb (lk s x))) s K:=rfl
theorem yPk {b k l k' h}:zS0 (.v (.string b)) (.v (.int k l)) (.v (.int k' h)) s K=(0≤l∧l≤h∧h≤b.size∧K (.v (.string (b.extract l.toNat h.toNat))) s):=rfl
theorem yRr {sz x lo hi mx}:zAn Ctr s (.slc sz x lo hi mx) K=yDr sz (lk s x) (zQm s lo 0) (zQm s hi (zMd s (lk s x))) (zQm s mx (zMd s (lk s x))) s K:=rfl
theorem yDv {o sz rows}:zMd s (.sl o sz rows)=rows.length:=rfl
theorem zZb {r q i n}:zMd s (.sub r q i n)=n:=rfl
def yPn:Option (Nat × List (List D))→Nat
  | some (_,rows)=>rows.length
  | none=>0
theorem zZc {r q}:zMd s (.ref r q)=yPn (zEh s (.ref r q)):=rfl
theorem zWa {sz rows}:yPn (some (sz,rows))=rows.length:=rfl
def yVl (sz:Nat) (r:Nat) (q:zB1) (l h m:Int) (o:Option (Nat × List (List D))) (s:List D) (K:D→List D→Prop):Prop:=match o with
  | some (sz',rows)=>0≤l∧l≤h∧h≤rows.length∧sz'=sz∧h≤m∧m≤rows.length∧K (.sub r q l.toNat (h.toNat - l.toNat)) s
  | none=>False
def yVm (sz:Nat) (r:Nat) (q:zB1) (i n:Nat) (l h m:Int) (o:Option (Nat × List (List D))) (s:List D) (K:D→List D→Prop):Prop:=match o with
  | some (sz',rows)=>0≤l∧l≤h∧h≤n∧sz'=sz∧h≤m∧m≤n∧K (.sub r q (i+l.toNat) (h.toNat - l.toNat)) s
  | none=>False
theorem yJs {sz r q k l k' h k'' m}:yDr sz (.ref r q) (.v (.int k l)) (.v (.int k' h)) (.v (.int k'' m)) s K=yVl sz r q l h m (zEh s (.ref r q)) s K:=rfl
theorem yDq {sz r q i n k l k' h k'' m}:yDr sz (.sub r q i n) (.v (.int k l)) (.v (.int k' h)) (.v (.int k'' m)) s K=yVm sz r q i n l h m (zEh s (.sub r q i n)) s K:=rfl
theorem zY6 {sz r q l h m sz' rows}:yVl sz r q l h m (some (sz',rows)) s K=(0≤l∧l≤h∧h≤rows.length∧sz'=sz∧h≤m∧m≤rows.length∧K (.sub r q l.toNat (h.toNat - l.toNat)) s):=rfl
theorem zY8 {sz r q i n l h m sz' rows}:yVm sz r q i n l h m (some (sz',rows)) s K=(0≤l∧l≤h∧h≤n∧sz'=sz∧h≤m∧m≤n∧K (.sub r q (i+l.toNat) (h.toNat - l.toNat)) s):=rfl
def yVk (i n:Nat):Option (Nat × List (List D))→Option (Nat × List (List D))
  | some (sz,rows)=>if i+n≤rows.length then some (sz,(rows.drop i).take n) else none
  | none=>none
theorem yDt {r q i n}:zEh s (.sub r q i n)=yVk i n (zEh s (.ref r q)):=by
  simp only [zEh];cases s[r]? with
  | none=>rfl
  | some d =>
    simp only;cases zAj d q with
    | none=>rfl
    | some t=>cases t <;> first | rfl | (rename_i o _ _;cases o <;> rfl)
theorem zYx {i n sz rows}:yVk i n (some (sz,rows))=if i+n≤rows.length then some (sz,(rows.drop i).take n) else none:=rfl
theorem yPj {sz sz' rows k l k' h k'' m}:yDr sz (.sl false sz' rows) (.v (.int k l)) (.v (.int k' h)) (.v (.int k'' m)) s K=(0≤l∧l≤h∧h≤rows.length∧sz'=sz∧h≤m∧m≤rows.length∧K (.sl false sz ((rows.drop l.toNat).take (h.toNat - l.toNat))) s):=rfl
theorem yFg {n}:zQm s none n=.v (.int .i64 n):=rfl
theorem yFf {x n}:zQm s (some x) n=lk s x:=rfl
def yMu (t i:Nat) (vs:List D) (o:Option D) (s:List D) (K:D→List D→Prop):Prop:=match o with
  | some d=>K d (if d.owny then s.set t (.tup (vs.set i .undef)) else s)
  | none=>False
def yV1 (t i:Nat) (o:Option D) (s:List D) (K:D→List D→Prop):Prop:=match o with
  | some (.tup vs)=>yMu t i vs vs[i]? s K
  | _=>False
theorem yR4 {t i}:zAn Ctr s (.ext (.tmp t) i) K=yV1 t i s[t]? s K:=rfl
theorem yMt {t i vs}:yV1 t i (some (.tup vs)) s K=yMu t i vs vs[i]? s K:=rfl
theorem yB5 {t i vs d}:yMu t i vs (some d) s K=K d (if d.owny then s.set t (.tup (vs.set i .undef)) else s):=rfl
def yVw (o:Option (Nat × List (List D))) (s:List D) (K:D→List D→Prop):Prop:=match o with
  | some (_,rows)=>K (.v (.int .i64 (rows.length:Int))) s
  | none=>False
theorem yRz {x}:zAn Ctr s (.len x) K=yVw (zEh s (lk s x)) s K:=rfl
theorem yF5 {sz rows}:yVw (some (sz,rows)) s K=K (.v (.int .i64 (rows.length:Int))) s:=rfl
def yQw (x:D) (s:List D) (K:D→List D→Prop):Prop:=match x with
  | .v (.string b)=>K (.v (.int .i64 (b.size:Int))) s
  | _=>False
theorem yM4 {x}:zAn Ctr s (.lenS x) K=yQw (lk s x) s K:=rfl
theorem yQv {b}:yQw (.v (.string b)) s K=K (.v (.int .i64 (b.size:Int))) s:=rfl
def mmK (mx:Bool) (x y:D) (s:List D) (K:D→List D→Prop):Prop:=match x,y with
  | .v (.int k a),.v (.int k' b)=>k=k'∧K (.v (.int k (if mx then (if b > a then b else a) else (if b < a then b else a)))) s
  | _,_=>False
theorem yU6 {mx x y}:zAn Ctr s (.mm mx [x,y]) K=mmK mx (lk s x) (lk s y) s K:=by
  simp only [zAn,List.map_cons,List.map_nil,mmK];split
  · rename_i h;simp only [List.cons.injEq,and_true] at h;rw [h.1,h.2]
  · rename_i h;split
    · rename_i e1 e2;exact absurd (by rw [e1,e2]) (h _ _ _ _)
    · rfl
theorem yQi {k a b}:mmK true (.v (.int k a)) (.v (.int k b)) s K=K (.v (.int k (if b > a then b else a))) s:=by simp [mmK]
theorem yQh {k a b}:mmK false (.v (.int k a)) (.v (.int k b)) s K=K (.v (.int k (if b < a then b else a))) s:=by simp [mmK]
variable {KR:List (List D)→List D→Prop}
def yOp (sz bytes:Nat) (rows:List (List D)) (K:D→List D→Prop):List (List D)→List D→Prop:=fun more s2=>(rows.length+more.length)*(bytes+1)≤2 ^ 40∧K (.sl true sz (rows++more)) s2
theorem yHn {sz bytes rows more}:yOp sz bytes rows K more s=((rows.length+more.length)*(bytes+1)≤2 ^ 40∧K (.sl true sz (rows++more)) s):=rfl
def yOq (sz bytes:Nat) (y:Operand) (K:D→List D→Prop):List (List D)→List D→Prop:=fun rows s1=>zNv s1 sz y (yOp sz bytes rows K)
theorem yHo {sz bytes y rows}:yOq sz bytes y K rows s=zNv s sz y (yOp sz bytes rows K):=rfl
theorem ySb {sz bytes x y}:zAn Ctr s (.app sz bytes x y) K=zRo s sz x (yOq sz bytes y K):=rfl
def yOo (bytes:Nat) (d:D) (rows:List (List D)) (s1:List D) (K:D→List D→Prop):Prop:=match d with
  | .v (.string b)=>(rows.length+b.size)*(bytes+1)≤2 ^ 40∧K (.sl true 1 (rows++(zK4 b).map zUs)) s1
  | _=>False
theorem yOn {bytes b rows}:yOo bytes (.v (.string b)) rows s K=((rows.length+b.size)*(bytes+1)≤2 ^ 40∧K (.sl true 1 (rows++(zK4 b).map zUs)) s):=rfl
def yTc (bytes:Nat) (y:Operand) (K:D→List D→Prop):List (List D)→List D→Prop:=fun rows s1=>yOo bytes (lk s1 y) rows s1 K
theorem yCo {bytes y rows}:yTc bytes y K rows s=yOo bytes (lk s y) rows s K:=rfl
theorem yM9 {bytes x y}:zAn Ctr s (.appS bytes x y) K=zRo s 1 x (yTc bytes y K):=rfl
def yMl (sz:Nat) (KR:List (List D)→List D→Prop):D→List D→Prop:=fun d s'=>match d with
  | .sl true sz' rows=>sz'=sz∧KR rows s'
  | _=>False
theorem yGm {sz sz' rows}:yMl sz KR (.sl true sz' rows) s=(sz'=sz∧KR rows s):=rfl
def yGo (sz:Nat) (s0:List D) (p:D × List D) (KR:List (List D)→List D→Prop):Prop:=match p.1 with
  | .sl true sz' rows=>sz'=sz∧KR rows p.2
  | .nils=>KR [] s0
  | .ref r q=>zDd s0 r q (yMl sz KR)
  | _=>False
theorem yMj {sz x}:zRo s sz x KR=yGo sz s (tk s x) KR:=rfl
theorem yGn {sz s0 sz' rows}:yGo sz s0 (.sl true sz' rows,s) KR=(sz'=sz∧KR rows s):=rfl
theorem zXm {sz s0}:yGo sz s0 (.nils,s) KR=KR [] s0:=rfl
theorem yBy {sz s0 r q}:yGo sz s0 (.ref r q,s) KR=zDd s0 r q (yMl sz KR):=rfl
def yTg (sz:Nat) (s0:List D) (o:Option (Nat × List (List D))) (KR:List (List D)→List D→Prop):Prop:=match o with
  | some (sz',rows)=>(sz'=sz∨rows=[])∧(∀ row,row∈rows→zC9 row=false)∧KR rows s0
  | none=>False
theorem yCp {sz s0 sz' rows}:yTg sz s0 (some (sz',rows)) KR=((sz'=sz∨rows=[])∧(∀ row,row∈rows→zC9 row=false)∧KR rows s0):=rfl
def yO1 (sz:Nat) (s0:List D) (p:D × List D) (KR:List (List D)→List D→Prop):Prop:=match p.1 with
  | .sl true sz' rows=>(sz'=sz∨rows=[])∧KR rows p.2
  | .sl false sz' rows=>(sz'=sz∨rows=[])∧KR rows s0
  | .nils=>KR [] s0
  | .ref r q=>yTg sz s0 (zEh s0 (.ref r q)) KR
  | .sub r q i n=>yTg sz s0 (zEh s0 (.sub r q i n)) KR
  | _=>False
theorem yTe {sz y}:zNv s sz y KR=yO1 sz s (tk s y) KR:=rfl
theorem yHr {sz s0 sz' rows}:yO1 sz s0 (.sl true sz' rows,s) KR=((sz'=sz∨rows=[])∧KR rows s):=rfl
theorem yHs {sz s0 sz' rows}:yO1 sz s0 (.sl false sz' rows,s) KR=((sz'=sz∨rows=[])∧KR rows s0):=rfl
theorem yCq {sz s0}:yO1 sz s0 (.nils,s) KR=KR [] s0:=rfl
theorem yHp {sz s0 r q i n}:yO1 sz s0 (.sub r q i n,s) KR=yTg sz s0 (zEh s0 (.sub r q i n)) KR:=rfl
theorem yHq {sz s0 r q}:yO1 sz s0 (.ref r q,s) KR=yTg sz s0 (zEh s0 (.ref r q)) KR:=rfl
theorem yRy {f first caps}:zAn Ctr s (.mkf f first caps) K=K (.fn f (first.map (lk s)) (caps.map (lk s))) s:=rfl
def yVu (sz bytes:Nat) (zero:List Value) (l c:D) (s:List D) (K:D→List D→Prop):Prop:=match l,c with
  | .v (.int _ n),.v (.int _ m)=>0≤n∧n≤m∧m*(bytes+1)≤2 ^ 40∧K (.sl true sz (List.replicate n.toNat (zero.map ofC))) s
  | _,_=>False
theorem yRw {sz bytes zero l c}:zAn Ctr s (.mks sz bytes zero l c) K=yVu sz bytes zero (lk s l) (lk s c) s K:=rfl
theorem yLj {sz bytes zero k n k' m}:yVu sz bytes zero (.v (.int k n)) (.v (.int k' m)) s K=(0≤n∧n≤m∧m*(bytes+1)≤2 ^ 40∧K (.sl true sz (List.replicate n.toNat (zero.map ofC))) s):=rfl
/-! the code -/
variable {Q:VExit→List D→Prop} {next:List D→Prop}
theorem yIz {l:List VO}:(VCode.ops l).wp Ctr Q s=zIm Ctr s l (Q .normal):=rfl
theorem yIx {x y:VCode}:(VCode.seq x y).wp Ctr Q s=x.wp Ctr (zNy (y.wp Ctr Q) Q) s:=rfl
theorem yCx:VCode.skip.wp Ctr Q s=Q .normal s:=rfl
theorem yIy:VCode.ret.wp Ctr Q s=Q .ret s:=rfl
theorem yCy {i}:(VCode.exit i).wp Ctr Q s=Q (.exit i) s:=rfl
theorem zYj {i} {c:VCode}:(VCode.block i c).wp Ctr Q s=c.wp Ctr (zOh i Q) s:=rfl
def zX4 (d:D) (A B:List D→Prop) (s:List D):Prop:=match d with
  | .v (.bool t)=>(t=true→A s)∧(t=false→B s)
  | _=>False
theorem yC0 {x} {a b:VCode}:(VCode.cond x a b).wp Ctr Q s=zX4 (lk s x) (a.wp Ctr Q) (b.wp Ctr Q) s:=rfl
variable {A B:List D→Prop}
theorem ySq:zX4 (.v (.bool true)) A B s=A s:=by simp [zX4]
theorem ySr:zX4 (.v (.bool false)) A B s=B s:=by simp [zX4]
theorem zAo {t:Bool} {A B:List D→Prop} {s:List D} (h1:t=true→A s) (h2:t=false→B s):zX4 (.v (.bool t)) A B s:=⟨h1,h2⟩
theorem yPe:zNy next Q .normal s=next s:=rfl
theorem yPd:zNy next Q .ret s=Q .ret s:=rfl
theorem yPf {i}:zNy next Q (.exit i) s=Q (.exit i) s:=rfl
theorem yN1 {i}:zOh i Q .normal s=Q .normal s:=rfl
theorem yN0 {i}:zOh i Q .ret s=Q .ret s:=rfl
theorem yN2 {i j}:zOh i Q (.exit j) s=if j=i then Q .normal s else Q (.exit j) s:=rfl
theorem zW7 {mask:List Bool} {c:VCode} {Q:VExit→List D→Prop} {s:List D} (J:Nat→List D→Prop) (n:Nat) (h0:∃ s1,zEj (clr mask s) s1∧J n s1) (h:∀ n s',J n s'→c.wp Ctr (zNy (fun s''=>∃ m,m < n∧∃ s1,zEj (clr mask s'') s1∧J m s1) Q) s'):(VCode.loop mask c).wp Ctr Q s:=⟨J,⟨n,h0⟩,h⟩
/-! the results -/
def NoG:World→(Nat→Prop)→Prop:=fun _ _=>True
theorem noG:yOs NoG:=fun _ _ _ _ _=>trivial
theorem gI {w:World} {I:Nat→Prop}:GI NoG w I:=⟨fun _=>False,fun _ h=>h.elim,trivial⟩
end Go.V
namespace Go.V
open Go.RowKit
section
variable {Ctr:CtrT} {s s':List D} {K:D→List D→Prop} {KP:List D→Prop} {KD:D→Prop} {KL:List D→Prop} {Q:VExit→List D→Prop} {pr:Option (Nat × zB1)} {os:List DOp}
/-! ### Regions that draw -/
def zL1 (Ctr:CtrT) (cls:List Bool) (tail:List VO) (Q:VExit→List D→Prop):List D→Prop:=fun s=>zIm Ctr (clr cls s) tail (Q .normal)
theorem yCz {start cls l1 tail}:(VCode.draw start cls l1 tail).wp Ctr Q s=zGs Ctr none (clr start s) l1 (zL1 Ctr cls tail Q):=rfl
theorem zT2 {cls tail}:zL1 Ctr cls tail Q s=zIm Ctr (clr cls s) tail (Q .normal):=rfl
def yMh (Ctr:CtrT) (pr:Option (Nat × zB1)) (s:List D) (dst:Option Nat) (os:List DOp) (KP:List D→Prop):D→Prop:=fun d=>zGs Ctr pr (zK9 s dst (prO pr d)) os KP
def zG8 (Ctr:CtrT) (V:List D) (cl:List Bool) (want:Bool) (op:VOp) (d:D) (KD:D→Prop):Prop:=match d with
  | .v (.bool b)=>(b=want→zSa Ctr V cl op KD)∧(b≠want→KD (.v (.tuple #[])))
  | .v _=>KD (.v (.tuple #[]))
  | _=>False
theorem yGe:zGs Ctr pr s [] KP=KP s:=rfl
theorem yBr {i hid cl dst op}:zGs Ctr pr s (⟨i,hid,cl,⟨dst,none,op⟩⟩::os) KP=zSa Ctr (clr hid s) cl op (yMh Ctr pr s dst os KP):=rfl
theorem zXk {i hid cl dst op g want}:zGs Ctr pr s (⟨i,hid,cl,⟨dst,some (g,want),op⟩⟩::os) KP=zG8 Ctr (clr hid s) cl want op (lkT (clr hid s) g) (yMh Ctr pr s dst os KP):=rfl
theorem yBt {dst d}:yMh Ctr pr s dst os KP d=zGs Ctr pr (zK9 s dst (prO pr d)) os KP:=rfl
theorem yUy {V cl op}:zG8 Ctr V cl true op (.v (.bool true)) KD=zSa Ctr V cl op KD:=by simp [zG8]
theorem yU1 {V cl op}:zG8 Ctr V cl false op (.v (.bool false)) KD=zSa Ctr V cl op KD:=by simp [zG8]
theorem yUz {V cl op}:zG8 Ctr V cl true op (.v (.bool false)) KD=KD (.v (.tuple #[])):=by simp [zG8]
theorem yU0 {V cl op}:zG8 Ctr V cl false op (.v (.bool true)) KD=KD (.v (.tuple #[])):=by simp [zG8]
theorem yMm {V cl op want}:zG8 Ctr V cl want op (.v (.tuple #[])) KD=KD (.v (.tuple #[])):=by simp [zG8]
def yG5 (V:List D) (cl:List Bool) (KD:D→Prop):D→List D→Prop:=fun d s'=>clr cl s'=clr cl V∧KD d
theorem yG4 {V cl op}:zSa Ctr V cl op KD=zAn Ctr V op (yG5 V cl KD):=rfl
theorem zVn:∀ (s:List D),clr [] s=s:=by
  intro s;apply List.ext_getElem?;intro r;rw [zBp];cases s[r]? with
  | none=>rfl
  | some d=>have:zBr []=fun _=>true:=(by funext x;cases x <;> rfl);simp [this,D.prune_yes]
theorem yB8 {V d}:yG5 V [] KD d s'=(s'=V∧KD d):=by unfold yG5;rw [zVn,zVn]
theorem zX1 {V d b cl}:yG5 V (b::cl) KD d s'=(clr (b::cl) s'=clr (b::cl) V∧KD d):=rfl
theorem zWj {t d}:zK9 s (some t) d=s.set t d:=rfl
theorem zWk {d}:zK9 s none d=s:=rfl
theorem yAg {d}:prO none d=d:=rfl
theorem yAf {r q d}:prO (some (r,q)) d=d.prune (zAi r q):=rfl
theorem ySs {m}:clr m s=zK3 (zBr m) m s:=rfl
theorem yHb {q m}:zK3 q m []=[]:=by simp [zK3]
theorem ySu {q m d}:zK3 q (true::m) (d::s)=.undef::zK3 q m s:=rfl
theorem ySv {q m d}:zK3 q (false::m) (d::s)=d.prune q::zK3 q m s:=rfl
theorem ySw {q d}:zK3 q [] (d::s)=d.prune q::zK3 q [] s:=rfl
theorem yBj {m r p}:zBr m (.ref r p)=!m.getD r false:=rfl
theorem yBi {m r p i j}:zBr m (.sub r p i j)=!m.getD r false:=rfl
theorem yBk {m r p i j}:zBr m (.ptr r p i j)=!m.getD r false:=rfl
theorem yRa {b:Bool} {m:List Bool}:(b::m).getD 0 false=b:=rfl
theorem yRb {b:Bool} {m:List Bool} {n:Nat}:(b::m).getD (n+1) false=m.getD n false:=by simp
theorem yRc {n:Nat}:([]:List Bool).getD n false=false:=by simp
def yVv (Ctr:CtrT) (start cls:List Bool) (o:DOp) (l2:List DOp) (tail:List VO) (Q:VExit→List D→Prop):List D→Prop:=fun s=>yUk Ctr start cls s o l2 fun s''=>zIm Ctr s'' tail (Q .normal)
def zVf (Ctr:CtrT) (fills:List (Nat × Nat)) (cls:List Bool) (tail:List VO) (Q:VExit→List D→Prop):List D→Prop:=fun s=>zJy s fills∧zIm Ctr (clr cls s) tail (Q .normal)
/-! order by order -/
def yPg (Ctr:CtrT) (tail:List VO) (Q:VExit→List D→Prop):List D→Prop:=fun s=>zIm Ctr s tail (Q .normal)
theorem yDh {tail}:yPg Ctr tail Q s=zIm Ctr s tail (Q .normal):=rfl
def zKp (Ctr:CtrT) (dst:Option Nat) (t:VT) (KP:List D→Prop):D→List D→Prop:=fun d s'=>t.wp Ctr KP (match dst with | some t=>zI3 s' t d | none=>s')
theorem zYs:VT.done.wp Ctr KP s=KP s:=rfl
theorem yC8 {i dst op sub}:(VT.br i ⟨dst,none,op⟩ sub .nil).wp Ctr KP s=zAn Ctr s op (zKp Ctr dst sub KP):=by simp only [VT.wp,and_true];rfl
theorem yO7 {i dst op sub}:(VT.h i ⟨dst,none,op⟩ sub).wp Ctr KP s=zAn Ctr s op (zKp Ctr dst sub KP):=rfl
theorem yI5 {i dst op sub j o sub2 rest}:(VT.br i ⟨dst,none,op⟩ sub (.br j o sub2 rest)).wp Ctr KP s=(zAn Ctr s op (zKp Ctr dst sub KP)∧(VT.br j o sub2 rest).wp Ctr KP s):=rfl
def zGm (Ctr:CtrT) (s:List D) (dst:Option Nat) (want:Bool) (op:VOp) (sub:VT) (KP:List D→Prop) (d:D):Prop:=match d with
  | .v (.bool b)=>(b=want→zAn Ctr s op (zKp Ctr dst sub KP))∧(b≠want→zKp Ctr dst sub KP (.v (.tuple #[])) s)
  | .v _=>zKp Ctr dst sub KP (.v (.tuple #[])) s
  | _=>False
theorem zYr {i dst g want op sub}:(VT.br i ⟨dst,some (g,want),op⟩ sub .nil).wp Ctr KP s=zGm Ctr s dst want op sub KP (lkT s g):=by simp only [VT.wp,and_true];rfl
theorem yC9 {i dst g want op sub j o sub2 rest}:(VT.br i ⟨dst,some (g,want),op⟩ sub (.br j o sub2 rest)).wp Ctr KP s=(zGm Ctr s dst want op sub KP (lkT s g)∧(VT.br j o sub2 rest).wp Ctr KP s):=rfl
theorem yUu {dst op sub}:zGm Ctr s dst true op sub KP (.v (.bool true))=zAn Ctr s op (zKp Ctr dst sub KP):=by simp [zGm]
theorem yUx {dst op sub}:zGm Ctr s dst false op sub KP (.v (.bool false))=zAn Ctr s op (zKp Ctr dst sub KP):=by simp [zGm]
theorem yUv {dst op sub}:zGm Ctr s dst true op sub KP (.v (.bool false))=zKp Ctr dst sub KP (.v (.tuple #[])) s:=by simp [zGm]
theorem yUw {dst op sub}:zGm Ctr s dst false op sub KP (.v (.bool true))=zKp Ctr dst sub KP (.v (.tuple #[])) s:=by simp [zGm]
theorem yMi {dst op sub want}:zGm Ctr s dst want op sub KP (.v (.tuple #[]))=zKp Ctr dst sub KP (.v (.tuple #[])) s:=by simp [zGm]
theorem zX2 {t sub d}:zKp Ctr (some t) sub KP d s=sub.wp Ctr KP (zI3 s t d):=rfl
theorem zX3 {sub d}:zKp Ctr none sub KP d s=sub.wp Ctr KP s:=rfl
theorem zYi {pre fills start cls l1 tail}:(VCode.drawB pre fills start cls l1 tail).wp Ctr Q s=(zK5 s pre∧zGs Ctr none (clr start s) l1 (zVf Ctr fills cls tail Q)):=rfl
theorem zR9 {fills cls tail}:zVf Ctr fills cls tail Q s=(zJy s fills∧zIm Ctr (clr cls s) tail (Q .normal)):=rfl
theorem zX9:zK5 s []=True:=rfl
theorem zUc {t n l}:zK5 s ((t,n)::l)=(yO0 s t n∧zK5 s l):=rfl
theorem zX8:zJy s []=True:=rfl
theorem zUb {t n l}:zJy s ((t,n)::l)=(yHi s t n∧zJy s l):=rfl
def yS3 (n:Nat):Option D→Prop
  | some (.box _ cells)=>cells.length=n
  | _=>False
def yS2 (n:Nat):Option D→Prop
  | some (.box none cells)=>cells.length=n
  | _=>False
theorem yNx {t n}:yO0 s t n=yS3 n s[t]?:=rfl
theorem yNw {t n}:yHi s t n=yS2 n s[t]?:=rfl
theorem yCk {n tag cells}:yS3 n (some (.box tag cells))=(cells.length=n):=rfl
theorem yCj {n cells}:yS2 n (some (.box none cells))=(cells.length=n):=rfl
theorem zYh {start cls l1 o l2 tail}:(VCode.drawW start cls l1 o l2 tail).wp Ctr Q s=zGs Ctr none (clr start s) l1 (yVv Ctr start cls o l2 tail Q):=rfl
def yH3 (Ctr:CtrT) (s:List D) (dst:Option Nat) (l2:List DOp) (cls:List Bool) (tail:List VO) (Q:VExit→List D→Prop):Nat→zB1→D→Prop:=fun r q d=>zGs Ctr (some (r,q)) (zK9 (zC2 r q s) dst d) l2 (zL1 Ctr cls tail Q)
theorem yLl {start cls i hid cl dst g sz by' x y l2 tail}:yVv Ctr start cls ⟨i,hid,cl,⟨dst,g,.app sz by' x y⟩⟩ l2 tail Q s=zI4 start (clr hid s) sz by' x y (yH3 Ctr s dst l2 cls tail Q):=rfl
theorem zWv {dst l2 cls tail r q d}:yH3 Ctr s dst l2 cls tail Q r q d=zGs Ctr (some (r,q)) (zK9 (zC2 r q s) dst d) l2 (zL1 Ctr cls tail Q):=rfl
variable {KR:Nat→zB1→D→Prop}
def yAm (sz by':Nat) (rows:List (List D)) (KD:D→Prop):List (List D)→List D→Prop:=fun more _=>(rows.length+more.length)*(by'+1)≤2 ^ 40∧KD (.sl true sz (rows++more))
theorem zWw {sz by' rows more}:yAm sz by' rows KD more s=((rows.length+more.length)*(by'+1)≤2 ^ 40∧KD (.sl true sz (rows++more))):=rfl
def yAn (sz by':Nat) (y:Operand) (KD:D→Prop):D→List D→Prop:=fun d s1=>match d with
  | .sl true sz' rows=>sz'=sz∧zNv s1 sz y (yAm sz by' rows KD)
  | _=>False
theorem zWx {sz by' y sz' rows}:yAn sz by' y KD (.sl true sz' rows) s=(sz'=sz∧zNv s sz y (yAm sz by' rows KD)):=rfl
def yH4 (start:List Bool) (V:List D) (sz by':Nat) (y:Operand) (p:D × List D) (KR:Nat→zB1→D→Prop):Prop:=match p.1 with
  | .ref r q=>start.getD r false=false∧zDd V r q (yAn sz by' y (KR r q))
  | _=>False
theorem yE7 {start V sz by' x y}:zI4 start V sz by' x y KR=yH4 start V sz by' y (tk V x) KR:=rfl
theorem zWy {start V sz by' y r q}:yH4 start V sz by' y (.ref r q,s) KR=(start.getD r false=false∧zDd V r q (yAn sz by' y (KR r q))):=rfl
def yQ8 (r:Nat) (q:zB1) (s:List D) (o:Option D):List D:=match o with
  | some d=>(zAg (zAi r q) s).set r (setAt (d.prune (zAi r q)) q .undef)
  | none=>s
theorem yMg {r q}:zC2 r q s=yQ8 r q s s[r]?:=rfl
theorem zXf {r q d}:yQ8 r q s (some d)=(zAg (zAi r q) s).set r (setAt (d.prune (zAi r q)) q .undef):=rfl
/-! ### Kin of append and the like -/
variable {KG:List (List D)→List D→Prop}
def yBx (sz:Nat) (s0:List D) (p:D × List D) (KG:List (List D)→List D→Prop):Prop:=match p.1 with
  | .sl true sz' rows=>sz'=sz∧KG rows p.2
  | .nils=>KG [] s0
  | _=>False
theorem yGl {sz x}:zG9 s sz x KG=yBx sz s (tk s x) KG:=rfl
theorem yBw {sz s0 sz' rows}:yBx sz s0 (.sl true sz' rows,s) KG=(sz'=sz∧KG rows s):=rfl
theorem zTq {sz s0}:yBx sz s0 (.nils,s) KG=KG [] s0:=rfl
theorem yNa {sz by' x y}:zAn Ctr s (.appN sz by' x y) K=zG9 s sz x (yOq sz by' y K):=rfl
def ySz (sz n:Nat) (p:List D × List D) (K:D→List D→Prop):Prop :=
  p.1.all (fun d=>d.okCells&&d.cells.length==sz)=true∧zMn (p.1.flatMap D.cells)=true∧K (.sl true sz (zGu sz n (p.1.flatMap D.cells))) p.2
theorem yM7 {sz parts}:zAn Ctr s (.bslN sz parts) K=ySz sz parts.length (tkL s parts) K:=rfl
theorem yNv {sz n} {ds:List D}:ySz sz n (ds,s) K=(ds.all (fun d=>d.okCells&&d.cells.length==sz)=true∧zMn (ds.flatMap D.cells)=true∧K (.sl true sz (zGu sz n (ds.flatMap D.cells))) s):=rfl
def yRp (o:Option D) (s:List D) (K:D→List D→Prop) (i:Nat):Prop:=match o with
  | some (.tup vs)=>match vs[i]? with
    | some d=>d.owny=false∧K d s
    | none=>False
  | _=>False
def yRq (o:Option D) (s:List D) (K:D→List D→Prop):Prop:=match o with
  | some d=>d.owny=false∧K d s
  | none=>False
theorem yM5 {t i}:zAn Ctr s (.extN (.tmp t) i) K=yRp s[t]? s K i:=rfl
theorem yGs {vs i}:yRp (some (.tup vs)) s K i=yRq vs[i]? s K:=rfl
theorem zXs {d}:yRq (some d) s K=(d.owny=false∧K d s):=rfl
/-! ### A function's end -/
theorem yNf {rvs d}:zD5 rvs d .ret s=zQl s rvs (leK d):=rfl
theorem yVa {rvs d}:zD5 rvs d .normal s=zQl s rvs (leK d):=rfl
theorem yGy {rvs d i b cs}:yGz rvs d i b cs .ret s=zQl s rvs (leX d i b cs):=rfl
theorem ySf {rvs d i b cs}:yGz rvs d i b cs .normal s=zQl s rvs (leX d i b cs):=rfl
section
variable {KS:List D→List D→Prop}
def yKw (d:D) (KL:List D→List D→Prop):List D→List D→Prop:=fun ds=>KL (d::ds)
def rvN (rs:List RV) (KL:List D→List D→Prop):D→List D→Prop:=fun d s'=>zQl s' rs (yKw d KL)
theorem yKf:zQl s [] KS=KS [] s:=rfl
theorem yEg {r rs}:zQl s (r::rs) KS=rvK s r (rvN rs KS):=rfl
theorem yKg {rs d}:rvN rs KS d s=zQl s rs (yKw d KS):=rfl
theorem zZ9 {d ds}:yKw d KS ds s=KS (d::ds) s:=rfl
end
theorem yMa {d ds}:leK d ds s=(one ds).le d:=rfl
def yTn (b:Nat) (cells':List D):Option D→Prop
  | some (.box (some b') cs)=>b'=b∧leL (zAg (fun _=>false) cs) cells'
  | _=>False
theorem yG2 {rvs d b cs}:ySk rvs d b cs .ret s=zQl s rvs (leG d b cs):=rfl
theorem ySj {rvs d b cs}:ySk rvs d b cs .normal s=zQl s rvs (leG d b cs):=rfl
theorem yMb {d ds b cs}:leG d b cs ds s=((one ds).le d∧yUd b cs s):=rfl
theorem zD8 {s:List D} {b:Nat} {cs cells':List D} {d:D} (r:Nat) (q:zB1) (hs:s[r]?=some d) (ht:zAj d q=some (.box (some b) cs)) (hl:leL (zAg (fun _=>false) cs) cells'):yUd b cells' s:=⟨r,d,q,b,cs,hs,ht,rfl,hl⟩
def yT4 (x n:Nat) (s:List D) (K:D→List D→Prop):Option D→Prop
  | some (.box _ (.ptr r [] 0 0::rest))=>rest.length+1=n∧r≠x∧rest.all D.flatI=true∧zCb ((zAg (zAh x) s).set x .undef) (.ptr r [] 0 0) (fun d' s'=>K (.agg (d'::rest)) s')
  | _=>False
theorem yG0 {x n d}:ySh x n d .ret s=yT4 x n s (fun d' _=>d'.le d) s[x]?:=rfl
theorem ySg {x n d}:ySh x n d .normal s=yT4 x n s (fun d' _=>d'.le d) s[x]?:=rfl
theorem yEh {x n K g r rest}:yT4 x n s K (some (.box g (.ptr r [] 0 0::rest)))=(rest.length+1=n∧r≠x∧rest.all D.flatI=true∧zCb ((zAg (zAh x) s).set x .undef) (.ptr r [] 0 0) (fun d' s'=>K (.agg (d'::rest)) s')):=rfl
theorem yB7 {rvs d i b cs}:ySi rvs d i b cs .ret s=zQl s rvs (yQ0 d i b cs):=rfl
theorem yNh {rvs d i b cs}:ySi rvs d i b cs .normal s=zQl s rvs (yQ0 d i b cs):=rfl
def yK2 (b:Nat) (cells':List D):Option D→Prop
  | some (.fn _ [.box (some b') cs] [])=>b'=b∧leL (zAg (fun _=>false) cs) cells'
  | _=>False
theorem yF9 {d ds i b cs}:yQ0 d i b cs ds s=((one ds).le d∧yK2 b cs s[i]?):=by unfold yQ0 yVq yK2;rfl
theorem yFd {g b b' cs cells'}:yK2 b cells' (some (.fn g [.box (some b') cs] []))=(b'=b∧leL (zAg (fun _=>false) cs) cells'):=rfl
def yLk (ty:Nat) (t:Nat) (s:List D) (K:D→List D→Prop):Option D→Prop
  | some (.box _ [.v (.int .i64 m),.v (.int .i64 n)])=>K (.mp (.err ty) [(.int .i64 m,.int .i64 n)]) ((zAg (zAh t) s).set t .undef)
  | _=>False
theorem yL9 {d ds i b cs}:leX d i b cs ds s=((one ds).le d∧yTn b cs s[i]?):=by unfold leX yUc yTn;rfl
theorem yFe {b cs cells'}:yTn b cells' (some (.box (some b) cs))=leL (zAg (fun _=>false) cs) cells':=by simp [yTn]
theorem yUf {d}:one [d]=d:=rfl
theorem yUg:one []=.tup []:=rfl
theorem yUe {d e ds}:one (d::e::ds)=.tup (d::e::ds):=rfl
def rv2 (p:D × List D) (K:D→List D→Prop):Prop:=p.1.okCells=true∧zCb p.2 p.1 K
theorem yWd {t}:rvK s (.t t) K=rv2 (tkT s t) K:=rfl
theorem yPt {d}:rv2 (d,s) K=(d.okCells=true∧zCb s d K):=rfl
def rv3 (t n:Nat) (agg:Bool) (s:List D) (o:Option D) (K:D→List D→Prop):Prop:=match o with
  | some (.box _ cells)=>cells.length=n∧(zEk agg (zAg (zAh t) cells)).okCells=true∧zCb ((zAg (zAh t) s).set t .undef) (zEk agg (zAg (zAh t) cells)) K
  | _=>False
theorem yWe {t n agg}:rvK s (.c t n agg) K=rv3 t n agg s s[t]? K:=rfl
theorem yKh {t n agg g cells}:rv3 t n agg s (some (.box g cells)) K=(cells.length=n∧(zEk agg (zAg (zAh t) cells)).okCells=true∧zCb ((zAg (zAh t) s).set t .undef) (zEk agg (zAg (zAh t) cells)) K):=rfl
def yEu (d:D) (K:D→List D→Prop):List D→List D→Prop:=fun cs s'=>K (zD7 d cs) s'
def yNy (K:D→List D→Prop):List D→List D→Prop:=fun cs s'=>K (.box none cs) s'
theorem yCl {cs}:yNy K cs s=K (.box none cs) s:=rfl
def yT8 (r:Nat) (s:List D) (K:D→List D→Prop):Option D→Prop
  | some (.box _ cells)=>zCi (zAg (zI1 r) cells)=true∧zDg ((zAg (zAh r) s).set r .undef) (zAg (zI1 r) cells) (yNy K)
  | _=>False
theorem zS2 {r}:zCb s (.ptr r [] 0 0) K=yT8 r s K s[r]?:=by unfold zCb yT8;rfl
theorem yEq {r g cells}:yT8 r s K (some (.box g cells))=(zCi (zAg (zI1 r) cells)=true∧zDg ((zAg (zAh r) s).set r .undef) (zAg (zI1 r) cells) (yNy K)):=rfl
theorem zS3 {cs}:zCb s (.agg cs) K=(zCi cs=true∧zDg s cs (yEu (.agg cs) K)):=rfl
theorem zZ3 {x}:zCb s (.v x) K=(zCi [.v x]=true∧zDg s [.v x] (yEu (.v x) K)):=rfl
theorem zQ6:zCb s .nils K=(zCi [.nils]=true∧zDg s [.nils] (yEu .nils K)):=rfl
theorem zPf:zCb s .undef K=(zCi [.undef]=true∧zDg s [.undef] (yEu .undef K)):=rfl
theorem zWp {o z r}:zCb s (.sl o z r) K=(zCi [.sl o z r]=true∧zDg s [.sl o z r] (yEu (.sl o z r) K)):=rfl
theorem zS1 {r p}:zCb s (.ref r p) K=(zCi [.ref r p]=true∧zDg s [.ref r p] (yEu (.ref r p) K)):=rfl
theorem zWq {k e}:zCb s (.mp k e) K=(zCi [.mp k e]=true∧zDg s [.mp k e] (yEu (.mp k e) K)):=rfl
theorem zQ7 {c j}:zCb s (.iptr c j) K=(zCi [.iptr c j]=true∧zDg s [.iptr c j] (yEu (.iptr c j) K)):=rfl
theorem yPx {k e ds}:zD7 (.mp k e) ds=ds.headD .undef:=rfl
theorem yQy {k e k' e'}:(D.mp k e).le (.mp k' e')=(k=k'∧e=e'):=by simp [D.le]
theorem yL7 {g e g' e'}:(D.box g e).le (.box g' e')=(g=g'∧e=e'):=by simp [D.le]
theorem yEt {d cs}:yEu d K cs s=K (zD7 d cs) s:=rfl
theorem yKv {cs ds}:zD7 (.agg cs) ds=.agg ds:=rfl
theorem yT9 {x ds}:zD7 (.v x) ds=ds.headD .undef:=rfl
theorem yEr {ds}:zD7 .nils ds=ds.headD .undef:=rfl
theorem zZ8 {ds}:zD7 .undef ds=ds.headD .undef:=rfl
theorem yPw {o z r ds}:zD7 (.sl o z r) ds=ds.headD .undef:=rfl
theorem yKu {r p ds}:zD7 (.ref r p) ds=ds.headD .undef:=rfl
theorem yEs {c j ds}:zD7 (.iptr c j) ds=ds.headD .undef:=rfl
theorem yBd {d:D}:d.le .undef=True:=by cases d <;> simp [D.le]
theorem yUm {a b:Value}:(D.v a).le (.v b)=(a=b):=by simp [D.le]
theorem yF7:D.nils.le .nils=True:=by simp [D.le]
theorem yF6 {o z r}:D.nils.le (.sl o z r)=(r=[]):=by simp [D.le]
theorem yQx {o z r o' z' r'}:(D.sl o z r).le (.sl o' z' r')=(o=o'∧z=z'∧r=r'):=by simp [D.le]
theorem yL8 {a b}:(D.agg a).le (.agg b)=leL a b:=by simp [D.le]
theorem yL6 {a b}:(D.tup a).le (.tup b)=leL a b:=by simp [D.le]
theorem yQz {f g a b c d}:(D.fn f a b).le (.fn g c d)=(f=g∧leL a c∧leL b d):=by simp [D.le]
theorem yF8:leL [] []=True:=by simp [leL]
theorem yBf {a b a2 b2}:leL (a::a2) (b::b2)=(a.le b∧leL a2 b2):=by simp [leL]
end
theorem yG3 {C:CtrT} {Q:VExit→List D→Prop} {s:List D} {t:VT} {tail:List VO} {s0:List D} (h:∀ K:List D→Prop,K s0→t.wp C K s) (p:yPg C tail Q s0):(VCode.drawT t tail).wp C Q s:=h _ p
end Go.V
namespace Go.V
open Go.RowKit
section
variable {Ctr:CtrT} {s:List D} {K:D→List D→Prop}
def yV2 (neg:Bool) (ks:List Nat) (x y:D) (s:List D) (K:D→List D→Prop):Prop:=match x,y with
  | .agg a,.agg b=>zA5 ks a=true∧match zBh a b with
    | some c=>K (.v (.bool (if neg then !c else c))) s
    | none=>False
  | _,_=>False
theorem yR5 {neg ks x y}:zAn Ctr s (.eqs neg ks x y) K=yV2 neg ks (lk s x) (lk s y) s K:=rfl
def yU9 (neg:Bool) (o:Option Bool) (s:List D) (K:D→List D→Prop):Prop:=match o with
  | some c=>K (.v (.bool (if neg then !c else c))) s
  | none=>False
theorem yNb {neg ks a b}:yV2 neg ks (.agg a) (.agg b) s K=(zA5 ks a=true∧yU9 neg (zBh a b) s K):=rfl
theorem ySd {c}:yU9 false (some c) s K=K (.v (.bool c)) s:=rfl
theorem ySc {c}:yU9 true (some c) s K=K (.v (.bool (!c))) s:=rfl
theorem yNd:zBh [] []=some true:=rfl
theorem yNe {k a b xs ys}:zBh (.v (.int k a)::xs) (.v (.int k b)::ys)=(zBh xs ys).map (decide (a=b)&&·):=by simp [zBh]
theorem yNc {a b xs ys}:zBh (.v (.string a)::xs) (.v (.string b)::ys)=(zBh xs ys).map (decide (a=b)&&·):=rfl
theorem yGx {a b xs ys}:zBh (.v (.bool a)::xs) (.v (.bool b)::ys)=(zBh xs ys).map ((a==b)&&·):=rfl
theorem yMc:zA5 [] []=true:=rfl
theorem yUp {ks b ds}:zA5 (0::ks) (.v (.bool b)::ds)=zA5 ks ds:=rfl
theorem yUo {ks k n ds}:zA5 (1::ks) (.v (.int k n)::ds)=zA5 ks ds:=rfl
theorem yUn {ks b ds}:zA5 (2::ks) (.v (.string b)::ds)=zA5 ks ds:=rfl
theorem yR9 {x}:zAn Ctr s (.b2s x) K=yS9 (zEh s (lk s x)) s K:=rfl
theorem yS8 {sz rows}:yS9 (some (sz,rows)) s K=∃ xs:List Int,rows=xs.map zUs∧K (.v (.string (zYc xs))) s:=rfl
theorem yGu {neg x}:zAn Ctr s (.isnil neg x) K=zU4 neg (lk s x) (zEh s (lk s x)) s K:=rfl
theorem zXc {neg o}:zU4 neg .nils o s K=K (.v (.bool (!neg))) s:=rfl
/-! maps -/
theorem yRx {k}:zAn Ctr s (.mkm k) K=K (.mp k k.e0) s:=rfl
theorem ySm:KK.e0 .str=[]:=rfl
theorem yNk:KK.e0 .bool=[]:=rfl
theorem ySn {k}:KK.e0 (.int k)=[]:=rfl
theorem yNj {ks}:KK.e0 (.flat ks)=[]:=rfl
theorem yM1 {ty t}:zAn Ctr s (.mkif ty (.tmp t)) K=yLk ty t s K s[t]?:=by unfold yLk;rfl
theorem yA3 {ty t g m n}:yLk ty t s K (some (.box g [.v (.int .i64 m),.v (.int .i64 n)]))=K (.mp (.err ty) [(.int .i64 m,.int .i64 n)]) ((zAg (zAh t) s).set t .undef):=rfl
theorem ySo {t e}:KK.e0 (.bld t e)=[(.string ⟨#[]⟩,undef)]:=rfl
def yLg (k:KK) (r:Nat) (q:zB1) (d:D) (e:List (Value × Value)) (ou ov:Option Value) (s:List D) (K:D→List D→Prop):Prop:=match ou,ov with
  | some u,some v=>zB5 k u=true∧K .undef (s.set r (setAt d q (.mp k (yAy e u v))))
  | _,_=>False
def yFp (k:KK) (r:Nat) (q:zB1) (d:D) (o:Option D) (ou ov:Option Value) (s:List D) (K:D→List D→Prop):Prop:=match o with
  | some (.mp k' e)=>k'=k∧yLg k r q d e ou ov s K
  | _=>False
def yLh (k:KK) (r:Nat) (q:zB1) (o:Option D) (ou ov:Option Value) (s:List D) (K:D→List D→Prop):Prop:=match o with
  | some d=>yFp k r q d (zAj d q) ou ov s K
  | none=>False
def yQe (k:KK) (m:D) (ou ov:Option Value) (s:List D) (K:D→List D→Prop):Prop:=match m with
  | .ref r q=>yLh k r q s[r]? ou ov s K
  | _=>False
theorem yMz {k m i x}:zAn Ctr s (.mupd k m i x) K=yQe k (lk s m) (toV (lk s i)) (toV (lk s x)) s K:=rfl
theorem yAw {k r q ou ov}:yQe k (.ref r q) ou ov s K=yLh k r q s[r]? ou ov s K:=rfl
theorem zW1 {k r q d ou ov}:yLh k r q (some d) ou ov s K=yFp k r q d (zAj d q) ou ov s K:=rfl
theorem yFo {k r q d e ou ov}:yFp k r q d (some (.mp k e)) ou ov s K=yLg k r q d e ou ov s K:=by simp [yFp]
theorem zW0 {k r q d e u v}:yLg k r q d e (some u) (some v) s K=(zB5 k u=true∧K .undef (s.set r (setAt d q (.mp k (yAy e u v))))):=rfl
def yLn (k:KK) (r:Nat) (q:zB1) (d:D) (e:List (Value × Value)) (ou:Option Value) (s:List D) (K:D→List D→Prop):Prop:=match ou with
  | some u=>zB5 k u=true∧K .undef (s.set r (setAt d q (.mp k (mdel e u))))
  | _=>False
def yFy (k:KK) (r:Nat) (q:zB1) (d:D) (o:Option D) (ou:Option Value) (s:List D) (K:D→List D→Prop):Prop:=match o with
  | some (.mp k' e)=>k'=k∧yLn k r q d e ou s K
  | _=>False
def yLo (k:KK) (r:Nat) (q:zB1) (o:Option D) (ou:Option Value) (s:List D) (K:D→List D→Prop):Prop:=match o with
  | some d=>yFy k r q d (zAj d q) ou s K
  | none=>False
def yQl (k:KK) (m:D) (ou:Option Value) (s:List D) (K:D→List D→Prop):Prop:=match m with
  | .ref r q=>yLo k r q s[r]? ou s K
  | _=>False
theorem yM2 {k m i}:zAn Ctr s (.mdel k m i) K=yQl k (lk s m) (toV (lk s i)) s K:=rfl
theorem yA7 {k r q ou}:yQl k (.ref r q) ou s K=yLo k r q s[r]? ou s K:=rfl
theorem zW6 {k r q d ou}:yLo k r q (some d) ou s K=yFy k r q d (zAj d q) ou s K:=rfl
theorem yFx {k r q d e ou}:yFy k r q d (some (.mp k e)) ou s K=yLn k r q d e ou s K:=by simp [yFy]
theorem zW5 {k r q d e u}:yLn k r q d e (some u) s K=(zB5 k u=true∧K .undef (s.set r (setAt d q (.mp k (mdel e u))))):=rfl
def yVt (k:KK) (z:Value) (ok:Bool) (ou:Option Value) (m:D) (o:Option (KK × List (Value × Value))) (s:List D) (K:D→List D→Prop):Prop:=match ou with
  | some u=>zB5 k u=true∧yH7 k z ok u m o s K
  | none=>False
theorem yRv {k z ok m i}:zAn Ctr s (.mlk k z ok m i) K=yVt k z ok (toV (lk s i)) (lk s m) (zTg s (lk s m)) s K:=rfl
theorem yAz {k z ok u m o}:yVt k z ok (some u) m o s K=(zB5 k u=true∧yH7 k z ok u m o s K):=rfl
def zTi (z:Value) (ok:Bool) (o:Option Value) (s:List D) (K:D→List D→Prop):Prop:=match o with
  | some v=>K (if ok then .tup [ofV v,.v (.bool true)] else ofV v) s
  | none=>K (if ok then .tup [ofV z,.v (.bool false)] else ofV z) s
theorem yFu {k z ok u m e}:yH7 k z ok u m (some (k,e)) s K=zTi z ok (yH8 e u) s K:=by unfold yH7 zTi;simp only [true_and];cases yH8 e u <;> rfl
theorem yLi {k z ok u}:yH7 k z ok u (.v (.map none)) none s K=zTi z ok none s K:=rfl
theorem yLr {z v}:zTi z false (some v) s K=K (ofV v) s:=rfl
theorem yLq {z v}:zTi z true (some v) s K=K (.tup [ofV v,.v (.bool true)]) s:=rfl
theorem yLt {z}:zTi z false none s K=K (ofV z) s:=rfl
theorem yLs {z}:zTi z true none s K=K (.tup [ofV z,.v (.bool false)]) s:=rfl
def yQj (m:D) (o:Option (KK × List (Value × Value))) (s:List D) (K:D→List D→Prop):Prop:=match o with
  | some (k,e)=>zRh k (K (.v (.int .i64 (e.length:Int))) s)
  | none=>match m with
    | .v (.map none)=>K (.v (.int .i64 0)) s
    | _=>False
theorem yM0 {m}:zAn Ctr s (.mlen m) K=yQj (lk s m) (zTg s (lk s m)) s K:=rfl
theorem zW4 {m k e}:yQj m (some (k,e)) s K=zRh k (K (.v (.int .i64 (e.length:Int))) s):=rfl
theorem yA0 {p}:zRh .str p=p:=rfl
theorem zW3 {p}:zRh .bool p=p:=rfl
theorem yA2 {k p}:zRh (.int k) p=p:=rfl
theorem zW2 {ks p}:zRh (.flat ks) p=p:=rfl
theorem yFt {k e}:zTg s (.imp k e)=some (k,e):=rfl
def mpG:Option D→Option (KK × List (Value × Value))
  | some (.mp k e)=>some (k,e)
  | _=>none
def mpF (q:zB1):Option D→Option (KK × List (Value × Value))
  | some d=>mpG (zAj d q)
  | none=>none
theorem yFs {r q}:zTg s (.ref r q)=mpF q s[r]?:=by unfold zTg mpF mpG;rfl
theorem yFr {q d}:mpF q (some d)=mpG (zAj d q):=rfl
theorem yQf {k e}:mpG (some (.mp k e))=some (k,e):=rfl
theorem yQg {x}:zTg s (.v x)=none:=rfl
theorem yTx {x}:toV (.v x)=some x:=rfl
theorem yDa:toV .nils=some (.slice none 0 0):=rfl
theorem yI8 {cs}:toV (.agg cs)=(zE4 cs).map fun vs=>.agg ⟨vs⟩:=rfl
theorem yAi:zE4 []=some []:=rfl
theorem yAj {k n ds}:zE4 (.v (.int k n)::ds)=(zE4 ds).map (.int k n::·):=rfl
theorem yAh {b ds}:zE4 (.v (.string b)::ds)=(zE4 ds).map (.string b::·):=rfl
theorem zWu {b ds}:zE4 (.v (.bool b)::ds)=(zE4 ds).map (.bool b::·):=rfl
theorem yBg {b}:zB5 .str (.string b)=true:=rfl
theorem zXb {b}:zB5 .bool (.bool b)=true:=rfl
theorem yBh {k n}:zB5 (.int k) (.int k n)=true:=by simp [zB5]
theorem zXa {ks cs}:zB5 (.flat ks) (.agg ⟨cs⟩)=zBd ks cs:=rfl
theorem yQ4:zBd [] []=true:=rfl
theorem yWk {ks b vs}:zBd (0::ks) (.bool b::vs)=zBd ks vs:=rfl
theorem yWj {ks n vs}:zBd (1::ks) (.int .i64 n::vs)=zBd ks vs:=rfl
theorem yWi {ks b vs}:zBd (2::ks) (.string b::vs)=zBd ks vs:=rfl
end
attribute [go_sem ↓] zYs yO7 yC8 yI5 zYr yC9 zX2 zX3 yCz zYi zR9 zYh yGe yBr zXk yG4 yBt yLl zWv zT2 yNa yM7 yM5 yIz yIx yCx yIy yCy zYj yC0 yPe yPd
  yPf yN1 yN0 yN2 yK3 yFh yAp yG8 yEw yEx yRs yRu yRt ySa yMy yMx yR8 yM8 yU5 yM6 yGw yR7 yGv yR6 yM3 yGt yU8
  yR3 yU7 yR2 yR0 yR1 yMw yRr yR4 yRz yM4 yU6 ySb yM9 yCo yOn yRy yRw yR5 yR9 yGu yRx yMz yM2 yRv yM0
attribute [go_sem] yUu yUx yUv yUw yMi yK7 yLb yLd yLe yQc yLc yUi yFm yAv yK9 yK8 yLa yFn yLf yQd zX9 zUc zX8 zUb yNx yNw yCk yCj yGh yGk yGi yGj zXl ySq ySr yH9 yQm yF0 yLv yLz yL1 yL2 yQn yL0 yUl yF1 yBa yLx yLy yF2 yL3 yQo yKx yAa
  yEv yUb yO8 yO9 yDd yJa yJg yJi yJj yPb yJh yTy yDf zYu yJe yJf yDg yJk yJc yPc yJb yDe yK0 yE2 yE5 yKy yE3 yE4 yP2
  yAb zWr yE0 yE1 yAc yE6 yEy yKz yFa yFk yAu yK6 yP7 yP5 yP6 yOh yN4 yOa yN8 yN7 yOf yN9 yOb
  yOc yOd yOe yN6 yN5 yOg yS4 yHm yHl yHj yHk yOj yOi yO5 yO6 yG7 yS0 yHh zUa ySy yCa yG9 yEp yKs
  yKr yKq yEl yEm yJn zZ4 yEn yT7 yPu yDp zSw zSx yFz yA8 zW8 yNg yKi yDj zV8 yDk yKd yKc zZ1 zWo yDl yJ8 zWm zWl yKa
  yJ9 yS6 yS5 yEe zZr yPz yEa zZp yGb zXe yBn yEk yEj yKj yRo yMs yMq yQ7 yUs yGd yDu yJt zZa
  yPm yMf yGc yUq yMd yPk yPj yJs yDq zY6 zY8 yDv zZb zZc zWa yDt zYx yHp yLw yJd yEz yBi yFg yFf yMt yB5 yF5 yQv yQi yQh yHn yHo yGm yMj yGn zXm yBy yCp yTe
  yHr yHs yCq yHq yLj ofV ofC D.owny zC9 D.prune zAg zAh zF0 List.isEmpty_nil List.isEmpty_cons zAi zF4 D.cont zAj setAt D.withCont D.cells D.okCells D.leaf zCi zI5 zEk zIf zGu zWb
  zOd splice yUy yU1 yUz yU0 yMm yB8 zX1 zWj zWk yAg yAf ySs yHb ySu ySv ySw yBj yBk yRa yRb yRc zWw
  zWx yE7 zWy yMg zXf yGl yBw zTq yNv zMn yGs zXs yNf yVa yKf yEg yKg zZ9 yMa yUf yUg yUe yWd
  yPt yWe yKh zS3 zZ3 zQ6 zPf zWp zS1 zWq zQ7 zS2 yEq yCl zI1 yPx yPv yEo zY2 yQy yL7 yGy ySf yG2 ySj yMb yG0 ySg yEh yB7 yNh yF9 yFd yFc yM1 yA3 yL9 yFe yEt yKv yT9 yEr zZ8 yPw yKu yEs yBd yUm yF7 yF6 yQx yL8 yL6 yQz yF8 yBf yNb
  yAw zW1 yFo zW0 yA7 zW6 yFx zW5 yAz yFu yLi yLr yLq yLt yLs zW4 yA0 zW3 yA2 zW2 ySm yNk ySn yNj ySo yFt yFs yFr yQf yQg yTx yDa yI8 yAi yAj yAh zWu yBg zXb yBh zXa yQ4 yWk yWj yWi Option.map_some
  ySd ySc yNd yNe yNc yGx yMc yUp yUo yUn yS8 zXc
end Go.V
namespace Go.V
open Go.RowKit
mutual
theorem D.le_rfl:∀ d:D,d.le d
  | .undef=>by simp [D.le]
  | .nils=>by simp [D.le]
  | .v _=>by simp [D.le]
  | .sl _ _ _=>by simp [D.le]
  | .agg cs=>by simp only [D.le];exact zH4 cs
  | .tup cs=>by simp only [D.le];exact zH4 cs
  | .ref _ _=>by simp [D.le]
  | .ptr _ _ _ _=>by simp [D.le]
  | .sub _ _ _ _=>by simp [D.le]
  | .iptr cs _=>by simp only [D.le];exact ⟨0,by omega,by rw [List.drop_zero,List.take_length];exact zH4 cs⟩
  | .box _ _=>by simp [D.le]
  | .mp _ _=>by simp [D.le]
  | .imp _ _=>by simp [D.le]
  | .fn _ a b=>by simp only [D.le];exact ⟨trivial,zH4 a,zH4 b⟩
theorem zH4:∀ ds:List D,leL ds ds
  | []=>by simp [leL]
  | d::ds=>by simp only [leL];exact ⟨D.le_rfl d,zH4 ds⟩
end
theorem zAl {ds es:List D} (h:ds=es):leL ds es:=h ▸ zH4 ds
theorem zAw {d e:D} {ds es:List D} (h1:d.le e) (h2:leL ds es):leL (d::ds) (e::es):=by simp only [leL];exact ⟨h1,h2⟩
theorem zA4:leL [] []:=by simp [leL]
theorem zAu {d e:D} (h:d=e):d.le e:=h ▸ D.le_rfl d
theorem zBg {cs ds:List D} (h:leL cs ds):(D.agg cs).le (.agg ds):=by simp only [D.le];exact h
theorem yBe:∀ {cs ds:List D},leL cs ds→cs.length=ds.length
  | [],[],_=>rfl
  | [],_::_,h=>by simp [leL] at h
  | _::_,[],h=>by simp [leL] at h
  | c::cs,d::ds,h=>by simp only [leL] at h;simp [yBe h.2]
theorem zA3 {cs ds:List D} {j:Nat} (h:leL cs ds):(D.iptr cs j).le (.iptr ds j):=by simp only [D.le];exact ⟨0,by omega,by rw [List.drop_zero,← yBe h,List.take_length];exact h⟩
theorem zAv {cs ds:List D} {i:Nat} (h:leL ((cs.drop i).take ds.length) ds):(D.iptr cs i).le (.iptr ds 0):=by simp only [D.le];exact ⟨i,by omega,h⟩
theorem zCc {f:FuncId} {a b c d:List D} (h1:leL a c) (h2:leL b d):(D.fn f a b).le (.fn f c d):=by simp only [D.le];exact ⟨trivial,h1,h2⟩
theorem zBf {d:D} {z:Nat} {rows rows':List (List D)} (h:d=.sl false z (zEr rows)) (h2:zEr rows=rows'):d.le (.sl false z rows'):=by rw [h,h2];exact D.le_rfl _
theorem zU7:∀ xs ys:List D,zIn (xs++ys)=zIn xs++zIn ys
  | [],_=>rfl
  | x::xs,ys=>by simp only [List.cons_append,zIn,zU7 xs ys]
theorem zAp {o z}:D.nils.le (.sl o z []):=by simp [D.le]
theorem zD0 {α:Type} {f g:α→List D} (h:∀ x,zIn (f x)=g x):∀ xs:List α,zEr (xs.map f)=xs.map g
  | []=>by simp [zEr]
  | x::xs=>by simp only [List.map_cons,zEr,h,zD0 h xs]
section
variable {P:Program} {G:World→(Nat→Prop)→Prop} {s:List D} {K:D→List D→Prop} {Q:VExit→List D→Prop}
theorem zT8 {f:FuncId} {args:List Operand} {args':List D} {d:D} (hC:Contract P G f args' d) (he:leL (args.map fun x=>deep s 8 (raw s x)) args') (hi:d.noImm=true∨((args.map fun x=>raw s x).all D.noRef)=true) (hK:K d s):zAn (CT P G) s (.callX f args) K :=
  .inl ⟨args',d,he,hC,hi,hK⟩
theorem zVp {x:Operand} {f:FuncId} {first caps:List D} {args:List Operand} {args':List D} {d:D} (hx:lk s x=.fn f first caps) (hC:Contract P G f args' d) (he:leL ((first++args.map (fun x=>raw s x)++caps).map (deep s 8)) args') (hi:d.noImm=true∨(first++args.map (fun x=>raw s x)++caps).all D.noRef=true) (hK:K d s):zAn (CT P G) s (.callvX x args) K:=by simp only [zAn,hx];exact .inl ⟨args',d,he,hC,hi,hK⟩
theorem yNs {f:FuncId} {args:List Operand} {i r:Nat} {tag:Option Nat} {cells args' cells0:List D} {d:D} {cells':List D} (hC:ContractX P G f i args' cells0 d cells') (hi:(args.map fun x=>raw s x)[i]?=some (.ptr r [] 0 0)) (hs:s[r]?=some (.box tag cells))
    (hle:leL (((args.map fun x=>raw s x).map (D.prune (zAh r))).map (deep ((zAg (zAh r) s).set r .undef) 8)) args') (hlc:leL (zAg (fun _=>false) cells) cells0) (hn:(d.noImm=true∧zAq cells'=true)∨((args.map fun x=>raw s x).map (D.prune (zAh r))).all D.noRef=true) (hK:K d ((zAg (zF0 r) s).set r (.box tag cells'))):zAn (CT P G) s (.callX f args) K :=
  .inr (.inl ⟨i,r,tag,cells,args',cells0,hi,hs,hle,hlc,fun b _=>⟨d,cells',tag,.inl rfl,hC.at b,hn,hK⟩⟩)
theorem zSf {f:FuncId} {args:List Operand} {i r:Nat} {x:Operand} {d0 d' dnew res:D} {args':List D} (fr:Bool) (hC:zB6 P G f i args' d0 res d') (hx:args[i]?=some x) (hl:zTl s r x fr d0 d' dnew d') (ho:((args.map fun x=>raw s x).set i .undef).all (fun u=>!u.owny)=true)
    (hle:leL ((((args.map fun x=>raw s x).set i .undef).map (D.prune (zAh r))).map (deep ((zAg (zAh r) s).set r .undef) 8)) args') (hn:(fr=false∧res.noImm=true∧d'.noImm=true)∨(fr=true∧(((args.map fun x=>raw s x).set i .undef).map (D.prune (zAh r))).all D.noRef=true)) (hK:K res ((zAg (zAh r) s).set r dnew)):zAn (CT P G) s (.callX f args) K :=
  .inr (.inr (.inl ⟨i,r,x,fr,d0,d',dnew,d',res,args',hx,hl,.inr ho,hle,hC,hn,.inl hK⟩))
theorem zBx {f:FuncId} {args:List Operand} {i r:Nat} {x:Operand} {tag:Option Nat} {cells:List D} {q:zB1} {tg:Option Nat} {cs cells0 cells':List D} {d res dnew:D} {args' A:List D} (hC:ContractX P G f i args' cells0 res cells') (hx:args[i]?=some x) (hs:s[r]?=some d) (hd:d=.box tag cells) (hq:q≠[]) (hlk:lk s x=.ptr r q 0 0) (htr:zAj d q=some (.box tg cs)) (h0:zAg (fun _=>false) cs=cells0) (hnew:setAt (d.prune (fun _=>false)) q (.box tg cells')=dnew) (hb:dnew.boxy=true)
    (hA:(((args.map fun x=>raw s x).set i .undef).map (D.prune (zAh r))).map (deep ((zAg (zAh r) s).set r .undef) 8)=A) (hle:leL A args') (hn:res.noImm=true∧zAq cells'=true) (hK:K res ((zAg (zF0 r) s).set r dnew)):zAn (CT P G) s (.callX f args) K:=by
  refine .inr (.inr (.inl ⟨i,r,x,false,.box none cells0,.box none cells',dnew,.box tg cells',res,args',hx,?_,.inl ⟨d,hs,by rw [hd];rfl⟩,hA ▸ hle,hC.lend,.inl ⟨rfl,hn.1,by simpa [D.noImm] using hn.2⟩,.inr ⟨rfl,⟨d,hs,by rw [hd];rfl⟩,hb,hK⟩⟩));unfold zTl;rw [hs];exact .inr (.inr (.inr (.inl ⟨q,tg,cs,cells',rfl,hq,hlk,htr,by rw [h0],rfl,rfl,hnew.symm⟩)))
theorem zSg {f:FuncId} {args:List Operand} {i r:Nat} {x:Operand} {tag:Option Nat} {cells:List D} {q:zB1} {tg:Option Nat} {cs cells0 cells' rest rest':List D} {d res dnew:D} {args' A:List D} (hC:zB6 P G f i args' (.agg (.box none cells0::rest')) res (.agg (.box none cells'::rest'))) (hx:args[i]?=some x) (hs:s[r]?=some d) (hd:d=.box tag cells) (hq:q≠[]) (hlk:lk s x=.agg (.ptr r q 0 0::rest)) (hrr:rest=rest') (hfl:rest'.all D.flatI=true) (htr:zAj d q=some (.box tg cs)) (h0:zAg (fun _=>false) cs=cells0) (hnew:setAt (d.prune (fun _=>false)) q (.box tg cells')=dnew) (hb:dnew.boxy=true)
    (hA:(((args.map fun x=>raw s x).set i .undef).map (D.prune (zAh r))).map (deep ((zAg (zAh r) s).set r .undef) 8)=A) (hle:leL A args') (hn:res.noImm=true∧zAq cells'=true) (hK:K res ((zAg (zF0 r) s).set r dnew)):zAn (CT P G) s (.callX f args) K:=by
  subst hrr;refine .inr (.inr (.inl ⟨i,r,x,false,_,_,dnew,.box tg cells',res,args',hx,?_,.inl ⟨d,hs,by rw [hd];rfl⟩,hA ▸ hle,hC,.inl ⟨rfl,hn.1,by simpa [D.noImm] using hn.2⟩,.inr ⟨rfl,⟨d,hs,by rw [hd];rfl⟩,hb,hK⟩⟩));unfold zTl;rw [hs];exact .inr (.inr (.inr (.inr (.inl ⟨q,tg,cs,rest,cells',rfl,hq,hlk,hfl,htr,by rw [h0],rfl,rfl,hnew.symm⟩))))
theorem zCr {f:FuncId} {args:List Operand} {i r:Nat} {tag:Option Nat} {cells A args' cells0:List D} {d:D} {cells':List D} (hC:ContractX P G f i args' cells0 d cells') (hi:(args.map fun x=>raw s x)[i]?=some (.ptr r [] 0 0)) (hs:s[r]?=some (.box tag cells))
    (hA:((args.map fun x=>raw s x).map (D.prune (zAh r))).map (deep ((zAg (zAh r) s).set r .undef) 8)=A) (hle:leL A args') (hlc:leL (zAg (fun _=>false) cells) cells0) (hn:(d.noImm=true∧zAq cells'=true)∨((args.map fun x=>raw s x).map (D.prune (zAh r))).all D.noRef=true) (hK:K d ((zAg (zF0 r) s).set r (.box tag cells'))):zAn (CT P G) s (.callX f args) K :=
  yNs hC hi hs (hA ▸ hle) hlc hn hK
theorem zO0 {f:FuncId} {r:Nat} {x y:Operand} {tag:Option Nat} {cells cells':List D} {k:Value} {res:D} (hC:zB6 P G f 0 [.undef,.v k] (.agg cells) res (.agg cells')) (hs:s[r]?=some (.box tag cells)) (hx:lk s x=.agg (zIf r [] 0 0 cells)) (hy:raw s y=.v k) (he:zD4 cells=true) (hK:K res ((zAg (zAh r) s).set r (.box tag cells'))):zAn (CT P G) s (.callX f [x,y]) K :=
  zSf (x:=x) true hC rfl (by unfold zTl;rw [hs];exact .inr (.inl ⟨rfl,tag,cells,cells',rfl,hx,he,rfl,rfl,rfl⟩)) (by simp [hy,D.owny]) (by simp [hy,D.prune,deep,leL,D.le]) (.inr ⟨rfl,by simp [hy,D.prune,D.noRef]⟩) hK
theorem zX7 {f:FuncId} {r:Nat} {x y:Operand} {d d':D} {k:Value} {res:D} (hC:zB6 P G f 0 [.undef,.v k] d res d') (hs:s[r]?=some d) (hx:lk s x=.ref r []) (hy:raw s y=.v k) (he:d.exact=true) (hK:K res ((zAg (zAh r) s).set r d')):zAn (CT P G) s (.callX f [x,y]) K :=
  zSf (x:=x) true hC rfl (by unfold zTl;rw [hs];exact .inl ⟨rfl,.inr hx,he,rfl,rfl⟩) (by simp [hy,D.owny]) (by simp [hy,D.prune,deep,leL,D.le]) (.inr ⟨rfl,by simp [hy,D.prune,D.noRef]⟩) hK
theorem Contract.imm {f:FuncId} {args:List D} {d:D} (h:Contract P G f args d):Contract P G f args d.imm:=by refine ⟨h.1,fun w I us hG hI hV=>(h.2 w I us hG hI hV).mono ?_⟩;rintro e w' ⟨v,F,I',he,hb,hT,hn,hF,hI1,hI2⟩;exact ⟨v,[],fun b=>I' b∨b∈F,he,hb,T.imm (fun b h=>.inl h) d hT (fun b hb=>.inr hb),List.nodup_nil,fun b hb=>(List.not_mem_nil hb).elim,fun b hb=>.inl (hI1 b hb),fun b hb=>hb.elim (hI2 b) (fun h=>⟨.inr (hF b h).1,(hF b h).2.1⟩)⟩
theorem yHd {f:FuncId} {args:List Operand} {args':List D} {d:D} (hC:Contract P G f args' d) (he:leL (args.map fun x=>deep s 8 (raw s x)) args') (hi:d.noImm=true∨((args.map fun x=>raw s x).all D.noRef)=true) (hK:K d s):zAn (CT P G) s (.call f args) K :=
  .inl ⟨args',d,he,hC,hi,hK⟩
def yTk (x:Value × Value × Value):List D:=[.v x.1,.v x.2.1,.v x.2.2]
theorem zFn {α:Type} {Ctr:CtrT} {mask:List Bool} {c:VCode} (st:α→List D) (J:α→Prop) (μ:α→Nat) (a:α) (h0:zEj (clr mask s) (st a)) (hJ:J a) (h:∀ a,J a→c.wp Ctr (zNy (fun s''=>∃ b,μ b < μ a∧J b∧zEj (clr mask s'') (st b)) Q) (st a)):(VCode.loop mask c).wp Ctr Q s:=by
  refine zW7 (fun n s=>∃ a,μ a=n∧J a∧s=st a) (μ a) ⟨_,h0,a,rfl,hJ,rfl⟩ ?_;rintro n s' ⟨b,rfl,hb,rfl⟩;have e:(fun s''=>∃ m,m < μ b∧∃ s1,zEj (clr mask s'') s1∧∃ a,μ a=m∧J a∧s1=st a)=(fun s''=>∃ a,μ a < μ b∧J a∧zEj (clr mask s'') (st a)):=by funext s'';exact propext ⟨fun ⟨m,h1,s1,h2,a,h3,h4,h5⟩=>⟨a,by omega,h4,h5 ▸ h2⟩,fun ⟨a,h1,h2,h3⟩=>⟨μ a,h1,_,h3,a,rfl,h2,rfl⟩⟩
  rw [e];exact h b hb
theorem wrN {i:Nat} (h:i+1 < 9223372036854775808):IntKind.i64.wrap ((i:Int)+1)=((i+1:Nat):Int):=IntWalk.i64_in _ (by omega)
theorem wrI {a:Int} (h1 : -9223372036854775808≤a) (h2:a≤9223372036854775807):IntKind.i64.wrap a=a:=IntWalk.i64_in _ (by omega)
end
def slG:Option D→Option (Nat × List (List D))
  | some (.sl true sz rows)=>some (sz,rows)
  | _=>none
theorem yDs {q:zB1} {d:D}:slF q (some d)=slG (zAj d q):=by unfold slF slG;rfl
theorem yPl {sz rows}:slG (some (.sl true sz rows))=some (sz,rows):=rfl
def zU5:Option D→Bool
  | some (.box _ _)=>true
  | _=>false
theorem zTn {q:zB1} {d:D}:zOp q (some d)=zU5 (zAj d q):=by unfold zOp zU5;rfl
theorem yBm {o sz rows}:zU5 (some (.sl o sz rows))=false:=rfl
theorem zXd {g cs}:zU5 (some (.box g cs))=true:=rfl
def yTj (i:Nat):Option (Nat × List (List D))→Option (List D)
  | some (_,rows)=>rows[i]?
  | none=>none
def yT6 (i:Nat):Option D→Option (List D)
  | some t=>yTj i t.cont
  | none=>none
theorem zZ0 {q:zB1} {i:Nat} {d:D}:yOu q i (some d)=yT6 i (zAj d q):=by unfold yOu yT6 yTj;rfl
theorem zZz {i:Nat} {t:D}:yT6 i (some t)=yTj i t.cont:=rfl
theorem zZy {i:Nat} {n rows}:yTj i (some (n,rows))=rows[i]?:=rfl
theorem yE9 {a b c d:Nat}:((a,b)==(c,d))=(a==c&&b==d):=rfl
attribute [go_sem] yE9 yDs yPl zTn yBm zXd zZ0 zZz zZy
end Go.V
namespace Go.V
open Go.RowKit
set_option autoImplicit false
def ovr (s:List D):List (Nat × D)→List D
  | []=>s
  | p::r=>ovr (s.set p.1 p.2) r
theorem zBy {s:List D}:ovr s []=s:=rfl
theorem zBe {s:List D} {i:Nat} {d:D} {r:List (Nat × D)}:ovr s ((i,d)::r)=ovr (s.set i d) r:=rfl
theorem zBz {α:Type} {Ctr:CtrT} {mask:List Bool} {c:VCode} {Q:VExit→List D→Prop} {s s0:List D} {st:α→List D} (hs:clr mask s=s0) (ov:α→List (Nat × D)) (hst:∀ a,ovr s0 (ov a)=st a) (J:α→Prop) (μ:α→Nat) (a:α) (h0:zEj s0 (st a)) (hJ:J a)
    (h:∀ a,J a→c.wp Ctr (zNy (fun s''=>∃ b,μ b < μ a∧J b∧zEj (clr mask s'') (st b)) Q) (st a)):(VCode.loop mask c).wp Ctr Q s :=
  zFn st J μ a (hs ▸ h0) hJ h
theorem zCe {a b:D} {xs ys:List D}:zEj (a::xs) (b::ys)=(nle a b∧zEj xs ys) :=
  propext ⟨fun h=>by simp only [zEj] at h;obtain ⟨e,es,h1,h2,h3⟩:=h;simp only [List.cons.injEq] at h1;obtain ⟨rfl,rfl⟩:=h1;exact ⟨h2,h3⟩,fun h=>zBc h.1 h.2⟩
theorem zCd:zEj [] []=True:=eq_true zBq
theorem zBs {d:D}:nle d d=True:=eq_true (zTd d)
theorem zBu {t:Option Nat} {cs es:List D}:nle (.box t cs) (.box t es)=zEj cs es :=
  propext ⟨fun h=>by simp only [nle] at h;obtain ⟨e,h1,h2⟩:=h;simp only [D.box.injEq,true_and] at h1;exact h1 ▸ h2,zB9⟩
theorem zBv {cs es:List D}:nle (.agg cs) (.agg es)=zEj cs es :=
  propext ⟨fun h=>by simp only [nle] at h;obtain ⟨e,h1,h2⟩:=h;simp only [D.agg.injEq] at h1;exact h1 ▸ h2,zCa⟩
theorem zBt {sz:Nat}:nle .nils (.sl true sz [])=True:=eq_true zB8
section
variable {P:Program} {G:World→(Nat→Prop)→Prop} {s:List D} {K:D→List D→Prop}
theorem yHe {f:FuncId} {args:List Operand} {A args':List D} {d:D} (hC:Contract P G f args' d) (hA:(args.map fun x=>deep s 8 (raw s x))=A) (he:leL A args') (hi:d.noImm=true∨((args.map fun x=>raw s x).all D.noRef)=true) (hK:K d s):zAn (CT P G) s (.callX f args) K :=
  zT8 hC (hA ▸ he) hi hK
theorem yCc {f:FuncId} {args:List Operand} {A args':List D} {d:D} (hC:Contract P G f args' d) (hA:(args.map fun x=>deep s 8 (raw s x))=A) (he:leL A args') (hi:d.noImm=true∨((args.map fun x=>raw s x).all D.noRef)=true) (hK:K d s):zAn (CT P G) s (.call f args) K :=
  yHd hC (hA ▸ he) hi hK
end
section
variable {Ctr:CtrT} {m:List Bool} {next:List D→Prop} {Q:VExit→List D→Prop} {s:List D}
theorem yKm:zUt m next Q .normal s=∃ s1,zEj (clr m s) s1∧next s1:=rfl
theorem yKl:zUt m next Q .ret s=Q .ret (clr m s):=rfl
theorem yKn {i}:zUt m next Q (.exit i) s=Q (.exit i) (clr m s):=rfl
theorem zS7 {ds:List D}:zMi s [] ds=s:=by cases ds <;> rfl
theorem zQ9 {p ps d ds}:zMi s (p::ps) (d::ds)=zMi (zI3 s p d) ps ds:=rfl
end
attribute [go_sem] yKm yKl yKn zS7 zQ9
end Go.V
