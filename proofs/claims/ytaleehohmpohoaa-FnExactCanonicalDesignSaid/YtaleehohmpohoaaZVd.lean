/- Laws that the proof stands on. -/
import Derived.Test.YtaleehohmpohoaaZVc
set_option linter.all false
namespace Go.V
open Go.RowKit
/-! ### Regions that draw, order by order: what hangs on no memory goes first -/
def freeV:Op→VOp→Bool
  | .move _,.mv _=>true
  | .fieldAddr _ _ _,.fa _ _=>true
  | .indexAddr _ _ _,.ia _ _ _=>true
  | .call _,.len _=>true
  | .binOp _ _ _ _ _,.bin _ _ _=>true
  | _,_=>false
section
variable (P:Program)
def freeE (ops:Array Oper)(oi:Oper)(i:Nat):Bool:=(List.range ops.size).all fun j=>j==i||match ops[j]? with
  | some oj=>oj.after.any (fun e=>Region.binds .any e&&e.on==i)||oi.after.any (fun e=>Region.binds .any e&&e.on==j)||oi.apart ops oj
  | none=>true
def frOK (ops:Array Oper)(i:Nat):Bool:=match ops[i]? with
  | some o=>o.guard.isNone&&(match cOp P false o.op with | some v=>freeV o.op v | none=>false)&&freeE ops o i
  | none=>false
def frees (ops:Array Oper)(nh:Nat):List Nat:=(List.range nh).filter (frOK P ops)
def genTF (ops:Array Oper) (M:List Nat) (nh:Nat):Nat→Nat→Array Bool→Option (VT×Nat)
  | fuel,bud,listed =>
    if (bud==0)=true then none else
    if (decide (fuel=ops.size-nh)&&listed==headArr ops.size nh&&Region.seqB .any ops (ops.size-nh) nh listed)=true then some (.done,bud-1) else
    match fuel with
    | 0=>none
    | f+1=>match (Region.ready .any ops listed).find? (fun i=>M.contains i) with
      | some i=>genH P (fun i b=>genTF ops M nh f b (listed.setIfInBounds i true)) ops i (bud-1)
      | none=>if ((Region.ready .any ops listed).isEmpty||!(Region.ready .any ops listed).all (fun i=>decide (i<nh)))=true then none else genL P (fun i b=>genTF ops M nh f b (listed.setIfInBounds i true)) ops (Region.ready .any ops listed) (bud-1)
def cDrawFr (ops:Array Oper) (nh:Nat):Option VCode :=
  if (P.follows .mixedOrders&&Region.noSelect ops&&decide (nh≤ops.size))=true then
    match genTF P ops (frees P ops nh) nh ops.size 1200 (Array.replicate ops.size false),cVOs P ops (ops.toList.drop nh) with
    | some (t,_),some tail=>some (.drawT t tail)
    | _,_=>none
  else none
end
section
variable {P:Program} {G:World→(Nat→Prop)→Prop} {w0:Base} {I0:Nat→Prop}
theorem freeE_free {ops:Array Oper} {i:Nat} {oi:Oper} {listed:Array Bool} (hi:ops[i]?=some oi) (h:freeE ops oi i=true) (hr:i∈Region.ready .any ops listed):Region.free .any ops listed i=true:=by
  obtain ⟨_,o',ho',hed⟩:=mem_ready.1 hr;rw [hi] at ho';cases ho';unfold Region.free;rw [hi];simp only;unfold freeE at h;rw [List.all_eq_true] at h ⊢;intro j hj;have h1:=h j hj;cases ho:ops[j]? with
  | none=>simp
  | some oj =>
    rw [ho] at h1;simp only at h1;rcases Bool.or_eq_true_iff.1 h1 with h2 | h2
    · rw [h2];rfl
    · rcases Bool.or_eq_true_iff.1 h2 with h3 | h3
      · rcases Bool.or_eq_true_iff.1 h3 with h4 | h4
        · simp only [h4,Bool.true_or,Bool.or_true]
        · obtain ⟨e,he,hb⟩:=Array.any_eq_true'.1 h4;simp only [Bool.and_eq_true,beq_iff_eq] at hb;have h5:=hed e he hb.1;rw [hb.2] at h5;have h6:listed.getD j true=true:=by
            rcases Nat.lt_or_ge j listed.size with h' | h'
            · simp [h'] at h5 ⊢;exact h5
            · simp [Array.getElem?_eq_none h']
          simp only [h6,Bool.or_true,Bool.true_or]
      · simp only [h3,Bool.or_true]
def Still (P:Program)(m:Sem Next):Prop:=∃ v,∀ w,m.run P w=.ok (.value v) w
variable {Ctr:CtrT} {s:List D} {a:Act} {w:World} {I:Nat→Prop} {Fs:Nat→List Nat} {K:D→List D→Prop}
theorem still_fa (h:RelI w0 I0 s a.tmps w I Fs){off n:Nat}{x:Operand}{st:TypeId}{f:Nat}{fs:Array Field}{fd:Field}{o:Oper}(ho:o.op=.fieldAddr st x f)(hs:P.underlying st=some (.struct fs))(hf:fs[f]?=some fd)(hn:(P.info? fd.type).map (·.size)=some (n+1))(hk:evalK Ctr s (.fa off x) K):Still P (execOp a.eval o):=by
  have hx:=lk_T h x;simp only [evalK] at hk;split at hk
  · rename_i r q i j e;rw [e] at hx;simp only [T] at hx;obtain ⟨⟨d,u0,t,sz,rows,u1,b,oo,h1,h2,h3,h4,h5,h6,h7⟩,_⟩:=hx;exact ⟨.pointer (some ⟨b,oo+i*sz+j+fd.offset,none⟩),fun w'=>by simp [execOp,ho,h7,Instr.fieldAt,run_underlying hs,hf,Instr.sureAddr,fieldPlace_run hn]⟩
  · rename_i c j e;rw [e] at hx;simp only [T] at hx;obtain ⟨_,b,oo,raw,e',hI,hr,hc⟩:=hx;exact ⟨.pointer (some ⟨b,oo+j+fd.offset,none⟩),fun w'=>by simp [execOp,ho,e',Instr.fieldAt,run_underlying hs,hf,Instr.sureAddr,fieldPlace_run hn]⟩
  · exact hk.elim
theorem still_ia (h:RelI w0 I0 s a.tmps w I Fs) {sz:Nat} {x i:Operand} {xt et:TypeId} {o:Oper} (ho:o.op=.indexAddr xt x i) (hx:P.underlying xt=some (.slice et)) (hsz:(P.info? et).map (·.size)=some sz) (hk:evalK Ctr s (.ia sz x i) K):Still P (execOp a.eval o):=by
  have hX:=lk_T h x;have hI:=lk_T h i;have hrun:∀ (k:IntKind) (n:Int) (b oo l c:Nat),a.eval i=.int k n→a.eval x=.slice (some ⟨b,oo,none⟩) l c→0≤n→n<l→Still P (execOp a.eval o):=by
    intro k n b oo l c e1 e2 h1 h2;cases hq:P.info? et with
    | none=>simp [hq] at hsz
    | some ii=>simp [hq] at hsz;exact ⟨.pointer (some ⟨b,oo+n.toNat*sz,none⟩),fun w'=>by simp [execOp,ho,e1,e2,Instr.indexAt,asIntOf,run_underlying hx,h1,h2,sizeOf,typeInfo,hq,hsz,Addr.add_mid]⟩
  simp only [evalK] at hk;split at hk
  · rename_i k n r q e1 e2;rw [e1] at hI;rw [e2] at hX;split at hk
    · rename_i sz' rows e3;obtain ⟨h1,h2,rfl,hK⟩:=hk;obtain ⟨F',ρ',k2,_⟩:=ref_form h hX e3;have hlt:n.toNat<rows.length:=by omega
      obtain ⟨b,oo,us,F2,ρ2,hb,_⟩:=row_T k2 (by rfl) (List.getElem?_eq_getElem hlt);obtain ⟨ad,c,e4,_,_⟩:=T_sl_form k2;rw [e4] at hb;have:ad=some ⟨b,oo,none⟩:=by
        cases ad with
        | none=>simp [baseOf] at hb
        | some z=>obtain ⟨z1,z2,z3⟩:=z;cases z3<;>simp [baseOf] at hb;simp [hb]
      subst this;exact hrun k n b oo _ c (T_v hI).1 e4 h1 h2
    · exact hk.elim
  · rename_i k n sz' rows e1 e2;rw [e1] at hI;rw [e2] at hX;obtain ⟨h1,h2,rfl,row,hrow,hK⟩:=hk;simp only [T] at hX;obtain ⟨ad,c,e4,_,_,h3⟩:=hX;rcases h3 with ⟨_,_,h3⟩ | ⟨h3,_⟩
    · rcases h3 with h3 | ⟨b,oo,raw,rfl,hIb,hr,hR⟩
      · subst h3;simp at hrow
      · exact hrun k n b oo _ c (T_v hI).1 e4 h1 h2
    · simp at h3
  · exact hk.elim
theorem still_len (h:RelI w0 I0 s a.tmps w I Fs){x:Operand}{xt e:TypeId}{args:Array TypeId}{o:Oper}(ho:o.op=.call { callee:=.builtin .len,args:=#[x],argTypes:=args })(ha:args[0]?=some xt)(hx:P.underlying xt=some (.slice e))(hk:evalK Ctr s (.len x) K):Still P (execOp a.eval o):=by
  have hX:=lk_T h x;simp only [evalK] at hk;split at hk
  · rename_i sz rows e1;obtain ⟨b,c,e2,_⟩:=sl_form h hX e1;exact ⟨.int .i64 rows.length,fun w'=>by simp [execOp,ho,resolve,invoke,builtin,Builtin.len_,ha,e2,run_underlying hx,goInt]⟩
  · exact hk.elim
theorem still_bin (h:RelI w0 I0 s a.tmps w I Fs){op:BinOp}{x y:Operand}{xt yt:TypeId}{o:Oper}(ho:o.op=.binOp op xt x y yt)(hk:evalK Ctr s (.bin op x y) K):Still P (execOp a.eval o):=by
  have hx:=lk_T h x;have hy:=lk_T h y;simp only [evalK] at hk;split at hk
  · rename_i k b1 k' b2 e1 e2;rw [e1] at hx;rw [e2] at hy;obtain ⟨v,hv,hr⟩:=intK_run (P:=P) hk xt;refine ⟨v,fun w'=>?_⟩;have hg:(eqGuard op xt x y (.int k b1) (.int k' b2)).run P w'=.ok () w':=by unfold eqGuard;split<;>rfl
    simp only [execOp,ho,(T_v hx).1,(T_v hy).1,Sem.run_bind,hg,Result.andThen_ok,hr];rfl
  · rename_i b1 b2 e1 e2;rw [e1] at hx;rw [e2] at hy;obtain ⟨v,hv,hr⟩:=strK_run (P:=P) hk xt;refine ⟨v,fun w'=>?_⟩;have hg:(eqGuard op xt x y (.string b1) (.string b2)).run P w'=.ok () w':=by unfold eqGuard;split<;>rfl
    simp only [execOp,ho,(T_v hx).1,(T_v hy).1,Sem.run_bind,hg,Result.andThen_ok,hr];rfl
  · exact hk.elim
theorem still_op (h:RelI w0 I0 s a.tmps w I Fs) {o:Oper} {v:VOp} (hf:freeV o.op v=true) (hc:cOp P false o.op=some v) (hk:evalK Ctr s v K):Still P (execOp a.eval o):=by
  cases hop:o.op with
  | move x=>exact ⟨a.eval x,fun w'=>by simp only [execOp,hop];rfl⟩
  | fieldAddr st x f =>
    rw [hop] at hc;simp only [cOp] at hc;split at hc
    · rename_i fs hs;split at hc
      · rename_i fd hfd;split at hc
        · rename_i i hi;split at hc
          · rename_i hpos;simp only [Option.some.injEq] at hc;subst hc;exact still_fa (n:=i.size-1) h hop hs hfd (by rw [hi];simp;omega) hk
          · cases hc
        · cases hc
      · cases hc
    · cases hc
  | indexAddr t x i =>
    rw [hop] at hc hf;simp only [cOp] at hc;split at hc
    · rename_i e hs;split at hc
      · rename_i ie hi;simp only [Option.some.injEq] at hc;subst hc;exact still_ia h hop hs (by rw [hi];rfl) hk
      · cases hc
    · split at hc
      · simp only [Option.some.injEq] at hc;subst hc;simp [freeV] at hf
      · cases hc
    · cases hc
  | binOp op xt x y yt =>
    rw [hop] at hc hf;have:∀ op2 x2 y2,v=.bin op2 x2 y2→op2=op∧x2=x∧y2=y:=by
      rintro op2 x2 y2 rfl;simp only [cOp] at hc
      repeat' split at hc
      all_goals simp_all
    cases v<;>simp only [freeV,Bool.false_eq_true] at hf;obtain ⟨rfl,rfl,rfl⟩:=this _ _ _ rfl;exact still_bin h hop hk
  | call c =>
    rw [hop] at hc hf;obtain ⟨callee,args,ats⟩:=c;cases v<;>simp only [freeV,Bool.false_eq_true] at hf;rename_i x;simp only [cOp] at hc;split at hc
    · simp at hc
    · simp at hc
    · split at hc
      · rename_i y t ha ht;split at hc
        · simp at hc
        · rename_i e hu;simp only [Option.some.injEq,VOp.len.injEq] at hc;subst hc;rw [arr1 ha] at hop;exact still_len h hop ht hu hk
        · simp at hc
        · cases hc
      · cases hc
    all_goals exfalso;revert hc;repeat' split
    all_goals simp
  | _=>rw [hop] at hf;simp [freeV] at hf
inductive OKF (P:Program) (ops:Array Oper) (nh:Nat):VT→Nat→Array Bool→List Nat→Prop
  | done {fuel listed rdy}:fuel=ops.size-nh→listed=headArr ops.size nh→Region.seqB .any ops (ops.size-nh) nh listed=true→OKF P ops nh .done fuel listed rdy
  | nil {fuel listed}:OKF P ops nh .nil fuel listed []
  | h {i o op sub f listed rdy}:ops[i]?=some op→cVO P false ops op=some o→frOK P ops i=true→i∈Region.ready .any ops listed→OKF P ops nh sub f (listed.setIfInBounds i true) (Region.ready .any ops (listed.setIfInBounds i true))→(sub=.nil→False)→OKF P ops nh (.h i o sub) (f+1) listed rdy
  | br {i o op sub rest f listed is}:ops[i]?=some op→cVO P false ops op=some o→OKF P ops nh sub f (listed.setIfInBounds i true) (Region.ready .any ops (listed.setIfInBounds i true))→(sub=.nil→False)→OKF P ops nh rest (f+1) listed is→(rest=.done→False)→(∀ a b c,rest=.h a b c→False)→OKF P ops nh (.br i o sub rest) (f+1) listed (i::is)
theorem genL_specF {ops:Array Oper} {nh f:Nat} {listed:Array Bool} {g:Nat→Nat→Option (VT×Nat)} (hg:∀ i b t b',g i b=some (t,b')→OKF P ops nh t f (listed.setIfInBounds i true) (Region.ready .any ops (listed.setIfInBounds i true))∧(t=.nil→False)):∀ (is:List Nat) {bud:Nat} {t:VT} {b':Nat},genL P g ops is bud=some (t,b')→OKF P ops nh t (f+1) listed is∧(t=.done→False)∧(∀ a b c,t=.h a b c→False)∧(t=.nil→is=[])
  | [],bud,t,b',h=>by simp only [genL,Option.some.injEq,Prod.mk.injEq] at h;obtain ⟨rfl,_⟩:=h;exact ⟨.nil,(fun h=>by cases h),(fun _ _ _ h=>by cases h),fun _=>rfl⟩
  | i :: is,bud,t,b',h=>by
    simp only [genL] at h;split at h
    · rename_i op hop;split at h
      · rename_i o ho;split at h
        · rename_i sub b1 hs;split at h
          · rename_i rest b2 hr;simp only [Option.some.injEq,Prod.mk.injEq] at h;obtain ⟨rfl,_⟩:=h;obtain ⟨h1,h2⟩:=hg _ _ _ _ hs;obtain ⟨h3,h4,h5,_⟩:=genL_specF hg is hr;exact ⟨.br hop ho h1 h2 h3 h4 h5,(fun h=>by cases h),(fun _ _ _ h=>by cases h),(fun h=>by cases h)⟩
          · cases h
        · cases h
      · cases h
    · cases h
theorem genTF_spec {ops:Array Oper} {M:List Nat} (hM:∀ i,i∈M→frOK P ops i=true) {nh:Nat}:∀ (fuel:Nat) {bud:Nat} {listed:Array Bool} {t:VT} {b':Nat},genTF P ops M nh fuel bud listed=some (t,b')→OKF P ops nh t fuel listed (Region.ready .any ops listed)∧(t=.nil→False)
  | fuel, bud,listed,t,b',h=>by
    unfold genTF at h;split at h
    · cases h
    · split at h
      · rename_i hd;simp only [Bool.and_eq_true,decide_eq_true_eq,beq_iff_eq] at hd;simp only [Option.some.injEq,Prod.mk.injEq] at h;obtain ⟨rfl,_⟩:=h;exact ⟨.done hd.1.1 hd.1.2 hd.2,(fun h=>by cases h)⟩
      · cases fuel with
        | zero=>cases h
        | succ f =>
          simp only at h;split at h
          · rename_i i hf;have hmem:=List.mem_of_find?_eq_some hf;have hp:=List.find?_some hf;unfold genH at h;split at h
            · rename_i op hop;split at h
              · rename_i o ho;split at h
                · rename_i sub b1 hs;simp only [Option.some.injEq,Prod.mk.injEq] at h;obtain ⟨rfl,_⟩:=h;obtain ⟨h1,h2⟩:=genTF_spec hM f hs;exact ⟨.h hop ho (hM i (by simpa using hp)) hmem h1 h2,(fun h=>by cases h)⟩
                · cases h
              · cases h
            · cases h
          · split at h
            · cases h
            · rename_i hne;simp only [Bool.or_eq_true,Bool.not_eq_true',not_or] at hne;obtain ⟨h1,h2,_,h3⟩:=genL_specF (nh:=nh) (f:=f) (listed:=listed) (fun i b t b' hgt=>genTF_spec hM f hgt) _ h;refine ⟨h1,fun h=>?_⟩;rw [h3 h] at hne;exact hne.1 rfl
theorem sim_treeF (hcl:∀ w',w0.Below w'→GI G w' I0) {ops:Array Oper} {nh:Nat} {Q:Exit→Act→World→Prop} (hQn:NoX Q) {KT:List D→Prop} (hs:Region.noSelect ops=true) (hT:∀ s a w,KT s→Rel w0 I0 s a w→wpList P ops Q (ops.toList.drop nh) a w) {t:VT} {fuel:Nat} {VL:Array Bool} {rdy:List Nat} (ok:OKF P ops nh t fuel VL rdy) :
    ((t=.done∨∃ i o sub,t=.h i o sub)→∀ (s:List D) (a:Act) (w:World),t.wp (CT P G) KT s→Rel w0 I0 s a w→wpAny P .any ops Q fuel VL a w) ∧
    ((t=.nil∨∃ i o sub rest,t=.br i o sub rest)→∀ (s:List D) (a:Act) (w:World),t.wp (CT P G) KT s→Rel w0 I0 s a w→∀ i∈rdy,wpOp P ops Q i (wpAny P .any ops Q (fuel-1) (VL.setIfInBounds i true)) a w):=by
  have up:∀ {t:VT} {f:Nat} {VL:Array Bool},OKF P ops nh t f VL (Region.ready .any ops VL)→(t=.nil→False) →
      (((t=.done∨∃ i o sub,t=.h i o sub)→∀ (s:List D) (a:Act) (w:World),t.wp (CT P G) KT s→Rel w0 I0 s a w→wpAny P .any ops Q f VL a w) ∧
      ((t=.nil∨∃ i o sub rest,t=.br i o sub rest)→∀ (s:List D) (a:Act) (w:World),t.wp (CT P G) KT s→Rel w0 I0 s a w→∀ i∈Region.ready .any ops VL,wpOp P ops Q i (wpAny P .any ops Q (f-1) (VL.setIfInBounds i true)) a w)) →
      ∀ (s:List D) (a:Act) (w:World),t.wp (CT P G) KT s→Rel w0 I0 s a w→wpAny P .any ops Q f VL a w:=by
    intro t f VL ok hnn ih s a w hk hR;cases t with
    | done=>exact ih.1 (.inl rfl) s a w hk hR
    | nil=>exact (hnn rfl).elim
    | h i o sub=>exact ih.1 (.inr ⟨_,_,_,rfl⟩) s a w hk hR
    | br i o sub rest =>
      obtain ⟨f2,is,rfl,hrr⟩:∃ f2 is,f=f2+1∧Region.ready .any ops VL=i::is:=by
        generalize Region.ready .any ops VL=rr at ok;cases ok with
        | br=>exact ⟨_,_,rfl,rfl⟩
      have:=ih.2 (.inr ⟨_,_,_,_,rfl⟩) s a w hk hR;exact ⟨fun h0=>(by rw [hrr] at h0;cases h0),this⟩
  induction ok with
  | @done fuel listed rdy h1 h2 h3 =>
    subst h1;subst h2;refine ⟨fun _ s a w hk hR=>?_,(fun h=>by rcases h with h | ⟨_,_,_,_,h⟩<;>cases h)⟩;have hl:(ops.toList.drop nh).length=ops.size-nh:=by simp
    have:=wpAny_of_seq (P:=P) (md:=.any) (ops:=ops) (Q':=Q) (ops.toList.drop nh) nh (headArr ops.size nh) a w (fun j=>by simp [List.getElem?_drop]) (by rw [hl];exact h3) (hT s a w hk hR);rw [hl] at this;exact this
  | nil=>exact ⟨(fun h=>by rcases h with h | ⟨_,_,_,h⟩<;>cases h),(fun _ _ _ _ _ _ i hi=>by cases hi)⟩
  | @h i o op sub f listed rdy hop ho hfr hrd hsub hsn ih =>
    refine ⟨fun _ s a w hk hR=>?_,(fun h=>by rcases h with h | ⟨_,_,_,_,h⟩<;>cases h)⟩;simp only [VT.wp] at hk;unfold frOK at hfr;rw [hop] at hfr;simp only [Bool.and_eq_true] at hfr;obtain ⟨⟨hg,hfv⟩,hfree⟩:=hfr;have hg:op.guard=none:=by simpa using hg
    obtain ⟨hd,I,Fs,hRI⟩:=hR;have hGw:GI G w I0:=hcl _ hRI.below;have hv:=ho;simp only [cVO,hg,cGuard] at hv;cases hcop:cOp P false op.op with
    | none=>simp [hcop] at hv
    | some vop =>
    simp only [hcop,Option.some.injEq] at hv;rw [hcop] at hfv;subst hv;simp only [stepK] at hk;obtain ⟨u,hu⟩:=still_op hRI hfv hcop hk;have hrun:=sim_op (nn:=false) hGw hRI (fun h=>by cases h) hcop hk;unfold RunsTo at hrun;rw [hu] at hrun;obtain ⟨d,s',I',Fs',F,hK,hR',hT',hF,_⟩:=hrun;have hR2:Rel w0 I0 (match op.dst with | some t=>putD s' t d | none=>s') (a.put op.dst u) w:=put_rel hd hR' hT' hF;have hwant:∀ y,Region.wanted op y=true:=fun y=>by unfold Region.wanted;rw [hg]
    exact wpAny_take hop hs (freeE_free hop hfree hrd) (by simpa using hrd) (fun c a w h=>by have:=hQn _ _ _ h;cases this) (.inl ⟨hwant _,hu⟩) (up hsub hsn ih _ _ w hK hR2)
  | @br i o op sub rest f listed is hop ho hsub hsn hrest hrd hrh ih1 ih2 =>
    refine ⟨(fun h=>by rcases h with h | ⟨_,_,_,h⟩<;>cases h),fun _ s a w hk hR j hj=>?_⟩;simp only [VT.wp] at hk;by_cases hji:j=i
    · subst hji;exact sim_step hcl hop ho hk.1 rfl rfl (fun s' u w' hk' hR'=>up hsub hsn ih1 s' _ w' hk' hR') hR
    · have hj':j∈is:=by
        rcases List.mem_cons.1 hj with h | h
        · exact absurd h hji
        · exact h
      cases rest with
      | done=>exact (hrd rfl).elim
      | nil=>cases hrest;cases hj'
      | h i2 o2 s2=>exact (hrh _ _ _ rfl).elim
      | br i2 o2 s2 r2=>exact ih2.2 (.inr ⟨_,_,_,_,rfl⟩) s a w hk.2 hR j hj'
theorem sim_drawFr (hcl:∀ w',w0.Below w'→GI G w' I0) {ops:Array Oper} {nh:Nat} {vc:VCode} (hc:cDrawFr P ops nh=some vc) {VQ:VExit→List D→Prop} {Q:Exit→Act→World→Prop} (hQn:NoX Q) {s:List D} (hk:vc.wp (CT P G) VQ s) (hQ:∀ s a w,VQ .normal s→Rel w0 I0 s a w→Q .normal a w) {a:Act} {w:World} (h:Rel w0 I0 s a w):RegAny P ops Q a w:=by
  unfold cDrawFr at hc;split at hc
  · rename_i hm;simp only [Bool.and_eq_true] at hm;split at hc
    · rename_i t b tail hg ht;simp only [Option.some.injEq] at hc;subst hc;simp only [VCode.wp] at hk;obtain ⟨ok,hnn⟩:=genTF_spec (fun i hi=>by unfold frees at hi;exact (List.mem_filter.1 hi).2) _ hg;obtain ⟨hd,I,Fs,hR⟩:=h;have hR':Rel w0 I0 s a { w with drawn:=w.drawn+1 }:=⟨hd,I,Fs,hR.world (w':={ w with drawn:=w.drawn+1 }) ((Below.refl _ w).drew)⟩
      have hT:∀ s a w,opsK (CT P G) s tail (VQ .normal)→Rel w0 I0 s a w→wpList P ops Q (ops.toList.drop nh) a w:=fun s a w hk h=>sim_ops hcl ops (KK:=VQ .normal) hQ _ tail s a w ht hk h;have:=sim_treeF (nh:=nh) (Q:=Q) hcl hQn hm.1.2 (KT:=fun s'=>opsK (CT P G) s' tail (VQ .normal)) hT ok;refine ⟨hm.1.1,?_⟩;cases t with
      | done=>exact this.1 (.inl rfl) s a _ hk hR'
      | nil=>exact (hnn rfl).elim
      | h i o sub=>exact this.1 (.inr ⟨_,_,_,rfl⟩) s a _ hk hR'
      | br i o sub rest =>
        obtain ⟨f2,is,hf,hrr⟩:∃ f2 is,ops.size=f2+1∧Region.ready .any ops (Array.replicate ops.size false)=i::is:=by
          generalize Region.ready .any ops (Array.replicate ops.size false)=rr at ok;generalize Array.replicate ops.size false=ll at ok;generalize ops.size=nn at ok;cases ok with
          | br=>exact ⟨_,_,rfl,rfl⟩
        have h2:=this.2 (.inr ⟨_,_,_,_,rfl⟩) s a _ hk hR';rw [hf] at h2 ⊢;refine ⟨fun h0=>?_,?_⟩
        · rw [← hf,hrr] at h0;cases h0
        · exact h2
    · cases hc
  · cases hc
end
end Go.V
namespace Go.V
open Go.RowKit
def tmpsOf:List Operand→List Nat
  | []=>[]
  | .tmp t::l=>t::tmpsOf l
  | _::l=>tmpsOf l
def VOp.eats:VOp→List Nat
  | .asg x=>tmpsOf [x]
  | .box x=>tmpsOf [x]
  | .build _ ps=>tmpsOf (ps.map (·.2.2))
  | .bslN _ ps=>tmpsOf ps
  | .appN _ _ x y=>tmpsOf [x,y]
  | .app _ _ x y=>tmpsOf [x,y]
  | _=>[]
def topOf (l:List Nat):Nat:=l.foldl (fun m t=>max m (t+1)) 0
def maskOf (l:List Nat):List Bool:=(List.range (topOf l)).map fun i=>l.contains i
def isPlace (ops:Array Oper) (o:Oper):Bool :=
  match o.op with
  | .call c=>match c.callee with
    | .builtin .append=>match c.args.toList with
      | .tmp t::_=>ops.toList.any fun p=>p.dst==some t&&(match p.op with | .load _ _=>true | .move _=>true | _=>false)
      | _=>false
    | _=>false
  | _=>false
section
variable (P:Program)
def cDops (ops:Array Oper) (w:Option Nat):List Nat→Option (List (Nat×VO))
  | []=>some []
  | i :: is=>match ops[i]? with
    | some o=>match cVO P (w != some i) ops o,cDops ops w is with
      | some v,some vs=>some ((i,v)::vs)
      | _,_=>none
    | none=>none
end
def dstsOf (vos:List (Nat×VO)):List Nat:=vos.filterMap fun v=>v.2.dst
def mkDop (bs:List Nat)(start:List Bool)(vos:List (Nat×VO))(v:Nat×VO):DOp where
  idx:=v.1
  hid:=(List.range start.length).map fun r=>start.getD r false&&!(vos.any (fun e=>e.2.dst==some r&&(bs.getD v.1 0).testBit e.1)&&vos.all (fun j=>j.1==v.1||(bs.getD j.1 0).testBit v.1||!(j.2.op.eats.contains r)))
  cl:=maskOf (v.2.op.eats.filter fun t=>vos.any fun e=>e.2.dst==some t&&(bs.getD v.1 0).testBit e.1)
  vo:=v.2
def yOK (o:DOp):Bool:=match o.vo.op with
  | .app _ _ _ (.tmp t)=>o.cl.getD t false
  | _=>true
section
variable (P:Program)
def cDrawH (ops:Array Oper) (bs:List Nat) (nh n1:Nat) (start:List Bool) (H:List DOp) (tail:List VO):Option VCode :=
  if (P.follows .mixedOrders&&drawB ops H start nh)=true then
    match H.drop n1 with
    | []=>if H.all (fun o=>o.vo.op.framed)=true then some (.draw start (clAll H) H tail) else none
    | o::l2=>if ((H.take n1).all (fun o=>o.vo.op.framed)&&l2.all (fun o=>o.vo.op.framed)&&(H.take n1).all (fun k=>(bs.getD o.idx 0).testBit k.idx)&&o.vo.guard.isNone&&yOK o)=true then some (.drawW start (clAll H) (H.take n1) o l2 tail) else none
  else none
def cDrawV (ops:Array Oper) (bs:List Nat) (nh n1:Nat):Option (List (Nat×VO))→Option VCode
  | some vos=>match cVOs P ops (ops.toList.drop nh) with
    | some tail=>cDrawH P ops bs nh n1 (maskOf (dstsOf vos)) (vos.map (mkDop bs (maskOf (dstsOf vos)) vos)) tail
    | none=>none
  | none=>none
def cDrawW (ops:Array Oper)(bs:List Nat)(nh:Nat):Option Nat→Option VCode
  | none=>cDrawV P ops bs nh nh (cDops P ops none (List.range nh))
  | some w=>cDrawV P ops bs nh ((List.range nh).filter fun i=>(bs.getD w 0).testBit i).length (cDops P ops (some w) (((List.range nh).filter fun i=>(bs.getD w 0).testBit i)++w::(List.range nh).filter fun i=>i != w&&!(bs.getD w 0).testBit i))
def headLen (ops:Array Oper)(bs:List Nat):Nat:=((List.range (ops.size+1)).find? fun i=>(List.range ops.size).all fun t=>decide (t<i)||bs.getD t 0==2 ^ t-1).getD ops.size
def placeAt (ops:Array Oper)(nh:Nat):Option Nat:=(List.range nh).find? fun i=>match ops[i]? with | some o=>isPlace ops o | none=>false
def cDraw0 (ops:Array Oper):Option VCode:=cDrawW P ops (befs ops) (headLen ops (befs ops)) (placeAt ops (headLen ops (befs ops)))
def flCand (ops:Array Oper) (nh:Nat):List Fl:=(List.range nh).filterMap fun j=>match ops[j]? with
  | some o=>match o.op with
    | .store ty (.tmp t) _=>match P.info? ty with
      | some ti=>some ⟨t,ti.size,j,(List.range nh).find? fun i=>match ops[i]? with
        | some o'=>o'.dst==some t
        | none=>false⟩
      | none=>none
    | _=>none
  | none=>none
def cDopsB (ops:Array Oper) (fl:List Fl):List Nat→Option (List (Nat×VO))
  | []=>some []
  | i::is=>match cVB P ops fl i,cDopsB ops fl is with
    | some v,some vs=>some ((i,v)::vs)
    | _,_=>none
def cDrawF (ops:Array Oper)(bs:List Nat)(nh:Nat)(fl:List Fl)(start:List Bool)(H:List DOp)(tail:List VO):Option VCode :=
  if (P.follows .mixedOrders&&drawB ops H start nh&&H.all (fun o=>o.vo.op.framed)&&flOK bs nh fl)=true then some (.drawB (preOf fl) (filOf fl) start (clAll H) H tail) else none
def cDrawG (ops:Array Oper) (bs:List Nat) (nh:Nat) (fl:List Fl):Option (List (Nat×VO))→Option VCode
  | some vos=>match cVOs P ops (ops.toList.drop nh) with
    | some tail=>cDrawF P ops bs nh fl (maskOf (dstsOf vos)) (vos.map (mkDop bs (maskOf (dstsOf vos)) vos)) tail
    | none=>none
  | none=>none
def cDraw1 (ops:Array Oper)(bs:List Nat)(nh:Nat)(fl:List Fl):Option VCode:=cDrawG P ops bs nh fl (cDopsB P ops fl (List.range nh))
def cDraw (ops:Array Oper):Option VCode:=match cDraw0 P ops with
  | some l=>some l
  | none=>match cDraw1 P ops (befs ops) (headLen ops (befs ops)) (flCand P ops (headLen ops (befs ops))) with
    | some l=>some l
    | none=>cDrawT P ops (headLen ops (befs ops))
def cDrawM0 (ops:Array Oper)(M:List Nat)(nh:Nat):Option VCode:=cDrawV P ops (befs ops) nh nh (cDops P ops none (M++(List.range nh).filter fun i=>!M.contains i))
def cDrawM (ops:Array Oper):Option VCode:=if Region.noSelect ops=true then cDrawM0 P (ahead (moves ops) ops) (moves ops) (headLen (ahead (moves ops) ops) (befs (ahead (moves ops) ops))) else none
def cDrawX (pm pt:Bool)(ops:Array Oper):Option VCode:=if pm=true then (if pt=true then cDrawFr P ops (headLen ops (befs ops)) else cDrawM P ops) else if pt=true then (match cDrawT P ops (headLen ops (befs ops)) with
  | some l=>some l
  | none=>cDraw P ops) else cDraw P ops
variable (pt:Nat)
def cCode:Code→List (List Bool)→Option (VCode×List (List Bool))
  | .skip,ms=>some (.skip,ms)
  | .region _ ops false,ms=>match cVOs P ops ops.toList with
    | some l=>some (.ops l,ms)
    | none=>none
  | .region id ops true,ms=>match cDrawX P (pt.testBit (2*id+1)) (pt.testBit (2*id)) ops with
    | some l=>some (l,ms)
    | none=>none
  | .seq a b,ms=>match cCode a ms with
    | some (x,ms1)=>match cCode b ms1 with
      | some (y,ms2)=>some (.seq x y,ms2)
      | none=>none
    | none=>none
  | .cond c a b,ms=>match cCode a ms with
    | some (x,ms1)=>match cCode b ms1 with
      | some (y,ms2)=>some (.cond c x y,ms2)
      | none=>none
    | none=>none
  | .block id c,ms=>match cCode c ms with
    | some (x,ms1)=>some (.block id x,ms1)
    | none=>none
  | .loop c,ms=>match ms with
    | m::ms=>match cCode c ms with
      | some (x,ms1)=>some (.loop m x,ms1)
      | none=>none
    | []=>none
  | .exit id,ms=>some (.exit id,ms)
  | .ret,ms=>some (.ret,ms)
  | _,_=>none
end
section
variable {P:Program} {G:World→(Nat→Prop)→Prop} {w0:Base} {I0:Nat→Prop}
theorem cDops_spec {ops:Array Oper} {w:Option Nat}:∀ {l:List Nat} {vos:List (Nat×VO)},cDops P ops w l=some vos→∀ v∈vos,∃ op n,ops[v.1]?=some op∧cVO P n ops op=some v.2
  | [],vos,h,v,hv=>by simp only [cDops,Option.some.injEq] at h;subst h;cases hv
  | i :: l,vos,h,v,hv=>by
    simp only [cDops] at h;split at h
    · rename_i o ho;split at h
      · rename_i v' vs h1 h2;simp only [Option.some.injEq] at h;subst h;rcases List.mem_cons.1 hv with rfl | hv
        · exact ⟨o,_,ho,h1⟩
        · exact cDops_spec h2 v hv
      · cases h
    · cases h
theorem sim_cDrawH (hcl:∀ w',w0.Below w'→GI G w' I0) {ops:Array Oper} {nh n1:Nat} {start:List Bool} {H:List DOp} {tail:List VO} {vc:VCode} (hc:cDrawH P ops (befs ops) nh n1 start H tail=some vc) (hcomp:∀ o∈H,∃ op n,ops[o.idx]?=some op∧cVO P n ops op=some o.vo) (htl:cVOs P ops (ops.toList.drop nh)=some tail) {VQ:VExit→List D→Prop} {Q:Exit→Act→World→Prop} {s:List D} (hk:vc.wp (CT P G) VQ s) (hQ:∀ s a w,VQ .normal s→Rel w0 I0 s a w→Q .normal a w) {a:Act} {w:World} (h:Rel w0 I0 s a w):RegAny P ops Q a w:=by
  unfold cDrawH at hc;by_cases hB:(P.follows .mixedOrders&&drawB ops H start nh)=true
  · rw [if_pos hB] at hc;simp only [Bool.and_eq_true] at hB;cases hdrop:H.drop n1 with
    | nil =>
      rw [hdrop] at hc;simp only at hc;by_cases hf:H.all (fun o=>o.vo.op.framed)=true
      · rw [if_pos hf] at hc;simp only [Option.some.injEq] at hc;subst hc;exact sim_draw hcl hB.1 hB.2 hf hcomp htl hk hQ h
      · rw [if_neg hf] at hc;cases hc
    | cons o l2 =>
      rw [hdrop] at hc;simp only at hc;by_cases hf:((H.take n1).all (fun o=>o.vo.op.framed)&&l2.all (fun o=>o.vo.op.framed)&&(H.take n1).all (fun k=>((befs ops).getD o.idx 0).testBit k.idx)&&o.vo.guard.isNone&&yOK o)=true
      · rw [if_pos hf] at hc;simp only [Option.some.injEq] at hc;subst hc;simp only [Bool.and_eq_true] at hf;obtain ⟨⟨⟨⟨f1,f2⟩,f3⟩,f4⟩,f5⟩:=hf;have hH:H=H.take n1++o::l2:=by rw [← hdrop,List.take_append_drop]
        refine sim_drawW hcl hB.1 (by rw [← hH];exact hB.2) f1 f2 f3 (by simpa using f4) ?_ (by rw [← hH];exact hcomp) htl (by rw [← hH];exact hk) hQ h;intro sz bytes x y hop t ht;subst ht;unfold yOK at f5;rw [hop] at f5;exact f5
      · rw [if_neg hf] at hc;cases hc
  · rw [if_neg hB] at hc;cases hc
theorem sim_cDrawV (hcl:∀ w',w0.Below w'→GI G w' I0){ops:Array Oper}{nh n1:Nat}{w:Option Nat}{l:List Nat}{vc:VCode}(hc:cDrawV P ops (befs ops) nh n1 (cDops P ops w l)=some vc){VQ:VExit→List D→Prop}{Q:Exit→Act→World→Prop}{s:List D}(hk:vc.wp (CT P G) VQ s)(hQ:∀ s a w,VQ .normal s→Rel w0 I0 s a w→Q .normal a w){a:Act}{W:World}(h:Rel w0 I0 s a W):RegAny P ops Q a W:=by
  cases hv:cDops P ops w l with
  | none=>rw [hv] at hc;cases hc
  | some vos =>
    rw [hv] at hc;simp only [cDrawV] at hc;cases ht:cVOs P ops (ops.toList.drop nh) with
    | none=>rw [ht] at hc;cases hc
    | some tail=>rw [ht] at hc;refine sim_cDrawH hcl hc (fun o ho=>?_) ht hk hQ h;obtain ⟨v,hv',rfl⟩:=List.mem_map.1 ho;exact cDops_spec hv v hv'
theorem sim_cDraw0 (hcl:∀ w',w0.Below w'→GI G w' I0){ops:Array Oper}{vc:VCode}(hc:cDraw0 P ops=some vc){VQ:VExit→List D→Prop}{Q:Exit→Act→World→Prop}{s:List D}(hk:vc.wp (CT P G) VQ s)(hQ:∀ s a w,VQ .normal s→Rel w0 I0 s a w→Q .normal a w){a:Act}{w:World}(h:Rel w0 I0 s a w):RegAny P ops Q a w:=by
  unfold cDraw0 at hc;cases hp:placeAt ops (headLen ops (befs ops)) with
  | none=>rw [hp] at hc;exact sim_cDrawV hcl hc hk hQ h
  | some w=>rw [hp] at hc;exact sim_cDrawV hcl hc hk hQ h
end
section
variable {P:Program} {G:World→(Nat→Prop)→Prop} {w0:Base} {I0:Nat→Prop}
theorem cDopsB_spec {ops:Array Oper}{fl:List Fl}:∀ {l:List Nat} {vos:List (Nat×VO)},cDopsB P ops fl l=some vos→∀ v∈vos,cVB P ops fl v.1=some v.2
  | [],vos,h,v,hv=>by simp only [cDopsB,Option.some.injEq] at h;subst h;cases hv
  | i :: l,vos,h,v,hv=>by
    simp only [cDopsB] at h;split at h
    · rename_i v' vs h1 h2;simp only [Option.some.injEq] at h;subst h;rcases List.mem_cons.1 hv with rfl | hv
      · exact h1
      · exact cDopsB_spec h2 v hv
    · cases h
theorem sim_cDraw (hcl:∀ w',w0.Below w'→GI G w' I0) {ops:Array Oper} {vc:VCode} (hc:cDraw P ops=some vc) {VQ:VExit→List D→Prop} {Q:Exit→Act→World→Prop} {s:List D} (hk:vc.wp (CT P G) VQ s) (hQ:∀ s a w,VQ .normal s→Rel w0 I0 s a w→Q .normal a w) {a:Act} {w:World} (h:Rel w0 I0 s a w):RegAny P ops Q a w:=by
  unfold cDraw at hc;split at hc
  · rename_i l hl;simp only [Option.some.injEq] at hc;subst hc;exact sim_cDraw0 hcl hl hk hQ h
  · split at hc
    case h_2=>exact sim_drawT hcl hc hk hQ h
    rename_i l hl;simp only [Option.some.injEq] at hc;subst hc;revert hl;unfold cDraw1;intro hc;revert hc;generalize flCand P ops (headLen ops (befs ops))=fl;generalize headLen ops (befs ops)=nh;intro hc;cases hv:cDopsB P ops fl (List.range nh) with
    | none=>rw [hv] at hc;cases hc
    | some vos =>
      rw [hv] at hc;simp only [cDrawG] at hc;split at hc
      · rename_i tail ht;unfold cDrawF at hc;split at hc
        · rename_i hB;simp only [Bool.and_eq_true] at hB;simp only [Option.some.injEq] at hc;subst hc;simp only [VCode.wp] at hk;refine sim_drawB hcl hB.1.1.1 hB.1.1.2 hB.1.2 (fun o ho=>?_) hB.2 ht hk.1 hk.2 hQ h;obtain ⟨v,hv',rfl⟩:=List.mem_map.1 ho;exact cDopsB_spec hv v hv'
        · cases hc
      · cases hc
theorem sim_cDrawX (hcl:∀ w',w0.Below w'→GI G w' I0){pm pt:Bool}{ops:Array Oper}{vc:VCode}(hc:cDrawX P pm pt ops=some vc){VQ:VExit→List D→Prop}{Q:Exit→Act→World→Prop}(hQn:NoX Q){s:List D}(hk:vc.wp (CT P G) VQ s)(hQ:∀ s a w,VQ .normal s→Rel w0 I0 s a w→Q .normal a w){a:Act}{w:World}(h:Rel w0 I0 s a w):RegAny P ops Q a w:=by
  unfold cDrawX at hc;split at hc
  · split at hc
    · exact sim_drawFr hcl hc hQn hk hQ h
    · unfold cDrawM at hc;split at hc
      · rename_i hs;exact reg_ahead hs hQn (sim_cDrawV hcl hc hk hQ h)
      · cases hc
  split at hc
  · split at hc
    · rename_i l hl;simp only [Option.some.injEq] at hc;subst hc;exact sim_drawT hcl hl hk hQ h
    · exact sim_cDraw hcl hc hk hQ h
  · exact sim_cDraw hcl hc hk hQ h
theorem sim_code {pt:Nat} (hcl:∀ w',w0.Below w'→GI G w' I0):∀ (c:Code) (ms ms':List (List Bool)) (vc:VCode) (VQ:VExit→List D→Prop) (Q:Exit→Act→World→Prop) (s:List D) (a:Act) (w:World),
    cCode P pt c ms=some (vc,ms')→vc.wp (CT P G) VQ s→Rel w0 I0 s a w→(∀ e s a w,VQ e s→Rel w0 I0 s a w→Q e.to a w)→c.wp P Q a w
  | .skip,ms,ms',vc,VQ,Q,s,a,w,hc,hk,h,hQ=>by simp only [cCode,Option.some.injEq,Prod.mk.injEq] at hc;obtain ⟨rfl,_⟩:=hc;exact wp_skip (hQ .normal s a w hk h)
  | .region id ops draw,ms,ms',vc,VQ,Q,s,a,w,hc,hk,h,hQ=>by
    cases draw with
    | true =>
      simp only [cCode] at hc;cases hl:cDrawX P (pt.testBit (2*id+1)) (pt.testBit (2*id)) ops with
      | none=>simp [hl] at hc
      | some l=>simp only [hl,Option.some.injEq,Prod.mk.injEq] at hc;obtain ⟨rfl,_⟩:=hc;exact Code.wp_mono (fun e a w h=>by obtain ⟨rfl,h⟩:=h;exact h) (sim_cDrawX (Q:=fun e a w=>e=.normal∧Q .normal a w) hcl hl (fun _ _ _ h=>h.1) hk (fun s a w hk h=>⟨rfl,hQ .normal s a w hk h⟩) h).wp
    | false =>
      simp only [cCode] at hc;cases hl:cVOs P ops ops.toList with
      | none=>simp [hl] at hc
      | some l=>simp only [hl,Option.some.injEq,Prod.mk.injEq] at hc;obtain ⟨rfl,_⟩:=hc;simp only [VCode.wp] at hk;exact wp_region_list (sim_ops hcl ops (KK:=VQ .normal) (fun s a w hk h=>hQ .normal s a w hk h) ops.toList l s a w hl hk h)
  | .seq x y,ms,ms',vc,VQ,Q,s,a,w,hc,hk,h,hQ=>by
    simp only [cCode] at hc;cases hx:cCode P pt x ms with
    | none=>simp [hx] at hc
    | some r =>
      obtain ⟨vx,ms1⟩:=r;simp only [hx] at hc;cases hy:cCode P pt y ms1 with
      | none=>simp [hy] at hc
      | some r =>
        obtain ⟨vy,ms2⟩:=r;simp only [hy,Option.some.injEq,Prod.mk.injEq] at hc;obtain ⟨rfl,_⟩:=hc;simp only [VCode.wp] at hk;refine wp_seq (sim_code hcl x ms ms1 vx _ _ s a w hx hk h ?_);intro e s' a' w' hq hr;cases e with
        | normal=>exact sim_code hcl y ms1 ms2 vy VQ Q s' a' w' hy hq hr hQ
        | exit id=>exact hQ (.exit id) s' a' w' hq hr
        | ret=>exact hQ .ret s' a' w' hq hr
  | .cond c x y,ms,ms',vc,VQ,Q,s,a,w,hc,hk,h,hQ=>by
    simp only [cCode] at hc;cases hx:cCode P pt x ms with
    | none=>simp [hx] at hc
    | some r =>
      obtain ⟨vx,ms1⟩:=r;simp only [hx] at hc;cases hy:cCode P pt y ms1 with
      | none=>simp [hy] at hc
      | some r =>
        obtain ⟨vy,ms2⟩:=r;simp only [hy,Option.some.injEq,Prod.mk.injEq] at hc;obtain ⟨rfl,_⟩:=hc;simp only [VCode.wp] at hk;obtain ⟨hd,I,Fs,hR⟩:=h;have hT:=lk_T hR c;split at hk
        · rename_i t e;rw [e] at hT;refine wp_cond_split (T_v hT).1 (fun ht=>?_) (fun ht=>?_)
          · exact sim_code hcl x ms ms1 vx VQ Q s a w hx (hk.1 ht) ⟨hd,I,Fs,hR⟩ hQ
          · exact sim_code hcl y ms1 ms2 vy VQ Q s a w hy (hk.2 ht) ⟨hd,I,Fs,hR⟩ hQ
        · exact hk.elim
  | .block id c,ms,ms',vc,VQ,Q,s,a,w,hc,hk,h,hQ=>by
    simp only [cCode] at hc;cases hx:cCode P pt c ms with
    | none=>simp [hx] at hc
    | some r =>
      obtain ⟨vx,ms1⟩:=r;simp only [hx,Option.some.injEq,Prod.mk.injEq] at hc;obtain ⟨rfl,_⟩:=hc;simp only [VCode.wp] at hk;refine wp_block (sim_code hcl c ms ms1 vx _ _ s a w hx hk h ?_);intro e s' a' w' hq hr;cases e with
      | normal=>exact hQ .normal s' a' w' hq hr
      | ret=>exact hQ .ret s' a' w' hq hr
      | exit i =>
        simp only [vblock] at hq;by_cases hi:i=id
        · rw [if_pos hi] at hq;simp only [VExit.to,Exit.inBlock,hi,if_true];exact hQ .normal s' a' w' hq hr
        · rw [if_neg hi] at hq;simp only [VExit.to,Exit.inBlock,hi,if_false];exact hQ (.exit i) s' a' w' hq hr
  | .loop c,ms,ms',vc,VQ,Q,s,a,w,hc,hk,h,hQ=>by
    simp only [cCode] at hc;cases ms with
    | nil=>simp at hc
    | cons m ms =>
      simp only at hc;cases hx:cCode P pt c ms with
      | none=>simp [hx] at hc
      | some r =>
        obtain ⟨vx,ms1⟩:=r;simp only [hx,Option.some.injEq,Prod.mk.injEq] at hc;obtain ⟨rfl,_⟩:=hc;simp only [VCode.wp] at hk;obtain ⟨J,⟨n,s1,hle,h0⟩,hround⟩:=hk;have hclr:∀ s a w,Rel w0 I0 s a w→Rel w0 I0 (clr m s) a w:=fun s a w ⟨hd,I,Fs,hR⟩=>⟨hd,I,_,hR.clr m⟩
        have hnle:∀ s s1 a w,Rel w0 I0 s a w→nleL s s1→Rel w0 I0 s1 a w:=fun s s1 a w ⟨hd,I,Fs,hR⟩ hl=>⟨hd,I,_,hR.nle hl⟩
        refine wp_loop_ghost (fun n a w=>∃ s,J n s∧Rel w0 I0 s a w) n ⟨_,h0,hnle _ _ _ _ (hclr _ _ _ h) hle⟩ ?_;rintro n a w ⟨s,hJ,hr⟩;refine sim_code hcl c ms ms1 vx _ _ s a w hx (hround n s hJ) hr ?_;intro e s' a' w' hq hr';cases e with
        | normal=>obtain ⟨m',hlt,s1,hle,hJ'⟩:=hq;exact ⟨m',hlt,_,hJ',hnle _ _ _ _ (hclr _ _ _ hr') hle⟩
        | exit id=>exact hQ (.exit id) s' a' w' hq hr'
        | ret=>exact hQ .ret s' a' w' hq hr'
  | .exit id,ms,ms',vc,VQ,Q,s,a,w,hc,hk,h,hQ=>by simp only [cCode,Option.some.injEq,Prod.mk.injEq] at hc;obtain ⟨rfl,_⟩:=hc;exact wp_exit (hQ (.exit id) s a w hk h)
  | .ret,ms,ms',vc,VQ,Q,s,a,w,hc,hk,h,hQ=>by simp only [cCode,Option.some.injEq,Prod.mk.injEq] at hc;obtain ⟨rfl,_⟩:=hc;exact wp_ret (hQ .ret s a w hk h)
  | .rangeFunc _ _ _ _,_,_,_,_,_,_,_,_,hc,_,_,_=>by simp [cCode] at hc
  | .scope _,_,_,_,_,_,_,_,_,hc,_,_,_=>by simp [cCode] at hc
  | .label _,_,_,_,_,_,_,_,_,hc,_,_,_=>by simp [cCode] at hc
  | .goto _,_,_,_,_,_,_,_,_,hc,_,_,_=>by simp [cCode] at hc
  | .refuse _,_,_,_,_,_,_,_,_,hc,_,_,_=>by simp [cCode] at hc
end
end Go.V
namespace Go.V
open Go.RowKit
def resFn (tmps:Array Value):ResultVar→Sem Value
  | .tmp t=>pure (tmps.getD t undef)
  | .cell x t=>do loadVar t (← asAddr (tmps.getD x undef))
theorem results_eq (fn:Func)(tmps:Array Value):results fn tmps=(do let vs ← fn.results.mapM (resFn tmps);pure (if h:vs.size=1 then vs[0] else .tuple vs)):=by have:(fun v:ResultVar=>(match v with | .tmp t=>pure (tmps.getD t undef) | .cell a t=>do loadVar t (← asAddr (tmps.getD a undef)):Sem Value))=resFn tmps:=(by funext v;cases v<;>rfl);rw [← this];rfl
section
variable {P:Program} {G:World→(Nat→Prop)→Prop} {w0:Base} {I0:Nat→Prop} {s:List D} {a:Act} {w:World} {I:Nat→Prop} {Fs:Nat→List Nat}
theorem resolve_T (h:RelI w0 I0 s a.tmps w I Fs) {d:D} {u:Value} {F:List Nat} {KK:D→List D→Prop} (hok:d.okCells=true) (hT:T I w d (ρS s a.tmps w) u F) (hF:Fresh w0 w I Fs F) (hk:resolveK s d KK) :
    ∃ d' s' Fs' F',KK d' s'∧RelI w0 I0 s' a.tmps w I Fs'∧T I w d' nil u F'∧Fresh w0 w I Fs' F'∧(∀ r b,b∈Fs' r→b∈Fs r)∧(∀ b,b∈F'→b∈F∨∃ r,b∈Fs r):=by
  unfold resolveK at hk;split at hk
  · rename_i r;split at hk
    · rename_i tag cells hs;obtain ⟨u0,hu0,hTb⟩:=h.slot0 hs;simp only [T] at hT;obtain ⟨⟨d1,u1,t1,sz,rows,u2,b1,o1,m1,m2,m3,m4,m5,m6,m7⟩,_⟩:=hT;rw [hu0] at m2;cases m2;simp only [valAt,Option.some.injEq] at m5;subst m5;have hTb':=hTb;simp only [T] at hTb;obtain ⟨b,cs,et,F',hub,_,hh,hFr,hcs⟩:=hTb;rw [hub] at m6;simp only [baseOf,Option.some.injEq,Prod.mk.injEq] at m6;obtain ⟨rfl,rfl⟩:=m6;obtain ⟨hro,hk⟩:=hk;have hq:∀ x v,refNot r x=true→ρS s a.tmps w x v→ρS ((pruneL (notRoot r) s).set r .undef) a.tmps w x v:=fun x v hx hv=>by refine hv.forget r ?_;cases x<;>simp only [refNot] at hx<;>first | exact hx | cases hx
      have hb:b∈Fs r:=(by rw [hFr];simp);have hndr:=h.nd r;rw [hFr] at hndr;have hfr:Fresh w0 w I (upd Fs r []) F':=⟨(List.nodup_cons.1 hndr).2,fun x hx=>by
        have hxr:x∈Fs r:=(by rw [hFr];simp [hx]);refine ⟨(h.own r x hxr).1,(h.own r x hxr).2.1,(h.own r x hxr).2.2,fun r' hr=>?_⟩;unfold upd at hr;split at hr
        · cases hr
        · rename_i hne;exact hne (h.disj r' r x hr hxr)⟩
      obtain ⟨cs',s2,Fs2,F2,hK,h2,hC2,hF2,hsub2,hin2,_⟩:=resC_T _ (h.forget r) (Cells.turn hq cells hcs) hfr hro hk;have hnb:b∉F2:=fun hx=>by
        rcases hin2 b hx with hy | ⟨r',hy⟩
        · exact (List.nodup_cons.1 hndr).1 hy
        · unfold upd at hy;split at hy
          · cases hy
          · rename_i hne;exact hne (h.disj r' r b hy hb)
      have hbn:∀ r',b∉Fs2 r':=fun r' hr=>by
        have:=hsub2 r' b hr;unfold upd at this;split at this
        · cases this
        · rename_i hne;exact hne (h.disj r' r b this hb)
      refine ⟨_,s2,Fs2,b::F2,hK,h2,?_,⟨List.nodup_cons.2 ⟨hnb,hF2.1⟩,fun x hx=>?_⟩,fun r' x hx=>?_,fun x hx=>?_⟩
      · simp only [T];exact ⟨b,cs,et,F2,by rw [m7];simp,(fun _ h=>by cases h),hh,rfl,hC2⟩
      · rcases List.mem_cons.1 hx with rfl | hx
        · exact ⟨(h.own r x hb).1,(h.own r x hb).2.1,(h.own r x hb).2.2,hbn⟩
        · exact hF2.2 x hx
      · have:=hsub2 r' x hx;unfold upd at this;split at this
        · cases this
        · exact this
      · rcases List.mem_cons.1 hx with rfl | hx
        · exact .inr ⟨r,hb⟩
        · rcases hin2 x hx with hy | ⟨r',hy⟩
          · exact .inr ⟨r,by rw [hFr];simp [hy]⟩
          · unfold upd at hy;split at hy
            · cases hy
            · exact .inr ⟨r',hy⟩
    · exact hk.elim
  obtain ⟨hro,hk⟩:=hk;obtain ⟨cs',s2,Fs2,F',hK,h2,hC2,hF',hsub2,hin2,_⟩:=resC_T _ h (cells_T h hT hok) hF hro hk;refine ⟨_,s2,Fs2,F',hK,h2,?_,hF',hsub2,hin2⟩;by_cases hd:∃ cs,d=.agg cs
  · obtain ⟨cs,rfl⟩:=hd;simp only [T] at hT;obtain ⟨us,e,_⟩:=hT;simp only [rebuild,T];refine ⟨us,e,?_⟩;rw [e] at hC2;simpa [Value.cells] using hC2
  · have hn:∀ cs,d≠.agg cs:=fun cs e=>hd ⟨cs,e⟩;obtain ⟨h1,h3⟩:=ok_one h hT hok hn;rw [h3] at hC2;have hr:rebuild d cs'=cs'.headD .undef:=by cases d<;>first | rfl | exact absurd rfl (hn _)
    rw [hr];cases cs' with
    | nil=>simp only [Cells] at hC2;simp at hC2
    | cons c cs =>
      simp only [Cells] at hC2;obtain ⟨v,vs,F1,F2,e,hFe,_,ht,hc⟩:=hC2;simp only [List.cons.injEq] at e;obtain ⟨rfl,rfl⟩:=e;have:=hc.len;cases cs with
      | cons x y=>simp at this
      | nil=>simp only [Cells] at hc;rw [hFe,hc.2,List.append_nil];exact ht
theorem rv_T (h : RelI w0 I0 s a.tmps w I Fs) {rv:RV} {v:ResultVar} {KK:D→List D→Prop} (hc:cRes P [v]=some [rv]) (hk:rvK s rv KK) :
    ∃ u d' s' Fs' F',(resFn a.tmps v).run P w=.ok u w∧KK d' s'∧RelI w0 I0 s' a.tmps w I Fs'∧T I w d' nil u F'∧Fresh w0 w I Fs' F'∧(∀ r b,b∈Fs' r→b∈Fs r)∧(∀ b,b∈F'→∃ r,b∈Fs r):=by
  cases v with
  | tmp t =>
    simp only [cRes,Option.map_some,Option.some.injEq,List.cons.injEq,and_true] at hc;subst hc;obtain ⟨hok,hk⟩:=hk;obtain ⟨Fs1,F,h1,hT,hF,hsub⟩:=tkT_T h t;obtain ⟨d',s',Fs',F',k1,k2,k3,k4,k5,k6⟩:=resolve_T h1 hok hT hF hk;exact ⟨_,d',s',Fs',F',rfl,k1,k2,k3,k4,fun r b hb=>hsub.1 r b (k5 r b hb),fun b hb=>by
      rcases k6 b hb with hb | ⟨r,hr⟩
      · exact hsub.2.1 b hb
      · exact ⟨r,hsub.1 r b hr⟩⟩
  | cell x t =>
    simp only [cRes] at hc;split at hc
    · rename_i d i hu hi;have key:∀ (agg:Bool) (n:Nat),rv=.c x n agg→d.isRow=agg→i.size=n→(agg=false→n=1)→∃ u d' s' Fs' F',(do loadVar t (← asAddr (a.tmps.getD x undef)):Sem Value).run P w=.ok u w∧KK d' s'∧RelI w0 I0 s' a.tmps w I Fs'∧T I w d' nil u F'∧Fresh w0 w I Fs' F'∧(∀ r b,b∈Fs' r→b∈Fs r)∧(∀ b,b∈F'→∃ r,b∈Fs r):=by
        intro agg n hrv hd hn h1;subst hrv;simp only [rvK] at hk;split at hk
        · rename_i cells hs;obtain ⟨hlen,hok2,hk⟩:=hk;obtain ⟨u,hu',hT⟩:=h.slot0 hs;simp only [T] at hT;obtain ⟨b,cs,e,F',hub,_,hh,hFe,hcs⟩:=hT;have hf:=h.forget x;have hcl:=hcs.len;have hcs':Cells I w (pruneL (notRoot x) cells) (ρS ((pruneL (notRoot x) s).set x .undef) a.tmps w) cs.toList F':=Cells.turn (fun y v hq hy=>hy.forget x hq) cells hcs;have hnd:=h.nd x;rw [hFe] at hnd;have hF':Fresh w0 w I (upd Fs x []) F':=⟨(List.nodup_cons.1 hnd).2,fun b' hb'=>by
            have hbx:b'∈Fs x:=(by rw [hFe];simp [hb']);refine ⟨(h.own x b' hbx).1,(h.own x b' hbx).2.1,(h.own x b' hbx).2.2,fun r hr=>?_⟩;unfold upd at hr;split at hr
            · cases hr
            · rename_i hne;exact hne (h.disj r x b' hr hbx)⟩
          have hmk:T I w (mkAgg agg (pruneL (notRoot x) cells)) (ρS ((pruneL (notRoot x) s).set x .undef) a.tmps w) (if agg then .agg cs else cs.toList.headD undef) F':=by
            cases agg with
            | true=>simp only [mkAgg,if_true,T];exact ⟨cs.toList,by simp,hcs'⟩
            | false =>
              have hn1:=h1 rfl;cases hp:pruneL (notRoot x) cells with
              | nil=>have:=pruneL_len (notRoot x) cells;rw [hp] at this;simp at this;omega
              | cons c cc =>
                rw [hp] at hcs';simp only [Cells] at hcs';obtain ⟨v,vs,F1,F2,e1,e2,_,ht,hc2⟩:=hcs';have hccl:cc=[]:=by have:=pruneL_len (notRoot x) cells;rw [hp] at this;exact List.eq_nil_of_length_eq_zero (by simp at this;omega)
                subst hccl;simp only [Cells] at hc2;rw [e2,hc2.2,List.append_nil,e1];simpa [mkAgg] using ht
          have hrun:(do loadVar t (← asAddr (a.tmps.getD x undef)):Sem Value).run P w=.ok (if agg then .agg cs else cs.toList.headD undef) w:=by
            have hg:a.tmps.getD x undef=u:=(by simp [hu']);rw [hg,hub];have hr:w.rangeAt b 0 cs.toList:=fun j v hj=>by rw [cell_row hh,Nat.zero_add];simpa using hj
            have:=load_run (P:=P) hu hd (by rw [hi];simp [hn]) h1 (us:=cs.toList) (by rw [hcl,hlen]) hr;simp only [Instr.loadAt,Instr.sureAddr] at this;simp only [asAddr];cases agg<;>simpa using this
          obtain ⟨d',s',Fs',F'',k1,k2,k3,k4,k5,k6⟩:=resolve_T hf hok2 hmk hF' hk;have hsub:∀ r b,b∈upd Fs x [] r→b∈Fs r:=fun r b hb=>by
            unfold upd at hb;split at hb
            · cases hb
            · exact hb
          exact ⟨_,d',s',Fs',F'',hrun,k1,k2,k3,k4,fun r b hb=>hsub r b (k5 r b hb),fun b hb=>by
            rcases k6 b hb with hb | ⟨r,hr⟩
            · exact ⟨x,by rw [hFe];simp [hb]⟩
            · exact ⟨r,hsub r b hr⟩⟩
        · exact hk.elim
      split at hc
      · rename_i hd;simp only [cRes,Option.map_some,Option.some.injEq,List.cons.injEq,and_true] at hc;exact key true i.size hc.symm hd rfl (fun h=>by cases h)
      · rename_i hd;split at hc
        · rename_i h1;simp only [cRes,Option.map_some,Option.some.injEq,List.cons.injEq,and_true] at hc;exact key false 1 hc.symm (by simpa using hd) h1 (fun _=>rfl)
        · cases hc
    · cases hc
theorem cRes_cons {v:ResultVar} {vs:List ResultVar} {rvs:List RV} (h:cRes P (v::vs)=some rvs):∃ rv rs,rvs=rv::rs∧cRes P [v]=some [rv]∧cRes P vs=some rs:=by
  cases v with
  | tmp t=>simp only [cRes,Option.map_eq_some_iff] at h;obtain ⟨rs,h1,rfl⟩:=h;exact ⟨_,rs,rfl,by simp [cRes],h1⟩
  | cell x t =>
    simp only [cRes] at h ⊢;split at h
    · rename_i d i hu hi;split at h
      · rename_i hd;simp only [Option.map_eq_some_iff] at h;obtain ⟨rs,h1,rfl⟩:=h;exact ⟨_,rs,rfl,by simp [hd],h1⟩
      · rename_i hd;split at h
        · rename_i h1;simp only [Option.map_eq_some_iff] at h;obtain ⟨rs,h2,rfl⟩:=h;exact ⟨_,rs,rfl,by simp [hd,h1],h2⟩
        · cases h
    · cases h
theorem rvs_T:∀ (vs:List ResultVar) {s:List D} {Fs:Nat→List Nat} {rvs:List RV} {KK:List D→List D→Prop},RelI w0 I0 s a.tmps w I Fs→cRes P vs=some rvs→rvsK s rvs KK →
    ∃ us ds F s2 Fs2,(vs.mapM (resFn a.tmps)).run P w=.ok us w∧us.length=vs.length∧KK ds s2∧Vals I w ds nil us F∧F.Nodup∧(∀ b,b∈F→w0.N b∧b<w.heap.size∧¬ I b)∧(∀ b,b∈F→∃ r,b∈Fs r)∧RelI w0 I0 s2 a.tmps w I Fs2∧(∀ r b,b∈Fs2 r→b∈Fs r)∧∀ b,b∈F→∀ r,b∉Fs2 r
  | [],s,Fs,rvs,KK,h,hc,hk=>by simp only [cRes,Option.some.injEq] at hc;subst hc;exact ⟨[],[],[],s,Fs,by simp,rfl,hk,by simp [Vals],List.nodup_nil,(fun _ h=>by cases h),(fun _ h=>by cases h),h,fun _ _ h=>h,fun _ h=>by cases h⟩
  | v :: vs,s,Fs,rvs,KK,h,hc,hk=>by
    obtain ⟨rv,rs,rfl,h1,h2⟩:=cRes_cons hc;simp only [rvsK] at hk;obtain ⟨u,d',s',Fs',F',k1,k2,k3,k4,k5,k6,k7⟩:=rv_T h h1 hk;obtain ⟨us,ds,F,s2,Fs2,m1,m2,m3,m4,m5,m6,m7,m8,m9,m10⟩:=rvs_T vs k3 h2 k2;refine ⟨u::us,d'::ds,F'++F,s2,Fs2,?_,by simp [m2],m3,?_,List.nodup_append.2 ⟨k5.1,m5,fun x hx y hy hxy=>?_⟩,fun b hb=>?_,fun b hb=>?_,m8,fun r b hb=>k6 r b (m9 r b hb),fun b hb r hr=>?_⟩
    · rw [List.mapM_cons,Sem.run_bind,k1,Result.andThen_ok,Sem.run_bind,m1,Result.andThen_ok,Sem.run_pure]
    · simp only [Vals];exact ⟨u,us,F',F,rfl,rfl,k4,m4⟩
    · subst hxy;obtain ⟨r,hr⟩:=m7 x hy;exact (k5.2 x hx).2.2.2 r hr
    · rcases List.mem_append.1 hb with hb | hb
      · exact ⟨(k5.2 b hb).1,(k5.2 b hb).2.1,(k5.2 b hb).2.2.1⟩
      · exact m6 b hb
    · rcases List.mem_append.1 hb with hb | hb
      · exact k7 b hb
      · obtain ⟨r,hr⟩:=m7 b hb;exact ⟨r,k6 r b hr⟩
    · rcases List.mem_append.1 hb with hb | hb
      · exact (k5.2 b hb).2.2.2 r (m9 r b hr)
      · exact m10 b hb r hr
end
def finK (rvs:List RV)(KK:List D→List D→Prop):VExit→List D→Prop
  | .normal,s=>rvsK s rvs KK
  | .ret,s=>rvsK s rvs KK
  | .exit _,_=>False
def leK (d:D):List D→List D→Prop:=fun ds _=>(one ds).le d
def endQ (rvs:List RV)(d:D):VExit→List D→Prop:=finK rvs (leK d)
def outX (i b:Nat)(cells':List D)(s:List D):Prop:=match s[i]? with
  | some (.box (some b') cs)=>b'=b∧leL (pruneL (fun _=>false) cs) cells'
  | _=>False
def leX (d:D)(i b:Nat)(cells':List D):List D→List D→Prop:=fun ds s=>(one ds).le d∧outX i b cells' s
def endX (rvs:List RV)(d:D)(i b:Nat)(cells':List D):VExit→List D→Prop:=finK rvs (leX d i b cells')
theorem body_core {pt:Nat} {P:Program} {G:World→(Nat→Prop)→Prop} {f:FuncId} {fn:Func} {c:Code} {ms ms':List (List Bool)} {vc:VCode} {rvs:List RV} {KK:List D→List D→Prop} {w:World} {I:Nat→Prop} {us:List Value} {X:List Nat} {s0:List D} {Fs0:Nat→List Nat} (hG:∀ w',(ioB w X).Below w'→GI G w' I) (hf:P.funcs[f]?=some fn) (hb:fn.body=some c)
    (hc:cCode P pt c ms=some (vc,ms')) (hr:cRes P fn.results.toList=some rvs) (hrel:RelI (ioB w X) I s0 (us.toArray++Array.replicate (fn.ntmps-us.toArray.size) undef) w I Fs0) (hk:vc.wp (CT P G) (finK rvs KK) s0) :
    Calls P f us.toArray w fun e w'=>∃ v ds F s2 Fs2 I' tm,e=.returned v∧KK ds s2∧(ioB w X).Below w'∧T I' w' (one ds) nil v F∧F.Nodup∧(∀ b,b∈F→(ioB w X).N b∧b<w'.heap.size∧¬ I' b)∧RelI (ioB w X) I s2 tm w' I' Fs2∧∀ b,b∈F→∀ r,b∉Fs2 r:=by
  refine calls_of_wp hf hb ?_;refine sim_code hG c ms ms' vc (finK rvs KK) _ _ _ w hc hk ⟨rfl,I,Fs0,hrel⟩ ?_;intro e s a w' hq hr';obtain ⟨hd,I',Fs,hR⟩:=hr';have key:rvsK s rvs KK→a.defers=[]∧∃ v,(results fn a.tmps).run P w'=.ok v w'∧∃ v' ds F s2 Fs2 I' tm,Ending.returned v=.returned v'∧KK ds s2∧(ioB w X).Below w'∧T I' w' (one ds) nil v' F∧F.Nodup∧(∀ b,b∈F→(ioB w X).N b∧b<w'.heap.size∧¬ I' b)∧RelI (ioB w X) I s2 tm w' I' Fs2∧∀ b,b∈F→∀ r,b∉Fs2 r:=by
    intro hq;obtain ⟨us',ds,F,s2,Fs2,m1,m2,m3,m4,m5,m6,m7,m8,m9,m10⟩:=rvs_T fn.results.toList hR hr hq;have hrun:(results fn a.tmps).run P w'=.ok (if us'.length=1 then us'.headD undef else .tuple us'.toArray) w':=by
      rw [results_eq,Sem.run_bind,Array.mapM_eq_mapM_toList,Sem.run_map,m1];simp only [Result.andThen_ok,Sem.run_pure];by_cases h1:us'.length=1
      · rw [if_pos h1,dif_pos (by simpa using h1)];cases us' with
        | nil=>simp at h1
        | cons u us2=>simp
      · rw [if_neg h1,dif_neg (by simpa using h1)]
    have hT : T I' w' (one ds) nil (if us'.length=1 then us'.headD undef else .tuple us'.toArray) F:=by
      have hl:=m4.len;by_cases h1:us'.length=1
      · rw [if_pos h1];cases ds with
        | nil=>rw [h1] at hl;simp at hl
        | cons d1 ds =>
          cases ds with
          | nil=>simp only [Vals] at m4;obtain ⟨u,us2,F1,F2,e1,e2,ht,e3,e4⟩:=m4;subst e1;subst e2;subst e3;subst e4;simpa [one] using ht
          | cons d2 ds=>rw [h1] at hl;simp at hl
      · rw [if_neg h1];have:one ds=.tup ds:=by
          cases ds with
          | nil=>rfl
          | cons d1 ds=>cases ds with
            | nil=>exact absurd hl h1
            | cons d2 ds=>rfl
        rw [this];simp only [T];exact ⟨us',rfl,m4⟩
    exact ⟨hd,_,hrun,_,ds,F,s2,Fs2,I',a.tmps,rfl,m3,hR.below,hT,m5,m6,m8,m10⟩
  cases e with
  | normal=>exact key hq
  | ret=>exact key hq
  | exit id=>exact hq.elim
theorem start_slots {w:World}{I:Nat→Prop}{args:List D}{us:List Value}{n:Nat}(hV:Vals I w args nil us []){r:Nat}{d':D}{u:Value}{ρ:D→Value→Prop}(h1:(args++List.replicate (n-args.length) D.undef)[r]?=some d')(h2:(us.toArray++Array.replicate (n-us.toArray.size) undef)[r]?=some u):T I w d' ρ u []:=by
  have hlen:=hV.len;by_cases hr:r<args.length
  · rw [List.getElem?_append_left hr] at h1;have hu:us[r]?=some u:=by rw [Array.getElem?_append_left (by simp;omega)] at h2;simpa using h2
    obtain ⟨u',A,F',B,k1,k2,k3,_⟩:=Vals.get r hV h1;rw [hu] at k1;cases k1;have hF':F'=[]:=(by have:=congrArg List.length k2;simp at this;exact List.eq_nil_of_length_eq_zero (by omega));rw [hF'] at k3;exact k3.res (fun _ _ h=>h.elim)
  · rw [List.getElem?_append_right (by omega),List.getElem?_replicate] at h1;split at h1
    · cases h1;simp [T]
    · cases h1
theorem contract_of {pt:Nat}{P:Program}{G:World→(Nat→Prop)→Prop}{f:FuncId}{fn:Func}{c:Code}{ms ms':List (List Bool)}{vc:VCode}{rvs:List RV}{args:List D}{d:D}(hcl:Stab G)(hf:P.funcs[f]?=some fn)(hen:∀ (us:Array Value) (W:World),(callFunc f us).run P W=.ok (.enter f us) W)(hb:fn.body=some c)
    (hc:cCode P pt c ms=some (vc,ms')) (hr:cRes P fn.results.toList=some rvs) (hk:vc.wp (CT P G) (endQ rvs d) (args++List.replicate (fn.ntmps-args.length) .undef)):Contract P G f args d:=by
  refine ⟨hen,fun w I us hG hI hV=>?_⟩;have hlen:=hV.len;refine (body_core (I:=I) (X:=[]) (us:=us) (Fs0:=fun _=>[]) (fun w' hb'=>hG.keep hcl fun b hb=>hb'.block b (fun hn=>hn.elim (fun h=>absurd (hI b hb) (by omega)) (fun h=>by cases h))) hf hb hc hr ?_ hk).mono ?_
  · exact {
      below:=Base.Below.refl
      len:=by simp [hlen]
      slot:=fun r d' u h1 h2=>start_slots hV h1 h2
      nd:=fun _=>List.nodup_nil
      disj:=fun _ _ _ h=>by cases h
      own:=fun _ _ h=>by cases h
      imm:=hI
      imm0:=fun _ h=>h
      immN:=fun _ h=>.inl h }
  · rintro e w' ⟨v,ds,F,s2,Fs2,I',tm,he,hle,hbel,hT,hnd,hF,hR,_⟩;obtain ⟨F',k1,k2⟩:=T.leF _ _ hT hle;have hN:∀ x,(ioB w []).N x→w.heap.size≤x:=fun x h=>h.elim id (fun h=>by cases h);exact ⟨v,F',I',he,⟨hbel.os,hbel.tape,hbel.output,hbel.size,fun k hk=>hbel.block k (fun h=>by have:=hN k h;omega)⟩,k1,k2.nodup hnd,fun b hb=>⟨hN b (hF b (k2.subset hb)).1,(hF b (k2.subset hb)).2⟩,hR.imm0,fun b hb=>⟨(hR.immN b hb).imp_right (hN b),hR.imm b hb⟩⟩
theorem set_undef_get {args:List D}{i r:Nat}{d:D}(h:r≠i)(n:Nat):(args.set i d++List.replicate n D.undef)[r]?=(args.set i .undef++List.replicate n D.undef)[r]?:=by
  by_cases hr:r<args.length
  · rw [List.getElem?_append_left (by simpa using hr),List.getElem?_append_left (by simpa using hr),List.getElem?_set_ne (Ne.symm h),List.getElem?_set_ne (Ne.symm h)]
  · rw [List.getElem?_append_right (by simpa using hr),List.getElem?_append_right (by simpa using hr)];simp
def outL (b:Nat)(cells':List D)(s:List D):Prop:=∃ (r:Nat) (d:D) (q:Path) (b':Nat) (cs:List D),s[r]?=some d∧treeAt d q=some (.box (some b') cs)∧b'=b∧leL (pruneL (fun _=>false) cs) cells'
def leG (d:D)(b:Nat)(cells':List D):List D→List D→Prop:=fun ds s=>(one ds).le d∧outL b cells' s
def endG (rvs:List RV)(d:D)(b:Nat)(cells':List D):VExit→List D→Prop:=finK rvs (leG d b cells')
def outK (i b:Nat)(cells':List D)(s:List D):Prop:=match s[i]? with
  | some (.fn _ [.box (some b') cs] [])=>b'=b∧leL (pruneL (fun _=>false) cs) cells'
  | _=>False
def leK2 (d:D)(i b:Nat)(cells':List D):List D→List D→Prop:=fun ds s=>(one ds).le d∧outK i b cells' s
def endKK (rvs:List RV)(d:D)(i b:Nat)(cells':List D):VExit→List D→Prop:=finK rvs (leK2 d i b cells')
/-! A function whose result is a struct whose first cell is the address of a variable. -/
def rvP (x n:Nat)(s:List D)(K:D→List D→Prop):Prop:=match s[x]? with
  | some (.box _ (.ptr r [] 0 0::rest))=>rest.length+1=n∧r≠x∧rest.all D.flatI=true∧resolveK ((pruneL (notRoot x) s).set x .undef) (.ptr r [] 0 0) (fun d' s'=>K (.agg (d'::rest)) s')
  | _=>False
def endP (x n:Nat)(d:D):VExit→List D→Prop
  | .exit _,_=>False
  | _,s=>rvP x n s (fun d' _=>d'.le d)
end Go.V
namespace Go.V
open Go.RowKit
/-! ### Code within a round, and behind one -/
def FR (ro:Option Nat):Fence:={ Fence.wide with round:=ro }
def appD (ds:List Deferred)(a:Act):Act:={ a with defers:=a.defers++ds }
theorem eval_appD {ds:List Deferred}{a:Act}:(appD ds a).eval=a.eval:=funext fun x=>by cases x<;>rfl
theorem put_appD {ds:List Deferred}{a:Act}{dst:Option Tmp}{v:Value}:(appD ds a).put dst v=appD ds (a.put dst v):=by cases dst<;>rfl
def noDef (o:Oper):Bool:=match o.op with
  | .defer _=>false
  | _=>true
theorem noDef_ne {o:Oper}(h:noDef o=true):∀ c,o.op≠.defer c:=fun c e=>by unfold noDef at h;rw [e] at h;cases h
def dstIn (T:List Nat)(o:Oper):Bool:=match o.dst with
  | some d=>T.contains d
  | none=>true
def agr (T:List Nat)(t0 t:Array Value):Prop:=t.size=t0.size∧∀ r,r∉T→t[r]?=t0[r]?
theorem agr.refl {T:List Nat}{t:Array Value}:agr T t t:=⟨rfl,fun _ _=>rfl⟩
theorem agr.set {T:List Nat}{t0 t:Array Value}(h:agr T t0 t){d:Nat}(hd:d∈T)(v:Value):agr T t0 (t.setIfInBounds d v):=by refine ⟨by simp [h.1],fun r hr=>?_⟩;rw [Array.getElem?_setIfInBounds_ne (by intro e;subst e;exact hr hd)];exact h.2 r hr
theorem agr.put {T:List Nat}{t0:Array Value}{a:Act}(h:agr T t0 a.tmps){o:Oper}(hd:dstIn T o=true)(v:Value):agr T t0 (a.put o.dst v).tmps:=by
  unfold dstIn at hd;cases ho:o.dst with
  | none=>exact h
  | some d=>rw [ho] at hd;simp only [List.contains_iff_mem] at hd;exact h.set hd v
theorem agr.trans {T:List Nat}{t0 t1 t2:Array Value}(h:agr T t0 t1)(k:agr T t1 t2):agr T t0 t2:=⟨k.1.trans h.1,fun r hr=>(k.2 r hr).trans (h.2 r hr)⟩
section
variable {P:Program} {ro:Option Nat} {n:Nat} {ds:List Deferred} {Q Q':Exit→Act→World→Prop}
theorem NoX.lets (h:NoX Q):¬ LetsOut Q:=fun ⟨a,w,q⟩=>by have:=h _ _ _ q;cases this
theorem upon_in {o:Oper}{a:Act}{next next':Act→World→Prop}(hQ:NoX Q)(hn:∀ ds' v w',next ({ a with defers:=ds' }.put o.dst v) w'→next' (appD ds ({ a with defers:=ds' }.put o.dst v)) w') :
    ∀ {r:Result Next},o.upon P a next Q r→o.uponIn (FR ro) n P (appD ds a) next' Q' r
  | .ok (.value v) w',h=>by have:=hn a.defers v w' h;rw [Oper.uponIn_value,put_appD];exact this
  | .ok .skip w',h=>by have:=hn a.defers undef w' h;rw [Oper.uponIn_skip,put_appD];exact this
  | .ok (.defer d) w',h=>by have:=hn (d::a.defers) undef w' h;rw [Oper.uponIn_defer];rw [← put_appD] at this;exact this
  | .ok (.enter f args) w',h=>by
    rw [Oper.uponIn_enter];rw [Oper.upon_enter] at h;refine ⟨fun h=>absurd h (by simp [FR,Fence.wide]),?_⟩;have h2:CallsIn Fence.wide (n-1) P f args w' (fun
      | .returned v,w''=>next' ((appD ds a).put o.dst v) w''
      | .panicked chain,w''=>Q' (.panic chain) (appD ds a) w''
      | .outgrown,_=>LetsOut Q'):=by
      refine callsIn_wide.2 (Calls.mono h ?_);intro e w'' he;cases e with
      | returned v=>have:=hn a.defers v w'' he;simp only;rw [put_appD];exact this
      | panicked chain=>have:=hQ _ _ _ he;cases this
      | outgrown=>exact (hQ.lets he).elim
    exact h2
  | .ok (.row row args) w',h=>by
    rw [Oper.uponIn_row];rw [Oper.upon_row] at h;refine ⟨fun h=>absurd h (by simp [FR,Fence.wide]),?_⟩;intro c cs _;obtain ⟨v,w'',hr,hs⟩:=h c cs;refine ⟨v,w'',?_,?_⟩
    · have:=hn a.defers v w'' hr;simp only;rw [put_appD];exact this
    · exact stepsIn_wide.2 hs
  | .ok (.round _ _ _ _ _) _,h=>False.elim h
  | .ok (.spawn _) _,h=>False.elim h
  | .ok (.comm _ _ _) _,h=>False.elim h
  | .halt (.panic v) w',h=>by rw [Oper.upon_panic] at h;have:=hQ _ _ _ h;cases this
  | .halt x w',h=>by cases x<;>first | exact False.elim h | (rw [Oper.upon_panic] at h;have:=hQ _ _ _ h;cases this)
theorem oper_in {o:Oper}{a:Act}{w:World}{next next':Act→World→Prop}(hQ:NoX Q)(hd:noDef o=true)(hn:∀ ds' v w',next ({ a with defers:=ds' }.put o.dst v) w'→next' (appD ds ({ a with defers:=ds' }.put o.dst v)) w')(h:o.wp P a w next Q):o.wpIn (FR ro) n P (appD ds a) w next' Q':=by refine ⟨fun _ _=>trivial,?_⟩;rw [Oper.semAt_eq _ _ _ (noDef_ne hd),eval_appD];exact upon_in hQ hn h
theorem list_in {ops:Array Oper}{T:List Nat}{t0:Array Value}(hQ:NoX Q)(hq:∀ a' w',Q .normal a' w'→agr T t0 a'.tmps→Q' .normal (appD ds a') w'):∀ (l:List Oper) (a:Act) (w:World),(∀ o,o∈l→noDef o=true∧dstIn T o=true)→agr T t0 a.tmps→wpList P ops Q l a w→wpListIn (FR ro) n P ops Q' l (appD ds a) w
  | [],a,w,_,ha,h=>hq a w h ha
  | o :: l,a,w,hl,ha,h=>by
    unfold wpListIn;unfold wpList at h;have hy:yielded ops (appD ds a).tmps=yielded ops a.tmps:=rfl;rw [hy];split at h
    · rename_i hw;rw [if_pos hw];rcases h with h | ⟨_,h⟩
      · refine oper_in hQ (hl o (by simp)).1 (fun ds' v w' hk=>?_) h;exact list_in hQ hq l _ w' (fun o' ho'=>hl o' (by simp [ho'])) (agr.put (a:={ a with defers:=ds' }) ha (hl o (by simp)).2 v) hk
      · exact (hQ.lets h).elim
    · rename_i hw;rw [if_neg hw];refine ⟨fun _ _=>trivial,?_⟩;rw [put_appD];exact list_in hQ hq l _ w (fun o' ho'=>hl o' (by simp [ho'])) (ha.put (hl o (by simp)).2 _) h
theorem any_in {md:Region.Mode} {ops:Array Oper} {T:List Nat} {t0:Array Value} (hQ:NoX Q) (hq:∀ a' w',Q .normal a' w'→agr T t0 a'.tmps→Q' .normal (appD ds a') w') (hl:∀ o,o∈ops→noDef o=true∧dstIn T o=true):∀ (fuel:Nat) (listed:Array Bool) (a:Act) (w:World),agr T t0 a.tmps→wpAny P md ops Q fuel listed a w→wpAnyIn (FR ro) n P md ops Q' fuel listed (appD ds a) w
  | 0,listed,a,w,ha,h=>⟨h.1,hq a w h.2 ha⟩
  | fuel+1,listed,a,w,ha,h=>by
    refine ⟨fun hr=>hq a w (h.1 hr) ha,fun i hi=>?_⟩;have h2:=h.2 i hi;unfold wpOpIn;unfold wpOp at h2;split
    · rename_i ho;simp only [ho] at h2;exact any_in hQ hq hl fuel _ a w ha h2
    · rename_i o ho;simp only [ho] at h2;have hm:o∈ops:=Array.mem_of_getElem? ho;have hy:yielded ops (appD ds a).tmps=yielded ops a.tmps:=rfl;rw [hy];split at h2
      · rename_i hw;rw [if_pos hw];rcases h2 with h2 | ⟨_,h2⟩
        · refine oper_in hQ (hl o hm).1 (fun ds' v w' hk=>?_) h2;exact any_in hQ hq hl fuel _ _ w' (agr.put (a:={ a with defers:=ds' }) ha (hl o hm).2 v) hk
        · exact (hQ.lets h2).elim
      · rename_i hw;rw [if_neg hw];refine ⟨fun _ _=>trivial,?_⟩;rw [put_appD];exact any_in hQ hq hl fuel _ _ w (ha.put (hl o hm).2 _) h2
end
end Go.V
namespace Go.V
open Go.RowKit
/-! ### States beside blocks that are nobody's -/
theorem RelI.other {w0:Base}{I0:Nat→Prop}{s:List D}{tm:Array Value}{w w':World}{I:Nat→Prop}{Fs:Nat→List Nat}(h:RelI w0 I0 s tm w I Fs)(hbel:w0.Below w')(hsz:w.heap.size≤w'.heap.size)(hk:∀ b,(I b∨∃ r,b∈Fs r)→w'.heap[b]?=w.heap[b]?):RelI w0 I0 s tm w' I Fs where
  below:=hbel
  len:=h.len
  slot:=by
    intro r d u h1 h2;refine (T.keep d (h.slot r d u h1 h2) (fun b hb'=>hk b (hb'.imp_right fun hb'=>⟨r,hb'⟩))).res (fun x v hx=>?_);cases x with
    | ref r' p=>obtain ⟨d',u0,t1,k1,k2,k3,ho,k4⟩:=hx;exact ⟨d',u0,t1,k1,k2,k3,ho,by rw [val_frame p d' (h.slot r' d' u0 k1 k2) k3 (fun b hb'=>hk b (.inr ⟨r',hb'⟩))];exact k4⟩
    | ptr r' p i j=>obtain ⟨d',u0,t',sz,rows,u1,b,o,k1,k2,k3,k4,k5,k6⟩:=hx;exact ⟨d',u0,t',sz,rows,u1,b,o,k1,k2,k3,k4,by rw [val_frame p d' (h.slot r' d' u0 k1 k2) k3 (fun b hb'=>hk b (.inr ⟨r',hb'⟩))];exact k5,k6⟩
    | sub r' p i n=>obtain ⟨d',u0,t',sz,rows,u1,b,o,cc,k1,k2,k3,k4,k5,k6⟩:=hx;exact ⟨d',u0,t',sz,rows,u1,b,o,cc,k1,k2,k3,k4,by rw [val_frame p d' (h.slot r' d' u0 k1 k2) k3 (fun b hb'=>hk b (.inr ⟨r',hb'⟩))];exact k5,k6⟩
    | _=>exact hx.elim
  nd:=h.nd
  disj:=h.disj
  own:=fun r b hb'=>⟨(h.own r b hb').1,Nat.lt_of_lt_of_le (h.own r b hb').2.1 hsz,(h.own r b hb').2.2⟩
  imm:=fun b hb'=>Nat.lt_of_lt_of_le (h.imm b hb') hsz
  imm0:=h.imm0
  immN:=h.immN
theorem RelI.base {w0 w1:Base}{I0 I1:Nat→Prop}{s:List D}{tm:Array Value}{w:World}{I:Nat→Prop}{Fs:Nat→List Nat}(h:RelI w0 I0 s tm w I Fs)(hbel:w1.Below w)(hN:∀ r b,b∈Fs r→w1.N b)(hI1:∀ b,I1 b→I b)(hI2:∀ b,I b→I1 b∨w1.N b):RelI w1 I1 s tm w I Fs where
  below:=hbel
  len:=h.len
  slot:=h.slot
  nd:=h.nd
  disj:=h.disj
  own:=fun r b hb'=>⟨hN r b hb',(h.own r b hb').2⟩
  imm:=h.imm
  imm0:=hI1
  immN:=hI2
theorem Base.comp {w0 w1:Base}{w':World}(h:w0.Below w1.w)(hN:∀ b,w1.N b→w0.N b)(h':w1.Below w'):w0.Below w' :=
  ⟨h'.os.trans h.os,h'.tape.trans h.tape,h'.output.trans h.output,Nat.le_trans h.size h'.size,fun i hi=>(h'.block i fun hn=>hi (hN i hn)).trans (h.block i hi)⟩
theorem RelI.tmps {w0:Base} {I0:Nat→Prop} {s:List D} {tm tm':Array Value} {w:World} {I:Nat→Prop} {Fs:Nat→List Nat} (h:RelI w0 I0 s tm w I Fs) (hsz:tm'.size=tm.size) (hk:∀ (r:Nat) (d:D),s[r]?=some d→d=D.undef∨tm'[r]?=tm[r]?) (hF:∀ r:Nat,s[r]?=some D.undef→Fs r=[]):RelI w0 I0 s tm' w I Fs where
  below:=h.below
  len:=hsz.trans h.len
  slot := by
    have hk':∀ (r:Nat) (d:D) (u0:Value),s[r]?=some d→tm[r]?=some u0→d≠D.undef→tm'[r]?=some u0:=fun r d u0 h1 h2 hd=>by
      rcases hk r d h1 with h3 | h3
      · exact absurd h3 hd
      · rw [h3];exact h2
    intro r d u h1 h2;rcases hk r d h1 with rfl | h3
    · simp only [T];exact hF r h1
    · rw [h3] at h2;refine (h.slot r d u h1 h2).res (fun x v hx=>?_);cases x with
      | ref r' p =>
        obtain ⟨d',u0,t1,k1,k2,k3,ho,k4⟩:=hx;exact ⟨d',u0,t1,k1,hk' r' d' u0 k1 k2 (fun e=>by subst e;cases p with
          | nil=>simp only [treeAt,Option.some.injEq] at k3;subst k3;cases ho
          | cons y p=>obtain ⟨i,j⟩:=y;simp [treeAt,D.cont] at k3),k3,ho,k4⟩
      | ptr r' p i j=>obtain ⟨d',u0,t',sz,rows,u1,b,o,k1,k2,k3,k4,k5,k6⟩:=hx;exact ⟨d',u0,t',sz,rows,u1,b,o,k1,hk' r' d' u0 k1 k2 (fun e=>by subst e;exact treeAt_cont k3 k4 rfl),k3,k4,k5,k6⟩
      | sub r' p i n=>obtain ⟨d',u0,t',sz,rows,u1,b,o,cc,k1,k2,k3,k4,k5,k6⟩:=hx;exact ⟨d',u0,t',sz,rows,u1,b,o,cc,k1,hk' r' d' u0 k1 k2 (fun e=>by subst e;exact treeAt_cont k3 k4 rfl),k3,k4,k5,k6⟩
      | _=>exact hx.elim
  nd:=h.nd
  disj:=h.disj
  own:=h.own
  imm:=h.imm
  imm0:=h.imm0
  immN:=h.immN
/-! ### The state, with marks -/
def mkD (D:Nat):Deferred:={ target:=.collected D,args:=#[] }
def Prot (w0:Base)(w:World)(I:Nat→Prop)(Fs:Nat→List Nat)(Pr:List (Nat×Obj)):Prop:=∀ p,p∈Pr→w.heap[p.1]?=some p.2∧¬ I p.1∧(∀ r,p.1∉Fs r)∧w0.N p.1
def markP (D:Nat):Nat×Obj:=(D,.deferred (some []))
def RelR (Pr:List (Nat×Obj))(w0:Base)(I0:Nat→Prop)(s:List D)(a:Act)(w:World):Prop :=
  ∃ (Ds:List Nat) (I:Nat→Prop) (Fs:Nat→List Nat),a.defers=Ds.map mkD∧Ds.Nodup∧RelI w0 I0 s a.tmps w I Fs∧Prot w0 w I Fs (Pr++Ds.map markP)
theorem heap_lt {w:World}{b:Nat}{o:Obj}(h:w.heap[b]?=some o):b<w.heap.size:=(Array.getElem?_eq_some_iff.1 h).1
theorem region_R {w0:Base}{I0:Nat→Prop}{Pr:List (Nat×Obj)}{VQ:List D→Prop}{s:List D}{a:Act}{w:World}(h:RelR Pr w0 I0 s a w){A:Array Value→Prop}{Q':Exit→Act→World→Prop}
    (hQ:∀ s a w,VQ s→RelR Pr w0 I0 s a w→A a.tmps→Q' .normal a w) :
    ∃ (wr:Base) (a0:Act) (ds:List Deferred),(∀ w',wr.Below w'→w0.Below w')∧a=appD ds a0∧a0.tmps=a.tmps∧Rel wr I0 s a0 w∧∀ a' w',(∃ s',VQ s'∧Rel wr I0 s' a' w')→A a'.tmps→Q' .normal (appD ds a') w':=by
  obtain ⟨Ds,I,Fs,hd,hnd,hR,hP⟩:=h;obtain ⟨wr,hwr⟩:∃ wr:Base,wr=⟨w,fun b=>(∃ r,b∈Fs r)∨(I b∧¬ I0 b)∨w.heap.size≤b,fun _ h=>.inr (.inr h)⟩:=⟨_,rfl⟩
  have hN:∀ b,wr.N b→w0.N b:=by
    intro b hb;rw [hwr] at hb;rcases hb with ⟨r,hb⟩ | ⟨hb,hn⟩ | hb
    · exact (hR.own r b hb).1
    · exact (hR.immN b hb).resolve_left hn
    · exact Base.N_of hR.below hb
  have hw:wr.w=w:=(by rw [hwr]);have hcomp:∀ w',wr.Below w'→w0.Below w':=fun w' h'=>Base.comp (by rw [hw];exact hR.below) hN h';have hRr:RelI wr I0 s a.tmps w I Fs:=hR.base (by rw [hwr];exact Base.Below.refl) (fun r b hb=>by rw [hwr];exact .inl ⟨r,hb⟩) hR.imm0 (fun b hb=>by
    by_cases h0:I0 b
    · exact .inl h0
    · rw [hwr];exact .inr (.inr (.inl ⟨hb,h0⟩)))
  refine ⟨wr,{ a with defers:=[] },a.defers,hcomp,by cases a;rfl,rfl,⟨rfl,I,Fs,hRr⟩,?_⟩;rintro a' w' ⟨s',hVQ,hd',I',Fs',hR'⟩ hag;refine hQ s' (appD a.defers a') w' hVQ ⟨Ds,I',Fs',by simp [appD,hd',hd],hnd,?_,?_⟩ hag
  · refine hR'.base (hcomp w' hR'.below) (fun r b hb=>hN b (hR'.own r b hb).1) hR'.imm0 (fun b hb=>(hR'.immN b hb).imp_right (hN b))
  · intro p hp;obtain ⟨h1,h2,h3,h4⟩:=hP p hp;have hnn:¬ wr.N p.1:=by
      rw [hwr];rintro (⟨r,hr⟩ | ⟨hi,_⟩ | hs)
      · exact h3 r hr
      · exact h2 hi
      · exact absurd (heap_lt h1) (by omega)
    refine ⟨?_,fun hi=>?_,fun r hr=>hnn (hR'.own r _ hr).1,h4⟩
    · have:=hR'.below.block p.1 hnn;rw [hw] at this;rw [this];exact h1
    · rcases hR'.immN _ hi with h0 | h0
      · exact h2 (hR.imm0 _ h0)
      · exact hnn h0
end Go.V
namespace Go.V
open Go.RowKit
def codeDsts:Code→List Nat
  | .region _ ops _=>ops.toList.filterMap (·.dst)
  | .seq a b=>codeDsts a++codeDsts b
  | .cond _ a b=>codeDsts a++codeDsts b
  | .block _ c=>codeDsts c
  | .loop c=>codeDsts c
  | _=>[]
def okR (T:List Nat):Code→Bool
  | .skip=>true
  | .region _ ops _=>ops.toList.all fun o=>noDef o&&dstIn T o
  | .seq a b=>okR T a&&okR T b
  | .cond _ a b=>okR T a&&okR T b
  | .block _ c=>okR T c
  | .loop c=>okR T c
  | .exit _=>true
  | .ret=>true
  | .rangeFunc _ _ _ _=>true
  | _=>false
section
variable (P:Program) (pt:Nat)
def cCodeR:Bool→Code→List (List Bool)→Option (VCode×List (List Bool))
  | _,.skip,ms=>some (.skip,ms)
  | _,.region _ ops false,ms=>match cVOs P ops ops.toList with
    | some l=>some (.ops l,ms)
    | none=>none
  | _,.region id ops true,ms=>match cDrawX P (pt.testBit (2*id+1)) (pt.testBit (2*id)) ops with
    | some l=>some (l,ms)
    | none=>none
  | r,.seq a b,ms=>match cCodeR r a ms with
    | some (x,ms1)=>match cCodeR r b ms1 with
      | some (y,ms2)=>some (.seq x y,ms2)
      | none=>none
    | none=>none
  | r,.cond c a b,ms=>match cCodeR r a ms with
    | some (x,ms1)=>match cCodeR r b ms1 with
      | some (y,ms2)=>some (.cond c x y,ms2)
      | none=>none
    | none=>none
  | r,.block id c,ms=>match cCodeR r c ms with
    | some (x,ms1)=>some (.block id x,ms1)
    | none=>none
  | r,.loop c,ms=>match ms with
    | m::ms=>match cCodeR r c ms with
      | some (x,ms1)=>some (.loop m x,ms1)
      | none=>none
    | []=>none
  | false,.rangeFunc g ps a b,ms=>if (okR (ps.toList++codeDsts a++codeDsts b) a&&okR (ps.toList++codeDsts a++codeDsts b) b)=true then (match cCodeR true a ms with
    | some (x,ms1)=>match cCodeR true b ms1 with
      | some (y,ms2)=>some (.rangeF g ps.toList (maskOf (ps.toList++codeDsts a++codeDsts b)) x y,ms2)
      | none=>none
    | none=>none) else none
  | _,.exit id,ms=>some (.exit id,ms)
  | _,.ret,ms=>some (.ret,ms)
  | _,_,_=>none
end
theorem foldl_max_le:∀ (l:List Nat) (m t:Nat),(t∈l∨t<m)→t<l.foldl (fun m t=>max m (t+1)) m
  | [],m,t,h=>h.elim (fun h=>by cases h) id
  | x :: l,m,t,h=>by
    rw [List.foldl_cons];refine foldl_max_le l _ t ?_;rcases h with h | h
    · rcases List.mem_cons.1 h with rfl | h
      · exact .inr (by omega)
      · exact .inl h
    · exact .inr (by omega)
theorem maskOf_get (l:List Nat)(r:Nat):(maskOf l).getD r false=l.contains r:=by
  unfold maskOf;rw [List.getD_eq_getElem?_getD,List.getElem?_map];by_cases hr:r<topOf l
  · simp [List.getElem?_range,hr]
  · have:r∉l:=fun h=>hr (foldl_max_le l 0 r (.inl h));simp [List.getElem?_range,hr,this]
theorem putMany_T {w0:Base}{I0:Nat→Prop}{w:World}{I:Nat→Prop}:∀ (ps:List Nat) (xs:List D) (us:List Value) {s:List D} {tm:Array Value} {Fs:Nat→List Nat},RelI w0 I0 s tm w I Fs→Vals I w xs nil us []→xs.length=ps.length →
    ∃ Fs',RelI w0 I0 (putMany s ps xs) ((ps.zip us).foldl (fun t (p,v)=>t.setIfInBounds p v) tm) w I Fs'
  | [],[],us,s,tm,Fs,h,hV,_=>⟨Fs,by simpa [putMany] using h⟩
  | [],x::xs,us,s,tm,Fs,h,hV,hl=>by cases hl
  | p::ps,[],us,s,tm,Fs,h,hV,hl=>by cases hl
  | p::ps,x::xs,us,s,tm,Fs,h,hV,hl=>by
    simp only [Vals] at hV;obtain ⟨u,us',F1,F2,rfl,hF,hT,hV'⟩:=hV;have hF':=(List.append_eq_nil_iff.1 hF.symm)
    rw [hF'.1] at hT;rw [hF'.2] at hV';obtain ⟨Fs1,h1⟩:=putD_T (a:={ tmps:=tm,defers:=[] }) h p (hT.res (fun _ _ h=>h.elim)) Fresh.nil;obtain ⟨Fs2,h2⟩:=putMany_T ps xs us' h1 hV' (by simpa using hl);exact ⟨Fs2,by simpa [putMany,List.zip_cons_cons] using h2⟩
theorem agr_many {T:List Nat}:∀ (ps:List Nat) (us:List Value) {t0 tm:Array Value},(∀ p,p∈ps→p∈T)→agr T t0 tm→agr T t0 ((ps.zip us).foldl (fun t (p,v)=>t.setIfInBounds p v) tm)
  | [],us,t0,tm,_,h=>h
  | p::ps,[],t0,tm,_,h=>h
  | p::ps,u::us,t0,tm,hp,h=>by rw [List.zip_cons_cons,List.foldl_cons];exact agr_many ps us (fun q hq=>hp q (by simp [hq])) (h.set (hp p (by simp)) u)
section
variable {P:Program} {G:World→(Nat→Prop)→Prop}
theorem RelR.back {Pr:List (Nat×Obj)}{w0:Base}{I0:Nat→Prop}{s:List D}{a:Act}{w:World}(h:RelR Pr w0 I0 s a w){T:List Nat}{t:Array Value}(ha:agr T t a.tmps):RelR Pr w0 I0 (clr (maskOf T) s) { tmps:=t,defers:=a.defers } w:=by
  obtain ⟨Ds,I,Fs,hd,hnd,hR,hP⟩:=h;have hget:∀ r d,(clr (maskOf T) s)[r]?=some d→d=.undef∨(r∉T∧∃ d',s[r]?=some d'∧d=d'.prune (keepQ (maskOf T))):=by
    intro r d h1;unfold clr at h1;rw [clrL_get] at h1;cases hs:s[r]? with
    | none=>simp [hs] at h1
    | some d' =>
      simp only [hs,Option.map_some,Option.some.injEq] at h1;by_cases hm:(maskOf T).getD r false=true
      · rw [if_pos hm] at h1;exact .inl h1.symm
      · rw [if_neg hm] at h1;refine .inr ⟨fun hr=>hm ?_,d',rfl,h1.symm⟩;rw [maskOf_get];simpa using hr
  have hc:=hR.clr (maskOf T);refine ⟨Ds,I,_,hd,hnd,hc.tmps ha.1.symm (fun r d h1=>?_) (fun r h1=>?_),fun p hp=>?_⟩
  · rcases hget r d h1 with h2 | ⟨hr,_⟩
    · exact .inl h2
    · exact .inr (ha.2 r hr).symm
  · show (if (maskOf T).getD r false then [] else Fs r)=[]
    split
    · rfl
    · rename_i hm;have hlt:r<a.tmps.size:=by have:=(List.getElem?_eq_some_iff.1 h1).1;rw [hc.len];exact this
      have:=hc.slot r _ _ h1 (Array.getElem?_eq_getElem hlt);simp only [Go.V.T,if_neg hm] at this;exact this
  · obtain ⟨h1,h2,h3,h4⟩:=hP p hp;refine ⟨h1,h2,fun r hr=>?_,h4⟩;split at hr
    · cases hr
    · exact h3 r hr
theorem RelR.nle {Pr:List (Nat×Obj)}{w0:Base}{I0:Nat→Prop}{s s1:List D}{a:Act}{w:World}(h:RelR Pr w0 I0 s a w)(hl:nleL s s1):RelR Pr w0 I0 s1 a w:=by obtain ⟨Ds,I,Fs,hd,hnd,hR,hP⟩:=h;exact ⟨Ds,I,Fs,hd,hnd,hR.nle hl,hP⟩
theorem RelR.clr {Pr:List (Nat×Obj)}{w0:Base}{I0:Nat→Prop}{s:List D}{a:Act}{w:World}(h:RelR Pr w0 I0 s a w)(m:List Bool):RelR Pr w0 I0 (clr m s) a w:=by
  obtain ⟨Ds,I,Fs,hd,hnd,hR,hP⟩:=h;refine ⟨Ds,I,_,hd,hnd,hR.clr m,fun p hp=>?_⟩;obtain ⟨h1,h2,h3,h4⟩:=hP p hp;refine ⟨h1,h2,fun r hr=>?_,h4⟩;split at hr
  · cases hr
  · exact h3 r hr
theorem RelR.putL {w0:Base}{I0:Nat→Prop}{s:List D}{a:Act}{w:World}{L:Nat}{r:Loop}{M:List (Nat×Obj)}(h:RelR ((L,.loop r)::M) w0 I0 s a w)(hM:∀ p,p∈M→p.1≠L)(r':Loop):RelR ((L,.loop r')::M) w0 I0 s a (w.putObj L (.loop r')):=by
  obtain ⟨Ds,I,Fs,hd,hnd,hR,hP⟩:=h;obtain ⟨k1,k2,k3,k4⟩:=hP (L,.loop r) (by simp);have hlt:=heap_lt k1;refine ⟨Ds,I,Fs,hd,hnd,hR.other ?_ (by simp) (fun b hb=>World.putObj_heap_other (fun e=>by
    subst e;rcases hb with hb | ⟨q,hb⟩
    · exact k2 hb
    · exact k3 q hb)),fun p hp=>?_⟩
  · exact ⟨hR.below.os,hR.below.tape,hR.below.output,by simpa using hR.below.size,fun i hi=>(World.putObj_heap_other (fun e=>by subst e;exact hi k4)).trans (hR.below.block i hi)⟩
  · rw [List.cons_append] at hp;rcases List.mem_cons.1 hp with rfl | hp
    · exact ⟨World.putObj_heap_same hlt,k2,k3,k4⟩
    · obtain ⟨h1,h2,h3,h4⟩:=hP p (by rw [List.cons_append];exact List.mem_cons_of_mem _ hp);refine ⟨(World.putObj_heap_other (fun e=>?_)).trans h1,h2,h3,h4⟩;rcases List.mem_append.1 hp with hp | hp
      · exact hM p hp (by first | exact e | exact e.symm)
      · obtain ⟨D,_,rfl⟩:=List.mem_map.1 hp;simp only [markP] at e h1;subst e;rw [k1] at h1;cases h1
theorem RelR.sub {w0:Base}{I0:Nat→Prop}{s:List D}{a:Act}{w:World}{x:Nat×Obj}{M:List (Nat×Obj)}(h:RelR (x::M) w0 I0 s a w):RelR [x] w0 I0 s a w:=by
  obtain ⟨Ds,I,Fs,hd,hnd,hR,hP⟩:=h;refine ⟨Ds,I,Fs,hd,hnd,hR,fun p hp=>hP p ?_⟩;rcases List.mem_append.1 hp with hp | hp
  · rw [List.mem_singleton.1 hp];simp
  · exact List.mem_append_right _ hp
theorem RelR.grow {w0:Base}{I0:Nat→Prop}{Pr:List (Nat×Obj)}{s:List D}{a:Act}{w w':World}(h:RelR Pr w0 I0 s a w)(hb:Go.RowKit.Below w.heap.size w w'):RelR Pr w0 I0 s a w':=by obtain ⟨Ds,I,Fs,hd,hnd,hR,hP⟩:=h;refine ⟨Ds,I,Fs,hd,hnd,hR.world hb,fun p hp=>?_⟩;obtain ⟨h1,h2,h3,h4⟩:=hP p hp;exact ⟨(hb.block _ (heap_lt h1)).trans h1,h2,h3,h4⟩
theorem RelR.add {w0:Base}{I0:Nat→Prop}{s:List D}{a:Act}{w:World}{x:Nat×Obj}{M:List (Nat×Obj)}(h:RelR (x::M) w0 I0 s a w)(o:Obj):RelR (x::(w.heap.size,o)::M) w0 I0 s a (w.alloc o):=by
  have hb:Go.RowKit.Below w.heap.size w (w.alloc o):=(Below.refl _ w).alloc (Nat.le_refl _) _;obtain ⟨Ds,I,Fs,hd,hnd,hR,hP⟩:=h;refine ⟨Ds,I,Fs,hd,hnd,hR.world hb,fun p hp=>?_⟩;have hcase:p=(w.heap.size,o)∨p∈x::M++Ds.map markP:=by
    simp only [List.cons_append,List.mem_cons,List.mem_append] at hp ⊢;rcases hp with hp | hp | hp
    · exact .inr (.inl hp)
    · exact .inl hp
    · exact .inr (.inr hp)
  rcases hcase with rfl | hp
  · exact ⟨World.alloc_heap_new w o,fun hi=>by have:=hR.imm _ hi;simp only at this;omega,fun r hr=>by have:=(hR.own r _ hr).2.1;simp only at this;omega,Base.N_of hR.below (Nat.le_refl _)⟩
  · obtain ⟨h1,h2,h3,h4⟩:=hP p hp;exact ⟨(hb.block _ (heap_lt h1)).trans h1,h2,h3,h4⟩
theorem RelR.setM {w0:Base}{I0:Nat→Prop}{s:List D}{a:Act}{w:World}{L:Nat}{oL:Obj}{M1 M2:List (Nat×Obj)}{b:Nat}{cs:Array Value}{ty:TypeId}{fz:Nat×Nat}(h:RelR ((L,oL)::(M1++(b,.cells cs ty fz)::M2)) w0 I0 s a w)(hL:b≠L)(hn:((M1++(b,Obj.cells cs ty fz)::M2).map (·.1)).Nodup)(j:Nat)(v:Value):RelR ((L,oL)::(M1++(b,.cells (cs.setIfInBounds j v) ty fz)::M2)) w0 I0 s a (w.setCell ⟨b,j,none⟩ v):=by
  obtain ⟨Ds,I,Fs,hd,hnd,hR,hP⟩:=h;obtain ⟨k1,k2,k3,k4⟩:=hP (b,.cells cs ty fz) (by simp);have k1:w.heap[b]?=some (.cells cs ty fz):=k1;have hlt:=heap_lt k1;have hoth:∀ x,x≠b→(w.setCell ⟨b,j,none⟩ v).heap[x]?=w.heap[x]?:=fun x hx=>Below.heap_setCell _ _ _ _ hx;have hsz:(w.setCell ⟨b,j,none⟩ v).heap.size=w.heap.size:=(by simp [World.setCell]);have hsame:(w.setCell ⟨b,j,none⟩ v).heap[b]?=some (.cells (cs.setIfInBounds j v) ty fz):=(by obtain ⟨hlt',hk3⟩:=Array.getElem?_eq_some_iff.1 k1;show (w.heap.modify b _)[b]?=_;rw [Array.getElem?_eq_getElem (by rw [Array.size_modify];exact hlt'),Array.getElem_modify_self,hk3];rfl);refine ⟨Ds,I,Fs,hd,hnd,hR.other ?_ (by rw [hsz];exact Nat.le_refl _) (fun x hx=>hoth x (fun e=>by
    subst e;rcases hx with hx | ⟨q,hx⟩
    · exact k2 hx
    · exact k3 q hx)),fun p hp=>?_⟩
  · exact ⟨hR.below.os,hR.below.tape,hR.below.output,by rw [hsz];exact hR.below.size,fun i hi=>(hoth i (fun e=>by subst e;exact hi k4)).trans (hR.below.block i hi)⟩
  · have hcase:p=(b,.cells (cs.setIfInBounds j v) ty fz)∨(p∈((L,oL)::(M1++(b,Obj.cells cs ty fz)::M2))++Ds.map markP∧p.1≠b):=by
      rw [List.map_append,List.map_cons,List.nodup_append] at hn;obtain ⟨n1,n2,n3⟩:=hn;have n2':=List.nodup_cons.1 n2;simp only [List.cons_append,List.mem_cons,List.mem_append] at hp ⊢;rcases hp with hp | (hp | hp | hp) | hp
      · exact .inr ⟨.inl hp,by rw [hp];exact fun e=>hL e.symm⟩
      · exact .inr ⟨.inr (.inl (.inl hp)),fun e=>n3 b (List.mem_map.2 ⟨p,hp,e⟩) b (by simp) rfl⟩
      · exact .inl hp
      · exact .inr ⟨.inr (.inl (.inr (.inr hp))),fun e=>n2'.1 (List.mem_map.2 ⟨p,hp,e⟩)⟩
      · refine .inr ⟨.inr (.inr hp),fun e=>?_⟩;obtain ⟨D,_,rfl⟩:=List.mem_map.1 hp;have h1:=(hP (markP D) (List.mem_append_right _ hp)).1;simp only [markP] at e h1;rw [e,k1] at h1;cases h1
    rcases hcase with rfl | ⟨hp,hne⟩
    · exact ⟨hsame,k2,k3,k4⟩
    · obtain ⟨h1,h2,h3,h4⟩:=hP p hp;exact ⟨(hoth _ hne).trans h1,h2,h3,h4⟩
theorem RelR.drop {w0:Base}{I0:Nat→Prop}{Pr:List (Nat×Obj)}{s:List D}{a:Act}{w:World}(h:RelR Pr w0 I0 s a w):RelR Pr w0 I0 s { tmps:=a.tmps,defers:=[] } w:=by obtain ⟨Ds,I,Fs,hd,hnd,hR,hP⟩:=h;exact ⟨[],I,Fs,rfl,List.nodup_nil,hR,fun p hp=>hP p (List.mem_append_left _ (by simpa using hp))⟩
theorem RelR.obj {w0:Base}{I0:Nat→Prop}{L:Nat}{o:Obj}{M:List (Nat×Obj)}{s:List D}{a:Act}{w:World}(h:RelR ((L,o)::M) w0 I0 s a w):w.heap[L]?=some o:=by obtain ⟨Ds,I,Fs,hd,hnd,hR,hP⟩:=h;exact (hP (L,o) (by simp)).1
theorem RelR.bel {w0:Base}{I0:Nat→Prop}{Pr:List (Nat×Obj)}{s:List D}{a:Act}{w:World}(h:RelR Pr w0 I0 s a w):w0.Below w:=by obtain ⟨Ds,I,Fs,hd,hnd,hR,hP⟩:=h;exact hR.below
theorem zip_fold (ps:Array Nat)(us:List Value)(tm:Array Value):(ps.zip us.toArray).foldl (fun t (p,v)=>t.setIfInBounds p v) tm=(ps.toList.zip us).foldl (fun t (p,v)=>t.setIfInBounds p v) tm:=by rw [← Array.foldl_toList,Array.toList_zip]
theorem sim_codeR {pt:Nat}:∀ (c:Code) (rnd:Bool) (ro:Option Nat) (n:Nat) (w0:Base) (I0:Nat→Prop) (Pr:List (Nat×Obj)) (T:List Nat) (t0:Array Value) (ms ms':List (List Bool)) (vc:VCode) (VQ:VExit→List D→Prop) (Q:Exit→Act→World→Prop) (s:List D) (a:Act) (w:World),
    (rnd=false→ro=none)→(∀ w',w0.Below w'→GI G w' I0)→cCodeR P pt rnd c ms=some (vc,ms')→okR T c=true→vc.wp (CT P G) VQ s→RelR Pr w0 I0 s a w→agr T t0 a.tmps→(∀ e s a w,VQ e s→RelR Pr w0 I0 s a w→agr T t0 a.tmps→Q e.to a w)→c.wpIn (FR ro) n P Q a w
  | .skip,rnd,ro,n,w0,I0,Pr,T,t0,ms,ms',vc,VQ,Q,s,a,w,hro,hcl,hc,hT,hk,h,ha,hQ=>by simp only [cCodeR,Option.some.injEq,Prod.mk.injEq] at hc;obtain ⟨rfl,_⟩:=hc;exact wpIn_skip (hQ .normal s a w hk h ha)
  | .region id ops draw,rnd,ro,n,w0,I0,Pr,T,t0,ms,ms',vc,VQ,Q,s,a,w,hro,hcl,hc,hT,hk,h,ha,hQ=>by
    have hops:∀ o,o∈ops.toList→noDef o=true∧dstIn T o=true:=(by intro o ho;simp only [okR,List.all_eq_true,Bool.and_eq_true] at hT;exact hT o ho);obtain ⟨wr,a0,ds,hbel,rfl,hat,hrel,hend⟩:=region_R (VQ:=VQ .normal) (A:=agr T t0) (Q':=Q) h (fun s a w hk h ha=>hQ .normal s a w hk h ha);have hcl':∀ w',wr.Below w'→GI G w' I0:=fun w' hw'=>hcl w' (hbel w' hw');have hn:NoX (fun e a' w'=>e=Exit.normal∧∃ s',VQ .normal s'∧Rel wr I0 s' a' w'):=fun e a w h=>h.1;have ha0:agr T t0 a0.tmps:=(by rw [hat];exact ha);cases draw with
    | true =>
      simp only [cCodeR] at hc;cases hl:cDrawX P (pt.testBit (2*id+1)) (pt.testBit (2*id)) ops with
      | none=>cases rnd<;>simp [hl] at hc
      | some l =>
        have hc':l=vc:=by cases rnd<;>(simp only [hl,Option.some.injEq,Prod.mk.injEq] at hc;exact hc.1)
        subst hc';have:=sim_cDrawX (Q:=fun e a' w'=>e=Exit.normal∧∃ s',VQ .normal s'∧Rel wr I0 s' a' w') hcl' hl hn hk (fun s a w hk h=>⟨rfl,s,hk,h⟩) hrel;exact wpIn_region_any this.1 (any_in (T:=T) (t0:=t0) hn (fun a' w' hq hag=>hend a' w' hq.2 hag) (fun o ho=>hops o (by simpa using ho)) _ _ a0 _ ha0 this.2)
    | false =>
      simp only [cCodeR] at hc;cases hl:cVOs P ops ops.toList with
      | none=>cases rnd<;>simp [hl] at hc
      | some l =>
        have hc':VCode.ops l=vc:=by cases rnd<;>(simp only [hl,Option.some.injEq,Prod.mk.injEq] at hc;exact hc.1)
        subst hc';simp only [VCode.wp] at hk;exact wpIn_region_list (list_in (T:=T) (t0:=t0) hn (fun a' w' hq hag=>hend a' w' hq.2 hag) _ a0 w hops ha0 (sim_ops hcl' ops (KK:=VQ .normal) (fun s a w hk h=>⟨rfl,s,hk,h⟩) ops.toList l s a0 w hl hk hrel))
  | .seq x y,rnd,ro,n,w0,I0,Pr,T,t0,ms,ms',vc,VQ,Q,s,a,w,hro,hcl,hc,hT,hk,h,ha,hQ=>by
    simp only [okR,Bool.and_eq_true] at hT;simp only [cCodeR] at hc;cases hx:cCodeR P pt rnd x ms with
    | none=>cases rnd<;>simp [hx] at hc
    | some r =>
      obtain ⟨vx,ms1⟩:=r;cases hy:cCodeR P pt rnd y ms1 with
      | none=>cases rnd<;>simp [hx,hy] at hc
      | some r =>
        obtain ⟨vy,ms2⟩:=r;have hc':VCode.seq vx vy=vc:=by cases rnd<;>(simp only [hx,hy,Option.some.injEq,Prod.mk.injEq] at hc;exact hc.1)
        subst hc';simp only [VCode.wp] at hk;refine wpIn_seq (sim_codeR x rnd ro n w0 I0 Pr T t0 ms ms1 vx _ _ s a w hro hcl hx hT.1 hk h ha ?_);intro e s' a' w' hq hr hag;cases e with
        | normal=>exact sim_codeR y rnd ro n w0 I0 Pr T t0 ms1 ms2 vy VQ Q s' a' w' hro hcl hy hT.2 hq hr hag hQ
        | exit id=>exact hQ (.exit id) s' a' w' hq hr hag
        | ret=>exact hQ .ret s' a' w' hq hr hag
  | .cond c x y,rnd,ro,n,w0,I0,Pr,T,t0,ms,ms',vc,VQ,Q,s,a,w,hro,hcl,hc,hT,hk,h,ha,hQ=>by
    simp only [okR,Bool.and_eq_true] at hT;simp only [cCodeR] at hc;cases hx:cCodeR P pt rnd x ms with
    | none=>cases rnd<;>simp [hx] at hc
    | some r =>
      obtain ⟨vx,ms1⟩:=r;cases hy:cCodeR P pt rnd y ms1 with
      | none=>cases rnd<;>simp [hx,hy] at hc
      | some r =>
        obtain ⟨vy,ms2⟩:=r;have hc':VCode.cond c vx vy=vc:=by cases rnd<;>(simp only [hx,hy,Option.some.injEq,Prod.mk.injEq] at hc;exact hc.1)
        subst hc';simp only [VCode.wp] at hk;obtain ⟨Ds,I,Fs,hd,hnd,hR,hP⟩:=h;have hTc:=lk_T hR c;split at hk
        · rename_i t e;rw [e] at hTc;refine wpIn_cond_split (T_v hTc).1 (fun ht=>?_) (fun ht=>?_)
          · exact sim_codeR x rnd ro n w0 I0 Pr T t0 ms ms1 vx VQ Q s a w hro hcl hx hT.1 (hk.1 ht) ⟨Ds,I,Fs,hd,hnd,hR,hP⟩ ha hQ
          · exact sim_codeR y rnd ro n w0 I0 Pr T t0 ms1 ms2 vy VQ Q s a w hro hcl hy hT.2 (hk.2 ht) ⟨Ds,I,Fs,hd,hnd,hR,hP⟩ ha hQ
        · exact hk.elim
  | .block id c,rnd,ro,n,w0,I0,Pr,T,t0,ms,ms',vc,VQ,Q,s,a,w,hro,hcl,hc,hT,hk,h,ha,hQ=>by
    simp only [okR] at hT;simp only [cCodeR] at hc;cases hx:cCodeR P pt rnd c ms with
    | none=>cases rnd<;>simp [hx] at hc
    | some r =>
      obtain ⟨vx,ms1⟩:=r;have hc':VCode.block id vx=vc:=by cases rnd<;>(simp only [hx,Option.some.injEq,Prod.mk.injEq] at hc;exact hc.1)
      subst hc';simp only [VCode.wp] at hk;refine wpIn_block (sim_codeR c rnd ro n w0 I0 Pr T t0 ms ms1 vx _ _ s a w hro hcl hx hT hk h ha ?_);intro e s' a' w' hq hr hag;cases e with
      | normal=>exact hQ .normal s' a' w' hq hr hag
      | ret=>exact hQ .ret s' a' w' hq hr hag
      | exit i =>
        simp only [vblock] at hq;by_cases hi:i=id
        · rw [if_pos hi] at hq;simp only [VExit.to,Exit.inBlock,hi,if_true];exact hQ .normal s' a' w' hq hr hag
        · rw [if_neg hi] at hq;simp only [VExit.to,Exit.inBlock,hi,if_false];exact hQ (.exit i) s' a' w' hq hr hag
  | .loop c,rnd,ro,n,w0,I0,Pr,T,t0,ms,ms',vc,VQ,Q,s,a,w,hro,hcl,hc,hT,hk,h,ha,hQ=>by
    simp only [okR] at hT;simp only [cCodeR] at hc;cases ms with
    | nil=>cases rnd<;>simp at hc
    | cons m ms =>
      cases hx:cCodeR P pt rnd c ms with
      | none=>cases rnd<;>simp [hx] at hc
      | some r =>
        obtain ⟨vx,ms1⟩:=r;have hc':VCode.loop m vx=vc:=by cases rnd<;>(simp only [hx,Option.some.injEq,Prod.mk.injEq] at hc;exact hc.1)
        subst hc';simp only [VCode.wp] at hk;obtain ⟨J,⟨k,s1,hle,h0⟩,hround⟩:=hk;refine wpIn_loop_ghost (fun n a w=>∃ s,J n s∧RelR Pr w0 I0 s a w∧agr T t0 a.tmps) k ⟨_,h0,(h.clr m).nle hle,ha⟩ ?_;rintro k a w ⟨s,hJ,hr,hag⟩;refine sim_codeR c rnd ro n w0 I0 Pr T t0 ms ms1 vx _ _ s a w hro hcl hx hT (hround k s hJ) hr hag ?_;intro e s' a' w' hq hr' hag';cases e with
        | normal=>obtain ⟨m',hlt,s1,hle,hJ'⟩:=hq;exact ⟨m',hlt,_,hJ',(hr'.clr m).nle hle,hag'⟩
        | exit id=>exact hQ (.exit id) s' a' w' hq hr' hag'
        | ret=>exact hQ .ret s' a' w' hq hr' hag'
  | .exit id,rnd,ro,n,w0,I0,Pr,T,t0,ms,ms',vc,VQ,Q,s,a,w,hro,hcl,hc,hT,hk,h,ha,hQ=>by
    have hc':VCode.exit id=vc:=by cases rnd<;>(simp only [cCodeR,Option.some.injEq,Prod.mk.injEq] at hc;exact hc.1)
    subst hc';exact wpIn_exit (hQ (.exit id) s a w hk h ha)
  | .ret,rnd,ro,n,w0,I0,Pr,T,t0,ms,ms',vc,VQ,Q,s,a,w,hro,hcl,hc,hT,hk,h,ha,hQ=>by
    have hc':VCode.ret=vc:=by cases rnd<;>(simp only [cCodeR,Option.some.injEq,Prod.mk.injEq] at hc;exact hc.1)
    subst hc';exact wpIn_ret (hQ .ret s a w hk h ha)
  | .rangeFunc g ps ca cb,true,ro,n,w0,I0,Pr,T,t0,ms,ms',vc,VQ,Q,s,a,w,hro,hcl,hc,hT,hk,h,ha,hQ=>by simp [cCodeR] at hc
  | .rangeFunc g ps ca cb,false,ro,n,w0,I0,Pr,T,t0,ms,ms',vc,VQ,Q,s,a,w,hro,hcl,hc,hT,hk,h,ha,hQ=>by
    obtain rfl:=hro rfl;simp only [cCodeR] at hc;split at hc
    case isFalse=>cases hc
    rename_i hok;simp only [Bool.and_eq_true] at hok;obtain ⟨hoka,hokb⟩:=hok;cases hx:cCodeR P pt true ca ms with
    | none=>simp [hx] at hc
    | some r =>
    obtain ⟨va,ms1⟩:=r;cases hy:cCodeR P pt true cb ms1 with
    | none=>simp [hx,hy] at hc
    | some r =>
    obtain ⟨vb,ms2⟩:=r;simp only [hx,hy,Option.some.injEq,Prod.mk.injEq] at hc;obtain ⟨rfl,_⟩:=hc;simp only [VCode.wp] at hk;obtain ⟨T',hT'⟩:∃ T',T'=ps.toList++codeDsts ca++codeDsts cb:=⟨_,rfl⟩
    have hps:∀ p,p∈ps.toList→p∈T':=fun p hp=>by rw [hT'];simp [hp]
    rw [← hT'] at hoka hokb hk;clear hT';obtain ⟨Ds,I,Fs,hd,hnd,hR,hP⟩:=h
    -- what the function value keeps of its own: X; the slots without it
    obtain ⟨F,caps,us,X,sX,FsX,xs,hev,hit,hV,hXn,hXo,hRX,hXF,hsubX,hlen,J,⟨s1,hle,hJ0⟩,hround,hdone⟩:∃ (F:FuncId) (caps:List D) (us:List Value) (X:List Nat) (sX:List D) (FsX:Nat→List Nat) (xs:List (List D)),a.eval g=.func (.func F) #[] us.toArray∧IterC P G F (pruneL (fun _=>false) caps) xs∧Vals I w (pruneL (fun _=>false) caps) nil us X∧X.Nodup∧(∀ b,b∈X→(∃ r,b∈Fs r))∧RelI w0 I0 sX a.tmps w I FsX∧(∀ b,b∈X→∀ r,b∉FsX r)∧(∀ r b,b∈FsX r→b∈Fs r)∧(∀ x,x∈xs→x.length=ps.toList.length)∧∃ J:Nat→List D→Prop,(∃ s1,nleL (clr (maskOf T') sX) s1∧J 0 s1) ∧
        (∀ i s' x,J i s'→xs[i]?=some x→va.wp (CT P G) (vthen (vb.wp (CT P G) (roundQ (maskOf T') (J (i+1)) VQ)) (fun _ _=>False)) (putMany s' ps.toList x))∧(∀ s',J xs.length s'→VQ .normal s'):=by
      rcases hk with hk | ⟨tg,F,caps,rfl,hsg,xs,hit,hlen,J,h0,hround,hdone⟩
      · have hTg:=lk_T hR g;split at hk
        case h_2=>exact hk.elim
        rename_i F caps elk;obtain ⟨xs,hit,hlen,J,h0,hround,hdone⟩:=hk;rw [elk] at hTg;simp only [Go.V.T] at hTg;obtain ⟨us0,us,F1,F2,hev,hFF,hV0,hV⟩:=hTg;have hFF':=List.append_eq_nil_iff.1 hFF.symm;rw [hFF'.2] at hV;simp only [Vals] at hV0;obtain ⟨rfl,_⟩:=hV0;exact ⟨F,caps,us,[],s,Fs,xs,hev,hit,Vals.turn (ρ':=nil) (fun x v hq _=>by cases hq) caps hV,List.nodup_nil,(fun b hb=>by cases hb),hR,(fun b hb=>by cases hb),(fun _ _ h=>h),hlen,J,h0,hround,hdone⟩
      · obtain ⟨u,hu,hTg⟩:=hR.slot0 hsg;simp only [Go.V.T] at hTg;obtain ⟨us0,us,F1,F2,hev,hFF,hV0,hV⟩:=hTg;simp only [Vals] at hV0;obtain ⟨rfl,rfl⟩:=hV0;rw [List.nil_append] at hFF;have hg:a.eval (.tmp tg)=u:=(by simp [Act.eval,hu]);refine ⟨F,caps,us,Fs tg,_,upd Fs tg [],xs,by rw [hg,hev],hit,by rw [hFF];exact Vals.turn (ρ':=nil) (fun x v hq _=>by cases hq) caps hV,hR.nd tg,fun b hb=>⟨tg,hb⟩,hR.forget tg,fun b hb r hr=>?_,fun r b hb=>?_,hlen,J,h0,hround,hdone⟩
        · unfold upd at hr;split at hr
          · cases hr
          · rename_i hne;exact hne (hR.disj r tg b hr hb)
        · unfold upd at hb;split at hb
          · cases hb
          · exact hb
    obtain ⟨hen,hit⟩:=hit;have hXo2:∀ b,b∈X→b<w.heap.size∧¬ I b:=fun b hb=>by obtain ⟨r,hr⟩:=hXo b hb;exact ⟨(hR.own r b hr).2.1,(hR.own r b hr).2.2⟩
    obtain ⟨encs,henc,hiter⟩:=hit w I us X ((hcl w hR.below).mono hR.imm0) hR.imm hV hXn hXo2;obtain ⟨M0,hM0X,hM0⟩:∃ M0:List (Nat×Obj),M0.map (·.1)=X∧∀ p,p∈M0→w.heap[p.1]?=some p.2:=by
      clear hXn hXo hXF hV hiter hit;induction X with
      | nil=>exact ⟨[],rfl,fun p hp=>by cases hp⟩
      | cons b X ih =>
        obtain ⟨M,h1,h2⟩:=ih (fun b hb=>hXo2 b (by simp [hb]));have hlt:=(hXo2 b (by simp)).1;refine ⟨(b,w.heap[b])::M,by simp [h1],fun p hp=>?_⟩;rcases List.mem_cons.1 hp with rfl | hp
        · exact Array.getElem?_eq_getElem hlt
        · exact h2 p hp
    refine wpIn_rangeFunc ?_;intro fn hfn;obtain ⟨rec,hrec⟩:∃ rec:LoopState→Option Code→Loop,rec=fun st pe=>{ state:=st,pending:=pe,fn,tmps:=a.tmps,params:=ps,assign:=ca,body:=cb,defers:=w.heap.size }:=⟨_,rfl⟩
    obtain ⟨W1,hW1⟩:∃ W1,(w.alloc (.deferred (some []))).alloc (.loop (rec .ready none))=W1:=⟨_,rfl⟩
    have hL1:W1.heap[w.heap.size+1]?=some (.loop (rec .ready none)):=(by rw [← hW1];have:=World.alloc_heap_new (w.alloc (.deferred (some []))) (.loop (rec .ready none));rwa [World.size_alloc] at this);have hK1:W1.heap[w.heap.size]?=some (.deferred (some [])):=(by rw [← hW1];exact (Below.heap_alloc _ _ _ (by simp)).trans (World.alloc_heap_new w _));have hbw:Go.RowKit.Below w.heap.size w W1:=(by rw [← hW1];exact ((Below.refl _ w).alloc (Nat.le_refl _) _).alloc (by simp) _);have hszW:W1.heap.size=w.heap.size+2:=(by rw [← hW1];simp);have hR1:=hR.world hbw
    -- the base of the rounds
    obtain ⟨wB,hwB⟩:∃ wB:Base,wB=⟨W1,fun b=>(∃ r,b∈Fs r)∨b=w.heap.size+1∨W1.heap.size≤b,fun _ h=>.inr (.inr h)⟩:=⟨_,rfl⟩
    have hwBw:wB.w=W1:=(by rw [hwB]);have hNB:∀ b,wB.N b→w0.N b:=by
      intro b hb;rw [hwB] at hb;rcases hb with ⟨r,hb⟩ | rfl | hb
      · exact (hR.own r b hb).1
      · exact Base.N_of hR.below (by omega)
      · exact Base.N_of hR1.below hb
    have hcomp:∀ w',wB.Below w'→w0.Below w':=fun w' h'=>Base.comp (by rw [hwBw];exact hR1.below) hNB h';have hIN:∀ b,I b→¬ wB.N b:=by
      intro b hb hn;rw [hwB] at hn;have:=hR.imm b hb;rcases hn with ⟨r,hr⟩ | rfl | hn
      · exact (hR.own r b hr).2.2 hb
      · omega
      · omega
    have hclB:∀ w',wB.Below w'→GI G w' I:=fun w' h'=>(hcl w' (hcomp w' h')).mono hR.imm0;have hRB:RelR ((w.heap.size+1,.loop (rec .ready none))::M0) wB I s1 { tmps:=a.tmps,defers:=[] } W1:=by
      have h0:RelR ((w.heap.size+1,.loop (rec .ready none))::M0) wB I sX { tmps:=a.tmps,defers:=[] } W1:=by
       refine ⟨[],I,FsX,rfl,List.nodup_nil,(hRX.world hbw).base (w1:=wB) (by rw [hwB];exact Base.Below.refl) (fun r b hb=>by rw [hwB];exact .inl ⟨r,hsubX r b hb⟩) (fun _ h=>h) (fun _ h=>.inl h),fun p hp=>?_⟩;simp only [List.map_nil,List.append_nil] at hp;rcases List.mem_cons.1 hp with rfl | hp
       · refine ⟨hL1,fun hi=>by have:=hR.imm _ hi;simp only at this;omega,fun r hr=>by have:=(hR.own r _ (hsubX r _ hr)).2.1;simp only at this;omega,by rw [hwB];exact .inr (.inl rfl)⟩
       · have hpX:p.1∈X:=(by rw [← hM0X];exact List.mem_map_of_mem hp);have h1:=hM0 p hp;exact ⟨(hbw.block _ (heap_lt h1)).trans h1,(hXo2 _ hpX).2,hXF _ hpX,by rw [hwB];exact .inl (hXo _ hpX)⟩
      exact (h0.clr _).nle hle
    -- what holds between the rounds
    have hins:=hiter (w.heap.size+1)
      (fun k M W=>((∀ p,p∈M→p.1≠w.heap.size+1)∧(M.map (·.1)).Nodup)∧∃ s',J k s'∧RelR ((w.heap.size+1,.loop (rec .ready none))::M) wB I s' { tmps:=a.tmps,defers:=[] } W)
      (fun W=>∃ (e:VExit) (s':List D) (c:Code),((e=.ret∧c=.ret)∨∃ id,e=.exit id∧c=.exit id)∧VQ e s'∧RelR [(w.heap.size+1,.loop (rec .done (some c)))] wB I s' { tmps:=a.tmps,defers:=[] } W)
      W1 M0 hbw hM0X hM0 (fun k M1 M2 b cs ty fz A j v hJ=>by
        obtain ⟨⟨hM,hn⟩,s',h1,h2⟩:=hJ;have e:(M1++(b,Obj.cells (cs.setIfInBounds j v) ty fz)::M2).map (·.1)=(M1++(b,Obj.cells cs ty fz)::M2).map (·.1):=(by simp);refine ⟨⟨fun p hp=>?_,by rw [e];exact hn⟩,s',h1,h2.setM (hM (b,.cells cs ty fz) (by simp)) hn j v⟩;have:p.1∈(M1++(b,Obj.cells cs ty fz)::M2).map (·.1):=(by rw [← e];exact List.mem_map_of_mem hp);obtain ⟨q,hq,hqe⟩:=List.mem_map.1 this;rw [← hqe];exact hM q hq) (fun k M A B hJ hb=>by obtain ⟨hM,s',h1,h2⟩:=hJ;exact ⟨hM,s',h1,h2.grow hb⟩) (fun k M A o hJ=>by
        obtain ⟨⟨hM,hn⟩,s',h1,h2⟩:=hJ;refine ⟨⟨fun p hp=>?_,?_⟩,s',h1,h2.add o⟩
        · rcases List.mem_cons.1 hp with rfl | hp
          · have:=heap_lt h2.obj;simp only;omega
          · exact hM p hp
        · rw [List.map_cons];refine List.nodup_cons.2 ⟨fun hm=>?_,hn⟩;obtain ⟨q,hq,hqe⟩:=List.mem_map.1 hm;obtain ⟨_,_,_,_,_,_,hP2⟩:=h2;have:=heap_lt (hP2 q (List.mem_append_left _ (List.mem_cons_of_mem _ hq))).1;simp only at hqe;omega) (fun k M A p hJ hp=>by
        obtain ⟨_,s',_,_,_,_,_,_,_,hP⟩:=hJ;exact (hP p (List.mem_append_left _ (List.mem_cons_of_mem _ hp))).1) (fun A B hJ hb=>by obtain ⟨e,s',c,h0,h1,h2⟩:=hJ;exact ⟨e,s',c,h0,h1,h2.grow hb⟩) ?_ ⟨⟨(fun p hp=>by have hpX:p.1∈X:=by { rw [← hM0X];exact List.mem_map_of_mem hp };have:=(hXo2 _ hpX).1;omega),by rw [hM0X];exact hXn⟩,s1,hJ0,hRB⟩
    · refine ⟨w.heap.size+1,[{ target:=.collected w.heap.size,args:=#[] }],W1,{ target:=.fn (.func F) us.toArray,args:=#[.func (.yield (w.heap.size+1)) #[] #[]] },W1,F,
        #[.func (.yield (w.heap.size+1)) #[] #[]]++us.toArray,W1,?_,?_,fun _ _=>trivial,?_,fun h=>absurd h (by simp [FR,Fence.wide]),?_⟩
      · rw [← hW1,hrec];exact run_enterLoop_outer _ _ _ _ _
      · simp only [resolve,hev];simp [go_sem]
      · simp [invoke,go_sem,hen]
      · have hins2:CallsIn Fence.wide (n-1) P F (#[.func (.yield (w.heap.size+1)) #[] #[]]++us.toArray) W1 (rangePost (FR none) n P (w.heap.size+1) Q { a with defers:=[{ target:=.collected w.heap.size,args:=#[] }]++a.defers }):=by
          refine callsIn_wide.2 (Calls.mono (callsIn_wide.1 hins) ?_)
          -- behind the loop
          have behind:∀ (s':List D) (W2:World) (st:LoopState) (pe:Option Code),RelR [(w.heap.size+1,.loop (rec st pe))] wB I s' { tmps:=a.tmps,defers:=[] } W2 →
              RelR Pr w0 I0 s' { a with defers:=[{ target:=.collected w.heap.size,args:=#[] }]++a.defers } (W2.putObj (w.heap.size+1) (.loop { rec st pe with state:=.exhausted })):=by
            intro s' W2 st pe h2;obtain ⟨Ds',I',Fs',hd',hnd',hR',hP'⟩:=RelR.putL h2 (fun p hp=>by cases hp) { rec st pe with state:=.exhausted };have hold:∀ (b:Nat) (o:Obj),W1.heap[b]?=some o→¬ I b→(∀ r,b∉Fs r)→b≠w.heap.size+1→(W2.putObj (w.heap.size+1) (.loop { rec st pe with state:=.exhausted })).heap[b]?=some o∧¬ I' b∧(∀ r,b∉Fs' r):=by
              intro b o h1 h2 h3 h4;have hnn:¬ wB.N b:=by
                rw [hwB];rintro (⟨r,hr⟩ | hr | hr)
                · exact h3 r hr
                · exact h4 hr
                · have:=heap_lt h1;omega
              refine ⟨?_,fun hi=>?_,fun r hr=>hnn (hR'.own r _ hr).1⟩
              · have:=hR'.below.block b hnn;rw [hwBw] at this;rw [this];exact h1
              · rcases hR'.immN _ hi with h0 | h0
                · exact h2 h0
                · exact hnn h0
            have hDlt:∀ D,D∈Ds→D<w.heap.size:=fun D hD=>heap_lt (hP (markP D) (List.mem_append_right _ (List.mem_map.2 ⟨D,hD,rfl⟩))).1;refine ⟨w.heap.size::Ds,I',Fs',by simp [hd,mkD],List.nodup_cons.2 ⟨fun hm=>by have:=hDlt _ hm;omega,hnd⟩,?_,?_⟩
            · exact hR'.base (hcomp _ hR'.below) (fun r b hb=>hNB b (hR'.own r b hb).1) (fun b hb=>hR'.imm0 b (hR.imm0 b hb)) (fun b hb=>by
                rcases hR'.immN b hb with h0 | h0
                · exact hR.immN b h0
                · exact .inr (hNB b h0))
            · intro p hp;have hcase:p∈Pr++Ds.map markP∨p=markP w.heap.size:=by
                rcases List.mem_append.1 hp with hp | hp
                · exact .inl (List.mem_append_left _ hp)
                · rw [List.map_cons] at hp;rcases List.mem_cons.1 hp with rfl | hp
                  · exact .inr rfl
                  · exact .inl (List.mem_append_right _ hp)
              rcases hcase with hp | rfl
              · obtain ⟨h1,h2,h3,h4⟩:=hP p hp;have hlt:=heap_lt h1;obtain ⟨k1,k2,k3⟩:=hold p.1 p.2 ((hbw.block _ hlt).trans h1) h2 h3 (by omega);exact ⟨k1,k2,k3,h4⟩
              · obtain ⟨k1,k2,k3⟩:=hold w.heap.size _ hK1 (fun hi=>by have:=hR.imm _ hi;omega) (fun r hr=>by have:=(hR.own r _ hr).2.1;omega) (by omega);exact ⟨k1,k2,k3,Base.N_of hR.below (Nat.le_refl _)⟩
          rintro e W2 ⟨⟨v,rfl⟩,(⟨M,_,s',hJ,h2⟩ | ⟨e,s',c,hec,hq,h2⟩)⟩
          · replace h2:=h2.sub
            obtain ⟨_,_,_,_,_,_,hP2⟩:=h2;have hl:=(hP2 _ (List.mem_append_left _ (List.mem_singleton.2 rfl))).1;exact ⟨none,_,by have:=run_endLoop (P:=P) hl (by rw [hrec];simp);rw [hrec] at this ⊢;exact this,hQ .normal s' _ _ (hdone s' hJ) (behind s' W2 .ready none ⟨_,_,_,‹_›,‹_›,‹_›,hP2⟩) ha⟩
          · obtain ⟨_,_,_,_,_,_,hP2⟩:=h2;have hl:=(hP2 _ (List.mem_append_left _ (List.mem_singleton.2 rfl))).1;have hb:=behind s' W2 .done (some c) ⟨_,_,_,‹_›,‹_›,‹_›,hP2⟩;refine ⟨some c,W2.putObj (w.heap.size+1) (.loop { rec .done (some c) with state:=.exhausted }),by have:=run_endLoop (P:=P) hl (by rw [hrec];simp);rw [hrec] at this ⊢;exact this,?_⟩;rcases hec with ⟨rfl,rfl⟩ | ⟨id,rfl,rfl⟩
            · exact wpIn_ret (hQ .ret s' _ _ hq hb ha)
            · exact wpIn_exit (hQ (.exit id) s' _ _ hq hb ha)
        exact hins2
    · -- one round
      rintro k M W hk ⟨hM,s',hJ,hrel⟩;obtain ⟨x,hxk⟩:∃ x,xs[k]?=some x:=⟨xs[k],List.getElem?_eq_getElem hk⟩
      have hVx:=henc k x hxk;have hlx:=hlen x (List.mem_of_getElem? hxk);have hlu:(encs k).length=ps.size:=(by have:=hVx.len;rw [this,hlx];simp);obtain ⟨Ds0,I1,Fs1,hd1,hnd1,hR2,hP2⟩:=hrel;have hDs0:Ds0=[]:=by cases Ds0 with
        | nil=>rfl
        | cons D Ds0=>simp at hd1
      subst hDs0;have hl:=(hP2 _ (List.mem_append_left _ List.mem_cons_self)).1;have hyl:=run_yield (P:=P) (args:=(encs k).toArray) hl (by rw [hrec];simp [hlu]);rw [hrec] at hyl;simp only at hyl;rw [zip_fold] at hyl;refine ⟨fn,_,ca,cb,hyl,roundIn_of_wpIn trivial ?_⟩;clear hyl
      -- the values of the round, at their slots
      have hVxW:Vals I W x nil (encs k) []:=Vals.keep x hVx (fun b hb=>by
        rcases hb with hb | hb
        · have:=hR2.below.block b (hIN b hb);rw [hwBw] at this;exact this.trans (hbw.block b (hR.imm b hb))
        · cases hb)
      have hrel0:RelR ((w.heap.size+1,.loop (rec .ready none))::M) wB I s' { tmps:=a.tmps,defers:=[] } W:=⟨[],I1,Fs1,rfl,hnd1,hR2,hP2⟩
      have hput:RelR ((w.heap.size+1,.loop (rec .ready none))::M) wB I (putMany s' ps.toList x) { tmps:=(ps.toList.zip (encs k)).foldl (fun t (p,v)=>t.setIfInBounds p v) a.tmps,defers:=[] } W:=(by obtain ⟨wr,a0,ds,hbel,ha0,hat,hrel1,hend⟩:=region_R (VQ:=fun s=>s=putMany s' ps.toList x) (A:=fun _=>True) (Q':=fun _ a2 w2=>RelR ((w.heap.size+1,.loop (rec .ready none))::M) wB I (putMany s' ps.toList x) a2 w2) hrel0 (fun s a w h hr _=>by rw [← h];exact hr);have hds:ds=[]:=(by have:=congrArg Act.defers ha0;simp only [appD] at this;exact (List.append_eq_nil_iff.1 this.symm).2);subst hds;obtain ⟨_,I2,Fs2,hR3⟩:=hrel1;obtain ⟨Fs3,hR4⟩:=putMany_T ps.toList x (encs k) hR3 (Vals.mono hR3.imm0 _ hVxW) (by simpa using hlx);rw [hat] at hR4;exact hend { tmps:=(ps.toList.zip (encs k)).foldl (fun t (p,v)=>t.setIfInBounds p v) a.tmps,defers:=[] } W ⟨_,rfl,rfl,I2,Fs3,hR4⟩ trivial);have hkeep:∀ w',wB.Below w'→KeepB I W w':=fun w' h' b hb=>(h'.block b (hIN b hb)).trans (hR2.below.block b (hIN b hb)).symm;refine sim_codeR ca true (some (w.heap.size+1)) 1 wB I _ T' a.tmps ms ms1 va _ _ _ _ W (fun h=>by cases h) hclB hx hoka (hround k s' x hJ hxk) hput (agr_many ps.toList (encs k) hps agr.refl) ?_;intro e s2 a2 w2 hq hr2 hag2;cases e with
      | exit id=>exact hq.elim
      | ret=>exact hq.elim
      | normal =>
        have hl2:=hr2.obj;refine ⟨_,run_beginRound hl2 (by rw [hrec]),?_⟩;refine sim_codeR cb true (some (w.heap.size+1)) 1 wB I _ T' a.tmps ms1 ms2 vb (roundQ (maskOf T') (J (k+1)) VQ) _ s2 a2 _ (fun h=>by cases h) hclB hy hokb hq (hr2.putL hM.1 _) hag2 ?_;intro e s3 a3 w3 hq3 hr3 hag3;have hl3:=hr3.obj;cases e with
        | normal=>obtain ⟨s4,hle4,hJ4⟩:=hq3;have hfin:=(((hr3.back hag3).nle hle4).drop).putL hM.1 (rec .ready none);refine ⟨_,w3.putObj (w.heap.size+1) (.loop (rec .ready none)),by have:=run_endRound (P:=P) none hl3;rw [hrec] at this ⊢;exact this,.inl ⟨rfl,⟨hM,s4,hJ4,hfin⟩,hkeep _ hfin.bel⟩⟩
        | ret=>have hfin:=(((hr3.back hag3).drop).sub).putL (fun p hp=>by cases hp) (rec .done (some .ret));refine ⟨_,w3.putObj (w.heap.size+1) (.loop (rec .done (some .ret))),by have:=run_endRound (P:=P) (some .ret) hl3;rw [hrec] at this ⊢;exact this,.inr ⟨rfl,.ret,_,.ret,.inl ⟨rfl,rfl⟩,hq3,hfin⟩⟩
        | exit id=>have hfin:=(((hr3.back hag3).drop).sub).putL (fun p hp=>by cases hp) (rec .done (some (.exit id)));refine ⟨_,w3.putObj (w.heap.size+1) (.loop (rec .done (some (.exit id)))),by have:=run_endRound (P:=P) (some (.exit id)) hl3;rw [hrec] at this ⊢;exact this,.inr ⟨rfl,.exit id,_,.exit id,.inr ⟨id,rfl,rfl⟩,hq3,hfin⟩⟩
  | .scope _,rnd,_,_,_,_,_,_,_,_,_,_,_,_,_,_,_,_,_,hc,_,_,_,_,_=>by cases rnd<;>simp [cCodeR] at hc
  | .label _,rnd,_,_,_,_,_,_,_,_,_,_,_,_,_,_,_,_,_,hc,_,_,_,_,_=>by cases rnd<;>simp [cCodeR] at hc
  | .goto _,rnd,_,_,_,_,_,_,_,_,_,_,_,_,_,_,_,_,_,hc,_,_,_,_,_=>by cases rnd<;>simp [cCodeR] at hc
  | .refuse _,rnd,_,_,_,_,_,_,_,_,_,_,_,_,_,_,_,_,_,hc,_,_,_,_,_=>by cases rnd<;>simp [cCodeR] at hc
end
end Go.V
namespace Go.V
open Go.RowKit
section
variable {P:Program} {w0:Base} {I0:Nat→Prop} {s:List D} {a:Act} {w':World} {I':Nat→Prop} {Fs:Nat→List Nat}
theorem fin_T {fn:Func} {rvs:List RV} {KK:List D→List D→Prop} (hr:cRes P fn.results.toList=some rvs) (hR:RelI w0 I0 s a.tmps w' I' Fs) (hq:rvsK s rvs KK) :
    ∃ v,(results fn a.tmps).run P w'=.ok v w'∧∃ ds F s2 Fs2,KK ds s2∧T I' w' (one ds) nil v F∧F.Nodup∧(∀ b,b∈F→w0.N b∧b<w'.heap.size∧¬ I' b)∧RelI w0 I0 s2 a.tmps w' I' Fs2∧∀ b,b∈F→∀ r,b∉Fs2 r:=by
  obtain ⟨us',ds,F,s2,Fs2,m1,m2,m3,m4,m5,m6,m7,m8,m9,m10⟩:=rvs_T fn.results.toList hR hr hq;have hrun:(results fn a.tmps).run P w'=.ok (if us'.length=1 then us'.headD undef else .tuple us'.toArray) w':=by
    rw [results_eq,Sem.run_bind,Array.mapM_eq_mapM_toList,Sem.run_map,m1];simp only [Result.andThen_ok,Sem.run_pure];by_cases h1:us'.length=1
    · rw [if_pos h1,dif_pos (by simpa using h1)];cases us' with
      | nil=>simp at h1
      | cons u us2=>simp
    · rw [if_neg h1,dif_neg (by simpa using h1)]
  have hT : T I' w' (one ds) nil (if us'.length=1 then us'.headD undef else .tuple us'.toArray) F:=by
    have hl:=m4.len;by_cases h1:us'.length=1
    · rw [if_pos h1];cases ds with
      | nil=>rw [h1] at hl;simp at hl
      | cons d1 ds =>
        cases ds with
        | nil=>simp only [Vals] at m4;obtain ⟨u,us2,F1,F2,e1,e2,ht,e3,e4⟩:=m4;subst e1;subst e2;subst e3;subst e4;simpa [one] using ht
        | cons d2 ds=>rw [h1] at hl;simp at hl
    · rw [if_neg h1];have:one ds=.tup ds:=by
        cases ds with
        | nil=>rfl
        | cons d1 ds=>cases ds with
          | nil=>exact absurd hl h1
          | cons d2 ds=>rfl
      rw [this];simp only [T];exact ⟨us',rfl,m4⟩
  exact ⟨_,hrun,ds,F,s2,Fs2,m3,hT,m5,m6,m8,m10⟩
theorem leaves_marks {fn:Func}{tm:Array Value}{R:Ending→World→Prop}(hend:∀ w'',RelI w0 I0 s tm w'' I' Fs→∃ v,(results fn tm).run P w''=.ok v w''∧R (.returned v) w''):∀ (Ds:List Nat) (w':World),RelI w0 I0 s tm w' I' Fs→Ds.Nodup→Prot w0 w' I' Fs (Ds.map markP)→LeavesInM Fence.wide 0 P fn tm R (Ds.map mkD) .returning w'
  | [],w',hR,_,_=>hend w' hR
  | D :: Ds,w',hR,hnd,hP=>by
    obtain ⟨k1,k2,k3,k4⟩:=hP (markP D) (by simp);simp only [markP] at k1 k2 k3 k4;have hlt:=heap_lt k1;refine ⟨by simp,.inl ⟨D,w'.putObj D (.deferred none),rfl,run_takeDeferred k1,?_⟩⟩;refine leaves_marks hend Ds _ (hR.other ⟨hR.below.os,hR.below.tape,hR.below.output,by simpa using hR.below.size,fun i hi=>(World.putObj_heap_other (fun e=>by subst e;exact hi k4)).trans (hR.below.block i hi)⟩ (by simp) (fun b hb=>World.putObj_heap_other (fun e=>by
      subst e;rcases hb with hb | ⟨q,hb⟩
      · exact k2 hb
      · exact k3 q hb))) (List.nodup_cons.1 hnd).2 (fun p hp=>?_)
    obtain ⟨h1,h2,h3,h4⟩:=hP p (by rw [List.map_cons];exact List.mem_cons_of_mem _ hp);refine ⟨(World.putObj_heap_other (fun e=>?_)).trans h1,h2,h3,h4⟩;obtain ⟨D',hD',rfl⟩:=List.mem_map.1 hp;simp only [markP] at e;subst e;exact (List.nodup_cons.1 hnd).1 hD'
end
theorem body_coreR {pt:Nat}{P:Program}{G:World→(Nat→Prop)→Prop}{f:FuncId}{fn:Func}{c:Code}{ms ms':List (List Bool)}{vc:VCode}{rvs:List RV}{KK:List D→List D→Prop}{w:World}{I:Nat→Prop}{us:List Value}{X:List Nat}{s0:List D}{Fs0:Nat→List Nat}(hG:∀ w',(ioB w X).Below w'→GI G w' I)(hf:P.funcs[f]?=some fn)(hb:fn.body=some c)
    (hc:cCodeR P pt false c ms=some (vc,ms')) (hok:okR (codeDsts c) c=true) (hr:cRes P fn.results.toList=some rvs) (hrel:RelI (ioB w X) I s0 (us.toArray++Array.replicate (fn.ntmps-us.toArray.size) undef) w I Fs0) (hk:vc.wp (CT P G) (finK rvs KK) s0) :
    Calls P f us.toArray w fun e w'=>∃ v ds F s2 Fs2 I' tm,e=.returned v∧KK ds s2∧(ioB w X).Below w'∧T I' w' (one ds) nil v F∧F.Nodup∧(∀ b,b∈F→(ioB w X).N b∧b<w'.heap.size∧¬ I' b)∧RelI (ioB w X) I s2 tm w' I' Fs2∧∀ b,b∈F→∀ r,b∉Fs2 r:=by
  refine (callsIn_wide (n:=0)).1 (callsIn_of_wp_marks hf hb trivial ?_ rfl);refine sim_codeR c false none 0 (ioB w X) I [] (codeDsts c) _ ms ms' vc (finK rvs KK) _ _ _ w (fun _=>rfl) hG hc hok hk ⟨[],I,Fs0,rfl,List.nodup_nil,hrel,fun p hp=>by simp at hp⟩ agr.refl ?_;intro e s a w' hq hr' _;obtain ⟨Ds,I',Fs,hd,hnd,hR,hP⟩:=hr';have key:rvsK s rvs KK→LeavesInM Fence.wide 0 P fn a.tmps (fun e w'=>∃ v ds F s2 Fs2 I' tm,e=.returned v∧KK ds s2∧(ioB w X).Below w'∧T I' w' (one ds) nil v F∧F.Nodup∧(∀ b,b∈F→(ioB w X).N b∧b<w'.heap.size∧¬ I' b)∧RelI (ioB w X) I s2 tm w' I' Fs2∧∀ b,b∈F→∀ r,b∉Fs2 r) a.defers .returning w':=by intro hq;rw [hd];refine leaves_marks (w0:=ioB w X) (I0:=I) (s:=s) (I':=I') (Fs:=Fs) (fun w'' hR=>?_) Ds w' hR hnd (fun p hp=>hP p (by simpa using hp));obtain ⟨v,hrun,ds,F,s2,Fs2,m3,hT,m5,m6,m8,m10⟩:=fin_T (a:=a) hr hR hq;exact ⟨v,hrun,v,ds,F,s2,Fs2,I',a.tmps,rfl,m3,hR.below,hT,m5,m6,m8,m10⟩
  cases e with
  | normal=>exact key hq
  | ret=>exact key hq
  | exit id=>exact hq.elim
theorem contract_ofR {pt:Nat}{P:Program}{G:World→(Nat→Prop)→Prop}{f:FuncId}{fn:Func}{c:Code}{ms ms':List (List Bool)}{vc:VCode}{rvs:List RV}{args:List D}{d:D}(hcl:Stab G)(hf:P.funcs[f]?=some fn)(hen:∀ (us:Array Value) (W:World),(callFunc f us).run P W=.ok (.enter f us) W)(hb:fn.body=some c)
    (hc:cCodeR P pt false c ms=some (vc,ms')) (hok:okR (codeDsts c) c=true) (hr:cRes P fn.results.toList=some rvs) (hk:vc.wp (CT P G) (endQ rvs d) (args++List.replicate (fn.ntmps-args.length) .undef)):Contract P G f args d:=by
  refine ⟨hen,fun w I us hG hI hV=>?_⟩;have hlen:=hV.len;refine (body_coreR (I:=I) (X:=[]) (us:=us) (Fs0:=fun _=>[]) (fun w' hb'=>hG.keep hcl fun b hb=>hb'.block b (fun hn=>hn.elim (fun h=>absurd (hI b hb) (by omega)) (fun h=>by cases h))) hf hb hc hok hr ?_ hk).mono ?_
  · exact {
      below:=Base.Below.refl
      len:=by simp [hlen]
      slot:=fun r d' u h1 h2=>start_slots hV h1 h2
      nd:=fun _=>List.nodup_nil
      disj:=fun _ _ _ h=>by cases h
      own:=fun _ _ h=>by cases h
      imm:=hI
      imm0:=fun _ h=>h
      immN:=fun _ h=>.inl h }
  · rintro e w' ⟨v,ds,F,s2,Fs2,I',tm,he,hle,hbel,hT,hnd,hF,hR,_⟩;obtain ⟨F',k1,k2⟩:=T.leF _ _ hT hle;have hN:∀ x,(ioB w []).N x→w.heap.size≤x:=fun x h=>h.elim id (fun h=>by cases h);exact ⟨v,F',I',he,⟨hbel.os,hbel.tape,hbel.output,hbel.size,fun k hk=>hbel.block k (fun h=>by have:=hN k h;omega)⟩,k1,k2.nodup hnd,fun b hb=>⟨hN b (hF b (k2.subset hb)).1,(hF b (k2.subset hb)).2⟩,hR.imm0,fun b hb=>⟨(hR.immN b hb).imp_right (hN b),hR.imm b hb⟩⟩
end Go.V
namespace Go.V
open Go.RowKit
/-! ### The machine run by simp: every continuation is a constant applied, none a function written out -/
variable {Ctr:CtrT} {s:List D} {K:D→List D→Prop} {KK:List D→Prop} {os:List VO}
def contK (Ctr:CtrT)(os:List VO)(KK:List D→Prop):List D→Prop:=fun s=>opsK Ctr s os KK
def putK (dst:Option Nat)(K:List D→Prop):D→List D→Prop:=fun d s=>K (match dst with | some t=>putD s t d | none=>s)
def guardK (Ctr:CtrT)(dst:Option Nat)(want:Bool)(op:VOp)(d:D)(s:List D)(K:List D→Prop):Prop :=
  match d with
  | .v (.bool b)=>(b=want→evalK Ctr s op (putK dst K))∧(b≠want→K (match dst with | some t=>putD s t (.v (.tuple #[])) | none=>s))
  | .v _=>K (match dst with | some t=>putD s t (.v (.tuple #[])) | none=>s)
  | _=>False
theorem ops_nil:opsK Ctr s [] KK=KK s:=rfl
theorem ops_cons {dst:Option Nat}{op:VOp}:opsK Ctr s (⟨dst,none,op⟩::os) KK=evalK Ctr s op (putK dst (contK Ctr os KK)):=rfl
theorem ops_guard {dst:Option Nat}{op:VOp}{g:Nat}{want:Bool}:opsK Ctr s (⟨dst,some (g,want),op⟩::os) KK=guardK Ctr dst want op (lkT s g) s (contK Ctr os KK):=rfl
theorem cont_app:contK Ctr os KK s=opsK Ctr s os KK:=rfl
theorem put_some {t:Nat}{d:D}:putK (some t) KK d s=KK (putD s t d):=rfl
theorem put_none {d:D}:putK none KK d s=KK s:=rfl
theorem guard_tt {dst:Option Nat}{op:VOp}:guardK Ctr dst true op (.v (.bool true)) s KK=evalK Ctr s op (putK dst KK):=by simp [guardK]
theorem guard_ff {dst:Option Nat}{op:VOp}:guardK Ctr dst false op (.v (.bool false)) s KK=evalK Ctr s op (putK dst KK):=by simp [guardK]
theorem guard_tf {t:Nat}{op:VOp}:guardK Ctr (some t) true op (.v (.bool false)) s KK=KK (putD s t (.v (.tuple #[]))):=by simp [guardK]
theorem guard_ft {t:Nat}{op:VOp}:guardK Ctr (some t) false op (.v (.bool true)) s KK=KK (putD s t (.v (.tuple #[]))):=by simp [guardK]
theorem guard_skip {t:Nat}{op:VOp}{want:Bool}:guardK Ctr (some t) want op (.v (.tuple #[])) s KK=KK (putD s t (.v (.tuple #[]))):=by simp [guardK]
theorem guard_split {dst:Option Nat}{op:VOp}{want b:Bool}{s:List D}{KK:List D→Prop}(h1:b=true→guardK Ctr dst want op (.v (.bool true)) s KK)(h2:b=false→guardK Ctr dst want op (.v (.bool false)) s KK):guardK Ctr dst want op (.v (.bool b)) s KK:=by
  cases b
  · exact h2 rfl
  · exact h1 rfl
/-! looking -/
def lkF (t:Nat):Option D→D
  | some (.sl true _ _)=>.ref t []
  | some (.mp _ _)=>.ref t []
  | some (.box _ _)=>.ptr t [] 0 0
  | some (.fn f a c)=>if ownyL a||ownyL c then ownF f a c else .fn f a c
  | some d=>if d.owny then .undef else d
  | none=>.undef
theorem ownF_box {f b cs}:ownF f [.box (some b) cs] []=.fn f [.v (.pointer (some ⟨b,0,none⟩))] []:=rfl
theorem lk_tmp {t:Nat}:lk s (.tmp t)=lkF t s[t]?:=by unfold lk lkT lkF;rfl
theorem lkT_eq {t:Nat}:lkT s t=lkF t s[t]?:=by unfold lkT lkF;rfl
theorem lk_const {v:Value}:lk s (.const v)=ofV v:=rfl
theorem lk_func {f:FuncId}:lk s (.func f)=.fn f [] []:=rfl
section
variable {t:Nat}
theorem lkF_own {sz rows}:lkF t (some (.sl true sz rows))=.ref t []:=rfl
theorem lkF_imm {sz rows}:lkF t (some (.sl false sz rows))=.sl false sz rows:=rfl
theorem lkF_box {g cs}:lkF t (some (.box g cs))=.ptr t [] 0 0:=rfl
theorem lkF_mp {k e}:lkF t (some (.mp k e))=.ref t []:=rfl
theorem lkF_imp {k e}:lkF t (some (.imp k e))=.imp k e:=rfl
theorem lkF_v {v}:lkF t (some (.v v))=.v v:=rfl
theorem lkF_nils:lkF t (some .nils)=.nils:=rfl
theorem lkF_undef:lkF t (some .undef)=.undef:=rfl
theorem lkF_ref {r q}:lkF t (some (.ref r q))=.ref r q:=rfl
theorem lkF_sub {r q i j}:lkF t (some (.sub r q i j))=.sub r q i j:=rfl
theorem lkF_ptr {r q i j}:lkF t (some (.ptr r q i j))=.ptr r q i j:=rfl
theorem lkF_iptr {cs j}:lkF t (some (.iptr cs j))=.iptr cs j:=rfl
theorem lkF_agg {cs}:lkF t (some (.agg cs))=if ownyL cs then .undef else .agg cs:=rfl
theorem lkF_fn {f a b}:lkF t (some (.fn f a b))=if ownyL a||ownyL b then ownF f a b else .fn f a b:=rfl
end
def rawF (t:Nat):Option D→D
  | some (.box _ _)=>.ptr t [] 0 0
  | some d=>d
  | none=>.undef
theorem raw_tmp {t:Nat}:raw s (.tmp t)=rawF t s[t]?:=by unfold raw rawF;rfl
theorem raw_const {v:Value}:raw s (.const v)=ofV v:=rfl
theorem raw_func {f:FuncId}:raw s (.func f)=.fn f [] []:=rfl
def tkF (t:Nat)(s:List D):Option D→D×List D
  | some (.sl true sz rows)=>(.sl true sz rows,(pruneL (notRoot t) s).set t .undef)
  | some (.mp k e)=>(.mp k e,(pruneL (notRoot t) s).set t .undef)
  | some (.box _ _)=>(.ptr t [] 0 0,s)
  | some d=>(d,if d.owny then s.set t .undef else s)
  | none=>(.undef,s)
theorem tk_tmp {t:Nat}:tk s (.tmp t)=tkF t s s[t]?:=by unfold tk tkT tkF;rfl
theorem tkT_eq {t:Nat}:tkT s t=tkF t s s[t]?:=by unfold tkT tkF;rfl
theorem tk_const {v:Value}:tk s (.const v)=(ofV v,s):=rfl
theorem tk_func {f:FuncId}:tk s (.func f)=(.fn f [] [],s):=rfl
section
variable {t:Nat}
theorem tkF_own {sz rows}:tkF t s (some (.sl true sz rows))=(.sl true sz rows,(pruneL (notRoot t) s).set t .undef):=rfl
theorem tkF_imm {sz rows}:tkF t s (some (.sl false sz rows))=(.sl false sz rows,s):=rfl
theorem tkF_box {g cs}:tkF t s (some (.box g cs))=(.ptr t [] 0 0,s):=rfl
theorem tkF_mp {k e}:tkF t s (some (.mp k e))=(.mp k e,(pruneL (notRoot t) s).set t .undef):=rfl
theorem tkF_imp {k e}:tkF t s (some (.imp k e))=(.imp k e,s):=rfl
theorem tkF_v {v}:tkF t s (some (.v v))=(.v v,s):=rfl
theorem tkF_nils:tkF t s (some .nils)=(.nils,s):=rfl
theorem tkF_undef:tkF t s (some .undef)=(.undef,s):=rfl
theorem tkF_ref {r q}:tkF t s (some (.ref r q))=(.ref r q,s):=rfl
theorem tkF_sub {r q i j}:tkF t s (some (.sub r q i j))=(.sub r q i j,s):=rfl
theorem tkF_ptr {r q i j}:tkF t s (some (.ptr r q i j))=(.ptr r q i j,s):=rfl
theorem tkF_iptr {cs j}:tkF t s (some (.iptr cs j))=(.iptr cs j,s):=rfl
theorem tkF_agg {cs}:tkF t s (some (.agg cs))=(.agg cs,if ownyL cs then s.set t .undef else s):=rfl
theorem tkF_tup {cs}:tkF t s (some (.tup cs))=(.tup cs,if ownyL cs then s.set t .undef else s):=rfl
theorem tkF_fn {f a b}:tkF t s (some (.fn f a b))=(.fn f a b,if ownyL a||ownyL b then s.set t .undef else s):=rfl
end
theorem tkL_nil:tkL s []=([],s):=rfl
theorem tkL_cons {x:Operand}{xs:List Operand}:tkL s (x::xs)=((tk s x).1.prune (aliveQ (tkL (tk s x).2 xs).2)::(tkL (tk s x).2 xs).1,(tkL (tk s x).2 xs).2):=rfl
def putF (s:List D)(t:Nat)(d:D):Option D→List D
  | some (.sl true sz rows)=>(pruneL (notRoot t) s).set t (putO t sz rows d)
  | some (.mp _ _)=>(pruneL (notRoot t) s).set t (d.prune (notRoot t))
  | some (.box _ _)=>(pruneL (notRoot t) s).set t (d.prune (notRoot t))
  | _=>s.set t d
theorem putD_eq {t:Nat}{d:D}:putD s t d=putF s t d s[t]?:=by unfold putD putF;rfl
section
variable {t:Nat} {d:D}
theorem putF_own {sz rows}:putF s t d (some (.sl true sz rows))=(pruneL (notRoot t) s).set t (putO t sz rows d):=rfl
theorem putO_sub {sz rows r n}:putO t sz rows (.sub r [] 0 n)=if r=t∧n≤rows.length then .sl true sz (rows.take n) else (D.sub r [] 0 n).prune (notRoot t):=rfl
theorem putO_v {sz rows v}:putO t sz rows (.v v)=.v v:=rfl
theorem putO_undef {sz rows}:putO t sz rows .undef=.undef:=rfl
theorem putO_nils {sz rows}:putO t sz rows .nils=.nils:=rfl
theorem putO_sl {sz rows o z rs}:putO t sz rows (.sl o z rs)=.sl o z rs:=rfl
theorem putO_mp {sz rows k e}:putO t sz rows (.mp k e)=.mp k e:=rfl
theorem putO_imp {sz rows k e}:putO t sz rows (.imp k e)=.imp k e:=rfl
theorem putO_iptr {sz rows c j}:putO t sz rows (.iptr c j)=.iptr c j:=rfl
theorem putO_agg {sz rows cs}:putO t sz rows (.agg cs)=(D.agg cs).prune (notRoot t):=rfl
theorem putO_tup {sz rows cs}:putO t sz rows (.tup cs)=(D.tup cs).prune (notRoot t):=rfl
theorem putO_box {sz rows g cs}:putO t sz rows (.box g cs)=(D.box g cs).prune (notRoot t):=rfl
theorem putO_fn {sz rows f a b}:putO t sz rows (.fn f a b)=(D.fn f a b).prune (notRoot t):=rfl
theorem putO_ref {sz rows r p}:putO t sz rows (.ref r p)=(D.ref r p).prune (notRoot t):=rfl
theorem putO_ptr {sz rows r p i j}:putO t sz rows (.ptr r p i j)=(D.ptr r p i j).prune (notRoot t):=rfl
theorem putO_subp {sz rows r x p i n}:putO t sz rows (.sub r (x::p) i n)=(D.sub r (x::p) i n).prune (notRoot t):=rfl
theorem putF_box {g cs}:putF s t d (some (.box g cs))=(pruneL (notRoot t) s).set t (d.prune (notRoot t)):=rfl
theorem putF_mp {k e}:putF s t d (some (.mp k e))=(pruneL (notRoot t) s).set t (d.prune (notRoot t)):=rfl
theorem putF_imp {k e}:putF s t d (some (.imp k e))=s.set t d:=rfl
theorem putF_imm {sz rows}:putF s t d (some (.sl false sz rows))=s.set t d:=rfl
theorem putF_v {v}:putF s t d (some (.v v))=s.set t d:=rfl
theorem putF_nils:putF s t d (some .nils)=s.set t d:=rfl
theorem putF_undef:putF s t d (some .undef)=s.set t d:=rfl
theorem putF_ref {r q}:putF s t d (some (.ref r q))=s.set t d:=rfl
theorem putF_sub {r q i j}:putF s t d (some (.sub r q i j))=s.set t d:=rfl
theorem putF_ptr {r q i j}:putF s t d (some (.ptr r q i j))=s.set t d:=rfl
theorem putF_iptr {cs j}:putF s t d (some (.iptr cs j))=s.set t d:=rfl
theorem putF_agg {cs}:putF s t d (some (.agg cs))=s.set t d:=rfl
theorem putF_tup {cs}:putF s t d (some (.tup cs))=s.set t d:=rfl
theorem putF_fn {f a b}:putF s t d (some (.fn f a b))=s.set t d:=rfl
end
/-! the operations -/
def mvF (t:Nat)(s:List D)(K:D→List D→Prop):Option D→Prop
  | some (.tup vs)=>K (.tup vs) (if ownyL vs then s.set t .undef else s)
  | o=>K (lkF t o) s
theorem mvF_tup {t vs}:mvF t s K (some (.tup vs))=K (.tup vs) (if ownyL vs then s.set t .undef else s):=rfl
theorem mvF_own {t sz rows}:mvF t s K (some (.sl true sz rows))=K (.ref t []) s:=rfl
theorem mvF_imm {t sz rows}:mvF t s K (some (.sl false sz rows))=K (.sl false sz rows) s:=rfl
theorem mvF_box {t g cs}:mvF t s K (some (.box g cs))=K (.ptr t [] 0 0) s:=rfl
theorem mvF_mp {t k e}:mvF t s K (some (.mp k e))=K (.ref t []) s:=rfl
theorem mvF_imp {t k e}:mvF t s K (some (.imp k e))=K (.imp k e) s:=rfl
theorem mvF_v {t v}:mvF t s K (some (.v v))=K (.v v) s:=rfl
theorem mvF_nils {t}:mvF t s K (some .nils)=K .nils s:=rfl
theorem mvF_undef {t}:mvF t s K (some .undef)=K .undef s:=rfl
theorem mvF_ref {t r q}:mvF t s K (some (.ref r q))=K (.ref r q) s:=rfl
theorem mvF_sub {t r q i j}:mvF t s K (some (.sub r q i j))=K (.sub r q i j) s:=rfl
theorem mvF_ptr {t r q i j}:mvF t s K (some (.ptr r q i j))=K (.ptr r q i j) s:=rfl
theorem mvF_iptr {t cs j}:mvF t s K (some (.iptr cs j))=K (.iptr cs j) s:=rfl
theorem mvF_agg {t cs}:mvF t s K (some (.agg cs))=K (if ownyL cs then .undef else .agg cs) s:=rfl
theorem mvF_fn {t f a b}:mvF t s K (some (.fn f a b))=K (if ownyL a||ownyL b then ownF f a b else .fn f a b) s:=rfl
theorem ev_mvt {t}:evalK Ctr s (.mv (.tmp t)) K=mvF t s K s[t]?:=by
  show (match s[t]? with
    | some (.tup vs)=>K (.tup vs) (if ownyL vs then s.set t .undef else s)
    | _=>K (lk s (.tmp t)) s)=_
  rw [lk_tmp];cases h:s[t]? with
  | none=>rfl
  | some d=>cases d<;>rfl
theorem ev_mvc {v}:evalK Ctr s (.mv (.const v)) K=K (ofV v) s:=rfl
theorem ev_mvf {f}:evalK Ctr s (.mv (.func f)) K=K (.fn f [] []) s:=rfl
def pairK (p:D×List D)(K:D→List D→Prop):Prop:=K p.1 p.2
theorem pairK_mk {d:D}:pairK (d,s) K=K d s:=rfl
theorem ev_asg {x}:evalK Ctr s (.asg x) K=pairK (tk s x) K:=rfl
def nilcK (d:D)(s:List D)(K:D→List D→Prop):Prop:=match d with
  | .ptr r q i j=>K (.ptr r q i j) s
  | .iptr c j=>K (.iptr c j) s
  | .fn f a b=>K (.fn f a b) s
  | _=>False
theorem ev_nilc {x}:evalK Ctr s (.nilc x) K=nilcK (lk s x) s K:=rfl
theorem nilc_ptr {r q i j}:nilcK (.ptr r q i j) s K=K (.ptr r q i j) s:=rfl
theorem nilc_iptr {c j}:nilcK (.iptr c j) s K=K (.iptr c j) s:=rfl
theorem nilc_fn {f a b}:nilcK (.fn f a b) s K=K (.fn f a b) s:=rfl
theorem ev_pick {c a b}:evalK Ctr s (.pick c a b) K=pickK (lk s c) (lk s a) (lk s b) s K:=rfl
theorem pick_b {t x y}:pickK (.v (.bool t)) (.v (.bool x)) (.v (.bool y)) s K=K (.v (.bool (if t then x else y))) s:=rfl
theorem pick_t {a b}:pickK (.v (.bool true)) a b s K=K a s:=by simp only [pickK];split<;>simp
theorem pick_f {a b}:pickK (.v (.bool false)) a b s K=K b s:=by simp only [pickK];split<;>simp
def binK (op:BinOp)(x y:D)(s:List D)(K:D→List D→Prop):Prop:=match x,y with
  | .v (.int k a),.v (.int k' b)=>intK op k a k' b (fun v=>K (.v v) s)
  | .v (.string a),.v (.string b)=>strK op a b (fun v=>K (.v v) s)
  | _,_=>False
theorem ev_bin {op x y}:evalK Ctr s (.bin op x y) K=binK op (lk s x) (lk s y) s K:=rfl
section
variable {k:IntKind} {a b:Int} {x y:ByteArray}
theorem bin_add:binK .add (.v (.int k a)) (.v (.int k b)) s K=K (.v (.int k (k.wrap (a+b)))) s:=by simp [binK,intK]
theorem bin_sub:binK .sub (.v (.int k a)) (.v (.int k b)) s K=K (.v (.int k (k.wrap (a-b)))) s:=by simp [binK,intK]
theorem bin_mul:binK .mul (.v (.int k a)) (.v (.int k b)) s K=K (.v (.int k (k.wrap (a*b)))) s:=by simp [binK,intK]
theorem bin_quo:binK .quo (.v (.int k a)) (.v (.int k b)) s K=(b≠0∧K (.v (.int k (k.wrap (a.tdiv b)))) s):=by simp [binK,intK]
theorem bin_rem:binK .rem (.v (.int k a)) (.v (.int k b)) s K=(b≠0∧K (.v (.int k (a.tmod b))) s):=by simp [binK,intK]
theorem bin_eql:binK .eql (.v (.int k a)) (.v (.int k b)) s K=K (.v (.bool (decide (a=b)))) s:=by simp [binK,intK]
theorem bin_neq:binK .neq (.v (.int k a)) (.v (.int k b)) s K=K (.v (.bool (!decide (a=b)))) s:=by simp [binK,intK]
theorem bin_lss:binK .lss (.v (.int k a)) (.v (.int k b)) s K=K (.v (.bool (decide (a<b)))) s:=by simp [binK,intK]
theorem bin_leq:binK .leq (.v (.int k a)) (.v (.int k b)) s K=K (.v (.bool (decide (a≤b)))) s:=by simp [binK,intK]
theorem bin_gtr:binK .gtr (.v (.int k a)) (.v (.int k b)) s K=K (.v (.bool (decide (b<a)))) s:=by simp [binK,intK]
theorem bin_geq:binK .geq (.v (.int k a)) (.v (.int k b)) s K=K (.v (.bool (decide (b≤a)))) s:=by simp [binK,intK]
theorem bin_shl {k':IntKind}:binK .shl (.v (.int k a)) (.v (.int k' b)) s K=(0≤b∧K (.v (.int k (k.wrap (a*2 ^ (min b.toNat k.bits))))) s):=by simp [binK,intK]
theorem bin_shr {k':IntKind}:binK .shr (.v (.int k a)) (.v (.int k' b)) s K=(0≤b∧K (.v (.int k (a.fdiv (2 ^ (min b.toNat k.bits))))) s):=by simp [binK,intK]
theorem bin_and:binK .and (.v (.int k a)) (.v (.int k b)) s K=K (.v (.int k (k.wrap ((BitVec.ofInt k.bits a &&& BitVec.ofInt k.bits b).toNat)))) s:=by simp [binK,intK]
theorem bin_or:binK .or (.v (.int k a)) (.v (.int k b)) s K=K (.v (.int k (k.wrap ((BitVec.ofInt k.bits a ||| BitVec.ofInt k.bits b).toNat)))) s:=by simp [binK,intK]
theorem bin_sadd:binK .add (.v (.string x)) (.v (.string y)) s K=(x.size+y.size≤maxLen∧K (.v (.string (x++y))) s):=rfl
theorem bin_seql:binK .eql (.v (.string x)) (.v (.string y)) s K=K (.v (.bool (decide (x=y)))) s:=rfl
theorem bin_sneq:binK .neq (.v (.string x)) (.v (.string y)) s K=K (.v (.bool (!decide (x=y)))) s:=rfl
theorem bin_slss:binK .lss (.v (.string x)) (.v (.string y)) s K=K (.v (.bool (Op.bytesLess x.toList y.toList))) s:=rfl
end
def binBK (neg:Bool)(x y:D)(s:List D)(K:D→List D→Prop):Prop:=match x,y with
  | .v (.bool a),.v (.bool b)=>K (.v (.bool (if neg then !(a==b) else a==b))) s
  | _,_=>False
theorem ev_binB {neg x y}:evalK Ctr s (.binB neg x y) K=binBK neg (lk s x) (lk s y) s K:=rfl
theorem binB_eq {a b}:binBK false (.v (.bool a)) (.v (.bool b)) s K=K (.v (.bool (a==b))) s:=rfl
theorem binB_ne {a b}:binBK true (.v (.bool a)) (.v (.bool b)) s K=K (.v (.bool (!(a==b)))) s:=rfl
def unK (op:UnOp)(x:D)(s:List D)(K:D→List D→Prop):Prop:=match op,x with
  | .not,.v (.bool b)=>K (.v (.bool (!b))) s
  | .neg,.v (.int k n)=>K (.v (.int k (k.wrap (0-n)))) s
  | _,_=>False
theorem ev_un {op x}:evalK Ctr s (.un op x) K=unK op (lk s x) s K:=rfl
theorem un_not {b}:unK .not (.v (.bool b)) s K=K (.v (.bool (!b))) s:=rfl
theorem un_neg {k n}:unK .neg (.v (.int k n)) s K=K (.v (.int k (k.wrap (0-n)))) s:=rfl
def convK (k:IntKind)(x:D)(s:List D)(K:D→List D→Prop):Prop:=match x with
  | .v (.int _ n)=>K (.v (.int k (k.wrap n))) s
  | _=>False
theorem ev_conv {k x}:evalK Ctr s (.conv k x) K=convK k (lk s x) s K:=rfl
theorem conv_int {k k' n}:convK k (.v (.int k' n)) s K=K (.v (.int k (k.wrap n))) s:=rfl
theorem ev_alloc {z}:evalK Ctr s (.alloc z) K=K (.box none (z.map ofC)) s:=rfl
def boxK (p:D×List D)(K:D→List D→Prop):Prop:=p.1.okCells=true∧K (.box none p.1.cells) p.2
theorem ev_box {x}:evalK Ctr s (.box x) K=boxK (tk s x) K:=rfl
theorem box_mk {d:D}:boxK (d,s) K=(d.okCells=true∧K (.box none d.cells) s):=rfl
def buildK (zero:List Value) (parts:List (Nat×Nat×Operand)) (p:List D×List D) (K:D→List D→Prop):Prop :=
  p.1.all D.okCells=true∧match fillB (parts.map fun p=>(p.1,p.2.1)) p.1 (zero.map ofC) with
    | some cells=>K (.agg cells) p.2
    | none=>False
theorem ev_build {zero parts}:evalK Ctr s (.build zero parts) K=buildK zero parts (tkL s (parts.map (·.2.2))) K:=rfl
def build2K (o:Option (List D))(s:List D)(K:D→List D→Prop):Prop:=match o with
  | some cells=>K (.agg cells) s
  | none=>False
theorem build_mk {zero parts}{ds:List D}:buildK zero parts (ds,s) K=(ds.all D.okCells=true∧build2K (fillB (parts.map fun p=>(p.1,p.2.1)) ds (zero.map ofC)) s K):=rfl
theorem build2_some {cells}:build2K (some cells) s K=K (.agg cells) s:=rfl
def bslK (sz n:Nat)(p:List D×List D)(K:D→List D→Prop):Prop :=
  p.1.all (fun d=>d.okCells&&d.cells.length==sz)=true∧refsOK (p.1.flatMap D.cells)=true∧resC p.2 (p.1.flatMap D.cells) (fun cs s'=>K (.sl true sz (chunk sz n cs)) s')
theorem ev_bsl {sz parts}:evalK Ctr s (.bsl sz parts) K=bslK sz parts.length (tkL s parts) K:=rfl
def chunkK (sz n:Nat)(K:D→List D→Prop):List D→List D→Prop:=fun cs s'=>K (.sl true sz (chunk sz n cs)) s'
theorem chunk_app {sz n cs}:chunkK sz n K cs s=K (.sl true sz (chunk sz n cs)) s:=rfl
theorem bsl_mk {sz n}{ds:List D}:bslK sz n (ds,s) K=(ds.all (fun d=>d.okCells&&d.cells.length==sz)=true∧refsOK (ds.flatMap D.cells)=true∧resC s (ds.flatMap D.cells) (chunkK sz n K)):=rfl
variable {KL:List D→List D→Prop}
def consK (d:D)(KL:List D→List D→Prop):List D→List D→Prop:=fun ds s=>KL (d::ds) s
theorem cons_app {d:D}{ds:List D}:consK d KL ds s=KL (d::ds) s:=rfl
def resS (ds:List D)(KL:List D→List D→Prop):D→List D→Prop:=fun d s=>resC s ds (consK d KL)
theorem resS_app {ds:List D}{d:D}:resS ds KL d s=resC s ds (consK d KL):=rfl
theorem res_nil:resC s [] KL=KL [] s:=rfl
theorem res_ref {r q}{ds:List D}:resC s (.ref r q::ds) KL=stealK s r q (resS ds KL):=by simp only [resC];rfl
def subK (i n:Nat)(ds:List D)(KL:List D→List D→Prop):D→List D→Prop:=fun d s=>match d with
  | .sl true sz rows=>i+n≤rows.length∧resC s ds (consK (.sl true sz ((rows.drop i).take n)) KL)
  | _=>False
theorem subK_sl {i n}{ds:List D}{sz rows}:subK i n ds KL (.sl true sz rows) s=(i+n≤rows.length∧resC s ds (consK (.sl true sz ((rows.drop i).take n)) KL)):=rfl
theorem res_sub {r q i n}{ds:List D}(h:0<n):resC s (.sub r q i n::ds) KL=stealK s r q (subK i n ds KL):=by simp only [resC];exact propext ⟨fun h1=>h1.elim (fun h2=>h2.2) (fun h2=>absurd h2.1 (by omega)),fun h1=>.inl ⟨.inl h,h1⟩⟩
theorem res_subI {r q n}{ds:List D}:resC s (.sub r q 0 n::ds) KL=stealK s r q (subK 0 n ds KL):=by simp only [resC];exact propext ⟨fun h1=>h1.elim (fun h2=>h2.2) (fun h2=>absurd rfl h2.2.1),fun h1=>.inl ⟨.inr trivial,h1⟩⟩
theorem res_sub0 {r q i}{ds:List D}(h:i≠0):resC s (.sub r q i 0::ds) KL=∃ sz,resC s ds (consK (.sl false sz []) KL):=by simp only [resC];exact propext ⟨fun h1=>h1.elim (fun h2=>absurd h2.1 (by omega)) (fun h2=>h2.2.2),fun h1=>.inr ⟨trivial,h,h1⟩⟩
theorem res_undef {ds:List D}:resC s (.undef::ds) KL=resC s ds (consK .undef KL):=by simp only [resC,D.leaf,true_and];rfl
theorem res_nils {ds:List D}:resC s (.nils::ds) KL=resC s ds (consK .nils KL):=by simp only [resC,D.leaf,true_and];rfl
theorem res_v {v}{ds:List D}:resC s (.v v::ds) KL=resC s ds (consK (.v v) KL):=by simp only [resC,D.leaf,true_and];rfl
theorem res_sl {o sz rows}{ds:List D}:resC s (.sl o sz rows::ds) KL=resC s ds (consK (.sl o sz rows) KL):=by simp only [resC,D.leaf,true_and];rfl
def stealF (r:Nat)(q:Path)(s:List D)(d:D)(o:Option D)(K:D→List D→Prop):Prop:=match o with
  | some (.sl true sz rows)=>K (.sl true sz rows) ((pruneL (notThrough r q) s).set r (setAt (d.prune (notThrough r q)) q .undef))
  | some (.mp k e)=>K (.mp k e) ((pruneL (notThrough r q) s).set r (setAt (d.prune (notThrough r q)) q .undef))
  | _=>False
def stealG (r:Nat)(q:Path)(s:List D)(o:Option D)(K:D→List D→Prop):Prop:=match o with
  | some d=>stealF r q s d (treeAt d q) K
  | none=>False
theorem steal_eq {r q}:stealK s r q K=stealG r q s s[r]? K:=by unfold stealK stealG;cases s[r]? <;> rfl
theorem stealG_some {r q d}:stealG r q s (some d) K=stealF r q s d (treeAt d q) K:=rfl
theorem stealF_mp {r q d k e}:stealF r q s d (some (.mp k e)) K=K (.mp k e) ((pruneL (notThrough r q) s).set r (setAt (d.prune (notThrough r q)) q .undef)):=rfl
theorem res_mp {k e}{ds:List D}:resC s (.mp k e::ds) KL=resC s ds (consK (.mp k e) KL):=by simp only [resC,D.leaf,true_and];rfl
theorem res_iptr {c j}{ds:List D}:resC s (.iptr c j::ds) KL=resC s ds (consK (.iptr c j) KL):=by simp only [resC,D.leaf,true_and];rfl
theorem stealF_some {r q d sz rows}:stealF r q s d (some (.sl true sz rows)) K=K (.sl true sz rows) ((pruneL (notThrough r q) s).set r (setAt (d.prune (notThrough r q)) q .undef)):=rfl
end Go.V
namespace Go.V
open Go.RowKit
variable {Ctr:CtrT} {s:List D} {K:D→List D→Prop} {KK:List D→Prop} {os:List VO}
def load2K (n:Nat)(agg:Bool)(r:Nat)(q:Path)(i j:Nat)(o:Option (List D))(s:List D)(K:D→List D→Prop):Prop:=match o with
  | some row=>j+n≤row.length∧K (mkAgg agg (cpyL r q i j ((row.drop j).take n))) s
  | none=>False
def loadK (n:Nat)(agg:Bool)(a:D)(s:List D)(K:D→List D→Prop):Prop:=match a with
  | .ptr r q i j=>load2K n agg r q i j (rowAt s r q i) s K
  | .iptr cells j=>j+n≤cells.length∧K (mkAgg agg ((cells.drop j).take n)) s
  | _=>False
theorem ev_load {n agg a}:evalK Ctr s (.load n agg a) K=loadK n agg (lk s a) s K:=rfl
theorem load_ptr {n agg r q i j}:loadK n agg (.ptr r q i j) s K=load2K n agg r q i j (rowAt s r q i) s K:=rfl
theorem load_iptr {n agg cells j}:loadK n agg (.iptr cells j) s K=(j+n≤cells.length∧K (mkAgg agg ((cells.drop j).take n)) s):=rfl
theorem load2_some {n agg r q i j row}:load2K n agg r q i j (some row) s K=(j+n≤row.length∧K (mkAgg agg (cpyL r q i j ((row.drop j).take n))) s):=rfl
def endK (K:D→List D→Prop):List D→Prop:=fun s=>K .undef s
theorem end_app:endK K s=K .undef s:=rfl
def rowK (r:Nat)(q:Path)(i j:Nat)(K:D→List D→Prop):List D→List D→Prop:=fun cs s'=>isBox s' r q=false∧setR r q i s' j cs (endK K)
theorem row_app {r q i j cs}:rowK r q i j K cs s=(isBox s r q=false∧setR r q i s j cs (endK K)):=rfl
def rowBX (r i n j:Nat)(K:D→List D→Prop):List D→List D→Prop:=fun cs s'=>cs.length=n∧setB r i n s' j cs (endK K)
theorem rowBX_app {r i n j cs}:rowBX r i n j K cs s=(cs.length=n∧setB r i n s j cs (endK K)):=rfl
def store3K (r:Nat)(q:Path)(i n j:Nat)(cs:List D)(b:Bool)(s:List D)(K:D→List D→Prop):Prop :=
  if b then q=[]∧(if selfS r cs then refsOK cs=true∧cs.all (notThr (.ptr r q i j))=true∧resC s cs (fun cs s'=>cs.length=n∧setB r i n s' j cs (endK K)) else setB r i n s j cs (endK K)) else refsOK cs=true∧cs.all (notThr (.ptr r q i j))=true∧resC s cs (rowK r q i j K)
def store2K (n:Nat)(d:D)(a:D)(s:List D)(K:D→List D→Prop):Prop:=match a with
  | .ptr r q i j=>d.okCells=true∧d.cells.length=n∧store3K r q i n j d.cells (isBox s r q) s K
  | _=>False
def storeK (n:Nat)(a:Operand)(p:D×List D)(K:D→List D→Prop):Prop:=store2K n p.1 (lk p.2 a) p.2 K
theorem ev_store {n a x}:evalK Ctr s (.store n a x) K=storeK n a (tk s x) K:=rfl
theorem store_mk {n a}{d:D}:storeK n a (d,s) K=store2K n d (lk s a) s K:=rfl
theorem store2_ptr {n r q i j}{d:D}:store2K n d (.ptr r q i j) s K=(d.okCells=true∧d.cells.length=n∧store3K r q i n j d.cells (isBox s r q) s K):=rfl
def selfK (r i n j:Nat)(q:Path)(cs:List D)(b:Bool)(s:List D)(K:D→List D→Prop):Prop:=if b then refsOK cs=true∧cs.all (notThr (.ptr r q i j))=true∧resC s cs (rowBX r i n j K) else setB r i n s j cs (endK K)
theorem store3_t {r q i n j cs}:store3K r q i n j cs true s K=(q=[]∧selfK r i n j q cs (selfS r cs) s K):=rfl
theorem selfK_f {r i n j q cs}:selfK r i n j q cs false s K=setB r i n s j cs (endK K):=rfl
theorem selfK_t {r i n j q cs}:selfK r i n j q cs true s K=(refsOK cs=true∧cs.all (notThr (.ptr r q i j))=true∧resC s cs (rowBX r i n j K)):=rfl
theorem store3_f {r q i n j cs}:store3K r q i n j cs false s K=(refsOK cs=true∧cs.all (notThr (.ptr r q i j))=true∧resC s cs (rowK r q i j K)):=rfl
variable {KQ:List D→(D→Bool)→Prop}
def setC2 (r:Nat) (p:Path) (c:D) (s:List D) (d:D) (o:Option D) (KQ:List D→(D→Bool)→Prop):Prop:=match o with
  | some old=>match old.cont with
    | some _=>KQ ((pruneL (notThrough r p) s).set r (setAt (d.prune (notThrough r p)) p (c.prune (notThrough r p)))) (notThrough r p)
    | none=>KQ (s.set r (setAt d p c)) (fun _=>true)
  | none=>False
def setC1 (r:Nat)(p:Path)(c:D)(s:List D)(o:Option D)(KQ:List D→(D→Bool)→Prop):Prop:=match o with
  | some d=>setC2 r p c s d (treeAt d p) KQ
  | none=>False
theorem setC_eq {r p c}:setC s r p c KQ=setC1 r p c s s[r]? KQ:=by unfold setC setC1;cases s[r]? <;> rfl
theorem setC1_some {r p c d}:setC1 r p c s (some d) KQ=setC2 r p c s d (treeAt d p) KQ:=rfl
def allQ:D→Bool:=fun _=>true
def setC3 (r:Nat)(p:Path)(c:D)(s:List D)(d:D)(own:Bool)(KQ:List D→(D→Bool)→Prop):Prop :=
  if own then KQ ((pruneL (notThrough r p) s).set r (setAt (d.prune (notThrough r p)) p (c.prune (notThrough r p)))) (notThrough r p) else KQ (s.set r (setAt d p c)) allQ
theorem setC2_some {r p c d old}:setC2 r p c s d (some old) KQ=setC3 r p c s d old.cont.isSome KQ:=by unfold setC2 setC3;cases h:old.cont<;>simp [h]<;>rfl
theorem setC3_f {r p c d}:setC3 r p c s d false KQ=KQ (s.set r (setAt d p c)) allQ:=rfl
theorem setC3_t {r p c d}:setC3 r p c s d true KQ=KQ ((pruneL (notThrough r p) s).set r (setAt (d.prune (notThrough r p)) p (c.prune (notThrough r p)))) (notThrough r p):=rfl
def bK (r i n j:Nat)(cs:List D)(KK:List D→Prop):List D→(D→Bool)→Prop:=fun s' q=>setB r i n s' j (pruneL q cs) KK
theorem bK_all {r i n j cs}:bK r i n j cs KK s allQ=setB r i n s j cs KK:=by show setB r i n s j (pruneL (fun _=>true) cs) KK=_;rw [pruneL_yes]
theorem bK_thr {r i n j cs r' p'}:bK r i n j cs KK s (notThrough r' p')=setB r i n s j (pruneL (notThrough r' p') cs) KK:=rfl
theorem setB_nil {r i n j}:setB r i n s j [] KK=KK s:=by cases n<;>rfl
theorem setB_cons {r i n j c cs}:setB r i (n+1) s j (c::cs) KK=(isBox s r []=true∧setC s r [(i,j)] c (bK r i n (j+1) cs KK)):=rfl
def rK (r:Nat)(q:Path)(i j:Nat)(cs:List D)(KK:List D→Prop):List D→(D→Bool)→Prop:=fun s' _=>setR r q i s' j cs KK
theorem rK_app {r q i j cs f}:rK r q i j cs KK s f=setR r q i s j cs KK:=rfl
theorem setR_nil {r q i j}:setR r q i s j [] KK=KK s:=rfl
theorem setR_cons {r q i j c cs}:setR r q i s j (c::cs) KK=(c.leaf=true∧setC s r (q++[(i,j)]) c (rK r q i (j+1) cs KK)):=rfl
def isBoxF (q:Path):Option D→Bool
  | some d=>match treeAt d q with
    | some (.box _ _)=>true
    | _=>false
  | none=>false
theorem isBox_eq {r q}:isBox s r q=isBoxF q s[r]?:=by unfold isBox isBoxF;rfl
theorem isBoxF_box {g cs}:isBoxF [] (some (.box g cs))=true:=rfl
theorem isBoxF_sl {sz rows}:isBoxF [] (some (.sl true sz rows))=false:=rfl
def rowF (q:Path) (i:Nat):Option D→Option (List D)
  | some d=>match treeAt d q with
    | some t=>match t.cont with
      | some (_,rows)=>rows[i]?
      | none=>none
    | none=>none
  | none=>none
theorem rowAt_eq {r q i}:rowAt s r q i=rowF q i s[r]?:=by unfold rowAt rowF;rfl
theorem rowF_box {g cs}:rowF [] 0 (some (.box g cs))=some cs:=rfl
theorem rowF_sl {i sz rows}:rowF [] i (some (.sl true sz rows))=rows[i]?:=rfl
def faK (off:Nat)(x:D)(s:List D)(K:D→List D→Prop):Prop:=match x with
  | .ptr r q i j=>K (.ptr r q i (j+off)) s
  | .iptr c j=>K (.iptr c (j+off)) s
  | _=>False
theorem ev_fa {off x}:evalK Ctr s (.fa off x) K=faK off (lk s x) s K:=rfl
theorem fa_ptr {off r q i j}:faK off (.ptr r q i j) s K=K (.ptr r q i (j+off)) s:=rfl
theorem fa_iptr {off c j}:faK off (.iptr c j) s K=K (.iptr c (j+off)) s:=rfl
def fldK (off n:Nat)(agg:Bool)(x:D)(s:List D)(K:D→List D→Prop):Prop:=match x with
  | .agg cs=>off+n≤cs.length∧K (mkAgg agg ((cs.drop off).take n)) s
  | _=>False
theorem ev_fld {off n agg x}:evalK Ctr s (.fld off n agg x) K=fldK off n agg (lk s x) s K:=rfl
theorem fld_agg {off n agg cs}:fldK off n agg (.agg cs) s K=(off+n≤cs.length∧K (mkAgg agg ((cs.drop off).take n)) s):=rfl
def ia2K (sz:Nat)(n:Int)(r:Nat)(q:Path)(o:Option (Nat×List (List D)))(s:List D)(K:D→List D→Prop):Prop:=match o with
  | some (sz',rows)=>0≤n∧n<rows.length∧sz'=sz∧K (.ptr r q n.toNat 0) s
  | none=>False
def iaK (sz:Nat)(i x:D)(s:List D)(K:D→List D→Prop):Prop:=match i,x with
  | .v (.int _ n),.ref r q=>ia2K sz n r q (slAt s (.ref r q)) s K
  | .v (.int _ n),.sl false sz' rows=>0≤n∧n<rows.length∧sz'=sz∧∃ row,rows[n.toNat]?=some row∧K (.iptr row 0) s
  | _,_=>False
theorem ev_ia {sz x i}:evalK Ctr s (.ia sz x i) K=iaK sz (lk s i) (lk s x) s K:=rfl
theorem ia_ref {sz k n r q}:iaK sz (.v (.int k n)) (.ref r q) s K=ia2K sz n r q (slAt s (.ref r q)) s K:=rfl
theorem ia_sl {sz k n sz' rows}:iaK sz (.v (.int k n)) (.sl false sz' rows) s K=(0≤n∧n<rows.length∧sz'=sz∧∃ row,rows[n.toNat]?=some row∧K (.iptr row 0) s):=rfl
theorem ia2_some {sz n r q sz' rows}:ia2K sz n r q (some (sz',rows)) s K=(0≤n∧n<rows.length∧sz'=sz∧K (.ptr r q n.toNat 0) s):=rfl
def slF (q:Path):Option D→Option (Nat×List (List D))
  | some d=>match treeAt d q with
    | some (.sl true sz rows)=>some (sz,rows)
    | _=>none
  | none=>none
theorem slAt_ref {r q}:slAt s (.ref r q)=slF q s[r]?:=by unfold slAt slF;rfl
theorem slAt_sl {o sz rows}:slAt s (.sl o sz rows)=some (sz,rows):=rfl
theorem slAt_nils:slAt s .nils=some (0,[]):=rfl
theorem slF_sl {sz rows}:slF [] (some (.sl true sz rows))=some (sz,rows):=rfl
def iaaK (len sz:Nat)(i x:D)(s:List D)(K:D→List D→Prop):Prop:=match i,x with
  | .v (.int _ n),.ptr r q i j=>0≤n∧n<len∧K (.ptr r q i (j+n.toNat*sz)) s
  | .v (.int _ n),.iptr c j=>0≤n∧n<len∧K (.iptr c (j+n.toNat*sz)) s
  | _,_=>False
theorem ev_iaa {len sz x i}:evalK Ctr s (.iaa len sz x i) K=iaaK len sz (lk s i) (lk s x) s K:=rfl
theorem iaa_ptr {len sz k n r q i j}:iaaK len sz (.v (.int k n)) (.ptr r q i j) s K=(0≤n∧n<len∧K (.ptr r q i (j+n.toNat*sz)) s):=rfl
theorem iaa_iptr {len sz k n c j}:iaaK len sz (.v (.int k n)) (.iptr c j) s K=(0≤n∧n<len∧K (.iptr c (j+n.toNat*sz)) s):=rfl
def ixsK (i x:D)(s:List D)(K:D→List D→Prop):Prop:=match i,x with
  | .v (.int _ n),.v (.string b)=>0≤n∧∃ c,b[n.toNat]?=some c∧K (.v (.int .u8 (c.toNat:Int))) s
  | _,_=>False
theorem ev_ixs {x i}:evalK Ctr s (.ixs x i) K=ixsK (lk s i) (lk s x) s K:=rfl
theorem ixs_s {k n b}:ixsK (.v (.int k n)) (.v (.string b)) s K=(0≤n∧∃ c,b[n.toNat]?=some c∧K (.v (.int .u8 (c.toNat:Int))) s):=rfl
def ixaK (len sz:Nat)(agg:Bool)(i x:D)(s:List D)(K:D→List D→Prop):Prop:=match i,x with
  | .v (.int _ n),.agg cs=>0≤n∧n<len∧len*sz≤cs.length∧K (mkAgg agg ((cs.drop (n.toNat*sz)).take sz)) s
  | _,_=>False
theorem ev_ixa {len sz agg x i}:evalK Ctr s (.ixa len sz agg x i) K=ixaK len sz agg (lk s i) (lk s x) s K:=rfl
theorem ixa_agg {len sz agg k n cs}:ixaK len sz agg (.v (.int k n)) (.agg cs) s K=(0≤n∧n<len∧len*sz≤cs.length∧K (mkAgg agg ((cs.drop (n.toNat*sz)).take sz)) s):=rfl
theorem ev_slcS {x lo hi}:evalK Ctr s (.slcS x lo hi) K=slcSK (lk s x) (optD s lo 0) (optD s hi (sizeD (lk s x))) s K:=rfl
theorem slcS_s {b k l k' h}:slcSK (.v (.string b)) (.v (.int k l)) (.v (.int k' h)) s K=(0≤l∧l≤h∧h≤b.size∧K (.v (.string (b.extract l.toNat h.toNat))) s):=rfl
theorem ev_slc {sz x lo hi mx}:evalK Ctr s (.slc sz x lo hi mx) K=slcK sz (lk s x) (optD s lo 0) (optD s hi (sizeS s (lk s x))) (optD s mx (sizeS s (lk s x))) s K:=rfl
theorem sizeS_sl {o sz rows}:sizeS s (.sl o sz rows)=rows.length:=rfl
theorem sizeS_sub {r q i n}:sizeS s (.sub r q i n)=n:=rfl
def sizeF:Option (Nat×List (List D))→Nat
  | some (_,rows)=>rows.length
  | none=>0
theorem sizeS_ref {r q}:sizeS s (.ref r q)=sizeF (slAt s (.ref r q)):=rfl
theorem sizeF_some {sz rows}:sizeF (some (sz,rows))=rows.length:=rfl
def slcR (sz:Nat)(r:Nat)(q:Path)(l h m:Int)(o:Option (Nat×List (List D)))(s:List D)(K:D→List D→Prop):Prop:=match o with
  | some (sz',rows)=>0≤l∧l≤h∧h≤rows.length∧sz'=sz∧h≤m∧m≤rows.length∧K (.sub r q l.toNat (h.toNat-l.toNat)) s
  | none=>False
def slcB (sz:Nat)(r:Nat)(q:Path)(i n:Nat)(l h m:Int)(o:Option (Nat×List (List D)))(s:List D)(K:D→List D→Prop):Prop:=match o with
  | some (sz',rows)=>0≤l∧l≤h∧h≤n∧sz'=sz∧h≤m∧m≤n∧K (.sub r q (i+l.toNat) (h.toNat-l.toNat)) s
  | none=>False
theorem slc_ref {sz r q k l k' h k'' m}:slcK sz (.ref r q) (.v (.int k l)) (.v (.int k' h)) (.v (.int k'' m)) s K=slcR sz r q l h m (slAt s (.ref r q)) s K:=rfl
theorem slc_sub' {sz r q i n k l k' h k'' m}:slcK sz (.sub r q i n) (.v (.int k l)) (.v (.int k' h)) (.v (.int k'' m)) s K=slcB sz r q i n l h m (slAt s (.sub r q i n)) s K:=rfl
theorem slcR_some {sz r q l h m sz' rows}:slcR sz r q l h m (some (sz',rows)) s K=(0≤l∧l≤h∧h≤rows.length∧sz'=sz∧h≤m∧m≤rows.length∧K (.sub r q l.toNat (h.toNat-l.toNat)) s):=rfl
theorem slcB_some {sz r q i n l h m sz' rows}:slcB sz r q i n l h m (some (sz',rows)) s K=(0≤l∧l≤h∧h≤n∧sz'=sz∧h≤m∧m≤n∧K (.sub r q (i+l.toNat) (h.toNat-l.toNat)) s):=rfl
def sub1 (i n:Nat):Option (Nat×List (List D))→Option (Nat×List (List D))
  | some (sz,rows)=>if i+n≤rows.length then some (sz,(rows.drop i).take n) else none
  | none=>none
theorem slAt_sub {r q i n}:slAt s (.sub r q i n)=sub1 i n (slAt s (.ref r q)):=by
  simp only [slAt];cases s[r]? with
  | none=>rfl
  | some d =>
    simp only;cases treeAt d q with
    | none=>rfl
    | some t=>cases t<;>first | rfl | (rename_i o _ _;cases o<;>rfl)
theorem sub1_some {i n sz rows}:sub1 i n (some (sz,rows))=if i+n≤rows.length then some (sz,(rows.drop i).take n) else none:=rfl
theorem slc_sl {sz sz' rows k l k' h k'' m}:slcK sz (.sl false sz' rows) (.v (.int k l)) (.v (.int k' h)) (.v (.int k'' m)) s K=(0≤l∧l≤h∧h≤rows.length∧sz'=sz∧h≤m∧m≤rows.length∧K (.sl false sz ((rows.drop l.toNat).take (h.toNat-l.toNat))) s):=rfl
theorem opt_none {n}:optD s none n=.v (.int .i64 n):=rfl
theorem opt_some {x n}:optD s (some x) n=lk s x:=rfl
def ext2K (t i:Nat)(vs:List D)(o:Option D)(s:List D)(K:D→List D→Prop):Prop:=match o with
  | some d=>K d (if d.owny then s.set t (.tup (vs.set i .undef)) else s)
  | none=>False
def extK (t i:Nat)(o:Option D)(s:List D)(K:D→List D→Prop):Prop:=match o with
  | some (.tup vs)=>ext2K t i vs vs[i]? s K
  | _=>False
theorem ev_ext {t i}:evalK Ctr s (.ext (.tmp t) i) K=extK t i s[t]? s K:=rfl
theorem ext_tup {t i vs}:extK t i (some (.tup vs)) s K=ext2K t i vs vs[i]? s K:=rfl
theorem ext2_some {t i vs d}:ext2K t i vs (some d) s K=K d (if d.owny then s.set t (.tup (vs.set i .undef)) else s):=rfl
def lenK (o:Option (Nat×List (List D)))(s:List D)(K:D→List D→Prop):Prop:=match o with
  | some (_,rows)=>K (.v (.int .i64 (rows.length:Int))) s
  | none=>False
theorem ev_len {x}:evalK Ctr s (.len x) K=lenK (slAt s (lk s x)) s K:=rfl
theorem len_some {sz rows}:lenK (some (sz,rows)) s K=K (.v (.int .i64 (rows.length:Int))) s:=rfl
def lenSK (x:D)(s:List D)(K:D→List D→Prop):Prop:=match x with
  | .v (.string b)=>K (.v (.int .i64 (b.size:Int))) s
  | _=>False
theorem ev_lenS {x}:evalK Ctr s (.lenS x) K=lenSK (lk s x) s K:=rfl
theorem lenS_s {b}:lenSK (.v (.string b)) s K=K (.v (.int .i64 (b.size:Int))) s:=rfl
def mmK (mx:Bool)(x y:D)(s:List D)(K:D→List D→Prop):Prop:=match x,y with
  | .v (.int k a),.v (.int k' b)=>k=k'∧K (.v (.int k (if mx then (if b>a then b else a) else (if b<a then b else a)))) s
  | _,_=>False
theorem ev_mm {mx x y}:evalK Ctr s (.mm mx [x,y]) K=mmK mx (lk s x) (lk s y) s K:=by
  simp only [evalK,List.map_cons,List.map_nil,mmK];split
  · rename_i h;simp only [List.cons.injEq,and_true] at h;rw [h.1,h.2]
  · rename_i h;split
    · rename_i e1 e2;exact absurd (by rw [e1,e2]) (h _ _ _ _)
    · rfl
theorem mm_max {k a b}:mmK true (.v (.int k a)) (.v (.int k b)) s K=K (.v (.int k (if b>a then b else a))) s:=by simp [mmK]
theorem mm_min {k a b}:mmK false (.v (.int k a)) (.v (.int k b)) s K=K (.v (.int k (if b<a then b else a))) s:=by simp [mmK]
variable {KR:List (List D)→List D→Prop}
def app3K (sz bytes:Nat)(rows:List (List D))(K:D→List D→Prop):List (List D)→List D→Prop:=fun more s2=>(rows.length+more.length)*(bytes+1)≤2 ^ 40∧K (.sl true sz (rows++more)) s2
theorem app3_app {sz bytes rows more}:app3K sz bytes rows K more s=((rows.length+more.length)*(bytes+1)≤2 ^ 40∧K (.sl true sz (rows++more)) s):=rfl
def app2K (sz bytes:Nat)(y:Operand)(K:D→List D→Prop):List (List D)→List D→Prop:=fun rows s1=>addK s1 sz y (app3K sz bytes rows K)
theorem app2_app {sz bytes y rows}:app2K sz bytes y K rows s=addK s sz y (app3K sz bytes rows K):=rfl
theorem ev_app {sz bytes x y}:evalK Ctr s (.app sz bytes x y) K=growK s sz x (app2K sz bytes y K):=rfl
def appS2 (bytes:Nat)(d:D)(rows:List (List D))(s1:List D)(K:D→List D→Prop):Prop:=match d with
  | .v (.string b)=>(rows.length+b.size)*(bytes+1)≤2 ^ 40∧K (.sl true 1 (rows++(bytesI b).map rowB)) s1
  | _=>False
theorem appS2_s {bytes b rows}:appS2 bytes (.v (.string b)) rows s K=((rows.length+b.size)*(bytes+1)≤2 ^ 40∧K (.sl true 1 (rows++(bytesI b).map rowB)) s):=rfl
def appS1 (bytes:Nat)(y:Operand)(K:D→List D→Prop):List (List D)→List D→Prop:=fun rows s1=>appS2 bytes (lk s1 y) rows s1 K
theorem appS1_app {bytes y rows}:appS1 bytes y K rows s=appS2 bytes (lk s y) rows s K:=rfl
theorem ev_appS {bytes x y}:evalK Ctr s (.appS bytes x y) K=growK s 1 x (appS1 bytes y K):=rfl
def grow3 (sz:Nat)(KR:List (List D)→List D→Prop):D→List D→Prop:=fun d s'=>match d with
  | .sl true sz' rows=>sz'=sz∧KR rows s'
  | _=>False
theorem grow3_sl {sz sz' rows}:grow3 sz KR (.sl true sz' rows) s=(sz'=sz∧KR rows s):=rfl
def grow2 (sz:Nat)(s0:List D)(p:D×List D)(KR:List (List D)→List D→Prop):Prop:=match p.1 with
  | .sl true sz' rows=>sz'=sz∧KR rows p.2
  | .nils=>KR [] s0
  | .ref r q=>stealK s0 r q (grow3 sz KR)
  | _=>False
theorem grow_eq {sz x}:growK s sz x KR=grow2 sz s (tk s x) KR:=rfl
theorem grow2_sl {sz s0 sz' rows}:grow2 sz s0 (.sl true sz' rows,s) KR=(sz'=sz∧KR rows s):=rfl
theorem grow2_nils {sz s0}:grow2 sz s0 (.nils,s) KR=KR [] s0:=rfl
theorem grow2_ref {sz s0 r q}:grow2 sz s0 (.ref r q,s) KR=stealK s0 r q (grow3 sz KR):=rfl
def add3 (sz:Nat)(s0:List D)(o:Option (Nat×List (List D)))(KR:List (List D)→List D→Prop):Prop:=match o with
  | some (sz',rows)=>(sz'=sz∨rows=[])∧(∀ row,row∈rows→ownyL row=false)∧KR rows s0
  | none=>False
theorem add3_some {sz s0 sz' rows}:add3 sz s0 (some (sz',rows)) KR=((sz'=sz∨rows=[])∧(∀ row,row∈rows→ownyL row=false)∧KR rows s0):=rfl
def add2 (sz:Nat)(s0:List D)(p:D×List D)(KR:List (List D)→List D→Prop):Prop:=match p.1 with
  | .sl true sz' rows=>(sz'=sz∨rows=[])∧KR rows p.2
  | .sl false sz' rows=>(sz'=sz∨rows=[])∧KR rows s0
  | .nils=>KR [] s0
  | .ref r q=>add3 sz s0 (slAt s0 (.ref r q)) KR
  | .sub r q i n=>add3 sz s0 (slAt s0 (.sub r q i n)) KR
  | _=>False
theorem add_eq {sz y}:addK s sz y KR=add2 sz s (tk s y) KR:=rfl
theorem add2_own {sz s0 sz' rows}:add2 sz s0 (.sl true sz' rows,s) KR=((sz'=sz∨rows=[])∧KR rows s):=rfl
theorem add2_imm {sz s0 sz' rows}:add2 sz s0 (.sl false sz' rows,s) KR=((sz'=sz∨rows=[])∧KR rows s0):=rfl
theorem add2_nils {sz s0}:add2 sz s0 (.nils,s) KR=KR [] s0:=rfl
theorem add2_sub {sz s0 r q i n}:add2 sz s0 (.sub r q i n,s) KR=add3 sz s0 (slAt s0 (.sub r q i n)) KR:=rfl
theorem add2_ref {sz s0 r q}:add2 sz s0 (.ref r q,s) KR=add3 sz s0 (slAt s0 (.ref r q)) KR:=rfl
theorem ev_mkf {f first caps}:evalK Ctr s (.mkf f first caps) K=K (.fn f (first.map (lk s)) (caps.map (lk s))) s:=rfl
def mksK (sz bytes:Nat)(zero:List Value)(l c:D)(s:List D)(K:D→List D→Prop):Prop:=match l,c with
  | .v (.int _ n),.v (.int _ m)=>0≤n∧n≤m∧m*(bytes+1)≤2 ^ 40∧K (.sl true sz (List.replicate n.toNat (zero.map ofC))) s
  | _,_=>False
theorem ev_mks {sz bytes zero l c}:evalK Ctr s (.mks sz bytes zero l c) K=mksK sz bytes zero (lk s l) (lk s c) s K:=rfl
theorem mks_int {sz bytes zero k n k' m}:mksK sz bytes zero (.v (.int k n)) (.v (.int k' m)) s K=(0≤n∧n≤m∧m*(bytes+1)≤2 ^ 40∧K (.sl true sz (List.replicate n.toNat (zero.map ofC))) s):=rfl
/-! the code -/
variable {Q:VExit→List D→Prop} {next:List D→Prop}
theorem wp_ops' {l:List VO}:(VCode.ops l).wp Ctr Q s=opsK Ctr s l (Q .normal):=rfl
theorem wp_seq' {x y:VCode}:(VCode.seq x y).wp Ctr Q s=x.wp Ctr (vthen (y.wp Ctr Q) Q) s:=rfl
theorem wp_skip':VCode.skip.wp Ctr Q s=Q .normal s:=rfl
theorem wp_ret':VCode.ret.wp Ctr Q s=Q .ret s:=rfl
theorem wp_exit' {i}:(VCode.exit i).wp Ctr Q s=Q (.exit i) s:=rfl
theorem wp_block' {i}{c:VCode}:(VCode.block i c).wp Ctr Q s=c.wp Ctr (vblock i Q) s:=rfl
def condK (d:D)(A B:List D→Prop)(s:List D):Prop:=match d with
  | .v (.bool t)=>(t=true→A s)∧(t=false→B s)
  | _=>False
theorem wp_cond' {x}{a b:VCode}:(VCode.cond x a b).wp Ctr Q s=condK (lk s x) (a.wp Ctr Q) (b.wp Ctr Q) s:=rfl
variable {A B:List D→Prop}
theorem cond_t:condK (.v (.bool true)) A B s=A s:=by simp [condK]
theorem cond_f:condK (.v (.bool false)) A B s=B s:=by simp [condK]
theorem cond_split {t:Bool}{A B:List D→Prop}{s:List D}(h1:t=true→A s)(h2:t=false→B s):condK (.v (.bool t)) A B s:=⟨h1,h2⟩
theorem then_n:vthen next Q .normal s=next s:=rfl
theorem then_r:vthen next Q .ret s=Q .ret s:=rfl
theorem then_e {i}:vthen next Q (.exit i) s=Q (.exit i) s:=rfl
theorem block_n {i}:vblock i Q .normal s=Q .normal s:=rfl
theorem block_r {i}:vblock i Q .ret s=Q .ret s:=rfl
theorem block_e {i j}:vblock i Q (.exit j) s=if j=i then Q .normal s else Q (.exit j) s:=rfl
theorem loop_intro {mask:List Bool}{c:VCode}{Q:VExit→List D→Prop}{s:List D}(J:Nat→List D→Prop)(n:Nat)(h0:∃ s1,nleL (clr mask s) s1∧J n s1)(h:∀ n s',J n s'→c.wp Ctr (vthen (fun s''=>∃ m,m<n∧∃ s1,nleL (clr mask s'') s1∧J m s1) Q) s'):(VCode.loop mask c).wp Ctr Q s:=⟨J,⟨n,h0⟩,h⟩
/-! the results -/
def NoG:World→(Nat→Prop)→Prop:=fun _ _=>True
theorem noG:Stab NoG:=fun _ _ _ _ _=>trivial
theorem gI {w:World}{I:Nat→Prop}:GI NoG w I:=⟨fun _=>False,fun _ h=>h.elim,trivial⟩
end Go.V
namespace Go.V
open Go.RowKit
section
variable {Ctr:CtrT} {s s':List D} {K:D→List D→Prop} {KP:List D→Prop} {KD:D→Prop} {KL:List D→Prop} {Q:VExit→List D→Prop} {pr:Option (Nat×Path)} {os:List DOp}
/-! ### Regions that draw -/
def drawEndK (Ctr:CtrT)(cls:List Bool)(tail:List VO)(Q:VExit→List D→Prop):List D→Prop:=fun s=>opsK Ctr (clr cls s) tail (Q .normal)
theorem wp_draw' {start cls l1 tail}:(VCode.draw start cls l1 tail).wp Ctr Q s=headK Ctr none (clr start s) l1 (drawEndK Ctr cls tail Q):=rfl
theorem drawEnd_app {cls tail}:drawEndK Ctr cls tail Q s=opsK Ctr (clr cls s) tail (Q .normal):=rfl
def headC (Ctr:CtrT)(pr:Option (Nat×Path))(s:List D)(dst:Option Nat)(os:List DOp)(KP:List D→Prop):D→Prop:=fun d=>headK Ctr pr (setO s dst (prO pr d)) os KP
def guardD (Ctr:CtrT)(V:List D)(cl:List Bool)(want:Bool)(op:VOp)(d:D)(KD:D→Prop):Prop:=match d with
  | .v (.bool b)=>(b=want→drawE Ctr V cl op KD)∧(b≠want→KD (.v (.tuple #[])))
  | .v _=>KD (.v (.tuple #[]))
  | _=>False
theorem head_nil:headK Ctr pr s [] KP=KP s:=rfl
theorem head_cons {i hid cl dst op}:headK Ctr pr s (⟨i,hid,cl,⟨dst,none,op⟩⟩::os) KP=drawE Ctr (clr hid s) cl op (headC Ctr pr s dst os KP):=rfl
theorem head_guard {i hid cl dst op g want}:headK Ctr pr s (⟨i,hid,cl,⟨dst,some (g,want),op⟩⟩::os) KP=guardD Ctr (clr hid s) cl want op (lkT (clr hid s) g) (headC Ctr pr s dst os KP):=rfl
theorem headC_app {dst d}:headC Ctr pr s dst os KP d=headK Ctr pr (setO s dst (prO pr d)) os KP:=rfl
theorem gd_tt {V cl op}:guardD Ctr V cl true op (.v (.bool true)) KD=drawE Ctr V cl op KD:=by simp [guardD]
theorem gd_ff {V cl op}:guardD Ctr V cl false op (.v (.bool false)) KD=drawE Ctr V cl op KD:=by simp [guardD]
theorem gd_tf {V cl op}:guardD Ctr V cl true op (.v (.bool false)) KD=KD (.v (.tuple #[])):=by simp [guardD]
theorem gd_ft {V cl op}:guardD Ctr V cl false op (.v (.bool true)) KD=KD (.v (.tuple #[])):=by simp [guardD]
theorem gd_skip {V cl op want}:guardD Ctr V cl want op (.v (.tuple #[])) KD=KD (.v (.tuple #[])):=by simp [guardD]
def drawC (V:List D)(cl:List Bool)(KD:D→Prop):D→List D→Prop:=fun d s'=>clr cl s'=clr cl V∧KD d
theorem drawE_eq {V cl op}:drawE Ctr V cl op KD=evalK Ctr V op (drawC V cl KD):=rfl
theorem clr_nil':∀ (s:List D),clr [] s=s:=by
  intro s;apply List.ext_getElem?;intro r;rw [clr_get];cases s[r]? with
  | none=>rfl
  | some d=>have:keepQ []=fun _=>true:=(by funext x;cases x<;>rfl);simp [this,D.prune_yes]
theorem drawC_nil {V d}:drawC V [] KD d s'=(s'=V∧KD d):=by unfold drawC;rw [clr_nil',clr_nil']
theorem drawC_cons {V d b cl}:drawC V (b::cl) KD d s'=(clr (b::cl) s'=clr (b::cl) V∧KD d):=rfl
theorem setO_some' {t d}:setO s (some t) d=s.set t d:=rfl
theorem setO_none' {d}:setO s none d=s:=rfl
theorem prO_none' {d}:prO none d=d:=rfl
theorem prO_some' {r q d}:prO (some (r,q)) d=d.prune (notThrough r q):=rfl
theorem clr_eq {m}:clr m s=clrL (keepQ m) m s:=rfl
theorem clrL_nil {q m}:clrL q m []=[]:=by simp [clrL]
theorem clrL_t {q m d}:clrL q (true::m) (d::s)=.undef::clrL q m s:=rfl
theorem clrL_f {q m d}:clrL q (false::m) (d::s)=d.prune q::clrL q m s:=rfl
theorem clrL_e {q d}:clrL q [] (d::s)=d.prune q::clrL q [] s:=rfl
theorem keepQ_ref {m r p}:keepQ m (.ref r p)=!m.getD r false:=rfl
theorem keepQ_sub {m r p i j}:keepQ m (.sub r p i j)=!m.getD r false:=rfl
theorem keepQ_ptr {m r p i j}:keepQ m (.ptr r p i j)=!m.getD r false:=rfl
theorem getD_z {b:Bool}{m:List Bool}:(b::m).getD 0 false=b:=rfl
theorem getD_s {b:Bool}{m:List Bool}{n:Nat}:(b::m).getD (n+1) false=m.getD n false:=by simp
theorem getD_e {n:Nat}:([]:List Bool).getD n false=false:=by simp
def midC (Ctr:CtrT)(start cls:List Bool)(o:DOp)(l2:List DOp)(tail:List VO)(Q:VExit→List D→Prop):List D→Prop:=fun s=>midK Ctr start cls s o l2 fun s''=>opsK Ctr s'' tail (Q .normal)
def drawEndB (Ctr:CtrT)(fills:List (Nat×Nat))(cls:List Bool)(tail:List VO)(Q:VExit→List D→Prop):List D→Prop:=fun s=>boxesZ s fills∧opsK Ctr (clr cls s) tail (Q .normal)
/-! order by order -/
def tailK (Ctr:CtrT)(tail:List VO)(Q:VExit→List D→Prop):List D→Prop:=fun s=>opsK Ctr s tail (Q .normal)
theorem tail_app {tail}:tailK Ctr tail Q s=opsK Ctr s tail (Q .normal):=rfl
def contT (Ctr:CtrT)(dst:Option Nat)(t:VT)(KP:List D→Prop):D→List D→Prop:=fun d s'=>t.wp Ctr KP (match dst with | some t=>putD s' t d | none=>s')
theorem tree_done:VT.done.wp Ctr KP s=KP s:=rfl
theorem tree_one {i dst op sub}:(VT.br i ⟨dst,none,op⟩ sub .nil).wp Ctr KP s=evalK Ctr s op (contT Ctr dst sub KP):=by simp only [VT.wp,and_true];rfl
theorem tree_h {i dst op sub}:(VT.h i ⟨dst,none,op⟩ sub).wp Ctr KP s=evalK Ctr s op (contT Ctr dst sub KP):=rfl
theorem tree_br {i dst op sub j o sub2 rest}:(VT.br i ⟨dst,none,op⟩ sub (.br j o sub2 rest)).wp Ctr KP s=(evalK Ctr s op (contT Ctr dst sub KP)∧(VT.br j o sub2 rest).wp Ctr KP s):=rfl
def guardT (Ctr:CtrT)(s:List D)(dst:Option Nat)(want:Bool)(op:VOp)(sub:VT)(KP:List D→Prop)(d:D):Prop:=match d with
  | .v (.bool b)=>(b=want→evalK Ctr s op (contT Ctr dst sub KP))∧(b≠want→contT Ctr dst sub KP (.v (.tuple #[])) s)
  | .v _=>contT Ctr dst sub KP (.v (.tuple #[])) s
  | _=>False
theorem tree_oneG {i dst g want op sub}:(VT.br i ⟨dst,some (g,want),op⟩ sub .nil).wp Ctr KP s=guardT Ctr s dst want op sub KP (lkT s g):=by simp only [VT.wp,and_true];rfl
theorem tree_brG {i dst g want op sub j o sub2 rest}:(VT.br i ⟨dst,some (g,want),op⟩ sub (.br j o sub2 rest)).wp Ctr KP s=(guardT Ctr s dst want op sub KP (lkT s g)∧(VT.br j o sub2 rest).wp Ctr KP s):=rfl
theorem gt_tt {dst op sub}:guardT Ctr s dst true op sub KP (.v (.bool true))=evalK Ctr s op (contT Ctr dst sub KP):=by simp [guardT]
theorem gt_ff {dst op sub}:guardT Ctr s dst false op sub KP (.v (.bool false))=evalK Ctr s op (contT Ctr dst sub KP):=by simp [guardT]
theorem gt_tf {dst op sub}:guardT Ctr s dst true op sub KP (.v (.bool false))=contT Ctr dst sub KP (.v (.tuple #[])) s:=by simp [guardT]
theorem gt_ft {dst op sub}:guardT Ctr s dst false op sub KP (.v (.bool true))=contT Ctr dst sub KP (.v (.tuple #[])) s:=by simp [guardT]
theorem gt_skip {dst op sub want}:guardT Ctr s dst want op sub KP (.v (.tuple #[]))=contT Ctr dst sub KP (.v (.tuple #[])) s:=by simp [guardT]
theorem contT_some {t sub d}:contT Ctr (some t) sub KP d s=sub.wp Ctr KP (putD s t d):=rfl
theorem contT_none {sub d}:contT Ctr none sub KP d s=sub.wp Ctr KP s:=rfl
theorem wp_drawB' {pre fills start cls l1 tail}:(VCode.drawB pre fills start cls l1 tail).wp Ctr Q s=(boxesS s pre∧headK Ctr none (clr start s) l1 (drawEndB Ctr fills cls tail Q)):=rfl
theorem drawEndB_app {fills cls tail}:drawEndB Ctr fills cls tail Q s=(boxesZ s fills∧opsK Ctr (clr cls s) tail (Q .normal)):=rfl
theorem boxesS_nil:boxesS s []=True:=rfl
theorem boxesS_cons {t n l}:boxesS s ((t,n)::l)=(boxS s t n∧boxesS s l):=rfl
theorem boxesZ_nil:boxesZ s []=True:=rfl
theorem boxesZ_cons {t n l}:boxesZ s ((t,n)::l)=(boxZ s t n∧boxesZ s l):=rfl
def boxSF (n:Nat):Option D→Prop
  | some (.box _ cells)=>cells.length=n
  | _=>False
def boxZF (n:Nat):Option D→Prop
  | some (.box none cells)=>cells.length=n
  | _=>False
theorem boxS_eq {t n}:boxS s t n=boxSF n s[t]?:=rfl
theorem boxZ_eq {t n}:boxZ s t n=boxZF n s[t]?:=rfl
theorem boxSF_box {n tag cells}:boxSF n (some (.box tag cells))=(cells.length=n):=rfl
theorem boxZF_box {n cells}:boxZF n (some (.box none cells))=(cells.length=n):=rfl
theorem wp_drawW' {start cls l1 o l2 tail}:(VCode.drawW start cls l1 o l2 tail).wp Ctr Q s=headK Ctr none (clr start s) l1 (midC Ctr start cls o l2 tail Q):=rfl
def placeC (Ctr:CtrT)(s:List D)(dst:Option Nat)(l2:List DOp)(cls:List Bool)(tail:List VO)(Q:VExit→List D→Prop):Nat→Path→D→Prop:=fun r q d=>headK Ctr (some (r,q)) (setO (holeS r q s) dst d) l2 (drawEndK Ctr cls tail Q)
theorem mid_app {start cls i hid cl dst g sz by' x y l2 tail}:midC Ctr start cls ⟨i,hid,cl,⟨dst,g,.app sz by' x y⟩⟩ l2 tail Q s=placeK start (clr hid s) sz by' x y (placeC Ctr s dst l2 cls tail Q):=rfl
theorem placeC_app {dst l2 cls tail r q d}:placeC Ctr s dst l2 cls tail Q r q d=headK Ctr (some (r,q)) (setO (holeS r q s) dst d) l2 (drawEndK Ctr cls tail Q):=rfl
variable {KR:Nat→Path→D→Prop}
def place4 (sz by':Nat)(rows:List (List D))(KD:D→Prop):List (List D)→List D→Prop:=fun more _=>(rows.length+more.length)*(by'+1)≤2 ^ 40∧KD (.sl true sz (rows++more))
theorem place4_app {sz by' rows more}:place4 sz by' rows KD more s=((rows.length+more.length)*(by'+1)≤2 ^ 40∧KD (.sl true sz (rows++more))):=rfl
def place3 (sz by':Nat)(y:Operand)(KD:D→Prop):D→List D→Prop:=fun d s1=>match d with
  | .sl true sz' rows=>sz'=sz∧addK s1 sz y (place4 sz by' rows KD)
  | _=>False
theorem place3_app {sz by' y sz' rows}:place3 sz by' y KD (.sl true sz' rows) s=(sz'=sz∧addK s sz y (place4 sz by' rows KD)):=rfl
def place2 (start:List Bool)(V:List D)(sz by':Nat)(y:Operand)(p:D×List D)(KR:Nat→Path→D→Prop):Prop:=match p.1 with
  | .ref r q=>start.getD r false=false∧stealK V r q (place3 sz by' y (KR r q))
  | _=>False
theorem place_eq {start V sz by' x y}:placeK start V sz by' x y KR=place2 start V sz by' y (tk V x) KR:=rfl
theorem place2_ref {start V sz by' y r q}:place2 start V sz by' y (.ref r q,s) KR=(start.getD r false=false∧stealK V r q (place3 sz by' y (KR r q))):=rfl
def holeF (r:Nat)(q:Path)(s:List D)(o:Option D):List D:=match o with
  | some d=>(pruneL (notThrough r q) s).set r (setAt (d.prune (notThrough r q)) q .undef)
  | none=>s
theorem hole_eq {r q}:holeS r q s=holeF r q s s[r]?:=rfl
theorem holeF_some {r q d}:holeF r q s (some d)=(pruneL (notThrough r q) s).set r (setAt (d.prune (notThrough r q)) q .undef):=rfl
/-! ### Kin of append and the like -/
variable {KG:List (List D)→List D→Prop}
def growN2 (sz:Nat)(s0:List D)(p:D×List D)(KG:List (List D)→List D→Prop):Prop:=match p.1 with
  | .sl true sz' rows=>sz'=sz∧KG rows p.2
  | .nils=>KG [] s0
  | _=>False
theorem growN_eq {sz x}:growNK s sz x KG=growN2 sz s (tk s x) KG:=rfl
theorem growN2_sl {sz s0 sz' rows}:growN2 sz s0 (.sl true sz' rows,s) KG=(sz'=sz∧KG rows s):=rfl
theorem growN2_nils {sz s0}:growN2 sz s0 (.nils,s) KG=KG [] s0:=rfl
theorem ev_appN {sz by' x y}:evalK Ctr s (.appN sz by' x y) K=growNK s sz x (app2K sz by' y K):=rfl
def bslNK (sz n:Nat)(p:List D×List D)(K:D→List D→Prop):Prop :=
  p.1.all (fun d=>d.okCells&&d.cells.length==sz)=true∧noRefs (p.1.flatMap D.cells)=true∧K (.sl true sz (chunk sz n (p.1.flatMap D.cells))) p.2
theorem ev_bslN {sz parts}:evalK Ctr s (.bslN sz parts) K=bslNK sz parts.length (tkL s parts) K:=rfl
theorem bslN_mk {sz n}{ds:List D}:bslNK sz n (ds,s) K=(ds.all (fun d=>d.okCells&&d.cells.length==sz)=true∧noRefs (ds.flatMap D.cells)=true∧K (.sl true sz (chunk sz n (ds.flatMap D.cells))) s):=rfl
def extNK (o:Option D) (s:List D) (K:D→List D→Prop) (i:Nat):Prop:=match o with
  | some (.tup vs)=>match vs[i]? with
    | some d=>d.owny=false∧K d s
    | none=>False
  | _=>False
def extN2 (o:Option D)(s:List D)(K:D→List D→Prop):Prop:=match o with
  | some d=>d.owny=false∧K d s
  | none=>False
theorem ev_extN {t i}:evalK Ctr s (.extN (.tmp t) i) K=extNK s[t]? s K i:=rfl
theorem extN_tup {vs i}:extNK (some (.tup vs)) s K i=extN2 vs[i]? s K:=rfl
theorem extN2_some {d}:extN2 (some d) s K=(d.owny=false∧K d s):=rfl
/-! ### A function's end -/
theorem end_ret {rvs d}:endQ rvs d .ret s=rvsK s rvs (leK d):=rfl
theorem end_n {rvs d}:endQ rvs d .normal s=rvsK s rvs (leK d):=rfl
theorem endX_ret {rvs d i b cs}:endX rvs d i b cs .ret s=rvsK s rvs (leX d i b cs):=rfl
theorem endX_n {rvs d i b cs}:endX rvs d i b cs .normal s=rvsK s rvs (leX d i b cs):=rfl
section
variable {KS:List D→List D→Prop}
def rcons (d:D)(KL:List D→List D→Prop):List D→List D→Prop:=fun ds=>KL (d::ds)
def rvN (rs:List RV)(KL:List D→List D→Prop):D→List D→Prop:=fun d s'=>rvsK s' rs (rcons d KL)
theorem rvs_nil:rvsK s [] KS=KS [] s:=rfl
theorem rvs_cons {r rs}:rvsK s (r::rs) KS=rvK s r (rvN rs KS):=rfl
theorem rvN_app {rs d}:rvN rs KS d s=rvsK s rs (rcons d KS):=rfl
theorem rcons_app {d ds}:rcons d KS ds s=KS (d::ds) s:=rfl
end
theorem leK_app {d ds}:leK d ds s=(one ds).le d:=rfl
def outF (b:Nat)(cells':List D):Option D→Prop
  | some (.box (some b') cs)=>b'=b∧leL (pruneL (fun _=>false) cs) cells'
  | _=>False
theorem endG_ret {rvs d b cs}:endG rvs d b cs .ret s=rvsK s rvs (leG d b cs):=rfl
theorem endG_n {rvs d b cs}:endG rvs d b cs .normal s=rvsK s rvs (leG d b cs):=rfl
theorem leG_app {d ds b cs}:leG d b cs ds s=((one ds).le d∧outL b cs s):=rfl
def rvP1 (x n:Nat)(s:List D)(K:D→List D→Prop):Option D→Prop
  | some (.box _ (.ptr r [] 0 0::rest))=>rest.length+1=n∧r≠x∧rest.all D.flatI=true∧resolveK ((pruneL (notRoot x) s).set x .undef) (.ptr r [] 0 0) (fun d' s'=>K (.agg (d'::rest)) s')
  | _=>False
theorem endP_ret {x n d}:endP x n d .ret s=rvP1 x n s (fun d' _=>d'.le d) s[x]?:=rfl
theorem endP_n {x n d}:endP x n d .normal s=rvP1 x n s (fun d' _=>d'.le d) s[x]?:=rfl
theorem rvP1_box {x n K g r rest}:rvP1 x n s K (some (.box g (.ptr r [] 0 0::rest)))=(rest.length+1=n∧r≠x∧rest.all D.flatI=true∧resolveK ((pruneL (notRoot x) s).set x .undef) (.ptr r [] 0 0) (fun d' s'=>K (.agg (d'::rest)) s')):=rfl
theorem endKK_ret {rvs d i b cs}:endKK rvs d i b cs .ret s=rvsK s rvs (leK2 d i b cs):=rfl
theorem endKK_n {rvs d i b cs}:endKK rvs d i b cs .normal s=rvsK s rvs (leK2 d i b cs):=rfl
def outKF (b:Nat)(cells':List D):Option D→Prop
  | some (.fn _ [.box (some b') cs] [])=>b'=b∧leL (pruneL (fun _=>false) cs) cells'
  | _=>False
theorem leK2_app {d ds i b cs}:leK2 d i b cs ds s=((one ds).le d∧outKF b cs s[i]?):=by unfold leK2 outK outKF;rfl
theorem outKF_fn {g b b' cs cells'}:outKF b cells' (some (.fn g [.box (some b') cs] []))=(b'=b∧leL (pruneL (fun _=>false) cs) cells'):=rfl
def mkifF (ty:Nat)(t:Nat)(s:List D)(K:D→List D→Prop):Option D→Prop
  | some (.box _ [.v (.int .i64 m),.v (.int .i64 n)])=>K (.mp (.err ty) [(.int .i64 m,.int .i64 n)]) ((pruneL (notRoot t) s).set t .undef)
  | _=>False
theorem leX_app {d ds i b cs}:leX d i b cs ds s=((one ds).le d∧outF b cs s[i]?):=by unfold leX outX outF;rfl
theorem outF_box {b cs cells'}:outF b cells' (some (.box (some b) cs))=leL (pruneL (fun _=>false) cs) cells':=by simp [outF]
theorem one_1 {d}:one [d]=d:=rfl
theorem one_0:one []=.tup []:=rfl
theorem one_2 {d e ds}:one (d::e::ds)=.tup (d::e::ds):=rfl
def rv2 (p:D×List D)(K:D→List D→Prop):Prop:=p.1.okCells=true∧resolveK p.2 p.1 K
theorem rv_t {t}:rvK s (.t t) K=rv2 (tkT s t) K:=rfl
theorem rv2_mk {d}:rv2 (d,s) K=(d.okCells=true∧resolveK s d K):=rfl
def rv3 (t n:Nat)(agg:Bool)(s:List D)(o:Option D)(K:D→List D→Prop):Prop:=match o with
  | some (.box _ cells)=>cells.length=n∧(mkAgg agg (pruneL (notRoot t) cells)).okCells=true∧resolveK ((pruneL (notRoot t) s).set t .undef) (mkAgg agg (pruneL (notRoot t) cells)) K
  | _=>False
theorem rv_c {t n agg}:rvK s (.c t n agg) K=rv3 t n agg s s[t]? K:=rfl
theorem rv3_box {t n agg g cells}:rv3 t n agg s (some (.box g cells)) K=(cells.length=n∧(mkAgg agg (pruneL (notRoot t) cells)).okCells=true∧resolveK ((pruneL (notRoot t) s).set t .undef) (mkAgg agg (pruneL (notRoot t) cells)) K):=rfl
def rebK (d:D)(K:D→List D→Prop):List D→List D→Prop:=fun cs s'=>K (rebuild d cs) s'
def boxRK (K:D→List D→Prop):List D→List D→Prop:=fun cs s'=>K (.box none cs) s'
theorem boxRK_app {cs}:boxRK K cs s=K (.box none cs) s:=rfl
def resP (r:Nat)(s:List D)(K:D→List D→Prop):Option D→Prop
  | some (.box _ cells)=>refsOK (pruneL (refNot r) cells)=true∧resC ((pruneL (notRoot r) s).set r .undef) (pruneL (refNot r) cells) (boxRK K)
  | _=>False
theorem resolve_ptr {r}:resolveK s (.ptr r [] 0 0) K=resP r s K s[r]?:=by unfold resolveK resP;rfl
theorem resP_box {r g cells}:resP r s K (some (.box g cells))=(refsOK (pruneL (refNot r) cells)=true∧resC ((pruneL (notRoot r) s).set r .undef) (pruneL (refNot r) cells) (boxRK K)):=rfl
theorem resolve_agg {cs}:resolveK s (.agg cs) K=(refsOK cs=true∧resC s cs (rebK (.agg cs) K)):=rfl
theorem resolve_v {x}:resolveK s (.v x) K=(refsOK [.v x]=true∧resC s [.v x] (rebK (.v x) K)):=rfl
theorem resolve_nils:resolveK s .nils K=(refsOK [.nils]=true∧resC s [.nils] (rebK .nils K)):=rfl
theorem resolve_undef:resolveK s .undef K=(refsOK [.undef]=true∧resC s [.undef] (rebK .undef K)):=rfl
theorem resolve_sl {o z r}:resolveK s (.sl o z r) K=(refsOK [.sl o z r]=true∧resC s [.sl o z r] (rebK (.sl o z r) K)):=rfl
theorem resolve_ref {r p}:resolveK s (.ref r p) K=(refsOK [.ref r p]=true∧resC s [.ref r p] (rebK (.ref r p) K)):=rfl
theorem resolve_mp {k e}:resolveK s (.mp k e) K=(refsOK [.mp k e]=true∧resC s [.mp k e] (rebK (.mp k e) K)):=rfl
theorem resolve_iptr {c j}:resolveK s (.iptr c j) K=(refsOK [.iptr c j]=true∧resC s [.iptr c j] (rebK (.iptr c j) K)):=rfl
theorem reb_mp {k e ds}:rebuild (.mp k e) ds=ds.headD .undef:=rfl
theorem le_mp' {k e k' e'}:(D.mp k e).le (.mp k' e')=(k=k'∧e=e'):=by simp [D.le]
theorem le_box' {g e g' e'}:(D.box g e).le (.box g' e')=(g=g'∧e=e'):=by simp [D.le]
theorem rebK_app {d cs}:rebK d K cs s=K (rebuild d cs) s:=rfl
theorem reb_agg {cs ds}:rebuild (.agg cs) ds=.agg ds:=rfl
theorem reb_v {x ds}:rebuild (.v x) ds=ds.headD .undef:=rfl
theorem reb_nils {ds}:rebuild .nils ds=ds.headD .undef:=rfl
theorem reb_undef {ds}:rebuild .undef ds=ds.headD .undef:=rfl
theorem reb_sl {o z r ds}:rebuild (.sl o z r) ds=ds.headD .undef:=rfl
theorem reb_ref {r p ds}:rebuild (.ref r p) ds=ds.headD .undef:=rfl
theorem reb_iptr {c j ds}:rebuild (.iptr c j) ds=ds.headD .undef:=rfl
theorem le_undef' {d:D}:d.le .undef=True:=by cases d<;>simp [D.le]
theorem le_v' {a b:Value}:(D.v a).le (.v b)=(a=b):=by simp [D.le]
theorem le_nils':D.nils.le .nils=True:=by simp [D.le]
theorem le_nilsl {o z r}:D.nils.le (.sl o z r)=(r=[]):=by simp [D.le]
theorem le_sl' {o z r o' z' r'}:(D.sl o z r).le (.sl o' z' r')=(o=o'∧z=z'∧r=r'):=by simp [D.le]
theorem le_agg' {a b}:(D.agg a).le (.agg b)=leL a b:=by simp [D.le]
theorem le_tup' {a b}:(D.tup a).le (.tup b)=leL a b:=by simp [D.le]
theorem le_fn' {f g a b c d}:(D.fn f a b).le (.fn g c d)=(f=g∧leL a c∧leL b d):=by simp [D.le]
theorem leL_nil':leL [] []=True:=by simp [leL]
theorem leL_cons' {a b a2 b2}:leL (a::a2) (b::b2)=(a.le b∧leL a2 b2):=by simp [leL]
end
theorem drawT_at {C:CtrT}{Q:VExit→List D→Prop}{s:List D}{t:VT}{tail:List VO}{s0:List D}(h:∀ K:List D→Prop,K s0→t.wp C K s)(p:tailK C tail Q s0):(VCode.drawT t tail).wp C Q s:=h _ p
end Go.V
namespace Go.V
open Go.RowKit
section
variable {Ctr:CtrT} {s:List D} {K:D→List D→Prop}
def eqsK (neg:Bool) (ks:List Nat) (x y:D) (s:List D) (K:D→List D→Prop):Prop:=match x,y with
  | .agg a,.agg b=>kindsOK ks a=true∧match eqCells a b with
    | some c=>K (.v (.bool (if neg then !c else c))) s
    | none=>False
  | _,_=>False
theorem ev_eqs {neg ks x y}:evalK Ctr s (.eqs neg ks x y) K=eqsK neg ks (lk s x) (lk s y) s K:=rfl
def eqs2 (neg:Bool)(o:Option Bool)(s:List D)(K:D→List D→Prop):Prop:=match o with
  | some c=>K (.v (.bool (if neg then !c else c))) s
  | none=>False
theorem eqs_agg {neg ks a b}:eqsK neg ks (.agg a) (.agg b) s K=(kindsOK ks a=true∧eqs2 neg (eqCells a b) s K):=rfl
theorem eqs2_f {c}:eqs2 false (some c) s K=K (.v (.bool c)) s:=rfl
theorem eqs2_t {c}:eqs2 true (some c) s K=K (.v (.bool (!c))) s:=rfl
theorem eqc_nil:eqCells [] []=some true:=rfl
theorem eqc_int {k a b xs ys}:eqCells (.v (.int k a)::xs) (.v (.int k b)::ys)=(eqCells xs ys).map (decide (a=b)&&·):=by simp [eqCells]
theorem eqc_str {a b xs ys}:eqCells (.v (.string a)::xs) (.v (.string b)::ys)=(eqCells xs ys).map (decide (a=b)&&·):=rfl
theorem eqc_bool {a b xs ys}:eqCells (.v (.bool a)::xs) (.v (.bool b)::ys)=(eqCells xs ys).map ((a==b)&&·):=rfl
theorem kok_nil:kindsOK [] []=true:=rfl
theorem kok_b {ks b ds}:kindsOK (0::ks) (.v (.bool b)::ds)=kindsOK ks ds:=rfl
theorem kok_i {ks k n ds}:kindsOK (1::ks) (.v (.int k n)::ds)=kindsOK ks ds:=rfl
theorem kok_s {ks b ds}:kindsOK (2::ks) (.v (.string b)::ds)=kindsOK ks ds:=rfl
theorem ev_b2s {x}:evalK Ctr s (.b2s x) K=b2sK (slAt s (lk s x)) s K:=rfl
theorem b2s_mk {sz rows}:b2sK (some (sz,rows)) s K=∃ xs:List Int,rows=xs.map rowB∧K (.v (.string (strI xs))) s:=rfl
theorem ev_isnil {neg x}:evalK Ctr s (.isnil neg x) K=isnilK neg (lk s x) (slAt s (lk s x)) s K:=rfl
theorem isnil_nils {neg o}:isnilK neg .nils o s K=K (.v (.bool (!neg))) s:=rfl
/-! maps -/
theorem ev_mkm {k}:evalK Ctr s (.mkm k) K=K (.mp k k.e0) s:=rfl
theorem e0_str:KK.e0 .str=[]:=rfl
theorem e0_bool:KK.e0 .bool=[]:=rfl
theorem e0_int {k}:KK.e0 (.int k)=[]:=rfl
theorem e0_flat {ks}:KK.e0 (.flat ks)=[]:=rfl
theorem ev_mkif {ty t}:evalK Ctr s (.mkif ty (.tmp t)) K=mkifF ty t s K s[t]?:=by unfold mkifF;rfl
theorem mkifF_box {ty t g m n}:mkifF ty t s K (some (.box g [.v (.int .i64 m),.v (.int .i64 n)]))=K (.mp (.err ty) [(.int .i64 m,.int .i64 n)]) ((pruneL (notRoot t) s).set t .undef):=rfl
theorem e0_bld {t e}:KK.e0 (.bld t e)=[(.string ⟨#[]⟩,undef)]:=rfl
def mupd4 (k:KK)(r:Nat)(q:Path)(d:D)(e:List (Value×Value))(ou ov:Option Value)(s:List D)(K:D→List D→Prop):Prop:=match ou,ov with
  | some u,some v=>keyOK k u=true∧K .undef (s.set r (setAt d q (.mp k (mset e u v))))
  | _,_=>False
def mupd3 (k:KK)(r:Nat)(q:Path)(d:D)(o:Option D)(ou ov:Option Value)(s:List D)(K:D→List D→Prop):Prop:=match o with
  | some (.mp k' e)=>k'=k∧mupd4 k r q d e ou ov s K
  | _=>False
def mupd2 (k:KK)(r:Nat)(q:Path)(o:Option D)(ou ov:Option Value)(s:List D)(K:D→List D→Prop):Prop:=match o with
  | some d=>mupd3 k r q d (treeAt d q) ou ov s K
  | none=>False
def mupd1 (k:KK)(m:D)(ou ov:Option Value)(s:List D)(K:D→List D→Prop):Prop:=match m with
  | .ref r q=>mupd2 k r q s[r]? ou ov s K
  | _=>False
theorem ev_mupd {k m i x}:evalK Ctr s (.mupd k m i x) K=mupd1 k (lk s m) (toV (lk s i)) (toV (lk s x)) s K:=rfl
theorem mupd1_ref {k r q ou ov}:mupd1 k (.ref r q) ou ov s K=mupd2 k r q s[r]? ou ov s K:=rfl
theorem mupd2_some {k r q d ou ov}:mupd2 k r q (some d) ou ov s K=mupd3 k r q d (treeAt d q) ou ov s K:=rfl
theorem mupd3_mp {k r q d e ou ov}:mupd3 k r q d (some (.mp k e)) ou ov s K=mupd4 k r q d e ou ov s K:=by simp [mupd3]
theorem mupd4_some {k r q d e u v}:mupd4 k r q d e (some u) (some v) s K=(keyOK k u=true∧K .undef (s.set r (setAt d q (.mp k (mset e u v))))):=rfl
def mdel4 (k:KK)(r:Nat)(q:Path)(d:D)(e:List (Value×Value))(ou:Option Value)(s:List D)(K:D→List D→Prop):Prop:=match ou with
  | some u=>keyOK k u=true∧K .undef (s.set r (setAt d q (.mp k (mdel e u))))
  | _=>False
def mdel3 (k:KK)(r:Nat)(q:Path)(d:D)(o:Option D)(ou:Option Value)(s:List D)(K:D→List D→Prop):Prop:=match o with
  | some (.mp k' e)=>k'=k∧mdel4 k r q d e ou s K
  | _=>False
def mdel2 (k:KK)(r:Nat)(q:Path)(o:Option D)(ou:Option Value)(s:List D)(K:D→List D→Prop):Prop:=match o with
  | some d=>mdel3 k r q d (treeAt d q) ou s K
  | none=>False
def mdel1 (k:KK)(m:D)(ou:Option Value)(s:List D)(K:D→List D→Prop):Prop:=match m with
  | .ref r q=>mdel2 k r q s[r]? ou s K
  | _=>False
theorem ev_mdel {k m i}:evalK Ctr s (.mdel k m i) K=mdel1 k (lk s m) (toV (lk s i)) s K:=rfl
theorem mdel1_ref {k r q ou}:mdel1 k (.ref r q) ou s K=mdel2 k r q s[r]? ou s K:=rfl
theorem mdel2_some {k r q d ou}:mdel2 k r q (some d) ou s K=mdel3 k r q d (treeAt d q) ou s K:=rfl
theorem mdel3_mp {k r q d e ou}:mdel3 k r q d (some (.mp k e)) ou s K=mdel4 k r q d e ou s K:=by simp [mdel3]
theorem mdel4_some {k r q d e u}:mdel4 k r q d e (some u) s K=(keyOK k u=true∧K .undef (s.set r (setAt d q (.mp k (mdel e u))))):=rfl
def mlk0 (k:KK)(z:Value)(ok:Bool)(ou:Option Value)(m:D)(o:Option (KK×List (Value×Value)))(s:List D)(K:D→List D→Prop):Prop:=match ou with
  | some u=>keyOK k u=true∧mlkK k z ok u m o s K
  | none=>False
theorem ev_mlk {k z ok m i}:evalK Ctr s (.mlk k z ok m i) K=mlk0 k z ok (toV (lk s i)) (lk s m) (mpAt s (lk s m)) s K:=rfl
theorem mlk0_some {k z ok u m o}:mlk0 k z ok (some u) m o s K=(keyOK k u=true∧mlkK k z ok u m o s K):=rfl
def lookK (z:Value)(ok:Bool)(o:Option Value)(s:List D)(K:D→List D→Prop):Prop:=match o with
  | some v=>K (if ok then .tup [ofV v,.v (.bool true)] else ofV v) s
  | none=>K (if ok then .tup [ofV z,.v (.bool false)] else ofV z) s
theorem mlk_some {k z ok u m e}:mlkK k z ok u m (some (k,e)) s K=lookK z ok (mget e u) s K:=by unfold mlkK lookK;simp only [true_and];cases mget e u<;>rfl
theorem mlk_nil {k z ok u}:mlkK k z ok u (.v (.map none)) none s K=lookK z ok none s K:=rfl
theorem look_sf {z v}:lookK z false (some v) s K=K (ofV v) s:=rfl
theorem look_st {z v}:lookK z true (some v) s K=K (.tup [ofV v,.v (.bool true)]) s:=rfl
theorem look_nf {z}:lookK z false none s K=K (ofV z) s:=rfl
theorem look_nt {z}:lookK z true none s K=K (.tup [ofV z,.v (.bool false)]) s:=rfl
def mlen2 (m:D) (o:Option (KK×List (Value×Value))) (s:List D) (K:D→List D→Prop):Prop:=match o with
  | some (k,e)=>mlenK k (K (.v (.int .i64 (e.length:Int))) s)
  | none=>match m with
    | .v (.map none)=>K (.v (.int .i64 0)) s
    | _=>False
theorem ev_mlen {m}:evalK Ctr s (.mlen m) K=mlen2 (lk s m) (mpAt s (lk s m)) s K:=rfl
theorem mlen2_some {m k e}:mlen2 m (some (k,e)) s K=mlenK k (K (.v (.int .i64 (e.length:Int))) s):=rfl
theorem mlenK_str {p}:mlenK .str p=p:=rfl
theorem mlenK_bool {p}:mlenK .bool p=p:=rfl
theorem mlenK_int {k p}:mlenK (.int k) p=p:=rfl
theorem mlenK_flat {ks p}:mlenK (.flat ks) p=p:=rfl
theorem mpAt_imp {k e}:mpAt s (.imp k e)=some (k,e):=rfl
def mpG:Option D→Option (KK×List (Value×Value))
  | some (.mp k e)=>some (k,e)
  | _=>none
def mpF (q:Path):Option D→Option (KK×List (Value×Value))
  | some d=>mpG (treeAt d q)
  | none=>none
theorem mpAt_ref {r q}:mpAt s (.ref r q)=mpF q s[r]?:=by unfold mpAt mpF mpG;rfl
theorem mpF_some {q d}:mpF q (some d)=mpG (treeAt d q):=rfl
theorem mpG_mp {k e}:mpG (some (.mp k e))=some (k,e):=rfl
theorem mpAt_v {x}:mpAt s (.v x)=none:=rfl
theorem toV_v {x}:toV (.v x)=some x:=rfl
theorem toV_nils:toV .nils=some (.slice none 0 0):=rfl
theorem toV_agg {cs}:toV (.agg cs)=(plainC cs).map fun vs=>.agg ⟨vs⟩:=rfl
theorem plain_nil:plainC []=some []:=rfl
theorem plain_int {k n ds}:plainC (.v (.int k n)::ds)=(plainC ds).map (.int k n::·):=rfl
theorem plain_str {b ds}:plainC (.v (.string b)::ds)=(plainC ds).map (.string b::·):=rfl
theorem plain_bool {b ds}:plainC (.v (.bool b)::ds)=(plainC ds).map (.bool b::·):=rfl
theorem keyOK_str {b}:keyOK .str (.string b)=true:=rfl
theorem keyOK_bool {b}:keyOK .bool (.bool b)=true:=rfl
theorem keyOK_int {k n}:keyOK (.int k) (.int k n)=true:=by simp [keyOK]
theorem keyOK_flat {ks cs}:keyOK (.flat ks) (.agg ⟨cs⟩)=kindsV ks cs:=rfl
theorem kV_nil:kindsV [] []=true:=rfl
theorem kV_b {ks b vs}:kindsV (0::ks) (.bool b::vs)=kindsV ks vs:=rfl
theorem kV_i {ks n vs}:kindsV (1::ks) (.int .i64 n::vs)=kindsV ks vs:=rfl
theorem kV_s {ks b vs}:kindsV (2::ks) (.string b::vs)=kindsV ks vs:=rfl
end
attribute [go_sem ↓] tree_done tree_h tree_one tree_br tree_oneG tree_brG contT_some contT_none wp_draw' wp_drawB' drawEndB_app wp_drawW' head_nil head_cons head_guard drawE_eq headC_app mid_app placeC_app drawEnd_app ev_appN ev_bslN ev_extN wp_ops' wp_seq' wp_skip' wp_ret' wp_exit' wp_block' wp_cond' then_n then_r
  then_e block_n block_r block_e ops_nil ops_cons ops_guard cont_app put_some put_none ev_mvt ev_mvc ev_mvf ev_asg ev_nilc ev_pick ev_bin ev_binB ev_un ev_conv ev_alloc ev_box ev_build ev_bsl ev_load ev_store ev_fa
  ev_fld ev_ia ev_iaa ev_ixs ev_ixa ev_slcS ev_slc ev_ext ev_len ev_lenS ev_mm ev_app ev_appS appS1_app appS2_s ev_mkf ev_mks ev_eqs ev_b2s ev_isnil ev_mkm ev_mupd ev_mdel ev_mlk ev_mlen
attribute [go_sem] gt_tt gt_ff gt_tf gt_ft gt_skip mvF_tup mvF_own mvF_imm mvF_box mvF_mp mvF_imp mvF_v mvF_nils mvF_undef mvF_ref mvF_sub mvF_ptr mvF_iptr mvF_agg mvF_fn boxesS_nil boxesS_cons boxesZ_nil boxesZ_cons boxS_eq boxZ_eq boxSF_box boxZF_box guard_tt guard_ff guard_tf guard_ft guard_skip cond_t cond_f lk_tmp lkT_eq lk_const lk_func lkF_own lkF_imm lkF_box lkF_mp lkF_imp lkF_v lkF_nils lkF_undef lkF_ref lkF_ptr lkF_iptr lkF_agg lkF_fn raw_tmp raw_const
  raw_func rawF tk_tmp tkT_eq tk_const tk_func tkF_own tkF_imm tkF_box tkF_mp tkF_imp tkF_v tkF_nils tkF_undef tkF_ref tkF_ptr tkF_iptr tkF_agg tkF_tup tkF_fn tkL_nil tkL_cons putD_eq putF_own putF_box putF_mp putF_imp putF_imm putF_v
  putF_nils putF_undef putF_ref putF_ptr putF_iptr putF_agg putF_tup putF_fn pairK_mk nilc_ptr nilc_iptr nilc_fn pick_b pick_t pick_f bin_add bin_sub bin_mul bin_quo bin_rem bin_eql bin_neq bin_lss
  bin_leq bin_gtr bin_geq bin_shl bin_shr bin_and bin_or bin_sadd bin_seql bin_sneq bin_slss binB_eq binB_ne un_not un_neg conv_int box_mk build_mk build2_some bsl_mk chunk_app cons_app resS_app res_nil
  res_ref res_sub res_subI res_sub0 subK_sl res_undef res_nils res_v res_sl steal_eq stealG_some stealF_some load_ptr load_iptr load2_some end_app row_app store_mk store2_ptr store3_t selfK_f selfK_t rowBX_app selfS store3_f setC_eq setC1_some setC2_some setC3_f
  setC3_t bK_all bK_thr setB_nil setB_cons rK_app setR_nil setR_cons isBox_eq isBoxF_box isBoxF_sl rowAt_eq rowF_box rowF_sl fa_ptr fa_iptr fld_agg ia_ref ia_sl ia2_some slAt_ref slAt_sl slAt_nils
  slF_sl iaa_ptr iaa_iptr ixs_s ixa_agg slcS_s slc_sl slc_ref slc_sub' slcR_some slcB_some sizeS_sl sizeS_sub sizeS_ref sizeF_some slAt_sub sub1_some add2_sub lkF_sub tkF_sub putF_sub keepQ_sub opt_none opt_some ext_tup ext2_some len_some lenS_s mm_max mm_min app3_app app2_app grow3_sl grow_eq grow2_sl grow2_nils grow2_ref add3_some add_eq
  add2_own add2_imm add2_nils add2_ref mks_int ofV ofC D.owny ownyL D.prune pruneL notRoot keepB List.isEmpty_nil List.isEmpty_cons notThrough aliveQ D.cont treeAt setAt D.withCont D.cells D.okCells D.leaf refsOK notThr mkAgg cpyL chunk sizeD
  fillB splice gd_tt gd_ff gd_tf gd_ft gd_skip drawC_nil drawC_cons setO_some' setO_none' prO_none' prO_some' clr_eq clrL_nil clrL_t clrL_f clrL_e keepQ_ref keepQ_ptr getD_z getD_s getD_e place4_app
  place3_app place_eq place2_ref hole_eq holeF_some growN_eq growN2_sl growN2_nils bslN_mk noRefs extN_tup extN2_some end_ret end_n rvs_nil rvs_cons rvN_app rcons_app leK_app one_1 one_0 one_2 rv_t
  rv2_mk rv_c rv3_box resolve_agg resolve_v resolve_nils resolve_undef resolve_sl resolve_ref resolve_mp resolve_iptr resolve_ptr resP_box boxRK_app refNot reb_mp res_mp res_iptr stealF_mp le_mp' le_box' endX_ret endX_n endG_ret endG_n leG_app endP_ret endP_n rvP1_box endKK_ret endKK_n putO_sub putO_v putO_undef putO_nils putO_sl putO_mp putO_imp putO_iptr putO_agg putO_tup putO_box putO_fn putO_ref putO_ptr putO_subp leK2_app outKF_fn ownF_box ev_mkif mkifF_box leX_app outF_box rebK_app reb_agg reb_v reb_nils reb_undef reb_sl reb_ref reb_iptr le_undef' le_v' le_nils' le_nilsl le_sl' le_agg' le_tup' le_fn' leL_nil' leL_cons' eqs_agg
  mupd1_ref mupd2_some mupd3_mp mupd4_some mdel1_ref mdel2_some mdel3_mp mdel4_some mlk0_some mlk_some mlk_nil look_sf look_st look_nf look_nt mlen2_some mlenK_str mlenK_bool mlenK_int mlenK_flat e0_str e0_bool e0_int e0_flat e0_bld mpAt_imp mpAt_ref mpF_some mpG_mp mpAt_v toV_v toV_nils toV_agg plain_nil plain_int plain_str plain_bool keyOK_str keyOK_bool keyOK_int keyOK_flat kV_nil kV_b kV_i kV_s Option.map_some
  eqs2_f eqs2_t eqc_nil eqc_int eqc_str eqc_bool kok_nil kok_b kok_i kok_s b2s_mk isnil_nils
end Go.V
namespace Go.V
open Go.RowKit
mutual
theorem D.le_rfl:∀ d:D,d.le d
  | .undef=>by simp [D.le]
  | .nils=>by simp [D.le]
  | .v _=>by simp [D.le]
  | .sl _ _ _=>by simp [D.le]
  | .agg cs=>by simp only [D.le];exact leL_rfl cs
  | .tup cs=>by simp only [D.le];exact leL_rfl cs
  | .ref _ _=>by simp [D.le]
  | .ptr _ _ _ _=>by simp [D.le]
  | .sub _ _ _ _=>by simp [D.le]
  | .iptr cs _=>by simp only [D.le];exact ⟨0,by omega,by rw [List.drop_zero,List.take_length];exact leL_rfl cs⟩
  | .box _ _=>by simp [D.le]
  | .mp _ _=>by simp [D.le]
  | .imp _ _=>by simp [D.le]
  | .fn _ a b=>by simp only [D.le];exact ⟨trivial,leL_rfl a,leL_rfl b⟩
theorem leL_rfl:∀ ds:List D,leL ds ds
  | []=>by simp [leL]
  | d::ds=>by simp only [leL];exact ⟨D.le_rfl d,leL_rfl ds⟩
end
theorem leL_of_eq {ds es:List D}(h:ds=es):leL ds es:=h▸leL_rfl ds
theorem leL_cons {d e:D}{ds es:List D}(h1:d.le e)(h2:leL ds es):leL (d::ds) (e::es):=by simp only [leL];exact ⟨h1,h2⟩
theorem leL_nil:leL [] []:=by simp [leL]
theorem le_of_eq {d e:D}(h:d=e):d.le e:=h▸D.le_rfl d
theorem le_agg {cs ds:List D}(h:leL cs ds):(D.agg cs).le (.agg ds):=by simp only [D.le];exact h
theorem leL_len:∀ {cs ds:List D},leL cs ds→cs.length=ds.length
  | [],[],_=>rfl
  | [],_::_,h=>by simp [leL] at h
  | _::_,[],h=>by simp [leL] at h
  | c::cs,d::ds,h=>by simp only [leL] at h;simp [leL_len h.2]
theorem le_iptr {cs ds:List D}{j:Nat}(h:leL cs ds):(D.iptr cs j).le (.iptr ds j):=by simp only [D.le];exact ⟨0,by omega,by rw [List.drop_zero,← leL_len h,List.take_length];exact h⟩
theorem le_iptrN {cs ds:List D}{i:Nat}(h:leL ((cs.drop i).take ds.length) ds):(D.iptr cs i).le (.iptr ds 0):=by simp only [D.le];exact ⟨i,by omega,h⟩
theorem le_fn {f:FuncId}{a b c d:List D}(h1:leL a c)(h2:leL b d):(D.fn f a b).le (.fn f c d):=by simp only [D.le];exact ⟨trivial,h1,h2⟩
theorem le_slf {d:D}{z:Nat}{rows rows':List (List D)}(h:d=.sl false z (immLL rows))(h2:immLL rows=rows'):d.le (.sl false z rows'):=by rw [h,h2];exact D.le_rfl _
theorem immL_app:∀ xs ys:List D,immL (xs++ys)=immL xs++immL ys
  | [],_=>rfl
  | x::xs,ys=>by simp only [List.cons_append,immL,immL_app xs ys]
theorem le_nilsl_ {o z}:D.nils.le (.sl o z []):=by simp [D.le]
theorem immLL_map {α:Type}{f g:α→List D}(h:∀ x,immL (f x)=g x):∀ xs:List α,immLL (xs.map f)=xs.map g
  | []=>by simp [immLL]
  | x::xs=>by simp only [List.map_cons,immLL,h,immLL_map h xs]
section
variable {P:Program} {G:World→(Nat→Prop)→Prop} {s:List D} {K:D→List D→Prop} {Q:VExit→List D→Prop}
theorem call_le {f:FuncId}{args:List Operand}{args':List D}{d:D}(hC:Contract P G f args' d)(he:leL (args.map fun x=>deep s 8 (raw s x)) args')(hi:d.noImm=true∨((args.map fun x=>raw s x).all D.noRef)=true)(hK:K d s):evalK (CT P G) s (.callX f args) K :=
  .inl ⟨args',d,he,hC,hi,hK⟩
theorem callv_le {x:Operand}{f:FuncId}{first caps:List D}{args:List Operand}{args':List D}{d:D}(hx:lk s x=.fn f first caps)(hC:Contract P G f args' d)(he:leL ((first++args.map (fun x=>raw s x)++caps).map (deep s 8)) args')(hi:d.noImm=true∨(first++args.map (fun x=>raw s x)++caps).all D.noRef=true)(hK:K d s):evalK (CT P G) s (.callvX x args) K:=by simp only [evalK,hx];exact .inl ⟨args',d,he,hC,hi,hK⟩
theorem call_lend {f:FuncId}{args:List Operand}{i r:Nat}{x:Operand}{d0 d' dnew res:D}{args':List D}(fr:Bool)(hC:ContractL P G f i args' d0 res d')(hx:args[i]?=some x)(hl:lendP s r x fr d0 d' dnew d')(ho:((args.map fun x=>raw s x).set i .undef).all (fun u=>!u.owny)=true)
    (hle:leL ((((args.map fun x=>raw s x).set i .undef).map (D.prune (notRoot r))).map (deep ((pruneL (notRoot r) s).set r .undef) 8)) args') (hn:(fr=false∧res.noImm=true∧d'.noImm=true)∨(fr=true∧(((args.map fun x=>raw s x).set i .undef).map (D.prune (notRoot r))).all D.noRef=true)) (hK:K res ((pruneL (notRoot r) s).set r dnew)):evalK (CT P G) s (.callX f args) K :=
  .inr (.inr (.inl ⟨i,r,x,fr,d0,d',dnew,d',res,args',hx,hl,.inr ho,hle,hC,hn,.inl hK⟩))
theorem call_lend2 {f:FuncId}{args:List Operand}{i j r1 r2:Nat}{x1 x2:Operand}{d1 d1' res:D}{tag:Option Nat}{cells cells' args':List D}(hC:ContractM P G f i j args' [d1,.box none cells] res [d1',.box none cells'])(hi:args[i]?=some x1)(hj:args[j]?=some x2)(hne:r1≠r2)(hs1:s[r1]?=some d1)(hx1:x1=.tmp r1∨lk s x1=.ref r1 [])(hex:d1.exact=true)(hs2:s[r2]?=some (.box tag cells))(hx2:lk s x2=.ptr r2 [] 0 0)(hpc:cells.all D.plain=true)
    (hA:((args.map fun x=>raw s x).set i .undef).set j .undef=args') (hpa:args'.all D.plain=true) (hK:K res ((((pruneL (notRoot r2) ((pruneL (notRoot r1) s).set r1 .undef)).set r2 .undef).set r1 d1').set r2 (.box tag cells'))):evalK (CT P G) s (.callX f args) K :=
  .inr (.inr (.inr (.inr (.inl ⟨i,j,r1,r2,x1,x2,d1,d1',tag,cells,cells',res,hi,hj,hne,hs1,hx1,hex,hs2,hx2,hpc,hA▸hpa,hA▸hC,hK⟩))))
theorem call_markB {f:FuncId}{r:Nat}{x y:Operand}{tag:Option Nat}{cells cells':List D}{k:Value}{res:D}(hC:ContractL P G f 0 [.undef,.v k] (.agg cells) res (.agg cells'))(hs:s[r]?=some (.box tag cells))(hx:lk s x=.agg (cpyL r [] 0 0 cells))(hy:raw s y=.v k)(he:exactL cells=true)(hK:K res ((pruneL (notRoot r) s).set r (.box tag cells'))):evalK (CT P G) s (.callX f [x,y]) K :=
  call_lend (x:=x) true hC rfl (by unfold lendP;rw [hs];exact .inr (.inl ⟨rfl,tag,cells,cells',rfl,hx,he,rfl,rfl,rfl⟩)) (by simp [hy,D.owny]) (by simp [hy,D.prune,deep,leL,D.le]) (.inr ⟨rfl,by simp [hy,D.prune,D.noRef]⟩) hK
theorem Contract.imm {f:FuncId}{args:List D}{d:D}(h:Contract P G f args d):Contract P G f args d.imm:=by refine ⟨h.1,fun w I us hG hI hV=>(h.2 w I us hG hI hV).mono ?_⟩;rintro e w' ⟨v,F,I',he,hb,hT,hn,hF,hI1,hI2⟩;exact ⟨v,[],fun b=>I' b∨b∈F,he,hb,T.imm (fun b h=>.inl h) d hT (fun b hb=>.inr hb),List.nodup_nil,fun b hb=>(List.not_mem_nil hb).elim,fun b hb=>.inl (hI1 b hb),fun b hb=>hb.elim (hI2 b) (fun h=>⟨.inr (hF b h).1,(hF b h).2.1⟩)⟩
theorem call_leN {f:FuncId}{args:List Operand}{args':List D}{d:D}(hC:Contract P G f args' d)(he:leL (args.map fun x=>deep s 8 (raw s x)) args')(hi:d.noImm=true∨((args.map fun x=>raw s x).all D.noRef)=true)(hK:K d s):evalK (CT P G) s (.call f args) K :=
  .inl ⟨args',d,he,hC,hi,hK⟩
def row3 (x:Value×Value×Value):List D:=[.v x.1,.v x.2.1,.v x.2.2]
theorem loop_st {α:Type}{Ctr:CtrT}{mask:List Bool}{c:VCode}(st:α→List D)(J:α→Prop)(μ:α→Nat)(a:α)(h0:nleL (clr mask s) (st a))(hJ:J a)(h:∀ a,J a→c.wp Ctr (vthen (fun s''=>∃ b,μ b<μ a∧J b∧nleL (clr mask s'') (st b)) Q) (st a)):(VCode.loop mask c).wp Ctr Q s:=by
  refine loop_intro (fun n s=>∃ a,μ a=n∧J a∧s=st a) (μ a) ⟨_,h0,a,rfl,hJ,rfl⟩ ?_;rintro n s' ⟨b,rfl,hb,rfl⟩;have e:(fun s''=>∃ m,m<μ b∧∃ s1,nleL (clr mask s'') s1∧∃ a,μ a=m∧J a∧s1=st a)=(fun s''=>∃ a,μ a<μ b∧J a∧nleL (clr mask s'') (st a)):=by funext s'';exact propext ⟨fun ⟨m,h1,s1,h2,a,h3,h4,h5⟩=>⟨a,by omega,h4,h5▸h2⟩,fun ⟨a,h1,h2,h3⟩=>⟨μ a,h1,_,h3,a,rfl,h2,rfl⟩⟩
  rw [e];exact h b hb
theorem wrN {i:Nat}(h:i+1<9223372036854775808):IntKind.i64.wrap ((i:Int)+1)=((i+1:Nat):Int):=IntWalk.i64_in _ (by omega)
theorem wrI {a:Int}(h1 : -9223372036854775808≤a)(h2:a≤9223372036854775807):IntKind.i64.wrap a=a:=IntWalk.i64_in _ (by omega)
end
def slG:Option D→Option (Nat×List (List D))
  | some (.sl true sz rows)=>some (sz,rows)
  | _=>none
theorem slF_tree {q:Path}{d:D}:slF q (some d)=slG (treeAt d q):=by unfold slF slG;rfl
theorem slG_sl {sz rows}:slG (some (.sl true sz rows))=some (sz,rows):=rfl
def isBoxG:Option D→Bool
  | some (.box _ _)=>true
  | _=>false
theorem isBoxF_tree {q:Path}{d:D}:isBoxF q (some d)=isBoxG (treeAt d q):=by unfold isBoxF isBoxG;rfl
theorem isBoxG_sl {o sz rows}:isBoxG (some (.sl o sz rows))=false:=rfl
theorem isBoxG_box {g cs}:isBoxG (some (.box g cs))=true:=rfl
def rowH (i:Nat):Option (Nat×List (List D))→Option (List D)
  | some (_,rows)=>rows[i]?
  | none=>none
def rowG (i:Nat):Option D→Option (List D)
  | some t=>rowH i t.cont
  | none=>none
theorem rowF_tree {q:Path}{i:Nat}{d:D}:rowF q i (some d)=rowG i (treeAt d q):=by unfold rowF rowG rowH;rfl
theorem rowG_some {i:Nat}{t:D}:rowG i (some t)=rowH i t.cont:=rfl
theorem rowH_some {i:Nat}{n rows}:rowH i (some (n,rows))=rows[i]?:=rfl
theorem pair_beq {a b c d:Nat}:((a,b)==(c,d))=(a==c&&b==d):=rfl
attribute [go_sem] pair_beq slF_tree slG_sl isBoxF_tree isBoxG_sl isBoxG_box rowF_tree rowG_some rowH_some
end Go.V
namespace Go.V
open Go.RowKit
set_option autoImplicit false
def ovr (s:List D):List (Nat×D)→List D
  | []=>s
  | p::r=>ovr (s.set p.1 p.2) r
theorem ovr_nil {s:List D}:ovr s []=s:=rfl
theorem ovr_cons {s:List D}{i:Nat}{d:D}{r:List (Nat×D)}:ovr s ((i,d)::r)=ovr (s.set i d) r:=rfl
theorem loop_ov {α:Type}{Ctr:CtrT}{mask:List Bool}{c:VCode}{Q:VExit→List D→Prop}{s s0:List D}{st:α→List D}(hs:clr mask s=s0)(ov:α→List (Nat×D))(hst:∀ a,ovr s0 (ov a)=st a)(J:α→Prop)(μ:α→Nat)(a:α)(h0:nleL s0 (st a))(hJ:J a)
    (h:∀ a,J a→c.wp Ctr (vthen (fun s''=>∃ b,μ b<μ a∧J b∧nleL (clr mask s'') (st b)) Q) (st a)):(VCode.loop mask c).wp Ctr Q s :=
  loop_st st J μ a (hs▸h0) hJ h
theorem nleL_cc {a b:D}{xs ys:List D}:nleL (a::xs) (b::ys)=(nle a b∧nleL xs ys) :=
  propext ⟨fun h=>by simp only [nleL] at h;obtain ⟨e,es,h1,h2,h3⟩:=h;simp only [List.cons.injEq] at h1;obtain ⟨rfl,rfl⟩:=h1;exact ⟨h2,h3⟩,fun h=>nleL_cons h.1 h.2⟩
theorem nleL_nn:nleL [] []=True:=eq_true nleL_nil
theorem nle_self {d:D}:nle d d=True:=eq_true (nle_rfl d)
theorem nle_boxs {t:Option Nat}{cs es:List D}:nle (.box t cs) (.box t es)=nleL cs es :=
  propext ⟨fun h=>by simp only [nle] at h;obtain ⟨e,h1,h2⟩:=h;simp only [D.box.injEq,true_and] at h1;exact h1▸h2,nle_box⟩
theorem nle_aggs {cs es:List D}:nle (.agg cs) (.agg es)=nleL cs es :=
  propext ⟨fun h=>by simp only [nle] at h;obtain ⟨e,h1,h2⟩:=h;simp only [D.agg.injEq] at h1;exact h1▸h2,nle_agg⟩
theorem nle_nils {sz:Nat}:nle .nils (.sl true sz [])=True:=eq_true nle_nil
section
variable {P:Program} {G:World→(Nat→Prop)→Prop} {s:List D} {K:D→List D→Prop}
theorem call_leA {f:FuncId}{args:List Operand}{A args':List D}{d:D}(hC:Contract P G f args' d)(hA:(args.map fun x=>deep s 8 (raw s x))=A)(he:leL A args')(hi:d.noImm=true∨((args.map fun x=>raw s x).all D.noRef)=true)(hK:K d s):evalK (CT P G) s (.callX f args) K :=
  call_le hC (hA▸he) hi hK
theorem call_leNA {f:FuncId}{args:List Operand}{A args':List D}{d:D}(hC:Contract P G f args' d)(hA:(args.map fun x=>deep s 8 (raw s x))=A)(he:leL A args')(hi:d.noImm=true∨((args.map fun x=>raw s x).all D.noRef)=true)(hK:K d s):evalK (CT P G) s (.call f args) K :=
  call_leN hC (hA▸he) hi hK
end
section
variable {Ctr:CtrT} {m:List Bool} {next:List D→Prop} {Q:VExit→List D→Prop} {s:List D}
theorem round_n:roundQ m next Q .normal s=∃ s1,nleL (clr m s) s1∧next s1:=rfl
theorem round_r:roundQ m next Q .ret s=Q .ret (clr m s):=rfl
theorem round_e {i}:roundQ m next Q (.exit i) s=Q (.exit i) (clr m s):=rfl
theorem putMany_nil {ds:List D}:putMany s [] ds=s:=by cases ds<;>rfl
theorem putMany_cons {p ps d ds}:putMany s (p::ps) (d::ds)=putMany (putD s p d) ps ds:=rfl
theorem range_st {g:Operand}{ps:List Nat}{va vb:VCode}{F:FuncId}{caps:List D}(hg:lk s g=.fn F [] caps){N:Nat}(xs:Nat→List D)(hi:Ctr.i F (pruneL (fun _=>false) caps) ((List.range N).map xs))(hl:∀ i,i<N→(xs i).length=ps.length)(st:Nat→List D)(h0:nleL (clr m s) (st 0))
    (hr:∀ i,i<N→va.wp Ctr (vthen (vb.wp Ctr (roundQ m (fun s1=>s1=st (i+1)) Q)) (fun _ _=>False)) (putMany (st i) ps (xs i))) (hd:Q .normal (st N)):(VCode.rangeF g ps m va vb).wp Ctr Q s:=by
  simp only [VCode.wp,hg];refine .inl ⟨(List.range N).map xs,hi,fun x hx=>?_,fun i s'=>s'=st i,⟨_,h0,rfl⟩,fun i s' x hs hx=>?_,fun s' hs=>?_⟩
  · obtain ⟨i,hi,rfl⟩:=List.mem_map.1 hx;exact hl i (by simpa using hi)
  · subst hs;have hlt:i<N:=by have:=(List.getElem?_eq_some_iff.1 hx).1;simpa using this
    have:x=xs i:=(by rw [List.getElem?_map,List.getElem?_range hlt] at hx;simpa using hx.symm);rw [this];exact hr i hlt
  · subst hs;simpa using hd
theorem range_ov {P:Program}{G:World→(Nat→Prop)→Prop}{g:Operand}{ps:List Nat}{va vb:VCode}{F:FuncId}{caps caps':List D}(hg:lk s g=.fn F [] caps)(hc:pruneL (fun _=>false) caps=caps'){N:Nat}(xs:Nat→List D)(hi:IterC P G F caps' ((List.range N).map xs))(hl:∀ i,i<N→(xs i).length=ps.length){s0:List D}(hs:clr m s=s0)(ov:Nat→List (Nat×D)){st:Nat→List D}(hst:∀ i,ovr s0 (ov i)=st i)(h0:nleL s0 (st 0))
    (hr:∀ i,i<N→va.wp (CT P G) (vthen (vb.wp (CT P G) (roundQ m (fun s1=>s1=st (i+1)) Q)) (fun _ _=>False)) (putMany (st i) ps (xs i))) (hd:Q .normal (st N)):(VCode.rangeF g ps m va vb).wp (CT P G) Q s :=
  range_st (Ctr:=CT P G) hg xs (hc▸hi) hl st (hs▸h0) hr hd
end
attribute [go_sem] round_n round_r round_e putMany_nil putMany_cons
end Go.V
