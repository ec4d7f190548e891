/- Laws that the proof stands on. -/
import Derived.Test.YtjkbngjiagknkaaGreatDoorZg13
import Derived.Test.YtjkbngjiagknkaaGreatDoorZg11
import Derived.Test.YtjkbngjiagknkaaGreatDoorZg8
import Derived.Test.YtjkbngjiagknkaaGreatDoorZg12
import Derived.Test.YtjkbngjiagknkaaGreatDoorZVTab
set_option linter.all false
namespace Go.Proofs.YtjkbngjiagknkaaGreatDoor
open Go.RowKit Go.V
set_option maxRecDepth 100000
def mvOk (m:Machine) (v:Move):Bool:=inR 0 (m.States - 1) v.State&&(inR 0 (m.States - 1) v.Next&&(inR 0 (m.Symbols - 1) v.Read&&(inR 0 (m.Symbols - 1) v.Write&&(decide (v.Dir=1)||decide (v.Dir=3)))))
def keyM (v:Move):Int × Int:=(v.State,v.Read)
def isKey (s r:Int) (v:Move):Bool:=decide (v.State=s)&&decide (v.Read=r)
def findM (ms:List Move) (s r:Int):Int:=vIdx (isKey s r) ms
def ndM (ms:List Move):Bool:=decide ((ms.map keyM).Nodup)
def okMach (m:Machine):Bool:=inR 1 5 m.States&&(inR 1 4 m.Symbols&&(decide (m.Moves.length≤20)&&(m.Moves.all (mvOk m)&&ndM m.Moves)))
theorem isKey_iff {s r:Int} {v:Move}:isKey s r v=true↔keyM v=(s,r):=by simp [isKey,keyM]
theorem isKey_self (v:Move):isKey v.State v.Read v=true:=by simp [isKey]
theorem find_cases (ms:List Move) (s r:Int):(findM ms s r = -1∧∀ v,v∈ms→isKey s r v=false)∨∃ k,∃ hk:k < ms.length,findM ms s r=(k:Int)∧isKey s r ms[k]=true∧∀ j (hj:j < k),isKey s r (ms[j]'(by omega))=false:=by
  unfold findM vIdx;cases h:ms.findIdx? (isKey s r) with
  | none=>exact .inl ⟨rfl,by simpa [List.findIdx?_eq_none_iff] using h⟩
  | some k=>obtain ⟨hk,h1,h2⟩:=List.findIdx?_eq_some_iff_getElem.1 h;exact .inr ⟨k,hk,rfl,h1,fun j hj=>by simpa using h2 j hj⟩
theorem nd_find {ms:List Move}:(ms.map keyM).Nodup↔∀ i (hi:i < ms.length),findM ms ms[i].State ms[i].Read=(i:Int):=by
  have hp:(ms.map keyM).Nodup↔∀ i j (hi:i < ms.length) (hj:j < ms.length),i < j→keyM ms[i]≠keyM ms[j]:=by
    unfold List.Nodup;rw [List.pairwise_iff_getElem];constructor
    · intro h i j hi hj hij;have:=h i j (by simpa using hi) (by simpa using hj) hij;simpa using this
    · intro h i j hi hj hij;have:=h i j (by simpa using hi) (by simpa using hj) hij;simpa using this
  rw [hp];constructor
  · intro h i hi;rcases find_cases ms ms[i].State ms[i].Read with ⟨_,h2⟩ | ⟨k,hk,h1,h2,h3⟩
    · have:=h2 _ (List.getElem_mem hi);rw [isKey_self] at this;cases this
    · rw [h1];rcases Nat.lt_trichotomy k i with hlt | heq | hgt
      · exact absurd (isKey_iff.1 h2) (h k i hk hi hlt)
      · rw [heq]
      · have:=h3 i hgt;rw [isKey_self] at this;cases this
  · intro h i j hi hj hij he;have h1:=h j hj;rcases find_cases ms ms[j].State ms[j].Read with ⟨h2,_⟩ | ⟨k,hk,h2,_,h3⟩
    · omega
    · have:k=j:=(by omega);subst this;have:=h3 i hij;rw [isKey_iff.2 he] at this;cases this
/-! The table. -/
def keyVal (v:Move):Value:=.agg #[.int .i64 v.State,.int .i64 v.Read]
def mvVal (v:Move):Value:=.agg #[.int .i64 v.State,.int .i64 v.Read,.int .i64 v.Write,.int .i64 v.Dir,.int .i64 v.Next]
def entM (v:Move):Value × Value:=(keyVal v,mvVal v)
def tabM (ms:List Move):List (Value × Value):=ms.foldl (fun e v=>mset e (keyVal v) (mvVal v)) []
theorem tabM_next {ms:List Move} {i:Nat} (h:i < ms.length):mset (tabM (ms.take i)) (keyVal ms[i]) (mvVal ms[i])=tabM (ms.take (i+1)):=by unfold tabM;rw [List.take_succ_eq_append_getElem h,List.foldl_append];rfl
theorem keq_M (s r:Int) (v:Move):keq (.agg #[.int .i64 s,.int .i64 r]) (keyVal v)=isKey s r v:=by unfold keyVal isKey;simp only [keq,keqL,keqC,Bool.and_true];by_cases h1:v.State=s <;> by_cases h2:v.Read=r <;> simp [h1,h2] <;> first | exact fun h=>absurd h.symm h1 | exact fun h=>absurd h.symm h2
theorem idx_M (s r:Int) (ms:List Move):(ms.map entM).findIdx? (fun x=>keq (.agg #[.int .i64 s,.int .i64 r]) x.1)=ms.findIdx? (isKey s r):=by rw [List.findIdx?_map];congr 1;funext v;exact keq_M s r v
theorem mset_new {ms:List Move} {v:Move} (h:keyM v∉ms.map keyM):mset (ms.map entM) (keyVal v) (mvVal v)=(ms++[v]).map entM:=by
  unfold mset;have:(ms.map entM).findIdx? (fun x=>keq (keyVal v) x.1)=none:=by
    have:=idx_M v.State v.Read ms;unfold keyVal;rw [this,List.findIdx?_eq_none_iff];intro x hx;cases hk:isKey v.State v.Read x with
    | false=>rfl
    | true=>exact absurd (List.mem_map.2 ⟨x,hx,isKey_iff.1 hk⟩) h
  rw [this,List.map_append];rfl
theorem mset_len {e:List (Value × Value)} {k v:Value}:(mset e k v).length≤e.length+1:=by unfold mset;split <;> simp
theorem mset_old {ms:List Move} {v:Move} (h:keyM v∈ms.map keyM):(mset (ms.map entM) (keyVal v) (mvVal v)).length=ms.length:=by
  unfold mset;have:=idx_M v.State v.Read ms;unfold keyVal;rw [this];cases hi:ms.findIdx? (isKey v.State v.Read) with
  | none=>obtain ⟨x,hx,hxk⟩:=List.mem_map.1 h;have:=(List.findIdx?_eq_none_iff.1 hi) x hx;rw [isKey_iff.2 hxk] at this;cases this
  | some i=>simp
theorem fold_len:∀ (ys:List Move) (e:List (Value × Value)),(ys.foldl (fun e v=>mset e (keyVal v) (mvVal v)) e).length≤e.length+ys.length
  | [],e=>by simp
  | y::ys,e=>by have h1:=fold_len ys (mset e (keyVal y) (mvVal y));have h2:=mset_len (e:=e) (k:=keyVal y) (v:=mvVal y);rw [List.foldl_cons,List.length_cons];omega
theorem fold_tab:∀ (ys pre:List Move),(pre.map keyM).Nodup→(((pre++ys).map keyM).Nodup→ys.foldl (fun e v=>mset e (keyVal v) (mvVal v)) (pre.map entM)=(pre++ys).map entM) ∧
    (¬ ((pre++ys).map keyM).Nodup→(ys.foldl (fun e v=>mset e (keyVal v) (mvVal v)) (pre.map entM)).length < pre.length+ys.length)
  | [],pre,h=>by simp [h]
  | y::ys,pre,h=>by
    by_cases hy:keyM y∈pre.map keyM
    · have hno:¬ ((pre++y::ys).map keyM).Nodup:=(by rw [List.map_append,List.map_cons,List.nodup_append];intro ⟨_,_,h3⟩;exact h3 _ hy (keyM y) (by simp) rfl);refine ⟨fun hn=>absurd hn hno,fun _=>?_⟩;have h1:=fold_len ys (mset (pre.map entM) (keyVal y) (mvVal y));rw [mset_old hy] at h1;rw [List.foldl_cons,List.length_cons];omega
    · have hn':((pre++[y]).map keyM).Nodup:=(by rw [List.map_append,List.nodup_append];refine ⟨h,by simp,fun a ha b hb e=>?_⟩;simp at hb;subst hb;subst e;exact hy ha);obtain ⟨h1,h2⟩:=fold_tab ys (pre++[y]) hn';rw [List.append_assoc,List.singleton_append] at h1 h2;rw [List.foldl_cons,mset_new hy];refine ⟨h1,fun hn=>?_⟩;have:=h2 hn;rw [List.length_append] at this;simp only [List.length_cons,List.length_nil] at this ⊢;omega
theorem tab_nd {ms:List Move} (h:(ms.map keyM).Nodup):tabM ms=ms.map entM:=(fold_tab ms [] List.nodup_nil).1 (by simpa using h)
theorem tab_len (ms:List Move):decide (((tabM ms).length:Int)=(ms.length:Int))=ndM ms:=by
  unfold ndM;by_cases h:(ms.map keyM).Nodup
  · rw [tab_nd h,List.length_map,decide_eq_true h,decide_eq_true rfl]
  · have:=(fold_tab ms [] List.nodup_nil).2 (by simpa using h);simp only [List.map_nil,List.length_nil,Nat.zero_add] at this;rw [decide_eq_false h,decide_eq_false_iff_not];unfold tabM;omega
/-! Tapes and steps. -/
def readC (c:Config):Int:=c.Tape.getD c.Head.toNat 0
def endM (m:Machine) (c:Config):Int:=match m.Moves[(findM m.Moves c.State (readC c)).toNat]? with
  | some v=>if findM m.Moves c.State (readC c) < 0 then 1 else if v.Dir=3∧c.Head=0 then 2 else if v.Dir=1∧c.Head=(c.Tape.length:Int) - 1 then 3 else 0
  | none=>1
def stepM (m:Machine) (c:Config):Config:=match m.Moves[(findM m.Moves c.State (readC c)).toNat]? with
  | some v=>⟨c.Tape.set c.Head.toNat v.Write,if v.Dir=1 then c.Head+1 else c.Head - 1,v.Next⟩
  | none=>⟨[],0,0⟩
inductive StepWay (m:Machine) (c:Config):Prop where
  | stop (h:findM m.Moves c.State (readC c) = -1) (he:endM m c=1)
  | west (k:Nat) (hk:k < m.Moves.length) (h:findM m.Moves c.State (readC c)=(k:Int)) (hd:m.Moves[k].Dir=3) (h0:c.Head=0) (he:endM m c=2)
  | east (k:Nat) (hk:k < m.Moves.length) (h:findM m.Moves c.State (readC c)=(k:Int)) (hd:m.Moves[k].Dir=1) (h0:c.Head=(c.Tape.length:Int) - 1) (he:endM m c=3)
  | right (k:Nat) (hk:k < m.Moves.length) (h:findM m.Moves c.State (readC c)=(k:Int)) (hd:m.Moves[k].Dir=1) (h0:c.Head≠(c.Tape.length:Int) - 1) (he:endM m c=0) (hs:stepM m c=⟨c.Tape.set c.Head.toNat m.Moves[k].Write,c.Head+1,m.Moves[k].Next⟩)
  | left (k:Nat) (hk:k < m.Moves.length) (h:findM m.Moves c.State (readC c)=(k:Int)) (hd:m.Moves[k].Dir=3) (h0:c.Head≠0) (he:endM m c=0) (hs:stepM m c=⟨c.Tape.set c.Head.toNat m.Moves[k].Write,c.Head - 1,m.Moves[k].Next⟩)
theorem Move.mkE_ok (x:Move) (k:Int) (h0:0≤k) (hk:k+(Move.cnE x:Nat)≤4611686018427387904):Move.td.ok (Move.mkE x k):=by have hc:Move.cnE x=1+1+1+1+1:=rfl;rw [Move.td_ok];exact ⟨(show InK .i64 (k) from ⟨by omega,by omega⟩),(show InK .i64 ((k+1)) from ⟨by omega,by omega⟩),(show InK .i64 (((k+1)+1)) from ⟨by omega,by omega⟩),(show InK .i64 ((((k+1)+1)+1)) from ⟨by omega,by omega⟩),(show InK .i64 (((((k+1)+1)+1)+1)) from ⟨by omega,by omega⟩)⟩
theorem Machine.mkE_ok (x:Machine) (k:Int) (h0:0≤k) (hk:k+(Machine.cnE x:Nat)≤4611686018427387904):Machine.td.ok (Machine.mkE x k):=by have hc:Machine.cnE x=1+1+cnS Move.cnE x.Moves:=rfl;rw [Machine.td_ok];exact ⟨(show InK .i64 (k) from ⟨by omega,by omega⟩),(show InK .i64 ((k+1)) from ⟨by omega,by omega⟩),(mkL_ok (ok:=Move.td.ok) Move.mkE_ok _ ((k+1)+1) (by omega) (by omega))⟩
theorem v_eqMachine (q:Machine) (hk:Machine.td.ok q):Contract Tryz.prog TabG 8 [.agg (Machine.td.d false q),.agg (Machine.td.d false q)] (.v (.bool true)):=by refine contract_plain (fun us W=>by kernel_rfl) fun w I us hI hV=>?_;obtain ⟨u0,us,rfl,hT0,hV⟩:=vals_one hV;obtain ⟨u1,us,rfl,hT1,hV⟩:=vals_one hV;obtain rfl:=vals_none hV;obtain ⟨cs,rfl,hr⟩:=TD.agg_dn Machine.td hk hI rfl hT0;obtain ⟨ds,rfl,hs⟩:=TD.agg_dn Machine.td hk hI rfl hT1;obtain ⟨v0,rfl,z0,z1,z2⟩:=Machine.cells hr;obtain ⟨x0,rfl,y0,y1,y2⟩:=Machine.cells hs;exact eqMachine_any v0 x0 q w w.heap.size (Nat.le_refl _) z2 y2
theorem Machine.mkT_ok (x:Machine) (hx:Machine.td.ok x) (k:Int) (h0:0≤k) (hk:k+(Machine.cnT x:Nat)≤4611686018427387904):Machine.td.ok (Machine.mkT x k):=by have hc:Machine.cnT x=cnS Move.cnE x.Moves:=rfl;rw [Machine.td_ok] at hx;rw [Machine.td_ok];exact ⟨hx.1,hx.2.1,(mkL_ok (ok:=Move.td.ok) Move.mkE_ok _ k (by omega) (by omega))⟩
theorem v_markMachine (q:Machine) (hk:Machine.td.ok q) (k:Int) (h0:0≤k) (h1:k+(Machine.cnT q:Nat)≤4611686018427387904):ContractL Tryz.prog TabG 9 0 [.undef,.v (.int .i64 k)] (.agg (Machine.td.d true q)) (.v (.int .i64 (k+(Machine.cnT q:Nat)))) (.agg (Machine.td.d false (Machine.mkT q k))):=by refine mark_agg Machine.td (fun us W=>by kernel_rfl) hk fun w cs X ho hn hX=>?_;have hr:=Ty.own_lt _ ho;obtain ⟨v0,rfl,z0,z1,z2⟩:=Machine.cells hr;exact markMachine_any v0 q k X w ho hn hX h0 h1
theorem v_heldMachine (q:Machine) (hk:Machine.td.ok q) (k:Int) (h0:0≤k) (h1:k+(Machine.cnT q:Nat)≤4611686018427387904):Contract Tryz.prog TabG 10 [.agg (Machine.td.d false (Machine.mkT q k)),.v (.int .i64 k)] (.v (.int .i64 (k+(Machine.cnT q:Nat)))):=by refine contract_plain (fun us W=>by kernel_rfl) fun w I us hI hV=>?_;obtain ⟨u0,us,rfl,hT0,hV⟩:=vals_one hV;obtain ⟨u1,us,rfl,hT1,hV⟩:=vals_one hV;obtain rfl:=vals_none hV;obtain rfl:=T_v hT1;obtain ⟨cs,rfl,hr⟩:=TD.agg_dn Machine.td (Machine.mkT_ok q hk k h0 h1) hI rfl hT0;have hr0:=hr;obtain ⟨v0,rfl,z0,z1,z2⟩:=Machine.cells hr;exact heldMachine_any v0 q k w w.heap.size (Nat.le_refl _) hr0 h0 h1
end Go.Proofs.YtjkbngjiagknkaaGreatDoor
