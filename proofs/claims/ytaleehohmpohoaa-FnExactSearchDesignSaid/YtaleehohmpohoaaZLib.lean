/- Laws that the proof stands on. -/
import Derived.WalkKit
import Derived.ProofKit
import Derived.WalkSpells
import Derived.WalkLawsBesides
import Derived.Handy
import Derived.Lib.Hide
import Derived.Deep.QuietTactic
import Derived.BigQuiet
import Derived.Deep.OwnRows
import Derived.Deep.Slices
import Derived.Deep.DeepCutAuto
import Derived.Deep.LoopGhost
import Derived.Deep.DeepFit
import Derived.Laws.ResultCell
import Derived.Deep.MidRow
import Derived.Deep.RegionHeld3
set_option linter.all false
namespace Go.Proofs.Ytaleehohmpohoaa
open Go.RowKit Go.ChangeShapes Go.WideShapes Go.Deep
def InK:IntKind→Int→Prop
  | .i64,n => -9223372036854775808≤n∧n≤9223372036854775807
  | .u8,n=>0≤n∧n≤255
  | .i32,n => -2147483648≤n∧n≤2147483647
  | .u64,n=>0≤n∧n≤18446744073709551615
  | .u32,n=>0≤n∧n≤4294967295
  | .u16,n=>0≤n∧n≤65535
  | .i16,n => -32768≤n∧n≤32767
  | .i8,n => -128≤n∧n≤127
theorem InK.of_wf {k:IntKind}{n:Int}(h:(Lit.int k n).wf=true):InK k n:=by cases k<;>simp [Lit.wf,IntKind.min,IntKind.max,IntKind.signed,IntKind.bits] at h<;>(unfold InK;omega)
/-! ### Rows: the cells of a list of elements, one behind the other -/
def RowsR {α:Type}(R:List Value→α→Prop):List Value→List α→Prop
  | raw,[]=>raw=[]
  | raw,x::xs=>∃ cs raw',raw=cs++raw'∧R cs x∧RowsR R raw' xs
def RowsO {α:Type}(R:List Value→α→List Nat→Prop):List Value→List α→List Nat→Prop
  | raw,[],F=>raw=[]∧F=[]
  | raw,x::xs,F=>∃ cs raw' F1 F2,raw=cs++raw'∧F=F1++F2∧R cs x F1∧RowsO R raw' xs F2
theorem RowsR.mono {α:Type}{R R':List Value→α→Prop}(h:∀ cs x,R cs x→R' cs x):∀ {raw:List Value} {xs:List α},RowsR R raw xs→RowsR R' raw xs
  | _,[],hr=>hr
  | _,_::_,⟨cs,raw',e,hx,hr⟩=>⟨cs,raw',e,h _ _ hx,RowsR.mono h hr⟩
theorem RowsR.snoc {α:Type}{R:List Value→α→Prop}{cs:List Value}{x:α}(hx:R cs x):∀ {raw:List Value} {xs:List α},RowsR R raw xs→RowsR R (raw++cs) (xs++[x])
  | raw,[],hr=>by have e:raw=[]:=hr;subst e;exact ⟨cs,[],by simp,hx,rfl⟩
  | _,_::_,⟨c1,raw',e,h1,hr⟩=>⟨c1,raw'++cs,by rw [e,List.append_assoc],h1,RowsR.snoc hx hr⟩
theorem RowsR.len {α:Type}{R:List Value→α→Prop}{size:Nat}(h:∀ cs x,R cs x→cs.length=size):∀ {raw:List Value} {xs:List α},RowsR R raw xs→raw.length=xs.length*size
  | raw,[],hr=>by have e:raw=[]:=hr;simp [e]
  | _,x::xs,⟨cs,raw',e,hx,hr⟩=>by rw [e,List.length_append,h _ _ hx,RowsR.len h hr,List.length_cons,Nat.add_mul,Nat.one_mul,Nat.add_comm]
theorem RowsR.get {α:Type}{R:List Value→α→Prop}{size:Nat}(h:∀ cs x,R cs x→cs.length=size):∀ {raw:List Value} {xs:List α},RowsR R raw xs→∀ k (hk:k<xs.length),
    ∃ cs,R cs xs[k]∧∀ j u,cs[j]?=some u→raw[k*size+j]?=some u
  | _,[],_,k,hk=>absurd hk (by simp)
  | _,x::xs,⟨cs,raw',e,hx,hr⟩,0,_=>by refine ⟨cs,hx,fun j u hu=>?_⟩;rw [e,Nat.zero_mul,Nat.zero_add,List.getElem?_append_left (List.getElem?_eq_some_iff.1 hu).1];exact hu
  | _,x::xs,⟨cs,raw',e,hx,hr⟩,k+1,hk=>by obtain ⟨c,hc,hj⟩:=RowsR.get h hr k (by simpa using hk);refine ⟨c,by simpa using hc,fun j u hu=>?_⟩;have hl:=h _ _ hx;rw [e,List.getElem?_append_right (by rw [hl,Nat.add_mul];omega),hl,Nat.add_mul,Nat.one_mul];rw [show k*size+size+j-size=k*size+j by omega];exact hj j u hu
theorem RowsO.toR {α:Type}{R:List Value→α→List Nat→Prop}{R':List Value→α→Prop}{P:Nat→Prop}(h:∀ cs x F,R cs x F→(∀ b,b∈F→P b)→R' cs x) :
    ∀ {raw:List Value} {xs:List α} {F:List Nat},RowsO R raw xs F→(∀ b,b∈F→P b)→RowsR R' raw xs
  | _,[],_,⟨hr,_⟩,_=>hr
  | _,_::_,_,⟨cs,raw',F1,F2,e,eF,hx,hr⟩,hP =>
    ⟨cs,raw',e,h _ _ _ hx (fun b hb=>hP b (by rw [eF];exact List.mem_append_left _ hb)),RowsO.toR h hr (fun b hb=>hP b (by rw [eF];exact List.mem_append_right _ hb))⟩
theorem RowsO.mono {α:Type}{R R':List Value→α→List Nat→Prop}{P:Nat→Prop}(h:∀ cs x F,R cs x F→(∀ b,b∈F→P b)→R' cs x F) :
    ∀ {raw:List Value} {xs:List α} {F:List Nat},RowsO R raw xs F→(∀ b,b∈F→P b)→RowsO R' raw xs F
  | _,[],_,hr,_=>hr
  | _,_::_,_,⟨cs,raw',F1,F2,e,eF,hx,hr⟩,hP =>
    ⟨cs,raw',F1,F2,e,eF,h _ _ _ hx (fun b hb=>hP b (by rw [eF];exact List.mem_append_left _ hb)),RowsO.mono h hr (fun b hb=>hP b (by rw [eF];exact List.mem_append_right _ hb))⟩
theorem RowsO.snoc {α:Type}{R:List Value→α→List Nat→Prop}{cs:List Value}{x:α}{G:List Nat}(hx:R cs x G) :
    ∀ {raw:List Value} {xs:List α} {F:List Nat},RowsO R raw xs F→RowsO R (raw++cs) (xs++[x]) (F++G)
  | raw,[],F,⟨hr,hF⟩=>by subst hr;subst hF;exact ⟨cs,[],G,[],by simp,by simp,hx,rfl,rfl⟩
  | _,_::_,_,⟨c1,raw',F1,F2,e,eF,h1,hr⟩=>⟨c1,raw'++cs,F1,F2++G,by rw [e,List.append_assoc],by rw [eF,List.append_assoc],h1,RowsO.snoc hx hr⟩
theorem RowsO.len {α:Type}{R:List Value→α→List Nat→Prop}{size:Nat}(h:∀ cs x F,R cs x F→cs.length=size){raw:List Value}{xs:List α}{F:List Nat}(hr:RowsO R raw xs F):raw.length=xs.length*size :=
  RowsR.len (R:=fun cs x=>∃ F,R cs x F) (fun cs x ⟨F,hF⟩=>h cs x F hF) (RowsO.toR (P:=fun _=>True) (fun _ _ F hF _=>⟨F,hF⟩) hr (fun _ _=>trivial))
/-! ### Types of data, how they lie in memory -/
structure Ty (α:Type) where
  size:Nat
  rep:World→Nat→List Value→α→Prop
  own:World→List Value→α→List Nat→Prop
  rep_len:∀ {w B cs x},rep w B cs x→cs.length=size
  own_len:∀ {w cs x F},own w cs x F→cs.length=size
  rep_keep:∀ {w w' B cs x},(∀ b,b<B→w'.heap[b]?=w.heap[b]?)→rep w B cs x→rep w' B cs x
  rep_mono:∀ {w B B' cs x},B≤B'→rep w B cs x→rep w B' cs x
  own_keep:∀ {w w' cs x F},(∀ b,b∈F→w'.heap[b]?=w.heap[b]?)→own w cs x F→own w' cs x F
  own_rep:∀ {w cs x F B},own w cs x F→(∀ b,b∈F→b<B)→rep w B cs x
  rep_one:∀ {w B cs x},rep w B cs x→∀ u,u∈cs→u.oneCell'=true
namespace Ty
variable {α β:Type}
theorem own_lt (t:Ty α) {w:World} {cs:List Value} {x:α} {F:List Nat} (h:t.own w cs x F):t.rep w (F.foldr (fun b m=>max (b+1) m) 0) cs x :=
  t.own_rep h (fun b hb=>by
    induction F with
    | nil=>cases hb
    | cons c F ih =>
      simp only [List.foldr_cons];have key:∀ (F:List Nat) (b:Nat),b∈F→b<F.foldr (fun b m=>max (b+1) m) 0:=by
        intro F;induction F with
        | nil=>intro b hb;cases hb
        | cons c F ih=>intro b hb;simp only [List.foldr_cons];rcases List.mem_cons.1 hb with rfl | hb;omega;have:=ih b hb;omega
      have:=key (c::F) b hb;simpa using this)
def int (k:IntKind):Ty Int where
  size:=1
  rep:=fun _ _ cs x=>cs=[.int k x]∧InK k x
  own:=fun _ cs x F=>cs=[.int k x]∧InK k x∧F=[]
  rep_len:=fun h=>by rw [h.1];rfl
  own_len:=fun h=>by rw [h.1];rfl
  rep_keep:=fun _ h=>h
  rep_mono:=fun _ h=>h
  own_keep:=fun _ h=>h
  own_rep:=fun h _=>⟨h.1,h.2.1⟩
  rep_one:=fun h u hu=>by rw [h.1] at hu;simp at hu;subst hu;rfl
def bool:Ty Bool where
  size:=1
  rep:=fun _ _ cs x=>cs=[.bool x]
  own:=fun _ cs x F=>cs=[.bool x]∧F=[]
  rep_len:=fun h=>by rw [h];rfl
  own_len:=fun h=>by rw [h.1];rfl
  rep_keep:=fun _ h=>h
  rep_mono:=fun _ h=>h
  own_keep:=fun _ h=>h
  own_rep:=fun h _=>h.1
  rep_one:=fun h u hu=>by rw [h] at hu;simp at hu;subst hu;rfl
def str:Ty ByteArray where
  size:=1
  rep:=fun _ _ cs x=>cs=[.string x]∧x.size≤maxLen
  own:=fun _ cs x F=>cs=[.string x]∧x.size≤maxLen∧F=[]
  rep_len:=fun h=>by rw [h.1];rfl
  own_len:=fun h=>by rw [h.1];rfl
  rep_keep:=fun _ h=>h
  rep_mono:=fun _ h=>h
  own_keep:=fun _ h=>h
  own_rep:=fun h _=>⟨h.1,h.2.1⟩
  rep_one:=fun h u hu=>by rw [h.1] at hu;simp at hu;subst hu;rfl
def unit:Ty Unit where
  size:=0
  rep:=fun _ _ cs _=>cs=[]
  own:=fun _ cs _ F=>cs=[]∧F=[]
  rep_len:=fun h=>by rw [h];rfl
  own_len:=fun h=>by rw [h.1];rfl
  rep_keep:=fun _ h=>h
  rep_mono:=fun _ h=>h
  own_keep:=fun _ h=>h
  own_rep:=fun h _=>h.1
  rep_one:=fun h u hu=>by rw [h] at hu;cases hu
def prod (t:Ty α) (s:Ty β):Ty (α×β) where
  size:=t.size+s.size
  rep:=fun w B cs x=>∃ c1 c2,cs=c1++c2∧t.rep w B c1 x.1∧s.rep w B c2 x.2
  own:=fun w cs x F=>∃ c1 c2 F1 F2,cs=c1++c2∧F=F1++F2∧t.own w c1 x.1 F1∧s.own w c2 x.2 F2
  rep_len:=fun ⟨_,_,e,h1,h2⟩=>by rw [e,List.length_append,t.rep_len h1,s.rep_len h2]
  own_len:=fun ⟨_,_,_,_,e,_,h1,h2⟩=>by rw [e,List.length_append,t.own_len h1,s.own_len h2]
  rep_keep:=fun hk ⟨c1,c2,e,h1,h2⟩=>⟨c1,c2,e,t.rep_keep hk h1,s.rep_keep hk h2⟩
  rep_mono:=fun hB ⟨c1,c2,e,h1,h2⟩=>⟨c1,c2,e,t.rep_mono hB h1,s.rep_mono hB h2⟩
  own_keep:=fun hk ⟨c1,c2,F1,F2,e,eF,h1,h2⟩=>⟨c1,c2,F1,F2,e,eF,t.own_keep (fun b hb=>hk b (by rw [eF];exact List.mem_append_left _ hb)) h1,s.own_keep (fun b hb=>hk b (by rw [eF];exact List.mem_append_right _ hb)) h2⟩
  own_rep:=fun ⟨c1,c2,F1,F2,e,eF,h1,h2⟩ hB=>⟨c1,c2,e,t.own_rep h1 (fun b hb=>hB b (by rw [eF];exact List.mem_append_left _ hb)),s.own_rep h2 (fun b hb=>hB b (by rw [eF];exact List.mem_append_right _ hb))⟩
  rep_one:=fun ⟨_,_,e,h1,h2⟩ u hu=>by
    rw [e] at hu;rcases List.mem_append.1 hu with h | h
    · exact t.rep_one h1 u h
    · exact s.rep_one h2 u h
def via (t:Ty β)(f:α→β):Ty α where
  size:=t.size
  rep:=fun w B cs x=>t.rep w B cs (f x)
  own:=fun w cs x F=>t.own w cs (f x) F
  rep_len:=t.rep_len
  own_len:=t.own_len
  rep_keep:=t.rep_keep
  rep_mono:=t.rep_mono
  own_keep:=t.own_keep
  own_rep:=t.own_rep
  rep_one:=t.rep_one
def slice (e:TypeId) (t:Ty α):Ty (List α) where
  size:=1
  rep:=fun w B cs xs=>∃ a c,cs=[.slice a xs.length c]∧xs.length≤c∧c≤maxLen ∧
    (0<xs.length→∃ b o raw,a=some ⟨b,o,none⟩∧b<B∧(∀ j u,raw[j]?=some u→w.cell? ⟨b,o+j,none⟩=some u)∧RowsR (t.rep w B) raw xs)
  own:=fun w cs xs F=>∃ a c,cs=[.slice a xs.length c]∧xs.length≤c∧c≤maxLen ∧
    ((xs=[]∧F=[])∨∃ b o cells ew raw F',a=some ⟨b,o,none⟩∧w.heap[b]?=some (.cells cells ew (0,0))∧(∀ j u,raw[j]?=some u→cells[o+j]?=some u)∧RowsO (t.own w) raw xs F'∧F=b::F')
  rep_len:=fun ⟨_,_,e,_⟩=>by rw [e];rfl
  own_len:=fun ⟨_,_,e,_⟩=>by rw [e];rfl
  rep_keep:=fun hk ⟨a,c,e,h1,h2,h3⟩=>⟨a,c,e,h1,h2,fun hp=>by
    obtain ⟨b,o,raw,ha,hb,hc,hr⟩:=h3 hp;exact ⟨b,o,raw,ha,hb,fun j u hu=>(World.cell?_of_block (a:=⟨b,o+j,none⟩) (hk b hb)).trans (hc j u hu),hr.mono (fun _ _=>t.rep_keep hk)⟩⟩
  rep_mono:=fun hB ⟨a,c,e,h1,h2,h3⟩=>⟨a,c,e,h1,h2,fun hp=>by
    obtain ⟨b,o,raw,ha,hb,hc,hr⟩:=h3 hp;exact ⟨b,o,raw,ha,by omega,hc,hr.mono (fun _ _=>t.rep_mono hB)⟩⟩
  own_keep:=fun hk ⟨a,c,e,h1,h2,h3⟩=>⟨a,c,e,h1,h2,by
    rcases h3 with h | ⟨b,o,cells,ew,raw,F',ha,hh,hc,hr,hF⟩
    · exact .inl h
    · exact .inr ⟨b,o,cells,ew,raw,F',ha,(hk b (by rw [hF];simp)).trans hh,hc,hr.mono (P:=fun b=>b∈F') (fun _ _ _ hx hP=>t.own_keep (fun b hb=>hk b (by rw [hF];exact List.mem_cons_of_mem _ (hP b hb))) hx) (fun _ h=>h),hF⟩⟩
  own_rep:=fun ⟨a,c,e,h1,h2,h3⟩ hB=>⟨a,c,e,h1,h2,fun hp=>by
    rcases h3 with ⟨rfl,_⟩ | ⟨b,o,cells,ew,raw,F',ha,hh,hc,hr,hF⟩
    · simp at hp
    · refine ⟨b,o,raw,ha,hB b (by rw [hF];simp),fun j u hu=>?_,hr.toR (P:=fun b=>b∈F') (fun _ _ _ hx hP=>t.own_rep hx (fun b hb=>hB b (by rw [hF];exact List.mem_cons_of_mem _ (hP b hb)))) (fun _ h=>h)⟩;rw [cell_of_row _ b (o+j) cells _ (0,0) hh];exact hc j u hu⟩
  rep_one:=fun ⟨_,_,e,_⟩ u hu=>by rw [e] at hu;simp at hu;subst hu;rfl
theorem rep_below (t:Ty α){w w':World}{B:Nat}{cs:List Value}{x:α}(h:t.rep w B cs x)(hb:Below B w w'):t.rep w' B cs x:=t.rep_keep (w:=w) hb.block h
theorem at_ {e:TypeId}{t:Ty α}{w:World}{B:Nat}{v:Value}{xs:List α}(h:(slice e t).rep w B [v] xs) :
    ∃ a c,v=.slice a xs.length c∧xs.length≤c∧c≤maxLen∧∀ k (hk:k<xs.length),∃ b o cs,a=some ⟨b,o,none⟩∧b<B∧(∀ j u,cs[j]?=some u→w.cell? ⟨b,o+k*t.size+j,none⟩=some u)∧t.rep w B cs xs[k]:=by
  obtain ⟨a,c,hv,h1,h2,h3⟩:=h;refine ⟨a,c,by simpa using hv,h1,h2,fun k hk=>?_⟩;obtain ⟨b,o,raw,ha,hb,hc,hr⟩:=h3 (by omega);obtain ⟨cs,hx,hj⟩:=hr.get (fun _ _=>t.rep_len) k hk;exact ⟨b,o,cs,ha,hb,fun j u hu=>by rw [Nat.add_assoc];exact hc _ u (hj j u hu),hx⟩
end Ty
/-! ### What came in, read -/
def Reads (P:Program) (T:TypeId) {α:Type} (t:Ty α):Prop :=
  P.cellsOf T=t.size∧∀ {H:Type} {enc:TypeId×Value→H} {W:World} {base:Nat} {sp:Nat→Bool} {hd:Bool} {fuel:Nat} {cs:List Value} {y:DataW H×List MemPlace},
    DataW.trod enc P W base sp hd fuel T cs=some y→∃ x,t.rep W W.heap.size cs x
section
variable {P:Program} {T:TypeId} {α β:Type}
theorem reads_int {k:IntKind}(ht:P.underlying T=some (.int k))(hc:P.cellsOf T=1):Reads P T (Ty.int k) :=
  ⟨hc,fun h=>by
    obtain ⟨n,e,_,hw⟩:=DataW.trod_int ht h;exact ⟨n,e,InK.of_wf hw⟩⟩
theorem reads_slice {e e':TypeId} {t:Ty α} (ht:P.underlying T=some (.slice e)) (hc:P.cellsOf T=1) (hs:0<t.size) (hr:Reads P e t):Reads P T (Ty.slice e' t) :=
  ⟨hc,fun {H enc W base sp hd fuel cs y} h=>by
    rcases open_slice ht h with ⟨rfl,_⟩ | ⟨a,len,cap,m,n,D,Pl,rfl,_,hl,hm,hmm,_,hi⟩
    · exact ⟨[],none,0,rfl,Nat.le_refl _,Nat.zero_le _,fun h=>absurd h (by simp)⟩
    · have hlm:len≤m:=(by rw [hmm];split<;>omega);have hcell:∀ i,i<len→∃ cs x,t.rep W W.heap.size cs x∧∀ j u,cs[j]?=some u→W.cell? ((a.add (i*t.size)).add j)=some u:=by
        intro i hil;obtain ⟨cs',h1,h2⟩:=hi i (by omega);obtain ⟨x,hx⟩:=hr.2 h2;obtain ⟨_,hcl,hat⟩:=World.cells?_some h1;rw [hr.1] at h1 hcl hat
        refine ⟨cs',x,hx,fun j u hu=>?_⟩;have hj:=(List.getElem?_eq_some_iff.1 hu).1;rw [hat j (by omega)];exact hu
      by_cases h0:len=0
      · subst h0;exact ⟨[],some a,cap,rfl,Nat.zero_le _,hm,fun h=>absurd h (by simp)⟩
      · obtain ⟨cs0,x0,hx0,hc0⟩:=hcell 0 (by omega);have hl0:=t.rep_len hx0;have hfirst:=hc0 0 (cs0[0]'(by omega)) (List.getElem?_eq_getElem (by omega));have hz:(a.add (0*t.size)).add 0=a:=(by simp [Addr.add]);rw [hz] at hfirst;obtain ⟨b,o,spot⟩:=a;have hspot:spot=none:=World.cell?_spot hfirst;subst hspot;have hb:b<W.heap.size:=World.block_lt_of_cell? W ⟨b,o,none⟩ hfirst;have key:∀ q,q≤len→∃ raw xs,xs.length=q∧RowsR (t.rep W W.heap.size) raw xs∧∀ j u,raw[j]?=some u→W.cell? ⟨b,o+j,none⟩=some u:=by
          intro q;induction q with
          | zero=>intro _;exact ⟨[],[],rfl,rfl,fun j u hu=>by simp at hu⟩
          | succ q ih =>
            intro hq;obtain ⟨raw,xs,hxl,hrr,hrc⟩:=ih (by omega);obtain ⟨cs',x,hx,hcx⟩:=hcell q (by omega);refine ⟨raw++cs',xs++[x],by simp [hxl],hrr.snoc hx,fun j u hu=>?_⟩;have hlen:raw.length=q*t.size:=by rw [hrr.len (fun _ _=>t.rep_len),hxl]
            by_cases hj:j<raw.length
            · rw [List.getElem?_append_left hj] at hu;exact hrc j u hu
            · rw [List.getElem?_append_right (by omega)] at hu;have:=hcx _ u hu;rw [Addr.add_lit,Addr.add_lit] at this;rw [← this];congr 2;omega
        obtain ⟨raw,xs,hxl,hrr,hrc⟩:=key len (Nat.le_refl _);exact ⟨xs,some ⟨b,o,none⟩,cap,by rw [hxl],by omega,hm,fun _=>⟨b,o,raw,rfl,hb,hrc,hrr⟩⟩⟩
def FldOK (P:Program) (fs:List Field) (off:Nat) {β:Type} (t:Ty β):Prop :=
  ∀ {H:Type} {enc:TypeId×Value→H} {W:World} {base:Nat} {sp:Nat→Bool} {hd:Bool} {n:Nat} {cs:List Value} {ys:List (DataW H×List MemPlace)},
    (∀ (i:Nat) (f:Field),fs[i]?=some f→DataW.trod enc P W base sp hd n f.type ((cs.drop f.offset).take (P.cellsOf f.type))=ys[i]?)→ys.length=fs.length→cs.length=off+t.size →
      ∃ x,t.rep W W.heap.size (cs.drop off) x
theorem fld_one {f:Field}{off:Nat}{t:Ty α}(ho:f.offset=off)(h:Reads P f.type t):FldOK P [f] off t:=by intro H enc W base sp hd n cs ys hf hl hc;have h0:=hf 0 f rfl;have hy:ys[0]?=some (ys[0]'(by rw [hl];simp)):=List.getElem?_eq_getElem _;rw [hy] at h0;obtain ⟨x,hx⟩:=h.2 h0;rw [ho,h.1,List.take_of_length_le (by rw [List.length_drop];omega)] at hx;exact ⟨x,hx⟩
theorem fld_cons {f:Field}{fs:List Field}{off:Nat}{t:Ty α}{s:Ty β}(ho:f.offset=off)(h:Reads P f.type t)(hs:FldOK P fs (off+t.size) s):FldOK P (f::fs) off (Ty.prod t s):=by
  intro H enc W base sp hd n cs ys hf hl hc;have h0:=hf 0 f rfl;have hy:ys[0]?=some (ys[0]'(by rw [hl];simp)):=List.getElem?_eq_getElem _;rw [hy] at h0;obtain ⟨x,hx⟩:=h.2 h0;have hc':cs.length=off+t.size+s.size:=by rw [hc,Nat.add_assoc];rfl
  obtain ⟨y,hy'⟩:=hs (enc:=enc) (W:=W) (base:=base) (sp:=sp) (hd:=hd) (n:=n) (cs:=cs) (ys:=ys.tail)
    (fun i g hg=>by rw [hf (i+1) g (by simpa using hg)];simp) (by simp [hl]) hc'
  rw [ho,h.1] at hx;refine ⟨(x,y),(cs.drop off).take t.size,cs.drop (off+t.size),?_,hx,hy'⟩;rw [← List.drop_drop,List.take_append_drop]
theorem reads_struct {fs:Array Field}{t:Ty α}(ht:P.underlying T=some (.struct fs))(hc:P.cellsOf T=t.size)(h:FldOK P fs.toList 0 t):Reads P T t :=
  ⟨hc,fun {H enc W base sp hd fuel cs y} h'=>by
    obtain ⟨xs,n,_,_,hl,hxl,hf⟩:=DataW.trod_struct ht h';obtain ⟨x,hx⟩:=h (enc:=enc) (W:=W) (base:=base) (sp:=sp) (hd:=hd) (n:=n) (cs:=cs) (ys:=xs) (fun i f hif=>hf i f (by simpa using hif)) (by simpa using hxl) (by rw [hl,hc];omega);exact ⟨x,by simpa using hx⟩⟩
theorem reads_via {t:Ty β}(f:α→β)(g:β→α)(hfg:∀ x,f (g x)=x)(h:Reads P T t):Reads P T (Ty.via t f) :=
  ⟨h.1,fun h'=>by
    obtain ⟨x,hx⟩:=h.2 h';exact ⟨g x,by show t.rep _ _ _ (f (g x));rw [hfg];exact hx⟩⟩
end
/-! ### A world and all that may come of it by new memory alone -/
def Ext (W:World):Type:={ w':World // Below W.heap.size W w' }
end Go.Proofs.Ytaleehohmpohoaa
namespace Go
def World.to (W:World)(x:Proofs.Ytaleehohmpohoaa.Ext W):World:=x.val
end Go
namespace Go.Proofs.Ytaleehohmpohoaa
open Go.RowKit Go.ChangeShapes Go.WideShapes Go.Deep
section
variable {W:World} {P:Program}
theorem Ext.below (x:Ext W):Below W.heap.size W (W.to x):=x.property
def Ext.self (W:World):Ext W:=⟨W,Below.refl _ _⟩
def Ext.drew (x:Ext W):Ext W:=⟨(W.to x).drew,x.below.drew⟩
instance:Nonempty (Ext W):=⟨Ext.self W⟩
theorem to_drew (x:Ext W):(W.to x).drew=W.to x.drew:=rfl
theorem rebase {Q:World→Prop}{e:World}(h:∀ W:World,W=e→∀ x:Ext W,Q (W.to x)):Q e:=h e rfl (Ext.self e)
theorem ext_of {x:Ext W}{w':World}(h:Below (W.to x).heap.size (W.to x) w'):∃ y:Ext W,w'=W.to y:=⟨⟨w',x.below.trans (h.mono x.below.size)⟩,rfl⟩
theorem to_cell (x:Ext W){b o:Nat}(h:b<W.heap.size):(W.to x).cell? ⟨b,o,none⟩=W.cell? ⟨b,o,none⟩:=x.below.cell (p:=⟨b,o,none⟩) h
theorem ext_call {f:FuncId}{args:Array Value}{x:Ext W}{v:Value}(h:Calls P f args (W.to x) fun e w'=>e=.returned v∧Below (W.to x).heap.size (W.to x) w') :
    Calls P f args (W.to x) fun e w'=>e=.returned v∧∃ y:Ext W,w'=W.to y:=h.mono fun _ _ ⟨he,hb⟩=>⟨he,ext_of hb⟩
theorem wp_region_ext {id:Nat}{Q:Exit→Act→World→Prop}{a:Act}{x:Ext W}{l:List Oper}(hm:P.follows .mixedOrders=true)(hB:Region.lexB .any l.toArray=true)
    (h:wpQuiet P l.toArray (fun w'=>∃ y:Ext W,w'=W.to y) (fun a'=>∀ w',(∃ y:Ext W,w'=W.to y)→Q .normal a' w') l a):(Code.region id l.toArray true).wp P Q a (W.to x) :=
  wp_region_quiet (C:=fun w'=>∃ y:Ext W,w'=W.to y) hm hB ⟨x.drew,rfl⟩ (by simpa using h)
end
attribute [go_sem] to_drew
theorem agg_of {P:Program}{W:World}{r:Reach}{b0:Nat}{t:TypeId}{fs:Array Field}{v:Value}(hs:P.underlying t=some (.struct fs))(hv:Value.okWide P W r b0 t v):∃ cs,v=.agg cs:=by obtain ⟨cs,e,_⟩:=okWide_struct hs hv;exact ⟨cs,e⟩
theorem heap_push (w:World)(o:Obj)(k:Nat):(w.alloc o).heap[k]?=if k=w.heap.size then some o else w.heap[k]?:=by show (w.heap.push o)[k]?=_;rw [Array.getElem?_push]
theorem box_cell {W:World}{b:Nat}{t:TypeId}{cs:Array Value}{f:Nat×Nat}(h:W.heap[b]?=some (.cells cs t f))(x:Ext W)(j:Nat):(W.to x).cell? ⟨b,j,none⟩=cs[j]?:=by rw [to_cell x (Array.getElem?_eq_some_iff.1 h).1,cell_of_row W b _ _ _ _ h]
theorem box3 {W:World}{b:Nat}{t:TypeId}{v0 v1 v2:Value}(h:W.heap[b]?=some (.cells #[v0,v1,v2] t (0,0))) :
    ∀ x:Ext W,(W.to x).cell? ⟨b,0,none⟩=some v0∧(W.to x).cell? ⟨b,1,none⟩=some v1∧(W.to x).cell? ⟨b,2,none⟩=some v2:=fun x=>⟨box_cell h x 0,box_cell h x 1,box_cell h x 2⟩
theorem box5 {W:World}{b:Nat}{t:TypeId}{v0 v1 v2 v3 v4:Value}(h:W.heap[b]?=some (.cells #[v0,v1,v2,v3,v4] t (0,0))) :
    ∀ x:Ext W,(W.to x).cell? ⟨b,0,none⟩=some v0∧(W.to x).cell? ⟨b,1,none⟩=some v1∧(W.to x).cell? ⟨b,2,none⟩=some v2∧(W.to x).cell? ⟨b,3,none⟩=some v3∧(W.to x).cell? ⟨b,4,none⟩=some v4:=fun x=>⟨box_cell h x 0,box_cell h x 1,box_cell h x 2,box_cell h x 3,box_cell h x 4⟩
theorem push1_0 (w:World)(o0:Obj):(w.alloc o0).heap[w.heap.size]?=some o0:=by rw [heap_push,if_pos rfl]
theorem push2_0 (w:World)(o0 o1:Obj):((w.alloc o0).alloc o1).heap[w.heap.size]?=some o0:=by rw [heap_push,if_neg (by simp only [World.size_alloc];omega),heap_push,if_pos rfl]
theorem push2_1 (w:World)(o0 o1:Obj):((w.alloc o0).alloc o1).heap[w.heap.size+1]?=some o1:=by rw [heap_push,if_pos (by simp)]
theorem call_ext {W:World}{P:Program}{f:FuncId}{args:Array Value}{x:Ext W}{v:Value}{R:Ending→World→Prop}(h:Calls P f args (W.to x) fun e w'=>e=.returned v∧Below (W.to x).heap.size (W.to x) w')
    (hr:∀ y:Ext W,R (.returned v) (W.to y)):Calls P f args (W.to x) R:=h.mono fun _ _ ⟨he,hb⟩=>by
  obtain ⟨y,rfl⟩:=ext_of hb;subst he;exact hr y
theorem ext_end {W w:World}(x:Ext W)(h:Below w.heap.size w W):Below w.heap.size w (W.to x):=h.trans (x.below.mono h.size)
/-! ### A box that is written, a struct that is handed back -/
theorem blk_set {w:World}{b i:Nat}{t:TypeId}{cs:Array Value}{f:Nat×Nat}(h:w.heap[b]?=some (.cells cs t f))(u:Value):(w.setCell ⟨b,i,none⟩ u).heap[b]?=some (.cells (cs.setIfInBounds i u) t f):=by simp [World.setCell,Array.getElem?_modify,h]
theorem at_of {W e:World}{b:Nat}{o:Obj}(hW:W=e)(h:e.heap[b]?=some o):W.heap[b]?=some o:=hW▸h
theorem box_at {W:World}{b:Nat}{o:Obj}(h:W.heap[b]?=some o)(x:Ext W):(W.to x).heap[b]?=some o:=(x.below.block b (Array.getElem?_eq_some_iff.1 h).1).trans h
theorem boxf {W:World}{b:Nat}{t:TypeId}{cs:Array Value}(h:W.heap[b]?=some (.cells cs t (0,0))):∀ (x:Ext W) (j:Nat),(W.to x).frozen? ⟨b,j,none⟩=false:=fun x j=>by simp [World.frozen?,box_at h x]
theorem blk_lt {w:World}{b:Nat}{o:Obj}(h:w.heap[b]?=some o):b<w.heap.size:=(Array.getElem?_eq_some_iff.1 h).1
/-! ### Slices that are read, in every world that comes of one -/
theorem rebaseC {P:Program}{f:FuncId}{args:Array Value}{w:World}{R:Ending→World→Prop}(h:∀ x:Ext w,Calls P f args (w.to x) R):Calls P f args w R:=h (Ext.self w)
namespace Ty
variable {α:Type}
theorem form {e:TypeId}{t:Ty α}{w:World}{B:Nat}{v:Value}{xs:List α}(h:(slice e t).rep w B [v] xs):∃ a c,v=.slice a xs.length c∧xs.length≤c∧c≤maxLen:=by obtain ⟨a,c,hv,h1,h2,_⟩:=h;exact ⟨a,c,by simpa using hv,h1,h2⟩
theorem elem {e:TypeId}{t:Ty α}{W:World}{B:Nat}{a:Option Addr}{n c:Nat}{xs:List α}(h:(slice e t).rep W B [.slice a n c] xs)(hB:B≤W.heap.size)(k:Nat)(hk:k<xs.length) :
    ∃ b o cs,a=some ⟨b,o,none⟩∧b<B∧(∀ j u,cs[j]?=some u→∀ z:Ext W,(W.to z).cell? ⟨b,o+k*t.size+j,none⟩=some u)∧t.rep W B cs xs[k]:=by
  obtain ⟨a',c',hv,_,_,hat⟩:=at_ h;obtain ⟨b,o,cs,ha,hb,hc,hr⟩:=hat k hk;injection hv with h1;exact ⟨b,o,cs,h1.trans ha,hb,fun j u hu z=>(to_cell z (by omega)).trans (hc j u hu),hr⟩
end Ty
/-! ### What lies in blocks of one's own, from lo on and below hi -/
section
variable {α β:Type} {t:Ty α} {s:Ty β} {w w':World} {lo hi m:Nat} {cs:List Value} {x:α}
end
/-! ### A row that is filled from its head -/
section
variable {P:Program} {ops:Array Oper} {rest:List Oper} {op:Oper} {a:Act} {w:World} {Q:Exit→Act→World→Prop}
end
theorem take_succ' {α:Type}(xs:List α)(k:Nat)(h:k<xs.length):xs.take (k+1)=xs.take k++[xs[k]]:=by rw [List.take_succ_eq_append_getElem h]
namespace Ty
theorem elemInt {e:TypeId}{kd:IntKind}{w:World}{B:Nat}{a:Option Addr}{n c:Nat}{xs:List Int}(h:(slice e (int kd)).rep w B [.slice a n c] xs)(k:Nat)(hk:k<xs.length) :
    ∃ b o,a=some ⟨b,o,none⟩∧b<B∧w.cell? ⟨b,o+k,none⟩=some (.int kd xs[k])∧InK kd xs[k]:=by
  obtain ⟨a',c',hv,_,_,hat⟩:=at_ h;obtain ⟨b,o,cs,ha,hb,hc,hr,hi⟩:=hat k hk;injection hv with h1;subst hr;exact ⟨b,o,h1.trans ha,hb,by simpa [int] using hc 0 _ rfl,hi⟩
end Ty
theorem Ty.slice_one {α:Type}{e:TypeId}{t:Ty α}{w:World}{B:Nat}{cs:List Value}{xs:List α}(h:(Ty.slice e t).rep w B cs xs):∃ v,cs=[v]:=by obtain ⟨a,c,hv,_⟩:=h;exact ⟨_,hv⟩
def szR (l:Int)(c:Nat):Int:=if (c:Int)≤l then l-c else -1
theorem szR_ok {l:Int}{c:Nat}(h:(c:Int)≤l):szR l c=l-c:=if_pos h
theorem szR_no {l:Int}{c:Nat}(h:¬ (c:Int)≤l):szR l c = -1:=if_neg h
def sumT {α:Type}(f:α→Nat)(xs:List α)(k:Nat):Nat:=((xs.take k).map f).sum
theorem sumT_zero {α:Type}(f:α→Nat)(xs:List α):sumT f xs 0=0:=by simp [sumT]
theorem sumT_succ {α:Type}(f:α→Nat)(xs:List α)(k:Nat)(h:k<xs.length):sumT f xs (k+1)=sumT f xs k+f xs[k]:=by unfold sumT;rw [take_succ' xs k h,List.map_append,List.sum_append];simp
theorem sumT_le {α:Type}(f:α→Nat)(xs:List α)(k:Nat):sumT f xs k≤(xs.map f).sum:=by
  unfold sumT
  conv=>rhs;rw [← List.take_append_drop k xs]
  rw [List.map_append,List.sum_append];omega
theorem sumT_all {α:Type}(f:α→Nat)(xs:List α):sumT f xs xs.length=(xs.map f).sum:=by unfold sumT;rw [List.take_length]
theorem plainbase {Q:World→Prop}{e:World}(h:∀ W:World,W=e→Q W):Q e:=h e rfl
theorem cel3 {W:World}{b:Nat}{t:TypeId}{f:Nat×Nat}{v0 v1 v2:Value}(h:W.heap[b]?=some (.cells #[v0,v1,v2] t f)):W.cell? ⟨b,0,none⟩=some v0∧W.cell? ⟨b,1,none⟩=some v1∧W.cell? ⟨b,2,none⟩=some v2:=⟨cell_of_row W b 0 _ _ _ h,cell_of_row W b 1 _ _ _ h,cell_of_row W b 2 _ _ _ h⟩
/-! ### The first of a list that a test says yes to -/
end Go.Proofs.Ytaleehohmpohoaa
