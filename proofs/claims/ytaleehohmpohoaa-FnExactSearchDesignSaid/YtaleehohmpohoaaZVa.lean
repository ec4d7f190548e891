/- Laws that the proof stands on. -/
import Derived.WalkKit
import Derived.ProofKit
import Derived.Handy
import Derived.Deep.MidRow
import Derived.Deep.AppendSrc
import Derived.Deep.Upon
import Derived.Great.BuildSlice
import Derived.Laws.Tables
import Derived.Laws.MakeOwn
import Derived.RangeFuncNested
import Derived.Laws.StructEq
import Derived.MapKept
import Derived.Laws.BytesArg
import Derived.Laws.IdiomStrings
import Derived.Deep.LoopGhost
import Derived.StillTail
import Derived.OrdersIn
import Derived.TacticsIn
import Derived.Sort.LoopGhostIn
set_option linter.all false
namespace Go.V
open Go.RowKit
set_option autoImplicit false
inductive KK where
  | str
  | bool
  | int (k:IntKind)
  | flat (ks:List Nat)
  | bld (ty e:Nat)
  | err (ty:Nat)
  deriving Inhabited,DecidableEq
def KK.isM:KK→Bool
  | .bld _ _=>false
  | .err _=>false
  | _=>true
def KK.e0:KK→List (Value×Value)
  | .bld _ _=>[(.string ⟨#[]⟩,undef)]
  | _=>[]
def mlenK:KK→Prop→Prop
  | .bld _ _,_=>False
  | .err _,_=>False
  | _,p=>p
theorem mlenK_out {k:KK}{p:Prop}(h:mlenK k p):k.isM=true∧p:=by cases k<;>first | exact ⟨rfl,h⟩ | exact h.elim
def kindsV:List Nat→List Value→Bool
  | [],[]=>true
  | 0::ks,.bool _::vs=>kindsV ks vs
  | 1::ks,.int .i64 _::vs=>kindsV ks vs
  | 2::ks,.string _::vs=>kindsV ks vs
  | _,_=>false
def keyOK:KK→Value→Bool
  | .str,.string _=>true
  | .bool,.bool _=>true
  | .int k,.int k' _=>k==k'
  | .flat ks,.agg cs=>kindsV ks cs.toList
  | _,_=>false
inductive D where
  | undef
  | nils
  | v (x:Value)
  | sl (own:Bool) (sz:Nat) (rows:List (List D))
  | agg (cells:List D)
  | tup (vs:List D)
  | ref (r:Nat) (p:List (Nat×Nat))
  | ptr (r:Nat) (p:List (Nat×Nat)) (i j:Nat)
  | sub (r:Nat) (p:List (Nat×Nat)) (i n:Nat)
  | iptr (cells:List D) (j:Nat)
  | box (tag:Option Nat) (cells:List D)
  | mp (k:KK) (ents:List (Value×Value))
  | imp (k:KK) (ents:List (Value×Value))
  | fn (f:FuncId) (first captured:List D)
  deriving Inhabited
def bCells (s:ByteArray):List Value:=s.data.toList.map fun b=>Value.int .u8 b.toNat
def mpB (w:World)(k:KK)(ents:List (Value×Value))(u:Value)(F:List Nat):Prop:=match k with
  | .bld ty e=>∃ b p v s,u=.pointer (some ⟨b,0,none⟩)∧w.heap[b]?=some (.cells #[p,v] ty (0,0))∧(p=.pointer none∨p=.pointer (some ⟨b,0,none⟩))∧ents=[(.string s,undef)] ∧
      ((v=.slice none 0 0∧s.size=0∧F=[b])∨∃ g cap cur,v=.slice (some ⟨g,0,none⟩) s.size cap∧w.heap[g]?=some (.cells cur e (0,0))∧s.size≤cap∧cap≤maxLen∧cur.size=cap∧cur.toList.take s.size=bCells s∧b≠g∧F=[b,g])
  | .err ty=>∃ b e m n,u=.iface ty (.pointer (some ⟨b,0,none⟩))∧w.heap[b]?=some (.cells #[.int .i64 m,.int .i64 n] e (0,0))∧ents=[(.int .i64 m,.int .i64 n)]∧F=[b]
  | _=>∃ b es clock,u=.map (some b)∧w.heap[b]?=some (.map es clock)∧F=[b]∧es.toList.map (fun e=>(e.key,e.val))=ents∧∀ e,e∈ents→keyOK k e.1=true
theorem mpB_map {w:World}{k:KK}{ents:List (Value×Value)}{u:Value}{F:List Nat}(hk:k.isM=true):mpB w k ents u F↔∃ b es clock,u=.map (some b)∧w.heap[b]?=some (.map es clock)∧F=[b]∧es.toList.map (fun e=>(e.key,e.val))=ents∧∀ e,e∈ents→keyOK k e.1=true:=by cases k<;>first | exact Iff.rfl | (simp [KK.isM] at hk)
theorem mpB_keep {w w':World}{k:KK}{ents:List (Value×Value)}{u:Value}{F:List Nat}(h:mpB w k ents u F)(hk:∀ b,b∈F→w'.heap[b]?=w.heap[b]?):mpB w' k ents u F:=by
  cases k with
  | bld ty e =>
    obtain ⟨b,p,v,s,hu,hh,hp,he,hc⟩:=h;rcases hc with ⟨hv,hs,hF⟩ | ⟨g,cap,cur,hv,hg,h1,h2,h3,h4,h5,hF⟩
    · exact ⟨b,p,v,s,hu,(hk b (by simp [hF])).trans hh,hp,he,.inl ⟨hv,hs,hF⟩⟩
    · exact ⟨b,p,v,s,hu,(hk b (by simp [hF])).trans hh,hp,he,.inr ⟨g,cap,cur,hv,(hk g (by simp [hF])).trans hg,h1,h2,h3,h4,h5,hF⟩⟩
  | err ty=>obtain ⟨b,e,m,n,hu,hh,he,hF⟩:=h;exact ⟨b,e,m,n,hu,(hk b (by simp [hF])).trans hh,he,hF⟩
  | _=>obtain ⟨b,es,clock,hu,hh,hF,hc⟩:=h;exact ⟨b,es,clock,hu,(hk b (by simp [hF])).trans hh,hF,hc⟩
theorem mpB_one {w:World}{k:KK}{ents:List (Value×Value)}{u:Value}{F:List Nat}(h:mpB w k ents u F):u.oneCell'=true:=by
  cases k with
  | bld ty e=>obtain ⟨b,p,v,s,hu,_⟩:=h;rw [hu];rfl
  | err ty=>obtain ⟨b,e,m,n,hu,_⟩:=h;rw [hu];rfl
  | _=>obtain ⟨b,_,_,hu,_⟩:=h;rw [hu];rfl
def nil:D→Value→Prop:=fun _ _=>False
section
variable (I:Nat→Prop) (w:World)
mutual
def T : D→(D→Value→Prop)→Value→List Nat→Prop
  | .undef,_,_,F=>F=[]
  | .nils,_,u,F=>u=.slice none 0 0∧F=[]
  | .v x,_,u,F=>u=x∧F=[]
  | .sl own sz rows,_,u,F=>∃ a c,u=.slice a rows.length c∧rows.length≤c∧c≤maxLen ∧
      ((own=false∧F=[]∧(rows=[]∨∃ b o raw,a=some ⟨b,o,none⟩∧I b∧w.rangeAt b o raw∧Rows sz rows raw [])) ∨
       (own=true∧((a=none∧c=0∧F=[])∨∃ b o cells e raw F',a=some ⟨b,o,none⟩∧w.heap[b]?=some (.cells cells e (0,0))∧o+c*sz≤cells.size∧w.rangeAt b o raw∧F=b::F'∧Rows sz rows raw F')))
  | .agg cs,ρ,u,F=>∃ us:List Value,u=.agg us.toArray∧Cells cs ρ us F
  | .tup vs,ρ,u,F=>∃ us:List Value,u=.tuple us.toArray∧Vals vs ρ us F
  | .ref r p,ρ,u,F=>ρ (.ref r p) u∧F=[]
  | .ptr r p i j,ρ,u,F=>ρ (.ptr r p i j) u∧F=[]
  | .sub r p i n,ρ,u,F=>(ρ (.sub r p i n) u∨(n=0∧∃ a c,u=.slice a 0 c∧c≤maxLen∧(i=0→a=none∧c=0)))∧F=[]
  | .iptr cells j,_,u,F=>F=[]∧∃ b o raw,u=.pointer (some ⟨b,o+j,none⟩)∧I b∧w.rangeAt b o raw∧Cells cells nil raw []
  | .box tag cells,ρ,u,F=>∃ b cs e F',u=.pointer (some ⟨b,0,none⟩)∧(∀ k,tag=some k→b=k)∧w.heap[b]?=some (.cells cs e (0,0))∧F=b::F'∧Cells cells ρ cs.toList F'
  | .mp k ents,_,u,F=>mpB w k ents u F
  | .imp k ents,_,u,F=>F=[]∧∃ F',mpB w k ents u F'∧∀ b,b∈F'→I b
  | .fn f first caps,ρ,u,F=>∃ (us vs:List Value) (F1 F2:List Nat),u=.func (.func f) us.toArray vs.toArray∧F=F1++F2∧Vals first ρ us F1∧Vals caps ρ vs F2
def Cells:List D→(D→Value→Prop)→List Value→List Nat→Prop
  | [],_,us,F=>us=[]∧F=[]
  | d::ds,ρ,us,F=>∃ u us' F1 F2,us=u::us'∧F=F1++F2∧u.oneCell'=true∧T d ρ u F1∧Cells ds ρ us' F2
def Vals:List D→(D→Value→Prop)→List Value→List Nat→Prop
  | [],_,us,F=>us=[]∧F=[]
  | d::ds,ρ,us,F=>∃ u us' F1 F2,us=u::us'∧F=F1++F2∧T d ρ u F1∧Vals ds ρ us' F2
def Rows (sz:Nat):List (List D)→List Value→List Nat→Prop
  | [],raw,F=>raw=[]∧F=[]
  | r::rs,raw,F=>∃ us raw' F1 F2,raw=us++raw'∧F=F1++F2∧us.length=sz∧Cells r nil us F1∧Rows sz rs raw' F2
end
end
mutual
def D.prune (q:D→Bool):D→D
  | .ref r p=>if q (.ref r p) then .ref r p else .undef
  | .ptr r p i j=>if q (.ptr r p i j) then .ptr r p i j else .undef
  | .sub r p i n=>if q (.sub r p i n) then .sub r p i n else .undef
  | .agg cs=>.agg (pruneL q cs)
  | .tup vs=>.tup (pruneL q vs)
  | .box t cs=>.box t (pruneL q cs)
  | .fn f a b=>.fn f (pruneL q a) (pruneL q b)
  | d=>d
def pruneL (q:D→Bool):List D→List D
  | []=>[]
  | d::ds=>d.prune q::pruneL q ds
end
mutual
def D.pure:D→Bool
  | .undef=>true
  | .nils=>true
  | .v _=>true
  | .sl _ _ rows=>pureLL rows
  | .agg cs=>pureL cs
  | .tup cs=>pureL cs
  | .iptr cs _=>pureL cs
  | .fn _ a b=>pureL a&&pureL b
  | .imp _ _=>true
  | _=>false
def pureL:List D→Bool
  | []=>true
  | d::ds=>d.pure&&pureL ds
def pureLL:List (List D)→Bool
  | []=>true
  | d::ds=>pureL d&&pureLL ds
end
mutual
def D.imm:D→D
  | .sl _ sz rows=>.sl false sz (immLL rows)
  | .agg cs=>.agg (immL cs)
  | .tup cs=>.tup (immL cs)
  | .fn f a b=>.fn f (immL a) (immL b)
  | .box _ _=>.undef
  | .mp k e=>.imp k e
  | d=>d
def immL:List D→List D
  | []=>[]
  | d::ds=>d.imm::immL ds
def immLL:List (List D)→List (List D)
  | []=>[]
  | d::ds=>immL d::immLL ds
end
theorem immLL_length:∀ rows:List (List D),(immLL rows).length=rows.length
  | []=>rfl
  | _::rs=>by simp [immLL,immLL_length rs]
theorem immLL_nil {rows:List (List D)}:immLL rows=[]↔rows=[]:=by cases rows<;>simp [immLL]
theorem rangeAt_keep {w w':World}{b o:Nat}{raw:List Value}(h:w'.heap[b]?=w.heap[b]?)(hr:w.rangeAt b o raw):w'.rangeAt b o raw :=
  fun j v hj=>(World.cell?_of_block (w:=w) (a:=⟨b,o+j,none⟩) h).trans (hr j v hj)
mutual
theorem T.keep {I}{w w':World}:∀ (d:D) {ρ u F},T I w d ρ u F→(∀ b,I b∨b∈F→w'.heap[b]?=w.heap[b]?)→T I w' d ρ u F
  | .undef,_,_,_,h,_=>by simpa [T] using h
  | .nils,_,_,_,h,_=>by simpa [T] using h
  | .v _,_,_,_,h,_=>by simpa [T] using h
  | .sl own sz rows,ρ,u,F,h,hk=>by
    simp only [T] at h ⊢;obtain ⟨a,c,e,h1,h2,h3⟩:=h;refine ⟨a,c,e,h1,h2,?_⟩;rcases h3 with ⟨ho,hF,hr⟩ | ⟨ho,hr⟩
    · refine .inl ⟨ho,hF,?_⟩;rcases hr with hr | ⟨b,o,raw,ha,hI,hr,hR⟩
      · exact .inl hr
      · exact .inr ⟨b,o,raw,ha,hI,rangeAt_keep (hk b (.inl hI)) hr,Rows.keep sz rows hR (fun b hb=>hk b (hb.imp_right (fun h=>absurd h (by simp))))⟩
    · refine .inr ⟨ho,?_⟩;rcases hr with hr | ⟨b,o,cells,e,raw,F',ha,hh,hs,hr,hF,hR⟩
      · exact .inl hr
      · subst hF;exact .inr ⟨b,o,cells,e,raw,F',ha,(hk b (by simp)).trans hh,hs,rangeAt_keep (hk b (by simp)) hr,rfl,Rows.keep sz rows hR (fun b hb=>hk b (by rcases hb with h | h<;>simp [h]))⟩
  | .agg cs,ρ,u,F,h,hk=>by simp only [T] at h ⊢;obtain ⟨us,e,hc⟩:=h;exact ⟨us,e,Cells.keep cs hc hk⟩
  | .tup vs,ρ,u,F,h,hk=>by simp only [T] at h ⊢;obtain ⟨us,e,hc⟩:=h;exact ⟨us,e,Vals.keep vs hc hk⟩
  | .ref _ _,_,_,_,h,_=>by simpa [T] using h
  | .ptr _ _ _ _,_,_,_,h,_=>by simpa [T] using h
  | .sub _ _ _ _,_,_,_,h,_=>by simpa [T] using h
  | .iptr cells j,ρ,u,F,h,hk=>by simp only [T] at h ⊢;obtain ⟨hF,b,o,raw,e,hI,hr,hc⟩:=h;exact ⟨hF,b,o,raw,e,hI,rangeAt_keep (hk b (.inl hI)) hr,Cells.keep cells hc (fun b hb=>hk b (hb.imp_right (fun h=>absurd h (by simp))))⟩
  | .box tag cells,ρ,u,F,h,hk=>by simp only [T] at h ⊢;obtain ⟨b,cs,e,F',hu,htg,hh,hF,hc⟩:=h;subst hF;exact ⟨b,cs,e,F',hu,htg,(hk b (by simp)).trans hh,rfl,Cells.keep cells hc (fun b hb=>hk b (by rcases hb with h | h<;>simp [h]))⟩
  | .mp k ents,ρ,u,F,h,hk=>by simp only [T] at h ⊢;exact mpB_keep h (fun b hb=>hk b (.inr hb))
  | .imp k ents,ρ,u,F,h,hk=>by simp only [T] at h ⊢;obtain ⟨hF,F',h1,h2⟩:=h;exact ⟨hF,F',mpB_keep h1 (fun b hb=>hk b (.inl (h2 b hb))),h2⟩
  | .fn f first caps,ρ,u,F,h,hk=>by simp only [T] at h ⊢;obtain ⟨us,vs,F1,F2,hu,hF,h1,h2⟩:=h;subst hF;exact ⟨us,vs,F1,F2,hu,rfl,Vals.keep first h1 (fun b hb=>hk b (by rcases hb with h | h<;>simp [h])),Vals.keep caps h2 (fun b hb=>hk b (by rcases hb with h | h<;>simp [h]))⟩
theorem Cells.keep {I}{w w':World}:∀ (ds:List D) {ρ us F},Cells I w ds ρ us F→(∀ b,I b∨b∈F→w'.heap[b]?=w.heap[b]?)→Cells I w' ds ρ us F
  | [],_,_,_,h,_=>by simpa [Cells] using h
  | d::ds,ρ,us,F,h,hk=>by simp only [Cells] at h ⊢;obtain ⟨u,us',F1,F2,e,hF,ho,h1,h2⟩:=h;subst hF;exact ⟨u,us',F1,F2,e,rfl,ho,T.keep d h1 (fun b hb=>hk b (by rcases hb with h | h<;>simp [h])),Cells.keep ds h2 (fun b hb=>hk b (by rcases hb with h | h<;>simp [h]))⟩
theorem Vals.keep {I}{w w':World}:∀ (ds:List D) {ρ us F},Vals I w ds ρ us F→(∀ b,I b∨b∈F→w'.heap[b]?=w.heap[b]?)→Vals I w' ds ρ us F
  | [],_,_,_,h,_=>by simpa [Vals] using h
  | d::ds,ρ,us,F,h,hk=>by simp only [Vals] at h ⊢;obtain ⟨u,us',F1,F2,e,hF,h1,h2⟩:=h;subst hF;exact ⟨u,us',F1,F2,e,rfl,T.keep d h1 (fun b hb=>hk b (by rcases hb with h | h<;>simp [h])),Vals.keep ds h2 (fun b hb=>hk b (by rcases hb with h | h<;>simp [h]))⟩
theorem Rows.keep {I}{w w':World}(sz:Nat):∀ (rs:List (List D)) {raw F},Rows I w sz rs raw F→(∀ b,I b∨b∈F→w'.heap[b]?=w.heap[b]?)→Rows I w' sz rs raw F
  | [],_,_,h,_=>by simpa [Rows] using h
  | r::rs,raw,F,h,hk=>by simp only [Rows] at h ⊢;obtain ⟨us,raw',F1,F2,e,hF,hl,h1,h2⟩:=h;subst hF;exact ⟨us,raw',F1,F2,e,rfl,hl,Cells.keep r h1 (fun b hb=>hk b (by rcases hb with h | h<;>simp [h])),Rows.keep sz rs h2 (fun b hb=>hk b (by rcases hb with h | h<;>simp [h]))⟩
end
mutual
theorem T.mono {I I':Nat→Prop}{w:World}(hI:∀ b,I b→I' b):∀ (d:D) {ρ u F},T I w d ρ u F→T I' w d ρ u F
  | .undef,_,_,_,h=>by simpa [T] using h
  | .nils,_,_,_,h=>by simpa [T] using h
  | .v _,_,_,_,h=>by simpa [T] using h
  | .sl own sz rows,ρ,u,F,h=>by
    simp only [T] at h ⊢;obtain ⟨a,c,e,h1,h2,h3⟩:=h;refine ⟨a,c,e,h1,h2,?_⟩;rcases h3 with ⟨ho,hF,hr⟩ | ⟨ho,hr⟩
    · refine .inl ⟨ho,hF,?_⟩;rcases hr with hr | ⟨b,o,raw,ha,hb,hr,hR⟩
      · exact .inl hr
      · exact .inr ⟨b,o,raw,ha,hI b hb,hr,Rows.mono hI sz rows hR⟩
    · refine .inr ⟨ho,?_⟩;rcases hr with hr | ⟨b,o,cells,e,raw,F',ha,hh,hs,hr,hF,hR⟩
      · exact .inl hr
      · exact .inr ⟨b,o,cells,e,raw,F',ha,hh,hs,hr,hF,Rows.mono hI sz rows hR⟩
  | .agg cs,ρ,u,F,h=>by simp only [T] at h ⊢;obtain ⟨us,e,hc⟩:=h;exact ⟨us,e,Cells.mono hI cs hc⟩
  | .tup vs,ρ,u,F,h=>by simp only [T] at h ⊢;obtain ⟨us,e,hc⟩:=h;exact ⟨us,e,Vals.mono hI vs hc⟩
  | .ref _ _,_,_,_,h=>by simpa [T] using h
  | .ptr _ _ _ _,_,_,_,h=>by simpa [T] using h
  | .sub _ _ _ _,_,_,_,h=>by simpa [T] using h
  | .iptr cells j,ρ,u,F,h=>by simp only [T] at h ⊢;obtain ⟨hF,b,o,raw,e,hb,hr,hc⟩:=h;exact ⟨hF,b,o,raw,e,hI b hb,hr,Cells.mono hI cells hc⟩
  | .box tag cells,ρ,u,F,h=>by simp only [T] at h ⊢;obtain ⟨b,cs,e,F',hu,htg,hh,hF,hc⟩:=h;exact ⟨b,cs,e,F',hu,htg,hh,hF,Cells.mono hI cells hc⟩
  | .mp k ents,ρ,u,F,h=>by simpa only [T] using h
  | .imp k ents,ρ,u,F,h=>by simp only [T] at h ⊢;obtain ⟨hF,F',h1,h2⟩:=h;exact ⟨hF,F',h1,fun b hb=>hI b (h2 b hb)⟩
  | .fn f first caps,ρ,u,F,h=>by simp only [T] at h ⊢;obtain ⟨us,vs,F1,F2,hu,hF,h1,h2⟩:=h;exact ⟨us,vs,F1,F2,hu,hF,Vals.mono hI first h1,Vals.mono hI caps h2⟩
theorem Cells.mono {I I':Nat→Prop}{w:World}(hI:∀ b,I b→I' b):∀ (ds:List D) {ρ us F},Cells I w ds ρ us F→Cells I' w ds ρ us F
  | [],_,_,_,h=>by simpa [Cells] using h
  | d::ds,ρ,us,F,h=>by simp only [Cells] at h ⊢;obtain ⟨u,us',F1,F2,e,hF,ho,h1,h2⟩:=h;exact ⟨u,us',F1,F2,e,hF,ho,T.mono hI d h1,Cells.mono hI ds h2⟩
theorem Vals.mono {I I':Nat→Prop}{w:World}(hI:∀ b,I b→I' b):∀ (ds:List D) {ρ us F},Vals I w ds ρ us F→Vals I' w ds ρ us F
  | [],_,_,_,h=>by simpa [Vals] using h
  | d::ds,ρ,us,F,h=>by simp only [Vals] at h ⊢;obtain ⟨u,us',F1,F2,e,hF,h1,h2⟩:=h;exact ⟨u,us',F1,F2,e,hF,T.mono hI d h1,Vals.mono hI ds h2⟩
theorem Rows.mono {I I':Nat→Prop}{w:World}(hI:∀ b,I b→I' b)(sz:Nat):∀ (rs:List (List D)) {raw F},Rows I w sz rs raw F→Rows I' w sz rs raw F
  | [],_,_,h=>by simpa [Rows] using h
  | r::rs,raw,F,h=>by simp only [Rows] at h ⊢;obtain ⟨us,raw',F1,F2,e,hF,hl,h1,h2⟩:=h;exact ⟨us,raw',F1,F2,e,hF,hl,Cells.mono hI r h1,Rows.mono hI sz rs h2⟩
end
mutual
theorem T.turn {I}{ρ ρ':D→Value→Prop}{w:World}{q:D→Bool}(hρ:∀ x u,q x=true→ρ x u→ρ' x u):∀ (d:D) {u F},T I w d ρ u F→T I w (d.prune q) ρ' u F
  | .undef,_,_,h=>by simpa [T,D.prune] using h
  | .nils,_,_,h=>by simpa [T,D.prune] using h
  | .v _,_,_,h=>by simpa [T,D.prune] using h
  | .sl own sz rows,u,F,h=>by simpa only [T,D.prune] using h
  | .agg cs,u,F,h=>by simp only [T,D.prune] at h ⊢;obtain ⟨us,e,hc⟩:=h;exact ⟨us,e,Cells.turn hρ cs hc⟩
  | .tup vs,u,F,h=>by simp only [T,D.prune] at h ⊢;obtain ⟨us,e,hc⟩:=h;exact ⟨us,e,Vals.turn hρ vs hc⟩
  | .ref r p,u,F,h=>by
    by_cases hq:q (.ref r p)=true
    · simp only [T,D.prune,hq,if_true] at h ⊢;exact ⟨hρ _ _ hq h.1,h.2⟩
    · simp only [T,D.prune,hq] at h ⊢;exact h.2
  | .ptr r p i j,u,F,h=>by
    by_cases hq:q (.ptr r p i j)=true
    · simp only [T,D.prune,hq,if_true] at h ⊢;exact ⟨hρ _ _ hq h.1,h.2⟩
    · simp only [T,D.prune,hq] at h ⊢;exact h.2
  | .sub r p i n,u,F,h=>by
    by_cases hq:q (.sub r p i n)=true
    · simp only [T,D.prune,hq,if_true] at h ⊢;exact ⟨h.1.imp_left (hρ _ _ hq),h.2⟩
    · simp only [T,D.prune,hq] at h ⊢;exact h.2
  | .iptr cells j,u,F,h=>by simpa only [T,D.prune] using h
  | .box tag cells,u,F,h=>by simp only [T,D.prune] at h ⊢;obtain ⟨b,cs,e,F',hu,htg,hh,hF,hc⟩:=h;exact ⟨b,cs,e,F',hu,htg,hh,hF,Cells.turn hρ cells hc⟩
  | .mp k ents,u,F,h=>by simpa only [T,D.prune] using h
  | .imp k ents,u,F,h=>by simpa only [T,D.prune] using h
  | .fn f first caps,u,F,h=>by simp only [T,D.prune] at h ⊢;obtain ⟨us,vs,F1,F2,hu,hF,h1,h2⟩:=h;exact ⟨us,vs,F1,F2,hu,hF,Vals.turn hρ first h1,Vals.turn hρ caps h2⟩
theorem Cells.turn {I}{ρ ρ':D→Value→Prop}{w:World}{q:D→Bool}(hρ:∀ x u,q x=true→ρ x u→ρ' x u):∀ (ds:List D) {us F},Cells I w ds ρ us F→Cells I w (pruneL q ds) ρ' us F
  | [],_,_,h=>by simpa [Cells,pruneL] using h
  | d::ds,us,F,h=>by simp only [Cells,pruneL] at h ⊢;obtain ⟨u,us',F1,F2,e,hF,ho,h1,h2⟩:=h;exact ⟨u,us',F1,F2,e,hF,ho,T.turn hρ d h1,Cells.turn hρ ds h2⟩
theorem Vals.turn {I}{ρ ρ':D→Value→Prop}{w:World}{q:D→Bool}(hρ:∀ x u,q x=true→ρ x u→ρ' x u):∀ (ds:List D) {us F},Vals I w ds ρ us F→Vals I w (pruneL q ds) ρ' us F
  | [],_,_,h=>by simpa [Vals,pruneL] using h
  | d::ds,us,F,h=>by simp only [Vals,pruneL] at h ⊢;obtain ⟨u,us',F1,F2,e,hF,h1,h2⟩:=h;exact ⟨u,us',F1,F2,e,hF,T.turn hρ d h1,Vals.turn hρ ds h2⟩
end
mutual
theorem D.prune_yes:∀ d:D,d.prune (fun _=>true)=d
  | .undef=>by simp [D.prune]
  | .nils=>by simp [D.prune]
  | .v _=>by simp [D.prune]
  | .sl _ _ _=>by simp [D.prune]
  | .agg cs=>by simp [D.prune,pruneL_yes cs]
  | .tup cs=>by simp [D.prune,pruneL_yes cs]
  | .ref _ _=>by simp [D.prune]
  | .ptr _ _ _ _=>by simp [D.prune]
  | .sub _ _ _ _=>by simp [D.prune]
  | .iptr _ _=>by simp [D.prune]
  | .box _ cs=>by simp [D.prune,pruneL_yes cs]
  | .mp _ _=>by simp [D.prune]
  | .imp _ _=>by simp [D.prune]
  | .fn _ a b=>by simp [D.prune,pruneL_yes a,pruneL_yes b]
theorem pruneL_yes:∀ ds:List D,pruneL (fun _=>true) ds=ds
  | []=>by simp [pruneL]
  | d::ds=>by simp [pruneL,D.prune_yes d,pruneL_yes ds]
end
theorem T.res {I}{ρ ρ':D→Value→Prop}{w:World}{d:D}{u F}(h:T I w d ρ u F)(hρ:∀ x u,ρ x u→ρ' x u):T I w d ρ' u F:=by have:=T.turn (q:=fun _=>true) (fun x u _=>hρ x u) d h;rwa [D.prune_yes] at this
theorem Cells.res {I}{ρ ρ':D→Value→Prop}{w:World}{d:List D}{u F}(h:Cells I w d ρ u F)(hρ:∀ x u,ρ x u→ρ' x u):Cells I w d ρ' u F:=by have:=Cells.turn (q:=fun _=>true) (fun x u _=>hρ x u) d h;rwa [pruneL_yes] at this
theorem Vals.res {I}{ρ ρ':D→Value→Prop}{w:World}{d:List D}{u F}(h:Vals I w d ρ u F)(hρ:∀ x u,ρ x u→ρ' x u):Vals I w d ρ' u F:=by have:=Vals.turn (q:=fun _=>true) (fun x u _=>hρ x u) d h;rwa [pruneL_yes] at this
theorem Cells.len {I w}:∀ {ds:List D} {ρ us F},Cells I w ds ρ us F→us.length=ds.length
  | [],_,_,_,h=>by simp only [Cells] at h;simp [h.1]
  | d::ds,_,_,_,h=>by simp only [Cells] at h;obtain ⟨u,us',F1,F2,e,_,_,_,h2⟩:=h;simp [e,Cells.len h2]
theorem Vals.len {I w}:∀ {ds:List D} {ρ us F},Vals I w ds ρ us F→us.length=ds.length
  | [],_,_,_,h=>by simp only [Vals] at h;simp [h.1]
  | d::ds,_,_,_,h=>by simp only [Vals] at h;obtain ⟨u,us',F1,F2,e,_,_,h2⟩:=h;simp [e,Vals.len h2]
theorem Rows.len {I w sz}:∀ {rs:List (List D)} {raw F},Rows I w sz rs raw F→raw.length=rs.length*sz
  | [],_,_,h=>by simp only [Rows] at h;simp [h.1]
  | r::rs,_,_,h=>by simp only [Rows] at h;obtain ⟨us,raw',F1,F2,e,_,hl,_,h2⟩:=h;rw [e,List.length_append,hl,Rows.len h2,List.length_cons,Nat.add_mul,Nat.one_mul,Nat.add_comm]
theorem Cells.focus {I w}:∀ {ds:List D} {ρ us F} (j:Nat) {c:D},Cells I w ds ρ us F→ds[j]?=some c →
    ∃ pre u post A F' B,us=pre++u::post∧pre.length=j∧F=A++F'++B∧u.oneCell'=true∧T I w c ρ u F' ∧
      ∀ (w2:World) (ρ2:D→Value→Prop) (q:D→Bool) c2 u2 F2,(∀ x,I x∨x∈A∨x∈B→w2.heap[x]?=w.heap[x]?)→(∀ x u,q x=true→ρ x u→ρ2 x u)→u2.oneCell'=true→T I w2 c2 ρ2 u2 F2 →
        Cells I w2 ((pruneL q ds).set j c2) ρ2 (pre++u2::post) (A++F2++B)
  | [],_,_,_,_,_,_,hc=>by simp at hc
  | d::ds,ρ,us,F,0,c,h,hc=>by
    simp only [Cells] at h;obtain ⟨u,us',F1,F2,e,hF,ho,h1,h2⟩:=h;obtain rfl:d=c:=by simpa using hc
    refine ⟨[],u,us',[],F1,F2,by simpa using e,rfl,by simpa using hF,ho,h1,fun w2 ρ2 q c2 u2 F3 hk hρ ho2 ht=>?_⟩;simp only [pruneL,List.set_cons_zero,Cells];exact ⟨u2,us',F3,F2,rfl,by simp,ho2,ht,Cells.turn hρ ds (Cells.keep ds h2 (fun b hb=>hk b (by rcases hb with h | h<;>simp [h])))⟩
  | d :: ds,ρ,us,F,j+1,c,h,hc=>by
    simp only [Cells] at h;obtain ⟨u,us',F1,F2,e,hF,ho,h1,h2⟩:=h;obtain ⟨pre,u',post,A,F',B,e',hl,hF',ho',ht,hup⟩:=Cells.focus j h2 (by simpa using hc);subst hF';subst hF;subst e';subst e;refine ⟨u::pre,u',post,F1++A,F',B,by simp,by simp [hl],by simp,ho',ht,fun w2 ρ2 q c2 u2 F3 hk hρ ho2 ht2=>?_⟩;simp only [pruneL,List.set_cons_succ,Cells];exact ⟨u,pre++u2::post,F1,A++F3++B,rfl,by simp,ho,T.turn hρ d (T.keep d h1 (fun b hb=>hk b (by rcases hb with h | h<;>simp [h]))),
      hup w2 ρ2 q c2 u2 F3 (fun x hx=>hk x (by rcases hx with h | h | h<;>simp [h])) hρ ho2 ht2⟩
theorem Rows.focus {I w sz}:∀ {rs:List (List D)} {raw F} (i j:Nat) {row:List D} {c:D},Rows I w sz rs raw F→rs[i]?=some row→row[j]?=some c →
    ∃ pre u post A F' B,raw=pre++u::post∧pre.length=i*sz+j∧F=A++F'++B∧u.oneCell'=true∧T I w c nil u F' ∧
      ∀ (w2:World) c2 u2 F2,(∀ x,I x∨x∈A∨x∈B→w2.heap[x]?=w.heap[x]?)→u2.oneCell'=true→T I w2 c2 nil u2 F2 →
        Rows I w2 sz (rs.set i (row.set j c2)) (pre++u2::post) (A++F2++B)
  | [],_,_,_,_,_,_,_,hc,_=>by simp at hc
  | r::rs,raw,F,0,j,row,c,h,hi,hj=>by
    simp only [Rows] at h;obtain ⟨us,raw',F1,F2,e,hF,hl,h1,h2⟩:=h;obtain rfl:r=row:=by simpa using hi
    obtain ⟨pre,u,post,A,F',B,e',hl',hF',ho,ht,hup⟩:=Cells.focus j h1 hj;subst hF';subst hF;subst e';subst e;refine ⟨pre,u,post++raw',A,F',B++F2,by simp,by omega,by simp,ho,ht,fun w2 c2 u2 F3 hk ho2 ht2=>?_⟩;simp only [List.set_cons_zero,Rows];have:=hup w2 nil (fun _=>true) c2 u2 F3 (fun x hx=>hk x (by rcases hx with h | h | h<;>simp [h])) (fun _ _ _ h=>h) ho2 ht2;rw [pruneL_yes] at this;exact ⟨pre++u2::post,raw',A++F3++B,F2,by simp,by simp,by simpa using hl,this,Rows.keep sz rs h2 (fun b hb=>hk b (by rcases hb with h | h<;>simp [h]))⟩
  | r :: rs,raw,F,i+1,j,row,c,h,hi,hj=>by
    simp only [Rows] at h;obtain ⟨us,raw',F1,F2,e,hF,hl,h1,h2⟩:=h;obtain ⟨pre,u,post,A,F',B,e',hl',hF',ho,ht,hup⟩:=Rows.focus i j h2 (by simpa using hi) hj;subst hF';subst hF;subst e';subst e;refine ⟨us++pre,u,post,F1++A,F',B,by simp,by rw [List.length_append,hl,hl',Nat.add_mul];omega,by simp,ho,ht,fun w2 c2 u2 F3 hk ho2 ht2=>?_⟩;simp only [List.set_cons_succ,Rows];exact ⟨us,pre++u2::post,F1,A++F3++B,by simp,by simp,hl,Cells.keep r h1 (fun b hb=>hk b (by rcases hb with h | h<;>simp [h])),
      hup w2 c2 u2 F3 (fun x hx=>hk x (by rcases hx with h | h | h<;>simp [h])) ho2 ht2⟩
end Go.V
namespace Go.V
open Go.RowKit
abbrev Path:=List (Nat×Nat)
def D.cont:D→Option (Nat×List (List D))
  | .sl true sz rows=>some (sz,rows)
  | .box _ cells=>some (cells.length,[cells])
  | .mp _ _=>some (0,[])
  | _=>none
def treeAt:D→Path→Option D
  | d,[]=>some d
  | d,(i,j)::p=>match d.cont with
    | some (_,rows)=>match rows[i]? with
      | some row=>match row[j]? with
        | some c=>treeAt c p
        | none=>none
      | none=>none
    | none=>none
def D.withCont:D→List (List D)→D
  | .sl o sz _,rows=>.sl o sz rows
  | .box t _,cells::_=>.box t cells
  | d,_=>d
def setAt:D→Path→D→D
  | _,[],c=>c
  | d,(i,j)::p,c=>match d.cont with
    | some (_,rows)=>match rows[i]? with
      | some row=>match row[j]? with
        | some x=>d.withCont (rows.set i (row.set j (setAt x p c)))
        | none=>d
      | none=>d
    | none=>d
def baseOf:Value→Option (Nat×Nat)
  | .pointer (some ⟨b,o,none⟩)=>some (b,o)
  | .slice (some ⟨b,o,none⟩) _ _=>some (b,o)
  | _=>none
def adrAt (w:World):Value→D→Path→Option (Nat×Nat)
  | _,_,[]=>none
  | u,d, (i,j)::p=>match d.cont,baseOf u with
    | some (sz,rows),some (b,o)=>match p with
      | []=>some (b,o+i*sz+j)
      | x :: p'=>match rows[i]? with
        | some row=>match row[j]?,w.cell? ⟨b,o+i*sz+j,none⟩ with
          | some c,some u'=>adrAt w u' c (x::p')
          | _,_=>none
        | none=>none
    | _,_=>none
def resAt:D→Path→(D→Value→Prop)→(D→Value→Prop)
  | _,[],_=>nil
  | .box _ _,[_],ρ=>ρ
  | .box _ cells,(_,j)::y::p,ρ=>match cells[j]? with
    | some x=>resAt x (y::p) ρ
    | none=>nil
  | _,_::_,_=>nil
theorem resAt_nil:∀ (p:Path) (d:D),resAt d p nil=nil
  | [],d=>by cases d<;>rfl
  | [y],d=>by cases d<;>rfl
  | y::z::p,d=>by
    cases d<;>simp only [resAt];split
    · exact resAt_nil _ _
    · rfl
theorem setCell_here (w:World)(b o:Nat)(u:Value)(cells:Array Value)(e:TypeId)(f:Nat×Nat)(h:w.heap[b]?=some (.cells cells e f)) :
    (w.setCell ⟨b,o,none⟩ u).heap[b]?=some (.cells (cells.setIfInBounds o u) e f):=by
  simp only [World.setCell,Array.getElem?_modify,h];simp
theorem cell_row {w:World}{b o:Nat}{cells:Array Value}{e:TypeId}{f:Nat×Nat}(h:w.heap[b]?=some (.cells cells e f)):w.cell? ⟨b,o,none⟩=cells[o]?:=by simp [World.cell?,h]
theorem rangeAt_set {w w2:World} {b o:Nat} {cells:Array Value} {e:TypeId} {pre post:List Value} {u u2:Value} (h:w.heap[b]?=some (.cells cells e (0,0))) (hr:w.rangeAt b o (pre++u::post))
    (h2:w2.heap[b]?=some (.cells (cells.setIfInBounds (o+pre.length) u2) e (0,0))):w2.rangeAt b o (pre++u2::post):=by
  intro j v hj;rw [cell_row h2];have hs:=hr pre.length u (by simp);rw [cell_row h] at hs;have hlt:=(Array.getElem?_eq_some_iff.1 hs).1;by_cases hjl:j=pre.length
  · subst hjl;simp at hj;subst hj;simp [hlt]
  · have hj':(pre++u::post)[j]?=some v:=by
      rcases Nat.lt_or_gt_of_ne hjl with h3 | h3
      · rw [List.getElem?_append_left h3] at hj ⊢;exact hj
      · rw [List.getElem?_append_right (by omega)] at hj ⊢;obtain ⟨k,hk⟩:∃ k,j-pre.length=k+1:=⟨j-pre.length-1,by omega⟩
        rw [hk] at hj ⊢;simpa using hj
    have:=hr j v hj';rw [cell_row h] at this;rw [Array.getElem?_setIfInBounds_ne (by omega)];exact this
theorem T.focus {I:Nat→Prop} {w:World}:∀ (p:Path) (d:D) {ρ:D→Value→Prop} {u:Value} {F:List Nat} {c:D},T I w d ρ u F→F.Nodup→(∀ b,b∈F→¬ I b)→p≠[]→treeAt d p=some c →
    ∃ b o u' A F' B cells e,adrAt w u d p=some (b,o)∧w.cell? ⟨b,o,none⟩=some u'∧w.heap[b]?=some (.cells cells e (0,0))∧F=A++F'++B∧b∈A∧u'.oneCell'=true∧T I w c (resAt d p ρ) u' F' ∧
      ∀ (w2:World) (ρ2:D→Value→Prop) (q:D→Bool) (c2:D) (u2:Value) (F2:List Nat),(∀ x,x≠b→I x∨x∈A∨x∈B→w2.heap[x]?=w.heap[x]?)→w2.heap[b]?=some (.cells (cells.setIfInBounds o u2) e (0,0)) →
        (∀ x u,q x=true→ρ x u→ρ2 x u)→u2.oneCell'=true→T I w2 c2 (resAt d p ρ2) u2 F2→T I w2 (setAt (d.prune q) p c2) ρ2 u (A++F2++B)
  | [],_,_,_,_,_,_,_,_,h,_=>absurd rfl h
  | (i, j)::p,d,ρ,u,F,c,h,hnd,hI,_,hc=>by
    cases d with
    | sl own sz rows =>
      cases own with
      | false=>simp [treeAt,D.cont] at hc
      | true =>
        simp only [treeAt,D.cont] at hc;cases hi:rows[i]? with
        | none=>simp [hi] at hc
        | some row =>
        cases hj:row[j]? with
        | none=>simp [hi,hj] at hc
        | some x =>
        simp only [hi,hj] at hc;simp only [T] at h;obtain ⟨a,cp,e,h1,h2,h3⟩:=h;rcases h3 with ⟨ho,_⟩ | ⟨_,h3⟩
        · simp at ho
        rcases h3 with ⟨ha,hcp,hF⟩ | ⟨b,o,cells,et,raw,F',ha,hh,hs,hr,hF,hR⟩
        · have:rows.length=0:=(by omega);have:rows=[]:=List.eq_nil_of_length_eq_zero this;simp [this] at hi
        subst ha;subst hF;obtain ⟨pre,u1,post,A,F1,B,hraw,hpl,hF1,ho1,ht1,hup⟩:=Rows.focus i j hR hi hj;subst hF1;subst hraw;have hcell:w.cell? ⟨b,o+i*sz+j,none⟩=some u1:=by have:=hr pre.length u1 (by simp);rw [hpl] at this;rw [← this];congr 2;omega
        have hbI:¬ I b:=hI b (by simp);have hbn:b∉A∧b∉F1∧b∉B:=(by have:=(List.nodup_cons.1 hnd).1;simp at this;exact ⟨this.1,this.2.1,this.2.2⟩);cases p with
        | nil =>
          simp only [treeAt,Option.some.injEq] at hc;subst hc;refine ⟨b,o+i*sz+j,u1,b::A,F1,B,cells,et,by simp [adrAt,D.cont,e,baseOf],hcell,hh,by simp,by simp,ho1,ht1,?_⟩;intro w2 ρ2 q c2 u2 F2 hk hb2 hρ ho2 ht2;simp only [D.prune,setAt,D.cont,hi,hj,D.withCont,T,List.length_set];have hRR:=hup w2 c2 u2 F2 (fun y hy=>hk y (by rintro rfl;rcases hy with hy | hy | hy;exact hbI hy;exact hbn.1 hy;exact hbn.2.2 hy) (by rcases hy with hy | hy | hy<;>simp [hy])) ho2 ht2;have heq:o+pre.length=o+i*sz+j:=by omega
          refine ⟨some ⟨b,o,none⟩,cp,e,h1,h2,.inr ⟨trivial,.inr ⟨b,o,_,et,pre++u2::post,A++F2++B,rfl,hb2,by simpa using hs,rangeAt_set hh hr (by rw [heq];exact hb2),by simp,hRR⟩⟩⟩
        | cons y p' =>
          obtain ⟨b',o',u',A',F'',B',cells',e',hadr,hcl,hh',hFF,hbA,hou,htt,hup'⟩:=T.focus (y::p') x ht1 (by
            have:=(List.nodup_cons.1 hnd).2;exact (List.nodup_append.1 (List.nodup_append.1 this).1).2.1) (fun z hz=>hI z (by simp [hz])) (by simp) hc
          subst hFF;have hres:resAt x (y::p') nil=nil:=resAt_nil _ _;refine ⟨b',o',u',b::(A++A'),F'',B'++B,cells',e',by simp [adrAt,D.cont,e,baseOf,hi,hj,hcell,hadr],hcl,hh',by simp,by simp [hbA],hou,by rw [hres] at htt;simpa [resAt] using htt,?_⟩;intro w2 ρ2 q c2 u2 F2 hk hb2 hρ ho2 ht2;simp only [D.prune,setAt,D.cont,hi,hj,D.withCont,T,List.length_set];have hne:b≠b':=by rintro rfl;exact hbn.2.1 (by simp [hbA])
          have hnd2:(A++(A'++F''++B')++B).Nodup:=(List.nodup_cons.1 hnd).2;have hb'o:b'∉A∧b'∉B:=by
            constructor
            · intro hz;have:=(List.nodup_append.1 (List.nodup_append.1 hnd2).1).2.2;exact this b' hz b' (by simp [hbA]) rfl
            · intro hz;have:=(List.nodup_append.1 hnd2).2.2;exact this b' (by simp [hbA]) b' hz rfl
          have hb'I:¬ I b':=hI b' (by simp [hbA]);have ht3:=hup' w2 nil (fun _=>true) c2 u2 F2 (fun z hz hz2=>hk z hz (by rcases hz2 with hz2 | hz2 | hz2<;>simp [hz2])) hb2 (fun _ _ _ h=>h) ho2 (by rw [hres];simpa [resAt] using ht2);rw [D.prune_yes] at ht3;have hRR:=hup w2 (setAt x (y::p') c2) u1 (A'++F2++B') (fun z hz=>hk z (by rintro rfl;rcases hz with hz | hz | hz;exact hb'I hz;exact hb'o.1 hz;exact hb'o.2 hz) (by rcases hz with hz | hz | hz<;>simp [hz])) ho1 ht3;have hbw:=hk b hne (by simp);have hset:rows.set i (row.set j (setAt x (y::p') c2))=rows.set i (row.set j (setAt x (y::p') c2)):=rfl;refine ⟨some ⟨b,o,none⟩,cp,e,h1,h2,.inr ⟨trivial,.inr ⟨b,o,cells,et,pre++u1::post,A++(A'++F2++B')++B,rfl,hbw.trans hh,hs,rangeAt_keep hbw hr,by simp,hRR⟩⟩⟩
    | box tag cells =>
      simp only [treeAt,D.cont] at hc;cases i with
      | succ i=>simp at hc
      | zero =>
      simp only [List.getElem?_cons_zero] at hc;cases hj:cells[j]? with
      | none=>simp [hj] at hc
      | some x =>
      simp only [hj] at hc;simp only [T] at h;obtain ⟨b,cs,e,F',hu,htg,hh,hF,hcs⟩:=h;subst hF;subst hu;obtain ⟨pre,u1,post,A,F1,B,hraw,hpl,hF1,ho1,ht1,hup⟩:=Cells.focus j hcs hj;subst hF1;have hcell:w.cell? ⟨b,0+0*cells.length+j,none⟩=some u1:=by rw [cell_row hh,← Array.getElem?_toList,hraw];simp [← hpl]
      have hbI:¬ I b:=hI b (by simp);have hbn:b∉A∧b∉F1∧b∉B:=(by have:=(List.nodup_cons.1 hnd).1;simp at this;exact ⟨this.1,this.2.1,this.2.2⟩);have hpr:∀ q,(pruneL q cells)[j]?=some (x.prune q):=by
        intro q;have:∀ (l:List D) (j:Nat),l[j]?=some x→(pruneL q l)[j]?=some (x.prune q):=by
          intro l;induction l with
          | nil=>intro j h;simp at h
          | cons d l ih=>intro j h;cases j with
            | zero=>simp at h;simp [pruneL,h]
            | succ j=>simp at h;simp [pruneL];exact ih j h
        exact this cells j hj
      cases p with
      | nil =>
        simp only [treeAt,Option.some.injEq] at hc;subst hc;refine ⟨b,0+0*cells.length+j,u1,b::A,F1,B,cs,e,by simp [adrAt,D.cont,baseOf],hcell,hh,by simp,by simp,ho1,ht1,?_⟩;intro w2 ρ2 q c2 u2 F2 hk hb2 hρ ho2 ht2;simp only [D.prune,setAt,D.cont,List.getElem?_cons_zero,hpr,D.withCont,List.set_cons_zero,T];have hRR:=hup w2 ρ2 q c2 u2 F2 (fun y hy=>hk y (by rintro rfl;rcases hy with hy | hy | hy;exact hbI hy;exact hbn.1 hy;exact hbn.2.2 hy) (by rcases hy with hy | hy | hy<;>simp [hy])) hρ ho2 ht2;refine ⟨b,_,e,A++F2++B,rfl,htg,hb2,by simp,?_⟩;have:(cs.setIfInBounds (0+0*cells.length+j) u2).toList=pre++u2::post:=by rw [Array.toList_setIfInBounds,hraw];simp [← hpl]
        rw [this];exact hRR
      | cons y p' =>
        obtain ⟨b',o',u',A',F'',B',cells',e',hadr,hcl,hh',hFF,hbA,hou,htt,hup'⟩:=T.focus (y::p') x ht1 (by
          have:=(List.nodup_cons.1 hnd).2;exact (List.nodup_append.1 (List.nodup_append.1 this).1).2.1) (fun z hz=>hI z (by simp [hz])) (by simp) hc
        subst hFF;refine ⟨b',o',u',b::(A++A'),F'',B'++B,cells',e',by simp only [adrAt,D.cont,baseOf,List.getElem?_cons_zero,hj,hcell,hadr],hcl,hh',by simp,by simp [hbA],hou,by simpa [resAt,hj] using htt,?_⟩;intro w2 ρ2 q c2 u2 F2 hk hb2 hρ ho2 ht2;simp only [D.prune,setAt,D.cont,List.getElem?_cons_zero,hpr,D.withCont,List.set_cons_zero,T];have hne:b≠b':=by rintro rfl;exact hbn.2.1 (by simp [hbA])
        have hnd2:(A++(A'++F''++B')++B).Nodup:=(List.nodup_cons.1 hnd).2;have hb'o:b'∉A∧b'∉B:=by
          constructor
          · intro hz;have:=(List.nodup_append.1 (List.nodup_append.1 hnd2).1).2.2;exact this b' hz b' (by simp [hbA]) rfl
          · intro hz;have:=(List.nodup_append.1 hnd2).2.2;exact this b' (by simp [hbA]) b' hz rfl
        have hb'I:¬ I b':=hI b' (by simp [hbA]);have ht3:=hup' w2 ρ2 q c2 u2 F2 (fun z hz hz2=>hk z hz (by rcases hz2 with hz2 | hz2 | hz2<;>simp [hz2])) hb2 hρ ho2 (by simpa [resAt,hj] using ht2);have hRR:=hup w2 ρ2 q (setAt (x.prune q) (y::p') c2) u1 (A'++F2++B') (fun z hz=>hk z (by rintro rfl;rcases hz with hz | hz | hz;exact hb'I hz;exact hb'o.1 hz;exact hb'o.2 hz) (by rcases hz with hz | hz | hz<;>simp [hz])) hρ ho1 ht3;have hbw:=hk b hne (by simp);refine ⟨b,cs,e,A++(A'++F2++B')++B,rfl,htg,hbw.trans hh,by simp,?_⟩;rw [hraw];exact hRR
    | _=>simp [treeAt,D.cont] at hc
end Go.V
namespace Go.V
open Go.RowKit
def valAt (w:World):Value→D→Path→Option Value
  | u,_,[]=>some u
  | u,d,(i,j)::p=>match d.cont,baseOf u with
    | some (sz,rows),some (b,o)=>match rows[i]? with
      | some row=>match row[j]?,w.cell? ⟨b,o+i*sz+j,none⟩ with
        | some c,some u'=>valAt w u' c p
        | _,_=>none
      | none=>none
    | _,_=>none
theorem treeAt_append:∀ (p:Path) (d:D) (q:Path),treeAt d (p++q)=(treeAt d p).bind (treeAt · q)
  | [],d,q=>rfl
  | (i, j)::p,d,q=>by
    simp only [List.cons_append,treeAt];split
    · split
      · split
        · exact treeAt_append p _ q
        · rfl
      · rfl
    · rfl
theorem adr_snoc {w:World}:∀ (q:Path) (d:D) (u:Value) (i j:Nat) {t:D} {sz:Nat} {rows:List (List D)} {u1:Value} {b o:Nat},treeAt d q=some t→t.cont=some (sz,rows)→valAt w u d q=some u1→baseOf u1=some (b,o) →
    adrAt w u d (q++[(i,j)])=some (b,o+i*sz+j)
  | [],d,u,i,j,t,sz,rows,u1,b,o,h1,h2,h3,h4=>by simp only [treeAt,valAt,Option.some.injEq] at h1 h3;subst h1;subst h3;simp [adrAt,h2,h4]
  | (i',j')::q,d,u,i,j,t,sz,rows,u1,b,o,h1,h2,h3,h4=>by
    simp only [treeAt] at h1;simp only [valAt] at h3;cases hd:d.cont with
    | none=>simp [hd] at h1
    | some x =>
    obtain ⟨sz',rows'⟩:=x;cases hb:baseOf u with
    | none=>simp [hd,hb] at h3
    | some y =>
    obtain ⟨b',o'⟩:=y;simp only [hd,hb] at h1 h3;cases hi:rows'[i']? with
    | none=>simp [hi] at h1
    | some row =>
    simp only [hi] at h1 h3;cases hj:row[j']? with
    | none=>simp [hj] at h1
    | some c =>
    simp only [hj] at h1 h3;cases hc:w.cell? ⟨b',o'+i'*sz'+j',none⟩ with
    | none=>simp [hc] at h3
    | some u' =>
    simp only [hc] at h3;have ih:=adr_snoc q c u' i j h1 h2 h3 h4;cases q with
    | nil=>simp only [List.cons_append,List.nil_append] at ih ⊢;simp only [adrAt,hd,hb,hi,hj,hc];simpa [adrAt] using ih
    | cons y q=>simp only [List.cons_append] at ih ⊢;rw [adrAt];simp only [hd,hb,hi,hj,hc];exact ih
theorem Rows.row_len {I w sz}:∀ {rs:List (List D)} {raw F} {i:Nat} {row:List D},Rows I w sz rs raw F→rs[i]?=some row→row.length=sz
  | [],_,_,_,_,_,h=>by simp at h
  | r::rs,_,_,0,row,h,hi=>by
    simp only [Rows] at h;obtain ⟨us,raw',F1,F2,e,_,hl,hc,h2⟩:=h;obtain rfl:r=row:=by simpa using hi
    rw [← hc.len,hl]
  | r::rs,_,_,i+1,row,h,hi=>by simp only [Rows] at h;obtain ⟨us,raw',F1,F2,e,_,hl,hc,h2⟩:=h;exact Rows.row_len h2 (by simpa using hi)
theorem T.step {I:Nat→Prop} {w:World} {d:D} {ρ:D→Value→Prop} {u:Value} {F:List Nat} (h:T I w d ρ u F) {sz:Nat} {rows:List (List D)} (hd:d.cont=some (sz,rows)) {i j:Nat} {row:List D} {c:D} (hi:rows[i]?=some row) (hj:row[j]?=some c) :
    ∃ b o u' A F' B,baseOf u=some (b,o)∧w.cell? ⟨b,o+i*sz+j,none⟩=some u'∧F=b::(A++F'++B)∧(∃ ρ',T I w c ρ' u' F'∧(ρ'=ρ∨ρ'=nil))∧j<sz∧u'.oneCell'=true∧(∃ cells e,w.heap[b]?=some (.cells cells e (0,0))) ∧
      (∀ i2 j2 row2 c2,¬ (i2=i∧j2=j)→rows[i2]?=some row2→row2[j2]?=some c2→∃ u2 F2,w.cell? ⟨b,o+i2*sz+j2,none⟩=some u2∧(∃ ρ',T I w c2 ρ' u2 F2)∧(∀ x,x∈F2→x∈A∨x∈B)):=by
  cases d with
  | sl own sz' rows' =>
    cases own with
    | false=>simp [D.cont] at hd
    | true =>
      simp only [D.cont,Option.some.injEq,Prod.mk.injEq] at hd;obtain ⟨rfl,rfl⟩:=hd;simp only [T] at h;obtain ⟨a,cp,e,h1,h2,h3⟩:=h;rcases h3 with ⟨ho,_⟩ | ⟨_,h3⟩
      · simp at ho
      rcases h3 with ⟨ha,hcp,hF⟩ | ⟨b,o,cells,et,raw,F',ha,hh,hs,hr,hF,hR⟩
      · have:rows'.length=0:=(by omega);have:rows'=[]:=List.eq_nil_of_length_eq_zero this;simp [this] at hi
      subst ha;subst hF;have hR0:=hR;obtain ⟨pre,u1,post,A,F1,B,hraw,hpl,hF1,ho1,ht1,hup⟩:=Rows.focus i j hR hi hj;subst hF1;subst hraw;have hcell:w.cell? ⟨b,o+i*sz'+j,none⟩=some u1:=by have:=hr pre.length u1 (by simp);rw [hpl] at this;rw [← this];congr 2;omega
      have hjl:j<sz':=(by rw [← Rows.row_len hR0 hi];exact (List.getElem?_eq_some_iff.1 hj).1);refine ⟨b,o,u1,A,F1,B,by simp [e,baseOf],hcell,by simp,⟨nil,ht1,.inr rfl⟩,hjl,ho1,⟨cells,et,hh⟩,?_⟩;intro i2 j2 row2 c2 hne hi2 hj2
      -- take out the first, put in nothing; then the second
      have hRu:=hup w .undef u1 [] (fun _ _=>rfl) ho1 (by simp [T]);have hj2l:j2<sz':=(by rw [← Rows.row_len hR0 hi2];exact (List.getElem?_eq_some_iff.1 hj2).1);have:∃ row3,(rows'.set i (row.set j .undef))[i2]?=some row3∧row3[j2]?=some c2:=by
        by_cases hii:i2=i
        · subst hii;have hlt:=(List.getElem?_eq_some_iff.1 hi).1;have hrr:row=row2:=by rw [hi] at hi2;simpa using hi2
          subst hrr;refine ⟨row.set j .undef,by simp [hlt],?_⟩;rw [List.getElem?_set_ne (by intro h;exact hne ⟨rfl,h.symm⟩)];exact hj2
        · exact ⟨row2,by rw [List.getElem?_set_ne (by omega)];exact hi2,hj2⟩
      obtain ⟨row3,h3a,h3b⟩:=this;obtain ⟨pre2,u2,post2,A2,F2,B2,hraw2,hpl2,hF2,_,ht2,_⟩:=Rows.focus i2 j2 hRu h3a h3b;refine ⟨u2,F2,?_,⟨nil,ht2⟩,fun x hx=>?_⟩
      · have:=hr pre2.length u2 (by rw [hraw2];simp);rw [hpl2] at this;rw [← this];congr 2;omega
      · have:x∈A++[]++B:=(by rw [hF2];simp [hx]);simpa using this
  | box tag cells =>
    simp only [D.cont,Option.some.injEq,Prod.mk.injEq] at hd;obtain ⟨rfl,rfl⟩:=hd;cases i with
    | succ i=>simp at hi
    | zero =>
    obtain rfl:cells=row:=(by simpa using hi);simp only [T] at h;obtain ⟨b,cs,e,F',hu,htg,hh,hF,hcs⟩:=h;subst hF;subst hu;obtain ⟨pre,u1,post,A,F1,B,hraw,hpl,hF1,ho1,ht1,hup⟩:=Cells.focus j hcs hj;subst hF1;have hcell:w.cell? ⟨b,0+0*cells.length+j,none⟩=some u1:=(by rw [cell_row hh,← Array.getElem?_toList,hraw];simp [← hpl]);refine ⟨b,0,u1,A,F1,B,by simp [baseOf],hcell,by simp,⟨ρ,ht1,.inl rfl⟩,(List.getElem?_eq_some_iff.1 hj).1,ho1,⟨cs,e,hh⟩,?_⟩;intro i2 j2 row2 c2 hne hi2 hj2;cases i2 with
    | succ i2=>simp at hi2
    | zero =>
    obtain rfl:cells=row2:=(by simpa using hi2);have hRu:=hup w ρ (fun _=>true) .undef u1 [] (fun _ _=>rfl) (fun _ _ _ h=>h) ho1 (by simp [T]);rw [pruneL_yes] at hRu;have hjj:j2≠j:=fun h=>hne ⟨rfl,h⟩;obtain ⟨pre2,u2,post2,A2,F2,B2,hraw2,hpl2,hF2,_,ht2,_⟩:=Cells.focus j2 hRu (by rw [List.getElem?_set_ne (Ne.symm hjj)];exact hj2);refine ⟨u2,F2,?_,⟨ρ,ht2⟩,fun x hx=>?_⟩
    · rw [cell_row hh,← Array.getElem?_toList,hraw,hraw2];simp [← hpl2]
    · have:x∈A++[]++B:=(by rw [hF2];simp [hx]);simpa using this
  | mp k ents=>simp only [D.cont,Option.some.injEq,Prod.mk.injEq] at hd;obtain ⟨rfl,rfl⟩:=hd;simp at hi
  | _=>simp [D.cont] at hd
theorem val_frame {I:Nat→Prop}{w w':World}:∀ (p:Path) (d:D) {ρ:D→Value→Prop} {u:Value} {F:List Nat} {c:D},T I w d ρ u F→treeAt d p=some c→(∀ b,b∈F→w'.heap[b]?=w.heap[b]?)→valAt w' u d p=valAt w u d p
  | [],_,_,_,_,_,_,_,_=>rfl
  | (i,j)::p,d,ρ,u,F,c,h,hc,hk=>by
    simp only [treeAt] at hc;cases hd:d.cont with
    | none=>simp [hd] at hc
    | some x =>
    obtain ⟨sz,rows⟩:=x;simp only [hd] at hc;cases hi:rows[i]? with
    | none=>simp [hi] at hc
    | some row =>
    cases hj:row[j]? with
    | none=>simp [hi,hj] at hc
    | some c' =>
    simp only [hi,hj] at hc;obtain ⟨b,o,u',A,F',B,hb,hcl,hF,⟨ρ',ht,_⟩,_⟩:=T.step h hd hi hj;have hcl':w'.cell? ⟨b,o+i*sz+j,none⟩=some u':=(World.cell?_of_block (w:=w) (a:=⟨b,o+i*sz+j,none⟩) (hk b (by simp [hF]))).trans hcl;simp only [valAt,hd,hb,hi,hj,hcl,hcl'];exact val_frame p c' ht hc (fun x hx=>hk x (by simp [hF,hx]))
end Go.V
namespace Go.V
open Go.RowKit
theorem pruneL_get (q:D→Bool):∀ (l:List D) (j:Nat),(pruneL q l)[j]?=(l[j]?).map (D.prune q)
  | [],j=>by simp [pruneL]
  | d::l,0=>by simp [pruneL]
  | d::l,j+1=>by simp [pruneL,pruneL_get q l j]
theorem pruneL_len (q:D→Bool):∀ (l:List D),(pruneL q l).length=l.length
  | []=>rfl
  | d::l=>by simp [pruneL,pruneL_len q l]
def like (t t':D):Prop:=match t with
  | .sl true sz _=>∃ rows,t'=.sl true sz rows
  | .box tag cells=>∃ cells',t'=.box tag cells'∧cells'.length=cells.length
  | .mp k _=>∃ ents,t'=.mp k ents
  | _=>False
theorem like_prune {t:D}{sz:Nat}{rows:List (List D)}(h:t.cont=some (sz,rows))(q:D→Bool):like t (t.prune q):=by
  cases t with
  | sl own _ _=>cases own with
    | false=>simp [D.cont] at h
    | true=>exact ⟨_,by simp only [D.prune];rfl⟩
  | box tag cells=>exact ⟨pruneL q cells,by simp only [D.prune],pruneL_len q cells⟩
  | mp k ents=>exact ⟨ents,by simp only [D.prune]⟩
  | _=>simp [D.cont] at h
theorem like.cont {t t':D}(h:like t t'){sz:Nat}{rows:List (List D)}(hc:t.cont=some (sz,rows)):∃ rows',t'.cont=some (sz,rows'):=by
  cases t with
  | sl own _ _=>cases own with
    | false=>simp [D.cont] at hc
    | true=>obtain ⟨r,rfl⟩:=h;simp only [D.cont,Option.some.injEq,Prod.mk.injEq] at hc;exact ⟨r,by simp [D.cont,hc.1]⟩
  | box tag cells=>obtain ⟨r,rfl,hl⟩:=h;simp only [D.cont,Option.some.injEq,Prod.mk.injEq] at hc;exact ⟨[r],by simp [D.cont,← hc.1,hl]⟩
  | mp k ents=>obtain ⟨r,rfl⟩:=h;simp only [D.cont,Option.some.injEq,Prod.mk.injEq] at hc;exact ⟨[],by simp [D.cont,hc.1]⟩
  | _=>simp [D.cont] at hc
theorem prune_cont {d:D}{sz:Nat}{rows:List (List D)}(hd:d.cont=some (sz,rows))(q:D→Bool):∃ rows',(d.prune q).cont=some (sz,rows') ∧
    ∀ (i:Nat) (row:List D),rows[i]?=some row→∃ row':List D,rows'[i]?=some row'∧∀ (j:Nat) (x:D),row[j]?=some x→∃ q':D→Bool,row'[j]?=some (x.prune q'):=by
  cases d with
  | sl own _ _=>cases own with
    | false=>simp [D.cont] at hd
    | true=>simp only [D.cont,Option.some.injEq,Prod.mk.injEq] at hd;obtain ⟨rfl,rfl⟩:=hd;exact ⟨_,by simp only [D.prune,D.cont],fun i row hi=>⟨row,hi,fun j x hj=>⟨fun _=>true,by rw [D.prune_yes];exact hj⟩⟩⟩
  | box tag cells =>
    simp only [D.cont,Option.some.injEq,Prod.mk.injEq] at hd;obtain ⟨rfl,rfl⟩:=hd;refine ⟨[pruneL q cells],by simp only [D.prune,D.cont,pruneL_len],fun i row hi=>?_⟩;cases i with
    | succ i=>simp at hi
    | zero=>obtain rfl:cells=row:=(by simpa using hi);exact ⟨pruneL q cells,rfl,fun j x hj=>⟨q,by rw [pruneL_get,hj];rfl⟩⟩
  | mp k ents=>simp only [D.cont,Option.some.injEq,Prod.mk.injEq] at hd;obtain ⟨rfl,rfl⟩:=hd;exact ⟨[],by simp only [D.prune,D.cont],fun i row hi=>by simp at hi⟩
  | _=>simp [D.cont] at hd
theorem tree_prune:∀ (p:Path) (d:D) (q:D→Bool) {t:D},treeAt d p=some t→∃ q',treeAt (d.prune q) p=some (t.prune q')
  | [],d,q,t,h=>by simp only [treeAt,Option.some.injEq] at h;subst h;exact ⟨q,rfl⟩
  | (i,j)::p,d,q,t,h=>by
    simp only [treeAt] at h;cases hd:d.cont with
    | none=>simp [hd] at h
    | some x =>
    obtain ⟨sz,rows⟩:=x;simp only [hd] at h;cases hi:rows[i]? with
    | none=>simp [hi] at h
    | some row =>
    cases hj:row[j]? with
    | none=>simp [hi,hj] at h
    | some c =>
    simp only [hi,hj] at h;obtain ⟨rows',hr,hrow⟩:=prune_cont hd q;obtain ⟨row',hi',hcell⟩:=hrow i row hi;obtain ⟨q',hj'⟩:=hcell j c hj;obtain ⟨q'',h''⟩:=tree_prune p c q' h;exact ⟨q'',by simp only [treeAt,hr,hi',hj',h'']⟩
theorem val_prune {w:World}:∀ (p:Path) (d:D) (q:D→Bool) {t:D} {u:Value},treeAt d p=some t→valAt w u (d.prune q) p=valAt w u d p
  | [],d,q,t,u,h=>rfl
  | (i,j)::p,d,q,t,u,h=>by
    simp only [treeAt] at h;cases hd:d.cont with
    | none=>simp [hd] at h
    | some x =>
    obtain ⟨sz,rows⟩:=x;simp only [hd] at h;cases hi:rows[i]? with
    | none=>simp [hi] at h
    | some row =>
    cases hj:row[j]? with
    | none=>simp [hi,hj] at h
    | some c =>
    simp only [hi,hj] at h;obtain ⟨rows',hr,hrow⟩:=prune_cont hd q;obtain ⟨row',hi',hcell⟩:=hrow i row hi;obtain ⟨q',hj'⟩:=hcell j c hj;simp only [valAt,hd,hr,hi,hi',hj,hj'];cases baseOf u with
    | none=>simp only
    | some y =>
      simp only;obtain ⟨y1,y2⟩:=y;simp only;cases hcl:w.cell? ⟨y1,y2+i*sz+j,none⟩ with
      | none=>simp only [hi,hi',hj,hj']
      | some u'=>simp only [hi,hi',hj,hj'];exact val_prune p c q' h
theorem withCont_cont {d:D}{sz:Nat}{rows:List (List D)}(hd:d.cont=some (sz,rows))(i j:Nat)(row:List D)(x:D)(hi:rows[i]?=some row):(d.withCont (rows.set i (row.set j x))).cont=some (sz,rows.set i (row.set j x)):=by
  cases d with
  | sl own _ _=>cases own with
    | false=>simp [D.cont] at hd
    | true=>simp only [D.cont,Option.some.injEq,Prod.mk.injEq] at hd;obtain ⟨rfl,rfl⟩:=hd;rfl
  | box tag cells =>
    simp only [D.cont,Option.some.injEq,Prod.mk.injEq] at hd;obtain ⟨rfl,rfl⟩:=hd;cases i with
    | succ i=>simp at hi
    | zero=>obtain rfl:cells=row:=(by simpa using hi);simp [D.withCont,D.cont]
  | mp k ents=>simp only [D.cont,Option.some.injEq,Prod.mk.injEq] at hd;obtain ⟨rfl,rfl⟩:=hd;simp at hi
  | _=>simp [D.cont] at hd
theorem like_with {d:D}{sz:Nat}{rows:List (List D)}(hd:d.cont=some (sz,rows))(i j:Nat)(row:List D)(x:D)(hi:rows[i]?=some row):like d (d.withCont (rows.set i (row.set j x))):=by
  cases d with
  | sl own _ _=>cases own with
    | false=>simp [D.cont] at hd
    | true=>exact ⟨_,rfl⟩
  | box tag cells =>
    simp only [D.cont,Option.some.injEq,Prod.mk.injEq] at hd;obtain ⟨rfl,rfl⟩:=hd;cases i with
    | succ i=>simp at hi
    | zero=>obtain rfl:cells=row:=(by simpa using hi);exact ⟨_,rfl,by simp⟩
  | mp k ents=>simp only [D.cont,Option.some.injEq,Prod.mk.injEq] at hd;obtain ⟨rfl,rfl⟩:=hd;simp at hi
  | _=>simp [D.cont] at hd
theorem like_trans {a b c:D}(h:like a b)(k:like b c):like a c:=by
  cases a with
  | sl own _ _=>cases own with
    | false=>exact h.elim
    | true=>obtain ⟨r,rfl⟩:=h;obtain ⟨r',rfl⟩:=k;exact ⟨_,rfl⟩
  | box tag cells=>obtain ⟨r,rfl,h1⟩:=h;obtain ⟨r',rfl,h2⟩:=k;exact ⟨_,rfl,h2.trans h1⟩
  | mp kk ents=>obtain ⟨r,rfl⟩:=h;obtain ⟨r',rfl⟩:=k;exact ⟨_,rfl⟩
  | _=>exact h.elim
theorem adr_mem {I:Nat→Prop}{w:World}:∀ (p:Path) (d:D) {ρ:D→Value→Prop} {u:Value} {F:List Nat} {b o:Nat},T I w d ρ u F→(treeAt d p).isSome→adrAt w u d p=some (b,o)→b∈F
  | [],_,_,_,_,_,_,_,_,h=>by simp [adrAt] at h
  | (i,j)::p,d,ρ,u,F,b,o,h,hs,ha=>by
    simp only [treeAt] at hs;cases hd:d.cont with
    | none=>simp [hd] at hs
    | some x =>
    obtain ⟨sz0,rows0⟩:=x;simp only [hd] at hs;cases hi:rows0[i]? with
    | none=>simp [hi] at hs
    | some row =>
    cases hj:row[j]? with
    | none=>simp [hi,hj] at hs
    | some c =>
    simp only [hi,hj] at hs;obtain ⟨b0,o0,u',A,F',B,hbase,hcl,hF,⟨ρ',ht',_⟩,_⟩:=T.step h hd hi hj;cases p with
    | nil=>simp [adrAt,hd,hbase] at ha;simp [hF,ha.1]
    | cons z p=>have ha':adrAt w u' c (z::p)=some (b,o):=(by simpa [adrAt,hd,hbase,hi,hj,hcl] using ha);have:=adr_mem (z::p) c ht' hs ha';simp [hF,this]
theorem val_keep {I:Nat→Prop} {w w2:World}:∀ (p:Path) (d:D) {ρ:D→Value→Prop} {u:Value} {F:List Nat} {b o:Nat} {cells:Array Value} {e:TypeId} {u2:Value} (q0:D→Bool) (c2:D),T I w d ρ u F→F.Nodup →
    adrAt w u d p=some (b,o)→(treeAt d p).isSome→w.heap[b]?=some (.cells cells e (0,0))→w2.heap[b]?=some (.cells (cells.setIfInBounds o u2) e (0,0))→(∀ x,x∈F→x≠b→w2.heap[x]?=w.heap[x]?) →
    ∀ (q:Path) {t:D} {sz:Nat} {rows:List (List D)},¬ p <+: q→treeAt d q=some t→t.cont=some (sz,rows) →
      valAt w2 u (setAt (d.prune q0) p c2) q=valAt w u d q∧∃ t',treeAt (setAt (d.prune q0) p c2) q=some t'∧like t t'
  | [],d,_,_,_,_,_,_,_,_,_,_,_,_,_,_,_,_,_,q,_,_,_,hn,_,_=>absurd (List.nil_prefix) hn
  | (i, j)::p,d,ρ,u,F,b,o,cells,e,u2,q0,c2,h,hnd,ha,hs,hb1,hb2,hk,q,t,sz,rows,hn,hq,ht=>by
    simp only [treeAt] at hs;cases hd:d.cont with
    | none=>simp [hd] at hs
    | some x =>
    obtain ⟨sz0,rows0⟩:=x;simp only [hd] at hs;cases hi:rows0[i]? with
    | none=>simp [hi] at hs
    | some row =>
    cases hj:row[j]? with
    | none=>simp [hi,hj] at hs
    | some c =>
    simp only [hi,hj] at hs;obtain ⟨b0,o0,u',A,F',B,hbase,hcl,hF,⟨ρ',ht',_⟩,hjl,ho,⟨cells0,e0,hrow0⟩,hoth⟩:=T.step h hd hi hj;obtain ⟨rows',hr,hrw⟩:=prune_cont hd q0;obtain ⟨row',hi',hcell⟩:=hrw i row hi;obtain ⟨q',hj'⟩:=hcell j c hj;have hset:setAt (d.prune q0) ((i,j)::p) c2=(d.prune q0).withCont (rows'.set i (row'.set j (setAt (c.prune q') p c2))):=by simp only [setAt,hr,hi',hj']
    have hcont:=withCont_cont hr i j row' (setAt (c.prune q') p c2) hi';have hlike:=like_with hr i j row' (setAt (c.prune q') p c2) hi';have hil:=(List.getElem?_eq_some_iff.1 hi').1;have hjl':=(List.getElem?_eq_some_iff.1 hj').1;rw [hset];cases q with
    | nil=>simp only [treeAt,Option.some.injEq] at hq;subst hq;exact ⟨rfl,_,rfl,like_trans (like_prune hd q0) hlike⟩
    | cons y q =>
      obtain ⟨i2,j2⟩:=y;simp only [treeAt,hd] at hq;cases hi2:rows0[i2]? with
      | none=>simp [hi2] at hq
      | some row2 =>
      cases hj2:row2[j2]? with
      | none=>simp [hi2,hj2] at hq
      | some cc =>
      simp only [hi2,hj2] at hq;obtain ⟨row2',hi2',hcell2⟩:=hrw i2 row2 hi2;obtain ⟨q2',hj2'⟩:=hcell2 j2 cc hj2;have hnd2:(A++F'++B).Nodup:=by rw [hF] at hnd;exact (List.nodup_cons.1 hnd).2
      have hb0n:b0∉A++F'++B:=(by rw [hF] at hnd;exact (List.nodup_cons.1 hnd).1);by_cases heq:i2=i∧j2=j
      · obtain ⟨rfl,rfl⟩:=heq;obtain rfl:row=row2:=(by rw [hi] at hi2;simpa using hi2);obtain rfl:c=cc:=(by rw [hj] at hj2;simpa using hj2);have hn':¬ p <+: q:=fun hp=>hn (by simpa using hp);cases p with
        | nil=>exact absurd List.nil_prefix hn'
        | cons z p =>
          have ha':adrAt w u' c (z::p)=some (b,o):=(by simpa [adrAt,hd,hbase,hi,hj,hcl] using ha);have hbF:=adr_mem (z::p) c ht' hs ha';have hbb:b0≠b:=(by rintro rfl;exact hb0n (by simp [hbF]));have hcl2:w2.cell? ⟨b0,o0+i2*sz0+j2,none⟩=some u':=(World.cell?_of_block (w:=w) (a:=⟨b0,o0+i2*sz0+j2,none⟩) (hk b0 (by simp [hF]) hbb)).trans hcl;obtain ⟨ih1,t',ih2,ih3⟩:=val_keep (z::p) c q' c2 ht' (List.nodup_append.1 (List.nodup_append.1 hnd2).1).2.1 ha' hs hb1 hb2 (fun x hx=>hk x (by simp [hF,hx])) q hn' hq ht;have hg1:(rows'.set i2 (row'.set j2 (setAt (c.prune q') (z::p) c2)))[i2]?=some (row'.set j2 (setAt (c.prune q') (z::p) c2)):=(by simp [hil]);have hg2:(row'.set j2 (setAt (c.prune q') (z::p) c2))[j2]?=some (setAt (c.prune q') (z::p) c2):=(by simp [hjl']);refine ⟨?_,t',?_,ih3⟩
          · simp only [valAt,hcont,hd,hbase,hi,hj,hcl,hcl2,hg1,hg2,ih1]
          · simp only [treeAt,hcont,hg1,hg2,ih2]
      · obtain ⟨b0',o0',u2',A2,F2,B2,hbase2,hcl2,hF2,⟨ρ2',ht2',_⟩,hjl2,_,_,_⟩:=T.step h hd hi2 hj2;obtain ⟨rfl,rfl⟩:b0'=b0∧o0'=o0:=(by rw [hbase] at hbase2;simpa [eq_comm] using hbase2);obtain ⟨u3,F3,hcl3,⟨ρ3,ht3⟩,hFs⟩:=hoth i2 j2 row2 cc heq hi2 hj2;have hnoff:o0'+i2*sz0+j2≠o0'+i*sz0+j:=by
          intro h0;have h0':i2*sz0+j2=i*sz0+j:=by omega
          have h1:i2=i:=(by have e1:(i2*sz0+j2) / sz0=i2:=(by rw [Nat.mul_comm,Nat.mul_add_div (by omega),Nat.div_eq_of_lt hjl2];omega);have e2:(i*sz0+j) / sz0=i:=(by rw [Nat.mul_comm,Nat.mul_add_div (by omega),Nat.div_eq_of_lt hjl];omega);rw [← e1,← e2,h0']);subst h1;exact heq ⟨rfl,by omega⟩
        have hbcase:b=b0'∧o=o0'+i*sz0+j∨b∈F':=by
          cases p with
          | nil=>simp [adrAt,hd,hbase] at ha;exact .inl ⟨ha.1.symm,ha.2.symm⟩
          | cons z p=>exact .inr (adr_mem (z::p) c ht' hs (by simpa [adrAt,hd,hbase,hi,hj,hcl] using ha))
        have hcl4:w2.cell? ⟨b0',o0'+i2*sz0+j2,none⟩=some u3:=by
          rcases hbcase with ⟨rfl,rfl⟩ | hbF
          · rw [cell_row hb2,Array.getElem?_setIfInBounds_ne (Ne.symm hnoff),← cell_row hb1];exact hcl3
          · have hbb:b0'≠b:=(by rintro rfl;exact hb0n (by simp [hbF]));exact (World.cell?_of_block (w:=w) (a:=⟨b0',o0'+i2*sz0+j2,none⟩) (hk b0' (by simp [hF]) hbb)).trans hcl3
        have hfr:∀ x,x∈F3→w2.heap[x]?=w.heap[x]?:=by
          intro x hx;have hxo:=hFs x hx;refine hk x (by rw [hF];rcases hxo with h | h<;>simp [h]) ?_;rintro rfl;rcases hbcase with ⟨rfl,_⟩ | hbF
          · exact hb0n (by rcases hxo with h | h<;>simp [h])
          · rcases hxo with h | h
            · exact (List.nodup_append.1 (List.nodup_append.1 hnd2).1).2.2 x h x hbF rfl
            · exact (List.nodup_append.1 hnd2).2.2 x (by simp [hbF]) x h rfl
        have hv:=(val_prune q cc q2' (u:=u3) (w:=w2) hq).trans (val_frame q cc ht3 hq hfr);obtain ⟨q'',htp⟩:=tree_prune q cc q2' hq;have hg:∃ rowN,(rows'.set i (row'.set j (setAt (c.prune q') p c2)))[i2]?=some rowN∧rowN[j2]?=some (cc.prune q2'):=by
          by_cases hii:i2=i
          · subst hii;obtain rfl:row'=row2':=by rw [hi'] at hi2';simpa using hi2'
            refine ⟨row'.set j (setAt (c.prune q') p c2),by simp [hil],?_⟩;rw [List.getElem?_set_ne (by intro h0;exact heq ⟨rfl,h0.symm⟩)];exact hj2'
          · exact ⟨row2',by rw [List.getElem?_set_ne (by omega)];exact hi2',hj2'⟩
        obtain ⟨rowN,hg1,hg2⟩:=hg;refine ⟨?_,_,?_,like_prune ht q''⟩
        · simp only [valAt,hcont,hd,hbase,hi2,hj2,hcl3,hcl4,hg1,hg2,hv]
        · simp only [treeAt,hcont,hg1,hg2,htp]
end Go.V
namespace Go.V
open Go.RowKit
def D.ownv:D→Bool
  | .sl true _ _=>true
  | .mp _ _=>true
  | _=>false
theorem ownv_cont {t:D}(h:t.ownv=true):∃ sz rows,t.cont=some (sz,rows):=by
  cases t with
  | sl own sz rows=>cases own with
    | false=>cases h
    | true=>exact ⟨_,_,rfl⟩
  | mp k e=>exact ⟨_,_,rfl⟩
  | _=>cases h
theorem ownv_prune {t:D}(h:t.ownv=true)(q:D→Bool):t.prune q=t:=by
  cases t with
  | sl own sz rows=>simp [D.prune]
  | mp k e=>simp [D.prune]
  | _=>cases h
theorem ownv_unprune {t:D}{q:D→Bool}(h:(t.prune q).ownv=true):t.ownv=true:=by
  cases t with
  | sl own sz rows=>simpa [D.prune] using h
  | mp k e=>rfl
  | ref r p=>simp only [D.prune] at h;split at h<;>cases h
  | ptr r p i j=>simp only [D.prune] at h;split at h<;>cases h
  | sub r p i n=>simp only [D.prune] at h;split at h<;>cases h
  | _=>simp [D.prune,D.ownv] at h
theorem ownv_like {t t':D}(h:t.ownv=true)(k:like t t'):t'.ownv=true:=by
  cases t with
  | sl own sz rows=>cases own with
    | false=>cases h
    | true=>obtain ⟨r,rfl⟩:=k;rfl
  | mp k e=>obtain ⟨r,rfl⟩:=k;rfl
  | _=>cases h
structure Base where
  w:World
  N:Nat→Prop
  new:∀ b,w.heap.size≤b→N b
structure Base.Below (B:Base) (w:World):Prop where
  os:w.os=B.w.os
  tape:w.tape=B.w.tape
  output:w.output=B.w.output
  size:B.w.heap.size≤w.heap.size
  block:∀ k,¬ B.N k→w.heap[k]?=B.w.heap[k]?
structure Base.Keeps (B:Base) (w w':World):Prop where
  os:w'.os=w.os
  tape:w'.tape=w.tape
  output:w'.output=w.output
  size:w.heap.size≤w'.heap.size
  block:∀ k,¬ B.N k→w'.heap[k]?=w.heap[k]?
theorem Base.Below.keeps {B:Base}{w w':World}(h:B.Below w)(k:B.Keeps w w'):B.Below w' :=
  ⟨k.os.trans h.os,k.tape.trans h.tape,k.output.trans h.output,Nat.le_trans h.size k.size,fun i hi=>(k.block i hi).trans (h.block i hi)⟩
theorem Base.Keeps.refl {B:Base}{w:World}:B.Keeps w w:=⟨rfl,rfl,rfl,Nat.le_refl _,fun _ _=>rfl⟩
theorem Base.Keeps.trans {B:Base}{a b c:World}(h:B.Keeps a b)(k:B.Keeps b c):B.Keeps a c :=
  ⟨k.os.trans h.os,k.tape.trans h.tape,k.output.trans h.output,Nat.le_trans h.size k.size,fun i hi=>(k.block i hi).trans (h.block i hi)⟩
theorem Base.Keeps.setCell {B:Base}{w:World}{b:Nat}(hb:B.N b)(o:Nat)(v:Value):B.Keeps w (w.setCell ⟨b,o,none⟩ v) :=
  ⟨rfl,rfl,rfl,by simp [World.setCell],fun k hk=>by
    simp only [World.setCell,Array.getElem?_modify];rw [if_neg (fun (h:b=k)=>hk (h▸hb))]⟩
theorem Base.not {B:Base}{b:Nat}(h:¬ B.N b):b<B.w.heap.size:=Nat.lt_of_not_le fun hb=>h (B.new b hb)
theorem Base.Below.refl {B:Base}:B.Below B.w:=⟨rfl,rfl,rfl,Nat.le_refl _,fun _ _=>rfl⟩
theorem Base.Below.trans {B:Base}{w w':World}(h:B.Below w)(k:Go.RowKit.Below w.heap.size w w'):B.Below w' :=
  ⟨k.os.trans h.os,k.tape.trans h.tape,k.output.trans h.output,Nat.le_trans h.size k.size,fun i hi=>(k.block i (Nat.lt_of_lt_of_le (B.not hi) h.size)).trans (h.block i hi)⟩
theorem Base.N_of {B:Base}{w:World}(h:B.Below w){b:Nat}(hb:w.heap.size≤b):B.N b:=B.new b (Nat.le_trans h.size hb)
def capV:Value→Nat
  | .slice _ _ c=>c
  | _=>0
def ρS (s:List D)(tm:Array Value)(w:World):D→Value→Prop
  | .ref r q,u=>∃ d u0 t,s[r]?=some d∧tm[r]?=some u0∧treeAt d q=some t∧t.ownv=true∧valAt w u0 d q=some u
  | .ptr r q i j,u=>∃ d u0 t sz rows u1 b o,s[r]?=some d∧tm[r]?=some u0∧treeAt d q=some t∧t.cont=some (sz,rows)∧valAt w u0 d q=some u1∧baseOf u1=some (b,o)∧u=.pointer (some ⟨b,o+i*sz+j,none⟩)
  | .sub r q i n,u=>∃ d u0 t sz rows u1 b o cc,s[r]?=some d∧tm[r]?=some u0∧treeAt d q=some t∧t.cont=some (sz,rows)∧valAt w u0 d q=some u1∧baseOf u1=some (b,o)∧n≤cc∧cc≤maxLen∧u=.slice (some ⟨b,o+i*sz,none⟩) n cc∧i+cc≤capV u1
  | _,_=>False
structure RelI (w0:Base) (I0:Nat→Prop) (s:List D) (tm:Array Value) (w:World) (I:Nat→Prop) (Fs:Nat→List Nat):Prop where
  below:w0.Below w
  len:tm.size=s.length
  slot:∀ (r:Nat) (d:D) (u:Value),s[r]?=some d→tm[r]?=some u→T I w d (ρS s tm w) u (Fs r)
  nd:∀ r,(Fs r).Nodup
  disj:∀ r r' b,b∈Fs r→b∈Fs r'→r=r'
  own:∀ r b,b∈Fs r→w0.N b∧b<w.heap.size∧¬ I b
  imm:∀ b,I b→b<w.heap.size
  imm0:∀ b,I0 b→I b
  immN:∀ b,I b→I0 b∨w0.N b
def upd (Fs:Nat→List Nat)(t:Nat)(F:List Nat):Nat→List Nat:=fun k=>if k=t then F else Fs k
theorem treeAt_cont {d:D}{q:Path}{t:D}{sz:Nat}{rows:List (List D)}(h:treeAt d q=some t)(ht:t.cont=some (sz,rows)):d.cont≠none:=by
  intro hd;cases q with
  | nil=>simp only [treeAt,Option.some.injEq] at h;subst h;rw [hd] at ht;cases ht
  | cons y q=>obtain ⟨i,j⟩:=y;simp [treeAt,hd] at h
theorem ρS.put {s:List D}{tm:Array Value}{w:World}{t:Nat}{d0 d:D}{u:Value}(h0:s[t]?=some d0)(hc:d0.cont=none){x:D}{v:Value}(h:ρS s tm w x v):ρS (s.set t d) (tm.setIfInBounds t u) w x v:=by
  cases x with
  | ref r q=>obtain ⟨d',u0,t1,h1,h2,h3,ho,h4⟩:=h;obtain ⟨sz,rows,hcc⟩:=ownv_cont ho;have hne:t≠r:=(by rintro rfl;rw [h0] at h1;cases h1;exact treeAt_cont h3 hcc hc);exact ⟨d',u0,t1,by rw [List.getElem?_set_ne hne];exact h1,by rw [Array.getElem?_setIfInBounds_ne hne];exact h2,h3,ho,h4⟩
  | ptr r q i j=>obtain ⟨d',u0,t',sz,rows,u1,b,o,h1,h2,h3,h4,h5⟩:=h;have hne:t≠r:=(by rintro rfl;rw [h0] at h1;cases h1;exact treeAt_cont h3 h4 hc);exact ⟨d',u0,t',sz,rows,u1,b,o,by rw [List.getElem?_set_ne hne];exact h1,by rw [Array.getElem?_setIfInBounds_ne hne];exact h2,h3,h4,h5⟩
  | sub r q i n=>obtain ⟨d',u0,t',sz,rows,u1,b,o,cc,h1,h2,h3,h4,h5⟩:=h;have hne:t≠r:=(by rintro rfl;rw [h0] at h1;cases h1;exact treeAt_cont h3 h4 hc);exact ⟨d',u0,t',sz,rows,u1,b,o,cc,by rw [List.getElem?_set_ne hne];exact h1,by rw [Array.getElem?_setIfInBounds_ne hne];exact h2,h3,h4,h5⟩
  | _=>exact h.elim
theorem RelI.put {w0 I0 s tm w I Fs}(h:RelI w0 I0 s tm w I Fs){t:Nat}{d0:D}(h0:s[t]?=some d0)(hc:d0.cont=none){d:D}{u:Value}{F:List Nat}(hT:T I w d (ρS s tm w) u F)(hnd:F.Nodup)
    (hF:∀ b,b∈F→w0.N b∧b<w.heap.size∧¬ I b∧∀ r,r≠t→b∉Fs r):RelI w0 I0 (s.set t d) (tm.setIfInBounds t u) w I (upd Fs t F) where
  below:=h.below
  len:=by simp [h.len]
  slot:=by
    intro r d' u' h1 h2;by_cases hr:r=t
    · subst hr;have hlt:=(List.getElem?_eq_some_iff.1 h0).1;have hlt2:r<tm.size:=by rw [h.len];exact hlt
      simp [hlt] at h1;simp [hlt2] at h2;subst h1;subst h2;simp only [upd,if_true];exact hT.res (fun _ _ hx=>hx.put h0 hc)
    · rw [List.getElem?_set_ne (Ne.symm hr)] at h1;rw [Array.getElem?_setIfInBounds_ne (Ne.symm hr)] at h2;simp only [upd,hr,if_false];exact (h.slot r d' u' h1 h2).res (fun _ _ hx=>hx.put h0 hc)
  nd:=by intro r;unfold upd;split;exact hnd;exact h.nd r
  disj:=by
    intro r r' b hb hb';unfold upd at hb hb';split at hb<;>split at hb'
    · omega
    · exact absurd hb' ((hF b hb).2.2.2 r' (by assumption))
    · exact absurd hb ((hF b hb').2.2.2 r (by assumption))
    · exact h.disj r r' b hb hb'
  own:=by
    intro r b hb;unfold upd at hb;split at hb
    · exact ⟨(hF b hb).1,(hF b hb).2.1,(hF b hb).2.2.1⟩
    · exact h.own r b hb
  imm:=h.imm
  imm0:=h.imm0
  immN:=h.immN
theorem ρS.prune {s:List D}{tm:Array Value}{w:World}(q:D→Bool){x:D}{v:Value}(h:ρS s tm w x v):ρS (pruneL q s) tm w x v:=by
  cases x with
  | ref r p=>obtain ⟨d',u0,t1,h1,h2,h3,ho,h4⟩:=h;obtain ⟨q',hq'⟩:=tree_prune p d' q h3;exact ⟨d'.prune q,u0,t1,by rw [pruneL_get,h1];rfl,h2,by rw [ownv_prune ho] at hq';exact hq',ho,by rw [val_prune p d' q h3];exact h4⟩
  | ptr r p i j=>obtain ⟨d',u0,t',sz,rows,u1,b,o,h1,h2,h3,h4,h5,h6⟩:=h;obtain ⟨q',hq'⟩:=tree_prune p d' q h3;obtain ⟨rows',hr'⟩:=(like_prune h4 q').cont h4;exact ⟨d'.prune q,u0,t'.prune q',sz,rows',u1,b,o,by rw [pruneL_get,h1];rfl,h2,hq',hr',by rw [val_prune p d' q h3];exact h5,h6⟩
  | sub r p i n=>obtain ⟨d',u0,t',sz,rows,u1,b,o,cc,h1,h2,h3,h4,h5,h6⟩:=h;obtain ⟨q',hq'⟩:=tree_prune p d' q h3;obtain ⟨rows',hr'⟩:=(like_prune h4 q').cont h4;exact ⟨d'.prune q,u0,t'.prune q',sz,rows',u1,b,o,cc,by rw [pruneL_get,h1];rfl,h2,hq',hr',by rw [val_prune p d' q h3];exact h5,h6⟩
  | _=>exact h.elim
theorem RelI.prune {w0 I0 s tm w I Fs}(h:RelI w0 I0 s tm w I Fs)(q:D→Bool):RelI w0 I0 (pruneL q s) tm w I Fs where
  below:=h.below
  len:=by rw [pruneL_len];exact h.len
  slot:=by
    intro r d u h1 h2;rw [pruneL_get] at h1;cases hs:s[r]? with
    | none=>simp [hs] at h1
    | some d'=>simp [hs] at h1;subst h1;exact T.turn (fun x u _ hx=>hx.prune q) d' (h.slot r d' u hs h2)
  nd:=h.nd
  disj:=h.disj
  own:=h.own
  imm:=h.imm
  imm0:=h.imm0
  immN:=h.immN
def notRoot (r:Nat):D→Bool
  | .ref r' _=>r' != r
  | .ptr r' _ _ _=>r' != r
  | .sub r' _ _ _=>r' != r
  | _=>true
theorem RelI.slot0 {w0 I0 s tm w I Fs}(h:RelI w0 I0 s tm w I Fs){t:Nat}{d:D}(hs:s[t]?=some d):∃ u,tm[t]?=some u∧T I w d (ρS s tm w) u (Fs t):=by have hlt:t<tm.size:=(by rw [h.len];exact (List.getElem?_eq_some_iff.1 hs).1);exact ⟨tm[t],by simp [hlt],h.slot t d _ hs (by simp [hlt])⟩
theorem ρS.forget {s:List D}{tm:Array Value}{w:World}(t:Nat){x:D}{u:Value}(hq:notRoot t x=true)(hx:ρS s tm w x u):ρS ((pruneL (notRoot t) s).set t .undef) tm w x u:=by
  have hx':=hx.prune (notRoot t);cases x with
  | ref r' p=>obtain ⟨d',u0,t1,h1,h2,h3,ho,h4⟩:=hx';exact ⟨d',u0,t1,by rw [List.getElem?_set_ne (by simp [notRoot] at hq;omega)];exact h1,h2,h3,ho,h4⟩
  | ptr r' p i j=>obtain ⟨d',u0,t',sz,rows,u1,b,o,h1,h2,h3,h4,h5,h6⟩:=hx';exact ⟨d',u0,t',sz,rows,u1,b,o,by rw [List.getElem?_set_ne (by simp [notRoot] at hq;omega)];exact h1,h2,h3,h4,h5,h6⟩
  | sub r' p i n=>obtain ⟨d',u0,t',sz,rows,u1,b,o,cc,h1,h2,h3,h4,h5,h6⟩:=hx';exact ⟨d',u0,t',sz,rows,u1,b,o,cc,by rw [List.getElem?_set_ne (by simp [notRoot] at hq;omega)];exact h1,h2,h3,h4,h5,h6⟩
  | _=>exact hx'.elim
theorem RelI.forget {w0 I0 s tm w I Fs} (h:RelI w0 I0 s tm w I Fs) (t:Nat):RelI w0 I0 ((pruneL (notRoot t) s).set t .undef) tm w I (upd Fs t []) where
  below:=h.below
  len:=by rw [List.length_set,pruneL_len];exact h.len
  slot:=by
    intro r d u h1 h2;by_cases hr:r=t
    · subst hr;have hlt:r<s.length:=by rw [← h.len];exact (Array.getElem?_eq_some_iff.1 h2).1
      simp [pruneL_len,hlt] at h1;subst h1;simp [upd,T]
    · rw [List.getElem?_set_ne (Ne.symm hr),pruneL_get] at h1;simp only [upd,hr,if_false];cases hs:s[r]? with
      | none=>simp [hs] at h1
      | some d' =>
        simp [hs] at h1;subst h1;refine T.turn (fun x u hq hx=>?_) d' (h.slot r d' u hs h2);have hx':=hx.prune (notRoot t);cases x with
        | ref r' p=>obtain ⟨d',u0,t1,h1,h2,h3,ho,h4⟩:=hx';exact ⟨d',u0,t1,by rw [List.getElem?_set_ne (by simp [notRoot] at hq;omega)];exact h1,h2,h3,ho,h4⟩
        | ptr r' p i j=>obtain ⟨d',u0,t',sz,rows,u1,b,o,h1,h2,h3,h4,h5,h6⟩:=hx';exact ⟨d',u0,t',sz,rows,u1,b,o,by rw [List.getElem?_set_ne (by simp [notRoot] at hq;omega)];exact h1,h2,h3,h4,h5,h6⟩
        | sub r' p i n=>obtain ⟨d',u0,t',sz,rows,u1,b,o,cc,h1,h2,h3,h4,h5,h6⟩:=hx';exact ⟨d',u0,t',sz,rows,u1,b,o,cc,by rw [List.getElem?_set_ne (by simp [notRoot] at hq;omega)];exact h1,h2,h3,h4,h5,h6⟩
        | _=>exact hx'.elim
  nd:=by intro r;unfold upd;split;exact List.nodup_nil;exact h.nd r
  disj:=by intro r r' b hb hb';unfold upd at hb hb';split at hb<;>split at hb' <;> first | (simp at hb;done) | (simp at hb';done) | exact h.disj r r' b hb hb'
  own:=by
    intro r b hb;unfold upd at hb;split at hb
    · simp at hb
    · exact h.own r b hb
  imm:=h.imm
  imm0:=h.imm0
  immN:=h.immN
theorem ρS_world {w0 I0 s tm w I Fs}(h:RelI w0 I0 s tm w I Fs){w':World}(hb:Go.RowKit.Below w.heap.size w w'){x:D}{v:Value}(hx:ρS s tm w x v):ρS s tm w' x v:=by
  cases x with
  | ref r' p=>obtain ⟨d',u0,t1,k1,k2,k3,ho,k4⟩:=hx;exact ⟨d',u0,t1,k1,k2,k3,ho,by rw [val_frame p d' (h.slot r' d' u0 k1 k2) k3 (fun b hb'=>hb.block b (h.own r' b hb').2.1)];exact k4⟩
  | ptr r' p i j=>obtain ⟨d',u0,t',sz,rows,u1,b,o,k1,k2,k3,k4,k5,k6⟩:=hx;exact ⟨d',u0,t',sz,rows,u1,b,o,k1,k2,k3,k4,by rw [val_frame p d' (h.slot r' d' u0 k1 k2) k3 (fun b hb'=>hb.block b (h.own r' b hb').2.1)];exact k5,k6⟩
  | sub r' p i n=>obtain ⟨d',u0,t',sz,rows,u1,b,o,cc,k1,k2,k3,k4,k5,k6⟩:=hx;exact ⟨d',u0,t',sz,rows,u1,b,o,cc,k1,k2,k3,k4,by rw [val_frame p d' (h.slot r' d' u0 k1 k2) k3 (fun b hb'=>hb.block b (h.own r' b hb').2.1)];exact k5,k6⟩
  | _=>exact hx.elim
theorem RelI.world {w0 I0 s tm w I Fs}(h:RelI w0 I0 s tm w I Fs){w':World}(hb:Go.RowKit.Below w.heap.size w w'):RelI w0 I0 s tm w' I Fs where
  below:=h.below.trans hb
  len:=h.len
  slot:=by
    intro r d u h1 h2;refine (T.keep d (h.slot r d u h1 h2) (fun b hb'=>hb.block b ?_)).res (fun x v hx=>?_)
    · rcases hb' with hb' | hb'
      · exact h.imm b hb'
      · exact (h.own r b hb').2.1
    · cases x with
      | ref r' p=>obtain ⟨d',u0,t1,k1,k2,k3,ho,k4⟩:=hx;exact ⟨d',u0,t1,k1,k2,k3,ho,by rw [val_frame p d' (h.slot r' d' u0 k1 k2) k3 (fun b hb'=>hb.block b (h.own r' b hb').2.1)];exact k4⟩
      | ptr r' p i j=>obtain ⟨d',u0,t',sz,rows,u1,b,o,k1,k2,k3,k4,k5,k6⟩:=hx;exact ⟨d',u0,t',sz,rows,u1,b,o,k1,k2,k3,k4,by rw [val_frame p d' (h.slot r' d' u0 k1 k2) k3 (fun b hb'=>hb.block b (h.own r' b hb').2.1)];exact k5,k6⟩
      | sub r' p i n=>obtain ⟨d',u0,t',sz,rows,u1,b,o,cc,k1,k2,k3,k4,k5,k6⟩:=hx;exact ⟨d',u0,t',sz,rows,u1,b,o,cc,k1,k2,k3,k4,by rw [val_frame p d' (h.slot r' d' u0 k1 k2) k3 (fun b hb'=>hb.block b (h.own r' b hb').2.1)];exact k5,k6⟩
      | _=>exact hx.elim
  nd:=h.nd
  disj:=h.disj
  own:=fun r b hb'=>⟨(h.own r b hb').1,Nat.lt_of_lt_of_le (h.own r b hb').2.1 hb.size,(h.own r b hb').2.2⟩
  imm:=fun b hb'=>Nat.lt_of_lt_of_le (h.imm b hb') hb.size
  imm0:=h.imm0
  immN:=h.immN
theorem RelI.immMore {w0 I0 s tm w I Fs}(h:RelI w0 I0 s tm w I Fs){I':Nat→Prop}(hI:∀ b,I b→I' b)(hN:∀ b,I' b→I b∨(w0.N b∧b<w.heap.size∧∀ r,b∉Fs r)):RelI w0 I0 s tm w I' Fs where
  below:=h.below
  len:=h.len
  slot:=fun r d u h1 h2=>T.mono hI d (h.slot r d u h1 h2)
  nd:=h.nd
  disj:=h.disj
  own:=fun r b hb=>⟨(h.own r b hb).1,(h.own r b hb).2.1,fun hb'=>(hN b hb').elim (h.own r b hb).2.2 (fun h2=>h2.2.2 r hb)⟩
  imm:=fun b hb=>(hN b hb).elim (h.imm b) (fun h2=>h2.2.1)
  imm0:=fun b hb=>hI b (h.imm0 b hb)
  immN:=fun b hb=>(hN b hb).elim (h.immN b) (fun h2=>.inr h2.1)
end Go.V
namespace Go.V
open Go.RowKit
def notThrough (r:Nat)(p:Path):D→Bool
  | .ref r' q=>!(r'==r&&p.isPrefixOf q)
  | .ptr r' q _ _=>!(r'==r&&p.isPrefixOf q)
  | .sub r' q _ _=>!(r'==r&&p.isPrefixOf q)
  | _=>true
theorem resAt_mono {q:D→Bool}{ρ ρ':D→Value→Prop}(h:∀ x u,q x=true→ρ x u→ρ' x u):∀ (p:Path) (d:D),∀ x u,q x=true→resAt d p ρ x u→resAt d p ρ' x u
  | [],d,x,u,_,hx=>by cases d<;>exact hx
  | [y],d,x,u,hq,hx=>by cases d<;>first | exact h x u hq hx | exact hx
  | y :: z::p,d,x,u,hq,hx=>by
    cases d with
    | box tag cells =>
      simp only [resAt] at hx ⊢;cases hc:cells[y.2]? with
      | none=>simp only [hc] at hx;exact hx
      | some e=>simp only [hc] at hx ⊢;exact resAt_mono h _ _ x u hq hx
    | _=>exact hx
theorem like_sl {sz:Nat}{rows:List (List D)}{t':D}(h:like (.sl true sz rows) t'):∃ rows',t'=.sl true sz rows':=h
theorem RelI.store {w0 I0 s tm w I Fs} (h:RelI w0 I0 s tm w I Fs) {r:Nat} {p:Path} {q:D→Bool} (hqq:∀ x v,q x=true→ρS s tm w x v→notThrough r p x=true) {d c c2:D} {u0 u2:Value} {b o:Nat} {F2:List Nat} {w2:World} (hs:s[r]?=some d) (hu:tm[r]?=some u0) (hp:p≠[]) (hc:treeAt d p=some c)
    (ha:adrAt w u0 d p=some (b,o)) (ho2:u2.oneCell'=true) (hT:T I w c2 (resAt d p (ρS s tm w)) u2 F2) (hnd2:F2.Nodup) (hF2:∀ b,b∈F2→w0.N b∧b<w.heap.size∧¬ I b∧∀ r,b∉Fs r)
    (hw:w2.os=w.os∧w2.tape=w.tape∧w2.output=w.output∧w2.heap.size=w.heap.size) (hw1:∀ x,x≠b→w2.heap[x]?=w.heap[x]?) (hw2:∀ cells e f,w.heap[b]?=some (.cells cells e f)→w2.heap[b]?=some (.cells (cells.setIfInBounds o u2) e f)) :
    ∃ A F' B u',Fs r=A++F'++B∧w.cell? ⟨b,o,none⟩=some u'∧u'.oneCell'=true∧w.frozen? ⟨b,o,none⟩=false∧T I w c (resAt d p (ρS s tm w)) u' F' ∧
      RelI w0 I0 ((pruneL q s).set r (setAt (d.prune q) p (c2.prune q))) tm w2 I (upd Fs r (A++F2++B)) ∧
      ∀ x v,q x=true→ρS s tm w x v→ρS ((pruneL q s).set r (setAt (d.prune q) p (c2.prune q))) tm w2 x v:=by
  have hTd:=h.slot r d u0 hs hu;obtain ⟨b',o',u',A,F',B,cells,e,ha',hcl,hrow,hF,hbA,ho,hTc,hup⟩:=T.focus p d hTd (h.nd r) (fun b hb=>(h.own r b hb).2.2) hp hc;obtain ⟨rfl,rfl⟩:b'=b∧o'=o:=(by rw [ha] at ha';simpa [eq_comm] using ha');have hb:=h.own r b' (by rw [hF];simp [hbA]);have hw2':=hw2 cells e (0,0) hrow;have hbF2:b'∉F2:=fun hb'=>(hF2 b' hb').2.2.2 r (by rw [hF];simp [hbA]);have hlt:=(List.getElem?_eq_some_iff.1 hs).1
  -- the refs
  have hρ:∀ x v,q x=true→ρS s tm w x v→ρS ((pruneL q s).set r (setAt (d.prune q) p (c2.prune q))) tm w2 x v:=by
    intro x v hq0 hx;have hq:=hqq x v hq0 hx;have hkeep:=fun (q1:Path) (t:D) (sz:Nat) (rows:List (List D)) (hn:¬ p <+: q1) (hq1:treeAt d q1=some t) (ht:t.cont=some (sz,rows)) =>
      val_keep p d q (c2.prune q) hTd (h.nd r) ha (by rw [hc];rfl) hrow hw2' (fun x _ hx2=>hw1 x hx2) q1 hn hq1 ht
    cases x with
    | ref r1 q1 =>
      obtain ⟨d1,u1,t1,h1,h2,h3,ho,h4⟩:=hx;obtain ⟨sz,rows,hcc⟩:=ownv_cont ho;by_cases hr:r1=r
      · subst hr;rw [hs] at h1;cases h1;rw [hu] at h2;cases h2;have hn:¬ p <+: q1:=by intro h0;rw [← List.isPrefixOf_iff_prefix] at h0;simp [notThrough,h0] at hq
        obtain ⟨k1,t',k2,k3⟩:=hkeep q1 _ sz rows hn h3 hcc;exact ⟨_,u0,t',by simp [pruneL_len,hlt],hu,k2,ownv_like ho k3,by rw [k1];exact h4⟩
      · obtain ⟨q',hq'⟩:=tree_prune q1 d1 q h3;refine ⟨d1.prune q,u1,t1,by rw [List.getElem?_set_ne (Ne.symm hr),pruneL_get,h1];rfl,h2,by rw [ownv_prune ho] at hq';exact hq',ho,?_⟩;rw [val_prune q1 d1 _ h3,val_frame q1 d1 (h.slot r1 d1 u1 h1 h2) h3 (fun x hx=>hw1 x (by rintro rfl;exact hr (h.disj r1 r x hx (by rw [hF];simp [hbA]))))];exact h4
    | ptr r1 q1 i j =>
      obtain ⟨d1,u1,t,sz,rows,u3,b3,o3,h1,h2,h3,h4,h5,h6,h7⟩:=hx;by_cases hr:r1=r
      · subst hr;rw [hs] at h1;cases h1;rw [hu] at h2;cases h2;have hn:¬ p <+: q1:=by intro h0;rw [← List.isPrefixOf_iff_prefix] at h0;simp [notThrough,h0] at hq
        obtain ⟨k1,t',k2,k3⟩:=hkeep q1 _ sz rows hn h3 h4;obtain ⟨rows',k4⟩:=k3.cont h4;exact ⟨_,u0,t',sz,rows',u3,b3,o3,by simp [pruneL_len,hlt],hu,k2,k4,by rw [k1];exact h5,h6,h7⟩
      · obtain ⟨q',hq'⟩:=tree_prune q1 d1 q h3;obtain ⟨rows',hr'⟩:=(like_prune h4 q').cont h4;refine ⟨d1.prune q,u1,t.prune q',sz,rows',u3,b3,o3,by rw [List.getElem?_set_ne (Ne.symm hr),pruneL_get,h1];rfl,h2,hq',hr',?_,h6,h7⟩;rw [val_prune q1 d1 _ h3,val_frame q1 d1 (h.slot r1 d1 u1 h1 h2) h3 (fun x hx=>hw1 x (by rintro rfl;exact hr (h.disj r1 r x hx (by rw [hF];simp [hbA]))))];exact h5
    | sub r1 q1 i n =>
      obtain ⟨d1,u1,t,sz,rows,u3,b3,o3,cc,h1,h2,h3,h4,h5,h6,h7⟩:=hx;by_cases hr:r1=r
      · subst hr;rw [hs] at h1;cases h1;rw [hu] at h2;cases h2;have hn:¬ p <+: q1:=by intro h0;rw [← List.isPrefixOf_iff_prefix] at h0;simp [notThrough,h0] at hq
        obtain ⟨k1,t',k2,k3⟩:=hkeep q1 _ sz rows hn h3 h4;obtain ⟨rows',k4⟩:=k3.cont h4;exact ⟨_,u0,t',sz,rows',u3,b3,o3,cc,by simp [pruneL_len,hlt],hu,k2,k4,by rw [k1];exact h5,h6,h7⟩
      · obtain ⟨q',hq'⟩:=tree_prune q1 d1 q h3;obtain ⟨rows',hr'⟩:=(like_prune h4 q').cont h4;refine ⟨d1.prune q,u1,t.prune q',sz,rows',u3,b3,o3,cc,by rw [List.getElem?_set_ne (Ne.symm hr),pruneL_get,h1];rfl,h2,hq',hr',?_,h6,h7⟩;rw [val_prune q1 d1 _ h3,val_frame q1 d1 (h.slot r1 d1 u1 h1 h2) h3 (fun x hx=>hw1 x (by rintro rfl;exact hr (h.disj r1 r x hx (by rw [hF];simp [hbA]))))];exact h5
    | _=>exact hx.elim
  refine ⟨A,F',B,u',hF,hcl,ho,by simp [World.frozen?,hrow],hTc,?_,hρ⟩;exact {
    below:=⟨hw.1.trans h.below.os,hw.2.1.trans h.below.tape,hw.2.2.1.trans h.below.output,by rw [hw.2.2.2];exact h.below.size,fun k hk=>(hw1 k (by rintro rfl;exact hk hb.1)).trans (h.below.block k hk)⟩
    len:=by rw [List.length_set,pruneL_len];exact h.len
    slot:=by
      intro r1 d1 v1 k1 k2;by_cases hr:r1=r
      · subst hr;simp [pruneL_len,hlt] at k1;subst k1;rw [hu] at k2;cases k2;simp only [upd,if_true];refine hup w2 _ q _ u2 F2 (fun x hx _=>hw1 x hx) hw2' hρ ho2 ?_;refine T.turn (resAt_mono hρ p d) c2 (T.keep c2 hT (fun x hx=>hw1 x ?_));rintro rfl;rcases hx with hx | hx
        · exact hb.2.2 hx
        · exact hbF2 hx
      · rw [List.getElem?_set_ne (Ne.symm hr),pruneL_get] at k1;simp only [upd,hr,if_false];cases hs1:s[r1]? with
        | none=>simp [hs1] at k1
        | some d' =>
          simp [hs1] at k1;subst k1;refine T.turn hρ d' (T.keep d' (h.slot r1 d' v1 hs1 k2) (fun x hx=>hw1 x ?_));rintro rfl;rcases hx with hx | hx
          · exact hb.2.2 hx
          · exact hr (h.disj r1 r x hx (by rw [hF];simp [hbA]))
    nd:=by
      intro r1;unfold upd;split
      · have hnF:=h.nd r;rw [hF] at hnF;rw [List.nodup_append,List.nodup_append] at hnF ⊢;refine ⟨⟨hnF.1.1,hnd2,fun x hx y hy hxy=>(hF2 y hy).2.2.2 r (by subst hxy;rw [hF];simp [hx])⟩,hnF.2.1,fun x hx y hy hxy=>?_⟩;subst hxy;rcases List.mem_append.1 hx with hx | hx
        · exact hnF.2.2 x (by simp [hx]) x hy rfl
        · exact (hF2 x hx).2.2.2 r (by rw [hF];simp [hy])
      · exact h.nd r1
    disj:=by
      intro r1 r2 x hx hy;have key:∀ r',x∈upd Fs r (A++F2++B) r'→x∈Fs r'∨(r'=r∧x∈F2):=by
        intro r' hx;unfold upd at hx;by_cases hr:r'=r
        · rw [if_pos hr] at hx;rw [hr,hF];simp only [List.mem_append] at hx ⊢;rcases hx with (hx | hx) | hx
          · exact .inl (.inl (.inl hx))
          · exact .inr ⟨by simp,hx⟩
          · exact .inl (.inr hx)
        · rw [if_neg hr] at hx;exact .inl hx
      rcases key r1 hx with h1 | h1<;>rcases key r2 hy with h2 | h2
      · exact h.disj r1 r2 x h1 h2
      · exact absurd h1 ((hF2 x h2.2).2.2.2 r1)
      · exact absurd h2 ((hF2 x h1.2).2.2.2 r2)
      · rw [h1.1,h2.1]
    own := by
      intro r1 x hx;rw [hw.2.2.2];unfold upd at hx;split at hx
      · simp only [List.mem_append] at hx;rcases hx with (hx | hx) | hx
        · exact h.own r x (by rw [hF];simp [hx])
        · exact ⟨(hF2 x hx).1,(hF2 x hx).2.1,(hF2 x hx).2.2.1⟩
        · exact h.own r x (by rw [hF];simp [hx])
      · exact h.own r1 x hx
    imm:=fun x hx=>by rw [hw.2.2.2];exact h.imm x hx
    imm0:=h.imm0
    immN:=h.immN }
end Go.V
namespace Go.V
open Go.RowKit
/-! ### Maps that turn where they lie -/
theorem cell_map {w w2:World}{bm:Nat}{es es2:Array MapEntry}{c c2:Nat}(h:w.heap[bm]?=some (.map es c))(h2:w2.heap[bm]?=some (.map es2 c2))(hk:∀ x,x≠bm→w2.heap[x]?=w.heap[x]?)(b o:Nat):w2.cell? ⟨b,o,none⟩=w.cell? ⟨b,o,none⟩:=by
  by_cases hb:b=bm
  · subst hb;simp [World.cell?,h,h2]
  · exact World.cell?_of_block (w:=w) (a:=⟨b,o,none⟩) (hk b hb)
theorem valAt_cells {w w2:World}(h:∀ b o,w2.cell? ⟨b,o,none⟩=w.cell? ⟨b,o,none⟩):∀ (q:Path) (d:D) (u:Value),valAt w2 u d q=valAt w u d q
  | [],d,u=>rfl
  | (i,j)::q,d,u=>by simp only [valAt,h];have ih:=valAt_cells h q;simp only [ih]
theorem like_rfl {t:D}{sz:Nat}{rows:List (List D)}(h:t.cont=some (sz,rows)):like t t:=by have:=like_prune h (fun _=>true);rwa [D.prune_yes] at this
theorem set_like {w:World} {k:KK} {e e':List (Value×Value)}:∀ (q:Path) (d:D),treeAt d q=some (.mp k e)→∀ (q1:Path) {t:D} {sz:Nat} {rows:List (List D)} {u:Value},treeAt d q1=some t→t.cont=some (sz,rows) →
    (∃ t',treeAt (setAt d q (.mp k e')) q1=some t'∧like t t')∧valAt w u (setAt d q (.mp k e')) q1=valAt w u d q1
  | [],d,h,q1,t,sz,rows,u,h1,ht=>by
    simp only [treeAt,Option.some.injEq] at h;subst h;cases q1 with
    | nil=>simp only [treeAt,Option.some.injEq] at h1;subst h1;exact ⟨⟨_,rfl,⟨_,rfl⟩⟩,rfl⟩
    | cons y q1=>obtain ⟨i,j⟩:=y;simp [treeAt,D.cont] at h1
  | (i, j)::q,d,h,q1,t,sz,rows,u,h1,ht=>by
    simp only [treeAt] at h;cases hd:d.cont with
    | none=>simp [hd] at h
    | some x =>
    obtain ⟨sz0,rows0⟩:=x;simp only [hd] at h;cases hi:rows0[i]? with
    | none=>simp [hi] at h
    | some row =>
    cases hj:row[j]? with
    | none=>simp [hi,hj] at h
    | some c =>
    simp only [hi,hj] at h;have hset:setAt d ((i,j)::q) (.mp k e')=d.withCont (rows0.set i (row.set j (setAt c q (.mp k e')))):=by simp only [setAt,hd,hi,hj]
    have hcont:=withCont_cont hd i j row (setAt c q (.mp k e')) hi;have hlike:=like_with hd i j row (setAt c q (.mp k e')) hi;have hil:=(List.getElem?_eq_some_iff.1 hi).1;have hjl:=(List.getElem?_eq_some_iff.1 hj).1;rw [hset];cases q1 with
    | nil=>simp only [treeAt,Option.some.injEq] at h1;subst h1;exact ⟨⟨_,rfl,hlike⟩,rfl⟩
    | cons y q1 =>
      obtain ⟨i2,j2⟩:=y;simp only [treeAt,hd] at h1;cases hi2:rows0[i2]? with
      | none=>simp [hi2] at h1
      | some row2 =>
      cases hj2:row2[j2]? with
      | none=>simp [hi2,hj2] at h1
      | some cc =>
      simp only [hi2,hj2] at h1;by_cases heq:i2=i∧j2=j
      · obtain ⟨rfl,rfl⟩:=heq;obtain rfl:row=row2:=(by rw [hi] at hi2;simpa using hi2);obtain rfl:c=cc:=(by rw [hj] at hj2;simpa using hj2);have hg1:(rows0.set i2 (row.set j2 (setAt c q (.mp k e'))))[i2]?=some (row.set j2 (setAt c q (.mp k e'))):=(by simp [hil]);have hg2:(row.set j2 (setAt c q (.mp k e')))[j2]?=some (setAt c q (.mp k e')):=(by simp [hjl]);refine ⟨?_,?_⟩
        · obtain ⟨t',ht1,ht2⟩:=(set_like (w:=w) (e':=e') (u:=undef) q c h q1 h1 ht).1;exact ⟨t',by simp only [treeAt,hcont,hg1,hg2,ht1],ht2⟩
        · simp only [valAt,hcont,hd,hg1,hg2,hi,hj];cases baseOf u with
          | none=>simp only
          | some z =>
            obtain ⟨z1,z2⟩:=z;simp only [hg1,hi];cases hcl:w.cell? ⟨z1,z2+i2*sz0+j2,none⟩ with
            | none=>simp only [hg2,hj]
            | some u'=>simp only [hg2,hj];exact (set_like (w:=w) (e':=e') (u:=u') q c h q1 h1 ht).2
      · have hg:∃ rowN,(rows0.set i (row.set j (setAt c q (.mp k e'))))[i2]?=some rowN∧rowN[j2]?=some cc:=by
          by_cases hii:i2=i
          · subst hii;obtain rfl:row=row2:=by rw [hi] at hi2;simpa using hi2
            refine ⟨row.set j (setAt c q (.mp k e')),by simp [hil],?_⟩;rw [List.getElem?_set_ne (by intro h0;exact heq ⟨rfl,h0.symm⟩)];exact hj2
          · exact ⟨row2,by rw [List.getElem?_set_ne (by omega)];exact hi2,hj2⟩
        obtain ⟨rowN,hg1,hg2⟩:=hg;refine ⟨⟨t,by simp only [treeAt,hcont,hg1,hg2,h1],like_rfl ht⟩,?_⟩;simp only [valAt,hcont,hd,hg1,hg2,hi2,hj2];cases baseOf u with
        | none=>simp only
        | some z=>obtain ⟨z1,z2⟩:=z;simp only [hg1,hg2,hi2,hj2]
theorem T.mapAt {I:Nat→Prop} {w:World} {k:KK} {e:List (Value×Value)} (hkM:k.isM=true):∀ (q:Path) (d:D) {ρ:D→Value→Prop} {u:Value} {F:List Nat},T I w d ρ u F→F.Nodup→treeAt d q=some (.mp k e) →
    ∃ bm es clock,valAt w u d q=some (.map (some bm))∧w.heap[bm]?=some (.map es clock)∧es.toList.map (fun x=>(x.key,x.val))=e∧(∀ x,x∈e→keyOK k x.1=true)∧bm∈F ∧
      ∀ (w2:World) (ρ2:D→Value→Prop) (e':List (Value×Value)) (es':Array MapEntry) (clock':Nat),(∀ x,x≠bm→w2.heap[x]?=w.heap[x]?)→(∀ x u,ρ x u→ρ2 x u)→(¬ I bm)→w2.heap[bm]?=some (.map es' clock')→es'.toList.map (fun x=>(x.key,x.val))=e'→(∀ x,x∈e'→keyOK k x.1=true) →
        T I w2 (setAt d q (.mp k e')) ρ2 u F
  | [],d,ρ,u,F,h,hnd,hq=>by simp only [treeAt,Option.some.injEq] at hq;subst hq;simp only [T] at h;rw [mpB_map hkM] at h;obtain ⟨b,es,clock,hu,hh,hF,he,hk⟩:=h;refine ⟨b,es,clock,by rw [hu];rfl,hh,he,hk,by rw [hF];simp,?_⟩;intro w2 ρ2 e' es' clock' hw hρ _ hm he' hk';simp only [setAt,T];rw [mpB_map hkM];exact ⟨b,es',clock',hu,hm,hF,he',hk'⟩
  | (i, j)::q,d,ρ,u,F,h,hnd,hq=>by
    cases d with
    | sl own sz rows =>
      cases own with
      | false=>simp [treeAt,D.cont] at hq
      | true =>
        simp only [treeAt,D.cont] at hq;cases hi:rows[i]? with
        | none=>simp [hi] at hq
        | some row =>
        cases hj:row[j]? with
        | none=>simp [hi,hj] at hq
        | some x =>
        simp only [hi,hj] at hq;simp only [T] at h;obtain ⟨a,cp,eu,h1,h2,h3⟩:=h;rcases h3 with ⟨ho,_⟩ | ⟨_,h3⟩
        · simp at ho
        rcases h3 with ⟨ha,hcp,hF⟩ | ⟨b,o,cells,et,raw,F',ha,hh,hs,hr,hF,hR⟩
        · have:rows.length=0:=(by omega);have:rows=[]:=List.eq_nil_of_length_eq_zero this;simp [this] at hi
        subst ha;subst hF;obtain ⟨pre,u1,post,A,F1,B,hraw,hpl,hF1,ho1,ht1,hup⟩:=Rows.focus i j hR hi hj;subst hF1;subst hraw;have hcell:w.cell? ⟨b,o+i*sz+j,none⟩=some u1:=by have:=hr pre.length u1 (by simp);rw [hpl] at this;rw [← this];congr 2;omega
        have hnd':=List.nodup_cons.1 hnd;obtain ⟨bm,es,clock,m1,m2,m3,m4,m5,m6⟩:=T.mapAt hkM q x ht1 ((List.nodup_append.1 (List.nodup_append.1 hnd'.2).1).2.1) hq;have hne:b≠bm:=(by rintro rfl;exact hnd'.1 (by simp [m5]));refine ⟨bm,es,clock,by simp only [valAt,D.cont,eu,baseOf,hi,hj,hcell,m1],m2,m3,m4,by simp [m5],?_⟩;intro w2 ρ2 e' es' clock' hw hρ hnI hm he' hk';have ht3:=m6 w2 nil e' es' clock' hw (fun _ _ h=>h) hnI hm he' hk';have hAB:∀ y,I y∨y∈A∨y∈B→w2.heap[y]?=w.heap[y]?:=by
          intro y hy;refine hw y ?_;rintro rfl;rcases hy with hy | hy | hy
          · exact hnI hy
          · exact (List.nodup_append.1 (List.nodup_append.1 hnd'.2).1).2.2 y hy y m5 rfl
          · exact (List.nodup_append.1 hnd'.2).2.2 y (by simp [m5]) y hy rfl
        have hRR:=hup w2 _ u1 F1 hAB ho1 ht3;simp only [setAt,D.cont,hi,hj,D.withCont,T,List.length_set];exact ⟨some ⟨b,o,none⟩,cp,eu,h1,h2,.inr ⟨trivial,.inr ⟨b,o,cells,et,_,A++F1++B,rfl,(hw b hne).trans hh,hs,rangeAt_keep (hw b hne) hr,by simp,hRR⟩⟩⟩
    | box tag cells =>
      simp only [treeAt,D.cont] at hq;cases i with
      | succ i=>simp at hq
      | zero =>
      simp only [List.getElem?_cons_zero] at hq;cases hj:cells[j]? with
      | none=>simp [hj] at hq
      | some x =>
      simp only [hj] at hq;simp only [T] at h;obtain ⟨b,cs,et,F',hu,htg,hh,hF,hcs⟩:=h;subst hF;subst hu;obtain ⟨pre,u1,post,A,F1,B,hraw,hpl,hF1,ho1,ht1,hup⟩:=Cells.focus j hcs hj;subst hF1;have hcell:w.cell? ⟨b,0+0*cells.length+j,none⟩=some u1:=by rw [cell_row hh,← Array.getElem?_toList,hraw];simp [← hpl]
      have hnd':=List.nodup_cons.1 hnd;obtain ⟨bm,es,clock,m1,m2,m3,m4,m5,m6⟩:=T.mapAt hkM q x ht1 ((List.nodup_append.1 (List.nodup_append.1 hnd'.2).1).2.1) hq;have hne:b≠bm:=(by rintro rfl;exact hnd'.1 (by simp [m5]));refine ⟨bm,es,clock,by simp only [valAt,D.cont,baseOf,List.getElem?_cons_zero,hj,hcell,m1],m2,m3,m4,by simp [m5],?_⟩;intro w2 ρ2 e' es' clock' hw hρ hnI hm he' hk';have ht3:=m6 w2 ρ2 e' es' clock' hw hρ hnI hm he' hk';have hAB:∀ y,I y∨y∈A∨y∈B→w2.heap[y]?=w.heap[y]?:=by
        intro y hy;refine hw y ?_;rintro rfl;rcases hy with hy | hy | hy
        · exact hnI hy
        · exact (List.nodup_append.1 (List.nodup_append.1 hnd'.2).1).2.2 y hy y m5 rfl
        · exact (List.nodup_append.1 hnd'.2).2.2 y (by simp [m5]) y hy rfl
      have hCC:=hup w2 ρ2 (fun _=>true) _ u1 F1 hAB (fun x u _ h=>hρ x u h) ho1 ht3;rw [pruneL_yes] at hCC;simp only [setAt,D.cont,List.getElem?_cons_zero,hj,D.withCont,List.set_cons_zero,T];refine ⟨b,cs,et,A++F1++B,rfl,htg,(hw b hne).trans hh,by simp,?_⟩;rw [hraw];exact hCC
    | mp k' e'=>simp [treeAt,D.cont] at hq
    | _=>simp [treeAt,D.cont] at hq
theorem RelI.mapSet {w0 I0 s tm w I Fs} (h:RelI w0 I0 s tm w I Fs) {r:Nat} {q:Path} {d:D} {u0:Value} {k:KK} {e:List (Value×Value)} (hkM:k.isM=true) (hs:s[r]?=some d) (hu:tm[r]?=some u0) (hq:treeAt d q=some (.mp k e)) :
    ∃ bm es clock,valAt w u0 d q=some (.map (some bm))∧w.heap[bm]?=some (.map es clock)∧es.toList.map (fun x=>(x.key,x.val))=e∧(∀ x,x∈e→keyOK k x.1=true)∧bm∈Fs r ∧
      ∀ (w2:World) (e':List (Value×Value)) (es':Array MapEntry) (clock':Nat),w2.os=w.os∧w2.tape=w.tape∧w2.output=w.output∧w2.heap.size=w.heap.size→(∀ x,x≠bm→w2.heap[x]?=w.heap[x]?)→w2.heap[bm]?=some (.map es' clock')→es'.toList.map (fun x=>(x.key,x.val))=e'→(∀ x,x∈e'→keyOK k x.1=true) →
        RelI w0 I0 (s.set r (setAt d q (.mp k e'))) tm w2 I Fs:=by
  obtain ⟨bm,es,clock,m1,m2,m3,m4,m5,m6⟩:=T.mapAt hkM q d (h.slot r d u0 hs hu) (h.nd r) hq;refine ⟨bm,es,clock,m1,m2,m3,m4,m5,?_⟩;intro w2 e' es' clock' hw hw1 hm he' hk';have hown:=h.own r bm m5;have hlt:=(List.getElem?_eq_some_iff.1 hs).1;have hcl:=cell_map m2 hm hw1;have hv:=valAt_cells hcl;have hρ:∀ x v,ρS s tm w x v→ρS (s.set r (setAt d q (.mp k e'))) tm w2 x v:=by
    intro x v hx;cases x with
    | ref r1 q1 =>
      obtain ⟨d1,u1,t1,h1,h2,h3,ho,h4⟩:=hx;by_cases hr:r1=r
      · subst hr;rw [hs] at h1;cases h1;rw [hu] at h2;cases h2;obtain ⟨sz,rows,hcc⟩:=ownv_cont ho;obtain ⟨⟨t',k1,k2⟩,k3⟩:=set_like (w:=w) (e':=e') (u:=u0) q d hq q1 h3 hcc;exact ⟨_,u0,t',by simp [hlt],hu,k1,ownv_like ho k2,by rw [hv,k3];exact h4⟩
      · exact ⟨d1,u1,t1,by rw [List.getElem?_set_ne (Ne.symm hr)];exact h1,h2,h3,ho,by rw [hv];exact h4⟩
    | ptr r1 q1 i j =>
      obtain ⟨d1,u1,t,sz,rows,u3,b3,o3,h1,h2,h3,h4,h5,h6,h7⟩:=hx;by_cases hr:r1=r
      · subst hr;rw [hs] at h1;cases h1;rw [hu] at h2;cases h2;obtain ⟨⟨t',k1,k2⟩,k3⟩:=set_like (w:=w) (e':=e') (u:=u0) q d hq q1 h3 h4;obtain ⟨rows',k4⟩:=k2.cont h4;exact ⟨_,u0,t',sz,rows',u3,b3,o3,by simp [hlt],hu,k1,k4,by rw [hv,k3];exact h5,h6,h7⟩
      · exact ⟨d1,u1,t,sz,rows,u3,b3,o3,by rw [List.getElem?_set_ne (Ne.symm hr)];exact h1,h2,h3,h4,by rw [hv];exact h5,h6,h7⟩
    | sub r1 q1 i n =>
      obtain ⟨d1,u1,t,sz,rows,u3,b3,o3,cc,h1,h2,h3,h4,h5,h6,h7⟩:=hx;by_cases hr:r1=r
      · subst hr;rw [hs] at h1;cases h1;rw [hu] at h2;cases h2;obtain ⟨⟨t',k1,k2⟩,k3⟩:=set_like (w:=w) (e':=e') (u:=u0) q d hq q1 h3 h4;obtain ⟨rows',k4⟩:=k2.cont h4;exact ⟨_,u0,t',sz,rows',u3,b3,o3,cc,by simp [hlt],hu,k1,k4,by rw [hv,k3];exact h5,h6,h7⟩
      · exact ⟨d1,u1,t,sz,rows,u3,b3,o3,cc,by rw [List.getElem?_set_ne (Ne.symm hr)];exact h1,h2,h3,h4,by rw [hv];exact h5,h6,h7⟩
    | _=>exact hx.elim
  exact {
    below:=⟨hw.1.trans h.below.os,hw.2.1.trans h.below.tape,hw.2.2.1.trans h.below.output,by rw [hw.2.2.2];exact h.below.size,fun x hx=>(hw1 x (by rintro rfl;exact hx hown.1)).trans (h.below.block x hx)⟩
    len:=by rw [List.length_set];exact h.len
    slot:=by
      intro r1 d1 v1 k1 k2;by_cases hr:r1=r
      · subst hr;simp [hlt] at k1;subst k1;rw [hu] at k2;cases k2;exact m6 w2 _ e' es' clock' hw1 hρ hown.2.2 hm he' hk'
      · rw [List.getElem?_set_ne (Ne.symm hr)] at k1;refine T.res (T.keep d1 (h.slot r1 d1 v1 k1 k2) (fun x hx=>hw1 x ?_)) hρ;rintro rfl;rcases hx with hx | hx
        · exact hown.2.2 hx
        · exact hr (h.disj r1 r x hx m5)
    nd:=h.nd
    disj:=h.disj
    own:=fun r1 x hx=>by rw [hw.2.2.2];exact h.own r1 x hx
    imm:=fun x hx=>by rw [hw.2.2.2];exact h.imm x hx
    imm0:=h.imm0
    immN:=h.immN }
end Go.V
namespace Go.V
open Go.RowKit
mutual
def D.owny:D→Bool
  | .sl own _ _=>own
  | .agg cs=>ownyL cs
  | .tup cs=>ownyL cs
  | .box _ _=>true
  | .mp _ _=>true
  | .fn _ a b=>ownyL a||ownyL b
  | _=>false
def ownyL:List D→Bool
  | []=>false
  | d::ds=>d.owny||ownyL ds
end
mutual
def D.noImm:D→Bool
  | .undef=>true
  | .nils=>true
  | .v _=>true
  | .sl own _ rows=>own&&noImmLL rows
  | .agg cs=>noImmL cs
  | .tup cs=>noImmL cs
  | .box _ cs=>noImmL cs
  | .mp _ _=>true
  | _=>false
def noImmL:List D→Bool
  | []=>true
  | d::ds=>d.noImm&&noImmL ds
def noImmLL:List (List D)→Bool
  | []=>true
  | d::ds=>noImmL d&&noImmLL ds
end
mutual
def D.noRef:D→Bool
  | .ref _ _=>false
  | .ptr _ _ _ _=>false
  | .sub _ _ _ _=>false
  | .agg cs=>noRefL cs
  | .tup cs=>noRefL cs
  | .fn _ a b=>noRefL a&&noRefL b
  | .box _ _=>false
  | .mp _ _=>false
  | .sl own _ _=>!own
  | _=>true
def noRefL:List D→Bool
  | []=>true
  | d::ds=>d.noRef&&noRefL ds
end
def D.cells:D→List D
  | .agg cs=>cs
  | d=>[d]
def mkAgg (agg:Bool)(ds:List D):D:=if agg then .agg ds else ds.headD .undef
def ofC:Value→D
  | .slice none 0 0=>.nils
  | v=>.v v
def ofV:Value→D
  | .agg cs=>if cs.all (·.oneCell') then .agg (cs.toList.map ofC) else .undef
  | .func (.func f) ⟨[]⟩ ⟨[]⟩=>.fn f [] []
  | v=>ofC v
def D.okCells:D→Bool
  | .undef=>false
  | .tup _=>false
  | .v x=>x.oneCell'
  | _=>true
/-! ### Looking and taking -/
def ownF (f:FuncId):List D→List D→D
  | [.box (some b) _],[]=>.fn f [.v (.pointer (some ⟨b,0,none⟩))] []
  | _,_=>.undef
def lkT (s:List D)(t:Nat):D :=
  match s[t]? with
  | some (.sl true _ _)=>.ref t []
  | some (.mp _ _)=>.ref t []
  | some (.box _ _)=>.ptr t [] 0 0
  | some (.fn f a c)=>if ownyL a||ownyL c then ownF f a c else .fn f a c
  | some d=>if d.owny then .undef else d
  | none=>.undef
def lk (s:List D):Operand→D
  | .tmp t=>lkT s t
  | .const v=>ofV v
  | .func f=>.fn f [] []
  | .global _=>.undef
def raw (s:List D):Operand→D
  | .tmp t=>match s[t]? with
    | some (.box _ _)=>.ptr t [] 0 0
    | some d=>d
    | none=>.undef
  | x=>lk s x
def tkT (s:List D)(t:Nat):D×List D :=
  match s[t]? with
  | some (.sl true sz rows)=>(.sl true sz rows,(pruneL (notRoot t) s).set t .undef)
  | some (.mp k e)=>(.mp k e,(pruneL (notRoot t) s).set t .undef)
  | some (.box _ _)=>(.ptr t [] 0 0,s)
  | some d=>(d,if d.owny then s.set t .undef else s)
  | none=>(.undef,s)
def tk (s:List D):Operand→D×List D
  | .tmp t=>tkT s t
  | x=>(lk s x,s)
def aliveQ (s:List D):D→Bool
  | .ref r _=>match s[r]? with
    | some d=>d.cont.isSome
    | none=>false
  | .ptr r _ _ _=>match s[r]? with
    | some d=>d.cont.isSome
    | none=>false
  | .sub r _ _ _=>match s[r]? with
    | some d=>d.cont.isSome
    | none=>false
  | _=>true
def tkL (s:List D):List Operand→List D×List D
  | []=>([],s)
  | x::xs=>((tk s x).1.prune (aliveQ (tkL (tk s x).2 xs).2)::(tkL (tk s x).2 xs).1,(tkL (tk s x).2 xs).2)
def putO (t sz:Nat)(rows:List (List D)):D→D
  | .sub r [] 0 n=>if r=t∧n≤rows.length then .sl true sz (rows.take n) else (D.sub r [] 0 n).prune (notRoot t)
  | d=>d.prune (notRoot t)
def putD (s:List D)(t:Nat)(d:D):List D :=
  match s[t]? with
  | some (.sl true sz rows)=>(pruneL (notRoot t) s).set t (putO t sz rows d)
  | some (.mp _ _)=>(pruneL (notRoot t) s).set t (d.prune (notRoot t))
  | some (.box _ _)=>(pruneL (notRoot t) s).set t (d.prune (notRoot t))
  | _=>s.set t d
def slAt (s:List D):D→Option (Nat×List (List D))
  | .sl _ sz rows=>some (sz,rows)
  | .nils=>some (0,[])
  | .ref r q=>match s[r]? with
    | some d=>match treeAt d q with
      | some (.sl true sz rows)=>some (sz,rows)
      | _=>none
    | none=>none
  | .sub r q i n=>match s[r]? with
    | some d=>match treeAt d q with
      | some (.sl true sz rows)=>if i+n≤rows.length then some (sz,(rows.drop i).take n) else none
      | _=>none
    | none=>none
  | _=>none
def mpAt (s:List D):D→Option (KK×List (Value×Value))
  | .imp k e=>some (k,e)
  | .ref r q=>match s[r]? with
    | some d=>match treeAt d q with
      | some (.mp k e)=>some (k,e)
      | _=>none
    | none=>none
  | _=>none
def rowAt (s:List D) (r:Nat) (q:Path) (i:Nat):Option (List D) :=
  match s[r]? with
  | some d=>match treeAt d q with
    | some t=>match t.cont with
      | some (_,rows)=>rows[i]?
      | none=>none
    | none=>none
  | none=>none
def cpyL (r:Nat)(q:Path)(i:Nat):Nat→List D→List D
  | _,[]=>[]
  | j,.sl true _ _::ds=>.ref r (q++[(i,j)])::cpyL r q i (j+1) ds
  | j,.mp _ _::ds=>.ref r (q++[(i,j)])::cpyL r q i (j+1) ds
  | j,.box _ _::ds=>.ptr r (q++[(i,j)]) 0 0::cpyL r q i (j+1) ds
  | j,d::ds=>(if d.owny then .undef else d)::cpyL r q i (j+1) ds
def stealK (s:List D) (r:Nat) (q:Path) (K:D→List D→Prop):Prop :=
  match s[r]? with
  | some d=>match treeAt d q with
    | some (.sl true sz rows)=>K (.sl true sz rows) ((pruneL (notThrough r q) s).set r (setAt (d.prune (notThrough r q)) q .undef))
    | some (.mp k e)=>K (.mp k e) ((pruneL (notThrough r q) s).set r (setAt (d.prune (notThrough r q)) q .undef))
    | _=>False
  | none=>False
def D.leaf:D→Bool
  | .undef=>true
  | .nils=>true
  | .v _=>true
  | .sl _ _ _=>true
  | .iptr _ _=>true
  | .mp _ _=>true
  | .imp _ _=>true
  | _=>false
def refsOK:List D→Bool
  | []=>true
  | .ref r p::ds=>ds.all (notThrough r p)&&refsOK ds
  | .sub r p _ _::ds=>ds.all (notThrough r p)&&refsOK ds
  | _::ds=>refsOK ds
def notThr (x:D):D→Bool
  | .ref r q=>notThrough r q x
  | .sub r q _ _=>notThrough r q x
  | _=>true
def resC:List D→List D→(List D→List D→Prop)→Prop
  | s,[],K=>K [] s
  | s,.ref r q::ds,K=>stealK s r q (fun d' s'=>resC s' ds (fun ds' s''=>K (d'::ds') s''))
  | s,.sub r q i n::ds,K=>((0<n∨i=0)∧stealK s r q (fun d' s'=>match d' with
    | .sl true sz rows=>i+n≤rows.length∧resC s' ds (fun ds' s''=>K (.sl true sz ((rows.drop i).take n)::ds') s'')
    | _=>False))∨(n=0∧i≠0∧∃ sz,resC s ds (fun ds' s''=>K (.sl false sz []::ds') s''))
  | s,d::ds,K=>d.leaf=true∧resC s ds (fun ds' s''=>K (d::ds') s'')
def chunk (sz:Nat):Nat→List D→List (List D)
  | 0,_=>[]
  | n+1,cs=>cs.take sz::chunk sz n (cs.drop sz)
def setC (s:List D) (r:Nat) (p:Path) (c:D) (K:List D→(D→Bool)→Prop):Prop :=
  match s[r]? with
  | some d=>match treeAt d p with
    | some old=>match old.cont with
      | some _=>K ((pruneL (notThrough r p) s).set r (setAt (d.prune (notThrough r p)) p (c.prune (notThrough r p)))) (notThrough r p)
      | none=>K (s.set r (setAt d p c)) (fun _=>true)
    | none=>False
  | none=>False
def isBox (s:List D) (r:Nat) (q:Path):Bool :=
  match s[r]? with
  | some d=>match treeAt d q with
    | some (.box _ _)=>true
    | _=>false
  | none=>false
def setB (r:Nat)(i:Nat):Nat→List D→Nat→List D→(List D→Prop)→Prop
  | 0,s,_,_,K=>K s
  | _+1,s,_,[],K=>K s
  | n+1,s,j,c::cs,K=>isBox s r []=true∧setC s r [(i,j)] c (fun s' q=>setB r i n s' (j+1) (pruneL q cs) K)
def selfS (r:Nat):List D→Bool
  | []=>false
  | .sub r' _ _ _::cs=>r'==r||selfS r cs
  | _::cs=>selfS r cs
def setR (r:Nat)(q:Path)(i:Nat):List D→Nat→List D→(List D→Prop)→Prop
  | s,_,[],K=>K s
  | s,j,c::cs,K=>c.leaf=true∧setC s r (q++[(i,j)]) c (fun s' _=>setR r q i s' (j+1) cs K)
def deep (s:List D):Nat→D→D
  | 0,_=>.undef
  | n + 1,.ref r q=>match slAt s (.ref r q) with
    | some (sz,rows)=>.sl false sz (immLL rows)
    | none=>match mpAt s (.ref r q) with
      | some (k,e)=>.imp k e
      | none=>.undef
  | n+1,.sub r q i k=>match slAt s (.sub r q i k) with
    | some (sz,rows)=>.sl false sz (immLL rows)
    | none=>.undef
  | n+1,.ptr r q i j=>match rowAt s r q i with
    | some row=>.iptr (row.map (deep s n)) j
    | none=>.undef
  | _+1,.sl _ sz rows=>.sl false sz (immLL rows)
  | n+1,.agg cs=>.agg (cs.map (deep s n))
  | n+1,.fn f a b=>.fn f (a.map (deep s n)) (b.map (deep s n))
  | _+1,.undef=>.undef
  | _+1,.nils=>.nils
  | _+1,.v x=>.v x
  | _+1,.iptr cs j=>.iptr cs j
  | _+1,.mp k e=>.imp k e
  | _+1,.imp k e=>.imp k e
  | _+1,_=>.undef
/-! ### Maps -/
def keqC:Value→Value→Bool
  | .int _ a,.int _ b=>a==b
  | .string a,.string b=>a==b
  | .bool a,.bool b=>a==b
  | _,_=>false
def keqL:List Value→List Value→Bool
  | [],[]=>true
  | a::xs,b::ys=>keqC a b&&keqL xs ys
  | _,_=>false
def keq:Value→Value→Bool
  | .agg a,.agg b=>keqL a.toList b.toList
  | a,b=>keqC a b
def mget (e:List (Value×Value))(k:Value):Option Value:=match e.find? (fun x=>keq k x.1) with
  | some x=>some x.2
  | none=>none
def mset (e:List (Value×Value))(k v:Value):List (Value×Value):=match e.findIdx? (fun x=>keq k x.1) with
  | some i=>e.set i (k,v)
  | none=>e++[(k,v)]
def mdel (e:List (Value×Value))(k:Value):List (Value×Value):=match e.findIdx? (fun x=>keq k x.1) with
  | some i=>e.eraseIdx i
  | none=>e
def plainC:List D→Option (List Value)
  | []=>some []
  | .v x::ds=>if x.oneCell' then (plainC ds).map (x::·) else none
  | _::_=>none
def toV:D→Option Value
  | .v x=>some x
  | .nils=>some (.slice none 0 0)
  | .agg cs=>(plainC cs).map fun vs=>.agg vs.toArray
  | _=>none
mutual
def D.le:D→D→Prop
  | d,.undef=>True
  | .nils,.sl _ _ rows=>rows=[]
  | .agg cs,.agg ds=>leL cs ds
  | .tup cs,.tup ds=>leL cs ds
  | .fn f a b,.fn g c d=>f=g∧leL a c∧leL b d
  | .iptr cs i,.iptr ds j=>∃ m,i=m+j∧leL ((cs.drop m).take ds.length) ds
  | d,e=>d=e
def leL:List D→List D→Prop
  | [],[]=>True
  | d::ds,e::es=>d.le e∧leL ds es
  | _,_=>False
end
mutual
def nle:D→D→Prop
  | .nils,e=>e=.nils∨∃ o sz,e=.sl o sz []
  | .sl o sz rows,e=>∃ rows',e=.sl o sz rows'∧nleLL rows rows'
  | .box t cs,e=>∃ es,e=.box t es∧nleL cs es
  | .agg cs,e=>∃ es,e=.agg es∧nleL cs es
  | .fn f cs b,e=>∃ es,e=.fn f es b∧nleL cs es
  | d,e=>e=d
def nleL:List D→List D→Prop
  | [],e=>e=[]
  | d::ds,e=>∃ c cs,e=c::cs∧nle d c∧nleL ds cs
def nleLL:List (List D)→List (List D)→Prop
  | [],e=>e=[]
  | d::ds,e=>∃ c cs,e=c::cs∧nleL d c∧nleLL ds cs
end
end Go.V
namespace Go.V
open Go.RowKit
inductive VOp where
  | mv (x:Operand)
  | asg (x:Operand)
  | nilc (x:Operand)
  | pick (c a b:Operand)
  | bin (op:BinOp) (x y:Operand)
  | binB (neg:Bool) (x y:Operand)
  | eqs (neg:Bool) (ks:List Nat) (x y:Operand)
  | un (op:UnOp) (x:Operand)
  | conv (k:IntKind) (x:Operand)
  | b2s (x:Operand)
  | isnil (neg:Bool) (x:Operand)
  | s2b (x:Operand)
  | alloc (zero:List Value)
  | box (x:Operand)
  | build (zero:List Value) (parts:List (Nat×Nat×Operand))
  | bsl (sz:Nat) (parts:List Operand)
  | load (n:Nat) (agg:Bool) (a:Operand)
  | store (n:Nat) (a x:Operand)
  | fa (off:Nat) (x:Operand)
  | fld (off n:Nat) (agg:Bool) (x:Operand)
  | ia (sz:Nat) (x i:Operand)
  | iaa (len sz:Nat) (x i:Operand)
  | ixs (x i:Operand)
  | ixa (len sz:Nat) (agg:Bool) (x i:Operand)
  | slcS (x:Operand) (lo hi:Option Operand)
  | slc (sz:Nat) (x:Operand) (lo hi mx:Option Operand)
  | ext (x:Operand) (i:Nat)
  | len (x:Operand)
  | lenS (x:Operand)
  | mm (max:Bool) (xs:List Operand)
  | app (sz bytes:Nat) (x y:Operand)
  | appN (sz bytes:Nat) (x y:Operand)
  | bslN (sz:Nat) (parts:List Operand)
  | extN (x:Operand) (i:Nat)
  | appS (bytes:Nat) (x y:Operand)
  | mkf (f:FuncId) (first caps:List Operand)
  | mkif (ty:Nat) (x:Operand)
  | mks (sz bytes:Nat) (zero:List Value) (l c:Operand)
  | mkm (k:KK)
  | mupd (k:KK) (m i x:Operand)
  | mlk (k:KK) (zero:Value) (ok:Bool) (m i:Operand)
  | mlen (m:Operand)
  | mdel (k:KK) (m i:Operand)
  | call (f:FuncId) (args:List Operand)
  | callv (f:Operand) (args:List Operand)
  | callX (f:FuncId) (args:List Operand)
  | callvX (f:Operand) (args:List Operand)
structure VO where
  dst:Option Nat
  guard:Option (Nat×Bool)
  op:VOp
def intK (op:BinOp)(k:IntKind)(a:Int)(k':IntKind)(b:Int)(K:Value→Prop):Prop :=
  match op with
  | .shl=>0≤b∧K (.int k (k.wrap (a*2 ^ (min b.toNat k.bits))))
  | .shr=>0≤b∧K (.int k (a.fdiv (2 ^ (min b.toNat k.bits))))
  | .add=>k=k'∧K (.int k (k.wrap (a+b)))
  | .sub=>k=k'∧K (.int k (k.wrap (a-b)))
  | .mul=>k=k'∧K (.int k (k.wrap (a*b)))
  | .quo=>k=k'∧b≠0∧K (.int k (k.wrap (a.tdiv b)))
  | .rem=>k=k'∧b≠0∧K (.int k (a.tmod b))
  | .and=>k=k'∧K (.int k (k.wrap ((BitVec.ofInt k.bits a &&& BitVec.ofInt k.bits b).toNat)))
  | .or=>k=k'∧K (.int k (k.wrap ((BitVec.ofInt k.bits a ||| BitVec.ofInt k.bits b).toNat)))
  | .xor=>k=k'∧K (.int k (k.wrap ((BitVec.ofInt k.bits a ^^^ BitVec.ofInt k.bits b).toNat)))
  | .andNot=>k=k'∧K (.int k (k.wrap ((BitVec.ofInt k.bits a &&& ~~~BitVec.ofInt k.bits b).toNat)))
  | .eql=>k=k'∧K (.bool (decide (a=b)))
  | .neq=>k=k'∧K (.bool (!decide (a=b)))
  | .lss=>k=k'∧K (.bool (decide (a<b)))
  | .leq=>k=k'∧K (.bool (decide (a≤b)))
  | .gtr=>k=k'∧K (.bool (decide (b<a)))
  | .geq=>k=k'∧K (.bool (decide (b≤a)))
def strK (op:BinOp)(a b:ByteArray)(K:Value→Prop):Prop :=
  match op with
  | .add=>a.size+b.size≤maxLen∧K (.string (a++b))
  | .eql=>K (.bool (decide (a=b)))
  | .neq=>K (.bool (!decide (a=b)))
  | .lss=>K (.bool (Op.bytesLess a.toList b.toList))
  | .leq=>K (.bool (Op.bytesLess a.toList b.toList||decide (a=b)))
  | .gtr=>K (.bool (!(Op.bytesLess a.toList b.toList||decide (a=b))))
  | .geq=>K (.bool (!Op.bytesLess a.toList b.toList))
  | _=>False
def eqCells:List D→List D→Option Bool
  | [],[]=>some true
  | .v (.int k a)::xs,.v (.int k' b)::ys=>if k=k' then (eqCells xs ys).map (decide (a=b)&&·) else none
  | .v (.string a)::xs,.v (.string b)::ys=>(eqCells xs ys).map (decide (a=b)&&·)
  | .v (.bool a)::xs,.v (.bool b)::ys=>(eqCells xs ys).map ((a==b)&&·)
  | _,_=>none
def rowB (n:Int):List D:=[.v (.int .u8 n)]
def bytesI (b:ByteArray):List Int:=b.data.toList.map fun x=>(x.toNat:Int)
def strI (xs:List Int):ByteArray:=⟨(xs.map fun n=>UInt8.ofNat n.toNat).toArray⟩
def b2sK (o:Option (Nat×List (List D)))(s:List D)(K:D→List D→Prop):Prop:=match o with
  | some (_,rows)=>∃ xs:List Int,rows=xs.map rowB∧K (.v (.string (strI xs))) s
  | none=>False
def isnilK (neg:Bool)(d:D)(o:Option (Nat×List (List D)))(s:List D)(K:D→List D→Prop):Prop:=match d,o with
  | .nils,_=>K (.v (.bool (!neg))) s
  | _,some (_,rows)=>(rows≠[]→K (.v (.bool neg)) s)∧(rows=[]→K (.v (.bool true)) s∧K (.v (.bool false)) s)
  | _,none=>False
def kindsOK:List Nat→List D→Bool
  | [],[]=>true
  | 0::ks,.v (.bool _)::ds=>kindsOK ks ds
  | 1::ks,.v (.int _ _)::ds=>kindsOK ks ds
  | 2::ks,.v (.string _)::ds=>kindsOK ks ds
  | _,_=>false
def splice:List D→Nat→List D→List D
  | cells,_,[]=>cells
  | cells,off,d::ds=>splice (cells.set off d) (off+1) ds
def fillB:List (Nat×Nat)→List D→List D→Option (List D)
  | [],[],cells=>some cells
  | (off,n)::ps,d::ds,cells=>if d.cells.length=n∧off+n≤cells.length then fillB ps ds (splice cells off d.cells) else none
  | _,_,_=>none
def optD (s:List D):Option Operand→Nat→D
  | none,d=>.v (.int .i64 d)
  | some x,_=>lk s x
def sizeD:D→Nat
  | .v (.string b)=>b.size
  | .sl _ _ rows=>rows.length
  | _=>0
def sizeS (s:List D):D→Nat
  | .ref r q=>match slAt s (.ref r q) with
    | some (_,rows)=>rows.length
    | none=>0
  | .sub _ _ _ n=>n
  | d=>sizeD d
def slcSK (x l h:D)(s:List D)(K:D→List D→Prop):Prop:=match x,l,h with
  | .v (.string b),.v (.int _ l),.v (.int _ h)=>0≤l∧l≤h∧h≤b.size∧K (.v (.string (b.extract l.toNat h.toNat))) s
  | _,_,_=>False
def slcK (sz:Nat) (x l h m:D) (s:List D) (K:D→List D→Prop):Prop:=match x,l,h,m with
  | .sl false sz' rows,.v (.int _ l),.v (.int _ h),.v (.int _ m)=>0≤l∧l≤h∧h≤rows.length∧sz'=sz∧h≤m∧m≤rows.length∧K (.sl false sz ((rows.drop l.toNat).take (h.toNat-l.toNat))) s
  | .ref r q,.v (.int _ l),.v (.int _ h),.v (.int _ m)=>match slAt s (.ref r q) with
    | some (sz',rows)=>0≤l∧l≤h∧h≤rows.length∧sz'=sz∧h≤m∧m≤rows.length∧K (.sub r q l.toNat (h.toNat-l.toNat)) s
    | none=>False
  | .sub r q i n,.v (.int _ l),.v (.int _ h),.v (.int _ m)=>match slAt s (.sub r q i n) with
    | some (sz',rows)=>0≤l∧l≤h∧h≤n∧sz'=sz∧h≤m∧m≤n∧K (.sub r q (i+l.toNat) (h.toNat-l.toNat)) s
    | none=>False
  | _,_,_,_=>False
def mlkK (k:KK) (z:Value) (ok:Bool) (u:Value) (m:D) (o:Option (KK×List (Value×Value))) (s:List D) (K:D→List D→Prop):Prop:=match o with
  | some (k',e)=>k'=k∧match mget e u with
    | some v=>K (if ok then .tup [ofV v,.v (.bool true)] else ofV v) s
    | none=>K (if ok then .tup [ofV z,.v (.bool false)] else ofV z) s
  | none=>match m with
    | .v (.map none)=>K (if ok then .tup [ofV z,.v (.bool false)] else ofV z) s
    | _=>False
def addK (s:List D) (sz:Nat) (y:Operand) (K:List (List D)→List D→Prop):Prop :=
  match (tk s y).1 with
  | .sl true sz' rows=>(sz'=sz∨rows=[])∧K rows (tk s y).2
  | .sl false sz' rows=>(sz'=sz∨rows=[])∧K rows s
  | .nils=>K [] s
  | .ref r q=>match slAt s (.ref r q) with
    | some (sz',rows)=>(sz'=sz∨rows=[])∧(∀ row,row∈rows→ownyL row=false)∧K rows s
    | none=>False
  | .sub r q i n=>match slAt s (.sub r q i n) with
    | some (sz',rows)=>(sz'=sz∨rows=[])∧(∀ row,row∈rows→ownyL row=false)∧K rows s
    | none=>False
  | _=>False
def growK (s:List D) (sz:Nat) (x:Operand) (K:List (List D)→List D→Prop):Prop :=
  match (tk s x).1 with
  | .sl true sz' rows=>(sz'=sz)∧K rows (tk s x).2
  | .nils=>K [] s
  | .ref r q=>stealK s r q (fun d s'=>match d with
    | .sl true sz' rows=>sz'=sz∧K rows s'
    | _=>False)
  | _=>False
def growNK (s:List D)(sz:Nat)(x:Operand)(K:List (List D)→List D→Prop):Prop :=
  match (tk s x).1 with
  | .sl true sz' rows=>(sz'=sz)∧K rows (tk s x).2
  | .nils=>K [] s
  | _=>False
def noRefs:List D→Bool
  | []=>true
  | .ref _ _::_=>false
  | d::ds=>d.leaf&&noRefs ds
def pickK (c a b:D) (s:List D) (K:D→List D→Prop):Prop:=match c with
  | .v (.bool t)=>match a,b with
    | .v (.bool x),.v (.bool y)=>K (.v (.bool (if t then x else y))) s
    | _,_=>(t=true→K a s)∧(t=false→K b s)
  | _=>False
structure CtrT where
  c:FuncId→List D→D→Prop
  x:FuncId→Nat→Nat→List D→List D→D→List D→Prop
  l:FuncId→Nat→List D→D→D→D→Prop
  r:FuncId→Nat→Prop
  i:FuncId→List D→List (List D)→Prop
  m:FuncId→Nat→Nat→List D→List D→D→List D→Prop
variable (Ctr:CtrT)
def lastK (f:FuncId)(s:List D)(args:List Operand)(K:D→List D→Prop):Prop :=
  ∃ x sz r q rows row,args=[x]∧Ctr.r f sz∧lk s x=.ref r q∧slAt s (.ref r q)=some (sz,rows)∧rows[rows.length-1]?=some row∧row.length=sz∧K (.agg (cpyL r q (rows.length-1) 0 row)) s
def immK (f:FuncId)(s:List D)(args:List Operand)(K:D→List D→Prop):Prop :=
  ∃ args' d,leL (args.map fun x=>deep s 8 (raw s x)) args'∧Ctr.c f args' d∧d.noImm=true∧K d.imm s
def mB:Nat→Nat→List Bool
  | 0,_=>[]
  | n+1,x=>(x % 2==1)::mB n (x / 2)
def D.plain:D→Bool
  | .v _=>true
  | .undef=>true
  | _=>false
def exactL:List D→Bool
  | []=>true
  | .box _ cs::ds=>cs.all D.plain&&exactL ds
  | .v _::ds=>exactL ds
  | .nils::ds=>exactL ds
  | .sl true _ _::ds=>exactL ds
  | _=>false
def D.exact:D→Bool
  | .sl true _ _=>true
  | .mp _ _=>true
  | .agg cs=>exactL cs
  | _=>false
def D.flatI:D→Bool
  | .v _=>true
  | .nils=>true
  | .sl own _ _=>!own
  | _=>false
def lendP (s:List D) (r:Nat) (x:Operand) (fr:Bool) (d0 d' dnew dr:D):Prop:=match s[r]? with
  | some d=>(dr=d'∧((x=.tmp r∨lk s x=.ref r [])∧d.exact=true∧d0=d∧dnew=d')) ∨
    (dr=d'∧∃ tag cells cells',d=.box tag cells∧lk s x=.agg (cpyL r [] 0 0 cells)∧exactL cells=true∧d0=.agg cells∧d'=.agg cells'∧dnew=.box tag cells') ∨
    (dr=d'∧∃ q sz rows,fr=false∧q≠[]∧lk s x=.ref r q∧d0=.sl true sz rows∧treeAt d q=some d0∧dnew=setAt (d.prune (fun _=>false)) q d') ∨
    (∃ q tg cs cells',fr=false∧q≠[]∧lk s x=.ptr r q 0 0∧treeAt d q=some (.box tg cs)∧d0=.box none (pruneL (fun _=>false) cs)∧d'=.box none cells'∧dr=.box tg cells'∧dnew=setAt (d.prune (fun _=>false)) q (.box tg cells')) ∨
    (∃ q tg cs rest cells',fr=false∧q≠[]∧lk s x=.agg (.ptr r q 0 0::rest)∧rest.all D.flatI=true∧treeAt d q=some (.box tg cs)∧d0=.agg (.box none (pruneL (fun _=>false) cs)::rest)∧d'=.agg (.box none cells'::rest)∧dr=.box tg cells'∧dnew=setAt (d.prune (fun _=>false)) q (.box tg cells')) ∨
    (∃ tag tg cs cells',lk s x=.ptr r [(0,0)] 0 0∧d=.box tag [.box tg cs]∧d0=.box none (pruneL (fun _=>false) cs)∧d'=.box none cells'∧dr=.box tg cells'∧dnew=.box tag [.box tg cells']) ∨
    (∃ F tag cells cells',lk s x=.fn F [.ptr r [] 0 0] []∧d=.box tag cells∧d0=.fn F [.box none (pruneL (fun _=>false) cells)] []∧d'=.fn F [.box none cells'] []∧dr=.box tag cells'∧dnew=.box tag cells')
  | none=>False
def keepB (r:Nat):D→Bool
  | .ref r' _=>r' != r
  | .ptr r' q i _=>r' != r||(q.isEmpty&&i==0)
  | .sub r' _ _ _=>r' != r
  | _=>true
def D.boxy:D→Bool
  | .box _ _=>true
  | _=>false
def lendK (f:FuncId) (s:List D) (args:List Operand) (K:D→List D→Prop):Prop :=
  ∃ i r x fr d0 d' dnew dr res args',args[i]?=some x∧lendP s r x fr d0 d' dnew dr∧((∃ d,s[r]?=some d∧d.boxy=true)∨((args.map fun x=>raw s x).set i .undef).all (fun u=>!u.owny)=true) ∧
    leL ((((args.map fun x=>raw s x).set i .undef).map (D.prune (notRoot r))).map (deep ((pruneL (notRoot r) s).set r .undef) 8)) args' ∧
    Ctr.l f i args' d0 res d'∧((fr=false∧res.noImm=true∧dr.noImm=true)∨(fr=true∧(((args.map fun x=>raw s x).set i .undef).map (D.prune (notRoot r))).all D.noRef=true))∧(K res ((pruneL (notRoot r) s).set r dnew)∨((∃ d,s[r]?=some d∧d.boxy=true)∧dnew.boxy=true∧K res ((pruneL (keepB r) s).set r dnew)))
def ioK (f:FuncId) (s:List D) (us:List D) (K:D→List D→Prop):Prop :=
  ∃ i r tag cells args' cells0,us[i]?=some (.ptr r [] 0 0)∧s[r]?=some (.box tag cells) ∧
    leL ((us.map (D.prune (notRoot r))).map (deep ((pruneL (notRoot r) s).set r .undef) 8)) args'∧leL (pruneL (fun _=>false) cells) cells0 ∧
    ∀ b,(∀ k,tag=some k→b=k)→∃ d cells' tag',(tag'=tag∨tag'=some b)∧Ctr.x f i b args' cells0 d cells' ∧
    ((d.noImm=true∧noImmL cells'=true)∨(us.map (D.prune (notRoot r))).all D.noRef=true)∧K d ((pruneL (keepB r) s).set r (.box tag' cells'))
def lend2K (f:FuncId) (s:List D) (args:List Operand) (K:D→List D→Prop):Prop :=
  ∃ i j r1 r2 x1 x2 d1 d1' tag cells cells' res,args[i]?=some x1∧args[j]?=some x2∧r1≠r2∧s[r1]?=some d1∧(x1=.tmp r1∨lk s x1=.ref r1 [])∧d1.exact=true∧s[r2]?=some (.box tag cells)∧lk s x2=.ptr r2 [] 0 0∧cells.all D.plain=true ∧
    (((args.map fun x=>raw s x).set i .undef).set j .undef).all D.plain=true∧Ctr.m f i j (((args.map fun x=>raw s x).set i .undef).set j .undef) [d1,.box none cells] res [d1',.box none cells'] ∧
    K res ((((pruneL (notRoot r2) ((pruneL (notRoot r1) s).set r1 .undef)).set r2 .undef).set r1 d1').set r2 (.box tag cells'))
def lendBK (f:FuncId) (s:List D) (args:List Operand) (K:D→List D→Prop):Prop :=
  ∃ x xs r1 r2 tg1 tg2 c1 c2 c1' c2' res args',args=x::xs∧r1≠r2∧s[r1]?=some (.box tg1 c1)∧s[r2]?=some (.box tg2 c2)∧lk s x=.agg [.ptr r1 [] 0 0,.ptr r2 [] 0 0]∧(c1.all D.plain=true∧c2.all D.plain=true)∧(xs.map (raw s)).all D.noRef=true ∧
    leL ((xs.map (raw s)).map (deep s 8)) args'∧Ctr.l f 0 (.undef::args') (.agg [.box none c1,.box none c2]) res (.agg [.box none c1',.box none c2']) ∧
    (K res ((((pruneL (notRoot r2) ((pruneL (notRoot r1) s).set r1 .undef)).set r2 .undef).set r1 (.box tg1 c1')).set r2 (.box tg2 c2'))∨∃ r3 tg3,s[r3]?=some (.box tg3 [.ptr r1 [] 0 0,.ptr r2 [] 0 0])∧r3≠r1∧r3≠r2 ∧
      K res ((pruneL (notRoot r3) ((pruneL (notRoot r2) ((pruneL (notRoot r1) s).set r1 .undef)).set r2 .undef)).set r3 (.box tg3 [.box none c1',.box none c2'])))
def frz (t:Nat)(s:List D):List D:=match s[t]? with
  | some d=>(pruneL (notRoot t) s).set t (d.prune (fun _=>false)).imm
  | none=>s
def mvin (r t:Nat)(s:List D):List D:=match s[r]?,s[t]? with
  | some (.box tag [.ptr t' [] 0 0]),some (.box _ M)=>if t'=t∧r≠t then (pruneL (keepB r) ((pruneL (notRoot t) s).set t .undef)).set r (.box tag [.box none (pruneL (fun _=>false) M)]) else s
  | _,_=>s
def pull (r t:Nat)(s:List D):List D:=match s[r]?,s[t]? with
  | some (.box tag [.ref t1 [(0,0)],.ref t2 [(0,1)],.ref t3 [(0,2)]]),some (.box _ [.sl true z1 r1,.sl true z2 r2,.sl true z3 r3])=>if t1=t∧t2=t∧t3=t∧r≠t then (pruneL (keepB r) ((pruneL (notRoot t) s).set t .undef)).set r (.box tag [.sl true z1 r1,.sl true z2 r2,.sl true z3 r3]) else s
  | _,_=>s
def keepK (f:FuncId) (s:List D) (us:List D) (K:D→List D→Prop):Prop :=
  ∃ i r g b cells cells' cells0 res args',us[i]?=some (.v (.pointer (some ⟨b,0,none⟩)))∧s[r]?=some (.fn g [.box (some b) cells] [])∧(us.set i .undef).all (fun u=>!u.owny)=true ∧
    leL (((us.set i .undef).map (D.prune (notRoot r))).map (deep ((pruneL (notRoot r) s).set r .undef) 8)) args'∧pruneL (fun _=>false) cells=cells0 ∧
    Ctr.l f i args' (.box none cells0) res (.box none cells')∧((res.noImm=true∧noImmL cells'=true)∨((us.set i .undef).map (D.prune (notRoot r))).all D.noRef=true)∧K res ((pruneL (notRoot r) s).set r (.fn g [.box (some b) cells'] []))
def gone2 (r t:Nat)(s:List D):List D:=(pruneL (notRoot t) ((pruneL (notRoot r) s).set r .undef)).set t .undef
def eachK (f:FuncId) (s:List D) (args:List Operand) (K:D→List D→Prop):Prop :=
  ∃ x y F caps caps' r t q tg b j C C' res c0 c2,args=[x,y]∧lk s x=.ptr t q 0 j∧lk s y=.fn F [] (.ptr r [] 0 0::caps) ∧
    ((q=[]∧r≠t∧s[r]?=some (.box tg [.ptr t [] 0 0])∧s[t]?=some (.box (some b) C))∨(q=[(0,0)]∧t=r∧s[r]?=some (.box tg [.box (some b) C]))) ∧
    deep (gone2 r t s) 8 (lk (gone2 r t s) y)=.fn F [] (c0::c2)∧leL c2 caps' ∧
    Ctr.l f 1 [.v (.pointer (some ⟨b,j,none⟩)),.undef] (.fn F [] (.box none [.box (some b) (pruneL (fun _=>false) C)]::caps')) (.v res) (.fn F [] (.box none [.box (some b) C']::caps')) ∧
    K (.v res) ((List.replicate s.length .undef).set t (if q=[] then .box (some b) C' else .box tg [.box (some b) C']))
def mvE (s:List D) (x:Operand) (K:D→List D→Prop):Prop:=match x with
  | .tmp t=>match s[t]? with
    | some (.tup vs)=>K (.tup vs) (if ownyL vs then s.set t .undef else s)
    | _=>K (lk s x) s
  | _=>K (lk s x) s
def evalK (s:List D) (o:VOp) (K:D→List D→Prop):Prop :=
  match o with
  | .mv x=>mvE s x K
  | .asg x=>K (tk s x).1 (tk s x).2
  | .nilc x=>match lk s x with
    | .ptr r q i j=>K (.ptr r q i j) s
    | .iptr c j=>K (.iptr c j) s
    | .fn f a b=>K (.fn f a b) s
    | _=>False
  | .pick c a b=>pickK (lk s c) (lk s a) (lk s b) s K
  | .bin op x y=>match lk s x,lk s y with
    | .v (.int k a),.v (.int k' b)=>intK op k a k' b (fun v=>K (.v v) s)
    | .v (.string a),.v (.string b)=>strK op a b (fun v=>K (.v v) s)
    | _,_=>False
  | .binB neg x y=>match lk s x,lk s y with
    | .v (.bool a),.v (.bool b)=>K (.v (.bool (if neg then !(a==b) else a==b))) s
    | _,_=>False
  | .eqs neg ks x y=>match lk s x,lk s y with
    | .agg a,.agg b=>kindsOK ks a=true∧match eqCells a b with
      | some c=>K (.v (.bool (if neg then !c else c))) s
      | none=>False
    | _,_=>False
  | .un op x=>match op,lk s x with
    | .not,.v (.bool b)=>K (.v (.bool (!b))) s
    | .neg,.v (.int k n)=>K (.v (.int k (k.wrap (0-n)))) s
    | _,_=>False
  | .conv k x=>match lk s x with
    | .v (.int _ n)=>K (.v (.int k (k.wrap n))) s
    | _=>False
  | .b2s x=>b2sK (slAt s (lk s x)) s K
  | .isnil neg x=>isnilK neg (lk s x) (slAt s (lk s x)) s K
  | .alloc zero=>K (.box none (zero.map ofC)) s
  | .box x=>(tk s x).1.okCells=true∧K (.box none (tk s x).1.cells) (tk s x).2
  | .build zero parts=>(tkL s (parts.map (·.2.2))).1.all D.okCells=true∧match fillB (parts.map fun p=>(p.1,p.2.1)) (tkL s (parts.map (·.2.2))).1 (zero.map ofC) with
    | some cells=>K (.agg cells) (tkL s (parts.map (·.2.2))).2
    | none=>False
  | .bsl sz parts=>(tkL s parts).1.all (fun d=>d.okCells&&d.cells.length==sz)=true∧refsOK ((tkL s parts).1.flatMap D.cells)=true∧resC (tkL s parts).2 ((tkL s parts).1.flatMap D.cells) (fun cs s'=>K (.sl true sz (chunk sz parts.length cs)) s')
  | .load n agg a=>match lk s a with
    | .ptr r q i j=>match rowAt s r q i with
      | some row=>j+n≤row.length∧K (mkAgg agg (cpyL r q i j ((row.drop j).take n))) s
      | none=>False
    | .iptr cells j=>j+n≤cells.length∧K (mkAgg agg ((cells.drop j).take n)) s
    | _=>False
  | .store n a x=>match lk (tk s x).2 a with
    | .ptr r q i j=>(tk s x).1.okCells=true∧(tk s x).1.cells.length=n ∧
      (if isBox (tk s x).2 r q then (match q with
        | []=>(if selfS r (tk s x).1.cells then refsOK (tk s x).1.cells=true∧(tk s x).1.cells.all (notThr (.ptr r q i j))=true∧resC (tk s x).2 (tk s x).1.cells (fun cs s'=>cs.length=n∧setB r i n s' j cs (fun s''=>K .undef s'')) else setB r i n (tk s x).2 j (tk s x).1.cells (fun s'=>K .undef s'))
        | _::_=>i=0∧refsOK (tk s x).1.cells=true∧(tk s x).1.cells.all (notThr (.ptr r q i j))=true∧resC (tk s x).2 (tk s x).1.cells (fun cs s'=>isBox s' r q=true∧setR r q i s' j cs (fun s''=>K .undef s'')))
        else refsOK (tk s x).1.cells=true∧(tk s x).1.cells.all (notThr (.ptr r q i j))=true∧resC (tk s x).2 (tk s x).1.cells (fun cs s'=>isBox s' r q=false∧setR r q i s' j cs (fun s''=>K .undef s'')))
    | _=>False
  | .fa off x=>match lk s x with
    | .ptr r q i j=>K (.ptr r q i (j+off)) s
    | .iptr c j=>K (.iptr c (j+off)) s
    | _=>False
  | .fld off n agg x=>match lk s x with
    | .agg cs=>off+n≤cs.length∧K (mkAgg agg ((cs.drop off).take n)) s
    | _=>False
  | .ia sz x i=>match lk s i,lk s x with
    | .v (.int _ n),.ref r q=>match slAt s (.ref r q) with
      | some (sz',rows)=>0≤n∧n<rows.length∧sz'=sz∧K (.ptr r q n.toNat 0) s
      | none=>False
    | .v (.int _ n),.sl false sz' rows=>0≤n∧n<rows.length∧sz'=sz∧∃ row,rows[n.toNat]?=some row∧K (.iptr row 0) s
    | _,_=>False
  | .iaa len sz x i=>match lk s i,lk s x with
    | .v (.int _ n),.ptr r q i j=>0≤n∧n<len∧K (.ptr r q i (j+n.toNat*sz)) s
    | .v (.int _ n),.iptr c j=>0≤n∧n<len∧K (.iptr c (j+n.toNat*sz)) s
    | _,_=>False
  | .ixs x i=>match lk s i,lk s x with
    | .v (.int _ n),.v (.string b)=>0≤n∧∃ c,b[n.toNat]?=some c∧K (.v (.int .u8 (c.toNat:Int))) s
    | _,_=>False
  | .ixa len sz agg x i=>match lk s i,lk s x with
    | .v (.int _ n),.agg cs=>0≤n∧n<len∧len*sz≤cs.length∧K (mkAgg agg ((cs.drop (n.toNat*sz)).take sz)) s
    | _,_=>False
  | .slcS x lo hi=>slcSK (lk s x) (optD s lo 0) (optD s hi (sizeD (lk s x))) s K
  | .slc sz x lo hi mx=>slcK sz (lk s x) (optD s lo 0) (optD s hi (sizeS s (lk s x))) (optD s mx (sizeS s (lk s x))) s K
  | .ext x i=>match x with
    | .tmp t=>match s[t]? with
      | some (.tup vs)=>match vs[i]? with
        | some d=>K d (if d.owny then s.set t (.tup (vs.set i .undef)) else s)
        | none=>False
      | _=>False
    | _=>False
  | .len x=>match slAt s (lk s x) with
    | some (_,rows)=>K (.v (.int .i64 (rows.length:Int))) s
    | none=>False
  | .lenS x=>match lk s x with
    | .v (.string b)=>K (.v (.int .i64 (b.size:Int))) s
    | _=>False
  | .mm mx xs=>match xs.map (lk s) with
    | [.v (.int k a),.v (.int k' b)]=>k=k'∧K (.v (.int k (if mx then (if b>a then b else a) else (if b<a then b else a)))) s
    | _=>False
  | .app sz bytes x y=>growK s sz x fun rows s1=>addK s1 sz y fun more s2=>(rows.length+more.length)*(bytes+1)≤2 ^ 40∧K (.sl true sz (rows++more)) s2
  | .appS bytes x y=>growK s 1 x fun rows s1=>match lk s1 y with
    | .v (.string b)=>(rows.length+b.size)*(bytes+1)≤2 ^ 40∧K (.sl true 1 (rows++(bytesI b).map rowB)) s1
    | _=>False
  | .appN sz bytes x y=>growNK s sz x fun rows s1=>addK s1 sz y fun more s2=>(rows.length+more.length)*(bytes+1)≤2 ^ 40∧K (.sl true sz (rows++more)) s2
  | .bslN sz parts=>(tkL s parts).1.all (fun d=>d.okCells&&d.cells.length==sz)=true∧noRefs ((tkL s parts).1.flatMap D.cells)=true∧K (.sl true sz (chunk sz parts.length ((tkL s parts).1.flatMap D.cells))) (tkL s parts).2
  | .extN x i=>match x with
    | .tmp t=>match s[t]? with
      | some (.tup vs)=>match vs[i]? with
        | some d=>d.owny=false∧K d s
        | none=>False
      | _=>False
    | _=>False
  | .mkf f first caps=>K (.fn f (first.map (lk s)) (caps.map (lk s))) s
  | .mkif ty x=>match x with
    | .tmp t=>match s[t]? with
      | some (.box _ [.v (.int .i64 m),.v (.int .i64 n)])=>K (.mp (.err ty) [(.int .i64 m,.int .i64 n)]) ((pruneL (notRoot t) s).set t .undef)
      | _=>False
    | _=>False
  | .mks sz bytes zero l c=>match lk s l,lk s c with
    | .v (.int _ n),.v (.int _ m)=>0≤n∧n≤m∧m*(bytes+1)≤2 ^ 40∧K (.sl true sz (List.replicate n.toNat (zero.map ofC))) s
    | _,_=>False
  | .mkm k=>K (.mp k k.e0) s
  | .mupd k m i x=>match lk s m with
    | .ref r q=>match s[r]? with
      | some d=>match treeAt d q with
        | some (.mp k' e)=>k'=k∧match toV (lk s i),toV (lk s x) with
          | some u,some v=>keyOK k u=true∧K .undef (s.set r (setAt d q (.mp k (mset e u v))))
          | _,_=>False
        | _=>False
      | none=>False
    | _=>False
  | .mlk k z ok m i=>match toV (lk s i) with
    | some u=>keyOK k u=true∧mlkK k z ok u (lk s m) (mpAt s (lk s m)) s K
    | none=>False
  | .mlen m=>match mpAt s (lk s m) with
    | some (k,e)=>mlenK k (K (.v (.int .i64 (e.length:Int))) s)
    | none=>match lk s m with
      | .v (.map none)=>K (.v (.int .i64 0)) s
      | _=>False
  | .mdel k m i=>match lk s m with
    | .ref r q=>match s[r]? with
      | some d=>match treeAt d q with
        | some (.mp k' e)=>k'=k∧match toV (lk s i) with
          | some u=>keyOK k u=true∧K .undef (s.set r (setAt d q (.mp k (mdel e u))))
          | _=>False
        | _=>False
      | none=>False
    | _=>False
  | .call f args=>(∃ args' d,leL (args.map fun x=>deep s 8 (raw s x)) args'∧Ctr.c f args' d∧(d.noImm=true∨((args.map fun x=>raw s x).all D.noRef)=true)∧K d s)∨lastK Ctr f s args K∨immK Ctr f s args K
  | .callX f args=>(∃ args' d,leL (args.map fun x=>deep s 8 (raw s x)) args'∧Ctr.c f args' d∧(d.noImm=true∨((args.map fun x=>raw s x).all D.noRef)=true)∧K d s)∨ioK Ctr f s (args.map fun x=>raw s x) K∨lendK Ctr f s args K∨(∃ t,ioK Ctr f (frz t s) (args.map fun x=>raw (frz t s) x) K)∨lend2K Ctr f s args K∨lastK Ctr f s args K∨lendBK Ctr f s args K∨(∃ r t,ioK Ctr f (pull r t s) (args.map fun x=>raw (pull r t s) x) K)∨eachK Ctr f s args K
  | .callv x args=>match lk s x with
    | .fn f first caps=>∃ args' d,leL ((first++args.map (fun x=>raw s x)++caps).map (deep s 8)) args'∧Ctr.c f args' d∧(d.noImm=true∨(first++args.map (fun x=>raw s x)++caps).all D.noRef=true)∧K d s
    | _=>False
  | .callvX x args=>match lk s x with
    | .fn f first caps=>(∃ args' d,leL ((first++args.map (fun x=>raw s x)++caps).map (deep s 8)) args'∧Ctr.c f args' d∧(d.noImm=true∨(first++args.map (fun x=>raw s x)++caps).all D.noRef=true)∧K d s)∨ioK Ctr f s (first++args.map (fun x=>raw s x)++caps) K∨(∃ r t f' first' caps',lk (mvin r t s) x=.fn f' first' caps'∧ioK Ctr f' (mvin r t s) (first'++args.map (fun x=>raw (mvin r t s) x)++caps') K)∨keepK Ctr f s (first++args.map (fun x=>raw s x)++caps) K
    | _=>False
  | _=>False
def stepK (s:List D) (o:VO) (K:List D→Prop):Prop :=
  match o.guard with
  | none=>evalK Ctr s o.op fun d s'=>K (match o.dst with | some t=>putD s' t d | none=>s')
  | some (g,want)=>match lkT s g with
    | .v (.bool b)=>(b=want→evalK Ctr s o.op fun d s'=>K (match o.dst with | some t=>putD s' t d | none=>s'))∧(b≠want→K (match o.dst with | some t=>putD s t (.v (.tuple #[])) | none=>s))
    | .v _=>K (match o.dst with | some t=>putD s t (.v (.tuple #[])) | none=>s)
    | _=>False
def opsK:List D→List VO→(List D→Prop)→Prop
  | s,[],K=>K s
  | s,o::os,K=>stepK Ctr s o fun s'=>opsK s' os K
def keepQ (mask:List Bool):D→Bool
  | .ref r _=>!mask.getD r false
  | .ptr r _ _ _=>!mask.getD r false
  | .sub r _ _ _=>!mask.getD r false
  | _=>true
def clrL (q:D→Bool):List Bool→List D→List D
  | _,[]=>[]
  | true::m,_::s=>.undef::clrL q m s
  | false::m,d::s=>d.prune q::clrL q m s
  | [],d::s=>d.prune q::clrL q [] s
def clr (mask:List Bool)(s:List D):List D:=clrL (keepQ mask) mask s
structure DOp where
  idx:Nat
  hid:List Bool
  cl:List Bool
  vo:VO
def setO (s:List D)(dst:Option Nat)(d:D):List D:=match dst with
  | some t=>s.set t d
  | none=>s
def holeS (r:Nat)(q:Path)(s:List D):List D:=match s[r]? with
  | some d=>(pruneL (notThrough r q) s).set r (setAt (d.prune (notThrough r q)) q .undef)
  | none=>s
def drawE (V:List D)(cl:List Bool)(v:VOp)(K:D→Prop):Prop:=evalK Ctr V v fun d s'=>clr cl s'=clr cl V∧K d
def drawK (V:List D) (cl:List Bool) (o:VO) (K:D→Prop):Prop :=
  match o.guard with
  | none=>drawE Ctr V cl o.op K
  | some (g,want)=>match lkT V g with
    | .v (.bool b)=>(b=want→drawE Ctr V cl o.op K)∧(b≠want→K (.v (.tuple #[])))
    | .v _=>K (.v (.tuple #[]))
    | _=>False
def prO:Option (Nat×Path)→D→D
  | none,d=>d
  | some (r,q),d=>d.prune (notThrough r q)
def headK (pr:Option (Nat×Path)):List D→List DOp→(List D→Prop)→Prop
  | s,[],K=>K s
  | s,o::os,K=>drawK Ctr (clr o.hid s) o.cl o.vo fun d=>headK pr (setO s o.vo.dst (prO pr d)) os K
def placeK (start:List Bool) (V:List D) (sz bytes:Nat) (x y:Operand) (K:Nat→Path→D→Prop):Prop :=
  match (tk V x).1 with
  | .ref r q=>start.getD r false=false∧stealK V r q fun d s1=>match d with
    | .sl true sz' rows=>sz'=sz∧addK s1 sz y fun more _=>(rows.length+more.length)*(bytes+1)≤2 ^ 40∧K r q (.sl true sz (rows++more))
    | _=>False
  | _=>False
def midK (start cls:List Bool)(s:List D)(o:DOp)(l2:List DOp)(K:List D→Prop):Prop :=
  match o.vo.op with
  | .app sz bytes x y=>placeK start (clr o.hid s) sz bytes x y fun r q d=>headK Ctr (some (r,q)) (setO (holeS r q s) o.vo.dst d) l2 fun s'=>K (clr cls s')
  | _=>False
inductive VT where
  | done
  | nil
  | h (i:Nat) (o:VO) (sub:VT)
  | br (i:Nat) (o:VO) (sub rest:VT)
def VT.wp:VT→(List D→Prop)→List D→Prop
  | .done,K,s=>K s
  | .nil,_,_=>True
  | .h _ o sub,K,s=>stepK Ctr s o (fun s'=>sub.wp K s')
  | .br _ o sub rest,K,s=>stepK Ctr s o (fun s'=>sub.wp K s')∧rest.wp K s
inductive VCode where
  | skip
  | ops (l:List VO)
  | draw (start cls:List Bool) (l1:List DOp) (tail:List VO)
  | drawW (start cls:List Bool) (l1:List DOp) (o:DOp) (l2:List DOp) (tail:List VO)
  | drawB (pre fills:List (Nat×Nat)) (start cls:List Bool) (l1:List DOp) (tail:List VO)
  | drawT (t:VT) (tail:List VO)
  | seq (a b:VCode)
  | cond (c:Operand) (a b:VCode)
  | block (id:Nat) (c:VCode)
  | loop (mask:List Bool) (c:VCode)
  | rangeF (g:Operand) (ps:List Nat) (m:List Bool) (va vb:VCode)
  | exit (id:Nat)
  | ret
inductive VExit where
  | normal
  | exit (id:Nat)
  | ret
def vthen (next:List D→Prop)(Q:VExit→List D→Prop):VExit→List D→Prop
  | .normal,s=>next s
  | e,s=>Q e s
def vblock (id:Nat)(Q:VExit→List D→Prop):VExit→List D→Prop
  | .exit i,s=>if i=id then Q .normal s else Q (.exit i) s
  | e,s=>Q e s
def boxS (s:List D)(t n:Nat):Prop:=match s[t]? with
  | some (.box _ cells)=>cells.length=n
  | _=>False
def boxZ (s:List D)(t n:Nat):Prop:=match s[t]? with
  | some (.box none cells)=>cells.length=n
  | _=>False
def boxesS (s:List D):List (Nat×Nat)→Prop
  | []=>True
  | p::l=>boxS s p.1 p.2∧boxesS s l
def boxesZ (s:List D):List (Nat×Nat)→Prop
  | []=>True
  | p::l=>boxZ s p.1 p.2∧boxesZ s l
def putMany:List D→List Nat→List D→List D
  | s,p::ps,d::ds=>putMany (putD s p d) ps ds
  | s,_,_=>s
def roundQ (m:List Bool)(next:List D→Prop)(Q:VExit→List D→Prop):VExit→List D→Prop
  | .normal,s=>∃ s1,nleL (clr m s) s1∧next s1
  | .ret,s=>Q .ret (clr m s)
  | .exit id,s=>Q (.exit id) (clr m s)
def VCode.wp:VCode→(VExit→List D→Prop)→List D→Prop
  | .skip,Q,s=>Q .normal s
  | .ops l,Q,s=>opsK Ctr s l (Q .normal)
  | .draw start cls l1 tail,Q,s=>headK Ctr none (clr start s) l1 fun s'=>opsK Ctr (clr cls s') tail (Q .normal)
  | .drawW start cls l1 o l2 tail,Q,s=>headK Ctr none (clr start s) l1 fun s'=>midK Ctr start cls s' o l2 fun s''=>opsK Ctr s'' tail (Q .normal)
  | .drawB pre fills start cls l1 tail,Q,s=>boxesS s pre∧headK Ctr none (clr start s) l1 fun s'=>boxesZ s' fills∧opsK Ctr (clr cls s') tail (Q .normal)
  | .drawT t tail,Q,s=>t.wp Ctr (fun s'=>opsK Ctr s' tail (Q .normal)) s
  | .seq a b,Q,s=>a.wp (vthen (b.wp Q) Q) s
  | .cond c a b,Q,s=>match lk s c with
    | .v (.bool t)=>(t=true→a.wp Q s)∧(t=false→b.wp Q s)
    | _=>False
  | .block id c,Q,s=>c.wp (vblock id Q) s
  | .loop mask c,Q,s=>∃ J:Nat→List D→Prop,(∃ n s1,nleL (clr mask s) s1∧J n s1)∧∀ n s',J n s'→c.wp (vthen (fun s''=>∃ m,m<n∧∃ s1,nleL (clr mask s'') s1∧J m s1) Q) s'
  | .rangeF g ps m va vb,Q,s=>(match lk s g with
    | .fn F [] caps=>∃ xs:List (List D),Ctr.i F (pruneL (fun _=>false) caps) xs∧(∀ x,x∈xs→x.length=ps.length)∧∃ J:Nat→List D→Prop,(∃ s1,nleL (clr m s) s1∧J 0 s1) ∧
        (∀ i s' x,J i s'→xs[i]?=some x→va.wp (vthen (vb.wp (roundQ m (J (i+1)) Q)) (fun _ _=>False)) (putMany s' ps x))∧(∀ s',J xs.length s'→Q .normal s')
    | _ => False)∨(∃ (t:Nat) (F:FuncId) (caps:List D),g=.tmp t∧s[t]?=some (.fn F [] caps)∧∃ xs:List (List D),Ctr.i F (pruneL (fun _=>false) caps) xs∧(∀ x,x∈xs→x.length=ps.length)∧∃ J:Nat→List D→Prop,(∃ s1,nleL (clr m ((pruneL (notRoot t) s).set t .undef)) s1∧J 0 s1) ∧
        (∀ i s' x,J i s'→xs[i]?=some x→va.wp (vthen (vb.wp (roundQ m (J (i+1)) Q)) (fun _ _=>False)) (putMany s' ps x))∧(∀ s',J xs.length s'→Q .normal s'))
  | .exit id,Q,s=>Q (.exit id) s
  | .ret,Q,s=>Q .ret s
end Go.V
namespace Go.V
open Go.RowKit
mutual
theorem T.nofoot {I w}:∀ (d:D) {ρ u F},T I w d ρ u F→d.owny=false→F=[]
  | .undef,_,_,_,h,_=>by simpa [T] using h
  | .nils,_,_,_,h,_=>by simp only [T] at h;exact h.2
  | .v _,_,_,_,h,_=>by simp only [T] at h;exact h.2
  | .sl own sz rows,ρ,u,F,h,ho=>by
    simp only [T] at h;simp only [D.owny] at ho;subst ho;obtain ⟨a,c,e,h1,h2,h3⟩:=h;rcases h3 with ⟨_,hF,_⟩ | ⟨h,_⟩
    · exact hF
    · cases h
  | .agg cs,ρ,u,F,h,ho=>by simp only [T] at h;obtain ⟨us,e,hc⟩:=h;exact Cells.nofoot cs hc (by simpa [D.owny] using ho)
  | .tup vs,ρ,u,F,h,ho=>by simp only [T] at h;obtain ⟨us,e,hc⟩:=h;exact Vals.nofoot vs hc (by simpa [D.owny] using ho)
  | .ref _ _,_,_,_,h,_=>by simp only [T] at h;exact h.2
  | .ptr _ _ _ _,_,_,_,h,_=>by simp only [T] at h;exact h.2
  | .sub _ _ _ _,_,_,_,h,_=>by simp only [T] at h;exact h.2
  | .iptr cells j,ρ,u,F,h,_=>by simp only [T] at h;exact h.1
  | .box _ cells,ρ,u,F,h,ho=>by simp [D.owny] at ho
  | .mp _ _,ρ,u,F,h,ho=>by simp [D.owny] at ho
  | .imp _ _,ρ,u,F,h,_=>by simp only [T] at h;exact h.1
  | .fn f first caps,ρ,u,F,h,ho=>by simp only [T] at h;simp only [D.owny,Bool.or_eq_false_iff] at ho;obtain ⟨us,vs,F1,F2,hu,hF,h1,h2⟩:=h;rw [hF,Vals.nofoot first h1 ho.1,Vals.nofoot caps h2 ho.2];rfl
theorem Cells.nofoot {I w}:∀ (ds:List D) {ρ us F},Cells I w ds ρ us F→ownyL ds=false→F=[]
  | [],_,_,_,h,_=>by simp only [Cells] at h;exact h.2
  | d::ds,ρ,us,F,h,ho=>by simp only [Cells] at h;simp only [ownyL,Bool.or_eq_false_iff] at ho;obtain ⟨u,us',F1,F2,e,hF,_,h1,h2⟩:=h;rw [hF,T.nofoot d h1 ho.1,Cells.nofoot ds h2 ho.2];rfl
theorem Vals.nofoot {I w}:∀ (ds:List D) {ρ us F},Vals I w ds ρ us F→ownyL ds=false→F=[]
  | [],_,_,_,h,_=>by simp only [Vals] at h;exact h.2
  | d::ds,ρ,us,F,h,ho=>by simp only [Vals] at h;simp only [ownyL,Bool.or_eq_false_iff] at ho;obtain ⟨u,us',F1,F2,e,hF,h1,h2⟩:=h;rw [hF,T.nofoot d h1 ho.1,Vals.nofoot ds h2 ho.2];rfl
end
def Fresh (w0:Base)(w:World)(I:Nat→Prop)(Fs:Nat→List Nat)(F:List Nat):Prop:=F.Nodup∧∀ b,b∈F→w0.N b∧b<w.heap.size∧¬ I b∧∀ r,b∉Fs r
theorem Fresh.nil {w0 w I Fs}:Fresh w0 w I Fs []:=⟨List.nodup_nil,fun _ h=>by cases h⟩
section
variable {w0:Base} {I0:Nat→Prop} {s:List D} {a:Act} {w:World} {I:Nat→Prop} {Fs:Nat→List Nat}
theorem lkT_T (h:RelI w0 I0 s a.tmps w I Fs) (t:Nat):T I w (lkT s t) (ρS s a.tmps w) (a.tmps.getD t undef) []:=by
  unfold lkT;cases hs:s[t]? with
  | none=>simp [T]
  | some d =>
    obtain ⟨u,hu,hT⟩:=h.slot0 hs;have hg:a.tmps.getD t undef=u:=(by simp [hu]);rw [hg];have gen:∀ d',d'=d→d.owny=false→T I w d' (ρS s a.tmps w) u []:=fun d' e ho=>by subst e;have:=T.nofoot d' hT ho;rw [this] at hT;exact hT
    cases d with
    | sl own sz rows =>
      cases own with
      | true=>exact ⟨⟨_,u,_,hs,hu,rfl,rfl,rfl⟩,rfl⟩
      | false=>exact gen _ rfl rfl
    | mp k e=>exact ⟨⟨_,u,_,hs,hu,rfl,rfl,rfl⟩,rfl⟩
    | imp k e=>exact gen _ rfl rfl
    | box tag cells=>simp only [T] at hT;obtain ⟨b,cs,e,F',hu',_,hh,hF,hc⟩:=hT;exact ⟨⟨_,u,_,_,_,u,b,0,hs,hu,rfl,rfl,rfl,by rw [hu'];rfl,by rw [hu'];simp⟩,rfl⟩
    | agg cs=>simp only;split;simp [T];exact gen _ rfl (eq_false_of_ne_true ‹¬ _›)
    | tup cs=>simp only;split;simp [T];exact gen _ rfl (eq_false_of_ne_true ‹¬ _›)
    | fn f fs c =>
      simp only;split
      · unfold ownF;split
        · simp only [T,Vals] at hT ⊢;obtain ⟨us,vs,F1,F2,hu',hF,⟨u1,us1,G1,G2,rfl,hG,⟨bb,cs,e,F',hub,htg,_⟩,rfl,hG2⟩,rfl,hF2⟩:=hT;have:=htg _ rfl;subst this;exact ⟨_,_,[],[],hu',rfl,⟨u1,[],[],[],rfl,rfl,⟨hub,rfl⟩,rfl,rfl⟩,rfl,rfl⟩
        · simp [T]
      · exact gen _ rfl (eq_false_of_ne_true ‹¬ _›)
    | undef=>exact gen _ rfl rfl
    | nils=>exact gen _ rfl rfl
    | v x=>exact gen _ rfl rfl
    | ref r p=>exact gen _ rfl rfl
    | ptr r p i j=>exact gen _ rfl rfl
    | sub r p i n=>exact gen _ rfl rfl
    | iptr cs j=>exact gen _ rfl rfl
theorem ofC_T (ρ:D→Value→Prop)(v:Value):T I w (ofC v) ρ v []:=by unfold ofC;split<;>simp [T]
theorem ofC_Cells (ρ:D→Value→Prop):∀ (vs:List Value),vs.all (·.oneCell')=true→Cells I w (vs.map ofC) ρ vs []
  | [],_=>by simp [Cells]
  | v::vs,h=>by simp only [List.all_cons,Bool.and_eq_true] at h;simp only [List.map_cons,Cells];exact ⟨v,vs,[],[],rfl,rfl,h.1,ofC_T ρ v,ofC_Cells ρ vs h.2⟩
theorem ofV_T (ρ:D→Value→Prop)(v:Value):T I w (ofV v) ρ v []:=by
  unfold ofV;split
  · split
    · simp only [T];rename_i cs hc;exact ⟨cs.toList,by simp,ofC_Cells ρ _ (by simpa [Array.all_eq_true',List.all_eq_true] using hc)⟩
    · simp [T]
  · simp only [T];exact ⟨[],[],[],[],rfl,rfl,by simp [Vals],by simp [Vals]⟩
  · exact ofC_T ρ v
theorem lk_T (h:RelI w0 I0 s a.tmps w I Fs)(x:Operand):T I w (lk s x) (ρS s a.tmps w) (a.eval x) []:=by
  cases x with
  | tmp t=>exact lkT_T h t
  | const v=>exact ofV_T _ v
  | func f=>simp only [lk,T];exact ⟨[],[],[],[],rfl,rfl,by simp [Vals],by simp [Vals]⟩
  | global g=>simp [lk,T]
theorem tkT_T (h:RelI w0 I0 s a.tmps w I Fs) (t:Nat):∃ Fs' F,RelI w0 I0 (tkT s t).2 a.tmps w I Fs'∧T I w (tkT s t).1 (ρS (tkT s t).2 a.tmps w) (a.tmps.getD t undef) F∧Fresh w0 w I Fs' F∧(∀ r b,b∈Fs' r→b∈Fs r)∧(∀ b,b∈F→∃ r,b∈Fs r)∧∀ r,(tkT s t).2[r]?=some .undef∨Fs' r=Fs r:=by
  unfold tkT;cases hs:s[t]? with
  | none=>exact ⟨Fs,[],h,by simp [T],Fresh.nil,fun _ _ h=>h,(fun _ h=>by cases h),fun _=>.inr rfl⟩
  | some d =>
    obtain ⟨u,hu,hT⟩:=h.slot0 hs;have hg:a.tmps.getD t undef=u:=(by simp [hu]);rw [hg];have hlt:=(List.getElem?_eq_some_iff.1 hs).1;have hst:∀ r,r≠t→upd Fs t [] r=Fs r:=fun r hr=>by unfold upd;rw [if_neg hr]
    have hfr:Fresh w0 w I (upd Fs t []) (Fs t):=⟨h.nd t,fun b hb=>⟨(h.own t b hb).1,(h.own t b hb).2.1,(h.own t b hb).2.2,fun r hr=>by
      unfold upd at hr;split at hr
      · cases hr
      · rename_i hne;exact hne (h.disj r t b hr hb)⟩⟩
    have hsub:∀ r b,b∈upd Fs t [] r→b∈Fs r:=fun r b hb=>by
      unfold upd at hb;split at hb
      · cases hb
      · exact hb
    have gen:d.cont=none→∃ Fs' F,RelI w0 I0 (if d.owny then s.set t .undef else s) a.tmps w I Fs'∧T I w d (ρS (if d.owny then s.set t .undef else s) a.tmps w) u F∧Fresh w0 w I Fs' F∧(∀ r b,b∈Fs' r→b∈Fs r)∧(∀ b,b∈F→∃ r,b∈Fs r)∧∀ r,(if d.owny then s.set t .undef else s)[r]?=some .undef∨Fs' r=Fs r:=by
      intro hc;by_cases ho:d.owny=true
      · rw [if_pos ho];have hp:=h.put (u:=u) (d:=.undef) (F:=[]) hs hc (by simp [T]) List.nodup_nil (fun _ h=>by cases h);have htm:a.tmps.setIfInBounds t u=a.tmps:=by
          apply Array.ext_getElem?;intro i;by_cases hi:t=i
          · subst hi;rw [hu,Array.getElem?_setIfInBounds_self_of_lt (Array.getElem?_eq_some_iff.1 hu).1]
          · rw [Array.getElem?_setIfInBounds_ne hi]
        rw [htm] at hp;refine ⟨_,_,hp,?_,hfr,hsub,fun b hb=>⟨t,hb⟩,fun r=>?_⟩
        rotate_left
        · by_cases hr:r=t
          · subst hr;exact .inl (by simp [hlt])
          · exact .inr (hst r hr)
        have:=hT.res (fun x v hx=>hx.put (d:=.undef) (u:=u) hs hc);rwa [htm] at this
      · rw [if_neg ho];have:=T.nofoot d hT (by simpa using ho);rw [this] at hT;exact ⟨Fs,[],h,hT,Fresh.nil,fun _ _ h=>h,(fun _ h=>by cases h),fun _=>.inr rfl⟩
    cases d with
    | sl own sz rows =>
      cases own with
      | true =>
        refine ⟨_,_,h.forget t,?_,hfr,hsub,fun b hb=>⟨t,hb⟩,fun r=>?_⟩
        rotate_left
        · by_cases hr:r=t
          · subst hr;exact .inl (by simp [pruneL_len,hlt])
          · exact .inr (hst r hr)
        simp only [T] at hT ⊢;exact hT
      | false=>exact gen rfl
    | mp k e =>
      refine ⟨_,_,h.forget t,?_,hfr,hsub,fun b hb=>⟨t,hb⟩,fun r=>?_⟩
      rotate_left
      · by_cases hr:r=t
        · subst hr;exact .inl (by simp [pruneL_len,hlt])
        · exact .inr (hst r hr)
      simp only [T] at hT ⊢;exact hT
    | box tag cells=>simp only [T] at hT;obtain ⟨b,cs,e,F',hu',_,hh,hF,hc⟩:=hT;exact ⟨Fs,[],h,⟨⟨_,u,_,_,_,u,b,0,hs,hu,rfl,rfl,rfl,by rw [hu'];rfl,by rw [hu'];simp⟩,rfl⟩,Fresh.nil,fun _ _ h=>h,(fun _ h=>by cases h),fun _=>.inr rfl⟩
    | _=>exact gen rfl
theorem tk_T (h:RelI w0 I0 s a.tmps w I Fs)(x:Operand):∃ Fs' F,RelI w0 I0 (tk s x).2 a.tmps w I Fs'∧T I w (tk s x).1 (ρS (tk s x).2 a.tmps w) (a.eval x) F∧Fresh w0 w I Fs' F∧(∀ r b,b∈Fs' r→b∈Fs r)∧(∀ b,b∈F→∃ r,b∈Fs r)∧∀ r,(tk s x).2[r]?=some .undef∨Fs' r=Fs r:=by
  cases x with
  | tmp t=>exact tkT_T h t
  | const v=>exact ⟨Fs,[],h,lk_T h (.const v),Fresh.nil,fun _ _ h=>h,(fun _ h=>by cases h),fun _=>.inr rfl⟩
  | func f=>exact ⟨Fs,[],h,lk_T h (.func f),Fresh.nil,fun _ _ h=>h,(fun _ h=>by cases h),fun _=>.inr rfl⟩
  | global g=>exact ⟨Fs,[],h,lk_T h (.global g),Fresh.nil,fun _ _ h=>h,(fun _ h=>by cases h),fun _=>.inr rfl⟩
theorem Rows.takeS {sz:Nat}:∀ {rs:List (List D)} {raw:List Value} {F:List Nat} (n:Nat),Rows I w sz rs raw F→∃ F1,Rows I w sz (rs.take n) (raw.take (n*sz)) F1∧F1.Sublist F
  | _,_,_,0,_=>⟨[],by simp [Rows],List.nil_sublist _⟩
  | [],raw,F,n+1,h=>by simp only [Rows] at h;obtain ⟨rfl,rfl⟩:=h;exact ⟨[],by simp [Rows],List.nil_sublist _⟩
  | r::rs,raw,F,n+1,h=>by simp only [Rows] at h;obtain ⟨us,raw',F1,F2,rfl,rfl,hl,hc,hr⟩:=h;obtain ⟨G,g1,g2⟩:=Rows.takeS n hr;refine ⟨F1++G,?_,List.Sublist.append (List.Sublist.refl _) g2⟩;rw [List.take_succ_cons];simp only [Rows];refine ⟨us,raw'.take (n*sz),F1,G,?_,rfl,hl,hc,g1⟩;rw [List.take_append,List.take_of_length_le (by rw [hl,Nat.add_mul];omega)];congr 2;rw [hl,Nat.add_mul];omega
theorem Rows.dropS {sz:Nat}:∀ {rs:List (List D)} {raw:List Value} {F:List Nat} (n:Nat),Rows I w sz rs raw F→∃ F1,Rows I w sz (rs.drop n) (raw.drop (n*sz)) F1∧F1.Sublist F
  | _,_,F,0,h=>⟨F,by simpa using h,List.Sublist.refl _⟩
  | [],raw,F,n+1,h=>by simp only [Rows] at h;obtain ⟨rfl,rfl⟩:=h;exact ⟨[],by simp [Rows],List.nil_sublist _⟩
  | r::rs,raw,F,n+1,h=>by
    simp only [Rows] at h;obtain ⟨us,raw',F1,F2,rfl,rfl,hl,hc,hr⟩:=h;obtain ⟨G,g1,g2⟩:=Rows.dropS n hr;refine ⟨G,?_,g2.trans (List.sublist_append_right _ _)⟩;have e:(n+1)*sz-us.length=n*sz:=by rw [hl,Nat.add_mul];omega
    have e2:List.drop ((n+1)*sz) us=[]:=List.drop_of_length_le (by rw [hl,Nat.add_mul];omega);rw [List.drop_succ_cons,List.drop_append,e2,e,List.nil_append];exact g1
theorem own_take {n:Nat}{u:Value}{sz:Nat}{rows:List (List D)}{F:List Nat}{u1:Value}{b o cc:Nat}(hT:T I w (.sl true sz rows) nil u1 F){i:Nat}(hb:baseOf u1=some (b,o))(hn:i+n≤rows.length)(h1:n≤cc)(h2:cc≤maxLen)(h3:u=.slice (some ⟨b,o+i*sz,none⟩) n cc)(h4:i+cc≤capV u1) :
    ∃ F',T I w (.sl true sz ((rows.drop i).take n)) nil u F'∧F'.Sublist F:=by
  simp only [T] at hT;obtain ⟨a',c',e',k1,k2,k3⟩:=hT;subst e';rcases k3 with ⟨k3,_⟩ | ⟨_,⟨rfl,_⟩ | ⟨b',o',cells,e,raw,F',rfl,hh,hcs,hr,hF,hR⟩⟩
  · cases k3
  · simp [baseOf] at hb
  · simp only [baseOf,Option.some.injEq,Prod.mk.injEq] at hb;obtain ⟨rfl,rfl⟩:=hb;simp only [capV] at h4;obtain ⟨G0,g01,g02⟩:=Rows.dropS i hR;obtain ⟨G,g1,g2⟩:=Rows.takeS n g01;have hlen:((rows.drop i).take n).length=n:=by rw [List.length_take,List.length_drop];omega
    have hmul:(i+cc)*sz≤c'*sz:=Nat.mul_le_mul_right _ (by omega);rw [Nat.add_mul] at hmul;refine ⟨b'::G,?_,by rw [hF];exact (g2.trans g02).cons_cons b'⟩;simp only [T];refine ⟨some ⟨b',o'+i*sz,none⟩,cc,by rw [h3,hlen],by omega,h2,.inr ⟨trivial,.inr ⟨b',o'+i*sz,cells,e,(raw.drop (i*sz)).take (n*sz),G,rfl,hh,by omega,fun j v hj=>?_,rfl,g1⟩⟩⟩;rw [List.getElem?_take] at hj;split at hj
    · rw [List.getElem?_drop] at hj;rw [Nat.add_assoc];exact hr _ v hj
    · cases hj
theorem putD_T (h:RelI w0 I0 s a.tmps w I Fs) (t:Nat) {d:D} {u:Value} {F:List Nat} (hT:T I w d (ρS s a.tmps w) u F) (hF:Fresh w0 w I Fs F):∃ Fs',RelI w0 I0 (putD s t d) (a.tmps.setIfInBounds t u) w I Fs':=by
  unfold putD;cases hs:s[t]? with
  | none =>
    have hge:s.length≤t:=(by simpa using hs);refine ⟨Fs,?_⟩;have h1:s.set t d=s:=(by rw [List.set_eq_of_length_le hge]);have h2:a.tmps.setIfInBounds t u=a.tmps:=by
      apply Array.ext_getElem?;intro i;by_cases hi:t=i
      · subst hi;have:a.tmps.size≤t:=by rw [h.len];exact hge
        simp [this]
      · rw [Array.getElem?_setIfInBounds_ne hi]
    simp only [h1,h2];exact h
  | some d0 =>
    have rooty:d0.cont≠none→∃ Fs',RelI w0 I0 ((pruneL (notRoot t) s).set t (d.prune (notRoot t))) (a.tmps.setIfInBounds t u) w I Fs':=by
      intro _;have hf:=h.forget t;have hlt:=(List.getElem?_eq_some_iff.1 hs).1;have hp:=hf.put (t:=t) (d0:=.undef) (d:=d.prune (notRoot t)) (u:=u) (F:=F) (by simp [pruneL_len,hlt]) rfl (T.turn (fun x v hq hx=>?_) d hT) hF.1 (fun b hb=>⟨(hF.2 b hb).1,(hF.2 b hb).2.1,(hF.2 b hb).2.2.1,fun r _ hr=>(hF.2 b hb).2.2.2 r (by
        unfold upd at hr;split at hr
        · cases hr
        · exact hr)⟩)
      · rw [List.set_set] at hp;exact ⟨_,hp⟩
      · have hx':=hx.prune (notRoot t);cases x with
        | ref r' p=>obtain ⟨d',u0,t1,h1,h2,h3,ho,h4⟩:=hx';exact ⟨d',u0,t1,by rw [List.getElem?_set_ne (by simp [notRoot] at hq;omega)];exact h1,h2,h3,ho,h4⟩
        | ptr r' p i j=>obtain ⟨d',u0,t',sz,rows,u1,b,o,h1,h2,h3,h4,h5,h6⟩:=hx';exact ⟨d',u0,t',sz,rows,u1,b,o,by rw [List.getElem?_set_ne (by simp [notRoot] at hq;omega)];exact h1,h2,h3,h4,h5,h6⟩
        | sub r' p i n=>obtain ⟨d',u0,t',sz,rows,u1,b,o,cc,h1,h2,h3,h4,h5,h6⟩:=hx';exact ⟨d',u0,t',sz,rows,u1,b,o,cc,by rw [List.getElem?_set_ne (by simp [notRoot] at hq;omega)];exact h1,h2,h3,h4,h5,h6⟩
        | _=>exact hx'.elim
    have ownc:∀ (sz:Nat) (rows:List (List D)),d0=.sl true sz rows→∃ Fs',RelI w0 I0 ((pruneL (notRoot t) s).set t (putO t sz rows d)) (a.tmps.setIfInBounds t u) w I Fs':=by
      intro sz rows hd0;unfold putO;split
      case h_2=>exact rooty (by rw [hd0];simp [D.cont])
      rename_i r n;split
      case isFalse=>exact rooty (by rw [hd0];simp [D.cont])
      rename_i hc;obtain ⟨rfl,hn⟩:=hc;subst hd0;obtain ⟨u0,hu0,hT0⟩:=h.slot0 hs;have hT0':T I w (.sl true sz rows) nil u0 (Fs r):=by simpa only [T] using hT0
      have hlt:=(List.getElem?_eq_some_iff.1 hs).1;obtain ⟨F1,hT1,hs1⟩:∃ F1,T I w (.sl true sz (rows.take n)) nil u F1∧F1.Sublist (Fs r):=by
        simp only [T] at hT;rcases hT.1 with ⟨d0',u0',t0',sz0',rows0',u1',b0,o0,cc,m1,m2,m3,n4,m5,n6,n7,n8,n9,n10⟩ | ⟨rfl,a',c',hu,hc',hi'⟩
        · rw [hs] at m1;cases m1;rw [hu0] at m2;cases m2;simp only [treeAt,Option.some.injEq] at m3;subst m3;simp only [valAt,Option.some.injEq] at m5;subst m5;simp only [D.cont,Option.some.injEq,Prod.mk.injEq] at n4;obtain ⟨rfl,_⟩:=n4;have:=own_take (u:=u) hT0' (i:=0) n6 (by omega) n7 n8 n9 n10;simpa using this
        · obtain ⟨rfl,rfl⟩:=hi' trivial;exact ⟨[],by rw [hu,List.take_zero];simp only [T];exact ⟨none,0,rfl,Nat.le_refl _,Nat.zero_le _,.inr ⟨trivial,.inl ⟨rfl,rfl,trivial⟩⟩⟩,List.nil_sublist _⟩
      have hp:=(h.forget r).put (t:=r) (d0:=.undef) (d:=.sl true sz (rows.take n)) (u:=u) (F:=F1) (by simp [pruneL_len,hlt]) rfl (hT1.res (fun _ _ h=>h.elim)) (hs1.nodup (h.nd r)) (fun b hb=>⟨(h.own r b (hs1.subset hb)).1,(h.own r b (hs1.subset hb)).2.1,(h.own r b (hs1.subset hb)).2.2,fun r' _ hr=>by
        unfold upd at hr;split at hr
        · cases hr
        · rename_i hne;exact hne (h.disj r' r b hr (hs1.subset hb))⟩)
      rw [List.set_set] at hp;exact ⟨_,hp⟩
    have plain:d0.cont=none→∃ Fs',RelI w0 I0 (s.set t d) (a.tmps.setIfInBounds t u) w I Fs':=fun hc =>
      ⟨_,h.put hs hc hT hF.1 (fun b hb=>⟨(hF.2 b hb).1,(hF.2 b hb).2.1,(hF.2 b hb).2.2.1,fun r _=>(hF.2 b hb).2.2.2 r⟩)⟩
    cases d0 with
    | sl own sz rows=>cases own with
      | true=>exact ownc _ _ rfl
      | false=>exact plain rfl
    | box tag cells=>exact rooty (by simp [D.cont])
    | mp k e=>exact rooty (by simp [D.cont])
    | _=>exact plain rfl
end
end Go.V
namespace Go.V
open Go.RowKit
def RunsTo (P:Program)(m:Sem Next)(w:World)(R:Value→World→Prop):Prop :=
  match m.run P w with
  | .ok (.value v) w'=>R v w'
  | .ok .skip w'=>R undef w'
  | .ok (.enter f args) w'=>Calls P f args w' fun e w''=>∃ v,e=.returned v∧R v w''
  | _=>False
def Frame (Fs:Nat→List Nat)(I I':Nat→Prop)(Fs':Nat→List Nat)(F:List Nat)(s':List D)(w w':World):Prop :=
  (∀ b,I b→I' b)∧(∀ b,I' b→I b∨w.heap.size≤b)∧(∀ b,b∈F→w.heap.size≤b∨∃ r,b∈Fs r)∧(∀ b,b<w.heap.size→b∉F→w'.heap[b]?=w.heap[b]?)∧∀ r,s'[r]?=some .undef∨Fs' r=Fs r
def OutOK (nn:Bool)(Fs:Nat→List Nat)(I:Nat→Prop)(w:World)(w0:Base)(I0:Nat→Prop)(tm:Array Value)(K:D→List D→Prop)(v:Value)(w':World):Prop :=
  ∃ d s' I' Fs' F,K d s'∧RelI w0 I0 s' tm w' I' Fs'∧T I' w' d (ρS s' tm w') v F∧Fresh w0 w' I' Fs' F∧(nn=true→Frame Fs I I' Fs' F s' w w')
theorem Frame.below {Fs:Nat→List Nat}{I:Nat→Prop}{Fs':Nat→List Nat}{F:List Nat}{s':List D}{w w':World}(hb:Below w.heap.size w w')(hF:∀ b,b∈F→w.heap.size≤b∨∃ r,b∈Fs r)(hs:∀ r,s'[r]?=some .undef∨Fs' r=Fs r):Frame Fs I I Fs' F s' w w':=⟨fun _ h=>h,fun _ h=>.inl h,hF,fun b h _=>hb.block b h,hs⟩
theorem Frame.refl {Fs:Nat→List Nat}{I:Nat→Prop}{s':List D}{w:World}:Frame Fs I I Fs [] s' w w:=Frame.below (Below.refl _ _) (fun _ h=>by cases h) (fun _=>.inr rfl)
section
variable {P:Program} {w0:Base} {I0:Nat→Prop} {s:List D} {a:Act} {w:World} {I:Nat→Prop} {Fs:Nat→List Nat} {K:D→List D→Prop} {Ctr:CtrT} {nn:Bool}
theorem RunsTo.value {m:Sem Next}{R}{v:Value}{w':World}(h:m.run P w=.ok (.value v) w')(hR:R v w'):RunsTo P m w R:=by unfold RunsTo;rw [h];exact hR
theorem OutOK.plain (h:RelI w0 I0 s a.tmps w I Fs){d:D}{v:Value}(hK:K d s)(hT:T I w d (ρS s a.tmps w) v []):OutOK nn Fs I w w0 I0 a.tmps K v w:=⟨d,s,I,Fs,[],hK,h,hT,Fresh.nil,fun _=>Frame.refl⟩
theorem sim_asg (h:RelI w0 I0 s a.tmps w I Fs){x:Operand}(hk:evalK Ctr s (.asg x) K):RunsTo P (pure (.value (a.eval x))) w (OutOK nn Fs I w w0 I0 a.tmps K):=by obtain ⟨Fs',F,h',hT,hF,_,hin,hst⟩:=tk_T h x;exact .value rfl ⟨_,_,I,Fs',F,hk,h',hT,hF,fun _=>Frame.below (Below.refl _ _) (fun b hb=>.inr (hin b hb)) hst⟩
theorem sim_mv (h:RelI w0 I0 s a.tmps w I Fs){x:Operand}(hk:evalK Ctr s (.mv x) K):RunsTo P (pure (.value (a.eval x))) w (OutOK nn Fs I w w0 I0 a.tmps K):=by
  simp only [evalK] at hk;unfold mvE at hk;split at hk
  · rename_i t;split at hk
    · rename_i vs hs;refine sim_asg (Ctr:=Ctr) h (x:=.tmp t) ?_;simp only [evalK];have e:tk s (.tmp t)=(.tup vs,if ownyL vs then s.set t .undef else s):=by show tkT s t=_;unfold tkT;rw [hs];rfl
      rw [e];exact hk
    · exact .value rfl (.plain h hk (lk_T h _))
  · exact .value rfl (.plain h hk (lk_T h _))
theorem T_v {x:Value}{ρ u F}(h:T I w (.v x) ρ u F):u=x∧F=[]:=by simpa only [T] using h
theorem T_vI {x:Value}{ρ}:T I w (.v x) ρ x []:=by simp [T]
theorem T_ptr {r q i j u F}{tm:Array Value}(h:T I w (.ptr r q i j) (ρS s tm w) u F):∃ ad,u=.pointer (some ad):=by simp only [T] at h;obtain ⟨⟨d,u0,t,sz,rows,u1,b,o,_,_,_,_,_,_,e⟩,_⟩:=h;exact ⟨_,e⟩
theorem T_sub_form {r q i n u F}{tm:Array Value}(h:T I w (.sub r q i n) (ρS s tm w) u F):∃ ad c,u=.slice ad n c∧n≤c∧c≤maxLen:=by
  simp only [T] at h;rcases h.1 with ⟨d,u0,t,sz,rows,u1,b,o,c,_,_,_,_,_,_,h1,h2,e,_⟩ | ⟨rfl,a,c,e,h1⟩
  · exact ⟨_,_,e,h1,h2⟩
  · exact ⟨_,_,e,by omega,h1.1⟩
theorem T_iptr {cs j u F ρ}(h:T I w (.iptr cs j) ρ u F):∃ ad,u=.pointer (some ad):=by simp only [T] at h;obtain ⟨_,b,o,raw,e,_⟩:=h;exact ⟨_,e⟩
theorem T_fn {f x y u F ρ}(h:T I w (.fn f x y) ρ u F):∃ us vs,u=.func (.func f) us vs:=by simp only [T] at h;obtain ⟨us,vs,_,_,e,_⟩:=h;exact ⟨_,_,e⟩
theorem sim_nilc (h:RelI w0 I0 s a.tmps w I Fs){x:Operand}{o:Oper}(ho:o.op=.nilCheck x)(hk:evalK Ctr s (.nilc x) K):RunsTo P (execOp a.eval o) w (OutOK nn Fs I w w0 I0 a.tmps K):=by
  have hT:=lk_T h x;simp only [evalK] at hk;split at hk
  · rename_i r q i j hl;rw [hl] at hT;obtain ⟨ad,e⟩:=T_ptr hT;exact .value (v:=a.eval x) (by simp [execOp,ho,e]) (.plain h hk hT)
  · rename_i c j hl;rw [hl] at hT;obtain ⟨ad,e⟩:=T_iptr hT;exact .value (v:=a.eval x) (by simp [execOp,ho,e]) (.plain h hk hT)
  · rename_i f b c hl;rw [hl] at hT;obtain ⟨us,vs,e⟩:=T_fn hT;exact .value (v:=a.eval x) (by simp [execOp,ho,e]) (.plain h hk hT)
  · exact hk.elim
theorem sim_pick (h:RelI w0 I0 s a.tmps w I Fs){c x y:Operand}{o:Oper}(ho:o.op=.pick c x y)(hk:evalK Ctr s (.pick c x y) K):RunsTo P (execOp a.eval o) w (OutOK nn Fs I w w0 I0 a.tmps K):=by
  have hc:=lk_T h c;have hx:=lk_T h x;have hy:=lk_T h y;simp only [evalK,pickK] at hk;split at hk
  · rename_i t e1;rw [e1] at hc;have hc':=(T_v hc).1;split at hk
    · rename_i b1 b2 e2 e3;rw [e2] at hx;rw [e3] at hy;have hx':=(T_v hx).1;have hy':=(T_v hy).1;refine .value (v:=.bool (if t then b1 else b2)) ?_ (.plain h hk (by simp [T]));simp only [execOp,ho,hc',hx',hy',asBool];cases t<;>rfl
    · cases t with
      | true=>exact .value (v:=a.eval x) (by simp only [execOp,ho,hc',asBool];rfl) (.plain h (hk.1 rfl) hx)
      | false=>exact .value (v:=a.eval y) (by simp only [execOp,ho,hc',asBool];rfl) (.plain h (hk.2 rfl) hy)
  · exact hk.elim
theorem intK_run {op:BinOp}{k k':IntKind}{x y:Int}{K:Value→Prop}(h:intK op k x k' y K)(t:TypeId):∃ v,K v∧(∀ w,(binOp op t (.int k x) (.int k' y)).run P w=.ok v w):=by
  cases op<;>simp only [intK] at h
  case shl=>refine ⟨_,h.2,fun w=>?_⟩;simp [binOp,Op.shift,Int.not_lt.2 h.1]
  case shr=>refine ⟨_,h.2,fun w=>?_⟩;simp [binOp,Op.shift,Int.not_lt.2 h.1]
  all_goals
    obtain ⟨rfl,h⟩:=h
  case quo=>exact ⟨_,h.2,fun w=>by simp [binOp,Op.intDiv,h.1]⟩
  case rem=>exact ⟨_,h.2,fun w=>by simp [binOp,Op.intDiv,h.1]⟩
  all_goals
    refine ⟨_,h,fun w=>?_⟩;simp [binOp,Op.intArith,Op.intBits,Op.intCmp,bne,BEq.beq]
theorem bytes_eq (x y:ByteArray):(x.toList==y.toList)=decide (x=y):=by
  rw [Bool.eq_iff_iff];simp only [beq_iff_eq,decide_eq_true_eq];constructor
  · intro h;rw [ByteArray.toList_eq,ByteArray.toList_eq] at h;cases x;cases y;simp only [ByteArray.mk.injEq];exact Array.toList_inj.1 h
  · rintro rfl;rfl
theorem strK_run {op:BinOp}{x y:ByteArray}{K:Value→Prop}(h:strK op x y K)(t:TypeId):∃ v,K v∧(∀ w,(binOp op t (.string x) (.string y)).run P w=.ok v w):=by
  cases op<;>simp only [strK] at h
  case add =>
    refine ⟨_,h.2,fun w=>?_⟩;have h1:=h.1;unfold maxLen at h1;have:((x.size:Int)+(y.size:Int))≤9223372036854775807:=by omega
    simp [binOp,Op.stringOp,IntKind.max,IntKind.signed,IntKind.bits,this]
  all_goals first
    | exact h.elim
    | (refine ⟨_,h,fun w=>?_⟩
       simp [binOp,Op.stringOp,← bytes_eq])
theorem sim_bin (h:RelI w0 I0 s a.tmps w I Fs){op:BinOp}{x y:Operand}{xt yt:TypeId}{o:Oper}(ho:o.op=.binOp op xt x y yt)(hk:evalK Ctr s (.bin op x y) K):RunsTo P (execOp a.eval o) w (OutOK nn Fs I w w0 I0 a.tmps K):=by
  have hx:=lk_T h x;have hy:=lk_T h y;simp only [evalK] at hk;split at hk
  · rename_i k b1 k' b2 e1 e2;rw [e1] at hx;rw [e2] at hy;obtain ⟨v,hv,hr⟩:=intK_run (P:=P) hk xt;refine .value (v:=v) ?_ (.plain h hv (by simp [T]));have hg:(eqGuard op xt x y (.int k b1) (.int k' b2)).run P w=.ok () w:=by unfold eqGuard;split<;>rfl
    simp only [execOp,ho,(T_v hx).1,(T_v hy).1,Sem.run_bind,hg,Result.andThen_ok,hr];rfl
  · rename_i b1 b2 e1 e2;rw [e1] at hx;rw [e2] at hy;obtain ⟨v,hv,hr⟩:=strK_run (P:=P) hk xt;refine .value (v:=v) ?_ (.plain h hv (by simp [T]));have hg:(eqGuard op xt x y (.string b1) (.string b2)).run P w=.ok () w:=by unfold eqGuard;split<;>rfl
    simp only [execOp,ho,(T_v hx).1,(T_v hy).1,Sem.run_bind,hg,Result.andThen_ok,hr];rfl
  · exact hk.elim
theorem equal_bool {t:TypeId}(ht:P.underlying t=some .bool)(b1 b2:Bool)(w:World):(Op.equal t (.bool b1) (.bool b2)).run P w=.ok (b1==b2) w:=by
  have key:∀ n,(Op.equalIn (n+1) t (.bool b1) (.bool b2)).run P w=.ok (b1==b2) w:=fun n=>by simp [Op.equalIn,run_underlying ht]
  exact key 9999
theorem sim_binB (h:RelI w0 I0 s a.tmps w I Fs){op:BinOp}{neg:Bool}{x y:Operand}{xt yt:TypeId}{o:Oper}(ho:o.op=.binOp op xt x y yt)(hop:(op=.eql∧neg=false)∨(op=.neq∧neg=true))(hxt:P.underlying xt=some .bool)(hk:evalK Ctr s (.binB neg x y) K):RunsTo P (execOp a.eval o) w (OutOK nn Fs I w w0 I0 a.tmps K):=by
  have hx:=lk_T h x;have hy:=lk_T h y;simp only [evalK] at hk;split at hk
  · rename_i b1 b2 e1 e2;rw [e1] at hx;rw [e2] at hy;refine .value (v:=.bool (if neg then !(b1==b2) else b1==b2)) ?_ (.plain h hk T_vI);rcases hop with ⟨rfl,rfl⟩ | ⟨rfl,rfl⟩
    · have hg:(eqGuard .eql xt x y (.bool b1) (.bool b2)).run P w=.ok () w:=(by unfold eqGuard;rfl);simp only [execOp,ho,(T_v hx).1,(T_v hy).1,Sem.run_bind,hg,Result.andThen_ok,binOp,equal_bool hxt];rfl
    · have hg:(eqGuard .neq xt x y (.bool b1) (.bool b2)).run P w=.ok () w:=(by unfold eqGuard;rfl);simp only [execOp,ho,(T_v hx).1,(T_v hy).1,Sem.run_bind,hg,Result.andThen_ok,binOp,equal_bool hxt];rfl
  · exact hk.elim
theorem sim_un (h:RelI w0 I0 s a.tmps w I Fs){op:UnOp}{x:Operand}{t:TypeId}{o:Oper}(ho:o.op=.unOp op t x)(hk:evalK Ctr s (.un op x) K):RunsTo P (execOp a.eval o) w (OutOK nn Fs I w w0 I0 a.tmps K):=by
  have hx:=lk_T h x;simp only [evalK] at hk;split at hk
  · rename_i b e;rw [e] at hx;exact .value (v:=.bool (!b)) (by simp only [execOp,ho,(T_v hx).1,Op.unary];rfl) (.plain h hk T_vI)
  · rename_i k n e;rw [e] at hx;exact .value (v:=.int k (k.wrap (0-n))) (by simp only [execOp,ho,(T_v hx).1,Op.unary,Op.intArith];rfl) (.plain h hk T_vI)
  · exact hk.elim
theorem sim_conv (h:RelI w0 I0 s a.tmps w I Fs){k:IntKind}{x:Operand}{src dst:TypeId}{d0:TypeDesc}{o:Oper}(ho:o.op=.convert src dst x)(hs:P.underlying src=some d0)(hd:P.underlying dst=some (.int k))(hk:evalK Ctr s (.conv k x) K):RunsTo P (execOp a.eval o) w (OutOK nn Fs I w w0 I0 a.tmps K):=by
  have hx:=lk_T h x;simp only [evalK] at hk;split at hk
  · rename_i k' n e;rw [e] at hx;refine .value (v:=.int k (k.wrap n)) ?_ (.plain h hk T_vI);simp only [execOp,ho,(T_v hx).1,convert,Sem.run_bind,run_underlying hs,run_underlying hd,Result.andThen_ok,Conv.intToInt];rfl
  · exact hk.elim
theorem mk_T {agg:Bool}{ds:List D}{ρ:D→Value→Prop}{us:List Value}(h:Cells I w ds ρ us [])(hl:agg=false→ds.length=1):T I w (mkAgg agg ds) ρ (if agg then .agg us.toArray else us.headD undef) []:=by
  cases agg with
  | true=>simp only [mkAgg,if_true,T];exact ⟨us,rfl,h⟩
  | false =>
    have:=hl rfl;cases ds with
    | nil=>simp at this
    | cons d ds =>
      simp only [Cells] at h;obtain ⟨u,us',F1,F2,e,hF,_,ht,_⟩:=h;have hF1:F1=[]:=by simp at hF;exact hF.1
      subst hF1;simpa [mkAgg,e] using ht
theorem Cells.drop {ρ:D→Value→Prop}:∀ {ds:List D} {us:List Value} (n:Nat),Cells I w ds ρ us []→Cells I w (ds.drop n) ρ (us.drop n) []
  | ds,us,0,h=>h
  | [],us,n+1,h=>by simp only [Cells] at h;simp [h.1,Cells]
  | d::ds,us,n+1,h=>by simp only [Cells] at h;obtain ⟨u,us',F1,F2,e,hF,_,_,h2⟩:=h;simp at hF;rw [hF.2] at h2;simpa [e] using Cells.drop n h2
theorem Cells.take {ρ:D→Value→Prop}:∀ {ds:List D} {us:List Value} (n:Nat),Cells I w ds ρ us []→Cells I w (ds.take n) ρ (us.take n) []
  | ds,us,0,h=>by simp [Cells]
  | [],us,n+1,h=>by simp only [Cells] at h;simp [h.1,Cells]
  | d::ds,us,n+1,h=>by simp only [Cells] at h;obtain ⟨u,us',F1,F2,e,hF,ho,ht,h2⟩:=h;simp at hF;rw [hF.1] at ht;rw [hF.2] at h2;simp only [e,List.take_succ_cons,Cells];exact ⟨u,us'.take n,[],[],rfl,rfl,ho,ht,Cells.take n h2⟩
end
end Go.V
namespace Go.V
open Go.RowKit
theorem val_T {I:Nat→Prop}{w:World}:∀ (p:Path) (d:D) {ρ:D→Value→Prop} {u:Value} {F:List Nat} {c:D},T I w d ρ u F→treeAt d p=some c→∃ u' F' ρ',valAt w u d p=some u'∧T I w c ρ' u' F'∧(ρ'=ρ∨ρ'=nil)∧(∀ x,x∈F'→x∈F)∧(p≠[]→u'.oneCell'=true)
  | [],d,ρ,u,F,c,h,hc=>by simp only [treeAt,Option.some.injEq] at hc;subst hc;exact ⟨u,F,ρ,rfl,h,.inl rfl,fun _ h=>h,fun h=>absurd rfl h⟩
  | (i,j)::p,d,ρ,u,F,c,h,hc=>by
    simp only [treeAt] at hc;cases hd:d.cont with
    | none=>simp [hd] at hc
    | some x =>
    obtain ⟨sz,rows⟩:=x;simp only [hd] at hc;cases hi:rows[i]? with
    | none=>simp [hi] at hc
    | some row =>
    cases hj:row[j]? with
    | none=>simp [hi,hj] at hc
    | some c' =>
    simp only [hi,hj] at hc;obtain ⟨b,o,u',A,F',B,hb,hcl,hF,⟨ρ',ht,hρ⟩,_,hone,_⟩:=T.step h hd hi hj;obtain ⟨u2,F2,ρ2,h1,h2,h3,h4,h5⟩:=val_T p c' ht hc;refine ⟨u2,F2,ρ2,by simp only [valAt,hd,hb,hi,hj,hcl];exact h1,h2,?_,fun x hx=>by have:=h4 x hx;simp [hF,this],fun _=>?_⟩
    · rcases h3 with rfl | rfl
      · exact hρ
      · exact .inr rfl
    · cases p with
      | nil=>simp only [valAt,Option.some.injEq] at h1;subst h1;exact hone
      | cons y p=>exact h5 (by simp)
section
variable {P:Program} {w0:Base} {I0:Nat→Prop} {s:List D} {a:Act} {w:World} {I:Nat→Prop} {Fs:Nat→List Nat} {K:D→List D→Prop} {Ctr:CtrT} {nn:Bool}
theorem T_sl_form {own sz rows ρ u F}(h:T I w (.sl own sz rows) ρ u F):∃ b c,u=.slice b rows.length c∧rows.length≤c∧c≤maxLen:=by simp only [T] at h;obtain ⟨b,c,e,h1,h2,_⟩:=h;exact ⟨b,c,e,h1,h2⟩
theorem slAt_tree {s:List D}{r:Nat}{q:Path}{d t:D}{sz:Nat}{rows:List (List D)}(h1:s[r]?=some d)(h2:treeAt d q=some t)(hs:slAt s (.ref r q)=some (sz,rows)):t=.sl true sz rows:=by
  simp only [slAt,h1,h2] at hs;cases t with
  | sl own sz' rows' =>
    cases own with
    | false=>cases hs
    | true=>simp only [Option.some.injEq,Prod.mk.injEq] at hs;rw [hs.1,hs.2]
  | _=>cases hs
theorem own_form {tm:Array Value}(h:RelI w0 I0 s tm w I Fs){r q u F}(hT:T I w (.ref r q) (ρS s tm w) u F):∃ d t F' ρ',s[r]?=some d∧treeAt d q=some t∧t.ownv=true∧T I w t ρ' u F'∧(∀ x,x∈F'→x∈Fs r):=by simp only [T] at hT;obtain ⟨⟨d,u0,t,h1,h2,h3,ho,h4⟩,_⟩:=hT;obtain ⟨u',F',ρ',k1,k2,_,k4,_⟩:=val_T q d (h.slot r d u0 h1 h2) h3;rw [h4] at k1;cases k1;exact ⟨d,t,F',ρ',h1,h3,ho,k2,k4⟩
theorem ref_form {tm:Array Value}(h:RelI w0 I0 s tm w I Fs){r q u F}(hT:T I w (.ref r q) (ρS s tm w) u F){sz:Nat}{rows:List (List D)}(hs:slAt s (.ref r q)=some (sz,rows)):∃ F' ρ',T I w (.sl true sz rows) ρ' u F'∧(∀ x,x∈F'→x∈Fs r):=by
  obtain ⟨d,t,F',ρ',h1,h2,ho,h3,h4⟩:=own_form h hT;simp only [slAt,h1,h2] at hs;cases t with
  | sl own sz' rows' =>
    cases own with
    | false=>cases hs
    | true=>simp only [Option.some.injEq,Prod.mk.injEq] at hs;obtain ⟨rfl,rfl⟩:=hs;exact ⟨F',ρ',h3,h4⟩
  | mp k e=>simp at hs
  | _=>cases ho
theorem map_form {tm:Array Value}(h:RelI w0 I0 s tm w I Fs){r q u F}(hT:T I w (.ref r q) (ρS s tm w) u F){k:KK}{e:List (Value×Value)}(hs:mpAt s (.ref r q)=some (k,e)):∃ F' ρ',T I w (.mp k e) ρ' u F'∧(∀ x,x∈F'→x∈Fs r):=by
  obtain ⟨d,t,F',ρ',h1,h2,ho,h3,h4⟩:=own_form h hT;simp only [mpAt,h1,h2] at hs;cases t with
  | sl own sz' rows'=>simp at hs
  | mp k' e'=>simp only [Option.some.injEq,Prod.mk.injEq] at hs;obtain ⟨rfl,rfl⟩:=hs;exact ⟨F',ρ',h3,h4⟩
  | _=>cases ho
theorem ok_one (h:RelI w0 I0 s a.tmps w I Fs){d:D}{u F}(hT:T I w d (ρS s a.tmps w) u F)(ho:d.okCells=true)(hn:∀ cs,d≠.agg cs):u.oneCell'=true∧u.cells=#[u]:=by
  have key:u.oneCell'=true→u.oneCell'=true∧u.cells=#[u]:=fun h=>⟨h,by cases u<;>first | rfl | (simp [Value.oneCell'] at h)⟩
  apply key;cases d with
  | undef=>simp [D.okCells] at ho
  | nils=>simp only [T] at hT;rw [hT.1];rfl
  | v x=>rw [(T_v hT).1];exact ho
  | sl own sz rows=>obtain ⟨b,c,e,_⟩:=T_sl_form hT;rw [e];rfl
  | agg cs=>exact absurd rfl (hn cs)
  | tup cs=>simp [D.okCells] at ho
  | ref r q =>
    obtain ⟨d,t,F',ρ',_,_,ho,k,_⟩:=own_form h hT;cases t with
    | sl own sz rows=>obtain ⟨b,c,e,_⟩:=T_sl_form k;rw [e];rfl
    | mp kk ee=>simp only [T] at k;exact mpB_one k
    | _=>cases ho
  | ptr r q i j=>obtain ⟨ad,e⟩:=T_ptr hT;rw [e];rfl
  | sub r q i n=>obtain ⟨ad,c,e,_⟩:=T_sub_form hT;rw [e];rfl
  | iptr c j=>obtain ⟨ad,e⟩:=T_iptr hT;rw [e];rfl
  | box tag cells=>simp only [T] at hT;obtain ⟨b,_,_,_,e,_⟩:=hT;rw [e];rfl
  | mp k e=>simp only [T] at hT;exact mpB_one hT
  | imp k e=>simp only [T] at hT;obtain ⟨_,_,e,_⟩:=hT;exact mpB_one e
  | fn f x y=>obtain ⟨us,vs,e⟩:=T_fn hT;rw [e];rfl
theorem cells_T (h:RelI w0 I0 s a.tmps w I Fs){d:D}{u F}(hT:T I w d (ρS s a.tmps w) u F)(ho:d.okCells=true):Cells I w d.cells (ρS s a.tmps w) u.cells.toList F:=by
  by_cases hn:∀ cs,d≠.agg cs
  · obtain ⟨h1,h2⟩:=ok_one h hT ho hn;have:d.cells=[d]:=by cases d<;>first | rfl | exact absurd rfl (hn _)
    rw [this,h2];simp only [Cells];exact ⟨u,[],F,[],rfl,by simp,h1,hT,rfl,rfl⟩
  · have:∃ cs,d=.agg cs:=by cases d<;>first | exact ⟨_,rfl⟩ | exact absurd (fun cs hc=>by cases hc) hn
    obtain ⟨cs,rfl⟩:=this;simp only [T] at hT;obtain ⟨us,e,hc⟩:=hT;rw [e];exact hc
theorem new_block (h:RelI w0 I0 s a.tmps w I Fs){cells:List D}{cs:Array Value}{F:List Nat}(hc:Cells I w cells (ρS s a.tmps w) cs.toList F)(hF:Fresh w0 w I Fs F)(t:TypeId)(hK:K (.box none cells) s){Fs0:Nat→List Nat}(hin:nn=true→∀ b,b∈F→∃ r,b∈Fs0 r)(hst:nn=true→∀ r,s[r]?=some .undef∨Fs r=Fs0 r) :
    OutOK nn Fs0 I w w0 I0 a.tmps K (.pointer (some ⟨w.heap.size,0,none⟩)) { w with heap:=w.heap.push (.cells cs t) }:=by
  have hb:Below w.heap.size w { w with heap:=w.heap.push (.cells cs t) }:=(Below.refl _ w).alloc (Nat.le_refl _) _;have h':=h.world hb;have hnew:({ w with heap:=w.heap.push (.cells cs t) }:World).heap[w.heap.size]?=some (.cells cs t (0,0)):=(by simp);refine ⟨_,s,I,Fs,w.heap.size::F,hK,h',?_,?_,fun hn=>Frame.below hb (fun b hb'=>(List.mem_cons.1 hb').elim (fun h=>.inl (by omega)) (fun h=>.inr (hin hn b h))) (hst hn)⟩
  · simp only [T];refine ⟨w.heap.size,cs,t,F,rfl,(fun _ h=>by cases h),hnew,rfl,?_⟩;refine (Cells.keep cells hc (fun b hb'=>hb.block b ?_)).res (fun x v hx=>?_)
    · rcases hb' with hb' | hb'
      · exact h.imm b hb'
      · exact (hF.2 b hb').2.1
    · exact ρS_world h hb hx
  · refine ⟨List.nodup_cons.2 ⟨fun hm=>Nat.lt_irrefl _ (hF.2 _ hm).2.1,hF.1⟩,fun b hb'=>?_⟩;rcases List.mem_cons.1 hb' with rfl | hb'
    · exact ⟨Base.N_of h.below (Nat.le_refl _),by simp,fun hI=>Nat.lt_irrefl _ (h.imm _ hI),fun r hr=>Nat.lt_irrefl _ (h.own r _ hr).2.1⟩
    · exact ⟨(hF.2 b hb').1,by have:=(hF.2 b hb').2.1;simp;omega,(hF.2 b hb').2.2⟩
theorem sim_box (h:RelI w0 I0 s a.tmps w I Fs){x:Operand}{t:TypeId}{o:Oper}(ho:o.op=.box t x)(hk:evalK Ctr s (.box x) K):RunsTo P (execOp a.eval o) w (OutOK nn Fs I w w0 I0 a.tmps K):=by obtain ⟨Fs',F,h',hT,hF,_,hin,hst⟩:=tk_T h x;obtain ⟨hk1,hk2⟩:=hk;refine .value (by simp only [execOp,ho,Instr.box,newVar,newRow];rfl) (new_block h' (cells_T h' hT hk1) hF t hk2 (fun _=>hin) (fun _=>hst))
theorem sim_alloc (h:RelI w0 I0 s a.tmps w I Fs){zero:List Value}{z:Value}{i:TypeInfo}{t:TypeId}{o:Oper}(ho:o.op=.alloc t)(hi:P.info? t=some i)(hz:i.zero=some z)(hzz:z.cells.toList=zero)(hone:zero.all (·.oneCell')=true)(hk:evalK Ctr s (.alloc zero) K):RunsTo P (execOp a.eval o) w (OutOK nn Fs I w w0 I0 a.tmps K):=by have hrun:(execOp a.eval o).run P w=.ok (.value (.pointer (some ⟨w.heap.size,0,none⟩))) { w with heap:=w.heap.push (.cells z.cells t) }:=(by simp [execOp,ho,Instr.alloc,zeroValue,typeInfo,hi,hz,newVar,newRow]);refine .value hrun (new_block h (cs:=z.cells) (by rw [hzz];exact ofC_Cells _ zero hone) Fresh.nil t hk (fun _ _ h=>by cases h) (fun _ _=>.inr rfl))
theorem fieldPlace_run {fd:Field}{n:Nat}(hn:(P.info? fd.type).map (·.size)=some (n+1))(b o:Nat)(w:World):(fieldPlace ⟨b,o,none⟩ fd).run P w=.ok ⟨b,o+fd.offset,none⟩ w:=by
  cases hq:P.info? fd.type with
  | none=>simp [hq] at hn
  | some i=>simp [hq] at hn;simp [fieldPlace,sizeOf,typeInfo,hq,hn,Addr.add_mid]
theorem sim_fa (h:RelI w0 I0 s a.tmps w I Fs){off n:Nat}{x:Operand}{st:TypeId}{f:Nat}{fs:Array Field}{fd:Field}{o:Oper}(ho:o.op=.fieldAddr st x f)(hs:P.underlying st=some (.struct fs))(hf:fs[f]?=some fd)(hoff:fd.offset=off)(hn:(P.info? fd.type).map (·.size)=some (n+1))(hk:evalK Ctr s (.fa off x) K):RunsTo P (execOp a.eval o) w (OutOK nn Fs I w w0 I0 a.tmps K):=by
  have hx:=lk_T h x;simp only [evalK] at hk;split at hk
  · rename_i r q i j e;rw [e] at hx;simp only [T] at hx;obtain ⟨⟨d,u0,t,sz,rows,u1,b,oo,h1,h2,h3,h4,h5,h6,h7⟩,_⟩:=hx;refine .value (v:=.pointer (some ⟨b,oo+i*sz+j+off,none⟩)) ?_ (.plain h hk ?_)
    · simp [execOp,ho,h7,Instr.fieldAt,run_underlying hs,hf,Instr.sureAddr,fieldPlace_run hn,hoff]
    · simp only [T];exact ⟨⟨d,u0,t,sz,rows,u1,b,oo,h1,h2,h3,h4,h5,h6,by simp [Nat.add_assoc]⟩,trivial⟩
  · rename_i c j e;rw [e] at hx;simp only [T] at hx;obtain ⟨_,b,oo,raw,e',hI,hr,hc⟩:=hx;refine .value (v:=.pointer (some ⟨b,oo+j+off,none⟩)) ?_ (.plain h hk ?_)
    · simp [execOp,ho,e',Instr.fieldAt,run_underlying hs,hf,Instr.sureAddr,fieldPlace_run hn,hoff]
    · simp only [T];exact ⟨trivial,b,oo,raw,by simp [Nat.add_assoc],hI,hr,hc⟩
  · exact hk.elim
theorem Rows.at {sz:Nat}:∀ {rs:List (List D)} {raw:List Value} {F:List Nat} (k:Nat) {row:List D},Rows I w sz rs raw F→rs[k]?=some row→∃ us F',Cells I w row nil us F'∧(∀ x,x∈F'→x∈F)∧us.length=sz∧∀ j v,us[j]?=some v→raw[k*sz+j]?=some v
  | [],_,_,_,_,_,h=>by simp at h
  | r::rs,raw,F,0,row,h,hi=>by
    simp only [Rows] at h;obtain ⟨us,raw',F1,F2,e,hF,hl,hc,h2⟩:=h;obtain rfl:r=row:=by simpa using hi
    refine ⟨us,F1,hc,fun x hx=>by simp [hF,hx],hl,fun j v hj=>?_⟩;rw [e,Nat.zero_mul,Nat.zero_add,List.getElem?_append_left (List.getElem?_eq_some_iff.1 hj).1];exact hj
  | r::rs,raw,F,k+1,row,h,hi=>by simp only [Rows] at h;obtain ⟨us,raw',F1,F2,e,hF,hl,hc,h2⟩:=h;obtain ⟨us',F',k1,k2,k3,k4⟩:=Rows.at k h2 (by simpa using hi);refine ⟨us',F',k1,fun x hx=>by have:=k2 x hx;simp [hF,this],k3,fun j v hj=>?_⟩;rw [e,List.getElem?_append_right (by rw [hl,Nat.add_mul];omega),hl,Nat.add_mul,Nat.one_mul,show k*sz+sz+j-sz=k*sz+j by omega];exact k4 j v hj
theorem cpyL_len {r q i}:∀ (ds:List D) (j:Nat),(cpyL r q i j ds).length=ds.length
  | [],_=>rfl
  | d::ds,j=>by
    have ih:=cpyL_len (r:=r) (q:=q) (i:=i) ds (j+1);cases d with
    | sl own sz rows=>cases own<;>simp [cpyL,ih]
    | _=>simp [cpyL,ih]
theorem Cells.cut {ρ:D→Value→Prop}:∀ {ds:List D} {us:List Value} {F:List Nat} (j n:Nat),Cells I w ds ρ us F→∃ F',Cells I w ((ds.drop j).take n) ρ ((us.drop j).take n) F'
  | [],us,F,j,n,h=>by simp only [Cells] at h;exact ⟨[],by simp [h.1,Cells]⟩
  | d::ds,us,F,0,0,h=>⟨[],by simp [Cells]⟩
  | d::ds,us,F,0,n+1,h=>by simp only [Cells] at h;obtain ⟨u,us',F1,F2,e,hF,ho,ht,h2⟩:=h;obtain ⟨F',hF'⟩:=Cells.cut 0 n h2;exact ⟨F1++F',by simp only [List.drop_zero] at hF';simp only [e,List.drop_zero,List.take_succ_cons,Cells];exact ⟨u,_,F1,F',rfl,rfl,ho,ht,hF'⟩⟩
  | d::ds,us,F,j+1,n,h=>by simp only [Cells] at h;obtain ⟨u,us',F1,F2,e,hF,ho,ht,h2⟩:=h;obtain ⟨F',hF'⟩:=Cells.cut j n h2;exact ⟨F',by simpa [e] using hF'⟩
theorem row_T {ρ:D→Value→Prop}{t:D}{u:Value}{F:List Nat}(hT:T I w t ρ u F){sz:Nat}{rows:List (List D)}(hc:t.cont=some (sz,rows)){i:Nat}{row:List D}(hi:rows[i]?=some row) :
    ∃ b o us F' ρ',baseOf u=some (b,o)∧w.rangeAt b (o+i*sz) us∧Cells I w row ρ' us F'∧(ρ'=ρ∨ρ'=nil)∧(∀ x,x∈F'→x∈F)∧b∈F:=by
  cases t with
  | sl own sz' rows' =>
    cases own with
    | false=>simp [D.cont] at hc
    | true =>
      simp only [D.cont,Option.some.injEq,Prod.mk.injEq] at hc;obtain ⟨rfl,rfl⟩:=hc;simp only [T] at hT;obtain ⟨ad,cp,e,h1,h2,h3⟩:=hT;rcases h3 with ⟨ho,_⟩ | ⟨_,h3⟩
      · simp at ho
      rcases h3 with ⟨ha,hcp,hF⟩ | ⟨b,o,cells,et,raw,F',ha,hh,hs,hr,hF,hR⟩
      · have:rows'.length=0:=(by omega);have:rows'=[]:=List.eq_nil_of_length_eq_zero this;simp [this] at hi
      obtain ⟨us,F1,k1,k2,k3,k4⟩:=Rows.at i hR hi;refine ⟨b,o,us,F1,nil,by simp [e,ha,baseOf],fun j v hj=>?_,k1,.inr rfl,(fun x hx=>by rw [hF];exact List.mem_cons_of_mem _ (k2 x hx)),by simp [hF]⟩;have:=hr _ v (k4 j v hj);rw [← this];congr 2;omega
  | mp k e=>simp only [D.cont,Option.some.injEq,Prod.mk.injEq] at hc;obtain ⟨rfl,rfl⟩:=hc;simp at hi
  | box tag cells =>
    simp only [D.cont,Option.some.injEq,Prod.mk.injEq] at hc;obtain ⟨rfl,rfl⟩:=hc;cases i with
    | succ i=>simp at hi
    | zero=>obtain rfl:cells=row:=(by simpa using hi);simp only [T] at hT;obtain ⟨b,cs,e,F',hu,_,hh,hF,hcs⟩:=hT;refine ⟨b,0,cs.toList,F',ρ,by simp [hu,baseOf],fun j v hj=>?_,hcs,.inl rfl,(fun x hx=>by rw [hF];exact List.mem_cons_of_mem _ hx),by simp [hF]⟩;rw [cell_row hh];simpa using hj
  | _=>simp [D.cont] at hc
theorem sim_ia (h:RelI w0 I0 s a.tmps w I Fs) {sz:Nat} {x i:Operand} {xt et:TypeId} {o:Oper} (ho:o.op=.indexAddr xt x i) (hx:P.underlying xt=some (.slice et)) (hsz:(P.info? et).map (·.size)=some sz) (hk:evalK Ctr s (.ia sz x i) K):RunsTo P (execOp a.eval o) w (OutOK nn Fs I w w0 I0 a.tmps K):=by
  have hX:=lk_T h x;have hI:=lk_T h i;have hrun:∀ (k:IntKind) (n:Int) (b oo l c:Nat),a.eval i=.int k n→a.eval x=.slice (some ⟨b,oo,none⟩) l c→0≤n→n<l→(execOp a.eval o).run P w=.ok (.value (.pointer (some ⟨b,oo+n.toNat*sz,none⟩))) w:=by
    intro k n b oo l c e1 e2 h1 h2;cases hq:P.info? et with
    | none=>simp [hq] at hsz
    | some ii=>simp [hq] at hsz;simp [execOp,ho,e1,e2,Instr.indexAt,asIntOf,run_underlying hx,h1,h2,sizeOf,typeInfo,hq,hsz,Addr.add_mid]
  simp only [evalK] at hk;split at hk
  · rename_i k n r q e1 e2;rw [e1] at hI;rw [e2] at hX;split at hk
    · rename_i sz' rows e3;obtain ⟨h1,h2,rfl,hK⟩:=hk;obtain ⟨F',ρ',k2,_⟩:=ref_form h hX e3;have hlt:n.toNat<rows.length:=by omega
      obtain ⟨b,oo,us,F2,ρ2,hb,_⟩:=row_T k2 (by rfl) (List.getElem?_eq_getElem hlt);obtain ⟨ad,c,e4,_,_⟩:=T_sl_form k2;rw [e4] at hb;have:ad=some ⟨b,oo,none⟩:=by
        cases ad with
        | none=>simp [baseOf] at hb
        | some z=>obtain ⟨z1,z2,z3⟩:=z;cases z3<;>simp [baseOf] at hb;simp [hb]
      subst this;refine .value (hrun k n b oo _ c (T_v hI).1 e4 h1 h2) (.plain h hK ?_);simp only [T] at hX ⊢;obtain ⟨⟨d,u0,tt,m1,m2,m3,mo,m4⟩,_⟩:=hX;obtain rfl:=slAt_tree m1 m3 e3;exact ⟨⟨d,u0,_,sz',rows,_,b,oo,m1,m2,m3,rfl,m4,by rw [e4];rfl,by simp⟩,trivial⟩
    · exact hk.elim
  · rename_i k n sz' rows e1 e2;rw [e1] at hI;rw [e2] at hX;obtain ⟨h1,h2,rfl,row,hrow,hK⟩:=hk;simp only [T] at hX;obtain ⟨ad,c,e4,_,_,h3⟩:=hX;rcases h3 with ⟨_,_,h3⟩ | ⟨h3,_⟩
    · rcases h3 with h3 | ⟨b,oo,raw,rfl,hIb,hr,hR⟩
      · subst h3;simp at hrow
      obtain ⟨us,F',k1,k2,k3,k4⟩:=Rows.at n.toNat hR hrow;have:F'=[]:=List.eq_nil_iff_forall_not_mem.2 (fun x hx=>by simpa using k2 x hx);subst this;refine .value (hrun k n b oo _ c (T_v hI).1 e4 h1 h2) (.plain h hK ?_);simp only [T];refine ⟨trivial,b,oo+n.toNat*sz',us,by simp,hIb,fun j v hj=>?_,k1⟩;have:=hr _ v (k4 j v hj);rw [← this];congr 2;omega
    · simp at h3
  · exact hk.elim
theorem sim_iaa (h:RelI w0 I0 s a.tmps w I Fs){len sz:Nat}{x i:Operand}{xt et:TypeId}{o:Oper}(ho:o.op=.indexAddr xt x i)(hx:P.underlying xt=some (.array len et))(hsz:(P.info? et).map (·.size)=some sz)(hk:evalK Ctr s (.iaa len sz x i) K):RunsTo P (execOp a.eval o) w (OutOK nn Fs I w w0 I0 a.tmps K):=by
  have hX:=lk_T h x;have hI:=lk_T h i;have hrun:∀ (k:IntKind) (n:Int) (b oo:Nat),a.eval i=.int k n→a.eval x=.pointer (some ⟨b,oo,none⟩)→0≤n→n<len→(execOp a.eval o).run P w=.ok (.value (.pointer (some ⟨b,oo+n.toNat*sz,none⟩))) w:=by
    intro k n b oo e1 e2 h1 h2;cases hq:P.info? et with
    | none=>simp [hq] at hsz
    | some ii=>simp [hq] at hsz;simp [execOp,ho,e1,e2,Instr.indexAt,asIntOf,run_underlying hx,h1,h2,sizeOf,typeInfo,hq,hsz,Addr.add_mid,Instr.sureAddr]
  simp only [evalK] at hk;split at hk
  · rename_i k n r q i' j e1 e2;rw [e1] at hI;rw [e2] at hX;obtain ⟨h1,h2,hK⟩:=hk;simp only [T] at hX;obtain ⟨⟨d,u0,t,szz,rows,u1,b,oo,m1,m2,m3,m4,m5,m6,m7⟩,_⟩:=hX;refine .value (hrun k n b _ (T_v hI).1 m7 h1 h2) (.plain h hK ?_);simp only [T];exact ⟨⟨d,u0,t,szz,rows,u1,b,oo,m1,m2,m3,m4,m5,m6,by simp [Nat.add_assoc]⟩,trivial⟩
  · rename_i k n c j e1 e2;rw [e1] at hI;rw [e2] at hX;obtain ⟨h1,h2,hK⟩:=hk;simp only [T] at hX;obtain ⟨_,b,oo,raw,e',hIb,hr,hc⟩:=hX;refine .value (hrun k n b _ (T_v hI).1 e' h1 h2) (.plain h hK ?_);simp only [T];exact ⟨trivial,b,oo,raw,by simp [Nat.add_assoc],hIb,hr,hc⟩
  · exact hk.elim
theorem val_snoc {w:World}:∀ (q:Path) (d:D) (u:Value) (i j:Nat) {t:D} {sz:Nat} {rows:List (List D)} {row:List D} {c:D} {u1 u':Value} {b o:Nat},treeAt d q=some t→t.cont=some (sz,rows)→rows[i]?=some row→row[j]?=some c→valAt w u d q=some u1→baseOf u1=some (b,o) →
    w.cell? ⟨b,o+i*sz+j,none⟩=some u'→valAt w u d (q++[(i,j)])=some u'
  | [],d,u,i,j,t,sz,rows,row,c,u1,u',b,o,h1,h2,hi,hj,h3,h4,h5=>by simp only [treeAt,valAt,Option.some.injEq] at h1 h3;subst h1;subst h3;simp only [List.nil_append,valAt,h2,h4,hi,hj,h5]
  | (i',j')::q,d,u,i,j,t,sz,rows,row,c,u1,u',b,o,h1,h2,hi,hj,h3,h4,h5=>by
    simp only [treeAt] at h1;simp only [valAt] at h3;cases hd:d.cont with
    | none=>simp [hd] at h1
    | some x =>
    obtain ⟨sz',rows'⟩:=x;cases hb:baseOf u with
    | none=>simp [hd,hb] at h3
    | some y =>
    obtain ⟨b',o'⟩:=y;simp only [hd,hb] at h1 h3;cases hi':rows'[i']? with
    | none=>simp [hi'] at h1
    | some row' =>
    simp only [hi'] at h1 h3;cases hj':row'[j']? with
    | none=>simp [hj'] at h1
    | some c' =>
    simp only [hj'] at h1 h3;cases hc:w.cell? ⟨b',o'+i'*sz'+j',none⟩ with
    | none=>simp [hc] at h3
    | some u'' =>
    simp only [hc] at h3;simp only [List.cons_append,valAt,hd,hb,hi',hj',hc];exact val_snoc q c' u'' i j h1 h2 hi hj h3 h4 h5
theorem tree_snoc {d:D}{q:Path}{t:D}{sz:Nat}{rows:List (List D)}{i j:Nat}{row:List D}{c:D}(h1:treeAt d q=some t)(h2:t.cont=some (sz,rows))(hi:rows[i]?=some row)(hj:row[j]?=some c):treeAt d (q++[(i,j)])=some c:=by rw [treeAt_append,h1];simp [treeAt,h2,hi,hj]
theorem cpy_T {ρ ρ':D→Value→Prop}(hρ:∀ x u,ρ' x u→ρ x u){r:Nat}{q:Path}{i:Nat}:∀ (ds:List D) (us:List Value) (j:Nat) (F:List Nat),Cells I w ds ρ' us F→(∀ k t u,t.ownv=true→ds[k]?=some t→us[k]?=some u→ρ (.ref r (q++[(i,j+k)])) u)→(∀ k tg cs u b,ds[k]?=some (.box tg cs)→us[k]?=some u→u=.pointer (some ⟨b,0,none⟩)→ρ (.ptr r (q++[(i,j+k)]) 0 0) u)→Cells I w (cpyL r q i j ds) ρ us []
  | [],us,j,F,h,_,_=>by simp only [Cells] at h;simp [cpyL,Cells,h.1]
  | d :: ds,us,j,F,h,hr,hb=>by
    simp only [Cells] at h;obtain ⟨u,us',F1,F2,e,hF,ho,ht,h2⟩:=h;subst e;have ih:=cpy_T hρ ds us' (j+1) F2 h2 (fun k t u ho hk hu=>by have:=hr (k+1) t u ho (by simpa using hk) (by simpa using hu);rwa [show j+1+k=j+(k+1) by omega]) (fun k tg cs u b hk hu he=>by have:=hb (k+1) tg cs u b (by simpa using hk) (by simpa using hu) he;rwa [show j+1+k=j+(k+1) by omega]);have gen:∀ d',T I w d' ρ u []→Cells I w (d'::cpyL r q i (j+1) ds) ρ (u::us') []:=fun d' ht'=>by simp only [Cells];exact ⟨u,us',[],[],rfl,rfl,ho,ht',ih⟩
    have other:Cells I w ((if d.owny then .undef else d)::cpyL r q i (j+1) ds) ρ (u::us') []:=by
      refine gen _ ?_;by_cases hod:d.owny=true
      · rw [if_pos hod];simp [T]
      · rw [if_neg hod];have:=T.nofoot d ht (by simpa using hod);rw [this] at ht;exact ht.res hρ
    cases d with
    | sl own sz rows =>
      cases own with
      | true=>simp only [cpyL];refine gen _ ?_;simp only [T];have:=hr 0 (.sl true sz rows) u rfl (by simp) (by simp);exact ⟨by simpa using this,trivial⟩
      | false=>simpa only [cpyL] using other
    | mp k e=>simp only [cpyL];refine gen _ ?_;simp only [T];have:=hr 0 (.mp k e) u rfl (by simp) (by simp);exact ⟨by simpa using this,trivial⟩
    | box tg cs=>simp only [cpyL];refine gen _ ?_;simp only [T] at ht ⊢;obtain ⟨b,cs2,et,F',hub,_⟩:=ht;have:=hb 0 tg cs u b (by simp) (by simp) hub;exact ⟨by simpa using this,trivial⟩
    | _=>simpa only [cpyL] using other
theorem load_run {ty:TypeId}{agg:Bool}{n:Nat}{d:TypeDesc}(hu:P.underlying ty=some d)(hagg:d.isRow=agg)(hn:(P.info? ty).map (·.size)=some n)(h1:agg=false→n=1){b o:Nat}{us:List Value}(hl:us.length=n)(hr:w.rangeAt b o us) :
    (Instr.loadAt ty (.pointer (some ⟨b,o,none⟩))).run P w=.ok (if agg then .agg us.toArray else us.headD undef) w:=by
  cases agg with
  | true=>simp only [if_true];exact run_loadAt_mid w b o ty us d hr hu hagg (by rw [hl];exact hn)
  | false =>
    have:=h1 rfl;cases us with
    | nil=>simp at hl;omega
    | cons u us=>have hag:(isAgg ty).run P w=.ok false w:=(by unfold isAgg;rw [Sem.run_bind,run_underlying hu w];cases d<;>simp_all);have hc:=hr 0 u (by simp);simp at hc;simp [Instr.loadAt,Instr.sureAddr,loadVar,hag,run_load,hc]
theorem sim_load (h:RelI w0 I0 s a.tmps w I Fs) {n:Nat} {agg:Bool} {x:Operand} {ty:TypeId} {d:TypeDesc} {o:Oper} (ho:o.op=.load ty x) (hu:P.underlying ty=some d) (hagg:d.isRow=agg) (hn:(P.info? ty).map (·.size)=some n) (h1:agg=false→n=1) (hk:evalK Ctr s (.load n agg x) K):RunsTo P (execOp a.eval o) w (OutOK nn Fs I w w0 I0 a.tmps K):=by
  have hX:=lk_T h x;have fin:∀ (b oo:Nat) (us:List Value) (ds:List D),a.eval x=.pointer (some ⟨b,oo,none⟩)→us.length=n→ds.length=n→w.rangeAt b oo us→Cells I w ds (ρS s a.tmps w) us []→K (mkAgg agg ds) s→RunsTo P (execOp a.eval o) w (OutOK nn Fs I w w0 I0 a.tmps K):=(by intro b oo us ds e hl hl2 hr hc hK;refine .value (v:=if agg then .agg us.toArray else us.headD undef) ?_ (.plain h hK (mk_T hc (fun ha=>by rw [hl2];exact h1 ha)));simp only [execOp,ho,e,Sem.run_bind,load_run hu hagg hn h1 hl hr];rfl);simp only [evalK] at hk;split at hk
  · rename_i r q i j e;rw [e] at hX;split at hk
    · rename_i row hrow;obtain ⟨hlen,hK⟩:=hk;simp only [T] at hX;obtain ⟨⟨d',u0,t,sz,rows,u1,b,oo,m1,m2,m3,m4,m5,m6,m7⟩,_⟩:=hX;have hi:rows[i]?=some row:=by simpa [rowAt,m1,m3,m4] using hrow
      obtain ⟨u',F',ρ',k1,k2,k3,k4,k5⟩:=val_T q d' (h.slot r d' u0 m1 m2) m3;rw [m5] at k1;cases k1;obtain ⟨b',o',us,F2,ρ2,hb,hr,hc,hρ2,_⟩:=row_T k2 m4 hi;obtain ⟨rfl,rfl⟩:b'=b∧o'=oo:=(by rw [m6] at hb;simpa [eq_comm] using hb);have hlen':=hc.len;have hres:∀ y v,ρ2 y v→ρS s a.tmps w y v:=by
        rcases hρ2 with rfl | rfl
        · rcases k3 with rfl | rfl
          · exact fun _ _ h=>h
          · exact fun _ _ h=>h.elim
        · exact fun _ _ h=>h.elim
      -- the whole row copied, then cut
      have hcp:∀ (jj:Nat) (ds:List D) (vs:List Value) (FF:List Nat),Cells I w ds ρ2 vs FF→(∀ k c,ds[k]?=some c→row[jj+k]?=some c)→(∀ k v,vs[k]?=some v→us[jj+k]?=some v)→Cells I w (cpyL r q i jj ds) (ρS s a.tmps w) vs []:=by
        intro jj ds vs FF hcc hds hvs;refine cpy_T hres ds vs jj FF hcc (fun k t' v ho hk' hv'=>?_) (fun k tg cs v b hk' hv' he=>?_)
        · have hrk:=hds k _ hk';exact ⟨d',u0,t',m1,m2,tree_snoc m3 m4 hi hrk,ho,val_snoc q d' u0 i (jj+k) m3 m4 hi hrk m5 m6 (hr _ v (hvs k v hv'))⟩
        · have hrk:=hds k _ hk';exact ⟨d',u0,.box tg cs,cs.length,[cs],v,b,0,m1,m2,tree_snoc m3 m4 hi hrk,rfl,val_snoc q d' u0 i (jj+k) m3 m4 hi hrk m5 m6 (hr _ v (hvs k v hv')),by rw [he];rfl,by rw [he];simp⟩
      have hsub:∃ FF,Cells I w ((row.drop j).take n) ρ2 ((us.drop j).take n) FF:=Cells.cut j n hc;obtain ⟨FF,hsub⟩:=hsub;refine fin b' (o'+i*sz+j) ((us.drop j).take n) _ m7 (by simp;omega) ?_ (fun k v hk'=>?_) (hcp j _ _ FF hsub (fun k c hk'=>?_) (fun k v hk'=>?_)) hK
      · rw [cpyL_len];simp;omega
      · have:us[j+k]?=some v:=by
          rw [List.getElem?_take] at hk';split at hk'
          · rw [List.getElem?_drop] at hk';exact hk'
          · cases hk'
        have:=hr _ v this;rw [← this];congr 2;omega
      · rw [List.getElem?_take] at hk';split at hk'
        · rw [List.getElem?_drop] at hk';exact hk'
        · cases hk'
      · rw [List.getElem?_take] at hk';split at hk'
        · rw [List.getElem?_drop] at hk';exact hk'
        · cases hk'
    · exact hk.elim
  · rename_i cells j e;rw [e] at hX;obtain ⟨hlen,hK⟩:=hk;simp only [T] at hX;obtain ⟨_,b,oo,raw,e',hIb,hr,hc⟩:=hX;have hlen':=hc.len;refine fin b (oo+j) ((raw.drop j).take n) _ e' (by simp;omega) (by simp;omega) (fun k v hk'=>?_) (((hc.drop j).take n).res (fun _ _ h=>h.elim)) hK;have:raw[j+k]?=some v:=by
      rw [List.getElem?_take] at hk';split at hk'
      · rw [List.getElem?_drop] at hk';exact hk'
      · cases hk'
    have:=hr _ v this;rw [← this];congr 2;omega
  · exact hk.elim
end
end Go.V
namespace Go.V
open Go.RowKit
section
variable {P:Program} {w0:Base} {I0:Nat→Prop} {s:List D} {a:Act} {w:World} {I:Nat→Prop} {Fs:Nat→List Nat} {K:D→List D→Prop} {Ctr:CtrT} {nn:Bool}
theorem part_run {ty:TypeId}{agg:Bool}{n:Nat}{d:TypeDesc}(hu:P.underlying ty=some d)(hagg:d.isRow=agg)(hn:(P.info? ty).map (·.size)=some n)(h1:agg=false→n=1){cs:List Value}{off:Nat}(hl:off+n≤cs.length)(w:World) :
    (part ty cs.toArray off).run P w=.ok (if agg then .agg ((cs.drop off).take n).toArray else ((cs.drop off).take n).headD undef) w:=by
  have hag:(isAgg ty).run P w=.ok agg w:=(by unfold isAgg;rw [Sem.run_bind,run_underlying hu w];cases d<;>simp_all);cases hq:P.info? ty with
  | none=>simp [hq] at hn
  | some i =>
    simp [hq] at hn;cases agg with
    | true=>simp [part,hag,sizeOf,typeInfo,hq,hn]
    | false=>have:=h1 rfl;subst this;have hlt:off<cs.length:=(by omega);have hd:(cs.drop off).take 1=[cs[off]]:=(by rw [List.drop_eq_getElem_cons hlt];rfl);rw [hd];simp [part,hag,hlt]
theorem sim_fld (h:RelI w0 I0 s a.tmps w I Fs){off n:Nat}{agg:Bool}{x:Operand}{st:TypeId}{f:Nat}{fs:Array Field}{fd:Field}{d:TypeDesc}{o:Oper}(ho:o.op=.field st x f)(hs:P.underlying st=some (.struct fs))(hf:fs[f]?=some fd)(hoff:fd.offset=off)
    (hu:P.underlying fd.type=some d) (hagg:d.isRow=agg) (hn:(P.info? fd.type).map (·.size)=some n) (h1:agg=false→n=1) (hk:evalK Ctr s (.fld off n agg x) K):RunsTo P (execOp a.eval o) w (OutOK nn Fs I w w0 I0 a.tmps K):=by
  have hX:=lk_T h x;simp only [evalK] at hk;split at hk
  · rename_i cs e;rw [e] at hX;obtain ⟨hl,hK⟩:=hk;simp only [T] at hX;obtain ⟨us,e',hc⟩:=hX;have hlen:=hc.len;refine .value (v:=if agg then .agg ((us.drop off).take n).toArray else ((us.drop off).take n).headD undef) ?_ (.plain h hK (mk_T ((hc.drop off).take n) (fun ha=>by simp;have:=h1 ha;omega)));simp only [execOp,ho,e',Instr.field,Sem.run_bind,run_underlying hs,Result.andThen_ok,hf,asAgg,Sem.run_pure,hoff,part_run hu hagg hn h1 (by omega:off+n≤us.length)]
  · exact hk.elim
theorem sim_ixs (h:RelI w0 I0 s a.tmps w I Fs){x i:Operand}{xt:TypeId}{o:Oper}(ho:o.op=.index xt x i)(hx:P.underlying xt=some .string)(hk:evalK Ctr s (.ixs x i) K):RunsTo P (execOp a.eval o) w (OutOK nn Fs I w w0 I0 a.tmps K):=by
  have hX:=lk_T h x;have hI:=lk_T h i;simp only [evalK] at hk;split at hk
  · rename_i k n b e1 e2;rw [e1] at hI;rw [e2] at hX;obtain ⟨h1,c,hc,hK⟩:=hk;refine .value (v:=.int .u8 c.toNat) ?_ (.plain h hK T_vI);simp only [execOp,ho,(T_v hI).1,(T_v hX).1,Instr.index,asIntOf,Sem.run_bind,Sem.run_pure,Result.andThen_ok,run_underlying hx,h1,if_true,hc]
  · exact hk.elim
theorem sim_ixa (h:RelI w0 I0 s a.tmps w I Fs){len sz:Nat}{agg:Bool}{x i:Operand}{xt et:TypeId}{d:TypeDesc}{o:Oper}(ho:o.op=.index xt x i)(hx:P.underlying xt=some (.array len et))
    (hu:P.underlying et=some d) (hagg:d.isRow=agg) (hn:(P.info? et).map (·.size)=some sz) (h1':agg=false→sz=1) (hk:evalK Ctr s (.ixa len sz agg x i) K):RunsTo P (execOp a.eval o) w (OutOK nn Fs I w w0 I0 a.tmps K):=by
  have hX:=lk_T h x;have hI:=lk_T h i;simp only [evalK] at hk;split at hk
  · rename_i k n cs e1 e2;rw [e1] at hI;rw [e2] at hX;obtain ⟨h1,h2,h3,hK⟩:=hk;simp only [T] at hX;obtain ⟨us,e',hc⟩:=hX;have hlen:=hc.len;have hle:n.toNat*sz+sz≤us.length:=by have:(n.toNat+1)*sz≤len*sz:=Nat.mul_le_mul_right _ (by omega);rw [Nat.add_mul] at this;omega
    have hsz:∀ w:World,(sizeOf et).run P w=.ok sz w:=by
      intro w;cases hq:P.info? et with
      | none=>simp [hq] at hn
      | some ii=>simp [hq] at hn;simp [sizeOf,typeInfo,hq,hn]
    refine .value (v:=if agg then .agg ((us.drop (n.toNat*sz)).take sz).toArray else ((us.drop (n.toNat*sz)).take sz).headD undef) ?_ (.plain h hK (mk_T ((hc.drop _).take sz) (fun ha=>by simp;have:=h1' ha;omega)));simp only [execOp,ho,(T_v hI).1,e',Instr.index,asIntOf,Sem.run_bind,Sem.run_pure,Result.andThen_ok,run_underlying hx,h1,h2,and_self,if_true,hsz,part_run hu hagg hn h1' hle]
  · exact hk.elim
theorem Rows.dropF {sz:Nat}:∀ {rs:List (List D)} {raw:List Value} {F:List Nat} (n:Nat),Rows I w sz rs raw F→∃ F1,Rows I w sz (rs.drop n) (raw.drop (n*sz)) F1∧∀ b,b∈F1→b∈F
  | rs,raw,F,0,h=>⟨F,by simpa using h,fun _ h=>h⟩
  | [],raw,F,n+1,h=>by simp only [Rows] at h;exact ⟨[],by simp [h.1,Rows],fun _ h=>by cases h⟩
  | r::rs,raw,F,n+1,h=>by simp only [Rows] at h;obtain ⟨us,raw',F1,F2,e,hF,hl,hc,h2⟩:=h;obtain ⟨F3,h3,h4⟩:=Rows.dropF n h2;rw [List.drop_succ_cons,e,Nat.add_mul,Nat.one_mul,Nat.add_comm,List.drop_append];simp only [hl,Nat.add_sub_cancel_left];rw [List.drop_eq_nil_of_le (by omega:us.length≤sz+n*sz),List.nil_append];exact ⟨F3,h3,fun b hb=>by rw [hF];exact List.mem_append_right _ (h4 b hb)⟩
theorem Rows.takeF {sz:Nat}:∀ {rs:List (List D)} {raw:List Value} {F:List Nat} (n:Nat),Rows I w sz rs raw F→∃ F1,Rows I w sz (rs.take n) (raw.take (n*sz)) F1∧∀ b,b∈F1→b∈F
  | rs,raw,F,0,h=>⟨[],by simp [Rows],fun _ h=>by cases h⟩
  | [],raw,F,n+1,h=>by simp only [Rows] at h;exact ⟨[],by simp [h.1,Rows],fun _ h=>by cases h⟩
  | r::rs,raw,F,n+1,h=>by
    simp only [Rows] at h;obtain ⟨us,raw',F1,F2,e,hF,hl,hc,h2⟩:=h;obtain ⟨F3,h3,h4⟩:=Rows.takeF n h2;rw [List.take_succ_cons,e,Nat.add_mul,Nat.one_mul,Nat.add_comm,List.take_append];simp only [hl,Nat.add_sub_cancel_left];rw [List.take_of_length_le (by omega:us.length≤sz+n*sz)];simp only [Rows];refine ⟨F1++F3,⟨us,_,F1,F3,rfl,rfl,hl,hc,h3⟩,fun b hb=>?_⟩;rw [hF];rcases List.mem_append.1 hb with hb | hb
    · exact List.mem_append_left _ hb
    · exact List.mem_append_right _ (h4 b hb)
theorem sub_form {tm:Array Value} (h:RelI w0 I0 s tm w I Fs) {r:Nat} {q:Path} {i n:Nat} {u:Value} {F:List Nat} (hT:T I w (.sub r q i n) (ρS s tm w) u F) {sz:Nat} {rows:List (List D)} (hs:slAt s (.sub r q i n)=some (sz,rows)) :
    ∃ ad c raw F',u=.slice ad rows.length c∧rows.length≤c∧c≤maxLen∧rows.length=n∧Rows I w sz rows raw F'∧(∀ x,x∈F'→x∈Fs r)∧(rows=[]∨∃ b o,ad=some ⟨b,o,none⟩∧b∈Fs r∧w.rangeAt b o raw):=by
  simp only [slAt] at hs;cases hsr:s[r]? with
  | none=>simp [hsr] at hs
  | some d =>
    simp only [hsr] at hs;split at hs
    · rename_i sz0 rows0 ht;split at hs
      · rename_i hle;simp only [Option.some.injEq,Prod.mk.injEq] at hs;obtain ⟨rfl,rfl⟩:=hs;have hlen:((rows0.drop i).take n).length=n:=by rw [List.length_take,List.length_drop];omega
        rw [hlen];simp only [T] at hT;rcases hT.1 with ⟨d',u0,t,sz,rows,u1,b,o,c,m1,m2,m3,m4,m5,m6,m7,m8,m9,_⟩ | ⟨rfl,ad,c,e,hc⟩
        · rw [hsr] at m1;cases m1;rw [ht] at m3;cases m3;simp only [D.cont,Option.some.injEq,Prod.mk.injEq] at m4;obtain ⟨rfl,rfl⟩:=m4;obtain ⟨u',F',ρ',k1,k2,_,k4,_⟩:=val_T q d (h.slot r d u0 hsr m2) ht;rw [m5] at k1;cases k1;simp only [T] at k2;obtain ⟨a',c',e',h1,h2,h3⟩:=k2;rcases h3 with ⟨h3,_⟩ | ⟨_,h3⟩
          · cases h3
          rcases h3 with ⟨ha,hc,hF⟩ | ⟨b',o',cells,et,raw,F'',ha,hh,hcs,hr,hF,hR⟩
          · rw [e',ha] at m6;simp [baseOf] at m6
          · rw [e',ha] at m6;simp only [baseOf,Option.some.injEq,Prod.mk.injEq] at m6;obtain ⟨rfl,rfl⟩:=m6;obtain ⟨G1,g1,g2⟩:=Rows.dropF i hR;obtain ⟨G2,g3,g4⟩:=Rows.takeF n g1;refine ⟨_,c,_,G2,m9,m7,m8,rfl,g3,fun x hx=>k4 x (by rw [hF];exact List.mem_cons_of_mem _ (g2 x (g4 x hx))),.inr ⟨b',_,rfl,k4 b' (by rw [hF];simp),fun j v hj=>?_⟩⟩;have hj1:raw[i*sz0+j]?=some v:=by
              rw [List.getElem?_take] at hj;split at hj
              · rw [List.getElem?_drop] at hj;exact hj
              · cases hj
            have:=hr _ v hj1;rw [← this];congr 2;omega
        · exact ⟨ad,c,[],[],e,by omega,hc.1,rfl,by simp [Rows],fun _ h=>(by cases h),.inl (by simp)⟩
      · cases hs
    · cases hs
theorem sl_form (h:RelI w0 I0 s a.tmps w I Fs){x:D}{u:Value}{F:List Nat}(hT:T I w x (ρS s a.tmps w) u F){sz:Nat}{rows:List (List D)}(hs:slAt s x=some (sz,rows)):∃ b c,u=.slice b rows.length c∧rows.length≤c∧c≤maxLen:=by
  cases x with
  | sl own sz' rows'=>simp only [slAt,Option.some.injEq,Prod.mk.injEq] at hs;obtain ⟨rfl,rfl⟩:=hs;exact T_sl_form hT
  | nils=>simp only [slAt,Option.some.injEq,Prod.mk.injEq] at hs;obtain ⟨rfl,rfl⟩:=hs;simp only [T] at hT;exact ⟨none,0,hT.1,by simp,by unfold maxLen;omega⟩
  | ref r q=>obtain ⟨F',ρ',k2,_⟩:=ref_form h hT hs;exact T_sl_form k2
  | sub r q i n=>obtain ⟨ad,c,_,_,e,h1,h2,_⟩:=sub_form h hT hs;exact ⟨ad,c,e,h1,h2⟩
  | _=>simp [slAt] at hs
theorem sim_len (h:RelI w0 I0 s a.tmps w I Fs){x:Operand}{xt e:TypeId}{args:Array TypeId}{o:Oper}(ho:o.op=.call { callee:=.builtin .len,args:=#[x],argTypes:=args })(ha:args[0]?=some xt)(hx:P.underlying xt=some (.slice e))(hk:evalK Ctr s (.len x) K):RunsTo P (execOp a.eval o) w (OutOK nn Fs I w w0 I0 a.tmps K):=by
  have hX:=lk_T h x;simp only [evalK] at hk;split at hk
  · rename_i sz rows e1;obtain ⟨b,c,e2,_⟩:=sl_form h hX e1;refine .value (v:=.int .i64 rows.length) ?_ (.plain h hk T_vI);simp [execOp,ho,resolve,invoke,builtin,Builtin.len_,ha,e2,run_underlying hx,goInt]
  · exact hk.elim
theorem sim_lenS (h:RelI w0 I0 s a.tmps w I Fs){x:Operand}{xt:TypeId}{args:Array TypeId}{o:Oper}(ho:o.op=.call { callee:=.builtin .len,args:=#[x],argTypes:=args })(ha:args[0]?=some xt)(hx:P.underlying xt=some .string)(hk:evalK Ctr s (.lenS x) K):RunsTo P (execOp a.eval o) w (OutOK nn Fs I w w0 I0 a.tmps K):=by
  have hX:=lk_T h x;simp only [evalK] at hk;split at hk
  · rename_i b e1;rw [e1] at hX;refine .value (v:=.int .i64 b.size) ?_ (.plain h hk T_vI);simp [execOp,ho,resolve,invoke,builtin,Builtin.len_,ha,(T_v hX).1,run_underlying hx,goInt]
  · exact hk.elim
theorem sim_mm (h:RelI w0 I0 s a.tmps w I Fs){mx:Bool}{x y:Operand}{args:Array TypeId}{o:Oper}(ho:o.op=.call { callee:=.builtin (if mx then .max else .min),args:=#[x,y],argTypes:=args })(hk:evalK Ctr s (.mm mx [x,y]) K):RunsTo P (execOp a.eval o) w (OutOK nn Fs I w w0 I0 a.tmps K):=by
  have hX:=lk_T h x;have hY:=lk_T h y;simp only [evalK,List.map_cons,List.map_nil] at hk;split at hk
  · rename_i k n k' m e1;simp only [List.cons.injEq,and_true] at e1;rw [e1.1] at hX;rw [e1.2] at hY;obtain ⟨rfl,hK⟩:=hk;refine .value ?_ (.plain h hK T_vI);cases mx
    · simp [execOp,ho,resolve,invoke,builtin,Builtin.min_,Builtin.min2,(T_v hX).1,(T_v hY).1]
    · simp [execOp,ho,resolve,invoke,builtin,Builtin.max_,Builtin.max2,(T_v hX).1,(T_v hY).1]
  · exact hk.elim
theorem Vals_lk (h:RelI w0 I0 s a.tmps w I Fs):∀ xs:List Operand,Vals I w (xs.map (lk s)) (ρS s a.tmps w) (xs.map a.eval) []
  | []=>by simp [Vals]
  | x::xs=>by simp only [List.map_cons,Vals];exact ⟨_,_,[],[],rfl,rfl,lk_T h x,Vals_lk h xs⟩
theorem sim_mkf (h:RelI w0 I0 s a.tmps w I Fs){f:FuncId}{first caps:Array Operand}{o:Oper}(ho:o.op=.makeFunc (.func f) first caps)(hk:evalK Ctr s (.mkf f first.toList caps.toList) K):RunsTo P (execOp a.eval o) w (OutOK nn Fs I w w0 I0 a.tmps K):=by
  have hm:∀ xs:Array Operand,Array.map a.eval xs=(List.map a.eval xs.toList).toArray:=fun xs=>by apply Array.ext';simp
  refine .value (v:=.func (.func f) (first.toList.map a.eval).toArray (caps.toList.map a.eval).toArray) (by simp only [execOp,ho,Instr.makeFunc,hm];rfl) (.plain h hk ?_);simp only [T];exact ⟨first.toList.map a.eval,caps.toList.map a.eval,[],[],rfl,rfl,Vals_lk h _,Vals_lk h _⟩
theorem sim_mkif (h:RelI w0 I0 s a.tmps w I Fs){ty tp:TypeId}{x:Operand}{o:Oper}(ho:o.op=.makeInterface ty x)(hu:P.underlying ty=some (.pointer tp))(hk:evalK Ctr s (.mkif ty x) K):RunsTo P (execOp a.eval o) w (OutOK false Fs I w w0 I0 a.tmps K):=by
  simp only [evalK] at hk;split at hk
  case h_2=>exact hk.elim
  rename_i t;split at hk
  case h_2=>exact hk.elim
  rename_i tg m n hs;obtain ⟨u,hu',hT⟩:=h.slot0 hs;simp only [T,Cells] at hT;obtain ⟨b,cs,e,F',hub,_,hh,hF,v1,r1,F1,F2,e1,hF1,_,⟨rfl,rfl⟩,v2,r2,F3,F4,e2,hF2,_,⟨rfl,rfl⟩,e3,hF3⟩:=hT;subst hF3;have hcs:cs=#[.int .i64 m,.int .i64 n]:=by apply Array.ext';rw [e1,e2,e3]
  have hg:a.eval (.tmp t)=u:=(by simp [Act.eval,hu']);have hrun:(execOp a.eval o).run P w=.ok (.value (.iface ty u)) w:=(by simp only [execOp,ho,Instr.makeInterface,underlying,hg];simp [hu]);refine .value hrun ⟨_,_,I,upd Fs t [],[b],hk,h.forget t,?_,⟨by simp,fun x hx=>?_⟩,fun h=>by cases h⟩
  · simp only [T,mpB];exact ⟨b,e,m,n,by rw [hub],by rw [hh,hcs],rfl,rfl⟩
  · simp only [List.mem_singleton] at hx;subst hx;have hb:x∈Fs t:=by rw [hF];simp
    refine ⟨(h.own t x hb).1,(h.own t x hb).2.1,(h.own t x hb).2.2,fun r hr=>?_⟩;unfold upd at hr;split at hr
    · cases hr
    · rename_i hne;exact hne (h.disj r t x hr hb)
theorem Vals.get {ρ:D→Value→Prop}:∀ {ds:List D} {us:List Value} {F:List Nat} (i:Nat) {d:D},Vals I w ds ρ us F→ds[i]?=some d→∃ u A F' B,us[i]?=some u∧F=A++F'++B∧T I w d ρ u F'∧∀ ρ',(∀ x u,ρ x u→ρ' x u)→Vals I w (ds.set i .undef) ρ' us (A++B)
  | [],_,_,_,_,_,h=>by simp at h
  | d::ds,us,F,0,d',h,hi=>by
    simp only [Vals] at h;obtain ⟨u,us',F1,F2,e,hF,ht,h2⟩:=h;obtain rfl:d=d':=by simpa using hi
    refine ⟨u,[],F1,F2,by simp [e],by simpa using hF,ht,fun ρ' hρ=>?_⟩;simp only [List.set_cons_zero,Vals];exact ⟨u,us',[],F2,e,rfl,by simp [T],h2.res hρ⟩
  | d::ds,us,F,i+1,d',h,hi=>by simp only [Vals] at h;obtain ⟨u,us',F1,F2,e,hF,ht,h2⟩:=h;obtain ⟨u',A,F',B,k1,k2,k3,k4⟩:=Vals.get i h2 (by simpa using hi);refine ⟨u',F1++A,F',B,by simpa [e] using k1,by simp [hF,k2],k3,fun ρ' hρ=>?_⟩;simp only [List.set_cons_succ,Vals];exact ⟨u,us',F1,A++B,e,by simp,ht.res hρ,k4 ρ' hρ⟩
theorem tm_same {tm:Array Value}{t:Nat}{u:Value}(hu:tm[t]?=some u):tm.setIfInBounds t u=tm:=by
  apply Array.ext_getElem?;intro i;by_cases hi:t=i
  · subst hi;rw [hu,Array.getElem?_setIfInBounds_self_of_lt (Array.getElem?_eq_some_iff.1 hu).1]
  · rw [Array.getElem?_setIfInBounds_ne hi]
theorem sim_ext (h:RelI w0 I0 s a.tmps w I Fs) {x:Operand} {i:Nat} {o:Oper} (ho:o.op=.extract x i) (hk:evalK Ctr s (.ext x i) K):RunsTo P (execOp a.eval o) w (OutOK false Fs I w w0 I0 a.tmps K):=by
  simp only [evalK] at hk;split at hk
  · rename_i t;split at hk
    · rename_i vs hs;split at hk
      · rename_i d hi;obtain ⟨u,hu,hT⟩:=h.slot0 hs;have hT0:=hT;simp only [T] at hT;obtain ⟨us,e,hv⟩:=hT;obtain ⟨u',A,F',B,k1,k2,k3,k4⟩:=Vals.get i hv hi;have hrun:(execOp a.eval o).run P w=.ok (.value u') w:=by have:a.eval (.tmp t)=.tuple us.toArray:=(by simp [Act.eval,hu,e]);simp [execOp,ho,this,Instr.extract,k1]
        by_cases hod:d.owny=true
        · rw [if_pos hod] at hk;have hnd:=h.nd t;rw [k2,List.nodup_append,List.nodup_append] at hnd;have hsub:∀ b,b∈A++B→b∈Fs t:=fun b hb=>by rw [k2];simp only [List.mem_append] at hb ⊢;rcases hb with hb | hb<;>simp [hb]
          have hnAB:(A++B).Nodup:=List.nodup_append.2 ⟨hnd.1.1,hnd.2.1,fun x hx y hy=>hnd.2.2 x (by simp [hx]) y hy⟩;have hp:=h.put (d:=.tup (vs.set i .undef)) (u:=u) (F:=A++B) hs rfl (by simp only [T];exact ⟨us,e,k4 _ (fun _ _ h=>h)⟩) hnAB
            (fun b hb=>⟨(h.own t b (hsub b hb)).1,(h.own t b (hsub b hb)).2.1,(h.own t b (hsub b hb)).2.2,fun r hr hb'=>hr (h.disj r t b hb' (hsub b hb))⟩)
          have hres:=k3.res (fun x v hx=>hx.put (d:=.tup (vs.set i .undef)) (u:=u) hs rfl);rw [tm_same hu] at hp hres;refine .value hrun ⟨d,_,I,_,F',hk,hp,hres,⟨hnd.1.2.1,fun b hb=>?_⟩,fun h=>by cases h⟩;have hbF:b∈Fs t:=(by rw [k2];simp [hb]);refine ⟨(h.own t b hbF).1,(h.own t b hbF).2.1,(h.own t b hbF).2.2,fun r hr=>?_⟩;unfold upd at hr;split at hr
          · rcases List.mem_append.1 hr with hr | hr
            · exact hnd.1.2.2 b hr b hb rfl
            · exact hnd.2.2 b (by simp [hb]) b hr rfl
          · rename_i hne;exact hne (h.disj r t b hr hbF)
        · rw [if_neg hod] at hk;have:=T.nofoot d k3 (by simpa using hod);rw [this] at k3;exact .value hrun (.plain h hk k3)
      · exact hk.elim
    · exact hk.elim
  · exact hk.elim
theorem sim_extN (h:RelI w0 I0 s a.tmps w I Fs) {x:Operand} {i:Nat} {o:Oper} (ho:o.op=.extract x i) (hk:evalK Ctr s (.extN x i) K):RunsTo P (execOp a.eval o) w (OutOK nn Fs I w w0 I0 a.tmps K):=by
  simp only [evalK] at hk;split at hk
  · rename_i t;split at hk
    · rename_i vs hs;split at hk
      · rename_i d hi;obtain ⟨hod,hk⟩:=hk;obtain ⟨u,hu,hT⟩:=h.slot0 hs;simp only [T] at hT;obtain ⟨us,e,hv⟩:=hT;obtain ⟨u',A,F',B,k1,k2,k3,k4⟩:=Vals.get i hv hi;have hrun:(execOp a.eval o).run P w=.ok (.value u') w:=by have:a.eval (.tmp t)=.tuple us.toArray:=(by simp [Act.eval,hu,e]);simp [execOp,ho,this,Instr.extract,k1]
        have:=T.nofoot d k3 hod;rw [this] at k3;exact .value hrun (.plain h hk k3)
      · exact hk.elim
    · exact hk.elim
  · exact hk.elim
end
end Go.V
namespace Go.V
open Go.RowKit
section
variable {P:Program} {w0:Base} {I0:Nat→Prop} {s:List D} {a:Act} {w:World} {I:Nat→Prop} {Fs:Nat→List Nat} {K:D→List D→Prop} {Ctr:CtrT} {nn:Bool}
theorem optD_run (h:RelI w0 I0 s a.tmps w I Fs){x:Option Operand}{dflt:Nat}{k:IntKind}{n:Int}(hk:optD s x dflt=.v (.int k n)):(x=none∧n=dflt)∨∃ y k,x=some y∧a.eval y=.int k n:=by
  cases x with
  | none=>simp only [optD,D.v.injEq,Value.int.injEq] at hk;exact .inl ⟨rfl,hk.2.symm⟩
  | some y=>simp only [optD] at hk;have hy:=lk_T h y;rw [hk] at hy;exact .inr ⟨y,k,rfl,(T_v hy).1⟩
theorem bounds_run {isSlice:Bool}{len cap:Nat}{lo hi:Option Value}{l h:Int}(h1:0≤l)(h2:l≤h)(h3:h≤cap)(hl:(lo=none∧l=0)∨∃ k,lo=some (.int k l))(hh:(hi=none∧h=len)∨∃ k,hi=some (.int k h))(w:World) :
    (Instr.sliceBounds isSlice len cap lo hi none).run P w=.ok (l.toNat,h.toNat,cap) w:=by
  have b:∀ (k:IntKind) (n:Int) (y:Nat) (c:BoundsCode),0≤n→n≤y→(Instr.sliceBound (.int k n) y c).run P w=.ok n.toNat w:=fun k n y c e1 e2=>by simp [Instr.sliceBound,asIntOf,e1,e2]
  rcases hl with ⟨rfl,rfl⟩ | ⟨k,rfl⟩<;>rcases hh with ⟨rfl,rfl⟩ | ⟨k',rfl⟩
  · simp [Instr.sliceBounds]
  · simp [Instr.sliceBounds,b _ _ _ _ (by omega:0≤h) h3]
  · simp [Instr.sliceBounds,b _ _ _ _ h1 h2]
  · have:=b k l h.toNat .sliceB h1 (by omega);simp [Instr.sliceBounds,b _ _ _ _ (by omega:0≤h) h3,this]
theorem sim_slcS (h:RelI w0 I0 s a.tmps w I Fs){x:Operand}{lo hi:Option Operand}{xt:TypeId}{o:Oper}(ho:o.op=.slice xt x lo hi none)(hx:P.underlying xt=some .string)(hk:evalK Ctr s (.slcS x lo hi) K):RunsTo P (execOp a.eval o) w (OutOK nn Fs I w w0 I0 a.tmps K):=by
  have hX:=lk_T h x;simp only [evalK,slcSK] at hk;split at hk
  · rename_i b kl l kh hh e1 el eh;rw [e1] at hX eh;have hl:=optD_run h el;have hhh:=optD_run h eh;simp only [sizeD] at hhh;obtain ⟨h1,h2,h3,hK⟩:=hk;refine .value (v:=.string (b.extract l.toNat hh.toNat)) ?_ (.plain h hK T_vI);have hb:=bounds_run (P:=P) (isSlice:=false) (len:=b.size) (cap:=b.size) (lo:=lo.map a.eval) (hi:=hi.map a.eval) h1 h2 h3 (by
      rcases hl with ⟨rfl,e⟩ | ⟨y,k,rfl,e⟩
      · exact .inl ⟨rfl,e⟩
      · exact .inr ⟨k,by simp [e]⟩) (by
      rcases hhh with ⟨rfl,e⟩ | ⟨y,k,rfl,e⟩
      · exact .inl ⟨rfl,e⟩
      · exact .inr ⟨k,by simp [e]⟩) w
    simp only [execOp,ho,(T_v hX).1,Option.map_none,Instr.sliceAt,Instr.slice,Sem.run_bind,run_underlying hx,Result.andThen_ok,Option.isSome_none,Bool.false_eq_true,if_false,hb];rfl
  · exact hk.elim
theorem Rows.drop {sz:Nat}:∀ {rs:List (List D)} {raw:List Value} (n:Nat),Rows I w sz rs raw []→Rows I w sz (rs.drop n) (raw.drop (n*sz)) []
  | rs,raw,0,h=>by simpa using h
  | [],raw,n+1,h=>by simp only [Rows] at h;simp [h.1,Rows]
  | r::rs,raw,n+1,h=>by simp only [Rows] at h;obtain ⟨us,raw',F1,F2,e,hF,hl,hc,h2⟩:=h;simp at hF;rw [hF.2] at h2;rw [List.drop_succ_cons,e,Nat.add_mul,Nat.one_mul,Nat.add_comm,List.drop_append];simp only [hl,Nat.add_sub_cancel_left];rw [List.drop_eq_nil_of_le (by omega:us.length≤sz+n*sz),List.nil_append];exact Rows.drop n h2
theorem Rows.take {sz:Nat}:∀ {rs:List (List D)} {raw:List Value} (n:Nat),Rows I w sz rs raw []→Rows I w sz (rs.take n) (raw.take (n*sz)) []
  | rs,raw,0,h=>by simp [Rows]
  | [],raw,n+1,h=>by simp only [Rows] at h;simp [h.1,Rows]
  | r::rs,raw,n+1,h=>by simp only [Rows] at h;obtain ⟨us,raw',F1,F2,e,hF,hl,hc,h2⟩:=h;simp at hF;rw [hF.1] at hc;rw [hF.2] at h2;rw [List.take_succ_cons,e,Nat.add_mul,Nat.one_mul,Nat.add_comm,List.take_append];simp only [hl,Nat.add_sub_cancel_left];rw [List.take_of_length_le (by omega:us.length≤sz+n*sz)];simp only [Rows];exact ⟨us,_,[],[],rfl,rfl,hl,hc,Rows.take n h2⟩
theorem bounds_run3 {len cap:Nat}{lo:Option Value}{k2 k3:IntKind}{l h m:Int}(h1:0≤l)(h2:l≤h)(h3:h≤m)(h4:m≤cap)(hl:(lo=none∧l=0)∨∃ k,lo=some (.int k l))(w:World) :
    (Instr.sliceBounds true len cap lo (some (.int k2 h)) (some (.int k3 m))).run P w=.ok (l.toNat,h.toNat,m.toNat) w:=by
  have b:∀ (k:IntKind) (n:Int) (y:Nat) (c:BoundsCode),0≤n→n≤y→(Instr.sliceBound (.int k n) y c).run P w=.ok n.toNat w:=fun k n y c e1 e2=>by simp [Instr.sliceBound,asIntOf,e1,e2]
  have b1:=b k3 m cap .slice3Acap (by omega) h4;have b2:=b k2 h m.toNat .slice3B (by omega) (by omega);rcases hl with ⟨rfl,rfl⟩ | ⟨k,rfl⟩
  · simp [Instr.sliceBounds,b1,b2]
  · have b3:=b k l h.toNat .slice3C h1 (by omega);simp [Instr.sliceBounds,b1,b2,b3]
theorem sub_T {ρ:D→Value→Prop} {sz:Nat} {rows:List (List D)} {ad:Option Addr} {n c:Nat} (hT:T I w (.sl false sz rows) ρ (.slice ad n c) []) (l h m:Nat) (h1:l≤h) (h2:h≤rows.length) (h3:h≤m) (h4:m≤c) :
    T I w (.sl false sz ((rows.drop l).take (h-l))) ρ (.slice (if m=l then ad else ad.map (·.add (l*sz))) (h-l) (m-l)) []:=by
  simp only [T] at hT ⊢;obtain ⟨a',c',e,k1,k2,k3⟩:=hT;cases e;have hlen:(List.take (h-l) (List.drop l rows)).length=h-l:=by rw [List.length_take,List.length_drop];omega
  refine ⟨_,m-l,by rw [hlen],by omega,by omega,.inl ⟨trivial,trivial,?_⟩⟩;rcases k3 with ⟨_,_,k3⟩ | ⟨k3,_⟩
  · rcases k3 with rfl | ⟨b,o,raw,rfl,hI,hr,hR⟩
    · exact .inl (by simp)
    · by_cases hlh:l=h
      · subst hlh;exact .inl (by simp)
      · have:m≠l:=(by omega);rw [if_neg this];refine .inr ⟨b,o+l*sz,(raw.drop (l*sz)).take ((h-l)*sz),by simp [Addr.add_mid],hI,fun j v hj=>?_,?_⟩
        · have:raw[l*sz+j]?=some v:=by
            rw [List.getElem?_take] at hj;split at hj
            · rw [List.getElem?_drop] at hj;exact hj
            · cases hj
          have:=hr _ v this;rw [← this];congr 2;omega
        · exact (hR.drop l).take (h-l)
  · cases k3
theorem slc_sub (h:RelI w0 I0 s a.tmps w I Fs) {sz:Nat} {x:Operand} {lo hi mx:Option Operand} {xt et:TypeId} {o:Oper} (ho:o.op=.slice xt x lo hi mx) (hx:P.underlying xt=some (.slice et)) (hsz:(P.info? et).map (·.size)=some sz) (hmx:mx.isSome=true→hi.isSome=true)
    {kl kh km:IntKind} {l hh mm:Int} {dsz:Nat} (el:optD s lo 0=.v (.int kl l)) (eh:optD s hi dsz=.v (.int kh hh)) (em:optD s mx dsz=.v (.int km mm)) {N:Nat} (hN:dsz=N) {ad:Option Addr} {c:Nat} (e2:a.eval x=.slice ad N c) (hc1:N≤c) (h1:0≤l) (h2:l≤hh) (h3:hh≤N) (hm1:hh≤mm) (hm2:mm≤N) {R:Value→World→Prop}
    (hR:∀ m:Nat,hh.toNat≤m→m≤c→R (.slice (if m=l.toNat then ad else ad.map (·.add (l.toNat*sz))) (hh.toNat-l.toNat) (m-l.toNat)) w):RunsTo P (execOp a.eval o) w R:=by
  subst hN;have hl:=optD_run h el;have hhh:=optD_run h eh;have hmm:=optD_run h em;have hlo:((lo.map a.eval)=none∧l=0)∨∃ k,(lo.map a.eval)=some (.int k l):=by
    rcases hl with ⟨rfl,e⟩ | ⟨y,k,rfl,e⟩
    · exact .inl ⟨rfl,e⟩
    · exact .inr ⟨k,by simp [e]⟩
  have hsz':∀ w:World,(sizeOf et).run P w=.ok sz w:=by
    intro w;cases hq:P.info? et with
    | none=>simp [hq] at hsz
    | some ii=>simp [hq] at hsz;simp [sizeOf,typeInfo,hq,hsz]
  have hTm:∀ m:Nat,hh.toNat≤m→m≤c→(Instr.sliceBounds true dsz c (lo.map a.eval) (hi.map a.eval) (mx.map a.eval)).run P w=.ok (l.toNat,hh.toNat,m) w→RunsTo P (execOp a.eval o) w R:=(by intro m hm1 hm2 hrun;refine .value (v:=.slice (if m=l.toNat then ad else ad.map (·.add (l.toNat*sz))) (hh.toNat-l.toNat) (m-l.toNat)) ?_ (hR m hm1 hm2);simp only [execOp,ho,e2,Instr.sliceAt,Instr.slice,Sem.run_bind,run_underlying hx,Result.andThen_ok,hrun,hsz'];rfl);cases mx with
  | none =>
    refine hTm c (by omega) (Nat.le_refl _) ?_;exact bounds_run (P:=P) (isSlice:=true) h1 h2 (by omega) hlo (by
      rcases hhh with ⟨rfl,e⟩ | ⟨y,k,rfl,e⟩
      · exact .inl ⟨rfl,e⟩
      · exact .inr ⟨k,by simp [e]⟩) w
  | some my =>
    cases hi with
    | none=>simp at hmx
    | some hy =>
      rcases hhh with ⟨e,_⟩ | ⟨y,k2,e,e4⟩
      · cases e
      · cases e;rcases hmm with ⟨e,_⟩ | ⟨y3,k3,e,e5⟩
        · cases e
        · cases e;refine hTm mm.toNat (by omega) (by omega) ?_;simp only [Option.map_some,e5,e4];exact bounds_run3 h1 h2 hm1 (by omega) hlo w
theorem sim_slc (h:RelI w0 I0 s a.tmps w I Fs) {sz:Nat} {x:Operand} {lo hi mx:Option Operand} {xt et:TypeId} {o:Oper} (ho:o.op=.slice xt x lo hi mx) (hx:P.underlying xt=some (.slice et)) (hsz:(P.info? et).map (·.size)=some sz) (hmx:mx.isSome=true→hi.isSome=true) (hk:evalK Ctr s (.slc sz x lo hi mx) K):RunsTo P (execOp a.eval o) w (OutOK nn Fs I w w0 I0 a.tmps K):=by
  have hX:=lk_T h x;simp only [evalK,slcK] at hk;split at hk
  · rename_i sz' rows kl l kh hh km mm e1 el eh em;rw [e1] at hX eh em;have hl:=optD_run h el;have hhh:=optD_run h eh;have hmm:=optD_run h em;simp only [sizeS,sizeD] at hhh hmm;obtain ⟨h1,h2,h3,rfl,hm1,hm2,hK⟩:=hk;obtain ⟨ad,c,e2,hc1,hc2⟩:=T_sl_form hX;rw [e2] at hX;have hlo:((lo.map a.eval)=none∧l=0)∨∃ k,(lo.map a.eval)=some (.int k l):=by
      rcases hl with ⟨rfl,e⟩ | ⟨y,k,rfl,e⟩
      · exact .inl ⟨rfl,e⟩
      · exact .inr ⟨k,by simp [e]⟩
    have hsz':∀ w:World,(sizeOf et).run P w=.ok sz' w:=by
      intro w;cases hq:P.info? et with
      | none=>simp [hq] at hsz
      | some ii=>simp [hq] at hsz;simp [sizeOf,typeInfo,hq,hsz]
    have hTm:∀ m:Nat,hh.toNat≤m→m≤c→(Instr.sliceBounds true rows.length c (lo.map a.eval) (hi.map a.eval) (mx.map a.eval)).run P w=.ok (l.toNat,hh.toNat,m) w→RunsTo P (execOp a.eval o) w (OutOK nn Fs I w w0 I0 a.tmps K):=(by intro m hm1 hm2 hrun;refine .value (v:=.slice (if m=l.toNat then ad else ad.map (·.add (l.toNat*sz'))) (hh.toNat-l.toNat) (m-l.toNat)) ?_ (.plain h hK (sub_T hX l.toNat hh.toNat m (by omega) (by omega) hm1 hm2));simp only [execOp,ho,e2,Instr.sliceAt,Instr.slice,Sem.run_bind,run_underlying hx,Result.andThen_ok,hrun,hsz'];rfl);cases mx with
    | none =>
      refine hTm c (by omega) (Nat.le_refl _) ?_;exact bounds_run (P:=P) (isSlice:=true) h1 h2 (by omega) hlo (by
        rcases hhh with ⟨rfl,e⟩ | ⟨y,k,rfl,e⟩
        · exact .inl ⟨rfl,e⟩
        · exact .inr ⟨k,by simp [e]⟩) w
    | some my =>
      cases hi with
      | none=>simp at hmx
      | some hy =>
        rcases hhh with ⟨e,_⟩ | ⟨y,k2,e,e4⟩
        · cases e
        · cases e;rcases hmm with ⟨e,_⟩ | ⟨y3,k3,e,e5⟩
          · cases e
          · cases e;refine hTm mm.toNat (by omega) (by omega) ?_;simp only [Option.map_some,e5,e4];exact bounds_run3 h1 h2 hm1 (by omega) hlo w
  · -- of a slice that has a place
    rename_i r q kl l kh hh km mm e1 el eh em;split at hk
    · rename_i sz' rows es;obtain ⟨h1,h2,h3,rfl,hm1,hm2,hK⟩:=hk;rw [e1] at hX;obtain ⟨F',ρ',k2,k3⟩:=ref_form h hX es;obtain ⟨ad,c,e2,hc1,hc2⟩:=T_sl_form k2;have hsz1:sizeS s (lk s x)=rows.length:=by rw [e1];simp only [sizeS,es]
      refine slc_sub h ho hx hsz hmx el eh em hsz1 e2 hc1 h1 h2 h3 hm1 hm2 fun m g1 g2=>.plain h hK ?_;simp only [T];refine ⟨?_,trivial⟩;by_cases hml:m=l.toNat∧(0<l.toNat∨ad=none)
      · rw [if_pos hml.1];exact .inr ⟨by omega,ad,m-l.toNat,by congr 1;omega,by omega,fun hi=>⟨hml.2.resolve_left (by omega),by omega⟩⟩
      · have hpart:(if m=l.toNat then ad else ad.map (·.add (l.toNat*sz')))=ad.map (·.add (l.toNat*sz')):=by
          by_cases hm:m=l.toNat
          · have hl0:l.toNat=0:=by
              rcases Nat.eq_zero_or_pos l.toNat with h0 | h0
              · exact h0
              · exact absurd ⟨hm,.inl h0⟩ hml
            rw [if_pos hm,hl0];cases ad with
            | none=>rfl
            | some ad =>
              have:∃ b o,ad=⟨b,o,none⟩:=by
                rw [e2] at k2;simp only [T] at k2;obtain ⟨a',c',e',_,_,k4⟩:=k2;cases e';rcases k4 with ⟨k4,_⟩ | ⟨_,⟨k4,_⟩ | ⟨b,o,_,_,_,_,k4,_⟩⟩
                · cases k4
                · cases k4
                · cases k4;exact ⟨b,o,rfl⟩
              obtain ⟨b,o,rfl⟩:=this;simp [Addr.add_mid]
          · rw [if_neg hm]
        rw [hpart];refine .inl ?_;simp only [T] at hX;obtain ⟨⟨d,u0,tt,n1,n2,n3,no,n4⟩,_⟩:=hX;obtain rfl:=slAt_tree n1 n3 es;cases ad with
        | none =>
          have hml':m≠l.toNat:=fun h=>hml ⟨h,.inr rfl⟩;rw [e2] at k2;simp only [T] at k2;obtain ⟨a',c',e',_,_,k4⟩:=k2;cases e';rcases k4 with ⟨k4,_⟩ | ⟨_,⟨_,k4,_⟩ | ⟨b,o,_,_,_,_,k4,_⟩⟩
          · cases k4
          · omega
          · cases k4
        | some ad =>
          obtain ⟨b,o,e3⟩:∃ b o,ad=⟨b,o,none⟩:=by
            rw [e2] at k2;simp only [T] at k2;obtain ⟨a',c',e',_,_,k4⟩:=k2;cases e';rcases k4 with ⟨k4,_⟩ | ⟨_,⟨k4,_⟩ | ⟨b,o,_,_,_,_,k4,_⟩⟩
            · cases k4
            · cases k4
            · cases k4;exact ⟨b,o,rfl⟩
          subst e3;exact ⟨d,u0,_,sz',rows,_,b,o,m-l.toNat,n1,n2,n3,rfl,n4,by rw [e2];rfl,by omega,by omega,by simp [Addr.add_mid],by rw [e2];simp only [capV];omega⟩
    · exact hk.elim
  · -- of a part
    rename_i r q i n kl l kh hh km mm e1 el eh em;split at hk
    · rename_i sz' rows es;obtain ⟨h1,h2,h3,rfl,hm1,hm2,hK⟩:=hk;rw [e1] at hX;obtain ⟨ad,c,raw,F',e2,hc1,hc2,hn,_⟩:=sub_form h hX es;have hsz1:sizeS s (lk s x)=rows.length:=by rw [e1,hn];rfl
      refine slc_sub h ho hx hsz hmx el eh em hsz1 e2 hc1 h1 h2 (by omega) hm1 (by omega) fun m g1 g2=>.plain h hK ?_;simp only [T] at hX ⊢;refine ⟨?_,trivial⟩;rcases hX.1 with ⟨d,u0,t,sz3,rows3,u1,b,o,cc,n1,n2,n3,n4,n5,n6,n7,n8,n9⟩ | ⟨rfl,a',c',e',hc'⟩
      · have n10:=n9.2;rw [n9.1] at e2;simp only [Value.slice.injEq] at e2;obtain ⟨rfl,_,rfl⟩:=e2;by_cases hml:m=l.toNat∧0<l.toNat
        · rw [if_pos hml.1];exact .inr ⟨by omega,_,m-l.toNat,by congr 1;omega,by omega,fun hi=>absurd hml.2 (by omega)⟩
        · have hpart:(if m=l.toNat then some (⟨b,o+i*sz3,none⟩:Addr) else (some (⟨b,o+i*sz3,none⟩:Addr)).map (·.add (l.toNat*sz')))=(some (⟨b,o+i*sz3,none⟩:Addr)).map (·.add (l.toNat*sz')):=by
            by_cases hm:m=l.toNat
            · have hl0:l.toNat=0:=by
                rcases Nat.eq_zero_or_pos l.toNat with h0 | h0
                · exact h0
                · exact absurd ⟨hm,h0⟩ hml
              rw [if_pos hm,hl0];simp [Addr.add_mid]
            · rw [if_neg hm]
          rw [hpart];refine .inl ⟨d,u0,t,sz3,rows3,u1,b,o,m-l.toNat,n1,n2,n3,n4,n5,n6,by omega,by omega,?_,by omega⟩;have hz:sz3=sz':=by
            simp only [slAt,n1,n3] at es;split at es
            · rename_i z0 r0 e0;cases e0;split at es
              · simp only [Option.some.injEq,Prod.mk.injEq] at es;simp only [D.cont,Option.some.injEq,Prod.mk.injEq] at n4;rw [← n4.1,es.1]
              · cases es
            · cases es
          subst hz;simp only [Option.map_some,Addr.add_mid,Nat.add_mul,Nat.add_assoc]
      · rw [e2] at e';simp only [Value.slice.injEq] at e';obtain ⟨rfl,_,rfl⟩:=e';refine .inr ⟨by omega,_,m-l.toNat,by congr 1;omega,by omega,fun hi=>?_⟩;obtain ⟨g3,g4⟩:=hc'.2 (by omega);subst g3;exact ⟨by split<;>rfl,by omega⟩
    · exact hk.elim
  · exact hk.elim
end
end Go.V
namespace Go.V
open Go.RowKit
section
variable {P:Program} {w0:Base} {I0:Nat→Prop} {s:List D} {a:Act} {w:World} {I:Nat→Prop} {Fs:Nat→List Nat} {K:D→List D→Prop} {Ctr:CtrT} {nn:Bool}
theorem ρS_same {tm:Array Value}(h:RelI w0 I0 s tm w I Fs){w':World}(hk:∀ x,(I x∨∃ r,x∈Fs r)→w'.heap[x]?=w.heap[x]?){x:D}{v:Value}(hx:ρS s tm w x v):ρS s tm w' x v:=by
  cases x with
  | ref r' p=>obtain ⟨d',u0,t1,k1,k2,k3,ho,k4⟩:=hx;exact ⟨d',u0,t1,k1,k2,k3,ho,by rw [val_frame p d' (h.slot r' d' u0 k1 k2) k3 (fun b hb'=>hk b (.inr ⟨r',hb'⟩))];exact k4⟩
  | ptr r' p i j=>obtain ⟨d',u0,t',sz,rows,u1,b,o,k1,k2,k3,k4,k5,k6⟩:=hx;exact ⟨d',u0,t',sz,rows,u1,b,o,k1,k2,k3,k4,by rw [val_frame p d' (h.slot r' d' u0 k1 k2) k3 (fun b hb'=>hk b (.inr ⟨r',hb'⟩))];exact k5,k6⟩
  | sub r' p i n=>obtain ⟨d',u0,t',sz,rows,u1,b,o,cc,k1,k2,k3,k4,k5,k6⟩:=hx;exact ⟨d',u0,t',sz,rows,u1,b,o,cc,k1,k2,k3,k4,by rw [val_frame p d' (h.slot r' d' u0 k1 k2) k3 (fun b hb'=>hk b (.inr ⟨r',hb'⟩))];exact k5,k6⟩
  | _=>exact hx.elim
theorem RelI.same {tm:Array Value}(h:RelI w0 I0 s tm w I Fs){w':World}(hb:w0.Keeps w w')(hk:∀ x,(I x∨∃ r,x∈Fs r)→w'.heap[x]?=w.heap[x]?):RelI w0 I0 s tm w' I Fs where
  below:=h.below.keeps hb
  len:=h.len
  slot:=fun r d u h1 h2=>(T.keep d (h.slot r d u h1 h2) (fun b hb'=>hk b (hb'.imp_right (fun hr=>⟨r,hr⟩)))).res (fun x v hx=>ρS_same h hk hx)
  nd:=h.nd
  disj:=h.disj
  own:=fun r b hb'=>⟨(h.own r b hb').1,Nat.lt_of_lt_of_le (h.own r b hb').2.1 hb.size,(h.own r b hb').2.2⟩
  imm:=fun b hb'=>Nat.lt_of_lt_of_le (h.imm b hb') hb.size
  imm0:=h.imm0
  immN:=h.immN
theorem adr_val {w:World}:∀ (p:Path) (d:D) {u:Value} {b o:Nat} {u':Value},(treeAt d p).isSome→adrAt w u d p=some (b,o)→w.cell? ⟨b,o,none⟩=some u'→valAt w u d p=some u'
  | [],_,_,_,_,_,_,h,_=>by simp [adrAt] at h
  | (i,j)::p,d,u,b,o,u',hs,ha,hc=>by
    simp only [treeAt] at hs;cases hd:d.cont with
    | none=>simp [hd] at hs
    | some x =>
    obtain ⟨sz0,rows0⟩:=x;simp only [hd] at hs;cases hi:rows0[i]? with
    | none=>simp [hi] at hs
    | some row =>
    cases hj:row[j]? with
    | none=>simp [hi,hj] at hs
    | some c =>
    simp only [hi,hj] at hs;cases hb:baseOf u with
    | none=>cases p<;>simp [adrAt,hd,hb] at ha
    | some y =>
    obtain ⟨b0,o0⟩:=y;cases p with
    | nil=>simp [adrAt,hd,hb] at ha;obtain ⟨rfl,rfl⟩:=ha;simp only [valAt,hd,hb,hi,hj,hc]
    | cons z p =>
      simp only [adrAt,hd,hb,hi,hj] at ha;cases hcl:w.cell? ⟨b0,o0+i*sz0+j,none⟩ with
      | none=>simp [hcl] at ha
      | some u1=>simp only [hcl] at ha;simp only [valAt,hd,hb,hi,hj,hcl];exact adr_val (z::p) c hs ha hc
theorem notThrough_nil (r:Nat):notThrough r []=notRoot r:=by funext x;cases x<;>simp [notThrough,notRoot,bne]
theorem T.ownv_nil {t:D}(ho:t.ownv=true){I:Nat→Prop}{w:World}{ρ ρ':D→Value→Prop}{u:Value}{F:List Nat}(h:T I w t ρ u F):T I w t ρ' u F:=by
  cases t with
  | sl own sz rows=>simpa only [T] using h
  | mp k e=>simpa only [T] using h
  | _=>cases ho
theorem steal_T (h:RelI w0 I0 s a.tmps w I Fs) {r:Nat} {q:Path} {u:Value} (hρ:ρS s a.tmps w (.ref r q) u) {KK:D→List D→Prop} (hk:stealK s r q KK) :
    ∃ t s' Fs' F,t.ownv=true∧KK t s'∧RelI w0 I0 s' a.tmps w I Fs'∧T I w t nil u F∧Fresh w0 w I Fs' F∧(∀ r b,b∈Fs' r→b∈Fs r)∧(∀ b,b∈F→∃ r,b∈Fs r)∧∀ x v,notThrough r q x=true→ρS s a.tmps w x v→ρS s' a.tmps w x v:=by
  obtain ⟨d,u0,t,h1,h2,h3,ho,h4⟩:=hρ;have hk:KK t ((pruneL (notThrough r q) s).set r (setAt (d.prune (notThrough r q)) q .undef)):=by
    simp only [stealK,h1,h3] at hk;cases t with
    | sl own sz rows=>cases own with
      | true=>exact hk
      | false=>cases ho
    | mp k e=>exact hk
    | _=>cases ho
  have hTd:=h.slot r d u0 h1 h2;cases q with
  | nil =>
    simp only [treeAt,Option.some.injEq] at h3;subst h3;simp only [valAt,Option.some.injEq] at h4;subst h4;have hf:=h.forget r;refine ⟨d,_,upd Fs r [],Fs r,ho,hk,?_,?_,⟨h.nd r,fun b hb=>⟨(h.own r b hb).1,(h.own r b hb).2.1,(h.own r b hb).2.2,fun r' hr=>?_⟩⟩,fun r' b hb=>?_,fun b hb=>⟨r,hb⟩,fun x v hq hx=>?_⟩
    · rw [notThrough_nil];exact hf
    · exact T.ownv_nil ho hTd
    · unfold upd at hr;split at hr
      · cases hr
      · rename_i hne;exact hne (h.disj r' r b hr hb)
    · unfold upd at hb;split at hb
      · cases hb
      · exact hb
    · rw [notThrough_nil] at hq ⊢;exact hx.forget r hq
  | cons y q =>
    obtain ⟨b,o,u',A,F',B,cells,e,ha,hcl,hrow,hF,hbA,hone,hTc,_⟩:=T.focus (y::q) d hTd (h.nd r) (fun b hb=>(h.own r b hb).2.2) (by simp) h3;have hv:=adr_val (y::q) d (by rw [h3];rfl) ha hcl;rw [h4] at hv;cases hv;obtain ⟨A',F'',B',u'',hF',hcl',_,_,hTc',hrel,hρ'⟩:=h.store (q:=notThrough r (y::q)) (c2:=.undef) (u2:=u) (F2:=[]) (w2:=w) (fun _ _ hq _=>hq) h1 h2 (by simp) h3 ha hone (by simp [T]) List.nodup_nil (fun _ h=>by cases h)
      ⟨rfl,rfl,rfl,rfl⟩ (fun _ _=>rfl) (fun cells' e' f' hr'=>by
        rw [hr'];congr 2;rw [cell_row hr'] at hcl;apply Array.ext_getElem?;intro i;by_cases hi:o=i
        · subst hi;rw [hcl,Array.getElem?_setIfInBounds_self_of_lt (Array.getElem?_eq_some_iff.1 hcl).1]
        · rw [Array.getElem?_setIfInBounds_ne hi])
    rw [hcl] at hcl';cases hcl';have hnd:=h.nd r;rw [hF',List.nodup_append,List.nodup_append] at hnd;refine ⟨t,_,_,F'',ho,hk,hrel,T.ownv_nil ho hTc',⟨hnd.1.2.1,fun b hb=>?_⟩,fun r' x hx=>?_,fun b hb=>⟨r,by rw [hF'];simp [hb]⟩,hρ'⟩
    · have hbF:b∈Fs r:=(by rw [hF'];simp [hb]);refine ⟨(h.own r b hbF).1,(h.own r b hbF).2.1,(h.own r b hbF).2.2,fun r' hr=>?_⟩;unfold upd at hr;split at hr
      · simp only [List.append_nil,List.mem_append] at hr;rcases hr with hr | hr
        · exact hnd.1.2.2 b hr b hb rfl
        · exact hnd.2.2 b (by simp [hb]) b hr rfl
      · rename_i hne;exact hne (h.disj r' r b hr hbF)
    · unfold upd at hx;split at hx
      · rename_i hr';subst hr';rw [hF'];simp only [List.append_nil,List.mem_append] at hx ⊢;rcases hx with hx | hx<;>simp [hx]
      · exact hx
theorem Fresh.sub {F:List Nat}{Fs':Nat→List Nat}(h:Fresh w0 w I Fs F)(hs:∀ r b,b∈Fs' r→b∈Fs r):Fresh w0 w I Fs' F:=⟨h.1,fun b hb=>⟨(h.2 b hb).1,(h.2 b hb).2.1,(h.2 b hb).2.2.1,fun r hr=>(h.2 b hb).2.2.2 r (hs r b hr)⟩⟩
theorem grow_T (h:RelI w0 I0 s a.tmps w I Fs) {sz:Nat} {x:Operand} {KK:List (List D)→List D→Prop} (hk:growK s sz x KK) :
    ∃ rows s' Fs' F,KK rows s'∧RelI w0 I0 s' a.tmps w I Fs'∧T I w (.sl true sz rows) nil (a.eval x) F∧Fresh w0 w I Fs' F∧∀ r b,b∈Fs' r→b∈Fs r:=by
  obtain ⟨Fs',F,h',hT,hF,hsub⟩:=tk_T h x;simp only [growK] at hk;split at hk
  · rename_i sz' rows e;rw [e] at hT;obtain ⟨rfl,hK⟩:=hk;exact ⟨rows,_,Fs',F,hK,h',by simpa only [T] using hT,hF,hsub.1⟩
  · rename_i e;rw [e] at hT;simp only [T] at hT;refine ⟨[],s,Fs,[],hk,h,?_,Fresh.nil,fun _ _ h=>h⟩;simp only [T];exact ⟨none,0,by simpa using hT.1,by simp,by unfold maxLen;omega,.inr ⟨trivial,.inl (by simp)⟩⟩
  · rename_i r q e;rw [e] at hT
    -- a ref is never owned: the state is the same
    have hst:(tk s x).2=s:=by
      cases x with
      | tmp t =>
        simp only [tk,tkT] at e ⊢;cases hs:s[t]? with
        | none=>rfl
        | some d =>
          simp only [hs] at e ⊢;cases d with
          | sl own sz rows=>cases own<;>simp at e
          | box tag cells=>rfl
          | ref r' q'=>rfl
          | agg cs=>simp at e
          | tup cs=>simp at e
          | fn f x y=>simp at e
          | _=>simp at e
      | _=>rfl
    rw [hst] at hT;simp only [T] at hT;obtain ⟨t,s',Fs'',F'',ho,hK,hr',hT',hF',hsub',_,_⟩:=steal_T h hT.1 hk;split at hK
    · obtain ⟨rfl,hK⟩:=hK;exact ⟨_,s',Fs'',F'',hK,hr',hT',hF',hsub'⟩
    · exact hK.elim
  · exact hk.elim
theorem Rows.append {sz:Nat}:∀ {rs:List (List D)} {raw:List Value} {F:List Nat} {rs':List (List D)} {raw':List Value} {F':List Nat},Rows I w sz rs raw F→Rows I w sz rs' raw' F'→Rows I w sz (rs++rs') (raw++raw') (F++F')
  | [],raw,F,rs',raw',F',h,h'=>by simp only [Rows] at h;simpa [h.1,h.2] using h'
  | r::rs,raw,F,rs',raw',F',h,h'=>by simp only [Rows] at h;obtain ⟨us,raw1,F1,F2,e,hF,hl,hc,h2⟩:=h;simp only [List.cons_append,Rows];exact ⟨us,raw1++raw',F1,F2++F',by simp [e],by simp [hF],hl,hc,Rows.append h2 h'⟩
theorem Rows.one {sz:Nat}:∀ {rs:List (List D)} {raw:List Value} {F:List Nat},Rows I w sz rs raw F→∀ u,u∈raw→u.oneCell'=true
  | [],raw,F,h,u,hu=>by simp only [Rows] at h;simp [h.1] at hu
  | r :: rs,raw,F,h,u,hu=>by
    simp only [Rows] at h;obtain ⟨us,raw1,F1,F2,e,hF,hl,hc,h2⟩:=h;rw [e] at hu;rcases List.mem_append.1 hu with hu | hu
    · have:∀ (ds:List D) (us:List Value) (F:List Nat),Cells I w ds nil us F→∀ u,u∈us→u.oneCell'=true:=by
        intro ds;induction ds with
        | nil=>intro us F h u hu;simp only [Cells] at h;simp [h.1] at hu
        | cons d ds ih =>
          intro us F h u hu;simp only [Cells] at h;obtain ⟨v,us',F1,F2,e,_,ho,_,h2⟩:=h;rw [e] at hu;rcases List.mem_cons.1 hu with rfl | hu
          · exact ho
          · exact ih us' F2 h2 u hu
      exact this r us F1 hc u hu
    · exact Rows.one h2 u hu
theorem Rows.noown {sz:Nat}:∀ {rs:List (List D)} {raw:List Value} {F:List Nat},Rows I w sz rs raw F→(∀ row,row∈rs→ownyL row=false)→F=[]
  | [],raw,F,h,_=>by simp only [Rows] at h;exact h.2
  | r::rs,raw,F,h,ho=>by simp only [Rows] at h;obtain ⟨us,raw1,F1,F2,e,hF,hl,hc,h2⟩:=h;rw [hF,Cells.nofoot r hc (ho r (by simp)),Rows.noown h2 (fun row hr=>ho row (by simp [hr]))];rfl
theorem Rows.nosz {sz sz':Nat}{rs:List (List D)}{raw:List Value}{F:List Nat}(h:Rows I w sz rs raw F)(hs:sz=sz'∨rs=[]):Rows I w sz' rs raw F:=by
  rcases hs with rfl | rfl
  · exact h
  · simpa only [Rows] using h
theorem growN_T (h:RelI w0 I0 s a.tmps w I Fs){sz:Nat}{x:Operand}{KK:List (List D)→List D→Prop}(hk:growNK s sz x KK) :
    ∃ rows s' Fs' F,KK rows s'∧RelI w0 I0 s' a.tmps w I Fs'∧T I w (.sl true sz rows) nil (a.eval x) F∧Fresh w0 w I Fs' F∧(∀ r b,b∈Fs' r→b∈Fs r)∧(∀ b,b∈F→∃ r,b∈Fs r)∧∀ r,s'[r]?=some .undef∨Fs' r=Fs r:=by
  obtain ⟨Fs',F,h',hT,hF,hsub,hin,hst⟩:=tk_T h x;simp only [growNK] at hk;split at hk
  · rename_i sz' rows e;rw [e] at hT;obtain ⟨rfl,hK⟩:=hk;exact ⟨rows,_,Fs',F,hK,h',by simpa only [T] using hT,hF,hsub,hin,hst⟩
  · rename_i e;rw [e] at hT;simp only [T] at hT;refine ⟨[],s,Fs,[],hk,h,?_,Fresh.nil,fun _ _ h=>h,(fun _ h=>by cases h),fun _=>.inr rfl⟩;simp only [T];exact ⟨none,0,by simpa using hT.1,by simp,by unfold maxLen;omega,.inr ⟨trivial,.inl (by simp)⟩⟩
  · exact hk.elim
theorem add_T (h:RelI w0 I0 s a.tmps w I Fs) {sz:Nat} {y:Operand} {KK:List (List D)→List D→Prop} (hk:addK s sz y KK) :
    ∃ more s' Fs' F ad c raw,KK more s'∧RelI w0 I0 s' a.tmps w I Fs'∧a.eval y=.slice ad more.length c∧Rows I w sz more raw F∧(more=[]∨∃ b o,ad=some ⟨b,o,none⟩∧w.rangeAt b o raw)∧Fresh w0 w I Fs' F∧(∀ r b,b∈Fs' r→b∈Fs r)∧(∀ b,b∈F→∃ r,b∈Fs r)∧∀ r,(s[r]?=some .undef→s'[r]?=some .undef)∧(s'[r]?=some .undef∨Fs' r=Fs r):=by
  simp only [addK] at hk;split at hk
  · -- an own slice
    rename_i sz' rows e;obtain ⟨hsz,hK⟩:=hk;cases y with
    | tmp t =>
      simp only [tk,tkT] at e;cases hs:s[t]? with
      | none=>simp [hs] at e
      | some d =>
        simp only [hs] at e;have hd:d=.sl true sz' rows:=by
          cases d with
          | sl own sz2 rows2=>cases own<;>simpa using e
          | box tag cells=>simp at e
          | _=>simpa using e
        subst hd;obtain ⟨u,hu,hT⟩:=h.slot0 hs;have hf:=h.forget t;have hst:(tk s (.tmp t)).2=(pruneL (notRoot t) s).set t .undef:=by simp [tk,tkT,hs]
        rw [hst] at hK;simp only [T] at hT;obtain ⟨ad,c,e',h1,h2,h3⟩:=hT;have hev:a.eval (.tmp t)=.slice ad rows.length c:=by simp [Act.eval,hu,e']
        have hsub:∀ r b,b∈upd Fs t [] r→b∈Fs r:=fun r b hb=>by
          unfold upd at hb;split at hb
          · cases hb
          · exact hb
        have hlt:=(List.getElem?_eq_some_iff.1 hs).1;have hstay:∀ r,(s[r]?=some D.undef→((pruneL (notRoot t) s).set t .undef)[r]?=some .undef)∧(((pruneL (notRoot t) s).set t .undef)[r]?=some .undef∨upd Fs t [] r=Fs r):=fun r=>by
          by_cases hr:r=t
          · subst hr;have:((pruneL (notRoot r) s).set r .undef)[r]?=some D.undef:=by simp [pruneL_len,hlt]
            exact ⟨fun _=>this,.inl this⟩
          · refine ⟨fun hu=>?_,.inr (by unfold upd;rw [if_neg hr])⟩;rw [List.getElem?_set_ne (Ne.symm hr),pruneL_get,hu];simp [D.prune]
        rcases h3 with ⟨h3,_⟩ | ⟨_,h3⟩
        · cases h3
        rcases h3 with ⟨ha,hc,hF⟩ | ⟨b,o,cells,et,raw,F',ha,hh,hcs,hr,hF,hR⟩
        · have:rows=[]:=List.eq_nil_of_length_eq_zero (by omega);subst this;exact ⟨[],_,_,[],ad,c,[],hK,hf,hev,by simp [Rows],.inl rfl,Fresh.nil,hsub,(fun _ h=>by cases h),hstay⟩
        · have hnd:=h.nd t;rw [hF] at hnd;refine ⟨rows,_,_,F',ad,c,raw,hK,hf,hev,hR.nosz hsz,.inr ⟨b,o,ha,hr⟩,⟨(List.nodup_cons.1 hnd).2,fun x hx=>?_⟩,hsub,fun x hx=>⟨t,by rw [hF];simp [hx]⟩,hstay⟩;have hxt:x∈Fs t:=(by rw [hF];simp [hx]);refine ⟨(h.own t x hxt).1,(h.own t x hxt).2.1,(h.own t x hxt).2.2,fun r hr=>?_⟩;unfold upd at hr;split at hr
          · cases hr
          · rename_i hne;exact hne (h.disj r t x hr hxt)
    | const v=>simp only [tk,lk,ofV] at e;split at e<;>first | (split at e<;>simp at e;done) | (simp at e;done) | (unfold ofC at e;split at e<;>simp at e)
    | func f=>simp [tk,lk] at e
    | global g=>simp [tk,lk] at e
  · rename_i sz' rows e;obtain ⟨hsz,hK⟩:=hk;obtain ⟨Fs',F,h',hT,hF,hsub⟩:=tk_T h y;rw [e] at hT;simp only [T] at hT;obtain ⟨ad,c,e',h1,h2,h3⟩:=hT;rcases h3 with ⟨_,_,h3⟩ | ⟨h3,_⟩
    · rcases h3 with rfl | ⟨b,o,raw,ha,hI,hr,hR⟩
      · exact ⟨[],s,Fs,[],ad,c,[],hK,h,e',by simp [Rows],.inl rfl,Fresh.nil,fun _ _ h=>h,(fun _ h=>by cases h),fun _=>⟨id,.inr rfl⟩⟩
      · exact ⟨rows,s,Fs,[],ad,c,raw,hK,h,e',hR.nosz hsz,.inr ⟨b,o,ha,hr⟩,Fresh.nil,fun _ _ h=>h,(fun _ h=>by cases h),fun _=>⟨id,.inr rfl⟩⟩
    · cases h3
  · rename_i e;obtain ⟨Fs',F,h',hT,hF,hsub⟩:=tk_T h y;rw [e] at hT;simp only [T] at hT;exact ⟨[],s,Fs,[],none,0,[],hk,h,hT.1,by simp [Rows],.inl rfl,Fresh.nil,fun _ _ h=>h,(fun _ h=>by cases h),fun _=>⟨id,.inr rfl⟩⟩
  · rename_i r q e;split at hk
    · rename_i sz' rows e1;obtain ⟨hsz,hno,hK⟩:=hk;have hst:(tk s y).2=s:=by
        cases y with
        | tmp t =>
          simp only [tk,tkT] at e ⊢;cases hs:s[t]? with
          | none=>rfl
          | some d =>
            simp only [hs] at e ⊢;cases d with
            | sl own sz rows=>cases own<;>simp at e
            | box tag cells=>rfl
            | ref r' q'=>rfl
            | agg cs=>simp at e
            | tup cs=>simp at e
            | fn f x y=>simp at e
            | _=>simp at e
        | _=>rfl
      obtain ⟨Fs',F,h',hT,hF,hsub⟩:=tk_T h y;rw [e,hst] at hT;rw [hst] at h';obtain ⟨F2,ρ',k2,k3⟩:=ref_form h' hT e1;simp only [T] at k2;obtain ⟨ad,c,e',h1,h2,h3⟩:=k2;rcases h3 with ⟨h3,_⟩ | ⟨_,h3⟩
      · cases h3
      rcases h3 with ⟨ha,hc,hF⟩ | ⟨b,o,cells,et,raw,F'',ha,hh,hcs,hr,hF,hR⟩
      · have:rows=[]:=List.eq_nil_of_length_eq_zero (by omega);subst this;exact ⟨[],s,Fs,[],ad,c,[],hK,h,e',by simp [Rows],.inl rfl,Fresh.nil,fun _ _ h=>h,(fun _ h=>by cases h),fun _=>⟨id,.inr rfl⟩⟩
      · have:=Rows.noown hR hno;subst this;exact ⟨rows,s,Fs,[],ad,c,raw,hK,h,e',hR.nosz hsz,.inr ⟨b,o,ha,hr⟩,Fresh.nil,fun _ _ h=>h,(fun _ h=>by cases h),fun _=>⟨id,.inr rfl⟩⟩
    · exact hk.elim
  · rename_i r q i n e;split at hk
    · rename_i sz' rows e1;obtain ⟨hsz,hno,hK⟩:=hk;have hl:lk s y=.sub r q i n:=by
        cases y with
        | tmp t =>
          simp only [tk,tkT,lk,lkT] at e ⊢;cases hs:s[t]? with
          | none=>simp [hs] at e
          | some d =>
            simp only [hs] at e ⊢;have hd:d=.sub r q i n:=by
              cases d with
              | sl own sz rows=>cases own<;>simp at e
              | box tag cells=>simp at e
              | _=>simpa using e
            subst hd;rfl
        | _=>exact e
      have hT:=lk_T h y;rw [hl] at hT;obtain ⟨ad,c,raw,F',e2,h1,h2,_,hR,_,h3⟩:=sub_form h hT e1;have:=Rows.noown hR hno;subst this;refine ⟨rows,s,Fs,[],ad,c,raw,hK,h,e2,hR.nosz hsz,?_,Fresh.nil,fun _ _ h=>h,(fun _ h=>by cases h),fun _=>⟨id,.inr rfl⟩⟩;rcases h3 with h3 | ⟨b,o,h3,_,h4⟩
      · exact .inl h3
      · exact .inr ⟨b,o,h3,h4⟩
    · exact hk.elim
  · exact hk.elim
end
end Go.V
namespace Go.V
open Go.RowKit
section
variable {P:Program} {w0:Base} {I0:Nat→Prop} {s:List D} {a:Act} {w:World} {I:Nat→Prop} {Fs:Nat→List Nat} {K:D→List D→Prop} {Ctr:CtrT} {nn:Bool}
theorem heap_setCells (b:Nat):∀ (vs:List Value) (o:Nat) (w:World) (cells:Array Value) (e:TypeId) (f:Nat×Nat),w.heap[b]?=some (.cells cells e f)→∃ cells',(w.setCells b o vs).heap[b]?=some (.cells cells' e f)∧cells'.size=cells.size
  | [],o,w,cells,e,f,h=>⟨cells,h,rfl⟩
  | v::vs,o,w,cells,e,f,h=>by have h1:=setCell_here w b o v cells e f h;obtain ⟨c',k1,k2⟩:=heap_setCells b vs (o+1) (w.setCell ⟨b,o,none⟩ v) _ e f h1;exact ⟨c',k1,by rw [k2];simp⟩
theorem heap_setCells_ne (b:Nat):∀ (vs:List Value) (o:Nat) (w:World) (x:Nat),x≠b→(w.setCells b o vs).heap[x]?=w.heap[x]?
  | [],o,w,x,_=>rfl
  | v::vs,o,w,x,h=>by rw [World.setCells,heap_setCells_ne b vs (o+1) _ x h];exact Below.heap_setCell w ⟨b,o,none⟩ v x h
theorem Rows.cells_one {sz:Nat}:True:=trivial
theorem app_S (h:RelI w0 I0 s a.tmps w I Fs) {sz bytes:Nat} {t tx ty e:TypeId} {i:TypeInfo} {z:Value} (ht:P.underlying t=some (.slice e)) (hi:P.info? e=some i) (hz:i.zero=some z) (hsz:i.size=sz) (hzs:z.cells.size=sz) (hby:i.bytes=bytes)
    {rows more:List (List D)} {u v:Value} {F F2:List Nat} {news:List Value} (hT:T I w (.sl true sz rows) nil u F) (hF:Fresh w0 w I Fs F) (hsrc:Src P i.size tx v more.length news w) (hR:Rows I w sz more news F2) (hF2:Fresh w0 w I Fs F2) (hdis:∀ b,b∈F2→b∉F)
    (hbound:(rows.length+more.length)*(bytes+1)≤2 ^ 40) (hK:K (.sl true sz (rows++more)) s) {Fs0:Nat→List Nat} (hin0:nn=true→∀ b,b∈F∨b∈F2→∃ r,b∈Fs0 r) (hst:nn=true→∀ r,s[r]?=some .undef∨Fs r=Fs0 r) :
    ∃ v' w',(Builtin.append_ #[t,tx] ty #[u,v]).run P w=.ok v' w'∧OutOK nn Fs0 I w w0 I0 a.tmps K v' w':=by
  have hlenb:rows.length+more.length≤2 ^ 40:=Nat.le_trans (Nat.le_mul_of_pos_right _ (by omega)) hbound;have hbb:(rows.length+more.length)*bytes≤140737488355328:=Nat.le_trans (Nat.mul_le_mul_left _ (by omega:bytes≤bytes+1)) (Nat.le_trans hbound (by omega));have hnl:news.length=more.length*sz:=hR.len;simp only [T] at hT;obtain ⟨base,cap,e',h1,h2,h3⟩:=hT;subst e';rcases h3 with ⟨h3,_⟩ | ⟨_,h3⟩
  · cases h3
  -- a new row
  have grow:∀ (F':List Nat) (raw:List Value),Rows I w sz rows raw F'→(∀ b,b∈F'→b∈F)→F'.Nodup→((Builtin.firstCells i.size rows.length (.slice base rows.length cap)).run P w.drew=.ok raw.toArray w.drew)→cap<rows.length+more.length →
      ∃ v' w',(Builtin.append_ #[t,tx] ty #[.slice base rows.length cap,v]).run P w=.ok v' w'∧OutOK nn Fs0 I w w0 I0 a.tmps K v' w':=by
    intro F' raw hRr hsub hnd hold hg;have hrun:=run_append_grow_src (P:=P) w t tx ty e i z ht hi hz base rows.length cap raw hold v more.length news hsrc hg (by omega) (growslice_fits hg (by rw [hby];exact hbb));refine ⟨_,_,hrun,?_⟩;have hge:=grownCap_ge w (rows.length+more.length) cap e;have hle:=grownCap_le_maxLen w (rows.length+more.length) cap e (by unfold maxLen;omega);have hbel:Below w.heap.size w (w.drew.alloc (.cells ((raw++news).toArray++Builtin.zeroCells z.cells (grownCap w (rows.length+more.length) cap e-(rows.length+more.length))) e)):=((Below.refl _ w).drew).alloc (Nat.le_refl _) _;have h':=h.world hbel;have hrl:=hRr.len;generalize hcs:((raw++news).toArray++Builtin.zeroCells z.cells (grownCap w (rows.length+more.length) cap e-(rows.length+more.length)))=cs at hbel h';have hnew:(w.drew.alloc (.cells cs e)).heap[w.heap.size]?=some (.cells cs e (0,0)):=by show (w.heap.push _)[w.heap.size]?=_;simp
    have hsz':cs.size=grownCap w (rows.length+more.length) cap e*sz:=(by rw [← hcs];simp [size_zeroCells,hzs,hrl,hnl];rw [← Nat.add_mul,← Nat.add_mul];congr 1;omega);refine ⟨_,s,I,Fs,w.heap.size::(F'++F2),hK,h',?_,?_,fun hn=>Frame.below hbel (fun b hb'=>(List.mem_cons.1 hb').elim (fun h=>.inl (by omega)) (fun h=>.inr (hin0 hn b ((List.mem_append.1 h).imp (hsub b) id)))) (hst hn)⟩
    · simp only [T];refine ⟨_,_,by rw [List.length_append],by simp;omega,by omega,.inr ⟨trivial,.inr ⟨w.heap.size,0,cs,e,raw++news,F'++F2,rfl,hnew,by omega,fun j x hj=>?_,rfl,?_⟩⟩⟩
      · rw [cell_row hnew,← hcs];have hlt:=(List.getElem?_eq_some_iff.1 hj).1;rw [Nat.zero_add,Array.getElem?_append_left (by simpa using hlt)];simpa using hj
      · refine (hRr.append hR).keep sz _ (fun b hb=>hbel.block b ?_);rcases hb with hb | hb
        · exact h.imm b hb
        · rcases List.mem_append.1 hb with hb | hb
          · exact (hF.2 b (hsub b hb)).2.1
          · exact (hF2.2 b hb).2.1
    · have hsz2:(w.drew.alloc (.cells cs e)).heap.size=w.heap.size+1:=(by show (w.heap.push _).size=_;simp);refine ⟨List.nodup_cons.2 ⟨fun hmem=>?_,List.nodup_append.2 ⟨hnd,hF2.1,fun x hx y hy hxy=>hdis y hy (hxy▸hsub x hx)⟩⟩,fun b hb=>?_⟩
      · rcases List.mem_append.1 hmem with hb | hb
        · exact Nat.lt_irrefl _ (hF.2 _ (hsub _ hb)).2.1
        · exact Nat.lt_irrefl _ (hF2.2 _ hb).2.1
      · rw [hsz2];rcases List.mem_cons.1 hb with rfl | hb
        · exact ⟨Base.N_of h.below (Nat.le_refl _),by omega,fun hI=>Nat.lt_irrefl _ (h.imm _ hI),fun r hr=>Nat.lt_irrefl _ (h.own r _ hr).2.1⟩
        · rcases List.mem_append.1 hb with hb | hb
          · have:=hF.2 b (hsub b hb);exact ⟨this.1,by omega,this.2.2⟩
          · have:=hF2.2 b hb;exact ⟨this.1,by omega,this.2.2⟩
  rcases h3 with ⟨rfl,rfl,rfl⟩ | ⟨b,o,cells,et,raw,F',rfl,hh,hcs,hr,rfl,hRr⟩
  · have h0:rows=[]:=List.eq_nil_of_length_eq_zero (by omega);subst h0;by_cases hmore:more=[]
    · subst hmore;have hn:news=[]:=by simp only [Rows] at hR;exact hR.1
      have hF20:F2=[]:=(by simp only [Rows] at hR;exact hR.2);subst hn;refine ⟨.slice none 0 0,w,?_,_,s,I,Fs,[],hK,h,?_,Fresh.nil,fun hn=>Frame.below (Below.refl _ _) (fun _ h=>by cases h) (hst hn)⟩
      · have:=run_append_nothing (P:=P) w t tx ty e i ht hi none 0 0 (Nat.le_refl _) v (by simpa using hsrc);simpa using this
      · simp only [List.append_nil,T];exact ⟨none,0,rfl,by simp,by unfold maxLen;omega,.inr ⟨trivial,.inl (by simp)⟩⟩
    · exact grow [] [] (by simp [Rows]) (fun _ h=>h) List.nodup_nil (run_firstCells_none w.drew i.size 0 0 0) (by have:=List.length_pos_iff.2 hmore;omega)
  · have hbF:=hF.2 b (by simp);have hnF:=List.nodup_cons.1 hF.1;have hrl:=hRr.len;have hone:=hRr.one;by_cases hroom:rows.length+more.length≤cap
    · -- in place
      have hin:∀ j,j<news.length→(w.cell? ⟨b,o+rows.length*i.size+j,none⟩).isSome=true:=by
        intro j hj;rw [cell_row hh];have:o+rows.length*sz+j<cells.size:=by have:(rows.length+more.length)*sz≤cap*sz:=Nat.mul_le_mul_right _ hroom;rw [Nat.add_mul] at this;omega
        rw [hsz];simp [this]
      have hfz:∀ j,j<news.length→w.frozen? ⟨b,o+rows.length*i.size+j,none⟩=false:=fun j _=>by simp [World.frozen?,hh]
      have hrun:=run_append_room_src (P:=P) w t tx ty e i ht hi b o rows.length cap v more.length news hsrc hroom hin hfz;rw [hsz] at hrun hin;refine ⟨_,_,hrun,?_⟩;obtain ⟨cells',k1,k2⟩:=heap_setCells b news (o+rows.length*sz) w cells et (0,0) hh;have hne:=fun x hx=>heap_setCells_ne b news (o+rows.length*sz) w x hx;have hsize:(w.setCells b (o+rows.length*sz) news).heap.size=w.heap.size:=by
        have:∀ (vs:List Value) (o:Nat) (w:World),(w.setCells b o vs).heap.size=w.heap.size:=by
          intro vs;induction vs with
          | nil=>intro o w;rfl
          | cons v vs ih=>intro o w;rw [World.setCells,ih];simp [World.setCell]
        exact this _ _ _
      have hbel:w0.Keeps w (w.setCells b (o+rows.length*sz) news):=by
        have:∀ (vs:List Value) (o:Nat) (w:World),w0.Keeps w (w.setCells b o vs):=by
          intro vs;induction vs with
          | nil=>intro o w;exact Base.Keeps.refl
          | cons v vs ih=>intro o w;exact (Base.Keeps.setCell hbF.1 o v).trans (ih _ _)
        exact this _ _ _
      have h':=h.same hbel (fun x hx=>hne x (by
        rintro rfl;rcases hx with hx | ⟨r,hr⟩
        · exact hbF.2.2.1 hx
        · exact hbF.2.2.2 r hr))
      refine ⟨_,s,I,Fs,b::(F'++F2),hK,h',?_,?_,fun hn=>⟨fun _ h=>h,fun _ h=>.inl h,fun x hx=>.inr (hin0 hn x ((List.mem_cons.1 hx).elim (fun h=>.inl (by rw [h];simp)) (fun h=>(List.mem_append.1 h).imp (fun h=>by simp [h]) id))),fun x _ hx=>hne x (fun h=>hx (by rw [h];simp)),hst hn⟩⟩
      · simp only [T];refine ⟨some ⟨b,o,none⟩,cap,by rw [List.length_append],by simp;omega,h2,.inr ⟨trivial,.inr ⟨b,o,cells',et,raw++news,F'++F2,rfl,k1,by rw [k2];exact hcs,fun j x hj=>?_,rfl,?_⟩⟩⟩
        · by_cases hj1:j<raw.length
          · rw [List.getElem?_append_left hj1] at hj;rw [World.cell?_setCells_out b news _ w ⟨b,o+j,none⟩ (fun _ _=>.inl (by show o+j<_;omega))];exact hr j x hj
          · rw [List.getElem?_append_right (by omega)] at hj;have hlt:=(List.getElem?_eq_some_iff.1 hj).1;have:=World.cell?_setCells_in b news (o+rows.length*sz) w hin (j-raw.length) hlt;rw [show o+j=o+rows.length*sz+(j-raw.length) by omega,this];rw [List.getElem?_eq_getElem hlt] at hj;exact hj
        · refine (hRr.append hR).keep sz _ (fun x hx=>hne x ?_);rintro rfl;rcases hx with hx | hx
          · exact hbF.2.2.1 hx
          · rcases List.mem_append.1 hx with hx | hx
            · exact hnF.1 hx
            · exact hdis x hx (by simp)
      · refine ⟨List.nodup_cons.2 ⟨fun hmem=>?_,List.nodup_append.2 ⟨hnF.2,hF2.1,fun x hx y hy hxy=>hdis y hy (by rw [← hxy];simp [hx])⟩⟩,fun x hx=>?_⟩
        · rcases List.mem_append.1 hmem with hx | hx
          · exact hnF.1 hx
          · exact hdis b hx (by simp)
        · rw [hsize];rcases List.mem_cons.1 hx with rfl | hx
          · exact hbF
          · rcases List.mem_append.1 hx with hx | hx
            · exact hF.2 x (by simp [hx])
            · exact hF2.2 x hx
    · refine grow F' raw hRr (fun x hx=>by simp [hx]) hnF.2 ?_ (by omega);exact run_firstCells_some (P:=P) w.drew i.size rows.length ⟨b,o,none⟩ rows.length cap raw (by rw [hsz];exact hrl) (fun j x hj=>by rw [Addr.add_mid];simpa using hr j x hj)
theorem app_T (h:RelI w0 I0 s a.tmps w I Fs){sz bytes:Nat}{t tx ty e:TypeId}{i:TypeInfo}{z:Value}(ht:P.underlying t=some (.slice e)){e2:TypeId}(htx:P.underlying tx=some (.slice e2))(hi:P.info? e=some i)(hz:i.zero=some z)(hsz:i.size=sz)(hzs:z.cells.size=sz)(hby:i.bytes=bytes)
    {rows more:List (List D)} {u v:Value} {F F2:List Nat} {ad:Option Addr} {c:Nat} {news:List Value} (hT:T I w (.sl true sz rows) nil u F) (hF:Fresh w0 w I Fs F) (hv:v=.slice ad more.length c) (hR:Rows I w sz more news F2) (hm:more=[]∨∃ b o,ad=some ⟨b,o,none⟩∧w.rangeAt b o news) (hF2:Fresh w0 w I Fs F2) (hdis:∀ b,b∈F2→b∉F)
    (hbound:(rows.length+more.length)*(bytes+1)≤2 ^ 40) (hK:K (.sl true sz (rows++more)) s) {Fs0:Nat→List Nat} (hin0:nn=true→∀ b,b∈F∨b∈F2→∃ r,b∈Fs0 r) (hst:nn=true→∀ r,s[r]?=some .undef∨Fs r=Fs0 r) :
    ∃ v' w',(Builtin.append_ #[t,tx] ty #[u,v]).run P w=.ok v' w'∧OutOK nn Fs0 I w w0 I0 a.tmps K v' w':=by
  have hnl:news.length=more.length*sz:=hR.len;have hsrc:Src P i.size tx v more.length news w:=by
    subst hv;rcases hm with rfl | ⟨b,o,rfl,hr⟩
    · simp only [Rows] at hR;rw [hR.1];cases ad with
      | none=>exact Src.ofNil w htx c
      | some x=>exact Src.ofSlice w htx x 0 c [] (by simp) (by simp) (by simp)
    · refine Src.ofSlice w htx ⟨b,o,none⟩ more.length c news (by rw [hsz];exact hnl) (fun j u hj=>?_) hR.one;rw [Addr.add_mid];exact hr j u hj
  exact app_S h ht hi hz hsz hzs hby hT hF hsrc hR hF2 hdis hbound hK hin0 hst
theorem sim_app (h:RelI w0 I0 s a.tmps w I Fs){sz bytes:Nat}{x y:Operand}{t tx e e2:TypeId}{i:TypeInfo}{z:Value}{o:Oper}(ho:o.op=.call { callee:=.builtin .append,args:=#[x,y],argTypes:=#[t,tx] })(ht:P.underlying t=some (.slice e))(htx:P.underlying tx=some (.slice e2))(hi:P.info? e=some i)(hz:i.zero=some z)(hsz:i.size=sz)(hzs:z.cells.size=sz)(hby:i.bytes=bytes)
    (hk:evalK Ctr s (.app sz bytes x y) K):RunsTo P (execOp a.eval o) w (OutOK false Fs I w w0 I0 a.tmps K):=by
  simp only [evalK] at hk;obtain ⟨rows,s1,Fs1,F1,hk,h1,hT,hF1,hsub1⟩:=grow_T h hk;obtain ⟨more,s2,Fs2,F2,ad,c,news,⟨hb,hK⟩,h2,hv,hR,hm,hF2,hsub2,hin,_⟩:=add_T h1 hk;obtain ⟨v',w',hrun,hout⟩:=app_T (ty:=o.type) h2 ht htx hi hz hsz hzs hby hT (hF1.sub hsub2) hv hR hm hF2 (fun b hb hb'=>by
    obtain ⟨r,hr⟩:=hin b hb;exact (hF1.2 b hb').2.2.2 r hr) hb hK (nn:=false) (Fs0:=Fs) (fun h=>by cases h) (fun h=>by cases h)
  refine .value (v:=v') (w':=w') ?_ hout;simp only [execOp,ho,resolve,Sem.run_bind,Sem.run_pure,Result.andThen_ok,invoke,builtin];rw [show (Array.map a.eval #[x,y])=#[a.eval x,a.eval y] by simp,hrun];rfl
theorem rows_bytes:∀ (l:List UInt8),Rows I w 1 (l.map fun x=>rowB (x.toNat:Int)) (l.map fun x=>Value.int .u8 x.toNat) []
  | []=>by simp [Rows]
  | x::l=>by simp only [List.map_cons,Rows];refine ⟨[.int .u8 x.toNat],_,[],[],rfl,rfl,rfl,?_,rows_bytes l⟩;simp only [rowB,Cells,T];exact ⟨_,_,[],[],rfl,rfl,rfl,⟨rfl,rfl⟩,rfl,rfl⟩
theorem sim_appS (h:RelI w0 I0 s a.tmps w I Fs){bytes:Nat}{x y:Operand}{t tx e:TypeId}{i:TypeInfo}{z:Value}{o:Oper}(ho:o.op=.call { callee:=.builtin .append,args:=#[x,y],argTypes:=#[t,tx] })(ht:P.underlying t=some (.slice e))(htx:P.underlying tx=some .string)(hi:P.info? e=some i)(hz:i.zero=some z)(hsz:i.size=1)(hzs:z.cells.size=1)(hby:i.bytes=bytes)
    (hk:evalK Ctr s (.appS bytes x y) K):RunsTo P (execOp a.eval o) w (OutOK false Fs I w w0 I0 a.tmps K):=by
  simp only [evalK] at hk;obtain ⟨rows,s1,Fs1,F1,hk,h1,hT,hF1,hsub1⟩:=grow_T h hk;have hY:=lk_T h1 y;split at hk
  case h_2=>exact hk.elim
  rename_i b e1;obtain ⟨hb,hK⟩:=hk;rw [e1] at hY;have hv:=(T_v hY).1;have hl:((bytesI b).map rowB).length=b.size:=by unfold bytesI;rw [List.length_map,List.length_map,Array.length_toList];rfl
  have hsrc:Src P i.size tx (a.eval y) ((bytesI b).map rowB).length (byteCells b) w:=(by rw [hl,hsz,hv];exact Src.ofString w htx b);have hR:Rows I w 1 ((bytesI b).map rowB) (byteCells b) []:=(by unfold bytesI byteCells;rw [List.map_map];exact rows_bytes _);obtain ⟨v',w',hrun,hout⟩:=app_S (ty:=o.type) h1 ht hi hz hsz hzs hby hT hF1 hsrc hR Fresh.nil (fun b hb=>by cases hb) (by rw [hl];exact hb) hK (nn:=false) (Fs0:=Fs) (fun h=>by cases h) (fun h=>by cases h);refine .value (v:=v') (w':=w') ?_ hout;simp only [execOp,ho,resolve,Sem.run_bind,Sem.run_pure,Result.andThen_ok,invoke,builtin];rw [show (Array.map a.eval #[x,y])=#[a.eval x,a.eval y] by simp,hrun];rfl
theorem sim_appN (h:RelI w0 I0 s a.tmps w I Fs){sz bytes:Nat}{x y:Operand}{t tx e e2:TypeId}{i:TypeInfo}{z:Value}{o:Oper}(ho:o.op=.call { callee:=.builtin .append,args:=#[x,y],argTypes:=#[t,tx] })(ht:P.underlying t=some (.slice e))(htx:P.underlying tx=some (.slice e2))(hi:P.info? e=some i)(hz:i.zero=some z)(hsz:i.size=sz)(hzs:z.cells.size=sz)(hby:i.bytes=bytes)
    (hk:evalK Ctr s (.appN sz bytes x y) K):RunsTo P (execOp a.eval o) w (OutOK nn Fs I w w0 I0 a.tmps K):=by
  simp only [evalK] at hk;obtain ⟨rows,s1,Fs1,F1,hk,h1,hT,hF1,hsub1,hin1,hst1⟩:=growN_T h hk;obtain ⟨more,s2,Fs2,F2,ad,c,news,⟨hb,hK⟩,h2,hv,hR,hm,hF2,hsub2,hin,hst⟩:=add_T h1 hk;obtain ⟨v',w',hrun,hout⟩:=app_T (ty:=o.type) h2 ht htx hi hz hsz hzs hby hT (hF1.sub hsub2) hv hR hm hF2 (fun b hb hb'=>by
    obtain ⟨r,hr⟩:=hin b hb;exact (hF1.2 b hb').2.2.2 r hr) hb hK (nn:=nn) (Fs0:=Fs) (fun _ b hb=>hb.elim (hin1 b) (fun hb=>(hin b hb).imp fun r hr=>hsub1 r b hr)) (fun _ r=>(hst r).2.elim .inl (fun e=>(hst1 r).elim (fun hu=>.inl ((hst r).1 hu)) (fun e1=>.inr (e.trans e1))))
  refine .value (v:=v') (w':=w') ?_ hout;simp only [execOp,ho,resolve,Sem.run_bind,Sem.run_pure,Result.andThen_ok,invoke,builtin];rw [show (Array.map a.eval #[x,y])=#[a.eval x,a.eval y] by simp,hrun];rfl
end
end Go.V
namespace Go.V
open Go.RowKit
section
variable {P:Program} {w0:Base} {I0:Nat→Prop} {s:List D} {a:Act} {w:World} {I:Nat→Prop} {Fs:Nat→List Nat} {K:D→List D→Prop} {Ctr:CtrT} {nn:Bool}
theorem ρS_set_ne {tm:Array Value}{t:Nat}{d:D}{x:D}{v:Value}(h:ρS s tm w x v)(hr:∀ r,(∃ q,x=.ref r q)∨(∃ q i j,x=.ptr r q i j)∨(∃ q i n,x=.sub r q i n)→r≠t):ρS (s.set t d) tm w x v:=by
  cases x with
  | ref r q=>obtain ⟨d',u0,t1,h1,h2,h3,ho,h4⟩:=h;exact ⟨d',u0,t1,by rw [List.getElem?_set_ne (Ne.symm (hr r (.inl ⟨q,rfl⟩)))];exact h1,h2,h3,ho,h4⟩
  | ptr r q i j=>obtain ⟨d',u0,t',sz,rows,u1,b,o,h1,h2,h3,h4,h5,h6⟩:=h;exact ⟨d',u0,t',sz,rows,u1,b,o,by rw [List.getElem?_set_ne (Ne.symm (hr r (.inr (.inl ⟨q,i,j,rfl⟩))))];exact h1,h2,h3,h4,h5,h6⟩
  | sub r q i n=>obtain ⟨d',u0,t',sz,rows,u1,b,o,cc,h1,h2,h3,h4,h5,h6⟩:=h;exact ⟨d',u0,t',sz,rows,u1,b,o,cc,by rw [List.getElem?_set_ne (Ne.symm (hr r (.inr (.inr ⟨q,i,n,rfl⟩))))];exact h1,h2,h3,h4,h5,h6⟩
  | _=>exact h.elim
theorem tk_ρ {y:Operand} {x:D} {v:Value} {tm:Array Value} (h:ρS s tm w x v) (hq:aliveQ (tk s y).2 x=true):ρS (tk s y).2 tm w x v:=by
  cases y with
  | tmp t =>
    simp only [tk,tkT] at hq ⊢;cases hs:s[t]? with
    | none=>simpa [hs] using h
    | some d =>
      simp only [hs] at hq ⊢;have hlt:=(List.getElem?_eq_some_iff.1 hs).1;have setU:∀ s':List D,s'.length=s.length→ρS s' tm w x v→aliveQ (s'.set t .undef) x=true→ρS (s'.set t .undef) tm w x v:=by
        intro s' hl h' hq';refine ρS_set_ne h' (fun r hr e=>?_);subst e;have hg:(s'.set r .undef)[r]?=some .undef:=by simp [hl,hlt]
        rcases hr with ⟨q,rfl⟩ | ⟨q,i,j,rfl⟩ | ⟨q,i,n,rfl⟩<;>simp [aliveQ,hg,D.cont] at hq'
      have gen:(if d.owny then s.set t .undef else s)=(if d.owny then s.set t .undef else s)→aliveQ (if d.owny then s.set t .undef else s) x=true→ρS (if d.owny then s.set t .undef else s) tm w x v:=by
        intro _ hq';by_cases ho:d.owny=true
        · rw [if_pos ho] at hq' ⊢;exact setU s rfl h hq'
        · rw [if_neg ho];exact h
      cases d with
      | sl own sz rows =>
        cases own with
        | true=>exact setU _ (pruneL_len _ _) (h.prune _) hq
        | false=>exact gen rfl hq
      | mp k e=>exact setU _ (pruneL_len _ _) (h.prune _) hq
      | box tag cells=>exact h
      | _=>exact gen rfl hq
  | _=>exact h
theorem tkL_ρ : ∀ {xs : List Operand} {s:List D} {x:D} {v:Value} {tm:Array Value},ρS s tm w x v→aliveQ (tkL s xs).2 x=true→ρS (tkL s xs).2 tm w x v
  | [],s,x,v,tm,h,_=>h
  | y :: xs,s, x,v, tm,h,hq=>by
    simp only [tkL] at hq ⊢
    -- alive at the end: alive in between
    have hmid : aliveQ (tk s y).2 x=true:=by
      by_cases hm:aliveQ (tk s y).2 x=true
      · exact hm
      · exfalso;have key:∀ (xs:List Operand) (s:List D),aliveQ s x≠true→aliveQ (tkL s xs).2 x≠true:=by
          intro xs;induction xs with
          | nil=>intro s h;exact h
          | cons z xs ih =>
            intro s h;simp only [tkL];refine ih _ ?_
            -- a take makes no container
            intro hq; apply h;have step:∀ r:Nat,(match (tk s z).2[r]? with | some d=>d.cont.isSome | none=>false)=true→(match s[r]? with | some d=>d.cont.isSome | none=>false)=true:=by
              intro r hr;cases z with
              | tmp t =>
                simp only [tk,tkT] at hr;cases hs:s[t]? with
                | none=>simpa [hs] using hr
                | some d =>
                  simp only [hs] at hr;have hset:∀ s':List D,(∀ k:Nat,((s'[k]?).map fun d:D=>d.cont.isSome)=((s[k]?).map fun d:D=>d.cont.isSome))→(match (s'.set t .undef)[r]? with | some d=>d.cont.isSome | none=>false)=true→(match s[r]? with | some d=>d.cont.isSome | none=>false)=true:=by
                    intro s' hs' hr;by_cases hrt:t=r
                    · subst hrt;cases hk:(s'.set t .undef)[t]? with
                      | none=>simp [hk] at hr
                      | some d1=>have:d1=.undef:=(by have:=List.mem_of_getElem? hk;rw [List.getElem?_set_self'] at hk;cases hq0:s'[t]? <;> simp [hq0] at hk;exact hk.symm);simp [hk,this,D.cont] at hr
                    · rw [List.getElem?_set_ne hrt] at hr;have:=hs' r;cases h1:s'[r]? <;> cases h2:s[r]? <;> simp_all
                  have gen:(match (if d.owny then s.set t .undef else s)[r]? with | some d=>d.cont.isSome | none=>false)=true→(match s[r]? with | some d=>d.cont.isSome | none=>false)=true:=by
                    intro hr;by_cases ho:d.owny=true
                    · rw [if_pos ho] at hr;exact hset s (fun _=>rfl) hr
                    · rw [if_neg ho] at hr;exact hr
                  cases d with
                  | sl own sz rows =>
                    cases own with
                    | true =>
                      refine hset _ (fun k=>?_) hr;rw [pruneL_get];cases hk:s[k]? with
                      | none=>rfl
                      | some e =>
                        simp only [Option.map_some,Option.some.injEq];cases e with
                        | sl own sz rows=>simp [D.prune]
                        | box tag cells=>simp [D.prune,D.cont]
                        | ref r p=>simp only [D.prune];split<;>rfl
                        | ptr r p i j=>simp only [D.prune];split<;>rfl
                        | sub r p i n=>simp only [D.prune];split<;>rfl
                        | _=>simp [D.prune,D.cont]
                    | false=>exact gen hr
                  | mp k e =>
                    refine hset _ (fun k=>?_) hr;rw [pruneL_get];cases hk:s[k]? with
                    | none=>rfl
                    | some e =>
                      simp only [Option.map_some,Option.some.injEq];cases e with
                      | sl own sz rows=>simp [D.prune]
                      | box tag cells=>simp [D.prune,D.cont]
                      | ref r p=>simp only [D.prune];split<;>rfl
                      | ptr r p i j=>simp only [D.prune];split<;>rfl
                      | sub r p i n=>simp only [D.prune];split<;>rfl
                      | _=>simp [D.prune,D.cont]
                  | box tag cells=>exact hr
                  | _=>exact gen hr
              | _=>exact hr
            cases x with
            | ref r q=>exact step r hq
            | ptr r q i j=>exact step r hq
            | sub r q i n=>exact step r hq
            | _=>exact hq
        exact key xs _ hm hq
    exact tkL_ρ (tk_ρ h hmid) hq
theorem tk_undef {s:List D} {r:Nat} (hu:s[r]?=some .undef) (x:Operand):(tk s x).2[r]?=some .undef:=by
  cases x with
  | tmp t =>
    simp only [tk,tkT];have hset:∀ s':List D,s'[r]?=some .undef→(s'.set t .undef)[r]?=some .undef:=fun s' h=>by
      by_cases hr:r=t
      · subst hr;simp [(List.getElem?_eq_some_iff.1 h).1]
      · rw [List.getElem?_set_ne (Ne.symm hr)];exact h
    have hpr:(pruneL (notRoot t) s)[r]?=some .undef:=(by rw [pruneL_get,hu];simp [D.prune]);cases hs:s[t]? with
    | none=>exact hu
    | some d =>
      have gen:(if d.owny=true then s.set t .undef else s)[r]?=some .undef:=(by split;exact hset s hu;exact hu);cases d with
      | sl own sz rows=>cases own with
        | true=>exact hset _ hpr
        | false=>exact gen
      | mp k e=>exact hset _ hpr
      | box tag cells=>exact hu
      | _=>exact gen
  | _=>exact hu
theorem tkL_T:∀ (xs:List Operand) {s:List D} {Fs:Nat→List Nat},RelI w0 I0 s a.tmps w I Fs→∃ Fs' G,RelI w0 I0 (tkL s xs).2 a.tmps w I Fs'∧Vals I w (tkL s xs).1 (ρS (tkL s xs).2 a.tmps w) (xs.map a.eval) G∧Fresh w0 w I Fs' G∧(∀ r b,b∈Fs' r→b∈Fs r)∧(∀ b,b∈G→∃ r,b∈Fs r)∧∀ r,(s[r]?=some .undef→(tkL s xs).2[r]?=some .undef)∧((tkL s xs).2[r]?=some .undef∨Fs' r=Fs r)
  | [],s,Fs,h=>⟨Fs,[],h,by simp [tkL,Vals],Fresh.nil,fun _ _ h=>h,(fun _ h=>by cases h),fun _=>⟨id,.inr rfl⟩⟩
  | x :: xs,s,Fs,h=>by
    obtain ⟨Fs1,F,h1,hT,hF,hsub⟩:=tk_T h x;obtain ⟨hsub,hin,hst⟩:=hsub;obtain ⟨Fs2,G,h2,hV,hG,hsub2,hin2,hst2⟩:=tkL_T xs h1;refine ⟨Fs2,F++G,h2,?_,⟨List.nodup_append.2 ⟨hF.1,hG.1,fun x hx y hy hxy=>?_⟩,fun b hb=>?_⟩,fun r b hb=>hsub r b (hsub2 r b hb),fun b hb=>?_,fun r=>⟨fun hu=>(hst2 r).1 (tk_undef hu x),(hst2 r).2.elim .inl (fun e=>(hst r).elim (fun hu=>.inl ((hst2 r).1 hu)) (fun e1=>.inr (e.trans e1)))⟩⟩
    · simp only [tkL,List.map_cons,Vals];exact ⟨a.eval x,xs.map a.eval,F,G,rfl,rfl,T.turn (q:=aliveQ (tkL (tk s x).2 xs).2) (fun y v hq hy=>tkL_ρ hy hq) _ hT,hV⟩
    · subst hxy;obtain ⟨r,hr⟩:=hin2 x hy;exact (hF.2 x hx).2.2.2 r hr
    · rcases List.mem_append.1 hb with hb | hb
      · exact ⟨(hF.2 b hb).1,(hF.2 b hb).2.1,(hF.2 b hb).2.2.1,fun r hr=>(hF.2 b hb).2.2.2 r (hsub2 r b hr)⟩
      · exact hG.2 b hb
    · rcases List.mem_append.1 hb with hb | hb
      · exact hin b hb
      · obtain ⟨r,hr⟩:=hin2 b hb;exact ⟨r,hsub r b hr⟩
end
end Go.V
namespace Go.V
open Go.RowKit
section
variable {P:Program} {w0:Base} {I0:Nat→Prop} {s:List D} {a:Act} {w:World} {I:Nat→Prop} {Fs:Nat→List Nat} {K:D→List D→Prop} {Ctr:CtrT} {nn:Bool}
theorem leaf_T {d:D}(hd:d.leaf=true){ρ ρ':D→Value→Prop}{u:Value}{F:List Nat}(h:T I w d ρ u F):T I w d ρ' u F:=by cases d<;>first | (simp [D.leaf] at hd;done) | simpa only [T] using h
def refLike (x:D):Prop:=(∃ r q,x=.ref r q)∨∃ r q i n,x=.sub r q i n
theorem resC_leaf:∀ (ds:List D) {s:List D} {KK:List D→List D→Prop},resC s ds KK→∀ x,x∈ds→refLike x∨x.leaf=true
  | [],_,_,_,x,hx=>by cases hx
  | d :: ds,s,KK,hk,x,hx=>by
    by_cases hd:∃ r q,d=.ref r q
    · obtain ⟨r,q,rfl⟩:=hd;rcases List.mem_cons.1 hx with rfl | hx
      · exact .inl (.inl ⟨r,q,rfl⟩)
      · simp only [resC,stealK] at hk;split at hk
        · split at hk
          · exact resC_leaf ds hk x hx
          · exact resC_leaf ds hk x hx
          · exact hk.elim
        · exact hk.elim
    · by_cases hs:∃ r q i n,d=.sub r q i n
      · obtain ⟨r,q,i,n,rfl⟩:=hs;simp only [resC,stealK] at hk;rcases List.mem_cons.1 hx with rfl | hx
        · exact .inl (.inr ⟨r,q,i,n,rfl⟩)
        rcases hk with ⟨hn,hk⟩ | ⟨hn,_,sz,hk⟩
        · split at hk
          · split at hk
            · exact resC_leaf ds hk.2 x hx
            · exact hk.elim
            · exact hk.elim
          · exact hk.elim
        · exact resC_leaf ds hk x hx
      · have hk':d.leaf=true∧resC s ds (fun ds' s''=>KK (d::ds') s''):=by cases d<;>first | exact absurd ⟨_,_,rfl⟩ hd | exact absurd ⟨_,_,_,_,rfl⟩ hs | simpa only [resC] using hk
        rcases List.mem_cons.1 hx with rfl | hx
        · exact .inr hk'.1
        · exact resC_leaf ds hk'.2 x hx
theorem Cells.leafs {ρ ρ':D→Value→Prop}:∀ (ds:List D) {us:List Value} {F:List Nat},Cells I w ds ρ us F→(∀ x,x∈ds→refLike x∨x.leaf=true)→(∀ x,x∈ds→refLike x→∀ v,ρ x v→ρ' x v)→Cells I w ds ρ' us F
  | [],us,F,h,_,_=>by simpa only [Cells] using h
  | d::ds,us,F,h,hl,hρ=>by
    simp only [Cells] at h ⊢;obtain ⟨u,us',F1,F2,e,hF,ho,ht,h2⟩:=h;refine ⟨u,us',F1,F2,e,hF,ho,?_,Cells.leafs ds h2 (fun x hx=>hl x (by simp [hx])) (fun x hx=>hρ x (by simp [hx]))⟩;rcases hl d (by simp) with (⟨r,q,rfl⟩ | ⟨r,q,i,n,rfl⟩) | hd
    · simp only [T] at ht ⊢;exact ⟨hρ _ (by simp) (.inl ⟨r,q,rfl⟩) u ht.1,ht.2⟩
    · simp only [T] at ht ⊢;exact ⟨ht.1.imp_left (hρ _ (by simp) (.inr ⟨r,q,i,n,rfl⟩) u),ht.2⟩
    · exact leaf_T hd ht
theorem resC_T:∀ (ds:List D) {s:List D} {Fs:Nat→List Nat} {us:List Value} {F:List Nat} {KK:List D→List D→Prop},RelI w0 I0 s a.tmps w I Fs→Cells I w ds (ρS s a.tmps w) us F→Fresh w0 w I Fs F→refsOK ds=true→resC s ds KK →
    ∃ ds' s' Fs' F',KK ds' s'∧RelI w0 I0 s' a.tmps w I Fs'∧Cells I w ds' nil us F'∧Fresh w0 w I Fs' F'∧(∀ r b,b∈Fs' r→b∈Fs r)∧(∀ b,b∈F'→b∈F∨∃ r,b∈Fs r)∧∀ x v,ds.all (notThr x)=true→ρS s a.tmps w x v→ρS s' a.tmps w x v
  | [],s,Fs,us,F,KK,h,hc,hF,_,hk=>⟨[],s,Fs,F,hk,h,by simpa only [Cells] using hc,hF,fun _ _ h=>h,fun b hb=>.inl hb,fun _ _ _ h=>h⟩
  | d :: ds,s, Fs,us,F,KK,h,hc,hF,hro,hk=>by
    simp only [Cells] at hc;obtain ⟨u,us',F1,F2,e,hFe,hone,hT,hcs⟩:=hc;subst hFe;have hF1:Fresh w0 w I Fs F1:=⟨(List.nodup_append.1 hF.1).1,fun b hb=>hF.2 b (by simp [hb])⟩
    have hF2:Fresh w0 w I Fs F2:=⟨(List.nodup_append.1 hF.1).2.1,fun b hb=>hF.2 b (by simp [hb])⟩
    have hd12:=(List.nodup_append.1 hF.1).2.2;by_cases hs:∃ r q i n,d=.sub r q i n
    · obtain ⟨r,q,i,n,rfl⟩:=hs;simp only [resC] at hk;simp only [T] at hT;obtain ⟨hT,rfl⟩:=hT;rcases hk with ⟨hn0,hk⟩ | ⟨rfl,hi0,sz,hk⟩
      rotate_left
      · simp only [refsOK,Bool.and_eq_true,List.all_eq_true] at hro;obtain ⟨ds',s2,Fs2,F',hk2,h2,hc2,hF',hsub2,hin2,hρ2⟩:=resC_T ds h hcs hF2 hro.2 hk;have hsl:∃ a' c',u=.slice a' 0 c'∧c'≤maxLen:=by
          rcases hT with hT | ⟨_,h⟩
          · obtain ⟨d0,u0,t0,sz0,rows0,u1,b0,o0,cc,n1,n2,n3,n4,n5,n6,n7,n8,n9,n10⟩:=hT;exact ⟨_,_,n9,n8⟩
          · obtain ⟨a',c',k1,k2,_⟩:=h;exact ⟨a',c',k1,k2⟩
        obtain ⟨a',c',hu,hc'⟩:=hsl;refine ⟨.sl false sz []::ds',s2,Fs2,F',hk2,h2,?_,hF',hsub2,fun b hb=>?_,fun x v hq hx=>by
          simp only [List.all_cons,Bool.and_eq_true] at hq;exact hρ2 x v hq.2 hx⟩
        · simp only [Cells];exact ⟨u,us',[],F',e,rfl,hone,by simp only [T];exact ⟨a',c',hu,Nat.zero_le _,hc',by simp⟩,hc2⟩
        · rcases hin2 b hb with h | h
          · exact .inl (by simpa using h)
          · exact .inr h
      simp only [refsOK,Bool.and_eq_true,List.all_eq_true] at hro;obtain ⟨d0,u0,sz0,rows1,u1,n1,n2,n3,n5⟩:∃ d0 u0 sz0 rows1 u1,s[r]?=some d0∧a.tmps[r]?=some u0∧treeAt d0 q=some (.sl true sz0 rows1)∧valAt w u0 d0 q=some u1:=by
        simp only [stealK] at hk;cases hsr:s[r]? with
        | none=>rw [hsr] at hk;exact hk.elim
        | some d0 =>
          rw [hsr] at hk;simp only at hk;cases htr:treeAt d0 q with
          | none=>rw [htr] at hk;exact hk.elim
          | some t =>
            rw [htr] at hk;have ht:∃ sz0 rows1,t=.sl true sz0 rows1:=by
              cases t with
              | sl own sz rows=>cases own with
                | true=>exact ⟨_,_,rfl⟩
                | false=>exact hk.elim
              | mp k e=>exact hk.elim
              | _=>exact hk.elim
            obtain ⟨sz0,rows1,rfl⟩:=ht;have hlt:r<s.length:=(List.getElem?_eq_some_iff.1 hsr).1;have hlt2:r<a.tmps.size:=(by rw [h.len];exact hlt);have hu:a.tmps[r]?=some (a.tmps[r]'hlt2):=Array.getElem?_eq_getElem hlt2;obtain ⟨u1,_,_,k1,_⟩:=val_T q d0 (h.slot r d0 _ hsr hu) htr;exact ⟨d0,_,sz0,rows1,u1,rfl,hu,htr,k1⟩
      have hown:(D.sl true sz0 rows1).ownv=true:=rfl;obtain ⟨t,s1,Fs1,G,hto,hk1,h1,hT1,hG,hsub1,hin1,hρ1⟩:=steal_T (u:=u1) h ⟨d0,u0,_,n1,n2,n3,hown,n5⟩ (KK:=fun d' s'=>d'=.sl true sz0 rows1∧(i+n≤rows1.length∧resC s' ds (fun ds' s''=>KK (.sl true sz0 ((rows1.drop i).take n)::ds') s''))) (by
        simp only [stealK,n1,n3] at hk ⊢;exact ⟨trivial,hk⟩)
      obtain ⟨rfl,hk1⟩:=hk1;obtain ⟨hnl,hk1⟩:=hk1;have hT3':∃ F',T I w (.sl true sz0 ((rows1.drop i).take n)) nil u F'∧F'.Sublist G:=by
        rcases hT with ⟨d0',u0',t0',sz0',rows0',u1',b0,o0,cc,m1,m2,m3,n4,m5,n6,n7,n8,n9,n10⟩ | ⟨rfl,a',c',hu,hc',hi'⟩
        · rw [n1] at m1;cases m1;rw [n2] at m2;cases m2;rw [n3] at m3;cases m3;rw [n5] at m5;cases m5;simp only [D.cont,Option.some.injEq,Prod.mk.injEq] at n4;obtain ⟨rfl,_⟩:=n4;exact own_take (u:=u) hT1 n6 hnl n7 n8 n9 n10
        · obtain ⟨rfl,rfl⟩:=hi' (hn0.resolve_left (by omega));exact ⟨[],by rw [hu,List.take_zero];simp only [T];exact ⟨none,0,rfl,Nat.le_refl _,Nat.zero_le _,.inr ⟨trivial,.inl ⟨rfl,rfl,trivial⟩⟩⟩,List.nil_sublist _⟩
      obtain ⟨G3,hT3,hs3⟩:=hT3';have hG3:Fresh w0 w I Fs1 G3:=⟨hs3.nodup hG.1,fun b hb=>hG.2 b (hs3.subset hb)⟩
      have hin3:∀ b,b∈G3→∃ r,b∈Fs r:=fun b hb=>hin1 b (hs3.subset hb);have hcs1:Cells I w ds (ρS s1 a.tmps w) us' F2:=Cells.leafs ds hcs (resC_leaf ds hk1) (fun x hx _ v hv=>hρ1 x v (hro.1 x hx) hv);obtain ⟨ds',s2,Fs2,F',hk2,h2,hc2,hF',hsub2,hin2,hρ2⟩:=resC_T ds h1 hcs1 (hF2.sub hsub1) hro.2 hk1;refine ⟨.sl true sz0 ((rows1.drop i).take n)::ds',s2,Fs2,G3++F',hk2,h2,?_,⟨List.nodup_append.2 ⟨hG3.1,hF'.1,fun x hx y hy hxy=>?_⟩,fun b hb=>?_⟩,fun r' b hb=>hsub1 r' b (hsub2 r' b hb),fun b hb=>?_,fun x v hq hx=>by
        simp only [List.all_cons,Bool.and_eq_true] at hq;exact hρ2 x v hq.2 (hρ1 x v hq.1 hx)⟩
      · simp only [Cells];exact ⟨u,us',G3,F',e,rfl,hone,hT3,hc2⟩
      · subst hxy;rcases hin2 x hy with hy | ⟨r',hr⟩
        · obtain ⟨r',hr⟩:=hin3 x hx;exact (hF2.2 x hy).2.2.2 r' hr
        · exact (hG3.2 x hx).2.2.2 r' hr
      · rcases List.mem_append.1 hb with hb | hb
        · exact ⟨(hG3.2 b hb).1,(hG3.2 b hb).2.1,(hG3.2 b hb).2.2.1,fun r' hr=>(hG3.2 b hb).2.2.2 r' (hsub2 r' b hr)⟩
        · exact hF'.2 b hb
      · rcases List.mem_append.1 hb with hb | hb
        · exact .inr (hin3 b hb)
        · rcases hin2 b hb with hb | ⟨r',hr⟩
          · exact .inl (by simp [hb])
          · exact .inr ⟨r',hsub1 r' b hr⟩
    by_cases hd:∃ r q,d=.ref r q
    · obtain ⟨r,q,rfl⟩:=hd;simp only [T] at hT;obtain ⟨hρ,rfl⟩:=hT;simp only [resC] at hk;simp only [refsOK,Bool.and_eq_true,List.all_eq_true] at hro;obtain ⟨t,s1,Fs1,G,hto,hk1,h1,hT1,hG,hsub1,hin1,hρ1⟩:=steal_T h hρ hk;have hcs1:Cells I w ds (ρS s1 a.tmps w) us' F2:=Cells.leafs ds hcs (resC_leaf ds hk1) (fun x hx _ v hv=>hρ1 x v (hro.1 x hx) hv);obtain ⟨ds',s2,Fs2,F',hk2,h2,hc2,hF',hsub2,hin2,hρ2⟩:=resC_T ds h1 hcs1 (hF2.sub hsub1) hro.2 hk1;refine ⟨t::ds',s2,Fs2,G++F',hk2,h2,?_,⟨List.nodup_append.2 ⟨hG.1,hF'.1,fun x hx y hy hxy=>?_⟩,fun b hb=>?_⟩,fun r' b hb=>hsub1 r' b (hsub2 r' b hb),fun b hb=>?_,fun x v hq hx=>by
        simp only [List.all_cons,Bool.and_eq_true] at hq;exact hρ2 x v hq.2 (hρ1 x v hq.1 hx)⟩
      · simp only [Cells];exact ⟨u,us',G,F',e,rfl,hone,hT1,hc2⟩
      · subst hxy;rcases hin2 x hy with hy | ⟨r',hr⟩
        · obtain ⟨r',hr⟩:=hin1 x hx;exact (hF2.2 x hy).2.2.2 r' hr
        · exact (hG.2 x hx).2.2.2 r' hr
      · rcases List.mem_append.1 hb with hb | hb
        · exact ⟨(hG.2 b hb).1,(hG.2 b hb).2.1,(hG.2 b hb).2.2.1,fun r' hr=>(hG.2 b hb).2.2.2 r' (hsub2 r' b hr)⟩
        · exact hF'.2 b hb
      · rcases List.mem_append.1 hb with hb | hb
        · exact .inr (hin1 b hb)
        · rcases hin2 b hb with hb | ⟨r',hr⟩
          · exact .inl (by simp [hb])
          · exact .inr ⟨r',hsub1 r' b hr⟩
    · have hk':d.leaf=true∧resC s ds (fun ds' s''=>KK (d::ds') s''):=by cases d<;>first | exact absurd ⟨_,_,rfl⟩ hd | exact absurd ⟨_,_,_,_,rfl⟩ hs | simpa only [resC] using hk
      have hro':refsOK ds=true:=by cases d<;>first | exact absurd ⟨_,_,rfl⟩ hd | exact absurd ⟨_,_,_,_,rfl⟩ hs | simpa only [refsOK] using hro
      obtain ⟨ds',s2,Fs2,F',hk2,h2,hc2,hF',hsub2,hin2,hρ2⟩:=resC_T ds h hcs hF2 hro' hk'.2;refine ⟨d::ds',s2,Fs2,F1++F',hk2,h2,?_,⟨List.nodup_append.2 ⟨hF1.1,hF'.1,fun x hx y hy hxy=>?_⟩,fun b hb=>?_⟩,hsub2,fun b hb=>?_,fun x v hq hx=>by
        simp only [List.all_cons,Bool.and_eq_true] at hq;exact hρ2 x v hq.2 hx⟩
      · simp only [Cells];exact ⟨u,us',F1,F',e,rfl,hone,leaf_T hk'.1 hT,hc2⟩
      · subst hxy;rcases hin2 x hy with hy | ⟨r',hr⟩
        · exact hd12 x hx x hy rfl
        · exact (hF1.2 x hx).2.2.2 r' hr
      · rcases List.mem_append.1 hb with hb | hb
        · exact ⟨(hF1.2 b hb).1,(hF1.2 b hb).2.1,(hF1.2 b hb).2.2.1,fun r' hr=>(hF1.2 b hb).2.2.2 r' (hsub2 r' b hr)⟩
        · exact hF'.2 b hb
      · rcases List.mem_append.1 hb with hb | hb
        · exact .inl (by simp [hb])
        · rcases hin2 b hb with hb | hr
          · exact .inl (by simp [hb])
          · exact .inr hr
end
end Go.V
namespace Go.V
open Go.RowKit
section
variable {P:Program} {w0:Base} {I0:Nat→Prop} {s:List D} {a:Act} {w:World} {I:Nat→Prop} {Fs:Nat→List Nat} {K:D→List D→Prop} {Ctr:CtrT} {nn:Bool}
theorem Cells.append {ρ:D→Value→Prop}:∀ {ds:List D} {us:List Value} {F:List Nat} {ds':List D} {us':List Value} {F':List Nat},Cells I w ds ρ us F→Cells I w ds' ρ us' F'→Cells I w (ds++ds') ρ (us++us') (F++F')
  | [],us,F,ds',us',F',h,h'=>by simp only [Cells] at h;simpa [h.1,h.2] using h'
  | d::ds,us,F,ds',us',F',h,h'=>by simp only [Cells] at h;obtain ⟨u,us1,F1,F2,e,hF,ho,ht,h2⟩:=h;simp only [List.cons_append,Cells];exact ⟨u,us1++us',F1,F2++F',by simp [e],by simp [hF],ho,ht,Cells.append h2 h'⟩
theorem flat_T (h:RelI w0 I0 s a.tmps w I Fs){sz:Nat}:∀ (ds:List D) {us:List Value} {G:List Nat},Vals I w ds (ρS s a.tmps w) us G→ds.all (fun d=>d.okCells&&d.cells.length==sz)=true→Cells I w (ds.flatMap D.cells) (ρS s a.tmps w) (us.flatMap fun u=>u.cells.toList) G∧∀ u,u∈us→u.cells.size=sz
  | [],us,G,hv,_=>by simp only [Vals] at hv;simp [hv.1,hv.2,Cells]
  | d::ds,us,G,hv,ho=>by
    simp only [Vals] at hv;obtain ⟨u,us',F1,F2,e,hG,hT,h2⟩:=hv;simp only [List.all_cons,Bool.and_eq_true,beq_iff_eq] at ho;have hc:=cells_T h hT ho.1.1;obtain ⟨i1,i2⟩:=flat_T h ds h2 ho.2;subst e;subst hG;refine ⟨by simp only [List.flatMap_cons];exact hc.append i1,fun v hv=>?_⟩;rcases List.mem_cons.1 hv with rfl | hv
    · have:=hc.len;simp at this;omega
    · exact i2 v hv
theorem Cells.split {ρ:D→Value→Prop}:∀ (n:Nat) {ds:List D} {us:List Value} {F:List Nat},Cells I w ds ρ us F→∃ F1 F2,F=F1++F2∧Cells I w (ds.take n) ρ (us.take n) F1∧Cells I w (ds.drop n) ρ (us.drop n) F2
  | 0,ds,us,F,h=>⟨[],F,rfl,by simp [Cells],by simpa using h⟩
  | n+1,[],us,F,h=>by simp only [Cells] at h;exact ⟨[],[],by simp [h.2],by simp [Cells,h.1],by simp [Cells,h.1]⟩
  | n+1,d::ds,us,F,h=>by simp only [Cells] at h;obtain ⟨u,us1,F1,F2,e,hF,ho,ht,h2⟩:=h;obtain ⟨G1,G2,hG,k1,k2⟩:=Cells.split n h2;refine ⟨F1++G1,G2,by simp [hF,hG],?_,by simpa [e] using k2⟩;simp only [e,List.take_succ_cons,Cells];exact ⟨u,_,F1,G1,rfl,rfl,ho,ht,k1⟩
theorem chunk_T (sz:Nat):∀ (n:Nat) {ds:List D} {us:List Value} {F:List Nat},Cells I w ds nil us F→ds.length=n*sz→Rows I w sz (chunk sz n ds) us F
  | 0,ds,us,F,h,hl=>by have:ds=[]:=List.eq_nil_of_length_eq_zero (by simpa using hl);subst this;simp only [Cells] at h;simpa [chunk,Rows] using h
  | n+1,ds,us,F,h,hl=>by obtain ⟨F1,F2,hF,k1,k2⟩:=Cells.split sz h;have hul:=h.len;rw [Nat.add_mul,Nat.one_mul] at hl;simp only [chunk,Rows];exact ⟨us.take sz,us.drop sz,F1,F2,by simp,hF,by simp;omega,k1,chunk_T sz n k2 (by simp;omega)⟩
theorem chunk_len (sz:Nat):∀ (n:Nat) (ds:List D),(chunk sz n ds).length=n
  | 0,_=>rfl
  | n+1,ds=>by simp [chunk,chunk_len sz n]
theorem new_row (h:RelI w0 I0 s a.tmps w I Fs){sz:Nat}{rows:List (List D)}{cs:Array Value}{raw:List Value}{F:List Nat}(t:TypeId)(c:Nat)(hR:Rows I w sz rows raw F)(hraw:∀ (j:Nat) (v:Value),raw[j]?=some v→cs[j]?=some v)(hc1:rows.length≤c)(hc2:c≤maxLen)(hc3:c*sz≤cs.size)(hF:Fresh w0 w I Fs F)(hK:K (.sl true sz rows) s){w1:World}(hb0:Below w.heap.size w w1)(hh:w1.heap=w.heap){Fs0:Nat→List Nat}(hin:nn=true→∀ b,b∈F→∃ r,b∈Fs0 r)(hst:nn=true→∀ r,s[r]?=some .undef∨Fs r=Fs0 r) :
    OutOK nn Fs0 I w w0 I0 a.tmps K (.slice (some ⟨w.heap.size,0,none⟩) rows.length c) (w1.alloc (.cells cs t)):=by
  have hb:Below w.heap.size w (w1.alloc (.cells cs t)):=hb0.alloc (by rw [hh];exact Nat.le_refl _) _;have h':=h.world hb;have hnew:(w1.alloc (.cells cs t)).heap[w.heap.size]?=some (.cells cs t (0,0)):=(by show (w1.heap.push _)[w.heap.size]?=_;rw [hh];simp);have hsize:(w1.alloc (.cells cs t)).heap.size=w.heap.size+1:=(by show (w1.heap.push _).size=_;rw [hh];simp);refine ⟨_,s,I,Fs,w.heap.size::F,hK,h',?_,?_,fun hn=>Frame.below hb (fun b hb'=>(List.mem_cons.1 hb').elim (fun h=>.inl (by omega)) (fun h=>.inr (hin hn b h))) (hst hn)⟩
  · simp only [T];refine ⟨_,c,rfl,hc1,hc2,.inr ⟨trivial,.inr ⟨w.heap.size,0,cs,t,raw,F,rfl,hnew,by omega,fun j x hj=>?_,rfl,hR.keep sz _ (fun b hb'=>hb.block b ?_)⟩⟩⟩
    · rw [cell_row hnew,Nat.zero_add];exact hraw j x hj
    · rcases hb' with hb' | hb'
      · exact h.imm b hb'
      · exact (hF.2 b hb').2.1
  · refine ⟨List.nodup_cons.2 ⟨fun hm=>Nat.lt_irrefl _ (hF.2 _ hm).2.1,hF.1⟩,fun b hb'=>?_⟩;rw [hsize];rcases List.mem_cons.1 hb' with rfl | hb'
    · exact ⟨Base.N_of h.below (Nat.le_refl _),by omega,fun hI=>Nat.lt_irrefl _ (h.imm _ hI),fun r hr=>Nat.lt_irrefl _ (h.own r _ hr).2.1⟩
    · have:=hF.2 b hb';exact ⟨this.1,by omega,this.2.2⟩
theorem bsl_core {Fs0:Nat→List Nat}{s2:List D}{Fs2:Nat→List Nat}(h2:RelI w0 I0 s2 a.tmps w I Fs2){sz:Nat}{xs:List Operand}{t e:TypeId}{ie:TypeInfo}{z:Value}{parts:Array (Nat×Operand)}{o:Oper}(ho:o.op=.buildSlice t xs.length parts)(hp:parts.toList=xs.zipIdx.map fun x=>(x.2,x.1))(hu:P.underlying t=some (.slice e))(hie:P.info? e=some ie)(hz:ie.zero=some z)(hsz:ie.size=sz)(hpos:0<sz)(hsmall:xs.length*sz≤2 ^ 24)
    {cs':List D} {F':List Nat} (hC2:Cells I w cs' nil ((xs.map a.eval).flatMap fun u=>u.cells.toList) F') (hsize:∀ u,u∈xs.map a.eval→u.cells.size=sz) (hF':Fresh w0 w I Fs2 F') (hK:K (.sl true sz (chunk sz xs.length cs')) s2) (hin:nn=true→∀ b,b∈F'→∃ r,b∈Fs0 r) (hst:nn=true→∀ r,s2[r]?=some .undef∨Fs2 r=Fs0 r):RunsTo P (execOp a.eval o) w (OutOK nn Fs0 I w w0 I0 a.tmps K):=by
  have hcl:cs'.length=xs.length*sz:=by
    have:=hC2.len;rw [← this];have hfl:∀ (us:List Value),(∀ u,u∈us→u.cells.size=sz)→(us.flatMap fun u=>u.cells.toList).length=us.length*sz:=by
      intro us;induction us with
      | nil=>intro _;simp
      | cons u us ih=>intro hh;rw [List.flatMap_cons,List.length_append,ih (fun v hv=>hh v (by simp [hv]))];have:=hh u (by simp);simp [this,Nat.add_mul,Nat.add_comm]
    rw [hfl _ hsize];simp
  have hR:=chunk_T sz xs.length hC2 hcl;have hrows:(chunk sz xs.length cs').length=xs.length:=chunk_len _ _ _;have hmap:((parts.map fun (i,x)=>(i,a.eval x)).toList)=((xs.map a.eval).zipIdx 0).map fun x=>(x.2,x.1):=(by rw [Array.toList_map,hp,List.map_map,List.zipIdx_map,List.map_map];rfl);have hmax:xs.length≤maxLen:=(by have:xs.length≤xs.length*sz:=Nat.le_mul_of_pos_right _ hpos;unfold maxLen;omega);by_cases h0:xs.length*sz=0
  · have hx0:xs=[]:=List.eq_nil_of_length_eq_zero (by
      rcases Nat.mul_eq_zero.1 h0 with h | h
      · exact h
      · omega)
    subst hx0;have hrun:(Instr.buildSlice t 0 (parts.map fun (i,x)=>(i,a.eval x))).run P w=.ok (.slice (some ⟨w.heap.size,0,none⟩) 0 0) (w.alloc (.cells #[] e)):=by have hp0:(parts.map fun (i,x)=>(i,a.eval x)).toList=[]:=(by rw [hmap];rfl);simp [Instr.buildSlice,run_underlying hu,sizeOf,typeInfo,hie,newRow];have:parts=#[]:=(by apply Array.ext';rw [hp];rfl);subst this;simp [Instr.fill,Array.range_zero']
    refine .value (v:=.slice (some ⟨w.heap.size,0,none⟩) (chunk sz 0 cs').length 0) (w':=w.alloc (.cells #[] e)) ?_ (new_row h2 e 0 hR (fun j v hj=>?_) (by simp [chunk_len]) (by unfold maxLen;omega) (by simp) hF' hK (Below.refl _ _) rfl hin hst)
    · simp only [execOp,ho,List.length_nil,Sem.run_bind,hrun,Result.andThen_ok,chunk_len];rfl
    · have:=hR.len;simp [chunk_len] at this;simp [this] at hj
  · have hfill:=Great.fill_whole hpos (xs.map a.eval) ((Array.range (xs.length*ie.size)).map (z.cells[· % z.cells.size]!)) (fun v hv=>hsize v hv) (by simp [hsz]);have hrun:=run_buildSlice (P:=P) w t e xs.length (parts.map fun (i,x)=>(i,a.eval x)) _ ie z hu hie hz (by rw [hsz];omega) (by rw [hsz];exact h0) (by rw [hmap,hsz];rw [hsz] at hfill;exact hfill);refine .value (v:=.slice (some ⟨w.heap.size,0,none⟩) (chunk sz xs.length cs').length xs.length) (w':=w.alloc (.cells _ e)) ?_ (new_row h2 e xs.length (cs:=((xs.map a.eval).flatMap fun v=>v.cells.toList).toArray) (raw:=(xs.map a.eval).flatMap fun v=>v.cells.toList) hR (fun j v hj=>by simpa using hj) (by rw [hrows];exact Nat.le_refl _) hmax ?_ hF' hK (Below.refl _ _) rfl hin hst)
    · simp only [execOp,ho,Sem.run_bind,hrun,Result.andThen_ok,hrows];rfl
    · rw [List.size_toArray,hC2.len,hcl];exact Nat.le_refl _
theorem sim_bsl (h:RelI w0 I0 s a.tmps w I Fs){sz:Nat}{xs:List Operand}{t e:TypeId}{ie:TypeInfo}{z:Value}{parts:Array (Nat×Operand)}{o:Oper}(ho:o.op=.buildSlice t xs.length parts)(hp:parts.toList=xs.zipIdx.map fun x=>(x.2,x.1))(hu:P.underlying t=some (.slice e))(hie:P.info? e=some ie)(hz:ie.zero=some z)(hsz:ie.size=sz)(hpos:0<sz)(hsmall:xs.length*sz≤2 ^ 24)
    (hk:evalK Ctr s (.bsl sz xs) K):RunsTo P (execOp a.eval o) w (OutOK false Fs I w w0 I0 a.tmps K):=by
  obtain ⟨hok,hro,hk⟩:=hk;obtain ⟨Fs1,G,h1,hV,hG,hsub1,hin1,_⟩:=tkL_T xs h;obtain ⟨hC,hsize⟩:=flat_T h1 _ hV hok;obtain ⟨cs',s2,Fs2,F',hK,h2,hC2,hF',hsub2,hin2,_⟩:=resC_T _ h1 hC hG hro hk;exact bsl_core h2 ho hp hu hie hz hsz hpos hsmall hC2 hsize hF' hK (fun h=>by cases h) (fun h=>by cases h)
theorem noRefs_prune:∀ (ds:List D),noRefs ds=true→pruneL (fun _=>false) ds=ds
  | [],_=>by simp [pruneL]
  | d::ds,h=>by cases d<;>simp only [noRefs,D.leaf,Bool.and_eq_true,Bool.false_eq_true,false_and,true_and] at h<;>simp [pruneL,D.prune,noRefs_prune ds h]
theorem sim_bslN (h:RelI w0 I0 s a.tmps w I Fs){sz:Nat}{xs:List Operand}{t e:TypeId}{ie:TypeInfo}{z:Value}{parts:Array (Nat×Operand)}{o:Oper}(ho:o.op=.buildSlice t xs.length parts)(hp:parts.toList=xs.zipIdx.map fun x=>(x.2,x.1))(hu:P.underlying t=some (.slice e))(hie:P.info? e=some ie)(hz:ie.zero=some z)(hsz:ie.size=sz)(hpos:0<sz)(hsmall:xs.length*sz≤2 ^ 24)
    (hk:evalK Ctr s (.bslN sz xs) K):RunsTo P (execOp a.eval o) w (OutOK nn Fs I w w0 I0 a.tmps K):=by
  obtain ⟨hok,hro,hK⟩:=hk;obtain ⟨Fs1,G,h1,hV,hG,hsub1,hin1,hst1⟩:=tkL_T xs h;obtain ⟨hC,hsize⟩:=flat_T h1 _ hV hok;have hC2:=Cells.turn (ρ':=nil) (q:=fun _=>false) (fun _ _ h _=>by cases h) _ hC;rw [noRefs_prune _ hro] at hC2;exact bsl_core h1 ho hp hu hie hz hsz hpos hsmall hC2 hsize hG hK (fun _=>hin1) (fun _ r=>(hst1 r).2)
end
end Go.V
