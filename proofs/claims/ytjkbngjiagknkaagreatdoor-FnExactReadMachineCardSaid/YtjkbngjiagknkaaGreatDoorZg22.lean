/- Laws that the proof stands on. -/
import Derived.Shelf.Strings.FieldsFuncAny
import Derived.Test.YtjkbngjiagknkaaGreatDoorZg5
import Derived.Test.YtjkbngjiagknkaaGreatDoorZVRdL
import Derived.Test.YtjkbngjiagknkaaGreatDoorZg16
import Derived.Test.YtjkbngjiagknkaaGreatDoorZVTab
import Derived.Test.YtjkbngjiagknkaaGreatDoorZg19
set_option linter.all false
namespace Go.Proofs.YtjkbngjiagknkaaGreatDoor
open Go.RowKit Go.V
attribute [local go_sem] List.getElem?_cons_succ List.getElem?_cons_zero List.set_cons_succ List.set_cons_zero List.map_cons List.map_nil List.length_cons List.length_nil List.all_cons List.all_nil List.drop_succ_cons List.drop_zero List.take_succ_cons List.take_zero List.flatMap_cons List.flatMap_nil List.cons_append List.nil_append List.append_nil List.headD_cons Value.oneCell' Bool.and_true Bool.true_and Bool.or_false Bool.false_or Bool.and_self Bool.not_true Bool.not_false and_true true_and beq_self_eq_true Bool.false_eq_true if_true if_false Nat.zero_add Nat.reduceAdd Nat.reduceMul Nat.reduceLeDiff Nat.le_refl Option.isSome_some Option.isSome_none not_true_eq_false not_false_eq_true ne_eq reduceCtorEq List.reverse_nil bne_self_eq_false Nat.reduceEqDiff List.isPrefixOf Bool.not_eq_true Bool.and_false Bool.false_and Bool.true_or Bool.or_true decide_true decide_false Nat.reduceBEq Nat.reduceBNe List.replicate_succ List.replicate_zero exists_eq_left' exists_eq_left Option.some.injEq or_false or_true true_or false_or Option.map_some Option.map_none mB Nat.reduceMod Nat.reduceDiv
set_option maxRecDepth 100000
def code_impl_SplitLines:VCode:=(.seq (.ops [
  ⟨(some 2),none,(.asg (.const (.slice none 0 0)))⟩]) (.seq (.ops [
  ⟨(some 3),none,(.alloc [(.slice none 0 0)])⟩]) (.seq (.seq (.ops [
  ⟨(some 5),none,(.mv (.tmp 0))⟩,
  ⟨(some 6),none,(.callX 69 [(.tmp 5)])⟩]) (.block 0 (.rangeF (.tmp 6) [7] (mB 13 8080) (.ops [
  ⟨(some 4),none,(.asg (.tmp 7))⟩]) (.block 1 (.draw (mB 12 3840) [false,false,false,false,false,false,false,false,false,false,true] [⟨0,(mB 12 3840),[],⟨(some 8),none,(.load 1 false (.tmp 3))⟩⟩,⟨1,(mB 12 3840),[],⟨(some 9),none,(.mv (.tmp 4))⟩⟩,⟨2,(mB 12 3328),[],⟨(some 10),none,(.call 70 [(.tmp 9),(.const (.string ⟨⟨[10]⟩⟩))])⟩⟩,⟨3,(mB 12 2304),[false,false,false,false,false,false,false,false,false,false,true],⟨(some 11),none,(.bslN 1 [(.tmp 10)])⟩⟩] [⟨(some 12),none,(.app 1 16 (.tmp 8) (.tmp 11))⟩,⟨none,none,(.store 1 (.tmp 3) (.tmp 12))⟩]))))) (.seq (.ops [
  ⟨(some 13),none,(.load 1 false (.tmp 3))⟩,
  ⟨(some 2),none,(.asg (.tmp 13))⟩]) .ret))))
theorem law_impl_SplitLines {a0 d:D} (h:code_impl_SplitLines.wp (CT Tryz.prog TabG) (endQ [(.t 2)] d) [a0,.undef,.undef,.undef,.undef,.undef,.undef,.undef,.undef,.undef,.undef,.undef,.undef,.undef]):Contract Tryz.prog TabG 34 [a0] d :=
  contract_ofR (pt:=0) tabG Tryz.func34 (fun us W=>by kernel_rfl) (c:=Tryz.f34.body.getD .skip) (ms:=[]) (ms':=[]) (by kernel_rfl) (by kernel_rfl) (by kernel_rfl) (by kernel_rfl) h
def code_impl_SplitWords:VCode:=(.seq (.ops [
  ⟨(some 2),none,(.asg (.const (.slice none 0 0)))⟩]) (.seq (.ops [
  ⟨(some 3),none,(.mv (.tmp 0))⟩,
  ⟨(some 4),none,(.callX 88 [(.tmp 3),(.func 89)])⟩,
  ⟨(some 2),none,(.asg (.tmp 4))⟩]) .ret))
theorem law_impl_SplitWords {a0 d:D} (h:code_impl_SplitWords.wp (CT Tryz.prog TabG) (endQ [(.t 2)] d) [a0,.undef,.undef,.undef,.undef]):Contract Tryz.prog TabG 58 [a0] d :=
  contract_of (pt:=0) tabG Tryz.func58 (fun us W=>by kernel_rfl) (c:=Tryz.f58.body.getD .skip) (ms:=[]) (ms':=[]) (by kernel_rfl) (by kernel_rfl) (by kernel_rfl) h
theorem pcsB_len (b:ByteArray):(pcsB b).length≤b.size+1:=by unfold pcsB;rw [List.length_map];exact lSp_len _ _ _
theorem pcsB_size {b y:ByteArray} (h:y∈pcsB b):y.size≤b.size:=by unfold pcsB at h;obtain ⟨p,_,rfl⟩:=List.mem_map.1 h;unfold pcB;rw [ByteArray.size_extract];omega
def lnI (b:ByteArray) (i:Nat):List ByteArray:=((pcsB b).take i).map fun x=>trimSuf x nl1
theorem lnI_all (b:ByteArray):lnI b (pcsB b).length=linesB b:=by unfold lnI;rw [List.take_length];exact trim_lines b
theorem lnI_next {b:ByteArray} {i:Nat} (h:i < (pcsB b).length):lnI b (i+1)=lnI b i++[trimSuf ((pcsB b)[i]'h) nl1]:=by unfold lnI;rw [List.take_succ,List.getElem?_eq_getElem h,List.map_append];rfl
theorem v_SplitLines (b:ByteArray) (hb:b.size≤1048576):Contract Tryz.prog TabG 34 [.v (.string b)] (.sl true 1 ((linesB b).map rS)):=by
  refine law_impl_SplitLines ?_;unfold code_impl_SplitLines;simp -implicitDefEqProofs (disch:=omega) only [go_sem,↓reduceIte];refine call_B (v_Lines b) (by simp -implicitDefEqProofs (disch:=omega) only [go_sem,↓reduceIte,deep,TD.rows,immLL_rI,immLL_rB8,immLL_rS,immLL_rBo,immLL_rII,immLL_rIIt];exact rfl) ?_;simp -implicitDefEqProofs (disch:=omega) only [go_sem,↓reduceIte];have hit:=it_Lines b hb;have hxs:(pcsB b).map (fun x=>[D.v (.string x)])=(List.range (pcsB b).length).map (fun i=>[D.v (.string ((pcsB b).getD i nl1))]):=by
    refine List.ext_getElem (by simp) (fun i h1 h2=>?_);have hi:i < (pcsB b).length:=by simpa using h1
    simp [List.getElem_map,List.getD_eq_getElem?_getD,hi]
  rw [hxs] at hit;have hpl:=pcsB_len b;refine range_ovO 6 (N:=(pcsB b).length) (by simp -implicitDefEqProofs (disch:=omega) only [go_sem,↓reduceIte];exact rfl) (by rfl) (fun i=>[D.v (.string ((pcsB b).getD i nl1))]) (hit) (fun _ _=>rfl) (by simp -implicitDefEqProofs (disch:=omega) only [go_sem,↓reduceIte];exact rfl) (fun i=>[(3,.box none [.sl true 1 ((lnI b i).map rS)])]) (fun _=>by simp only [ovr_nil,ovr_cons,List.set_cons_zero,List.set_cons_succ];exact rfl) (by rw [show lnI b 0=[] from rfl];(try simp -implicitDefEqProofs only [nleL_cc,nleL_nn,nle_self,nle_boxs,nle_aggs,nle_nils,and_self,and_true,true_and]) <;> repeat' (first | exact nle_of_eq rfl | exact nle_nil | apply And.intro | apply nle_sl | apply nleLL_cons | apply nleL_cons | exact nleL_nil | exact nleLL_nil | apply nle_box | apply nle_agg)) ?_ ?_
  · intro i hi;have hg:(pcsB b).getD i nl1=(pcsB b)[i]:=by rw [List.getD_eq_getElem?_getD,List.getElem?_eq_getElem hi];rfl
    have hsz:=pcsB_size (List.getElem_mem hi);have hT:=v_TrimSuffix (pcsB b)[i] nl1 (by omega) (by decide);have hnx:=lnI_next hi;have hsm:((lnI b i).map rS).length≤1048577:=(by unfold lnI;rw [List.length_map,List.length_map,List.length_take];omega);rw [hg];simp -implicitDefEqProofs (disch:=omega) only [go_sem,↓reduceIte];refine call_NB (hT) (by simp -implicitDefEqProofs (disch:=omega) only [go_sem,↓reduceIte,deep,TD.rows,immLL_rI,immLL_rB8,immLL_rS,immLL_rBo,immLL_rII,immLL_rIIt];exact rfl) ?_;simp -implicitDefEqProofs (disch:=omega) only [go_sem,↓reduceIte];refine ⟨by omega,_,?_,rfl⟩;rw [hnx,List.map_append]
    (try simp -implicitDefEqProofs only [nleL_cc,nleL_nn,nle_self,nle_boxs,nle_aggs,nle_nils,and_self,and_true,true_and]) <;> repeat' (first | exact nle_of_eq rfl | exact nle_nil | apply And.intro | apply nle_sl | apply nleLL_cons | apply nleL_cons | exact nleL_nil | exact nleLL_nil | apply nle_box | apply nle_agg)
  · have:=lnI_all b;simp -implicitDefEqProofs (disch:=omega) only [go_sem,↓reduceIte];rw [this]
theorem rows_S {I:Nat→Prop} {w:World}:∀ (ws:List ByteArray),Go.V.Rows I w 1 (ws.map rS) (ws.map Value.string) []
  | []=>by simp only [List.map_nil,Go.V.Rows];exact ⟨trivial,trivial⟩
  | x::ws=>by simp only [List.map_cons,Go.V.Rows];exact ⟨[.string x],ws.map Value.string,[],[],rfl,rfl,rfl,by simp only [rS,Cells,T];exact ⟨_,[],[],[],rfl,rfl,rfl,⟨rfl,rfl⟩,rfl,rfl⟩,rows_S ws⟩
theorem c_isBl (x:Nat) (W:World):Calls Tryz.prog 89 #[.int .i32 (x:Int)] W fun e w'=>e=.returned (.bool (isBl x))∧∃ q,w'=W.drewN q:=by have e:isBl x=((x:Int)==32):=(by unfold isBl;rw [Bool.eq_iff_iff,beq_iff_eq,beq_iff_eq];omega);rw [e];go_enter Tryz.func89,Tryz.ntmps89;go_wp2;go_ret;exact ⟨rfl,0,rfl⟩
theorem v_FieldsFunc (b:ByteArray) (hb:b.size≤1048576):Contract Tryz.prog TabG 88 [.v (.string b),.fn 89 [] []] (.sl true 1 ((wordsB b).map rS)):=by
  refine ⟨fun us W=>by kernel_rfl,fun w I us hG hI hV=>?_⟩;simp only [Vals,T] at hV;obtain ⟨_,_,_,_,rfl,_,⟨rfl,_⟩,_,_,_,_,rfl,_,⟨_,_,_,_,rfl,_,⟨rfl,_⟩,⟨rfl,_⟩⟩,rfl,_⟩:=hV;have hp:PredAtRunes Tryz.prog 89 #[] isBl w:=fun W x _ _=>by unfold FnGives;exact c_isBl x W
  have hA:=Any.strings_FieldsFunc_runes Tryz.lays229 89 #[] (fun args w=>by kernel_rfl) isBl b w (by omega) hp (by kernel_rfl) (by kernel_rfl);rw [goFields_words] at hA;refine hA.mono ?_;rintro e w' ⟨A,rfl,hA1,⟨_,hown⟩,hB⟩;rcases hown with ⟨h,_⟩ | ⟨g,cap,cur,h1,hg,hh,hc1,hc2,hsz,htk⟩
  · cases h
  · cases h1;have hAl:=(Array.getElem?_eq_some_iff.1 hh).1;refine ⟨_,[A],I,rfl,hB,?_,by simp,?_,fun b h=>h,fun b h=>⟨.inl h,Nat.lt_of_lt_of_le (hI b h) hB.size⟩⟩
    · simp only [T];refine ⟨some ⟨A,0,none⟩,(wordsB b).length,by rw [List.length_map],by rw [List.length_map];exact Nat.le_refl _,hc2,.inr ⟨trivial,.inr ⟨A,0,cur,_,(wordsB b).map Value.string,[],rfl,hh,by omega,fun k v hk=>?_,rfl,rows_S _⟩⟩⟩;rw [cell_row hh,Nat.zero_add];rw [← htk,List.getElem?_take] at hk;split at hk
      · rw [← Array.getElem?_toList];exact hk
      · cases hk
    · intro x hx;rw [List.mem_singleton.1 hx];exact ⟨hA1,hAl,fun h=>by have:=hI _ h;omega⟩
theorem v_SplitWords (b:ByteArray) (hb:b.size≤1048576):Contract Tryz.prog TabG 58 [.v (.string b)] (.sl true 1 ((wordsB b).map rS)):=by refine law_impl_SplitWords ?_;unfold code_impl_SplitWords;simp -implicitDefEqProofs (disch:=omega) only [go_sem,↓reduceIte];refine call_B (v_FieldsFunc b hb) (by simp -implicitDefEqProofs (disch:=omega) only [go_sem,↓reduceIte,deep,TD.rows,immLL_rI,immLL_rB8,immLL_rS,immLL_rBo,immLL_rII,immLL_rIIt];exact rfl) ?_;simp -implicitDefEqProofs (disch:=omega) only [go_sem,↓reduceIte]
def code_impl_readLines:VCode:=(.seq (.ops [
  ⟨(some 4),none,(.asg (.const .nilIface))⟩]) (.seq (.seq (.ops [
  ⟨(some 8),none,(.mv (.tmp 0))⟩,
  ⟨(some 9),none,(.callX 34 [(.tmp 8)])⟩,
  ⟨(some 10),none,(.len (.tmp 9))⟩,
  ⟨(some 11),none,(.mv (.const (.int .i64 0)))⟩]) (.block 0 (.loop (mB 28 268431869) (.seq (.ops [
  ⟨(some 12),none,(.bin .lss (.tmp 11) (.tmp 10))⟩]) (.seq (.cond (.tmp 12) .skip (.exit 0)) (.seq (.block 1 (.seq (.ops [
  ⟨(some 13),none,(.mv (.tmp 11))⟩,
  ⟨(some 14),none,(.ia 1 (.tmp 9) (.tmp 11))⟩,
  ⟨(some 15),none,(.load 1 false (.tmp 14))⟩,
  ⟨(some 5),none,(.asg (.tmp 13))⟩,
  ⟨(some 6),none,(.asg (.tmp 15))⟩]) (.seq (.ops [
  ⟨(some 16),none,(.mv (.tmp 1))⟩,
  ⟨(some 17),none,(.mv (.tmp 6))⟩,
  ⟨(some 18),none,(.callvX (.tmp 16) [(.tmp 17)])⟩,
  ⟨(some 7),none,(.asg (.tmp 18))⟩]) (.seq (.ops [
  ⟨(some 19),none,(.mv (.tmp 7))⟩,
  ⟨(some 20),none,(.bin .neq (.tmp 19) (.const (.int .i64 0)))⟩]) (.cond (.tmp 20) (.seq (.ops [
  ⟨(some 21),none,(.mv (.tmp 5))⟩,
  ⟨(some 22),none,(.bin .add (.tmp 21) (.const (.int .i64 1)))⟩,
  ⟨(some 23),none,(.mv (.tmp 7))⟩,
  ⟨(some 24),none,(.build [(.int .i64 0),(.int .i64 0)] [(0,1,(.tmp 22)),(1,1,(.tmp 23))])⟩,
  ⟨(some 25),none,(.box (.tmp 24))⟩,
  ⟨(some 26),none,(.mkif 89 (.tmp 25))⟩,
  ⟨(some 4),none,(.asg (.tmp 26))⟩]) .ret) .skip))))) (.ops [
  ⟨(some 27),none,(.bin .add (.tmp 11) (.const (.int .i64 1)))⟩,
  ⟨(some 11),none,(.mv (.tmp 27))⟩]))))))) (.seq (.ops [
  ⟨(some 4),none,(.asg (.const .nilIface))⟩]) .ret)))
theorem law_impl_readLines {a0 a1 d:D} {F0:FuncId} {cells cells':List D} (h:∀ b,code_impl_readLines.wp (CT Tryz.prog TabG) (endKK [(.t 4)] d 1 b cells') [a0,.fn F0 [.box (some b) cells] [],.undef,.undef,.undef,.undef,.undef,.undef,.undef,.undef,.undef,.undef,.undef,.undef,.undef,.undef,.undef,.undef,.undef,.undef,.undef,.undef,.undef,.undef,.undef,.undef,.undef,.undef]):ContractL Tryz.prog TabG 26 1 [a0,a1] (.fn F0 [.box none cells] []) d (.fn F0 [.box none cells'] []) :=
  contract_ofK (pt:=0) tabG Tryz.func26 (fun us W=>by kernel_rfl) (c:=Tryz.f26.body.getD .skip) (ms:=[(mB 28 268431869)]) (ms':=[]) (by kernel_rfl) (by kernel_rfl) (by kernel_rfl) (by simp) h
@[reducible] def bxF (b:Nat) (c:List D):D:=.box (some b) c
structure Rdr (α:Type) where
  F:FuncId
  cel:α→List D
  st:α→ByteArray→Int × α
  J:Nat→α→Prop
  pr:∀ (q:D→Bool) a,pruneL q (cel a)=cel a
  ni:∀ a,noImmL (cel a)=true
  law:∀ (i:Nat) (a:α) (l:ByteArray),i≤1048577→J i a→l.size≤1048576→ContractX Tryz.prog TabG F 0 [.undef,.v (.string l)] (cel a) (.v (.int .i64 (st a l).1)) (cel (st a l).2)
  next:∀ (i:Nat) (a:α) (l:ByteArray),J i a→(st a l).1=0→J (i+1) (st a l).2
def Rdr.go {α:Type} (R:Rdr α):List ByteArray→Nat→α→Option (Nat × Int) × α
  | [],_,a=>(none,a)
  | l::ls,i,a=>if (R.st a l).1=0 then R.go ls (i+1) (R.st a l).2 else (some (i+1,(R.st a l).1),(R.st a l).2)
def rdE (t:TypeId):Option (Nat × Int)→D
  | none=>.v .nilIface
  | some (k,c)=>.mp (.err t) [(.int .i64 (k:Int),.int .i64 c)]
set_option maxHeartbeats 2000000 in
theorem v_readLines {α:Type} (R:Rdr α) (b:ByteArray) (hb:b.size≤1048576) (a0:α) (h0:R.J 0 a0):ContractL Tryz.prog TabG 26 1 [.v (.string b),.undef] (.fn R.F [.box none (R.cel a0)] []) (rdE 89 (R.go (linesB b) 0 a0).1) (.fn R.F [.box none (R.cel (R.go (linesB b) 0 a0).2)] []):=by
  refine law_impl_readLines ?_;intro bb;unfold code_impl_readLines;have hL:=v_SplitLines b hb;have hll:=linesB_len b;have hsz:=fun x (hx:x∈linesB b)=>linesB_size hx;generalize linesB b=ls at hL hll hsz ⊢;have pr:=R.pr;simp -implicitDefEqProofs (disch:=omega) only [go_sem,↓reduceIte ,pr];refine call_B (hL) (by simp -implicitDefEqProofs (disch:=omega) only [go_sem,↓reduceIte,deep,TD.rows,immLL_rI,immLL_rB8,immLL_rS,immLL_rBo,immLL_rII,immLL_rIIt,pr];exact rfl) ?_;simp -implicitDefEqProofs (disch:=omega) only [go_sem,↓reduceIte ,pr];refine loop_ov (by simp -implicitDefEqProofs (disch:=omega) only [go_sem,↓reduceIte];exact rfl) (fun q:Nat × α=>[(1,.fn R.F [bxF bb (R.cel q.2)] []),(11,.v (.int .i64 (q.1:Nat)))]) (fun _=>by simp only [ovr_nil,ovr_cons,List.set_cons_zero,List.set_cons_succ];exact rfl) (fun q:Nat × α=>q.1≤ls.length∧R.go (ls.drop q.1) q.1 q.2=R.go ls 0 a0∧R.J q.1 q.2) (fun q:Nat × α=>ls.length - q.1) ((0,a0)) (by rw [pr];(try simp -implicitDefEqProofs only [nleL_cc,nleL_nn,nle_self,nle_boxs,nle_aggs,nle_nils,and_self,and_true,true_and]) <;> repeat' (first | exact nle_of_eq rfl | exact nle_nil | apply And.intro | apply nle_sl | apply nleLL_cons | apply nleL_cons | exact nleL_nil | exact nleLL_nil | apply nle_box | apply nle_agg)) (?_) ?_
  · exact ⟨Nat.zero_le _,rfl,h0⟩
  rintro ⟨i,a⟩ ⟨hi,hf,hJ⟩;simp only at hi hf hJ ⊢;simp -implicitDefEqProofs (disch:=omega) only [go_sem,↓reduceIte];refine cond_split ?_ ?_ <;> intro hlt
  · have hlt:i < ls.length:=(by simpa using hlt);have hltM:i < (ls.map rS).length:=(by rw [List.length_map];exact hlt);have e1:(ls.map rS)[i]?=some [D.v (.string ls[i])]:=(by rw [List.getElem?_map,List.getElem?_eq_getElem hlt];rfl);have hs1:=hsz _ (List.getElem_mem hlt);have hC:=R.law i a ls[i] (by omega) hJ (by omega);have hd:=(List.getElem_cons_drop hlt).symm;rw [hd] at hf;have hgo:R.go (ls[i]::ls.drop (i+1)) i a=if (R.st a ls[i]).1=0 then R.go (ls.drop (i+1)) (i+1) (R.st a ls[i]).2 else (some (i+1,(R.st a ls[i]).1),(R.st a ls[i]).2):=rfl
    rw [hgo] at hf;have hnx:=R.next i a ls[i] hJ;simp -implicitDefEqProofs (disch:=omega) only [go_sem,↓reduceIte ,pr,bxF,e1,Int.toNat_natCast,Int.natCast_nonneg];refine ⟨by omega,?_⟩;refine callv_keep (i:=0) (r:=1) (b:=bb) rfl hC rfl rfl rfl (R.pr _ a) rfl ?_ ⟨rfl,R.ni _⟩ ?_
    · exact leL_of_eq rfl
    by_cases hc:(R.st a ls[i]).1=0
    · rw [if_pos hc] at hf;have d1:decide ((R.st a ls[i]).1=0)=true:=decide_eq_true hc;simp -implicitDefEqProofs (disch:=omega) only [go_sem,↓reduceIte ,pr,d1,wrN];exact ⟨(i+1,(R.st a ls[i]).2),by show _ - (i+1) < _ - i;omega,⟨hlt,hf,hnx hc⟩,nleA⟩
    · rw [if_neg hc] at hf;have d1:decide ((R.st a ls[i]).1=0)=false:=decide_eq_false hc;rw [← hf];simp -implicitDefEqProofs (disch:=omega) only [go_sem,↓reduceIte ,pr,d1,wrN];exact ⟨le_of_eq rfl,leL_of_eq rfl⟩
  · have hie:i=ls.length:=(by have:¬ i < ls.length:=(by simpa using hlt);omega);rw [hie,List.drop_length] at hf;have hg:R.go [] ls.length a=(none,a):=rfl;rw [hg] at hf;rw [← hf];simp -implicitDefEqProofs (disch:=omega) only [go_sem,↓reduceIte ,pr,bxF];exact ⟨le_of_eq rfl,leL_of_eq rfl⟩
def mrD (m:Machine) (g:Bool):List D:=[.v (.int .i64 m.States),.v (.int .i64 m.Symbols),.sl true 5 (m.Moves.map (Move.td.d true)),.v (.bool g)]
def code_impl_machineReader_line:VCode:=(.seq (.ops [
  ⟨(some 4),none,(.asg (.const (.int .i64 0)))⟩]) (.seq (.ops [
  ⟨(some 11),none,(.mv (.tmp 1))⟩,
  ⟨(some 12),none,(.callX 58 [(.tmp 11)])⟩,
  ⟨(some 5),none,(.asg (.tmp 12))⟩]) (.seq (.block 0 (.seq (.ops [
  ⟨(some 14),none,(.mv (.tmp 0))⟩,
  ⟨(some 15),none,(.nilc (.tmp 14))⟩,
  ⟨(some 16),none,(.fa 3 (.tmp 15))⟩,
  ⟨(some 17),none,(.load 1 false (.tmp 16))⟩,
  ⟨(some 18),none,(.un .not (.tmp 17))⟩,
  ⟨(some 19),none,(.mv (.tmp 18))⟩,
  ⟨(some 20),(some (19,true)),(.mv (.tmp 5))⟩,
  ⟨(some 21),(some (19,true)),(.len (.tmp 20))⟩,
  ⟨(some 22),(some (19,true)),(.bin .eql (.tmp 21) (.const (.int .i64 3)))⟩,
  ⟨(some 23),none,(.pick (.tmp 19) (.tmp 22) (.const (.bool false)))⟩,
  ⟨(some 24),none,(.mv (.tmp 23))⟩,
  ⟨(some 25),(some (24,true)),(.mv (.tmp 5))⟩,
  ⟨(some 26),(some (24,true)),(.ia 1 (.tmp 25) (.const (.int .i64 0)))⟩,
  ⟨(some 27),(some (24,true)),(.load 1 false (.tmp 26))⟩,
  ⟨(some 28),(some (24,true)),(.bin .eql (.tmp 27) (.const (.string ⟨⟨[109,97,99,104,105,110,101]⟩⟩)))⟩,
  ⟨(some 29),none,(.pick (.tmp 24) (.tmp 28) (.const (.bool false)))⟩,
  ⟨(some 13),none,(.asg (.tmp 29))⟩]) (.cond (.tmp 13) (.seq (.ops [
  ⟨(some 31),none,(.mv (.tmp 5))⟩,
  ⟨(some 32),none,(.slc 1 (.tmp 31) (some (.const (.int .i64 1))) none none)⟩,
  ⟨(some 33),none,(.callX 59 [(.tmp 32)])⟩,
  ⟨(some 30),none,(.mv (.tmp 33))⟩,
  ⟨(some 34),none,(.ext (.tmp 30) 0)⟩,
  ⟨(some 35),none,(.ext (.tmp 30) 1)⟩,
  ⟨(some 6),none,(.asg (.tmp 34))⟩,
  ⟨(some 7),none,(.asg (.tmp 35))⟩]) (.seq (.seq (.ops [
  ⟨(some 36),none,(.mv (.tmp 7))⟩,
  ⟨(some 37),none,(.un .not (.tmp 36))⟩]) (.cond (.tmp 37) (.seq (.ops [
  ⟨(some 4),none,(.asg (.const (.int .i64 6)))⟩]) .ret) .skip)) (.seq (.drawT (.h 0 ⟨(some 38),none,(.mv (.tmp 0))⟩ (.h 1 ⟨(some 39),none,(.mv (.tmp 0))⟩ (.h 2 ⟨(some 40),none,(.mv (.tmp 6))⟩ (.h 5 ⟨(some 43),none,(.mv (.tmp 6))⟩ (.br 3 ⟨(some 41),none,(.ia 1 (.tmp 40) (.const (.int .i64 0)))⟩ (.br 4 ⟨(some 42),none,(.load 1 false (.tmp 41))⟩ (.br 6 ⟨(some 44),none,(.ia 1 (.tmp 43) (.const (.int .i64 1)))⟩ (.br 7 ⟨(some 45),none,(.load 1 false (.tmp 44))⟩ (.br 8 ⟨(some 46),none,(.nilc (.tmp 38))⟩ (.br 9 ⟨(some 47),none,(.fa 0 (.tmp 46))⟩ (.br 10 ⟨(some 48),none,(.fa 0 (.tmp 47))⟩ (.br 11 ⟨none,none,(.store 1 (.tmp 48) (.tmp 42))⟩ .done .nil) .nil) .nil) .nil) .nil) .nil) (.br 6 ⟨(some 44),none,(.ia 1 (.tmp 43) (.const (.int .i64 1)))⟩ (.br 4 ⟨(some 42),none,(.load 1 false (.tmp 41))⟩ (.br 7 ⟨(some 45),none,(.load 1 false (.tmp 44))⟩ (.br 8 ⟨(some 46),none,(.nilc (.tmp 38))⟩ (.br 9 ⟨(some 47),none,(.fa 0 (.tmp 46))⟩ (.br 10 ⟨(some 48),none,(.fa 0 (.tmp 47))⟩ (.br 11 ⟨none,none,(.store 1 (.tmp 48) (.tmp 42))⟩ .done .nil) .nil) .nil) .nil) .nil) (.br 7 ⟨(some 45),none,(.load 1 false (.tmp 44))⟩ (.br 4 ⟨(some 42),none,(.load 1 false (.tmp 41))⟩ (.br 8 ⟨(some 46),none,(.nilc (.tmp 38))⟩ (.br 9 ⟨(some 47),none,(.fa 0 (.tmp 46))⟩ (.br 10 ⟨(some 48),none,(.fa 0 (.tmp 47))⟩ (.br 11 ⟨none,none,(.store 1 (.tmp 48) (.tmp 42))⟩ .done .nil) .nil) .nil) .nil) .nil) .nil)) .nil)) (.br 6 ⟨(some 44),none,(.ia 1 (.tmp 43) (.const (.int .i64 1)))⟩ (.br 3 ⟨(some 41),none,(.ia 1 (.tmp 40) (.const (.int .i64 0)))⟩ (.br 4 ⟨(some 42),none,(.load 1 false (.tmp 41))⟩ (.br 7 ⟨(some 45),none,(.load 1 false (.tmp 44))⟩ (.br 8 ⟨(some 46),none,(.nilc (.tmp 38))⟩ (.br 9 ⟨(some 47),none,(.fa 0 (.tmp 46))⟩ (.br 10 ⟨(some 48),none,(.fa 0 (.tmp 47))⟩ (.br 11 ⟨none,none,(.store 1 (.tmp 48) (.tmp 42))⟩ .done .nil) .nil) .nil) .nil) .nil) (.br 7 ⟨(some 45),none,(.load 1 false (.tmp 44))⟩ (.br 4 ⟨(some 42),none,(.load 1 false (.tmp 41))⟩ (.br 8 ⟨(some 46),none,(.nilc (.tmp 38))⟩ (.br 9 ⟨(some 47),none,(.fa 0 (.tmp 46))⟩ (.br 10 ⟨(some 48),none,(.fa 0 (.tmp 47))⟩ (.br 11 ⟨none,none,(.store 1 (.tmp 48) (.tmp 42))⟩ .done .nil) .nil) .nil) .nil) .nil) .nil)) (.br 7 ⟨(some 45),none,(.load 1 false (.tmp 44))⟩ (.br 3 ⟨(some 41),none,(.ia 1 (.tmp 40) (.const (.int .i64 0)))⟩ (.br 4 ⟨(some 42),none,(.load 1 false (.tmp 41))⟩ (.br 8 ⟨(some 46),none,(.nilc (.tmp 38))⟩ (.br 9 ⟨(some 47),none,(.fa 0 (.tmp 46))⟩ (.br 10 ⟨(some 48),none,(.fa 0 (.tmp 47))⟩ (.br 11 ⟨none,none,(.store 1 (.tmp 48) (.tmp 42))⟩ .done .nil) .nil) .nil) .nil) .nil) .nil) .nil)) .nil)))))) [⟨(some 49),none,(.nilc (.tmp 39))⟩,⟨(some 50),none,(.fa 0 (.tmp 49))⟩,⟨(some 51),none,(.fa 1 (.tmp 50))⟩,⟨none,none,(.store 1 (.tmp 51) (.tmp 45))⟩]) (.seq (.ops [
  ⟨(some 52),none,(.mv (.tmp 0))⟩,
  ⟨(some 53),none,(.nilc (.tmp 52))⟩,
  ⟨(some 54),none,(.fa 3 (.tmp 53))⟩,
  ⟨none,none,(.store 1 (.tmp 54) (.const (.bool true)))⟩]) (.seq (.ops [
  ⟨(some 4),none,(.asg (.const (.int .i64 0)))⟩]) .ret))))) (.seq (.ops [
  ⟨(some 56),none,(.mv (.tmp 0))⟩,
  ⟨(some 57),none,(.nilc (.tmp 56))⟩,
  ⟨(some 58),none,(.fa 3 (.tmp 57))⟩,
  ⟨(some 59),none,(.load 1 false (.tmp 58))⟩,
  ⟨(some 60),none,(.un .not (.tmp 59))⟩,
  ⟨(some 61),none,(.mv (.tmp 60))⟩,
  ⟨(some 62),(some (61,false)),(.mv (.tmp 5))⟩,
  ⟨(some 63),(some (61,false)),(.len (.tmp 62))⟩,
  ⟨(some 64),(some (61,false)),(.bin .neq (.tmp 63) (.const (.int .i64 6)))⟩,
  ⟨(some 65),none,(.pick (.tmp 61) (.const (.bool true)) (.tmp 64))⟩,
  ⟨(some 66),none,(.mv (.tmp 65))⟩,
  ⟨(some 67),(some (66,false)),(.mv (.tmp 5))⟩,
  ⟨(some 68),(some (66,false)),(.ia 1 (.tmp 67) (.const (.int .i64 0)))⟩,
  ⟨(some 69),(some (66,false)),(.load 1 false (.tmp 68))⟩,
  ⟨(some 70),(some (66,false)),(.bin .neq (.tmp 69) (.const (.string ⟨⟨[109,111,118,101]⟩⟩)))⟩,
  ⟨(some 71),none,(.pick (.tmp 66) (.const (.bool true)) (.tmp 70))⟩,
  ⟨(some 72),none,(.mv (.tmp 71))⟩,
  ⟨(some 73),(some (72,false)),(.mv (.tmp 5))⟩,
  ⟨(some 74),(some (72,false)),(.ia 1 (.tmp 73) (.const (.int .i64 4)))⟩,
  ⟨(some 75),(some (72,false)),(.load 1 false (.tmp 74))⟩,
  ⟨(some 76),(some (72,false)),(.bin .neq (.tmp 75) (.const (.string ⟨⟨[101,97,115,116]⟩⟩)))⟩,
  ⟨(some 77),(some (72,false)),(.mv (.tmp 76))⟩,
  ⟨(some 78),(some (77,true)),(.mv (.tmp 5))⟩,
  ⟨(some 79),(some (77,true)),(.ia 1 (.tmp 78) (.const (.int .i64 4)))⟩,
  ⟨(some 80),(some (77,true)),(.load 1 false (.tmp 79))⟩,
  ⟨(some 81),(some (77,true)),(.bin .neq (.tmp 80) (.const (.string ⟨⟨[119,101,115,116]⟩⟩)))⟩,
  ⟨(some 82),(some (72,false)),(.pick (.tmp 77) (.tmp 81) (.const (.bool false)))⟩,
  ⟨(some 83),none,(.pick (.tmp 72) (.const (.bool true)) (.tmp 82))⟩,
  ⟨(some 55),none,(.asg (.tmp 83))⟩]) (.cond (.tmp 55) (.seq (.ops [
  ⟨(some 4),none,(.asg (.const (.int .i64 6)))⟩]) .ret) .skip))))) (.seq (.draw (mB 101 2535281857643344968926611112192) (mB 100 724349665486858133350350061568) [⟨0,(mB 101 2535281857643344968926611112192),[],⟨(some 85),none,(.mv (.tmp 5))⟩⟩,⟨1,(mB 101 2535243172017117300793020514560),[],⟨(some 86),none,(.ia 1 (.tmp 85) (.const (.int .i64 1)))⟩⟩,⟨2,(mB 101 2535165800764661964525839319296),[],⟨(some 87),none,(.load 1 false (.tmp 86))⟩⟩,⟨3,(mB 101 2535281857643344968926611112192),[],⟨(some 88),none,(.mv (.tmp 5))⟩⟩,⟨4,(mB 101 2534972372633523623857886331136),[],⟨(some 89),none,(.ia 1 (.tmp 88) (.const (.int .i64 2)))⟩⟩,⟨5,(mB 101 2534353402613880933720436769024),[],⟨(some 90),none,(.load 1 false (.tmp 89))⟩⟩,⟨6,(mB 101 2535281857643344968926611112192),[],⟨(some 91),none,(.mv (.tmp 5))⟩⟩,⟨7,(mB 101 2532805977564774208376812863744),[],⟨(some 92),none,(.ia 1 (.tmp 91) (.const (.int .i64 3)))⟩⟩,⟨8,(mB 101 2527854217407632687277216366848),[],⟨(some 93),none,(.load 1 false (.tmp 92))⟩⟩,⟨9,(mB 101 2535281857643344968926611112192),[],⟨(some 94),none,(.mv (.tmp 5))⟩⟩,⟨10,(mB 101 2515474817014778884528225124608),[],⟨(some 95),none,(.ia 1 (.tmp 94) (.const (.int .i64 5)))⟩⟩,⟨11,(mB 101 2475860735757646715731453149440),[],⟨(some 96),none,(.load 1 false (.tmp 95))⟩⟩,⟨12,(mB 101 2376864218241043961873113809152),(mB 97 90524365372743432601998458880),⟨(some 97),none,(.bslN 1 [(.tmp 87),(.tmp 90),(.tmp 93),(.tmp 96)])⟩⟩,⟨13,(mB 101 2308932258585258719288024367360),[],⟨(some 98),none,(.call 59 [(.tmp 97)])⟩⟩,⟨14,(mB 101 1992019608528201368913848566016),[],⟨(some 84),none,(.mv (.tmp 98))⟩⟩,⟨15,(mB 101 1992000265715087534847053267200),[],⟨(some 99),none,(.extN (.tmp 84) 0)⟩⟩,⟨16,(mB 101 1992000265715087534847053267200),[],⟨(some 100),none,(.extN (.tmp 84) 1)⟩⟩,⟨17,(mB 101 1358174965600972834098701664512),(mB 100 633825300114114700748351602688),⟨(some 8),none,(.asg (.tmp 99))⟩⟩] [⟨(some 9),none,(.asg (.tmp 100))⟩]) (.seq (.seq (.ops [
  ⟨(some 101),none,(.mv (.tmp 9))⟩,
  ⟨(some 102),none,(.un .not (.tmp 101))⟩]) (.cond (.tmp 102) (.seq (.ops [
  ⟨(some 4),none,(.asg (.const (.int .i64 6)))⟩]) .ret) .skip)) (.seq (.ops [
  ⟨(some 10),none,(.asg (.const (.int .i64 1)))⟩]) (.seq (.seq (.ops [
  ⟨(some 103),none,(.mv (.tmp 5))⟩,
  ⟨(some 104),none,(.ia 1 (.tmp 103) (.const (.int .i64 4)))⟩,
  ⟨(some 105),none,(.load 1 false (.tmp 104))⟩,
  ⟨(some 106),none,(.bin .eql (.tmp 105) (.const (.string ⟨⟨[119,101,115,116]⟩⟩)))⟩]) (.cond (.tmp 106) (.ops [
  ⟨(some 10),none,(.asg (.const (.int .i64 3)))⟩]) .skip)) (.seq (.drawW (mB 129 680564571582600097713385823285526134784) (mB 128 306101476701203693184758350096512319488) [⟨1,(mB 129 680564571582600097713385823285526134784),[],⟨(some 108),none,(.mv (.tmp 0))⟩⟩,⟨2,(mB 129 680564247064046439286659040129505558528),[],⟨(some 109),none,(.nilc (.tmp 108))⟩⟩,⟨3,(mB 129 680563598026939122433205473817464406016),[],⟨(some 110),none,(.fa 0 (.tmp 109))⟩⟩,⟨4,(mB 129 680562299952724488726298341193382100992),[],⟨(some 111),none,(.fa 2 (.tmp 110))⟩⟩,⟨5,(mB 129 680559703804295221312484075945217490944),[],⟨(some 112),none,(.load 1 false (.tmp 111))⟩⟩,⟨6,(mB 129 680564571582600097713385823285526134784),[],⟨(some 113),none,(.mv (.tmp 8))⟩⟩,⟨7,(mB 129 680554186988883028058128762292867694592),[],⟨(some 114),none,(.ia 1 (.tmp 113) (.const (.int .i64 0)))⟩⟩,⟨8,(mB 129 680533417801448888747614640307550814208),[],⟨(some 115),none,(.load 1 false (.tmp 114))⟩⟩,⟨9,(mB 129 680564571582600097713385823285526134784),[],⟨(some 116),none,(.mv (.tmp 8))⟩⟩,⟨10,(mB 129 680481494832863540471329335344258613248),[],⟨(some 117),none,(.ia 1 (.tmp 116) (.const (.int .i64 1)))⟩⟩,⟨11,(mB 129 680315341333390425987216359461723570176),[],⟨(some 118),none,(.load 1 false (.tmp 117))⟩⟩,⟨12,(mB 129 680564571582600097713385823285526134784),[],⟨(some 119),none,(.mv (.tmp 8))⟩⟩,⟨13,(mB 129 679899957584707639776933919755385962496),[],⟨(some 120),none,(.ia 1 (.tmp 119) (.const (.int .i64 2)))⟩⟩,⟨14,(mB 129 678570729588922723904030112695105617920),[],⟨(some 121),none,(.load 1 false (.tmp 120))⟩⟩,⟨15,(mB 129 680564571582600097713385823285526134784),[],⟨(some 122),none,(.mv (.tmp 10))⟩⟩,⟨16,(mB 129 680564571582600097713385823285526134784),[],⟨(some 123),none,(.mv (.tmp 8))⟩⟩,⟨17,(mB 129 669930747616320770730155366803283378176),[],⟨(some 124),none,(.ia 1 (.tmp 123) (.const (.int .i64 3)))⟩⟩,⟨18,(mB 129 648663099683762116763694453838797864960),[],⟨(some 125),none,(.load 1 false (.tmp 124))⟩⟩,⟨19,(mB 129 595504364446082551502799232420242522112),(mB 126 50884509213641310759598864026356940800),⟨(some 126),none,(.build [(.int .i64 0),(.int .i64 0),(.int .i64 0),(.int .i64 0),(.int .i64 0)] [(0,1,(.tmp 115)),(1,1,(.tmp 118)),(2,1,(.tmp 121)),(3,1,(.tmp 122)),(4,1,(.tmp 125))])⟩⟩,⟨20,(mB 129 561318281929489246396554444588657410048),(mB 127 85070591730234615865843651857942052864),⟨(some 127),none,(.bslN 5 [(.tmp 126)])⟩⟩] ⟨21,(mB 129 476237630124091219302180514894077493248),(mB 128 170146375757327766559315834212213325824),⟨(some 128),none,(.app 5 40 (.tmp 112) (.tmp 127))⟩⟩ [⟨0,(mB 129 680564571582600097713385823285526134784),[],⟨(some 107),none,(.mv (.tmp 0))⟩⟩] [⟨(some 129),none,(.nilc (.tmp 107))⟩,⟨(some 130),none,(.fa 0 (.tmp 129))⟩,⟨(some 131),none,(.fa 2 (.tmp 130))⟩,⟨none,none,(.store 1 (.tmp 131) (.tmp 128))⟩]) (.seq (.ops [
  ⟨(some 4),none,(.asg (.const (.int .i64 0)))⟩]) .ret)))))))))
theorem law_impl_machineReader_line {a0 a1 d:D} {cells cells':List D} (h:∀ b,code_impl_machineReader_line.wp (CT Tryz.prog TabG) (endX [(.t 4)] d 0 b cells') [.box (some b) cells,a1,.undef,.undef,.undef,.undef,.undef,.undef,.undef,.undef,.undef,.undef,.undef,.undef,.undef,.undef,.undef,.undef,.undef,.undef,.undef,.undef,.undef,.undef,.undef,.undef,.undef,.undef,.undef,.undef,.undef,.undef,.undef,.undef,.undef,.undef,.undef,.undef,.undef,.undef,.undef,.undef,.undef,.undef,.undef,.undef,.undef,.undef,.undef,.undef,.undef,.undef,.undef,.undef,.undef,.undef,.undef,.undef,.undef,.undef,.undef,.undef,.undef,.undef,.undef,.undef,.undef,.undef,.undef,.undef,.undef,.undef,.undef,.undef,.undef,.undef,.undef,.undef,.undef,.undef,.undef,.undef,.undef,.undef,.undef,.undef,.undef,.undef,.undef,.undef,.undef,.undef,.undef,.undef,.undef,.undef,.undef,.undef,.undef,.undef,.undef,.undef,.undef,.undef,.undef,.undef,.undef,.undef,.undef,.undef,.undef,.undef,.undef,.undef,.undef,.undef,.undef,.undef,.undef,.undef,.undef,.undef,.undef,.undef,.undef,.undef,.undef,.undef,.undef,.undef,.undef,.undef]):ContractX Tryz.prog TabG 27 0 [a0,a1] cells d cells' :=
  contract_ofX (pt:=0) tabG Tryz.func27 (fun us W=>by kernel_rfl) (c:=Tryz.f27.body.getD .skip) (ms:=[]) (ms':=[]) (by kernel_rfl) (by kernel_rfl) (by kernel_rfl) (by simp) h
set_option maxHeartbeats 40000000 in
theorem v_mrl_h0 (m:Machine) (l:ByteArray) (hl:l.size≤1048576) (h3:(wordsB l).length≠3) :
    ContractX Tryz.prog TabG 27 0 [.undef,.v (.string l)] (mrD m false) (.v (.int .i64 6)) (mrD m false):=by
  unfold mrD
  try simp only []
  refine law_impl_machineReader_line ?_;intro bb;unfold code_impl_machineReader_line;have hS:=v_SplitWords l hl;have d1:decide ((wordsB l).length=3)=false:=decide_eq_false h3;have d2:decide (((wordsB l).length:Int)=3)=false:=decide_eq_false (by omega);simp -implicitDefEqProofs (disch:=omega) only [go_sem,↓reduceIte];refine call_B (hS) (by simp -implicitDefEqProofs (disch:=omega) only [go_sem,↓reduceIte,deep,TD.rows,immLL_rI,immLL_rB8,immLL_rS,immLL_rBo,immLL_rII,immLL_rIIt,List.length_map,d2];exact rfl) ?_;simp -implicitDefEqProofs (disch:=omega) only [go_sem,↓reduceIte ,List.length_map,d2]
set_option maxHeartbeats 40000000 in
theorem v_mrl_h1 (m:Machine) (l:ByteArray) (hl:l.size≤1048576) (w0 w1 w2:ByteArray) (hw:wordsB l=[w0,w1,w2]) (hc1:decide (w0=sMachine)=false) :
    ContractX Tryz.prog TabG 27 0 [.undef,.v (.string l)] (mrD m false) (.v (.int .i64 6)) (mrD m false):=by
  unfold mrD
  try simp only []
  refine law_impl_machineReader_line ?_;intro bb;unfold code_impl_machineReader_line;have hS:=v_SplitWords l hl;rw [hw] at hS;obtain ⟨L,hwd,hLe⟩:∃ L,Wd L [w0,w1,w2]∧[w0,w1,w2].map rS=L:=⟨_,wd_map _,rfl⟩
  have hz:∀ x,x∈[w0,w1,w2]→x.size≤1048576:=fun x hx=>by rw [← hw] at hx;have:=wordsB_size hx;omega
  rw [hLe] at hS;have lw:(L.length:Int)=3:=by rw [hwd.len];rfl
  have e0:L[Int.toNat 0]?=some [.v (.string w0)]:=hwd.at' 0 (by simp);have e1:L[Int.toNat 1]?=some [.v (.string w1)]:=hwd.at' 1 (by simp);have e2:L[Int.toNat 2]?=some [.v (.string w2)]:=hwd.at' 2 (by simp);have hc1:decide (w0=(⟨⟨[109,97,99,104,105,110,101]⟩⟩:ByteArray))=false:=hc1;have n3:decide ((3:Int)=3)=true:=rfl;simp -implicitDefEqProofs (disch:=omega) only [go_sem,↓reduceIte];refine call_B (hS) (by simp -implicitDefEqProofs (disch:=omega) only [go_sem,↓reduceIte,deep,TD.rows,immLL_rI,immLL_rB8,immLL_rS,immLL_rBo,immLL_rII,immLL_rIIt,n3,lw,e0,Int.le_refl,Int.reduceLE,Int.reduceLT,hc1];exact rfl) ?_;simp -implicitDefEqProofs (disch:=omega) only [go_sem,↓reduceIte ,n3,lw,e0,Int.le_refl,Int.reduceLE,Int.reduceLT,hc1]
set_option maxHeartbeats 40000000 in
theorem v_mrl_h2 (m:Machine) (l:ByteArray) (hl:l.size≤1048576) (w0 w1 w2:ByteArray) (hw:wordsB l=[w0,w1,w2]) (hc1:decide (w0=sMachine)=true) (h2:rdNums [w1,w2]=none) :
    ContractX Tryz.prog TabG 27 0 [.undef,.v (.string l)] (mrD m false) (.v (.int .i64 6)) (mrD m false):=by
  unfold mrD
  try simp only []
  refine law_impl_machineReader_line ?_;intro bb;unfold code_impl_machineReader_line;have hS:=v_SplitWords l hl;rw [hw] at hS;obtain ⟨L,hwd,hLe⟩:∃ L,Wd L [w0,w1,w2]∧[w0,w1,w2].map rS=L:=⟨_,wd_map _,rfl⟩
  have hz:∀ x,x∈[w0,w1,w2]→x.size≤1048576:=fun x hx=>by rw [← hw] at hx;have:=wordsB_size hx;omega
  rw [hLe] at hS;have lw:(L.length:Int)=3:=by rw [hwd.len];rfl
  have e0:L[Int.toNat 0]?=some [.v (.string w0)]:=hwd.at' 0 (by simp);have e1:L[Int.toNat 1]?=some [.v (.string w1)]:=hwd.at' 1 (by simp);have e2:L[Int.toNat 2]?=some [.v (.string w2)]:=hwd.at' 2 (by simp);have hc1:decide (w0=(⟨⟨[109,97,99,104,105,110,101]⟩⟩:ByteArray))=true:=hc1;have drp:List.drop (Int.toNat 1) L=[w1,w2].map rS:=(by rw [← hLe];rfl);have drp2:List.take (Int.toNat 3 - Int.toNat 1) (List.drop (Int.toNat 1) L)=[w1,w2].map rS:=(by rw [drp];rfl);have cnd:(Int.toNat 1+(Int.toNat 3 - Int.toNat 1)≤L.length)=True:=(by rw [hwd.len];exact eq_true (show 1+(3 - 1)≤3 by decide));have n3:decide ((3:Int)=3)=true:=rfl;have hv:=v_readNumbers [w1,w2] (fun x hx=>hz x (List.mem_cons_of_mem _ hx)) (by simp);rw [h2] at hv;simp -implicitDefEqProofs (disch:=omega) only [go_sem,↓reduceIte];refine call_B (hS) (by simp -implicitDefEqProofs (disch:=omega) only [go_sem,↓reduceIte,deep,TD.rows,immLL_rI,immLL_rB8,immLL_rS,immLL_rBo,immLL_rII,immLL_rIIt,n3,lw,e0,Int.le_refl,Int.reduceLE,Int.reduceLT,hc1,drp];exact rfl) ?_;simp -implicitDefEqProofs (disch:=omega) only [go_sem,↓reduceIte ,n3,lw,e0,Int.le_refl,Int.reduceLE,Int.reduceLT,hc1,drp];refine call_B (hv) (by simp -implicitDefEqProofs (disch:=omega) only [go_sem,↓reduceIte,deep,TD.rows,immLL_rI,immLL_rB8,immLL_rS,immLL_rBo,immLL_rII,immLL_rIIt,cnd,drp2,if_true];exact rfl) ?_;simp -implicitDefEqProofs (disch:=omega) only [go_sem,↓reduceIte ,cnd,drp2,if_true]
set_option maxHeartbeats 40000000 in
theorem v_mrl_h3 (m:Machine) (l:ByteArray) (hl:l.size≤1048576) (w0 w1 w2:ByteArray) (hw:wordsB l=[w0,w1,w2]) (hc1:decide (w0=sMachine)=true) (a b:Int) (h2:rdNums [w1,w2]=some [a,b]) :
    ContractX Tryz.prog TabG 27 0 [.undef,.v (.string l)] (mrD m false) (.v (.int .i64 0)) (mrD { m with States:=a,Symbols:=b } true):=by
  unfold mrD
  try simp only []
  refine law_impl_machineReader_line ?_;intro bb;unfold code_impl_machineReader_line;have hS:=v_SplitWords l hl;rw [hw] at hS;obtain ⟨L,hwd,hLe⟩:∃ L,Wd L [w0,w1,w2]∧[w0,w1,w2].map rS=L:=⟨_,wd_map _,rfl⟩
  have hz:∀ x,x∈[w0,w1,w2]→x.size≤1048576:=fun x hx=>by rw [← hw] at hx;have:=wordsB_size hx;omega
  rw [hLe] at hS;have lw:(L.length:Int)=3:=by rw [hwd.len];rfl
  have e0:L[Int.toNat 0]?=some [.v (.string w0)]:=hwd.at' 0 (by simp);have e1:L[Int.toNat 1]?=some [.v (.string w1)]:=hwd.at' 1 (by simp);have e2:L[Int.toNat 2]?=some [.v (.string w2)]:=hwd.at' 2 (by simp);have hc1:decide (w0=(⟨⟨[109,97,99,104,105,110,101]⟩⟩:ByteArray))=true:=hc1;have drp:List.drop (Int.toNat 1) L=[w1,w2].map rS:=(by rw [← hLe];rfl);have drp2:List.take (Int.toNat 3 - Int.toNat 1) (List.drop (Int.toNat 1) L)=[w1,w2].map rS:=(by rw [drp];rfl);have cnd:(Int.toNat 1+(Int.toNat 3 - Int.toNat 1)≤L.length)=True:=(by rw [hwd.len];exact eq_true (show 1+(3 - 1)≤3 by decide));have n3:decide ((3:Int)=3)=true:=rfl;have hv:=v_readNumbers [w1,w2] (fun x hx=>hz x (List.mem_cons_of_mem _ hx)) (by simp);rw [h2] at hv;simp -implicitDefEqProofs (disch:=omega) only [go_sem,↓reduceIte];refine call_B (hS) (by simp -implicitDefEqProofs (disch:=omega) only [go_sem,↓reduceIte,deep,TD.rows,immLL_rI,immLL_rB8,immLL_rS,immLL_rBo,immLL_rII,immLL_rIIt,n3,lw,e0,Int.le_refl,Int.reduceLE,Int.reduceLT,hc1,drp];exact rfl) ?_;simp -implicitDefEqProofs (disch:=omega) only [go_sem,↓reduceIte ,n3,lw,e0,Int.le_refl,Int.reduceLE,Int.reduceLT,hc1,drp];simp only [Option.getD_some,Option.isSome_some] at hv;refine call_B (hv) (by simp -implicitDefEqProofs (disch:=omega) only [go_sem,↓reduceIte,deep,TD.rows,immLL_rI,immLL_rB8,immLL_rS,immLL_rBo,immLL_rII,immLL_rIIt,cnd,drp2,if_true];exact rfl) ?_;simp -implicitDefEqProofs (disch:=omega) only [go_sem,↓reduceIte ,cnd,drp2,if_true];apply drawT_at
  case h =>
    intro K hK;simp -implicitDefEqProofs (disch:=omega) only [go_sem,↓reduceIte ,rI,Int.cast_ofNat_Int,Int.reduceToNat,Int.le_refl,Int.reduceLE,Int.reduceLT]
    repeat' (first | with_reducible exact hK | with_reducible refine And.intro ?_ ?_)
  simp -implicitDefEqProofs (disch:=omega) only [go_sem,↓reduceIte ,tail_app]
set_option maxHeartbeats 40000000 in
theorem v_mrl_m0 (m:Machine) (l:ByteArray) (hl:l.size≤1048576) (h6:(wordsB l).length≠6) :
    ContractX Tryz.prog TabG 27 0 [.undef,.v (.string l)] (mrD m true) (.v (.int .i64 6)) (mrD m true):=by
  unfold mrD
  try simp only []
  refine law_impl_machineReader_line ?_;intro bb;unfold code_impl_machineReader_line;have hS:=v_SplitWords l hl;have d2:decide (((wordsB l).length:Int)=6)=false:=decide_eq_false (by omega);simp -implicitDefEqProofs (disch:=omega) only [go_sem,↓reduceIte];refine call_B (hS) (by simp -implicitDefEqProofs (disch:=omega) only [go_sem,↓reduceIte,deep,TD.rows,immLL_rI,immLL_rB8,immLL_rS,immLL_rBo,immLL_rII,immLL_rIIt,List.length_map,d2];exact rfl) ?_;simp -implicitDefEqProofs (disch:=omega) only [go_sem,↓reduceIte ,List.length_map,d2]
set_option maxHeartbeats 40000000 in
theorem v_mrl_m1 (m:Machine) (l:ByteArray) (hl:l.size≤1048576) (w0 w1 w2 w3 w4 w5:ByteArray) (hw:wordsB l=[w0,w1,w2,w3,w4,w5]) (hc1:decide (w0=sMove)=false) :
    ContractX Tryz.prog TabG 27 0 [.undef,.v (.string l)] (mrD m true) (.v (.int .i64 6)) (mrD m true):=by
  unfold mrD
  try simp only []
  refine law_impl_machineReader_line ?_;intro bb;unfold code_impl_machineReader_line;have hS:=v_SplitWords l hl;rw [hw] at hS;obtain ⟨L,hwd,hLe⟩:∃ L,Wd L [w0,w1,w2,w3,w4,w5]∧[w0,w1,w2,w3,w4,w5].map rS=L:=⟨_,wd_map _,rfl⟩
  have hz:∀ x,x∈[w0,w1,w2,w3,w4,w5]→x.size≤1048576:=fun x hx=>by rw [← hw] at hx;have:=wordsB_size hx;omega
  rw [hLe] at hS;have lw:(L.length:Int)=6:=by rw [hwd.len];rfl
  have e0:L[Int.toNat 0]?=some [.v (.string w0)]:=hwd.at' 0 (by simp);have e1:L[Int.toNat 1]?=some [.v (.string w1)]:=hwd.at' 1 (by simp);have e2:L[Int.toNat 2]?=some [.v (.string w2)]:=hwd.at' 2 (by simp);have e3:L[Int.toNat 3]?=some [.v (.string w3)]:=hwd.at' 3 (by simp);have e4:L[Int.toNat 4]?=some [.v (.string w4)]:=hwd.at' 4 (by simp);have e5:L[Int.toNat 5]?=some [.v (.string w5)]:=hwd.at' 5 (by simp);have hc1:decide (w0=(⟨⟨[109,111,118,101]⟩⟩:ByteArray))=false:=hc1;have n6:decide ((6:Int)=6)=true:=rfl;simp -implicitDefEqProofs (disch:=omega) only [go_sem,↓reduceIte];refine call_B (hS) (by simp -implicitDefEqProofs (disch:=omega) only [go_sem,↓reduceIte,deep,TD.rows,immLL_rI,immLL_rB8,immLL_rS,immLL_rBo,immLL_rII,immLL_rIIt,n6,lw,e0,e1,e2,e3,e4,e5,Int.le_refl,Int.reduceLE,Int.reduceLT,hc1];exact rfl) ?_;simp -implicitDefEqProofs (disch:=omega) only [go_sem,↓reduceIte ,n6,lw,e0,e1,e2,e3,e4,e5,Int.le_refl,Int.reduceLE,Int.reduceLT,hc1]
set_option maxHeartbeats 40000000 in
theorem v_mrl_m2 (m:Machine) (l:ByteArray) (hl:l.size≤1048576) (w0 w1 w2 w3 w4 w5:ByteArray) (hw:wordsB l=[w0,w1,w2,w3,w4,w5]) (hc1:decide (w0=sMove)=true) (he1:decide (w4=sEast)=false) (hs1:decide (w4=sWest)=false) :
    ContractX Tryz.prog TabG 27 0 [.undef,.v (.string l)] (mrD m true) (.v (.int .i64 6)) (mrD m true):=by
  unfold mrD
  try simp only []
  refine law_impl_machineReader_line ?_;intro bb;unfold code_impl_machineReader_line;have hS:=v_SplitWords l hl;rw [hw] at hS;obtain ⟨L,hwd,hLe⟩:∃ L,Wd L [w0,w1,w2,w3,w4,w5]∧[w0,w1,w2,w3,w4,w5].map rS=L:=⟨_,wd_map _,rfl⟩
  have hz:∀ x,x∈[w0,w1,w2,w3,w4,w5]→x.size≤1048576:=fun x hx=>by rw [← hw] at hx;have:=wordsB_size hx;omega
  rw [hLe] at hS;have lw:(L.length:Int)=6:=by rw [hwd.len];rfl
  have e0:L[Int.toNat 0]?=some [.v (.string w0)]:=hwd.at' 0 (by simp);have e1:L[Int.toNat 1]?=some [.v (.string w1)]:=hwd.at' 1 (by simp);have e2:L[Int.toNat 2]?=some [.v (.string w2)]:=hwd.at' 2 (by simp);have e3:L[Int.toNat 3]?=some [.v (.string w3)]:=hwd.at' 3 (by simp);have e4:L[Int.toNat 4]?=some [.v (.string w4)]:=hwd.at' 4 (by simp);have e5:L[Int.toNat 5]?=some [.v (.string w5)]:=hwd.at' 5 (by simp);have hc1:decide (w0=(⟨⟨[109,111,118,101]⟩⟩:ByteArray))=true:=hc1;have he1:decide (w4=(⟨⟨[101,97,115,116]⟩⟩:ByteArray))=false:=he1;have hs1:decide (w4=(⟨⟨[119,101,115,116]⟩⟩:ByteArray))=false:=hs1;have n6:decide ((6:Int)=6)=true:=rfl;simp -implicitDefEqProofs (disch:=omega) only [go_sem,↓reduceIte];refine call_B (hS) (by simp -implicitDefEqProofs (disch:=omega) only [go_sem,↓reduceIte,deep,TD.rows,immLL_rI,immLL_rB8,immLL_rS,immLL_rBo,immLL_rII,immLL_rIIt,n6,lw,e0,e1,e2,e3,e4,e5,Int.le_refl,Int.reduceLE,Int.reduceLT,hc1,he1,hs1];exact rfl) ?_;simp -implicitDefEqProofs (disch:=omega) only [go_sem,↓reduceIte ,n6,lw,e0,e1,e2,e3,e4,e5,Int.le_refl,Int.reduceLE,Int.reduceLT,hc1,he1,hs1]
set_option maxHeartbeats 40000000 in
theorem v_mrl_east_no (m:Machine) (l:ByteArray) (hl:l.size≤1048576) (w0 w1 w2 w3 w4 w5:ByteArray) (hw:wordsB l=[w0,w1,w2,w3,w4,w5]) (hc1:decide (w0=sMove)=true) (he1:decide (w4=sEast)=true) (hs1:decide (w4=sWest)=false) (h2:rdNums [w1,w2,w3,w5]=none) :
    ContractX Tryz.prog TabG 27 0 [.undef,.v (.string l)] (mrD m true) (.v (.int .i64 6)) (mrD m true):=by
  unfold mrD
  try simp only []
  refine law_impl_machineReader_line ?_;intro bb;unfold code_impl_machineReader_line;have hS:=v_SplitWords l hl;rw [hw] at hS;obtain ⟨L,hwd,hLe⟩:∃ L,Wd L [w0,w1,w2,w3,w4,w5]∧[w0,w1,w2,w3,w4,w5].map rS=L:=⟨_,wd_map _,rfl⟩
  have hz:∀ x,x∈[w0,w1,w2,w3,w4,w5]→x.size≤1048576:=fun x hx=>by rw [← hw] at hx;have:=wordsB_size hx;omega
  rw [hLe] at hS;have lw:(L.length:Int)=6:=by rw [hwd.len];rfl
  have e0:L[Int.toNat 0]?=some [.v (.string w0)]:=hwd.at' 0 (by simp);have e1:L[Int.toNat 1]?=some [.v (.string w1)]:=hwd.at' 1 (by simp);have e2:L[Int.toNat 2]?=some [.v (.string w2)]:=hwd.at' 2 (by simp);have e3:L[Int.toNat 3]?=some [.v (.string w3)]:=hwd.at' 3 (by simp);have e4:L[Int.toNat 4]?=some [.v (.string w4)]:=hwd.at' 4 (by simp);have e5:L[Int.toNat 5]?=some [.v (.string w5)]:=hwd.at' 5 (by simp);have hc1:decide (w0=(⟨⟨[109,111,118,101]⟩⟩:ByteArray))=true:=hc1;have he1:decide (w4=(⟨⟨[101,97,115,116]⟩⟩:ByteArray))=true:=he1;have hs1:decide (w4=(⟨⟨[119,101,115,116]⟩⟩:ByteArray))=false:=hs1;have n6:decide ((6:Int)=6)=true:=rfl;have hv:=v_readNumbers [w1,w2,w3,w5] (fun x hx=>hz x (by simp only [List.mem_cons,List.not_mem_nil,or_false] at hx ⊢;rcases hx with h | h | h | h <;> simp [h])) (by simp);rw [h2] at hv;simp -implicitDefEqProofs (disch:=omega) only [go_sem,↓reduceIte];refine call_B (hS) (by simp -implicitDefEqProofs (disch:=omega) only [go_sem,↓reduceIte,deep,TD.rows,immLL_rI,immLL_rB8,immLL_rS,immLL_rBo,immLL_rII,immLL_rIIt,n6,lw,e0,e1,e2,e3,e4,e5,Int.le_refl,Int.reduceLE,Int.reduceLT,hc1,he1,hs1];exact rfl) ?_;simp -implicitDefEqProofs (disch:=omega) only [go_sem,↓reduceIte ,n6,lw,e0,e1,e2,e3,e4,e5,Int.le_refl,Int.reduceLE,Int.reduceLT,hc1,he1,hs1];refine call_IB (hv) (by simp -implicitDefEqProofs (disch:=omega) only [go_sem,↓reduceIte,deep,TD.rows,immLL_rI,immLL_rB8,immLL_rS,immLL_rBo,immLL_rII,immLL_rIIt];exact rfl) ?_;simp -implicitDefEqProofs (disch:=omega) only [go_sem,↓reduceIte ,D.imm,immL,immLL]
set_option maxHeartbeats 40000000 in
theorem v_mrl_west_no (m:Machine) (l:ByteArray) (hl:l.size≤1048576) (w0 w1 w2 w3 w4 w5:ByteArray) (hw:wordsB l=[w0,w1,w2,w3,w4,w5]) (hc1:decide (w0=sMove)=true) (he1:decide (w4=sEast)=false) (hs1:decide (w4=sWest)=true) (h2:rdNums [w1,w2,w3,w5]=none) :
    ContractX Tryz.prog TabG 27 0 [.undef,.v (.string l)] (mrD m true) (.v (.int .i64 6)) (mrD m true):=by
  unfold mrD
  try simp only []
  refine law_impl_machineReader_line ?_;intro bb;unfold code_impl_machineReader_line;have hS:=v_SplitWords l hl;rw [hw] at hS;obtain ⟨L,hwd,hLe⟩:∃ L,Wd L [w0,w1,w2,w3,w4,w5]∧[w0,w1,w2,w3,w4,w5].map rS=L:=⟨_,wd_map _,rfl⟩
  have hz:∀ x,x∈[w0,w1,w2,w3,w4,w5]→x.size≤1048576:=fun x hx=>by rw [← hw] at hx;have:=wordsB_size hx;omega
  rw [hLe] at hS;have lw:(L.length:Int)=6:=by rw [hwd.len];rfl
  have e0:L[Int.toNat 0]?=some [.v (.string w0)]:=hwd.at' 0 (by simp);have e1:L[Int.toNat 1]?=some [.v (.string w1)]:=hwd.at' 1 (by simp);have e2:L[Int.toNat 2]?=some [.v (.string w2)]:=hwd.at' 2 (by simp);have e3:L[Int.toNat 3]?=some [.v (.string w3)]:=hwd.at' 3 (by simp);have e4:L[Int.toNat 4]?=some [.v (.string w4)]:=hwd.at' 4 (by simp);have e5:L[Int.toNat 5]?=some [.v (.string w5)]:=hwd.at' 5 (by simp);have hc1:decide (w0=(⟨⟨[109,111,118,101]⟩⟩:ByteArray))=true:=hc1;have he1:decide (w4=(⟨⟨[101,97,115,116]⟩⟩:ByteArray))=false:=he1;have hs1:decide (w4=(⟨⟨[119,101,115,116]⟩⟩:ByteArray))=true:=hs1;have n6:decide ((6:Int)=6)=true:=rfl;have hv:=v_readNumbers [w1,w2,w3,w5] (fun x hx=>hz x (by simp only [List.mem_cons,List.not_mem_nil,or_false] at hx ⊢;rcases hx with h | h | h | h <;> simp [h])) (by simp);rw [h2] at hv;simp -implicitDefEqProofs (disch:=omega) only [go_sem,↓reduceIte];refine call_B (hS) (by simp -implicitDefEqProofs (disch:=omega) only [go_sem,↓reduceIte,deep,TD.rows,immLL_rI,immLL_rB8,immLL_rS,immLL_rBo,immLL_rII,immLL_rIIt,n6,lw,e0,e1,e2,e3,e4,e5,Int.le_refl,Int.reduceLE,Int.reduceLT,hc1,he1,hs1];exact rfl) ?_;simp -implicitDefEqProofs (disch:=omega) only [go_sem,↓reduceIte ,n6,lw,e0,e1,e2,e3,e4,e5,Int.le_refl,Int.reduceLE,Int.reduceLT,hc1,he1,hs1];refine call_IB (hv) (by simp -implicitDefEqProofs (disch:=omega) only [go_sem,↓reduceIte,deep,TD.rows,immLL_rI,immLL_rB8,immLL_rS,immLL_rBo,immLL_rII,immLL_rIIt];exact rfl) ?_;simp -implicitDefEqProofs (disch:=omega) only [go_sem,↓reduceIte ,D.imm,immL,immLL]
set_option maxHeartbeats 40000000 in
theorem v_mrl_east (m:Machine) (l:ByteArray) (hl:l.size≤1048576) (w0 w1 w2 w3 w4 w5:ByteArray) (hw:wordsB l=[w0,w1,w2,w3,w4,w5]) (hc1:decide (w0=sMove)=true) (he1:decide (w4=sEast)=true) (hs1:decide (w4=sWest)=false) (a b c d:Int) (h2:rdNums [w1,w2,w3,w5]=some [a,b,c,d]) (hm:m.Moves.length≤1048577) :
    ContractX Tryz.prog TabG 27 0 [.undef,.v (.string l)] (mrD m true) (.v (.int .i64 0)) (mrD { m with Moves:=m.Moves++[⟨a,b,c,1,d⟩] } true):=by
  unfold mrD
  try simp only []
  refine law_impl_machineReader_line ?_;intro bb;unfold code_impl_machineReader_line;have hS:=v_SplitWords l hl;rw [hw] at hS;obtain ⟨L,hwd,hLe⟩:∃ L,Wd L [w0,w1,w2,w3,w4,w5]∧[w0,w1,w2,w3,w4,w5].map rS=L:=⟨_,wd_map _,rfl⟩
  have hz:∀ x,x∈[w0,w1,w2,w3,w4,w5]→x.size≤1048576:=fun x hx=>by rw [← hw] at hx;have:=wordsB_size hx;omega
  rw [hLe] at hS;have lw:(L.length:Int)=6:=by rw [hwd.len];rfl
  have e0:L[Int.toNat 0]?=some [.v (.string w0)]:=hwd.at' 0 (by simp);have e1:L[Int.toNat 1]?=some [.v (.string w1)]:=hwd.at' 1 (by simp);have e2:L[Int.toNat 2]?=some [.v (.string w2)]:=hwd.at' 2 (by simp);have e3:L[Int.toNat 3]?=some [.v (.string w3)]:=hwd.at' 3 (by simp);have e4:L[Int.toNat 4]?=some [.v (.string w4)]:=hwd.at' 4 (by simp);have e5:L[Int.toNat 5]?=some [.v (.string w5)]:=hwd.at' 5 (by simp);have hc1:decide (w0=(⟨⟨[109,111,118,101]⟩⟩:ByteArray))=true:=hc1;have he1:decide (w4=(⟨⟨[101,97,115,116]⟩⟩:ByteArray))=true:=he1;have hs1:decide (w4=(⟨⟨[119,101,115,116]⟩⟩:ByteArray))=false:=hs1;have n6:decide ((6:Int)=6)=true:=rfl;have hv:=v_readNumbers [w1,w2,w3,w5] (fun x hx=>hz x (by simp only [List.mem_cons,List.not_mem_nil,or_false] at hx ⊢;rcases hx with h | h | h | h <;> simp [h])) (by simp);rw [h2] at hv;simp only [Option.getD_some,Option.isSome_some] at hv;have e4q:L[4]?=some [.v (.string w4)]:=e4;simp -implicitDefEqProofs (disch:=omega) only [go_sem,↓reduceIte];refine call_B (hS) (by simp -implicitDefEqProofs (disch:=omega) only [go_sem,↓reduceIte,deep,TD.rows,immLL_rI,immLL_rB8,immLL_rS,immLL_rBo,immLL_rII,immLL_rIIt,n6,lw,e0,e1,e2,e3,e4,e5,Int.le_refl,Int.reduceLE,Int.reduceLT,hc1,he1,hs1];exact rfl) ?_;simp -implicitDefEqProofs (disch:=omega) only [go_sem,↓reduceIte ,n6,lw,e0,e1,e2,e3,e4,e5,Int.le_refl,Int.reduceLE,Int.reduceLT,hc1,he1,hs1];refine call_IB (hv) (by simp -implicitDefEqProofs (disch:=omega) only [go_sem,↓reduceIte,deep,TD.rows,immLL_rI,immLL_rB8,immLL_rS,immLL_rBo,immLL_rII,immLL_rIIt];exact rfl) ?_;simp -implicitDefEqProofs (disch:=omega) only [go_sem,↓reduceIte ,D.imm,immL,immLL];simp (maxSteps:=4000000) -implicitDefEqProofs (disch:=omega) only [go_sem,↓reduceIte ,rI,Int.cast_ofNat_Int,Int.reduceToNat,Int.le_refl,Int.reduceLE,Int.reduceLT,lw,e4q,he1,hs1];exact ⟨by rw [List.length_map];omega,by rw [List.map_append];rfl⟩
set_option maxHeartbeats 40000000 in
theorem v_mrl_west (m:Machine) (l:ByteArray) (hl:l.size≤1048576) (w0 w1 w2 w3 w4 w5:ByteArray) (hw:wordsB l=[w0,w1,w2,w3,w4,w5]) (hc1:decide (w0=sMove)=true) (he1:decide (w4=sEast)=false) (hs1:decide (w4=sWest)=true) (a b c d:Int) (h2:rdNums [w1,w2,w3,w5]=some [a,b,c,d]) (hm:m.Moves.length≤1048577) :
    ContractX Tryz.prog TabG 27 0 [.undef,.v (.string l)] (mrD m true) (.v (.int .i64 0)) (mrD { m with Moves:=m.Moves++[⟨a,b,c,3,d⟩] } true):=by
  unfold mrD
  try simp only []
  refine law_impl_machineReader_line ?_;intro bb;unfold code_impl_machineReader_line;have hS:=v_SplitWords l hl;rw [hw] at hS;obtain ⟨L,hwd,hLe⟩:∃ L,Wd L [w0,w1,w2,w3,w4,w5]∧[w0,w1,w2,w3,w4,w5].map rS=L:=⟨_,wd_map _,rfl⟩
  have hz:∀ x,x∈[w0,w1,w2,w3,w4,w5]→x.size≤1048576:=fun x hx=>by rw [← hw] at hx;have:=wordsB_size hx;omega
  rw [hLe] at hS;have lw:(L.length:Int)=6:=by rw [hwd.len];rfl
  have e0:L[Int.toNat 0]?=some [.v (.string w0)]:=hwd.at' 0 (by simp);have e1:L[Int.toNat 1]?=some [.v (.string w1)]:=hwd.at' 1 (by simp);have e2:L[Int.toNat 2]?=some [.v (.string w2)]:=hwd.at' 2 (by simp);have e3:L[Int.toNat 3]?=some [.v (.string w3)]:=hwd.at' 3 (by simp);have e4:L[Int.toNat 4]?=some [.v (.string w4)]:=hwd.at' 4 (by simp);have e5:L[Int.toNat 5]?=some [.v (.string w5)]:=hwd.at' 5 (by simp);have hc1:decide (w0=(⟨⟨[109,111,118,101]⟩⟩:ByteArray))=true:=hc1;have he1:decide (w4=(⟨⟨[101,97,115,116]⟩⟩:ByteArray))=false:=he1;have hs1:decide (w4=(⟨⟨[119,101,115,116]⟩⟩:ByteArray))=true:=hs1;have n6:decide ((6:Int)=6)=true:=rfl;have hv:=v_readNumbers [w1,w2,w3,w5] (fun x hx=>hz x (by simp only [List.mem_cons,List.not_mem_nil,or_false] at hx ⊢;rcases hx with h | h | h | h <;> simp [h])) (by simp);rw [h2] at hv;simp only [Option.getD_some,Option.isSome_some] at hv;have e4q:L[4]?=some [.v (.string w4)]:=e4;simp -implicitDefEqProofs (disch:=omega) only [go_sem,↓reduceIte];refine call_B (hS) (by simp -implicitDefEqProofs (disch:=omega) only [go_sem,↓reduceIte,deep,TD.rows,immLL_rI,immLL_rB8,immLL_rS,immLL_rBo,immLL_rII,immLL_rIIt,n6,lw,e0,e1,e2,e3,e4,e5,Int.le_refl,Int.reduceLE,Int.reduceLT,hc1,he1,hs1];exact rfl) ?_;simp -implicitDefEqProofs (disch:=omega) only [go_sem,↓reduceIte ,n6,lw,e0,e1,e2,e3,e4,e5,Int.le_refl,Int.reduceLE,Int.reduceLT,hc1,he1,hs1];refine call_IB (hv) (by simp -implicitDefEqProofs (disch:=omega) only [go_sem,↓reduceIte,deep,TD.rows,immLL_rI,immLL_rB8,immLL_rS,immLL_rBo,immLL_rII,immLL_rIIt];exact rfl) ?_;simp -implicitDefEqProofs (disch:=omega) only [go_sem,↓reduceIte ,D.imm,immL,immLL];simp (maxSteps:=4000000) -implicitDefEqProofs (disch:=omega) only [go_sem,↓reduceIte ,rI,Int.cast_ofNat_Int,Int.reduceToNat,Int.le_refl,Int.reduceLE,Int.reduceLT,lw,e4q,he1,hs1];exact ⟨by rw [List.length_map];omega,by rw [List.map_append];rfl⟩
end Go.Proofs.YtjkbngjiagknkaaGreatDoor
