/- Laws that the proof stands on. -/
import Derived.Shelf.Strings.FieldsFuncAny
import Derived.Test.YtjkbngjiagknkaaGreatDoorZg6
import Derived.Test.YtjkbngjiagknkaaGreatDoorZVRdL
import Derived.Test.YtjkbngjiagknkaaGreatDoorZg17
import Derived.Test.YtjkbngjiagknkaaGreatDoorZVTab
set_option linter.all false
namespace Go.Proofs.YtjkbngjiagknkaaGreatDoor
open Go.RowKit Go.V
attribute [local go_sem] List.getElem?_cons_succ List.getElem?_cons_zero List.set_cons_succ List.set_cons_zero List.map_cons List.map_nil List.length_cons List.length_nil List.all_cons List.all_nil List.drop_succ_cons List.drop_zero List.take_succ_cons List.take_zero List.flatMap_cons List.flatMap_nil List.cons_append List.nil_append List.append_nil List.headD_cons Value.oneCell' Bool.and_true Bool.true_and Bool.or_false Bool.false_or Bool.and_self Bool.not_true Bool.not_false and_true true_and beq_self_eq_true Bool.false_eq_true if_true if_false Nat.zero_add Nat.reduceAdd Nat.reduceMul Nat.reduceLeDiff Nat.le_refl _root_.Option.isSome_some _root_.Option.isSome_none not_true_eq_false not_false_eq_true ne_eq reduceCtorEq List.reverse_nil bne_self_eq_false Nat.reduceEqDiff List.isPrefixOf Bool.not_eq_true Bool.and_false Bool.false_and Bool.true_or Bool.or_true decide_true decide_false Nat.reduceBEq Nat.reduceBNe List.replicate_succ List.replicate_zero exists_eq_left' exists_eq_left _root_.Option.some.injEq or_false or_true true_or false_or _root_.Option.map_some _root_.Option.map_none mB Nat.reduceMod Nat.reduceDiv
set_option maxRecDepth 100000
def code_impl_SplitLines:VCode:=(.seq (.ops [
  ⟨(some 2),none,(.asg (.const (.slice none 0 0)))⟩]) (.seq (.ops [
  ⟨(some 3),none,(.alloc [(.slice none 0 0)])⟩]) (.seq (.seq (.ops [
  ⟨(some 5),none,(.mv (.tmp 0))⟩,
  ⟨(some 6),none,(.callX 69 [(.tmp 5)])⟩]) (.block 0 (.rangeF (.tmp 6) [7] (mB 13 8080) (.ops [
  ⟨(some 4),none,(.asg (.tmp 7))⟩]) (.block 1 (.draw (mB 12 3840) [false,false,false,false,false,false,false,false,false,false,true] [⟨0,(mB 12 3840),[],⟨(some 8),none,(.load 1 false (.tmp 3))⟩⟩,⟨1,(mB 12 3840),[],⟨(some 9),none,(.mv (.tmp 4))⟩⟩,⟨2,(mB 12 3328),[],⟨(some 10),none,(.call 70 [(.tmp 9),(.const (.string ⟨⟨[10]⟩⟩))])⟩⟩,⟨3,(mB 12 2304),[false,false,false,false,false,false,false,false,false,false,true],⟨(some 11),none,(.bslN 1 [(.tmp 10)])⟩⟩] [⟨(some 12),none,(.app 1 16 (.tmp 8) (.tmp 11))⟩,⟨none,none,(.store 1 (.tmp 3) (.tmp 12))⟩]))))) (.seq (.ops [
  ⟨(some 13),none,(.load 1 false (.tmp 3))⟩,
  ⟨(some 2),none,(.asg (.tmp 13))⟩]) .ret))))
theorem law_impl_SplitLines {a0 d:D} (h:code_impl_SplitLines.wp (CT Tryz.prog TabG) (endQ [(.t 2)] d) [a0,.undef,.undef,.undef,.undef,.undef,.undef,.undef,.undef,.undef,.undef,.undef,.undef,.undef]):Contract Tryz.prog TabG 34 [a0] d :=
  contract_ofR (pt:=0) tabG Tryz.func34 (fun us W=>by kernel_rfl) (c:=Tryz.f34.body.getD .skip) (ms:=[]) (ms':=[]) (by kernel_rfl) (by kernel_rfl) (by kernel_rfl) (by kernel_rfl) h
def code_impl_SplitWords:VCode:=(.seq (.ops [
  ⟨(some 2),none,(.asg (.const (.slice none 0 0)))⟩]) (.seq (.ops [
  ⟨(some 3),none,(.mv (.tmp 0))⟩,
  ⟨(some 4),none,(.callX 88 [(.tmp 3),(.func 89)])⟩,
  ⟨(some 2),none,(.asg (.tmp 4))⟩]) .ret))
theorem law_impl_SplitWords {a0 d:D} (h:code_impl_SplitWords.wp (CT Tryz.prog TabG) (endQ [(.t 2)] d) [a0,.undef,.undef,.undef,.undef]):Contract Tryz.prog TabG 58 [a0] d :=
  contract_of (pt:=0) tabG Tryz.func58 (fun us W=>by kernel_rfl) (c:=Tryz.f58.body.getD .skip) (ms:=[]) (ms':=[]) (by kernel_rfl) (by kernel_rfl) (by kernel_rfl) h
theorem pcsB_len (b:ByteArray):(pcsB b).length≤b.size+1:=by unfold pcsB;rw [List.length_map];exact lSp_len _ _ _
theorem pcsB_size {b y:ByteArray} (h:y∈pcsB b):y.size≤b.size:=by unfold pcsB at h;obtain ⟨p,_,rfl⟩:=List.mem_map.1 h;unfold pcB;rw [ByteArray.size_extract];omega
def lnI (b:ByteArray) (i:Nat):List ByteArray:=((pcsB b).take i).map fun x=>trimSuf x nl1
theorem lnI_all (b:ByteArray):lnI b (pcsB b).length=linesB b:=by unfold lnI;rw [List.take_length];exact trim_lines b
theorem lnI_next {b:ByteArray} {i:Nat} (h:i < (pcsB b).length):lnI b (i+1)=lnI b i++[trimSuf ((pcsB b)[i]'h) nl1]:=by unfold lnI;rw [List.take_succ,List.getElem?_eq_getElem h,List.map_append];rfl
theorem v_SplitLines (b:ByteArray) (hb:b.size≤1048576):Contract Tryz.prog TabG 34 [.v (.string b)] (.sl true 1 ((linesB b).map rS)):=by
  refine law_impl_SplitLines ?_;unfold code_impl_SplitLines;simp -implicitDefEqProofs (disch:=omega) only [go_sem,↓reduceIte];refine call_B (v_Lines b) (by simp -implicitDefEqProofs (disch:=omega) only [go_sem,↓reduceIte,deep,TD.rows,immLL_rI,immLL_rB8,immLL_rS,immLL_rBo,immLL_rII,immLL_rIIt];exact rfl) ?_;simp -implicitDefEqProofs (disch:=omega) only [go_sem,↓reduceIte];have hit:=it_Lines b hb;have hxs:(pcsB b).map (fun x=>[D.v (.string x)])=(List.range (pcsB b).length).map (fun i=>[D.v (.string ((pcsB b).getD i nl1))]):=by
    refine List.ext_getElem (by simp) (fun i h1 h2=>?_);have hi:i < (pcsB b).length:=by simpa using h1
    simp [List.getElem_map,List.getD_eq_getElem?_getD,hi]
  rw [hxs] at hit;have hpl:=pcsB_len b;refine range_ovO 6 (N:=(pcsB b).length) (by simp -implicitDefEqProofs (disch:=omega) only [go_sem,↓reduceIte];exact rfl) (by rfl) (fun i=>[D.v (.string ((pcsB b).getD i nl1))]) (hit) (fun _ _=>rfl) (by simp -implicitDefEqProofs (disch:=omega) only [go_sem,↓reduceIte];exact rfl) (fun i=>[(3,.box none [.sl true 1 ((lnI b i).map rS)])]) (fun _=>by simp only [ovr_nil,ovr_cons,List.set_cons_zero,List.set_cons_succ];exact rfl) (by rw [show lnI b 0=[] from rfl];(try simp -implicitDefEqProofs only [nleL_cc,nleL_nn,nle_self,nle_boxs,nle_aggs,nle_nils,and_self,and_true,true_and]) <;> repeat' (first | exact nle_of_eq rfl | exact nle_nil | apply And.intro | apply nle_sl | apply nleLL_cons | apply nleL_cons | exact nleL_nil | exact nleLL_nil | apply nle_box | apply nle_agg)) ?_ ?_
  · intro i hi;have hg:(pcsB b).getD i nl1=(pcsB b)[i]:=by rw [List.getD_eq_getElem?_getD,List.getElem?_eq_getElem hi];rfl
    have hsz:=pcsB_size (List.getElem_mem hi);have hT:=v_TrimSuffix (pcsB b)[i] nl1 (by omega) (by decide);have hnx:=lnI_next hi;have hsm:((lnI b i).map rS).length≤1048577:=(by unfold lnI;rw [List.length_map,List.length_map,List.length_take];omega);rw [hg];simp -implicitDefEqProofs (disch:=omega) only [go_sem,↓reduceIte];refine call_NB (hT) (by simp -implicitDefEqProofs (disch:=omega) only [go_sem,↓reduceIte,deep,TD.rows,immLL_rI,immLL_rB8,immLL_rS,immLL_rBo,immLL_rII,immLL_rIIt];exact rfl) ?_;simp -implicitDefEqProofs (disch:=omega) only [go_sem,↓reduceIte];refine ⟨by omega,_,?_,rfl⟩;rw [hnx,List.map_append]
    (try simp -implicitDefEqProofs only [nleL_cc,nleL_nn,nle_self,nle_boxs,nle_aggs,nle_nils,and_self,and_true,true_and]) <;> repeat' (first | exact nle_of_eq rfl | exact nle_nil | apply And.intro | apply nle_sl | apply nleLL_cons | apply nleL_cons | exact nleL_nil | exact nleLL_nil | apply nle_box | apply nle_agg)
  · have:=lnI_all b;simp -implicitDefEqProofs (disch:=omega) only [go_sem,↓reduceIte];rw [this]
theorem rows_S {I:Nat→Prop} {w:World}:∀ (ws:List ByteArray),Go.V.Rows I w 1 (ws.map rS) (ws.map Value.string) []
  | []=>by simp only [List.map_nil,Go.V.Rows];exact ⟨trivial,trivial⟩
  | x::ws=>by simp only [List.map_cons,Go.V.Rows];exact ⟨[.string x],ws.map Value.string,[],[],rfl,rfl,rfl,by simp only [rS,Cells,T];exact ⟨_,[],[],[],rfl,rfl,rfl,⟨rfl,rfl⟩,rfl,rfl⟩,rows_S ws⟩
theorem c_isBl (x:Nat) (W:World):Calls Tryz.prog 89 #[.int .i32 (x:Int)] W fun e w'=>e=.returned (.bool (isBl x))∧∃ q,w'=W.drewN q:=by have e:isBl x=((x:Int)==32):=(by unfold isBl;rw [Bool.eq_iff_iff,beq_iff_eq,beq_iff_eq];omega);rw [e];go_enter Tryz.func89,Tryz.ntmps89;go_wp2;go_ret;exact ⟨rfl,0,rfl⟩
theorem v_FieldsFunc (b:ByteArray) (hb:b.size≤1048576):Contract Tryz.prog TabG 88 [.v (.string b),.fn 89 [] []] (.sl true 1 ((wordsB b).map rS)):=by
  refine ⟨fun us W=>by kernel_rfl,fun w I us hG hI hV=>?_⟩;simp only [Vals,T] at hV;obtain ⟨_,_,_,_,rfl,_,⟨rfl,_⟩,_,_,_,_,rfl,_,⟨_,_,_,_,rfl,_,⟨rfl,_⟩,⟨rfl,_⟩⟩,rfl,_⟩:=hV;have hp:PredAtRunes Tryz.prog 89 #[] isBl w:=fun W x _ _=>by unfold FnGives;exact c_isBl x W
  have hA:=Any.strings_FieldsFunc_runes Tryz.lays229 89 #[] (fun args w=>by kernel_rfl) isBl b w (by omega) hp (by kernel_rfl) (by kernel_rfl);rw [goFields_words] at hA;refine hA.mono ?_;rintro e w' ⟨A,rfl,hA1,⟨_,hown⟩,hB⟩;rcases hown with ⟨h,_⟩ | ⟨g,cap,cur,h1,hg,hh,hc1,hc2,hsz,htk⟩
  · cases h
  · cases h1;have hAl:=(Array.getElem?_eq_some_iff.1 hh).1;refine ⟨_,[A],I,rfl,hB,?_,by simp,?_,fun b h=>h,fun b h=>⟨.inl h,Nat.lt_of_lt_of_le (hI b h) hB.size⟩⟩
    · simp only [T];refine ⟨some ⟨A,0,none⟩,(wordsB b).length,by rw [List.length_map],by rw [List.length_map];exact Nat.le_refl _,hc2,.inr ⟨trivial,.inr ⟨A,0,cur,_,(wordsB b).map Value.string,[],rfl,hh,by omega,fun k v hk=>?_,rfl,rows_S _⟩⟩⟩;rw [cell_row hh,Nat.zero_add];rw [← htk,List.getElem?_take] at hk;split at hk
      · rw [← Array.getElem?_toList];exact hk
      · cases hk
    · intro x hx;rw [List.mem_singleton.1 hx];exact ⟨hA1,hAl,fun h=>by have:=hI _ h;omega⟩
theorem v_SplitWords (b:ByteArray) (hb:b.size≤1048576):Contract Tryz.prog TabG 58 [.v (.string b)] (.sl true 1 ((wordsB b).map rS)):=by refine law_impl_SplitWords ?_;unfold code_impl_SplitWords;simp -implicitDefEqProofs (disch:=omega) only [go_sem,↓reduceIte];refine call_B (v_FieldsFunc b hb) (by simp -implicitDefEqProofs (disch:=omega) only [go_sem,↓reduceIte,deep,TD.rows,immLL_rI,immLL_rB8,immLL_rS,immLL_rBo,immLL_rII,immLL_rIIt];exact rfl) ?_;simp -implicitDefEqProofs (disch:=omega) only [go_sem,↓reduceIte]
@[reducible] def bxF (b:Nat) (c:List D):D:=.box (some b) c
structure Rdr (α:Type) where
  F:FuncId
  cel:α→List D
  st:α→ByteArray→Int × α
  J:Nat→α→Prop
  pr:∀ (q:D→Bool) a,pruneL q (cel a)=cel a
  ni:∀ a,noImmL (cel a)=true
  law:∀ (i:Nat) (a:α) (l:ByteArray),i≤1048576→J i a→l.size≤1048576→ContractX Tryz.prog TabG F 0 [.undef,.v (.string l)] (cel a) (.v (.int .i64 (st a l).1)) (cel (st a l).2)
  next:∀ (i:Nat) (a:α) (l:ByteArray),J i a→(st a l).1=0→J (i+1) (st a l).2
def rdE (t:TypeId):_root_.Option (Nat × Int)→D
  | none=>.v .nilIface
  | some (k,c)=>.mp (.err t) [(.int .i64 (k:Int),.int .i64 c)]
end Go.Proofs.YtjkbngjiagknkaaGreatDoor
