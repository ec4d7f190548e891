/- Laws that the proof stands on. -/
import Derived.Shelf.Strings.FieldsFuncAny
import Derived.Test.YtjkbngjiagknkaaGreatDoorZg5
import Derived.Test.YtjkbngjiagknkaaGreatDoorZVRdL
import Derived.Test.YtjkbngjiagknkaaGreatDoorZg16
import Derived.Test.YtjkbngjiagknkaaGreatDoorZVTab
import Derived.Test.YtjkbngjiagknkaaGreatDoorZg19
set_option linter.all false
namespace Go.Proofs.YtjkbngjiagknkaaGreatDoor
open Go.RowKit Go.V
attribute [local go_sem] List.getElem?_cons_succ List.getElem?_cons_zero List.set_cons_succ List.set_cons_zero List.map_cons List.map_nil List.length_cons List.length_nil List.all_cons List.all_nil List.drop_succ_cons List.drop_zero List.take_succ_cons List.take_zero List.flatMap_cons List.flatMap_nil List.cons_append List.nil_append List.append_nil List.headD_cons Value.oneCell' Bool.and_true Bool.true_and Bool.or_false Bool.false_or Bool.and_self Bool.not_true Bool.not_false and_true true_and beq_self_eq_true Bool.false_eq_true if_true if_false Nat.zero_add Nat.reduceAdd Nat.reduceMul Nat.reduceLeDiff Nat.le_refl Option.isSome_some Option.isSome_none not_true_eq_false not_false_eq_true ne_eq reduceCtorEq List.reverse_nil bne_self_eq_false Nat.reduceEqDiff List.isPrefixOf Bool.not_eq_true Bool.and_false Bool.false_and Bool.true_or Bool.or_true decide_true decide_false Nat.reduceBEq Nat.reduceBNe List.replicate_succ List.replicate_zero exists_eq_left' exists_eq_left Option.some.injEq or_false or_true true_or false_or Option.map_some Option.map_none mB Nat.reduceMod Nat.reduceDiv
set_option maxRecDepth 100000
def code_impl_SplitLines:VCode:=(.seq (.ops [
  ⟨(some 2),none,(.asg (.const (.slice none 0 0)))⟩]) (.seq (.ops [
  ⟨(some 3),none,(.alloc [(.slice none 0 0)])⟩]) (.seq (.seq (.ops [
  ⟨(some 5),none,(.mv (.tmp 0))⟩,
  ⟨(some 6),none,(.callX 69 [(.tmp 5)])⟩]) (.block 0 (.rangeF (.tmp 6) [7] (mB 13 8080) (.ops [
  ⟨(some 4),none,(.asg (.tmp 7))⟩]) (.block 1 (.draw (mB 12 3840) [false,false,false,false,false,false,false,false,false,false,true] [⟨0,(mB 12 3840),[],⟨(some 8),none,(.load 1 false (.tmp 3))⟩⟩,⟨1,(mB 12 3840),[],⟨(some 9),none,(.mv (.tmp 4))⟩⟩,⟨2,(mB 12 3328),[],⟨(some 10),none,(.call 70 [(.tmp 9),(.const (.string ⟨⟨[10]⟩⟩))])⟩⟩,⟨3,(mB 12 2304),[false,false,false,false,false,false,false,false,false,false,true],⟨(some 11),none,(.bslN 1 [(.tmp 10)])⟩⟩] [⟨(some 12),none,(.app 1 16 (.tmp 8) (.tmp 11))⟩,⟨none,none,(.store 1 (.tmp 3) (.tmp 12))⟩]))))) (.seq (.ops [
  ⟨(some 13),none,(.load 1 false (.tmp 3))⟩,
  ⟨(some 2),none,(.asg (.tmp 13))⟩]) .ret))))
theorem law_impl_SplitLines {a0 d:D} (h:code_impl_SplitLines.wp (CT Tryz.prog TabG) (endQ [(.t 2)] d) [a0,.undef,.undef,.undef,.undef,.undef,.undef,.undef,.undef,.undef,.undef,.undef,.undef,.undef]):Contract Tryz.prog TabG 34 [a0] d :=
  contract_ofR (pt:=0) tabG Tryz.func34 (fun us W=>by kernel_rfl) (c:=Tryz.f34.body.getD .skip) (ms:=[]) (ms':=[]) (by kernel_rfl) (by kernel_rfl) (by kernel_rfl) (by kernel_rfl) h
def code_impl_SplitWords:VCode:=(.seq (.ops [
  ⟨(some 2),none,(.asg (.const (.slice none 0 0)))⟩]) (.seq (.ops [
  ⟨(some 3),none,(.mv (.tmp 0))⟩,
  ⟨(some 4),none,(.callX 88 [(.tmp 3),(.func 89)])⟩,
  ⟨(some 2),none,(.asg (.tmp 4))⟩]) .ret))
theorem law_impl_SplitWords {a0 d:D} (h:code_impl_SplitWords.wp (CT Tryz.prog TabG) (endQ [(.t 2)] d) [a0,.undef,.undef,.undef,.undef]):Contract Tryz.prog TabG 58 [a0] d :=
  contract_of (pt:=0) tabG Tryz.func58 (fun us W=>by kernel_rfl) (c:=Tryz.f58.body.getD .skip) (ms:=[]) (ms':=[]) (by kernel_rfl) (by kernel_rfl) (by kernel_rfl) h
theorem pcsB_len (b:ByteArray):(pcsB b).length≤b.size+1:=by unfold pcsB;rw [List.length_map];exact lSp_len _ _ _
theorem pcsB_size {b y:ByteArray} (h:y∈pcsB b):y.size≤b.size:=by unfold pcsB at h;obtain ⟨p,_,rfl⟩:=List.mem_map.1 h;unfold pcB;rw [ByteArray.size_extract];omega
def lnI (b:ByteArray) (i:Nat):List ByteArray:=((pcsB b).take i).map fun x=>trimSuf x nl1
theorem lnI_all (b:ByteArray):lnI b (pcsB b).length=linesB b:=by unfold lnI;rw [List.take_length];exact trim_lines b
theorem lnI_next {b:ByteArray} {i:Nat} (h:i < (pcsB b).length):lnI b (i+1)=lnI b i++[trimSuf ((pcsB b)[i]'h) nl1]:=by unfold lnI;rw [List.take_succ,List.getElem?_eq_getElem h,List.map_append];rfl
theorem v_SplitLines (b:ByteArray) (hb:b.size≤1048576):Contract Tryz.prog TabG 34 [.v (.string b)] (.sl true 1 ((linesB b).map rS)):=by
  refine law_impl_SplitLines ?_;unfold code_impl_SplitLines;simp -implicitDefEqProofs (disch:=omega) only [go_sem,↓reduceIte];refine call_B (v_Lines b) (by simp -implicitDefEqProofs (disch:=omega) only [go_sem,↓reduceIte,deep,TD.rows,immLL_rI,immLL_rB8,immLL_rS,immLL_rBo,immLL_rII,immLL_rIIt];exact rfl) ?_;simp -implicitDefEqProofs (disch:=omega) only [go_sem,↓reduceIte];have hit:=it_Lines b hb;have hxs:(pcsB b).map (fun x=>[D.v (.string x)])=(List.range (pcsB b).length).map (fun i=>[D.v (.string ((pcsB b).getD i nl1))]):=by
    refine List.ext_getElem (by simp) (fun i h1 h2=>?_);have hi:i < (pcsB b).length:=by simpa using h1
    simp [List.getElem_map,List.getD_eq_getElem?_getD,hi]
  rw [hxs] at hit;have hpl:=pcsB_len b;refine range_ovO 6 (N:=(pcsB b).length) (by simp -implicitDefEqProofs (disch:=omega) only [go_sem,↓reduceIte];exact rfl) (by rfl) (fun i=>[D.v (.string ((pcsB b).getD i nl1))]) (hit) (fun _ _=>rfl) (by simp -implicitDefEqProofs (disch:=omega) only [go_sem,↓reduceIte];exact rfl) (fun i=>[(3,.box none [.sl true 1 ((lnI b i).map rS)])]) (fun _=>by simp only [ovr_nil,ovr_cons,List.set_cons_zero,List.set_cons_succ];exact rfl) (by rw [show lnI b 0=[] from rfl];(try simp -implicitDefEqProofs only [nleL_cc,nleL_nn,nle_self,nle_boxs,nle_aggs,nle_nils,and_self,and_true,true_and]) <;> repeat' (first | exact nle_of_eq rfl | exact nle_nil | apply And.intro | apply nle_sl | apply nleLL_cons | apply nleL_cons | exact nleL_nil | exact nleLL_nil | apply nle_box | apply nle_agg)) ?_ ?_
  · intro i hi;have hg:(pcsB b).getD i nl1=(pcsB b)[i]:=by rw [List.getD_eq_getElem?_getD,List.getElem?_eq_getElem hi];rfl
    have hsz:=pcsB_size (List.getElem_mem hi);have hT:=v_TrimSuffix (pcsB b)[i] nl1 (by omega) (by decide);have hnx:=lnI_next hi;have hsm:((lnI b i).map rS).length≤1048577:=(by unfold lnI;rw [List.length_map,List.length_map,List.length_take];omega);rw [hg];simp -implicitDefEqProofs (disch:=omega) only [go_sem,↓reduceIte];refine call_NB (hT) (by simp -implicitDefEqProofs (disch:=omega) only [go_sem,↓reduceIte,deep,TD.rows,immLL_rI,immLL_rB8,immLL_rS,immLL_rBo,immLL_rII,immLL_rIIt];exact rfl) ?_;simp -implicitDefEqProofs (disch:=omega) only [go_sem,↓reduceIte];refine ⟨by omega,_,?_,rfl⟩;rw [hnx,List.map_append]
    (try simp -implicitDefEqProofs only [nleL_cc,nleL_nn,nle_self,nle_boxs,nle_aggs,nle_nils,and_self,and_true,true_and]) <;> repeat' (first | exact nle_of_eq rfl | exact nle_nil | apply And.intro | apply nle_sl | apply nleLL_cons | apply nleL_cons | exact nleL_nil | exact nleLL_nil | apply nle_box | apply nle_agg)
  · have:=lnI_all b;simp -implicitDefEqProofs (disch:=omega) only [go_sem,↓reduceIte];rw [this]
theorem rows_S {I:Nat→Prop} {w:World}:∀ (ws:List ByteArray),Go.V.Rows I w 1 (ws.map rS) (ws.map Value.string) []
  | []=>by simp only [List.map_nil,Go.V.Rows];exact ⟨trivial,trivial⟩
  | x::ws=>by simp only [List.map_cons,Go.V.Rows];exact ⟨[.string x],ws.map Value.string,[],[],rfl,rfl,rfl,by simp only [rS,Cells,T];exact ⟨_,[],[],[],rfl,rfl,rfl,⟨rfl,rfl⟩,rfl,rfl⟩,rows_S ws⟩
theorem c_isBl (x:Nat) (W:World):Calls Tryz.prog 89 #[.int .i32 (x:Int)] W fun e w'=>e=.returned (.bool (isBl x))∧∃ q,w'=W.drewN q:=by have e:isBl x=((x:Int)==32):=(by unfold isBl;rw [Bool.eq_iff_iff,beq_iff_eq,beq_iff_eq];omega);rw [e];go_enter Tryz.func89,Tryz.ntmps89;go_wp2;go_ret;exact ⟨rfl,0,rfl⟩
theorem v_FieldsFunc (b:ByteArray) (hb:b.size≤1048576):Contract Tryz.prog TabG 88 [.v (.string b),.fn 89 [] []] (.sl true 1 ((wordsB b).map rS)):=by
  refine ⟨fun us W=>by kernel_rfl,fun w I us hG hI hV=>?_⟩;simp only [Vals,T] at hV;obtain ⟨_,_,_,_,rfl,_,⟨rfl,_⟩,_,_,_,_,rfl,_,⟨_,_,_,_,rfl,_,⟨rfl,_⟩,⟨rfl,_⟩⟩,rfl,_⟩:=hV;have hp:PredAtRunes Tryz.prog 89 #[] isBl w:=fun W x _ _=>by unfold FnGives;exact c_isBl x W
  have hA:=Any.strings_FieldsFunc_runes Tryz.lays229 89 #[] (fun args w=>by kernel_rfl) isBl b w (by omega) hp (by kernel_rfl) (by kernel_rfl);rw [goFields_words] at hA;refine hA.mono ?_;rintro e w' ⟨A,rfl,hA1,⟨_,hown⟩,hB⟩;rcases hown with ⟨h,_⟩ | ⟨g,cap,cur,h1,hg,hh,hc1,hc2,hsz,htk⟩
  · cases h
  · cases h1;have hAl:=(Array.getElem?_eq_some_iff.1 hh).1;refine ⟨_,[A],I,rfl,hB,?_,by simp,?_,fun b h=>h,fun b h=>⟨.inl h,Nat.lt_of_lt_of_le (hI b h) hB.size⟩⟩
    · simp only [T];refine ⟨some ⟨A,0,none⟩,(wordsB b).length,by rw [List.length_map],by rw [List.length_map];exact Nat.le_refl _,hc2,.inr ⟨trivial,.inr ⟨A,0,cur,_,(wordsB b).map Value.string,[],rfl,hh,by omega,fun k v hk=>?_,rfl,rows_S _⟩⟩⟩;rw [cell_row hh,Nat.zero_add];rw [← htk,List.getElem?_take] at hk;split at hk
      · rw [← Array.getElem?_toList];exact hk
      · cases hk
    · intro x hx;rw [List.mem_singleton.1 hx];exact ⟨hA1,hAl,fun h=>by have:=hI _ h;omega⟩
theorem v_SplitWords (b:ByteArray) (hb:b.size≤1048576):Contract Tryz.prog TabG 58 [.v (.string b)] (.sl true 1 ((wordsB b).map rS)):=by refine law_impl_SplitWords ?_;unfold code_impl_SplitWords;simp -implicitDefEqProofs (disch:=omega) only [go_sem,↓reduceIte];refine call_B (v_FieldsFunc b hb) (by simp -implicitDefEqProofs (disch:=omega) only [go_sem,↓reduceIte,deep,TD.rows,immLL_rI,immLL_rB8,immLL_rS,immLL_rBo,immLL_rII,immLL_rIIt];exact rfl) ?_;simp -implicitDefEqProofs (disch:=omega) only [go_sem,↓reduceIte]
def rsD (s:TileSet):List D:=[.sl true 2 (s.Glues.map (Glue.td.d true)),.sl true 2 (s.Tiles.map (Tile.td.d true))]
def code_impl_setReader_line:VCode:=(.seq (.ops [
  ⟨(some 4),none,(.asg (.const (.int .i64 0)))⟩]) (.seq (.ops [
  ⟨(some 12),none,(.mv (.tmp 1))⟩,
  ⟨(some 13),none,(.callX 58 [(.tmp 12)])⟩,
  ⟨(some 5),none,(.asg (.tmp 13))⟩]) (.seq (.block 0 (.seq (.ops [
  ⟨(some 15),none,(.mv (.tmp 5))⟩,
  ⟨(some 16),none,(.len (.tmp 15))⟩,
  ⟨(some 17),none,(.bin .eql (.tmp 16) (.const (.int .i64 3)))⟩,
  ⟨(some 18),none,(.mv (.tmp 17))⟩,
  ⟨(some 19),(some (18,true)),(.mv (.tmp 5))⟩,
  ⟨(some 20),(some (18,true)),(.ia 1 (.tmp 19) (.const (.int .i64 0)))⟩,
  ⟨(some 21),(some (18,true)),(.load 1 false (.tmp 20))⟩,
  ⟨(some 22),(some (18,true)),(.bin .eql (.tmp 21) (.const (.string ⟨⟨[103,108,117,101]⟩⟩)))⟩,
  ⟨(some 23),none,(.pick (.tmp 18) (.tmp 22) (.const (.bool false)))⟩,
  ⟨(some 24),none,(.mv (.tmp 23))⟩,
  ⟨(some 25),(some (24,true)),(.mv (.tmp 0))⟩,
  ⟨(some 26),(some (24,true)),(.nilc (.tmp 25))⟩,
  ⟨(some 27),(some (24,true)),(.fa 0 (.tmp 26))⟩,
  ⟨(some 28),(some (24,true)),(.fa 1 (.tmp 27))⟩,
  ⟨(some 29),(some (24,true)),(.load 1 false (.tmp 28))⟩,
  ⟨(some 30),(some (24,true)),(.len (.tmp 29))⟩,
  ⟨(some 31),(some (24,true)),(.bin .eql (.tmp 30) (.const (.int .i64 0)))⟩,
  ⟨(some 32),none,(.pick (.tmp 24) (.tmp 31) (.const (.bool false)))⟩,
  ⟨(some 14),none,(.asg (.tmp 32))⟩]) (.cond (.tmp 14) (.seq (.ops [
  ⟨(some 34),none,(.mv (.tmp 5))⟩,
  ⟨(some 35),none,(.ia 1 (.tmp 34) (.const (.int .i64 2)))⟩,
  ⟨(some 36),none,(.load 1 false (.tmp 35))⟩,
  ⟨(some 37),none,(.callX 75 [(.tmp 36)])⟩,
  ⟨(some 33),none,(.mv (.tmp 37))⟩,
  ⟨(some 38),none,(.ext (.tmp 33) 0)⟩,
  ⟨(some 39),none,(.ext (.tmp 33) 1)⟩,
  ⟨(some 6),none,(.asg (.tmp 38))⟩,
  ⟨(some 7),none,(.asg (.tmp 39))⟩]) (.seq (.seq (.ops [
  ⟨(some 40),none,(.mv (.tmp 7))⟩,
  ⟨(some 41),none,(.un .not (.tmp 40))⟩]) (.cond (.tmp 41) (.seq (.ops [
  ⟨(some 4),none,(.asg (.const (.int .i64 6)))⟩]) .ret) .skip)) (.seq (.drawW (mB 55 36024398972452864) (mB 54 17029236090994688) [⟨1,(mB 55 36024398972452864),[],⟨(some 43),none,(.mv (.tmp 0))⟩⟩,⟨2,(mB 55 36015602879430656),[],⟨(some 44),none,(.nilc (.tmp 43))⟩⟩,⟨3,(mB 55 35998010693386240),[],⟨(some 45),none,(.fa 0 (.tmp 44))⟩⟩,⟨4,(mB 55 35962826321297408),[],⟨(some 46),none,(.fa 0 (.tmp 45))⟩⟩,⟨5,(mB 55 35892457577119744),[],⟨(some 47),none,(.load 1 false (.tmp 46))⟩⟩,⟨6,(mB 55 36024398972452864),[],⟨(some 48),none,(.mv (.tmp 5))⟩⟩,⟨7,(mB 55 35742923995742208),[],⟨(some 49),none,(.ia 1 (.tmp 48) (.const (.int .i64 1)))⟩⟩,⟨8,(mB 55 35179974042320896),[],⟨(some 50),none,(.load 1 false (.tmp 49))⟩⟩,⟨9,(mB 55 36024398972452864),[],⟨(some 51),none,(.mv (.tmp 6))⟩⟩,⟨10,(mB 55 31802274321793024),(mB 52 3377699720527872),⟨(some 52),none,(.build [(.string ⟨⟨[]⟩⟩),(.int .i64 0)] [(0,1,(.tmp 50)),(1,1,(.tmp 51))])⟩⟩,⟨11,(mB 55 30676374414950400),(mB 53 4503599627370496),⟨(some 53),none,(.bslN 2 [(.tmp 52)])⟩⟩] ⟨12,(mB 55 25900095903891456),(mB 54 9147936743096320),⟨(some 54),none,(.app 2 24 (.tmp 47) (.tmp 53))⟩⟩ [⟨0,(mB 55 36024398972452864),[],⟨(some 42),none,(.mv (.tmp 0))⟩⟩] [⟨(some 55),none,(.nilc (.tmp 42))⟩,⟨(some 56),none,(.fa 0 (.tmp 55))⟩,⟨(some 57),none,(.fa 0 (.tmp 56))⟩,⟨none,none,(.store 1 (.tmp 57) (.tmp 54))⟩]) (.seq (.ops [
  ⟨(some 4),none,(.asg (.const (.int .i64 0)))⟩]) .ret)))) (.seq (.ops [
  ⟨(some 59),none,(.mv (.tmp 5))⟩,
  ⟨(some 60),none,(.len (.tmp 59))⟩,
  ⟨(some 61),none,(.bin .neq (.tmp 60) (.const (.int .i64 6)))⟩,
  ⟨(some 62),none,(.mv (.tmp 61))⟩,
  ⟨(some 63),(some (62,false)),(.mv (.tmp 5))⟩,
  ⟨(some 64),(some (62,false)),(.ia 1 (.tmp 63) (.const (.int .i64 0)))⟩,
  ⟨(some 65),(some (62,false)),(.load 1 false (.tmp 64))⟩,
  ⟨(some 66),(some (62,false)),(.bin .neq (.tmp 65) (.const (.string ⟨⟨[116,105,108,101]⟩⟩)))⟩,
  ⟨(some 67),none,(.pick (.tmp 62) (.const (.bool true)) (.tmp 66))⟩,
  ⟨(some 58),none,(.asg (.tmp 67))⟩]) (.cond (.tmp 58) (.seq (.ops [
  ⟨(some 4),none,(.asg (.const (.int .i64 6)))⟩]) .ret) .skip))))) (.seq (.ops [
  ⟨(some 68),none,(.mv (.tmp 5))⟩,
  ⟨(some 69),none,(.ia 1 (.tmp 68) (.const (.int .i64 1)))⟩,
  ⟨(some 70),none,(.load 1 false (.tmp 69))⟩,
  ⟨(some 71),none,(.build [(.string ⟨⟨[]⟩⟩),(.slice none 0 0)] [(0,1,(.tmp 70))])⟩,
  ⟨(some 8),none,(.alloc [(.string ⟨⟨[]⟩⟩),(.slice none 0 0)])⟩,
  ⟨none,none,(.store 2 (.tmp 8) (.tmp 71))⟩]) (.seq (.seq (.ops [
  ⟨(some 72),none,(.mv (.tmp 5))⟩,
  ⟨(some 73),none,(.slc 1 (.tmp 72) (some (.const (.int .i64 2))) none none)⟩,
  ⟨(some 74),none,(.len (.tmp 73))⟩,
  ⟨(some 75),none,(.mv (.const (.int .i64 0)))⟩]) (.block 1 (.loop (mB 108 324518553587591229540111342362334) (.seq (.ops [
  ⟨(some 76),none,(.bin .lss (.tmp 75) (.tmp 74))⟩]) (.seq (.cond (.tmp 76) .skip (.exit 1)) (.seq (.block 2 (.seq (.ops [
  ⟨(some 77),none,(.ia 1 (.tmp 73) (.tmp 75))⟩,
  ⟨(some 78),none,(.load 1 false (.tmp 77))⟩,
  ⟨(some 10),none,(.asg (.tmp 78))⟩]) (.seq (.ops [
  ⟨(some 11),none,(.asg (.const (.int .i64 0)))⟩]) (.seq (.seq (.ops [
  ⟨(some 79),none,(.mv (.tmp 10))⟩,
  ⟨(some 80),none,(.bin .neq (.tmp 79) (.const (.string ⟨⟨[45]⟩⟩)))⟩]) (.cond (.tmp 80) (.seq (.ops [
  ⟨(some 81),none,(.mv (.tmp 0))⟩,
  ⟨(some 82),none,(.nilc (.tmp 81))⟩,
  ⟨(some 83),none,(.fa 0 (.tmp 82))⟩,
  ⟨(some 84),none,(.load 2 true (.tmp 83))⟩,
  ⟨(some 85),none,(.mv (.tmp 10))⟩,
  ⟨(some 86),none,(.callX 76 [(.tmp 84),(.tmp 85)])⟩,
  ⟨(some 11),none,(.asg (.tmp 86))⟩]) (.seq (.ops [
  ⟨(some 87),none,(.mv (.tmp 11))⟩,
  ⟨(some 88),none,(.bin .eql (.tmp 87) (.const (.int .i64 0)))⟩]) (.cond (.tmp 88) (.seq (.ops [
  ⟨(some 4),none,(.asg (.const (.int .i64 3)))⟩]) .ret) .skip))) .skip)) (.ops [
  ⟨(some 89),none,(.fa 1 (.tmp 8))⟩,
  ⟨(some 90),none,(.load 1 false (.tmp 89))⟩,
  ⟨(some 91),none,(.mv (.tmp 11))⟩,
  ⟨(some 92),none,(.bsl 1 [(.tmp 91)])⟩,
  ⟨(some 93),none,(.app 1 8 (.tmp 90) (.tmp 92))⟩,
  ⟨(some 94),none,(.fa 1 (.tmp 8))⟩,
  ⟨none,none,(.store 1 (.tmp 94) (.tmp 93))⟩]))))) (.ops [
  ⟨(some 95),none,(.bin .add (.tmp 75) (.const (.int .i64 1)))⟩,
  ⟨(some 75),none,(.mv (.tmp 95))⟩]))))))) (.seq (.drawT (.h 0 ⟨(some 96),none,(.mv (.tmp 0))⟩ (.h 1 ⟨(some 97),none,(.mv (.tmp 0))⟩ (.br 2 ⟨(some 98),none,(.nilc (.tmp 97))⟩ (.h 3 ⟨(some 99),none,(.fa 0 (.tmp 98))⟩ (.h 4 ⟨(some 100),none,(.fa 1 (.tmp 99))⟩ (.br 5 ⟨(some 101),none,(.load 1 false (.tmp 100))⟩ (.br 6 ⟨(some 102),none,(.load 2 true (.tmp 8))⟩ (.br 7 ⟨(some 103),none,(.bsl 2 [(.tmp 102)])⟩ (.br 8 ⟨(some 104),none,(.app 2 40 (.tmp 101) (.tmp 103))⟩ .done .nil) .nil) .nil) (.br 6 ⟨(some 102),none,(.load 2 true (.tmp 8))⟩ (.br 5 ⟨(some 101),none,(.load 1 false (.tmp 100))⟩ (.br 7 ⟨(some 103),none,(.bsl 2 [(.tmp 102)])⟩ (.br 8 ⟨(some 104),none,(.app 2 40 (.tmp 101) (.tmp 103))⟩ .done .nil) .nil) (.br 7 ⟨(some 103),none,(.bsl 2 [(.tmp 102)])⟩ (.br 5 ⟨(some 101),none,(.load 1 false (.tmp 100))⟩ (.br 8 ⟨(some 104),none,(.app 2 40 (.tmp 101) (.tmp 103))⟩ .done .nil) .nil) .nil)) .nil)))) (.br 6 ⟨(some 102),none,(.load 2 true (.tmp 8))⟩ (.br 2 ⟨(some 98),none,(.nilc (.tmp 97))⟩ (.h 3 ⟨(some 99),none,(.fa 0 (.tmp 98))⟩ (.h 4 ⟨(some 100),none,(.fa 1 (.tmp 99))⟩ (.br 5 ⟨(some 101),none,(.load 1 false (.tmp 100))⟩ (.br 7 ⟨(some 103),none,(.bsl 2 [(.tmp 102)])⟩ (.br 8 ⟨(some 104),none,(.app 2 40 (.tmp 101) (.tmp 103))⟩ .done .nil) .nil) (.br 7 ⟨(some 103),none,(.bsl 2 [(.tmp 102)])⟩ (.br 5 ⟨(some 101),none,(.load 1 false (.tmp 100))⟩ (.br 8 ⟨(some 104),none,(.app 2 40 (.tmp 101) (.tmp 103))⟩ .done .nil) .nil) .nil)))) (.br 7 ⟨(some 103),none,(.bsl 2 [(.tmp 102)])⟩ (.br 2 ⟨(some 98),none,(.nilc (.tmp 97))⟩ (.h 3 ⟨(some 99),none,(.fa 0 (.tmp 98))⟩ (.h 4 ⟨(some 100),none,(.fa 1 (.tmp 99))⟩ (.br 5 ⟨(some 101),none,(.load 1 false (.tmp 100))⟩ (.br 8 ⟨(some 104),none,(.app 2 40 (.tmp 101) (.tmp 103))⟩ .done .nil) .nil))) .nil) .nil)) .nil)))) [⟨(some 105),none,(.nilc (.tmp 96))⟩,⟨(some 106),none,(.fa 0 (.tmp 105))⟩,⟨(some 107),none,(.fa 1 (.tmp 106))⟩,⟨none,none,(.store 1 (.tmp 107) (.tmp 104))⟩]) (.seq (.ops [
  ⟨(some 4),none,(.asg (.const (.int .i64 0)))⟩]) .ret)))))))
theorem law_impl_setReader_line {a0 a1 d:D} {cells cells':List D} (h:∀ b,code_impl_setReader_line.wp (CT Tryz.prog TabG) (endX [(.t 4)] d 0 b cells') [.box (some b) cells,a1,.undef,.undef,.undef,.undef,.undef,.undef,.undef,.undef,.undef,.undef,.undef,.undef,.undef,.undef,.undef,.undef,.undef,.undef,.undef,.undef,.undef,.undef,.undef,.undef,.undef,.undef,.undef,.undef,.undef,.undef,.undef,.undef,.undef,.undef,.undef,.undef,.undef,.undef,.undef,.undef,.undef,.undef,.undef,.undef,.undef,.undef,.undef,.undef,.undef,.undef,.undef,.undef,.undef,.undef,.undef,.undef,.undef,.undef,.undef,.undef,.undef,.undef,.undef,.undef,.undef,.undef,.undef,.undef,.undef,.undef,.undef,.undef,.undef,.undef,.undef,.undef,.undef,.undef,.undef,.undef,.undef,.undef,.undef,.undef,.undef,.undef,.undef,.undef,.undef,.undef,.undef,.undef,.undef,.undef,.undef,.undef,.undef,.undef,.undef,.undef,.undef,.undef,.undef,.undef,.undef,.undef]):ContractX Tryz.prog TabG 45 0 [a0,a1] cells d cells' :=
  contract_ofX (pt:=13194139533312) tabG Tryz.func45 (fun us W=>by kernel_rfl) (c:=Tryz.f45.body.getD .skip) (ms:=[(mB 108 324518553587591229540111342362334)]) (ms':=[]) (by kernel_rfl) (by kernel_rfl) (by kernel_rfl) (by simp) h
set_option maxHeartbeats 40000000 in
theorem v_srl_no (s:TileSet) (l:ByteArray) (hl:l.size≤1048576) (h3:(wordsB l).length≠3) (h6:(wordsB l).length≠6) :
    ContractX Tryz.prog TabG 45 0 [.undef,.v (.string l)] (rsD s) (.v (.int .i64 6)) (rsD s):=by
  unfold rsD
  try simp only []
  refine law_impl_setReader_line ?_;intro bb;unfold code_impl_setReader_line;have hS:=v_SplitWords l hl;have d3:decide (((wordsB l).length:Int)=3)=false:=decide_eq_false (by omega);have d6:decide (((wordsB l).length:Int)=6)=false:=decide_eq_false (by omega);simp -implicitDefEqProofs (disch:=omega) only [go_sem,↓reduceIte];refine call_B (hS) (by simp -implicitDefEqProofs (disch:=omega) only [go_sem,↓reduceIte,deep,TD.rows,immLL_rI,immLL_rB8,immLL_rS,immLL_rBo,immLL_rII,immLL_rIIt,List.length_map,d3,d6];exact rfl) ?_;simp -implicitDefEqProofs (disch:=omega) only [go_sem,↓reduceIte ,List.length_map,d3,d6]
set_option maxHeartbeats 40000000 in
theorem v_srl_3no (s:TileSet) (l:ByteArray) (hl:l.size≤1048576) (w0 w1 w2:ByteArray) (hw:wordsB l=[w0,w1,w2]) (hg:decide (w0=sGlue)=false) :
    ContractX Tryz.prog TabG 45 0 [.undef,.v (.string l)] (rsD s) (.v (.int .i64 6)) (rsD s):=by
  unfold rsD
  try simp only []
  refine law_impl_setReader_line ?_;intro bb;unfold code_impl_setReader_line;have hS:=v_SplitWords l hl;rw [hw] at hS;obtain ⟨L,hwd,hLe⟩:∃ L,Wd L [w0,w1,w2]∧[w0,w1,w2].map rS=L:=⟨_,wd_map _,rfl⟩
  rw [hLe] at hS;have lw:(L.length:Int)=3:=by rw [hwd.len];rfl
  have e0:L[Int.toNat 0]?=some [.v (.string w0)]:=hwd.at' 0 (by simp);have g1:decide (w0=(⟨⟨[103,108,117,101]⟩⟩:ByteArray))=false:=hg;have n3:decide ((3:Int)=3)=true:=rfl;have n6:decide ((3:Int)=6)=false:=rfl;simp -implicitDefEqProofs (disch:=omega) only [go_sem,↓reduceIte];refine call_B (hS) (by simp -implicitDefEqProofs (disch:=omega) only [go_sem,↓reduceIte,deep,TD.rows,immLL_rI,immLL_rB8,immLL_rS,immLL_rBo,immLL_rII,immLL_rIIt,lw,n3,n6,e0,g1,Int.le_refl,Int.reduceLE,Int.reduceLT];exact rfl) ?_;simp -implicitDefEqProofs (disch:=omega) only [go_sem,↓reduceIte ,lw,n3,n6,e0,g1,Int.le_refl,Int.reduceLE,Int.reduceLT]
set_option maxHeartbeats 40000000 in
theorem v_srl_3late (s:TileSet) (l:ByteArray) (hl:l.size≤1048576) (w0 w1 w2:ByteArray) (hw:wordsB l=[w0,w1,w2]) (hg:decide (w0=sGlue)=true) (ht:s.Tiles.length≠0) :
    ContractX Tryz.prog TabG 45 0 [.undef,.v (.string l)] (rsD s) (.v (.int .i64 6)) (rsD s):=by
  unfold rsD
  try simp only []
  refine law_impl_setReader_line ?_;intro bb;unfold code_impl_setReader_line;have hS:=v_SplitWords l hl;rw [hw] at hS;obtain ⟨L,hwd,hLe⟩:∃ L,Wd L [w0,w1,w2]∧[w0,w1,w2].map rS=L:=⟨_,wd_map _,rfl⟩
  rw [hLe] at hS;have lw:(L.length:Int)=3:=by rw [hwd.len];rfl
  have e0:L[Int.toNat 0]?=some [.v (.string w0)]:=hwd.at' 0 (by simp);have g1:decide (w0=(⟨⟨[103,108,117,101]⟩⟩:ByteArray))=true:=hg;have n3:decide ((3:Int)=3)=true:=rfl;have n6:decide ((3:Int)=6)=false:=rfl;have dt:decide ((s.Tiles.length:Int)=0)=false:=decide_eq_false (by omega);simp -implicitDefEqProofs (disch:=omega) only [go_sem,↓reduceIte];refine call_B (hS) (by simp -implicitDefEqProofs (disch:=omega) only [go_sem,↓reduceIte,deep,TD.rows,immLL_rI,immLL_rB8,immLL_rS,immLL_rBo,immLL_rII,immLL_rIIt,lw,n3,n6,e0,g1,Int.le_refl,Int.reduceLE,Int.reduceLT,List.length_map,dt];exact rfl) ?_;simp -implicitDefEqProofs (disch:=omega) only [go_sem,↓reduceIte ,lw,n3,n6,e0,g1,Int.le_refl,Int.reduceLE,Int.reduceLT,List.length_map,dt]
set_option maxHeartbeats 40000000 in
theorem v_srl_3 (s:TileSet) (l:ByteArray) (hl:l.size≤1048576) (w0 w1 w2:ByteArray) (hw:wordsB l=[w0,w1,w2]) (hg:decide (w0=sGlue)=true) (ht:s.Tiles.length=0) (hgl:s.Glues.length≤1048577) :
    ContractX Tryz.prog TabG 45 0 [.undef,.v (.string l)] (rsD s) (.v (.int .i64 (exS s (rsGlue s [w0,w1,w2])).1)) (rsD (exS s (rsGlue s [w0,w1,w2])).2):=by
  unfold rsD
  try simp only []
  refine law_impl_setReader_line ?_;intro bb;unfold code_impl_setReader_line;have hS:=v_SplitWords l hl;rw [hw] at hS;have hz:∀ x,x∈[w0,w1,w2]→x.size≤1048576:=fun x hx=>by rw [← hw] at hx;have:=wordsB_size hx;omega
  have hv:=v_ReadDecimal_impl w2 (hz _ (by simp));obtain ⟨L,hwd,hLe⟩:∃ L,Wd L [w0,w1,w2]∧[w0,w1,w2].map rS=L:=⟨_,wd_map _,rfl⟩
  rw [hLe] at hS;have lw:(L.length:Int)=3:=by rw [hwd.len];rfl
  have e0:L[Int.toNat 0]?=some [.v (.string w0)]:=hwd.at' 0 (by simp);have e1:L[Int.toNat 1]?=some [.v (.string w1)]:=hwd.at' 1 (by simp);have e2:L[Int.toNat 2]?=some [.v (.string w2)]:=hwd.at' 2 (by simp);have g1:decide (w0=(⟨⟨[103,108,117,101]⟩⟩:ByteArray))=true:=hg;have n3:decide ((3:Int)=3)=true:=rfl;have dt:decide ((s.Tiles.length:Int)=0)=true:=decide_eq_true (by omega);cases hr:readD w2 with
  | none=>have hN:rsGlue s [w0,w1,w2]=.error 6:=(by unfold rsGlue;simp only [hr];rw [if_pos ht]);rw [hN];rw [hr] at hv;simp -implicitDefEqProofs (disch:=omega) only [go_sem,↓reduceIte];refine call_B (hS) (by simp -implicitDefEqProofs (disch:=omega) only [go_sem,↓reduceIte,deep,TD.rows,immLL_rI,immLL_rB8,immLL_rS,immLL_rBo,immLL_rII,immLL_rIIt,lw,n3,e0,e2,g1,Int.le_refl,Int.reduceLE,Int.reduceLT,List.length_map,dt];exact rfl) ?_;simp -implicitDefEqProofs (disch:=omega) only [go_sem,↓reduceIte ,lw,n3,e0,e2,g1,Int.le_refl,Int.reduceLE,Int.reduceLT,List.length_map,dt];refine call_B (hv) (by simp -implicitDefEqProofs (disch:=omega) only [go_sem,↓reduceIte,deep,TD.rows,immLL_rI,immLL_rB8,immLL_rS,immLL_rBo,immLL_rII,immLL_rIIt,rdR];exact rfl) ?_;simp -implicitDefEqProofs (disch:=omega) only [go_sem,↓reduceIte ,rdR];exact ⟨rfl,rfl,rfl⟩
  | some n=>have hN:rsGlue s [w0,w1,w2]=.ok ⟨s.Glues++[⟨w1,n⟩],s.Tiles⟩:=(by unfold rsGlue;simp only [hr];rw [if_pos ht]);rw [hN];rw [hr] at hv;simp -implicitDefEqProofs (disch:=omega) only [go_sem,↓reduceIte];refine call_B (hS) (by simp -implicitDefEqProofs (disch:=omega) only [go_sem,↓reduceIte,deep,TD.rows,immLL_rI,immLL_rB8,immLL_rS,immLL_rBo,immLL_rII,immLL_rIIt,lw,n3,e0,e2,g1,Int.le_refl,Int.reduceLE,Int.reduceLT,List.length_map,dt];exact rfl) ?_;simp -implicitDefEqProofs (disch:=omega) only [go_sem,↓reduceIte ,lw,n3,e0,e2,g1,Int.le_refl,Int.reduceLE,Int.reduceLT,List.length_map,dt];refine call_B (hv) (by simp -implicitDefEqProofs (disch:=omega) only [go_sem,↓reduceIte,deep,TD.rows,immLL_rI,immLL_rB8,immLL_rS,immLL_rBo,immLL_rII,immLL_rIIt,rdR,lw,e1,Int.le_refl,Int.reduceLE,Int.reduceLT,List.length_map];exact rfl) ?_;simp -implicitDefEqProofs (disch:=omega) only [go_sem,↓reduceIte ,rdR,lw,e1,Int.le_refl,Int.reduceLE,Int.reduceLT,List.length_map];exact ⟨by omega,rfl,by show _=List.map _ (s.Glues++[⟨w1,n⟩]);rw [List.map_append];rfl,rfl⟩
set_option maxHeartbeats 40000000 in
theorem v_srl_6no (s:TileSet) (l:ByteArray) (hl:l.size≤1048576) (w0 w1 w2 w3 w4 w5:ByteArray) (hw:wordsB l=[w0,w1,w2,w3,w4,w5]) (hg:decide (w0=sTile)=false) :
    ContractX Tryz.prog TabG 45 0 [.undef,.v (.string l)] (rsD s) (.v (.int .i64 6)) (rsD s):=by
  unfold rsD
  try simp only []
  refine law_impl_setReader_line ?_;intro bb;unfold code_impl_setReader_line;have hS:=v_SplitWords l hl;rw [hw] at hS;obtain ⟨L,hwd,hLe⟩:∃ L,Wd L [w0,w1,w2,w3,w4,w5]∧[w0,w1,w2,w3,w4,w5].map rS=L:=⟨_,wd_map _,rfl⟩
  rw [hLe] at hS;have lw:(L.length:Int)=6:=by rw [hwd.len];rfl
  have e0:L[Int.toNat 0]?=some [.v (.string w0)]:=hwd.at' 0 (by simp);have g1:decide (w0=(⟨⟨[116,105,108,101]⟩⟩:ByteArray))=false:=hg;have n3:decide ((6:Int)=3)=false:=rfl;have n6:decide ((6:Int)=6)=true:=rfl;simp -implicitDefEqProofs (disch:=omega) only [go_sem,↓reduceIte];refine call_B (hS) (by simp -implicitDefEqProofs (disch:=omega) only [go_sem,↓reduceIte,deep,TD.rows,immLL_rI,immLL_rB8,immLL_rS,immLL_rBo,immLL_rII,immLL_rIIt,lw,n3,n6,e0,g1,Int.le_refl,Int.reduceLE,Int.reduceLT];exact rfl) ?_;simp -implicitDefEqProofs (disch:=omega) only [go_sem,↓reduceIte ,lw,n3,n6,e0,g1,Int.le_refl,Int.reduceLE,Int.reduceLT]
theorem sideR_t (gs:List Glue) (w:ByteArray):sideR true gs w=if w=sBar then some 0 else if gIdx gs w+1=0 then none else some (gIdx gs w+1):=by
  unfold sideR;by_cases h:w=sBar
  · rw [if_pos h,if_pos (by rw [decide_eq_true h];rfl)]
  · rw [if_neg h,if_neg (by rw [decide_eq_false h];decide)];by_cases hz:gIdx gs w+1=0
    · rw [if_pos hz,if_pos ⟨hz,h⟩]
    · rw [if_neg hz,if_neg (fun e=>hz e.1)]
set_option maxHeartbeats 40000000 in
theorem v_srl_6 (s:TileSet) (l:ByteArray) (hl:l.size≤1048576) (w0 w1 w2 w3 w4 w5:ByteArray) (hw:wordsB l=[w0,w1,w2,w3,w4,w5]) (hg:decide (w0=sTile)=true) (hgl:s.Glues.length≤1048576) (htl:s.Tiles.length≤1048577) :
    ContractX Tryz.prog TabG 45 0 [.undef,.v (.string l)] (rsD s) (.v (.int .i64 (exS s (rsTile true s [w0,w1,w2,w3,w4,w5])).1)) (rsD (exS s (rsTile true s [w0,w1,w2,w3,w4,w5])).2):=by
  have hG:=fun n=>v_glueNamed s.Glues s.Tiles n hgl;unfold rsD
  try simp only []
  refine law_impl_setReader_line ?_;intro bb;unfold code_impl_setReader_line;have hS:=(v_SplitWords l hl).imm;rw [hw] at hS;simp only [D.imm,immLL_rS] at hS;obtain ⟨L,hwd,hLe⟩:∃ L,Wd L [w0,w1,w2,w3,w4,w5]∧[w0,w1,w2,w3,w4,w5].map rS=L:=⟨_,wd_map _,rfl⟩
  rw [hLe] at hS;have lw:(L.length:Int)=6:=by rw [hwd.len];rfl
  have e0:L[Int.toNat 0]?=some [.v (.string w0)]:=hwd.at' 0 (by simp);have e1:L[Int.toNat 1]?=some [.v (.string w1)]:=hwd.at' 1 (by simp);have g1:decide (w0=(⟨⟨[116,105,108,101]⟩⟩:ByteArray))=true:=hg;have n3:decide ((6:Int)=3)=false:=rfl;have n6:decide ((6:Int)=6)=true:=rfl;obtain ⟨M,hmd,hMe⟩:∃ M,Wd M [w2,w3,w4,w5]∧[w2,w3,w4,w5].map rS=M:=⟨_,wd_map _,rfl⟩
  have lM:(M.length:Int)=4:=(by rw [hmd.len];rfl);have drp:List.drop (Int.toNat 2) L=M:=(by rw [← hLe,← hMe];rfl);have tk:List.take (Int.toNat 6 - Int.toNat 2) M=M:=List.take_of_length_le (by rw [hmd.len];show 4≤6 - 2;decide);simp -implicitDefEqProofs (disch:=omega) only [go_sem,↓reduceIte];refine call_B (hS) (by simp -implicitDefEqProofs (disch:=omega) only [go_sem,↓reduceIte,deep,TD.rows,immLL_rI,immLL_rB8,immLL_rS,immLL_rBo,immLL_rII,immLL_rIIt,lw,n3,n6,e0,e1,g1,Int.le_refl,Int.reduceLE,Int.reduceLT,drp,tk,lM];exact rfl) ?_;simp -implicitDefEqProofs (disch:=omega) only [go_sem,↓reduceIte ,lw,n3,n6,e0,e1,g1,Int.le_refl,Int.reduceLE,Int.reduceLT,drp,tk,lM];refine loop_ov (by simp -implicitDefEqProofs (disch:=omega) only [go_sem,↓reduceIte];exact rfl) (fun q:Nat × List Int=>[(8,.box none [.v (.string w1),.sl true 1 (q.2.map rI)]),(75,.v (.int .i64 (q.1:Nat)))]) (fun _=>by simp only [ovr_nil,ovr_cons,List.set_cons_zero,List.set_cons_succ];exact rfl) (fun q:Nat × List Int=>q.1≤4∧sidesR true s.Glues ([w2,w3,w4,w5].take q.1)=some q.2) (fun q:Nat × List Int=>4 - q.1) ((0,[])) (nleA) (?_) ?_
  · exact ⟨Nat.zero_le _,rfl⟩
  rintro ⟨j,l⟩ ⟨hj,hf⟩;simp only at hj hf ⊢;have hll:=(sidesR_rng hf).1;rw [List.length_take] at hll;simp -implicitDefEqProofs (disch:=omega) only [go_sem,↓reduceIte];refine cond_split ?_ ?_ <;> intro hlt
  · have hlt:j < 4:=(by have:=of_decide_eq_true hlt;omega);have hjl:j < [w2,w3,w4,w5].length:=hlt;generalize hx:[w2,w3,w4,w5][j]'hjl=x at *;have ej:M[j]?=some [.v (.string x)]:=(by have:=hmd.at' j hjl;rw [Int.toNat_natCast] at this;rw [this,← hx]);have lj:(j:Int) < 4:=(by omega);have hT:=sidesR_take (bar:=true) (gs:=s.Glues) hjl;rw [hf,hx,sideR_t] at hT;simp only at hT;have hgr:=gIdx_rng s.Glues x;by_cases hb:x=sBar
    · have db:decide (x=(⟨⟨[45]⟩⟩:ByteArray))=true:=decide_eq_true hb;rw [if_pos hb] at hT;simp only at hT;simp -implicitDefEqProofs (disch:=omega) only [go_sem,↓reduceIte ,lM,lw,ej,lj,Int.toNat_natCast,Int.natCast_nonneg,db,wrN];refine ⟨by rw [List.length_map];omega,(j+1,l++[0]),by show 4 - (j+1) < 4 - j;omega,⟨hlt,hT⟩,?_⟩;rw [List.map_append];exact nleA
    · have db:decide (x=(⟨⟨[45]⟩⟩:ByteArray))=false:=decide_eq_false hb;rw [if_neg hb] at hT;by_cases hz:gIdx s.Glues x+1=0
      · have dz:decide (gIdx s.Glues x+1=0)=true:=decide_eq_true hz;have hN:sideR true s.Glues ([w2,w3,w4,w5][j]'hjl)=none:=(by rw [hx,sideR_t,if_neg hb,if_pos hz]);have hR:rsTile true s [w0,w1,w2,w3,w4,w5]=.error 3:=(by unfold rsTile;simp only [sidesR_none hjl hN]);rw [hR];simp -implicitDefEqProofs (disch:=omega) only [go_sem,↓reduceIte ,lM,lw,ej,lj,Int.toNat_natCast,Int.natCast_nonneg,db,wrN];refine call_B (hG x) (by simp -implicitDefEqProofs (disch:=omega) only [go_sem,↓reduceIte,deep,TD.rows,immLL_rI,immLL_rB8,immLL_rS,immLL_rBo,immLL_rII,immLL_rIIt,dz,wrN];exact rfl) ?_;simp -implicitDefEqProofs (disch:=omega) only [go_sem,↓reduceIte ,dz,wrN];exact ⟨rfl,rfl,rfl⟩
      · have dz:decide (gIdx s.Glues x+1=0)=false:=decide_eq_false hz;rw [if_neg hz] at hT;simp only at hT;simp -implicitDefEqProofs (disch:=omega) only [go_sem,↓reduceIte ,lM,lw,ej,lj,Int.toNat_natCast,Int.natCast_nonneg,db,wrN];refine call_B (hG x) (by simp -implicitDefEqProofs (disch:=omega) only [go_sem,↓reduceIte,deep,TD.rows,immLL_rI,immLL_rB8,immLL_rS,immLL_rBo,immLL_rII,immLL_rIIt,dz,wrN];exact rfl) ?_;simp -implicitDefEqProofs (disch:=omega) only [go_sem,↓reduceIte ,dz,wrN];refine ⟨by rw [List.length_map];omega,(j+1,l++[gIdx s.Glues x+1]),by show 4 - (j+1) < 4 - j;omega,⟨hlt,hT⟩,?_⟩;rw [List.map_append];exact nleA
  · have hj4:j=4:=(by have:=of_decide_eq_false hlt;omega);subst hj4;have hR:rsTile true s [w0,w1,w2,w3,w4,w5]=.ok ⟨s.Glues,s.Tiles++[⟨w1,l⟩]⟩:=(by unfold rsTile;simp only;rw [show sidesR true s.Glues [w2,w3,w4,w5]=some l from hf]);rw [hR];have hsm:((s.Tiles.map (Tile.td.d true)).length+1)*41≤2 ^ 40:=(by rw [List.length_map];omega);simp -implicitDefEqProofs (disch:=omega) only [go_sem,↓reduceIte];apply drawT_at
    case h =>
      intro K hK;simp -implicitDefEqProofs (disch:=omega) only [go_sem,↓reduceIte]
      repeat' (first | with_reducible exact hK | with_reducible exact hsm | with_reducible refine And.intro ?_ ?_)
    simp -implicitDefEqProofs (disch:=omega) only [go_sem,↓reduceIte ,tail_app];exact ⟨rfl,rfl,by show _=List.map _ (s.Tiles++[⟨w1,l⟩]);rw [List.map_append];rfl⟩
theorem v_srl (s:TileSet) (l:ByteArray) (hl:l.size≤1048576) (hgl:s.Glues.length≤1048576) (htl:s.Tiles.length≤1048577) :
    ContractX Tryz.prog TabG 45 0 [.undef,.v (.string l)] (rsD s) (.v (.int .i64 (exS s (rsLine true s (wordsB l))).1)) (rsD (exS s (rsLine true s (wordsB l))).2):=by
  by_cases h3:(wordsB l).length=3
  · obtain ⟨w0,w1,w2,hw⟩:=len3 h3;rw [hw];cases hg:decide (w0=sGlue) with
    | true =>
      rw [line_glue (of_decide_eq_true hg)];by_cases ht:s.Tiles.length=0
      · exact v_srl_3 s l hl w0 w1 w2 hw hg ht (by omega)
      · have hN:rsGlue s [w0,w1,w2]=.error 6:=(by unfold rsGlue;simp only;rw [if_neg ht]);rw [hN];exact v_srl_3late s l hl w0 w1 w2 hw hg ht
    | false =>
      have hN:rsLine true s [w0,w1,w2]=.error 6:=by
        unfold rsLine;simp only;rw [if_neg (of_decide_eq_false hg)];split
        · exact rsTile_not (by simp)
        · rfl
      rw [hN];exact v_srl_3no s l hl w0 w1 w2 hw hg
  · by_cases h6:(wordsB l).length=6
    · obtain ⟨w0,w1,w2,w3,w4,w5,hw⟩:=len6 h6;rw [hw];cases hg:decide (w0=sTile) with
      | true=>rw [line_tile (of_decide_eq_true hg)];exact v_srl_6 s l hl w0 w1 w2 w3 w4 w5 hw hg hgl htl
      | false =>
        have hN:rsLine true s [w0,w1,w2,w3,w4,w5]=.error 6:=by
          unfold rsLine;simp only;split
          · exact rsGlue_not (by simp)
          · rw [if_neg (of_decide_eq_false hg)]
        rw [hN];exact v_srl_6no s l hl w0 w1 w2 w3 w4 w5 hw hg
    · have hN:rsLine true s (wordsB l)=.error 6:=by
        unfold rsLine;split
        · rfl
        · rename_i hq;split
          · exact rsGlue_not h3
          · split
            · exact rsTile_not h6
            · rfl
      rw [hN];exact v_srl_no s l hl h3 h6
def code_impl_readLines:VCode:=(.seq (.ops [
  ⟨(some 4),none,(.asg (.const .nilIface))⟩]) (.seq (.seq (.ops [
  ⟨(some 8),none,(.mv (.tmp 0))⟩,
  ⟨(some 9),none,(.callX 34 [(.tmp 8)])⟩,
  ⟨(some 10),none,(.len (.tmp 9))⟩,
  ⟨(some 11),none,(.mv (.const (.int .i64 0)))⟩]) (.block 0 (.loop (mB 28 268431869) (.seq (.ops [
  ⟨(some 12),none,(.bin .lss (.tmp 11) (.tmp 10))⟩]) (.seq (.cond (.tmp 12) .skip (.exit 0)) (.seq (.block 1 (.seq (.ops [
  ⟨(some 13),none,(.mv (.tmp 11))⟩,
  ⟨(some 14),none,(.ia 1 (.tmp 9) (.tmp 11))⟩,
  ⟨(some 15),none,(.load 1 false (.tmp 14))⟩,
  ⟨(some 5),none,(.asg (.tmp 13))⟩,
  ⟨(some 6),none,(.asg (.tmp 15))⟩]) (.seq (.ops [
  ⟨(some 16),none,(.mv (.tmp 1))⟩,
  ⟨(some 17),none,(.mv (.tmp 6))⟩,
  ⟨(some 18),none,(.callvX (.tmp 16) [(.tmp 17)])⟩,
  ⟨(some 7),none,(.asg (.tmp 18))⟩]) (.seq (.ops [
  ⟨(some 19),none,(.mv (.tmp 7))⟩,
  ⟨(some 20),none,(.bin .neq (.tmp 19) (.const (.int .i64 0)))⟩]) (.cond (.tmp 20) (.seq (.ops [
  ⟨(some 21),none,(.mv (.tmp 5))⟩,
  ⟨(some 22),none,(.bin .add (.tmp 21) (.const (.int .i64 1)))⟩,
  ⟨(some 23),none,(.mv (.tmp 7))⟩,
  ⟨(some 24),none,(.build [(.int .i64 0),(.int .i64 0)] [(0,1,(.tmp 22)),(1,1,(.tmp 23))])⟩,
  ⟨(some 25),none,(.box (.tmp 24))⟩,
  ⟨(some 26),none,(.mkif 89 (.tmp 25))⟩,
  ⟨(some 4),none,(.asg (.tmp 26))⟩]) .ret) .skip))))) (.ops [
  ⟨(some 27),none,(.bin .add (.tmp 11) (.const (.int .i64 1)))⟩,
  ⟨(some 11),none,(.mv (.tmp 27))⟩]))))))) (.seq (.ops [
  ⟨(some 4),none,(.asg (.const .nilIface))⟩]) .ret)))
theorem law_impl_readLines {a0 a1 d:D} {F0:FuncId} {cells cells':List D} (h:∀ b,code_impl_readLines.wp (CT Tryz.prog TabG) (endKK [(.t 4)] d 1 b cells') [a0,.fn F0 [.box (some b) cells] [],.undef,.undef,.undef,.undef,.undef,.undef,.undef,.undef,.undef,.undef,.undef,.undef,.undef,.undef,.undef,.undef,.undef,.undef,.undef,.undef,.undef,.undef,.undef,.undef,.undef,.undef]):ContractL Tryz.prog TabG 26 1 [a0,a1] (.fn F0 [.box none cells] []) d (.fn F0 [.box none cells'] []) :=
  contract_ofK (pt:=0) tabG Tryz.func26 (fun us W=>by kernel_rfl) (c:=Tryz.f26.body.getD .skip) (ms:=[(mB 28 268431869)]) (ms':=[]) (by kernel_rfl) (by kernel_rfl) (by kernel_rfl) (by simp) h
@[reducible] def bxF (b:Nat) (c:List D):D:=.box (some b) c
structure Rdr (α:Type) where
  F:FuncId
  cel:α→List D
  st:α→ByteArray→Int × α
  J:Nat→α→Prop
  pr:∀ (q:D→Bool) a,pruneL q (cel a)=cel a
  ni:∀ a,noImmL (cel a)=true
  law:∀ (i:Nat) (a:α) (l:ByteArray),i≤1048576→J i a→l.size≤1048576→ContractX Tryz.prog TabG F 0 [.undef,.v (.string l)] (cel a) (.v (.int .i64 (st a l).1)) (cel (st a l).2)
  next:∀ (i:Nat) (a:α) (l:ByteArray),J i a→(st a l).1=0→J (i+1) (st a l).2
def Rdr.go {α:Type} (R:Rdr α):List ByteArray→Nat→α→Option (Nat × Int) × α
  | [],_,a=>(none,a)
  | l::ls,i,a=>if (R.st a l).1=0 then R.go ls (i+1) (R.st a l).2 else (some (i+1,(R.st a l).1),(R.st a l).2)
def rdE (t:TypeId):Option (Nat × Int)→D
  | none=>.v .nilIface
  | some (k,c)=>.mp (.err t) [(.int .i64 (k:Int),.int .i64 c)]
set_option maxHeartbeats 2000000 in
theorem v_readLines {α:Type} (R:Rdr α) (b:ByteArray) (hb:b.size≤1048576) (a0:α) (h0:R.J 0 a0):ContractL Tryz.prog TabG 26 1 [.v (.string b),.undef] (.fn R.F [.box none (R.cel a0)] []) (rdE 89 (R.go (linesB b) 0 a0).1) (.fn R.F [.box none (R.cel (R.go (linesB b) 0 a0).2)] []):=by
  refine law_impl_readLines ?_;intro bb;unfold code_impl_readLines;have hL:=v_SplitLines b hb;have hll:=linesB_len b;have hsz:=fun x (hx:x∈linesB b)=>linesB_size hx;generalize linesB b=ls at hL hll hsz ⊢;have pr:=R.pr;simp -implicitDefEqProofs (disch:=omega) only [go_sem,↓reduceIte ,pr];refine call_B (hL) (by simp -implicitDefEqProofs (disch:=omega) only [go_sem,↓reduceIte,deep,TD.rows,immLL_rI,immLL_rB8,immLL_rS,immLL_rBo,immLL_rII,immLL_rIIt,pr];exact rfl) ?_;simp -implicitDefEqProofs (disch:=omega) only [go_sem,↓reduceIte ,pr];refine loop_ov (by simp -implicitDefEqProofs (disch:=omega) only [go_sem,↓reduceIte];exact rfl) (fun q:Nat × α=>[(1,.fn R.F [bxF bb (R.cel q.2)] []),(11,.v (.int .i64 (q.1:Nat)))]) (fun _=>by simp only [ovr_nil,ovr_cons,List.set_cons_zero,List.set_cons_succ];exact rfl) (fun q:Nat × α=>q.1≤ls.length∧R.go (ls.drop q.1) q.1 q.2=R.go ls 0 a0∧R.J q.1 q.2) (fun q:Nat × α=>ls.length - q.1) ((0,a0)) (by rw [pr];(try simp -implicitDefEqProofs only [nleL_cc,nleL_nn,nle_self,nle_boxs,nle_aggs,nle_nils,and_self,and_true,true_and]) <;> repeat' (first | exact nle_of_eq rfl | exact nle_nil | apply And.intro | apply nle_sl | apply nleLL_cons | apply nleL_cons | exact nleL_nil | exact nleLL_nil | apply nle_box | apply nle_agg)) (?_) ?_
  · exact ⟨Nat.zero_le _,rfl,h0⟩
  rintro ⟨i,a⟩ ⟨hi,hf,hJ⟩;simp only at hi hf hJ ⊢;simp -implicitDefEqProofs (disch:=omega) only [go_sem,↓reduceIte];refine cond_split ?_ ?_ <;> intro hlt
  · have hlt:i < ls.length:=(by simpa using hlt);have hltM:i < (ls.map rS).length:=(by rw [List.length_map];exact hlt);have e1:(ls.map rS)[i]?=some [D.v (.string ls[i])]:=(by rw [List.getElem?_map,List.getElem?_eq_getElem hlt];rfl);have hs1:=hsz _ (List.getElem_mem hlt);have hC:=R.law i a ls[i] (by omega) hJ (by omega);have hd:=(List.getElem_cons_drop hlt).symm;rw [hd] at hf;have hgo:R.go (ls[i]::ls.drop (i+1)) i a=if (R.st a ls[i]).1=0 then R.go (ls.drop (i+1)) (i+1) (R.st a ls[i]).2 else (some (i+1,(R.st a ls[i]).1),(R.st a ls[i]).2):=rfl
    rw [hgo] at hf;have hnx:=R.next i a ls[i] hJ;simp -implicitDefEqProofs (disch:=omega) only [go_sem,↓reduceIte ,pr,bxF,e1,Int.toNat_natCast,Int.natCast_nonneg];refine ⟨by omega,?_⟩;refine callv_keep (i:=0) (r:=1) (b:=bb) rfl hC rfl rfl rfl (R.pr _ a) rfl ?_ ⟨rfl,R.ni _⟩ ?_
    · exact leL_of_eq rfl
    by_cases hc:(R.st a ls[i]).1=0
    · rw [if_pos hc] at hf;have d1:decide ((R.st a ls[i]).1=0)=true:=decide_eq_true hc;simp -implicitDefEqProofs (disch:=omega) only [go_sem,↓reduceIte ,pr,d1,wrN];exact ⟨(i+1,(R.st a ls[i]).2),by show _ - (i+1) < _ - i;omega,⟨hlt,hf,hnx hc⟩,nleA⟩
    · rw [if_neg hc] at hf;have d1:decide ((R.st a ls[i]).1=0)=false:=decide_eq_false hc;rw [← hf];simp -implicitDefEqProofs (disch:=omega) only [go_sem,↓reduceIte ,pr,d1,wrN];exact ⟨le_of_eq rfl,leL_of_eq rfl⟩
  · have hie:i=ls.length:=(by have:¬ i < ls.length:=(by simpa using hlt);omega);rw [hie,List.drop_length] at hf;have hg:R.go [] ls.length a=(none,a):=rfl;rw [hg] at hf;rw [← hf];simp -implicitDefEqProofs (disch:=omega) only [go_sem,↓reduceIte ,pr,bxF];exact ⟨le_of_eq rfl,leL_of_eq rfl⟩
end Go.Proofs.YtjkbngjiagknkaaGreatDoor
