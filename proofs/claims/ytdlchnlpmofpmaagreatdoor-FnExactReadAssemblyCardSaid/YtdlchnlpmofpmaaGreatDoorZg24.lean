/- Laws that the proof stands on. -/
import Derived.Shelf.Strings.FieldsFuncAny
import Derived.Test.YtdlchnlpmofpmaaGreatDoorZg6
import Derived.Test.YtdlchnlpmofpmaaGreatDoorZVRdL
import Derived.Test.YtdlchnlpmofpmaaGreatDoorZg17
import Derived.Test.YtdlchnlpmofpmaaGreatDoorZVTab
import Derived.Test.YtdlchnlpmofpmaaGreatDoorZg22
import Derived.Test.YtdlchnlpmofpmaaGreatDoorZg16
import Derived.Test.YtdlchnlpmofpmaaGreatDoorZg13
set_option linter.all false
namespace Go.Proofs.YtdlchnlpmofpmaaGreatDoor
open Go.RowKit Go.V
attribute [local go_sem] List.getElem?_cons_succ List.getElem?_cons_zero List.set_cons_succ List.set_cons_zero List.map_cons List.map_nil List.length_cons List.length_nil List.all_cons List.all_nil List.drop_succ_cons List.drop_zero List.take_succ_cons List.take_zero List.flatMap_cons List.flatMap_nil List.cons_append List.nil_append List.append_nil List.headD_cons Value.oneCell' Bool.and_true Bool.true_and Bool.or_false Bool.false_or Bool.and_self Bool.not_true Bool.not_false and_true true_and beq_self_eq_true Bool.false_eq_true if_true if_false Nat.zero_add Nat.reduceAdd Nat.reduceMul Nat.reduceLeDiff Nat.le_refl Option.isSome_some Option.isSome_none not_true_eq_false not_false_eq_true ne_eq reduceCtorEq List.reverse_nil bne_self_eq_false Nat.reduceEqDiff List.isPrefixOf Bool.not_eq_true Bool.and_false Bool.false_and Bool.true_or Bool.or_true decide_true decide_false Nat.reduceBEq Nat.reduceBNe List.replicate_succ List.replicate_zero exists_eq_left' exists_eq_left Option.some.injEq or_false or_true true_or false_or Option.map_some Option.map_none mB Nat.reduceMod Nat.reduceDiv
set_option maxRecDepth 100000
def code_impl_SplitLines:VCode:=(.seq (.ops [
  ⟨(some 2),none,(.asg (.const (.slice none 0 0)))⟩]) (.seq (.ops [
  ⟨(some 3),none,(.alloc [(.slice none 0 0)])⟩]) (.seq (.seq (.ops [
  ⟨(some 5),none,(.mv (.tmp 0))⟩,
  ⟨(some 6),none,(.callX 77 [(.tmp 5)])⟩]) (.block 0 (.rangeF (.tmp 6) [7] (mB 13 8080) (.ops [
  ⟨(some 4),none,(.asg (.tmp 7))⟩]) (.block 1 (.draw (mB 12 3840) [false,false,false,false,false,false,false,false,false,false,true] [⟨0,(mB 12 3840),[],⟨(some 8),none,(.load 1 false (.tmp 3))⟩⟩,⟨1,(mB 12 3840),[],⟨(some 9),none,(.mv (.tmp 4))⟩⟩,⟨2,(mB 12 3328),[],⟨(some 10),none,(.call 78 [(.tmp 9),(.const (.string ⟨⟨[10]⟩⟩))])⟩⟩,⟨3,(mB 12 2304),[false,false,false,false,false,false,false,false,false,false,true],⟨(some 11),none,(.bslN 1 [(.tmp 10)])⟩⟩] [⟨(some 12),none,(.app 1 16 (.tmp 8) (.tmp 11))⟩,⟨none,none,(.store 1 (.tmp 3) (.tmp 12))⟩]))))) (.seq (.ops [
  ⟨(some 13),none,(.load 1 false (.tmp 3))⟩,
  ⟨(some 2),none,(.asg (.tmp 13))⟩]) .ret))))
theorem zHn {a0 d:D}(h:code_impl_SplitLines.wp (CT Tryz.prog zAr) (zC9 [(.t 2)] d) [a0,.undef,.undef,.undef,.undef,.undef,.undef,.undef,.undef,.undef,.undef,.undef,.undef,.undef]):Contract Tryz.prog zAr 47 [a0] d :=
  zSs (pt:=0) zC6 Tryz.func47 (fun us W=>by kernel_rfl) (c:=Tryz.f47.body.getD .skip) (ms:=[]) (ms':=[]) (by kernel_rfl) (by kernel_rfl) (by kernel_rfl) (by kernel_rfl) h
def code_impl_SplitWords:VCode:=(.seq (.ops [
  ⟨(some 2),none,(.asg (.const (.slice none 0 0)))⟩]) (.seq (.ops [
  ⟨(some 3),none,(.mv (.tmp 0))⟩,
  ⟨(some 4),none,(.callX 79 [(.tmp 3),(.func 80)])⟩,
  ⟨(some 2),none,(.asg (.tmp 4))⟩]) .ret))
theorem zHm {a0 d:D}(h:code_impl_SplitWords.wp (CT Tryz.prog zAr) (zC9 [(.t 2)] d) [a0,.undef,.undef,.undef,.undef]):Contract Tryz.prog zAr 48 [a0] d :=
  zAk (pt:=0) zC6 Tryz.func48 (fun us W=>by kernel_rfl) (c:=Tryz.f48.body.getD .skip) (ms:=[]) (ms':=[]) (by kernel_rfl) (by kernel_rfl) (by kernel_rfl) h
theorem yG6 (b:ByteArray):(zG5 b).length≤b.size+1:=by unfold zG5;rw [List.length_map];exact zP4 _ _ _
theorem yBz {b y:ByteArray}(h:y∈zG5 b):y.size≤b.size:=by unfold zG5 at h;obtain ⟨p,_,rfl⟩:=List.mem_map.1 h;unfold pcB;rw [ByteArray.size_extract];omega
def lnI (b:ByteArray)(i:Nat):List ByteArray:=((zG5 b).take i).map fun x=>zD7 x nl1
theorem yNu (b:ByteArray):lnI b (zG5 b).length=zA5 b:=by unfold lnI;rw [List.take_length];exact zWw b
theorem yHx {b:ByteArray}{i:Nat}(h:i<(zG5 b).length):lnI b (i+1)=lnI b i++[zD7 ((zG5 b)[i]'h) nl1]:=by unfold lnI;rw [List.take_succ,List.getElem?_eq_getElem h,List.map_append];rfl
theorem zQ6 (b:ByteArray)(hb:b.size≤1048576):Contract Tryz.prog zAr 47 [.v (.string b)] (.sl true 1 ((zA5 b).map rS)):=by
  refine zHn ?_;unfold code_impl_SplitLines;simp -implicitDefEqProofs (disch:=omega) only [go_sem,↓reduceIte];refine zAm (yK2 b) (by simp -implicitDefEqProofs (disch:=omega) only [go_sem,↓reduceIte,deep,TD.rows,zAe,zAc,zAf,zAb,zAd,zAa];exact rfl) ?_;simp -implicitDefEqProofs (disch:=omega) only [go_sem,↓reduceIte];have hit:=yH8 b hb;have hxs:(zG5 b).map (fun x=>[D.v (.string x)])=(List.range (zG5 b).length).map (fun i=>[D.v (.string ((zG5 b).getD i nl1))]):=by
    refine List.ext_getElem (by simp) (fun i h1 h2=>?_);have hi:i<(zG5 b).length:=by simpa using h1
    simp [List.getElem_map,List.getD_eq_getElem?_getD,hi]
  rw [hxs] at hit;have hpl:=yG6 b;refine yBi 6 (N:=(zG5 b).length) (by simp -implicitDefEqProofs (disch:=omega) only [go_sem,↓reduceIte];exact rfl) (by rfl) (fun i=>[D.v (.string ((zG5 b).getD i nl1))]) (hit) (fun _ _=>rfl) (by simp -implicitDefEqProofs (disch:=omega) only [go_sem,↓reduceIte];exact rfl) (fun i=>[(3,.box none [.sl true 1 ((lnI b i).map rS)])]) (fun _=>by simp only [zFk,zD1,List.set_cons_zero,List.set_cons_succ];exact rfl) (by rw [show lnI b 0=[] from rfl];(try simp -implicitDefEqProofs only [zCs,zCr,zB0,zB2,zB3,zB1,and_self,and_true,true_and])<;>repeat' (first | exact zBd rfl | exact zCd | apply And.intro | apply zDz | apply zBb | apply zA7 | exact zBo | exact zBm | apply zCe | apply zCl)) ?_ ?_
  · intro i hi;have hg:(zG5 b).getD i nl1=(zG5 b)[i]:=by rw [List.getD_eq_getElem?_getD,List.getElem?_eq_getElem hi];rfl
    have hsz:=yBz (List.getElem_mem hi);have hT:=zQ4 (zG5 b)[i] nl1 (by omega) (by decide);have hnx:=yHx hi;have hsm:((lnI b i).map rS).length≤1048577:=(by unfold lnI;rw [List.length_map,List.length_map,List.length_take];omega);rw [hg];simp -implicitDefEqProofs (disch:=omega) only [go_sem,↓reduceIte];refine yDt (hT) (by simp -implicitDefEqProofs (disch:=omega) only [go_sem,↓reduceIte,deep,TD.rows,zAe,zAc,zAf,zAb,zAd,zAa];exact rfl) ?_;simp -implicitDefEqProofs (disch:=omega) only [go_sem,↓reduceIte];refine ⟨by omega,_,?_,rfl⟩;rw [hnx,List.map_append]
    (try simp -implicitDefEqProofs only [zCs,zCr,zB0,zB2,zB3,zB1,and_self,and_true,true_and])<;>repeat' (first | exact zBd rfl | exact zCd | apply And.intro | apply zDz | apply zBb | apply zA7 | exact zBo | exact zBm | apply zCe | apply zCl)
  · have:=yNu b;simp -implicitDefEqProofs (disch:=omega) only [go_sem,↓reduceIte];rw [this]
theorem yJ0 {I:Nat→Prop}{w:World}:∀ (ws:List ByteArray),Go.V.Rows I w 1 (ws.map rS) (ws.map Value.string) []
  | []=>by simp only [List.map_nil,Go.V.Rows];exact ⟨trivial,trivial⟩
  | x::ws=>by simp only [List.map_cons,Go.V.Rows];exact ⟨[.string x],ws.map Value.string,[],[],rfl,rfl,rfl,by simp only [rS,Cells,T];exact ⟨_,[],[],[],rfl,rfl,rfl,⟨rfl,rfl⟩,rfl,rfl⟩,yJ0 ws⟩
theorem yUq (x:Nat)(W:World):Calls Tryz.prog 80 #[.int .i32 (x:Int)] W fun e w'=>e=.returned (.bool (zZg x))∧∃ q,w'=W.drewN q:=by have e:zZg x=((x:Int)==32):=(by unfold zZg;rw [Bool.eq_iff_iff,beq_iff_eq,beq_iff_eq];omega);rw [e];go_enter Tryz.func80,Tryz.ntmps80;go_wp2;go_ret;exact ⟨rfl,0,rfl⟩
theorem zQ8 (b:ByteArray)(hb:b.size≤1048576):Contract Tryz.prog zAr 79 [.v (.string b),.fn 80 [] []] (.sl true 1 ((zBk b).map rS)):=by
  refine ⟨fun us W=>by kernel_rfl,fun w I us hG hI hV=>?_⟩;simp only [Vals,T] at hV;obtain ⟨_,_,_,_,rfl,_,⟨rfl,_⟩,_,_,_,_,rfl,_,⟨_,_,_,_,rfl,_,⟨rfl,_⟩,⟨rfl,_⟩⟩,rfl,_⟩:=hV;have hp:PredAtRunes Tryz.prog 80 #[] zZg w:=fun W x _ _=>by unfold FnGives;exact yUq x W
  have hA:=Any.strings_FieldsFunc_runes Tryz.lays229 80 #[] (fun args w=>by kernel_rfl) zZg b w (by omega) hp (by kernel_rfl) (by kernel_rfl);rw [zN9] at hA;refine hA.mono ?_;rintro e w' ⟨A,rfl,hA1,⟨_,hown⟩,hB⟩;rcases hown with ⟨h,_⟩ | ⟨g,cap,cur,h1,hg,hh,hc1,hc2,hsz,htk⟩
  · cases h
  · cases h1;have hAl:=(Array.getElem?_eq_some_iff.1 hh).1;refine ⟨_,[A],I,rfl,hB,?_,by simp,?_,fun b h=>h,fun b h=>⟨.inl h,Nat.lt_of_lt_of_le (hI b h) hB.size⟩⟩
    · simp only [T];refine ⟨some ⟨A,0,none⟩,(zBk b).length,by rw [List.length_map],by rw [List.length_map];exact Nat.le_refl _,hc2,.inr ⟨trivial,.inr ⟨A,0,cur,_,(zBk b).map Value.string,[],rfl,hh,by omega,fun k v hk=>?_,rfl,yJ0 _⟩⟩⟩;rw [zA4 hh,Nat.zero_add];rw [← htk,List.getElem?_take] at hk;split at hk
      · rw [← Array.getElem?_toList];exact hk
      · cases hk
    · intro x hx;rw [List.mem_singleton.1 hx];exact ⟨hA1,hAl,fun h=>by have:=hI _ h;omega⟩
theorem zQ5 (b:ByteArray)(hb:b.size≤1048576):Contract Tryz.prog zAr 48 [.v (.string b)] (.sl true 1 ((zBk b).map rS)):=by refine zHm ?_;unfold code_impl_SplitWords;simp -implicitDefEqProofs (disch:=omega) only [go_sem,↓reduceIte];refine zAm (zQ8 b hb) (by simp -implicitDefEqProofs (disch:=omega) only [go_sem,↓reduceIte,deep,TD.rows,zAe,zAc,zAf,zAb,zAd,zAa];exact rfl) ?_;simp -implicitDefEqProofs (disch:=omega) only [go_sem,↓reduceIte]
def raD (s:TileSet)(xs:List Placed):List D:=[.sl false 2 (s.Glues.map (Glue.td.d false)),.sl false 2 (s.Tiles.map (Tile.td.d false)),.sl true 3 (xs.map (Placed.td.d true))]
theorem yR8 (a b:Point):(decide (a.X=b.X)&&decide (a.Y=b.Y))=decide (a=b):=by cases a;cases b;rw [Bool.eq_iff_iff];simp [Point.mk.injEq]
def code_impl_assemblyReader_line:VCode:=(.seq (.ops [
  ⟨(some 4),none,(.asg (.const (.int .i64 0)))⟩]) (.seq (.ops [
  ⟨(some 9),none,(.mv (.tmp 1))⟩,
  ⟨(some 10),none,(.callX 48 [(.tmp 9)])⟩,
  ⟨(some 5),none,(.asg (.tmp 10))⟩]) (.seq (.seq (.ops [
  ⟨(some 11),none,(.mv (.tmp 5))⟩,
  ⟨(some 12),none,(.len (.tmp 11))⟩,
  ⟨(some 13),none,(.bin .neq (.tmp 12) (.const (.int .i64 2)))⟩]) (.cond (.tmp 13) (.seq (.ops [
  ⟨(some 4),none,(.asg (.const (.int .i64 6)))⟩]) .ret) .skip)) (.seq (.ops [
  ⟨(some 15),none,(.mv (.tmp 5))⟩,
  ⟨(some 16),none,(.ia 1 (.tmp 15) (.const (.int .i64 1)))⟩,
  ⟨(some 17),none,(.load 1 false (.tmp 16))⟩,
  ⟨(some 18),none,(.callX 49 [(.tmp 17)])⟩,
  ⟨(some 14),none,(.mv (.tmp 18))⟩,
  ⟨(some 19),none,(.ext (.tmp 14) 0)⟩,
  ⟨(some 20),none,(.ext (.tmp 14) 1)⟩,
  ⟨(some 6),none,(.alloc [(.int .i64 0),(.int .i64 0)])⟩,
  ⟨none,none,(.store 2 (.tmp 6) (.tmp 19))⟩,
  ⟨(some 7),none,(.asg (.tmp 20))⟩]) (.seq (.draw (mB 28 266338304) [] [⟨0,(mB 28 266338304),[],⟨(some 21),none,(.mv (.tmp 0))⟩⟩,⟨1,(mB 28 264241152),[],⟨(some 22),none,(.nilc (.tmp 21))⟩⟩,⟨2,(mB 28 260046848),[],⟨(some 23),none,(.fa 0 (.tmp 22))⟩⟩,⟨3,(mB 28 251658240),[],⟨(some 24),none,(.load 2 true (.tmp 23))⟩⟩,⟨4,(mB 28 266338304),[],⟨(some 25),none,(.mv (.tmp 5))⟩⟩,⟨5,(mB 28 232783872),[],⟨(some 26),none,(.ia 1 (.tmp 25) (.const (.int .i64 0)))⟩⟩,⟨6,(mB 28 165675008),[],⟨(some 27),none,(.load 1 false (.tmp 26))⟩⟩] [⟨(some 28),none,(.callX 50 [(.tmp 24),(.tmp 27)])⟩,⟨(some 8),none,(.asg (.tmp 28))⟩]) (.seq (.block 0 (.seq (.ops [
  ⟨(some 30),none,(.mv (.tmp 7))⟩,
  ⟨(some 31),none,(.un .not (.tmp 30))⟩,
  ⟨(some 29),none,(.asg (.tmp 31))⟩]) (.cond (.tmp 29) (.seq (.ops [
  ⟨(some 4),none,(.asg (.const (.int .i64 6)))⟩]) .ret) (.seq (.ops [
  ⟨(some 33),none,(.mv (.tmp 8))⟩,
  ⟨(some 34),none,(.bin .lss (.tmp 33) (.const (.int .i64 0)))⟩,
  ⟨(some 32),none,(.asg (.tmp 34))⟩]) (.cond (.tmp 32) (.seq (.ops [
  ⟨(some 4),none,(.asg (.const (.int .i64 3)))⟩]) .ret) (.seq (.ops [
  ⟨(some 36),none,(.mv (.tmp 0))⟩,
  ⟨(some 37),none,(.nilc (.tmp 36))⟩,
  ⟨(some 38),none,(.fa 2 (.tmp 37))⟩,
  ⟨(some 39),none,(.load 1 false (.tmp 38))⟩,
  ⟨(some 40),none,(.mkf 52 [] [(.tmp 6)])⟩,
  ⟨(some 41),none,(.callX 51 [(.tmp 39),(.tmp 40)])⟩,
  ⟨(some 35),none,(.asg (.tmp 41))⟩]) (.cond (.tmp 35) (.seq (.ops [
  ⟨(some 4),none,(.asg (.const (.int .i64 7)))⟩]) .ret) (.seq (.ops [
  ⟨(some 43),none,(.mv (.tmp 0))⟩,
  ⟨(some 44),none,(.nilc (.tmp 43))⟩,
  ⟨(some 45),none,(.fa 2 (.tmp 44))⟩,
  ⟨(some 46),none,(.load 1 false (.tmp 45))⟩,
  ⟨(some 47),none,(.len (.tmp 46))⟩,
  ⟨(some 48),none,(.bin .geq (.tmp 47) (.const (.int .i64 500)))⟩,
  ⟨(some 42),none,(.asg (.tmp 48))⟩]) (.cond (.tmp 42) (.seq (.ops [
  ⟨(some 4),none,(.asg (.const (.int .i64 4)))⟩]) .ret) .skip))))))))) (.seq (.drawW (mB 59 575897802350002176) (mB 58 279223176896970752) [⟨1,(mB 59 575897802350002176),[],⟨(some 50),none,(.mv (.tmp 0))⟩⟩,⟨2,(mB 59 574771902443159552),[],⟨(some 51),none,(.nilc (.tmp 50))⟩⟩,⟨3,(mB 59 572520102629474304),[],⟨(some 52),none,(.fa 2 (.tmp 51))⟩⟩,⟨4,(mB 59 568016503002103808),[],⟨(some 53),none,(.load 1 false (.tmp 52))⟩⟩,⟨5,(mB 59 575897802350002176),[],⟨(some 54),none,(.load 2 true (.tmp 6))⟩⟩,⟨6,(mB 59 575897802350002176),[],⟨(some 55),none,(.mv (.tmp 8))⟩⟩,⟨7,(mB 59 521854606821556224),(mB 56 54043195528445952),⟨(some 56),none,(.build [(.int .i64 0),(.int .i64 0),(.int .i64 0)] [(0,2,(.tmp 54)),(2,1,(.tmp 55))])⟩⟩,⟨8,(mB 59 503840208312074240),(mB 57 72057594037927936),⟨(some 57),none,(.bslN 3 [(.tmp 56)])⟩⟩] ⟨9,(mB 59 414894115671506944),(mB 58 153122387330596864),⟨(some 58),none,(.app 3 24 (.tmp 53) (.tmp 57))⟩⟩ [⟨0,(mB 59 575897802350002176),[],⟨(some 49),none,(.mv (.tmp 0))⟩⟩] [⟨(some 59),none,(.nilc (.tmp 49))⟩,⟨(some 60),none,(.fa 2 (.tmp 59))⟩,⟨none,none,(.store 1 (.tmp 60) (.tmp 58))⟩]) (.seq (.ops [
  ⟨(some 4),none,(.asg (.const (.int .i64 0)))⟩]) .ret))))))))
theorem zAu {a0 a1 d:D}{cells cells':List D}(h:∀ b,code_impl_assemblyReader_line.wp (CT Tryz.prog zAr) (yT9 [(.t 4)] d 0 b cells') [.box (some b) cells,a1,.undef,.undef,.undef,.undef,.undef,.undef,.undef,.undef,.undef,.undef,.undef,.undef,.undef,.undef,.undef,.undef,.undef,.undef,.undef,.undef,.undef,.undef,.undef,.undef,.undef,.undef,.undef,.undef,.undef,.undef,.undef,.undef,.undef,.undef,.undef,.undef,.undef,.undef,.undef,.undef,.undef,.undef,.undef,.undef,.undef,.undef,.undef,.undef,.undef,.undef,.undef,.undef,.undef,.undef,.undef,.undef,.undef,.undef,.undef]):ContractX Tryz.prog zAr 24 0 [a0,a1] cells d cells' :=
  zKv (pt:=0) zC6 Tryz.func24 (fun us W=>by kernel_rfl) (c:=Tryz.f24.body.getD .skip) (ms:=[]) (ms':=[]) (by kernel_rfl) (by kernel_rfl) (by kernel_rfl) (by simp) h
def code_impl_assemblyReader_line_1:VCode:=(.seq (.ops [
  ⟨(some 2),none,(.box (.tmp 0))⟩,
  ⟨(some 3),none,(.asg (.const (.bool false)))⟩]) (.seq (.ops [
  ⟨(some 4),none,(.fa 0 (.tmp 2))⟩,
  ⟨(some 5),none,(.load 2 true (.tmp 4))⟩,
  ⟨(some 6),none,(.load 2 true (.tmp 1))⟩,
  ⟨(some 7),none,(.eqs false [1,1] (.tmp 5) (.tmp 6))⟩,
  ⟨(some 3),none,(.asg (.tmp 7))⟩]) .ret))
theorem zDs {a0 a1 d:D}(h:code_impl_assemblyReader_line_1.wp (CT Tryz.prog zAr) (zC9 [(.t 3)] d) [a0,a1,.undef,.undef,.undef,.undef,.undef,.undef]):Contract Tryz.prog zAr 52 [a0,a1] d :=
  zAk (pt:=0) zC6 Tryz.func52 (fun us W=>by kernel_rfl) (c:=Tryz.f52.body.getD .skip) (ms:=[]) (ms':=[]) (by kernel_rfl) (by kernel_rfl) (by kernel_rfl) h
theorem yQ6 (t:Placed)(p:Point):Contract Tryz.prog zAr 52 [.agg (Placed.td.d false t),.iptr (Point.td.d false p) 0] (.v (.bool (decide (t.At=p)))):=by rw [Placed.td_d,Point.td_d];refine zDs ?_;unfold code_impl_assemblyReader_line_1;simp -implicitDefEqProofs (disch:=omega) only [go_sem,↓reduceIte];rw [yR8]
set_option maxHeartbeats 40000000 in
theorem yVs (s:TileSet) (xs:List Placed) (l:ByteArray) (hl:l.size≤1048576) (ht:s.Tiles.length≤1048576) (hle:xs.length≤500) :
    ContractX Tryz.prog zAr 24 0 [.undef,.v (.string l)] (raD s xs) (.v (.int .i64 (exA xs (zA8 s.Tiles xs (zBk l))).1)) (raD s (exA xs (zA8 s.Tiles xs (zBk l))).2):=by
  have hS:=(zQ5 l hl).imm;simp only [D.imm,zAf] at hS;unfold raD;by_cases h2:(zBk l).length=2
  · obtain ⟨w0,w1,hw⟩:∃ x y,zBk l=[x,y]:=by
      match hq:zBk l,h2 with
      | [x,y],_=>exact ⟨x,y,rfl⟩
    have hw1:w1.size≤1048576:=(by have:=zLw (b:=l) (y:=w1) (by rw [hw];simp);omega);rw [hw] at hS ⊢;have hP:=zK2 w1 hw1;have hT:=zS7 s.Tiles s.Glues w0 ht;obtain ⟨L,hwd,hLe⟩:∃ L,Wd L [w0,w1]∧[w0,w1].map rS=L:=⟨_,zZl _,rfl⟩
    rw [hLe] at hS;have lw:(L.length:Int)=2:=by rw [hwd.len];rfl
    have e0:L[Int.toNat 0]?=some [.v (.string w0)]:=hwd.at' 0 (by simp);have e1:L[Int.toNat 1]?=some [.v (.string w1)]:=hwd.at' 1 (by simp);have n2:decide ((2:Int)=2)=true:=rfl;cases hr:zN1 w1 with
    | none =>
      have hN:zA8 s.Tiles xs [w0,w1]=.error 6:=(by unfold zA8;simp only [hr]);rw [hN];rw [hr] at hP;unfold rpD at hP;simp only [Point.td_d,Option.getD_none,Option.isSome_none] at hP
      try simp only []
      refine zAu ?_;intro bb;unfold code_impl_assemblyReader_line;simp -implicitDefEqProofs (disch:=omega) only [go_sem,↓reduceIte];refine zAm (hS) (by simp -implicitDefEqProofs (disch:=omega) only [go_sem,↓reduceIte,deep,TD.rows,zAe,zAc,zAf,zAb,zAd,zAa,lw,n2,e1,Int.le_refl,Int.reduceLE,Int.reduceLT];exact rfl) ?_;simp -implicitDefEqProofs (disch:=omega) only [go_sem,↓reduceIte ,lw,n2,e1,Int.le_refl,Int.reduceLE,Int.reduceLT];refine zAm (hP) (by simp -implicitDefEqProofs (disch:=omega) only [go_sem,↓reduceIte,deep,TD.rows,zAe,zAc,zAf,zAb,zAd,zAa,lw,e0,Int.le_refl,Int.reduceLE,Int.reduceLT];exact rfl) ?_;simp -implicitDefEqProofs (disch:=omega) only [go_sem,↓reduceIte ,lw,e0,Int.le_refl,Int.reduceLE,Int.reduceLT];refine zAm (hT) (by simp -implicitDefEqProofs (disch:=omega) only [go_sem,↓reduceIte,deep,TD.rows,zAe,zAc,zAf,zAb,zAd,zAa];exact rfl) ?_;simp -implicitDefEqProofs (disch:=omega) only [go_sem,↓reduceIte];exact ⟨rfl,rfl⟩
    | some p =>
      rw [hr] at hP;unfold rpD at hP;simp only [Point.td_d,Option.getD_some,Option.isSome_some] at hP;have hCt:=zF1 52 [.iptr (Point.td.d false p) 0] ⟨rfl,fun _=>rfl,fun _=>rfl,fun _=>rfl⟩ xs (fun t=>decide (t.At=p)) (fun x _=>yQ6 x p) (by omega);rw [Point.td_d] at hCt;have hany:xs.any (fun t=>decide (t.At=p))=zSf xs p:=rfl;rw [hany] at hCt;by_cases hn:zQu s.Tiles w0<0
      · have dn:decide (zQu s.Tiles w0<0)=true:=decide_eq_true hn;have hN:zA8 s.Tiles xs [w0,w1]=.error 3:=(by unfold zA8;simp only [hr];rw [if_pos hn]);rw [hN]
        try simp only []
        refine zAu ?_;intro bb;unfold code_impl_assemblyReader_line;simp -implicitDefEqProofs (disch:=omega) only [go_sem,↓reduceIte];refine zAm (hS) (by simp -implicitDefEqProofs (disch:=omega) only [go_sem,↓reduceIte,deep,TD.rows,zAe,zAc,zAf,zAb,zAd,zAa,lw,n2,e1,Int.le_refl,Int.reduceLE,Int.reduceLT];exact rfl) ?_;simp -implicitDefEqProofs (disch:=omega) only [go_sem,↓reduceIte ,lw,n2,e1,Int.le_refl,Int.reduceLE,Int.reduceLT];refine zAm (hP) (by simp -implicitDefEqProofs (disch:=omega) only [go_sem,↓reduceIte,deep,TD.rows,zAe,zAc,zAf,zAb,zAd,zAa,lw,e0,Int.le_refl,Int.reduceLE,Int.reduceLT];exact rfl) ?_;simp -implicitDefEqProofs (disch:=omega) only [go_sem,↓reduceIte ,lw,e0,Int.le_refl,Int.reduceLE,Int.reduceLT];refine zAm (hT) (by simp -implicitDefEqProofs (disch:=omega) only [go_sem,↓reduceIte,deep,TD.rows,zAe,zAc,zAf,zAb,zAd,zAa,dn];exact rfl) ?_;simp -implicitDefEqProofs (disch:=omega) only [go_sem,↓reduceIte ,dn];exact ⟨rfl,rfl⟩
      · have dn:decide (zQu s.Tiles w0<0)=false:=decide_eq_false hn;cases ha:zSf xs p with
        | true =>
          rw [ha] at hCt;have hN:zA8 s.Tiles xs [w0,w1]=.error 7:=by unfold zA8;simp only [hr];rw [if_neg hn,if_pos ha]
          rw [hN]
          try simp only []
          refine zAu ?_;intro bb;unfold code_impl_assemblyReader_line;simp -implicitDefEqProofs (disch:=omega) only [go_sem,↓reduceIte];refine zAm (hS) (by simp -implicitDefEqProofs (disch:=omega) only [go_sem,↓reduceIte,deep,TD.rows,zAe,zAc,zAf,zAb,zAd,zAa,lw,n2,e1,Int.le_refl,Int.reduceLE,Int.reduceLT];exact rfl) ?_;simp -implicitDefEqProofs (disch:=omega) only [go_sem,↓reduceIte ,lw,n2,e1,Int.le_refl,Int.reduceLE,Int.reduceLT];refine zAm (hP) (by simp -implicitDefEqProofs (disch:=omega) only [go_sem,↓reduceIte,deep,TD.rows,zAe,zAc,zAf,zAb,zAd,zAa,lw,e0,Int.le_refl,Int.reduceLE,Int.reduceLT];exact rfl) ?_;simp -implicitDefEqProofs (disch:=omega) only [go_sem,↓reduceIte ,lw,e0,Int.le_refl,Int.reduceLE,Int.reduceLT];refine zAm (hT) (by simp -implicitDefEqProofs (disch:=omega) only [go_sem,↓reduceIte,deep,TD.rows,zAe,zAc,zAf,zAb,zAd,zAa,dn];exact rfl) ?_;simp -implicitDefEqProofs (disch:=omega) only [go_sem,↓reduceIte ,dn];refine zAm (hCt) (by simp -implicitDefEqProofs (disch:=omega) only [go_sem,↓reduceIte,deep,TD.rows,zAe,zAc,zAf,zAb,zAd,zAa];exact rfl) ?_;simp -implicitDefEqProofs (disch:=omega) only [go_sem,↓reduceIte];exact ⟨rfl,rfl⟩
        | false =>
          rw [ha] at hCt;by_cases hf:500≤xs.length
          · have df:decide ((xs.length:Int)≥500)=true:=decide_eq_true (by omega);have hN:zA8 s.Tiles xs [w0,w1]=.error 4:=(by unfold zA8;simp only [hr];rw [if_neg hn,if_neg (by rw [ha];decide),if_pos hf]);rw [hN]
            try simp only []
            refine zAu ?_;intro bb;unfold code_impl_assemblyReader_line;simp -implicitDefEqProofs (disch:=omega) only [go_sem,↓reduceIte];refine zAm (hS) (by simp -implicitDefEqProofs (disch:=omega) only [go_sem,↓reduceIte,deep,TD.rows,zAe,zAc,zAf,zAb,zAd,zAa,lw,n2,e1,Int.le_refl,Int.reduceLE,Int.reduceLT];exact rfl) ?_;simp -implicitDefEqProofs (disch:=omega) only [go_sem,↓reduceIte ,lw,n2,e1,Int.le_refl,Int.reduceLE,Int.reduceLT];refine zAm (hP) (by simp -implicitDefEqProofs (disch:=omega) only [go_sem,↓reduceIte,deep,TD.rows,zAe,zAc,zAf,zAb,zAd,zAa,lw,e0,Int.le_refl,Int.reduceLE,Int.reduceLT];exact rfl) ?_;simp -implicitDefEqProofs (disch:=omega) only [go_sem,↓reduceIte ,lw,e0,Int.le_refl,Int.reduceLE,Int.reduceLT];refine zAm (hT) (by simp -implicitDefEqProofs (disch:=omega) only [go_sem,↓reduceIte,deep,TD.rows,zAe,zAc,zAf,zAb,zAd,zAa,dn];exact rfl) ?_;simp -implicitDefEqProofs (disch:=omega) only [go_sem,↓reduceIte ,dn];refine zAm (hCt) (by simp -implicitDefEqProofs (disch:=omega) only [go_sem,↓reduceIte,deep,TD.rows,zAe,zAc,zAf,zAb,zAd,zAa,df,List.length_map];exact rfl) ?_;simp -implicitDefEqProofs (disch:=omega) only [go_sem,↓reduceIte ,df,List.length_map];exact ⟨rfl,rfl⟩
          · have df:decide ((xs.length:Int)≥500)=false:=decide_eq_false (by omega);have hN:zA8 s.Tiles xs [w0,w1]=.ok (xs++[⟨p,zQu s.Tiles w0⟩]):=(by unfold zA8;simp only [hr];rw [if_neg hn,if_neg (by rw [ha];decide),if_neg hf]);rw [hN]
            try simp only []
            refine zAu ?_;intro bb;unfold code_impl_assemblyReader_line;simp -implicitDefEqProofs (disch:=omega) only [go_sem,↓reduceIte];refine zAm (hS) (by simp -implicitDefEqProofs (disch:=omega) only [go_sem,↓reduceIte,deep,TD.rows,zAe,zAc,zAf,zAb,zAd,zAa,lw,n2,e1,Int.le_refl,Int.reduceLE,Int.reduceLT];exact rfl) ?_;simp -implicitDefEqProofs (disch:=omega) only [go_sem,↓reduceIte ,lw,n2,e1,Int.le_refl,Int.reduceLE,Int.reduceLT];refine zAm (hP) (by simp -implicitDefEqProofs (disch:=omega) only [go_sem,↓reduceIte,deep,TD.rows,zAe,zAc,zAf,zAb,zAd,zAa,lw,e0,Int.le_refl,Int.reduceLE,Int.reduceLT];exact rfl) ?_;simp -implicitDefEqProofs (disch:=omega) only [go_sem,↓reduceIte ,lw,e0,Int.le_refl,Int.reduceLE,Int.reduceLT];refine zAm (hT) (by simp -implicitDefEqProofs (disch:=omega) only [go_sem,↓reduceIte,deep,TD.rows,zAe,zAc,zAf,zAb,zAd,zAa,dn];exact rfl) ?_;simp -implicitDefEqProofs (disch:=omega) only [go_sem,↓reduceIte ,dn];refine zAm (hCt) (by simp -implicitDefEqProofs (disch:=omega) only [go_sem,↓reduceIte,deep,TD.rows,zAe,zAc,zAf,zAb,zAd,zAa,df,List.length_map];exact rfl) ?_;simp -implicitDefEqProofs (disch:=omega) only [go_sem,↓reduceIte ,df,List.length_map];exact ⟨by omega,rfl,by show _=List.map _ (xs++[⟨p,zQu s.Tiles w0⟩]);rw [List.map_append];rfl⟩
  · rw [zOp h2];have d2:decide (((zBk l).length:Int)=2)=false:=decide_eq_false (by omega)
    try simp only []
    refine zAu ?_;intro bb;unfold code_impl_assemblyReader_line;simp -implicitDefEqProofs (disch:=omega) only [go_sem,↓reduceIte];refine zAm (hS) (by simp -implicitDefEqProofs (disch:=omega) only [go_sem,↓reduceIte,deep,TD.rows,zAe,zAc,zAf,zAb,zAd,zAa,List.length_map,d2];exact rfl) ?_;simp -implicitDefEqProofs (disch:=omega) only [go_sem,↓reduceIte ,List.length_map,d2];exact ⟨rfl,rfl⟩
def code_impl_readLines:VCode:=(.seq (.ops [
  ⟨(some 4),none,(.asg (.const .nilIface))⟩]) (.seq (.seq (.ops [
  ⟨(some 8),none,(.mv (.tmp 0))⟩,
  ⟨(some 9),none,(.callX 47 [(.tmp 8)])⟩,
  ⟨(some 10),none,(.len (.tmp 9))⟩,
  ⟨(some 11),none,(.mv (.const (.int .i64 0)))⟩]) (.block 0 (.loop (mB 28 268431869) (.seq (.ops [
  ⟨(some 12),none,(.bin .lss (.tmp 11) (.tmp 10))⟩]) (.seq (.cond (.tmp 12) .skip (.exit 0)) (.seq (.block 1 (.seq (.ops [
  ⟨(some 13),none,(.mv (.tmp 11))⟩,
  ⟨(some 14),none,(.ia 1 (.tmp 9) (.tmp 11))⟩,
  ⟨(some 15),none,(.load 1 false (.tmp 14))⟩,
  ⟨(some 5),none,(.asg (.tmp 13))⟩,
  ⟨(some 6),none,(.asg (.tmp 15))⟩]) (.seq (.ops [
  ⟨(some 16),none,(.mv (.tmp 1))⟩,
  ⟨(some 17),none,(.mv (.tmp 6))⟩,
  ⟨(some 18),none,(.callvX (.tmp 16) [(.tmp 17)])⟩,
  ⟨(some 7),none,(.asg (.tmp 18))⟩]) (.seq (.ops [
  ⟨(some 19),none,(.mv (.tmp 7))⟩,
  ⟨(some 20),none,(.bin .neq (.tmp 19) (.const (.int .i64 0)))⟩]) (.cond (.tmp 20) (.seq (.ops [
  ⟨(some 21),none,(.mv (.tmp 5))⟩,
  ⟨(some 22),none,(.bin .add (.tmp 21) (.const (.int .i64 1)))⟩,
  ⟨(some 23),none,(.mv (.tmp 7))⟩,
  ⟨(some 24),none,(.build [(.int .i64 0),(.int .i64 0)] [(0,1,(.tmp 22)),(1,1,(.tmp 23))])⟩,
  ⟨(some 25),none,(.box (.tmp 24))⟩,
  ⟨(some 26),none,(.mkif 91 (.tmp 25))⟩,
  ⟨(some 4),none,(.asg (.tmp 26))⟩]) .ret) .skip))))) (.ops [
  ⟨(some 27),none,(.bin .add (.tmp 11) (.const (.int .i64 1)))⟩,
  ⟨(some 11),none,(.mv (.tmp 27))⟩]))))))) (.seq (.ops [
  ⟨(some 4),none,(.asg (.const .nilIface))⟩]) .ret)))
theorem zIp {a0 a1 d:D}{F0:FuncId}{cells cells':List D}(h:∀ b,code_impl_readLines.wp (CT Tryz.prog zAr) (yIy [(.t 4)] d 1 b cells') [a0,.fn F0 [.box (some b) cells] [],.undef,.undef,.undef,.undef,.undef,.undef,.undef,.undef,.undef,.undef,.undef,.undef,.undef,.undef,.undef,.undef,.undef,.undef,.undef,.undef,.undef,.undef,.undef,.undef,.undef,.undef]):zBj Tryz.prog zAr 23 1 [a0,a1] (.fn F0 [.box none cells] []) d (.fn F0 [.box none cells'] []) :=
  zSt (pt:=0) zC6 Tryz.func23 (fun us W=>by kernel_rfl) (c:=Tryz.f23.body.getD .skip) (ms:=[(mB 28 268431869)]) (ms':=[]) (by kernel_rfl) (by kernel_rfl) (by kernel_rfl) (by simp) h
@[reducible] def bxF (b:Nat) (c:List D):D:=.box (some b) c
structure Rdr (α:Type) where
  F:FuncId
  cel:α→List D
  st:α→ByteArray→Int×α
  J:Nat→α→Prop
  pr:∀ (q:D→Bool) a,zAh q (cel a)=cel a
  law:∀ (i:Nat) (a:α) (l:ByteArray),i≤1048576→J i a→l.size≤1048576→ContractX Tryz.prog zAr F 0 [.undef,.v (.string l)] (cel a) (.v (.int .i64 (st a l).1)) (cel (st a l).2)
  next:∀ (i:Nat) (a:α) (l:ByteArray),J i a→(st a l).1=0→J (i+1) (st a l).2
def Rdr.go {α:Type}(R:Rdr α):List ByteArray→Nat→α→_root_.Option (Nat×Int)×α
  | [],_,a=>(none,a)
  | l::ls,i,a=>if (R.st a l).1=0 then R.go ls (i+1) (R.st a l).2 else (some (i+1,(R.st a l).1),(R.st a l).2)
def rdE (t:TypeId):_root_.Option (Nat×Int)→D
  | none=>.v .nilIface
  | some (k,c)=>.mp (.err t) [(.int .i64 (k:Int),.int .i64 c)]
set_option maxHeartbeats 2000000 in
theorem zS8 {α:Type}(R:Rdr α)(b:ByteArray)(hb:b.size≤1048576)(a0:α)(h0:R.J 0 a0):zBj Tryz.prog zAr 23 1 [.v (.string b),.undef] (.fn R.F [.box none (R.cel a0)] []) (rdE 91 (R.go (zA5 b) 0 a0).1) (.fn R.F [.box none (R.cel (R.go (zA5 b) 0 a0).2)] []):=by
  refine zIp ?_;intro bb;unfold code_impl_readLines;have hL:=zQ6 b hb;have hll:=zOw b;have hsz:=fun x (hx:x∈zA5 b)=>zMs hx;generalize zA5 b=ls at hL hll hsz ⊢;have pr:=R.pr;simp -implicitDefEqProofs (disch:=omega) only [go_sem,↓reduceIte ,pr];refine zAm (hL) (by simp -implicitDefEqProofs (disch:=omega) only [go_sem,↓reduceIte,deep,TD.rows,zAe,zAc,zAf,zAb,zAd,zAa,pr];exact rfl) ?_;simp -implicitDefEqProofs (disch:=omega) only [go_sem,↓reduceIte ,pr];refine zF9 (by simp -implicitDefEqProofs (disch:=omega) only [go_sem,↓reduceIte];exact rfl) (fun q:Nat×α=>[(1,.fn R.F [bxF bb (R.cel q.2)] []),(11,.v (.int .i64 (q.1:Nat)))]) (fun _=>by simp only [zFk,zD1,List.set_cons_zero,List.set_cons_succ];exact rfl) (fun q:Nat×α=>q.1≤ls.length∧R.go (ls.drop q.1) q.1 q.2=R.go ls 0 a0∧R.J q.1 q.2) (fun q:Nat×α=>ls.length-q.1) ((0,a0)) (by rw [pr];(try simp -implicitDefEqProofs only [zCs,zCr,zB0,zB2,zB3,zB1,and_self,and_true,true_and])<;>repeat' (first | exact zBd rfl | exact zCd | apply And.intro | apply zDz | apply zBb | apply zA7 | exact zBo | exact zBm | apply zCe | apply zCl)) (?_) ?_
  · exact ⟨Nat.zero_le _,rfl,h0⟩
  rintro ⟨i,a⟩ ⟨hi,hf,hJ⟩;simp only at hi hf hJ ⊢;simp -implicitDefEqProofs (disch:=omega) only [go_sem,↓reduceIte];refine zAn ?_ ?_<;>intro hlt
  · have hlt:i<ls.length:=(by simpa using hlt);have hltM:i<(ls.map rS).length:=(by rw [List.length_map];exact hlt);have e1:(ls.map rS)[i]?=some [D.v (.string ls[i])]:=(by rw [List.getElem?_map,List.getElem?_eq_getElem hlt];rfl);have hs1:=hsz _ (List.getElem_mem hlt);have hC:=R.law i a ls[i] (by omega) hJ (by omega);have hd:=(List.getElem_cons_drop hlt).symm;rw [hd] at hf;have hgo:R.go (ls[i]::ls.drop (i+1)) i a=if (R.st a ls[i]).1=0 then R.go (ls.drop (i+1)) (i+1) (R.st a ls[i]).2 else (some (i+1,(R.st a ls[i]).1),(R.st a ls[i]).2):=rfl
    rw [hgo] at hf;have hnx:=R.next i a ls[i] hJ;simp -implicitDefEqProofs (disch:=omega) only [go_sem,↓reduceIte ,pr,bxF,e1,Int.toNat_natCast,Int.natCast_nonneg];refine ⟨by omega,?_⟩;refine zUo (i:=0) (r:=1) (b:=bb) rfl hC rfl rfl rfl (R.pr _ a) rfl ?_ rfl ?_
    · exact zAz rfl
    by_cases hc:(R.st a ls[i]).1=0
    · rw [if_pos hc] at hf;have d1:decide ((R.st a ls[i]).1=0)=true:=decide_eq_true hc;simp -implicitDefEqProofs (disch:=omega) only [go_sem,↓reduceIte ,pr,d1,wrN];exact ⟨(i+1,(R.st a ls[i]).2),by show _-(i+1)<_-i;omega,⟨hlt,hf,hnx hc⟩,zDo⟩
    · rw [if_neg hc] at hf;have d1:decide ((R.st a ls[i]).1=0)=false:=decide_eq_false hc;rw [← hf];simp -implicitDefEqProofs (disch:=omega) only [go_sem,↓reduceIte ,pr,d1,wrN];exact ⟨zBv rfl,zAz rfl⟩
  · have hie:i=ls.length:=(by have:¬ i<ls.length:=(by simpa using hlt);omega);rw [hie,List.drop_length] at hf;have hg:R.go [] ls.length a=(none,a):=rfl;rw [hg] at hf;rw [← hf];simp -implicitDefEqProofs (disch:=omega) only [go_sem,↓reduceIte ,pr,bxF];exact ⟨zBv rfl,zAz rfl⟩
end Go.Proofs.YtdlchnlpmofpmaaGreatDoor
