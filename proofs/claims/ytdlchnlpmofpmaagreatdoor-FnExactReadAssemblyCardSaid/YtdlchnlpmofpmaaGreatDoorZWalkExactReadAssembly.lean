/- Laws that the proof stands on. -/
import Derived.Test.YtdlchnlpmofpmaaGreatDoorZFReadAssembly
import Derived.Test.YtdlchnlpmofpmaaGreatDoorZg19
import Derived.Test.YtdlchnlpmofpmaaGreatDoorZg17
import Derived.Test.YtdlchnlpmofpmaaGreatDoorZg13
import Derived.Test.YtdlchnlpmofpmaaGreatDoorZVTab
set_option linter.all false
namespace Go.Proofs.YtdlchnlpmofpmaaGreatDoor
open Go.RowKit Go.V
attribute [local go_sem] List.getElem?_cons_succ List.getElem?_cons_zero List.set_cons_succ List.set_cons_zero List.map_cons List.map_nil List.length_cons List.length_nil List.all_cons List.all_nil List.drop_succ_cons List.drop_zero List.take_succ_cons List.take_zero List.flatMap_cons List.flatMap_nil List.cons_append List.nil_append List.append_nil List.headD_cons Value.oneCell' Bool.and_true Bool.true_and Bool.or_false Bool.false_or Bool.and_self Bool.not_true Bool.not_false and_true true_and beq_self_eq_true Bool.false_eq_true if_true if_false Nat.zero_add Nat.reduceAdd Nat.reduceMul Nat.reduceLeDiff Nat.le_refl Option.isSome_some Option.isSome_none not_true_eq_false not_false_eq_true ne_eq reduceCtorEq List.reverse_nil bne_self_eq_false Nat.reduceEqDiff List.isPrefixOf Bool.not_eq_true Bool.and_false Bool.false_and Bool.true_or Bool.or_true decide_true decide_false Nat.reduceBEq Nat.reduceBNe List.replicate_succ List.replicate_zero exists_eq_left' exists_eq_left Option.some.injEq or_false or_true true_or false_or Option.map_some Option.map_none mB Nat.reduceMod Nat.reduceDiv
set_option maxRecDepth 100000
attribute [local go_sem] List.length_map decide_true decide_false Int.reduceLT Int.reduceNeg Assembly.td_d TileSet.td_d
def code_laws_FnExactReadAssembly:VCode:=(.seq (.ops [
  ⟨(some 2),none,(.box (.tmp 0))⟩,
  ⟨(some 4),none,(.asg (.const (.bool false)))⟩]) (.seq (.seq (.ops [
  ⟨(some 19),none,(.mv (.tmp 1))⟩,
  ⟨(some 20),none,(.lenS (.tmp 19))⟩,
  ⟨(some 21),none,(.bin .gtr (.tmp 20) (.const (.int .i64 1048576)))⟩]) (.cond (.tmp 21) (.seq (.ops [
  ⟨(some 4),none,(.asg (.const (.bool true)))⟩]) .ret) .skip)) (.seq (.ops [
  ⟨(some 5),none,(.asg (.const (.int .i64 1048576)))⟩]) (.seq (.ops [
  ⟨(some 22),none,(.load 2 true (.tmp 2))⟩,
  ⟨(some 23),none,(.mv (.tmp 5))⟩,
  ⟨(some 24),none,(.callX 4 [(.tmp 22),(.tmp 23)])⟩,
  ⟨(some 5),none,(.asg (.tmp 24))⟩]) (.seq (.seq (.ops [
  ⟨(some 25),none,(.mv (.tmp 5))⟩,
  ⟨(some 26),none,(.bin .lss (.tmp 25) (.const (.int .i64 0)))⟩]) (.cond (.tmp 26) (.seq (.ops [
  ⟨(some 4),none,(.asg (.const (.bool true)))⟩]) .ret) .skip)) (.seq (.ops [
  ⟨(some 28),none,(.load 2 true (.tmp 2))⟩,
  ⟨(some 29),none,(.callX 6 [(.tmp 28)])⟩,
  ⟨(some 30),none,(.mv (.tmp 1))⟩,
  ⟨(some 31),none,(.callX 5 [(.tmp 29),(.tmp 30)])⟩,
  ⟨(some 27),none,(.mv (.tmp 31))⟩,
  ⟨(some 32),none,(.ext (.tmp 27) 0)⟩,
  ⟨(some 33),none,(.ext (.tmp 27) 1)⟩,
  ⟨(some 34),none,(.ext (.tmp 27) 2)⟩,
  ⟨(some 6),none,(.alloc [(.slice none 0 0)])⟩,
  ⟨none,none,(.store 1 (.tmp 6) (.tmp 32))⟩,
  ⟨(some 7),none,(.asg (.tmp 33))⟩,
  ⟨(some 8),none,(.asg (.tmp 34))⟩]) (.seq (.ops [
  ⟨(some 35),none,(.load 2 true (.tmp 2))⟩,
  ⟨(some 36),none,(.callX 6 [(.tmp 35)])⟩,
  ⟨(some 9),none,(.alloc [(.slice none 0 0),(.slice none 0 0)])⟩,
  ⟨none,none,(.store 2 (.tmp 9) (.tmp 36))⟩]) (.seq (.ops [
  ⟨(some 38),none,(.load 2 true (.tmp 9))⟩,
  ⟨(some 39),none,(.mv (.tmp 1))⟩,
  ⟨(some 40),none,(.callX 7 [(.tmp 38),(.tmp 39)])⟩,
  ⟨(some 37),none,(.mv (.tmp 40))⟩,
  ⟨(some 41),none,(.ext (.tmp 37) 0)⟩,
  ⟨(some 42),none,(.ext (.tmp 37) 1)⟩,
  ⟨(some 43),none,(.ext (.tmp 37) 2)⟩,
  ⟨(some 10),none,(.alloc [(.slice none 0 0)])⟩,
  ⟨none,none,(.store 1 (.tmp 10) (.tmp 41))⟩,
  ⟨(some 11),none,(.asg (.tmp 42))⟩,
  ⟨(some 12),none,(.asg (.tmp 43))⟩]) (.seq (.seq (.ops [
  ⟨(some 44),none,(.load 1 true (.tmp 10))⟩,
  ⟨(some 45),none,(.load 1 true (.tmp 6))⟩,
  ⟨(some 46),none,(.callX 8 [(.tmp 44),(.tmp 45)])⟩,
  ⟨(some 47),none,(.un .not (.tmp 46))⟩,
  ⟨(some 48),none,(.mv (.tmp 47))⟩,
  ⟨(some 49),(some (48,false)),(.mv (.tmp 11))⟩,
  ⟨(some 50),(some (48,false)),(.mv (.tmp 7))⟩,
  ⟨(some 51),(some (48,false)),(.bin .neq (.tmp 49) (.tmp 50))⟩,
  ⟨(some 52),none,(.pick (.tmp 48) (.const (.bool true)) (.tmp 51))⟩,
  ⟨(some 53),none,(.mv (.tmp 52))⟩,
  ⟨(some 54),(some (53,false)),(.mv (.tmp 12))⟩,
  ⟨(some 55),(some (53,false)),(.mv (.tmp 8))⟩,
  ⟨(some 56),(some (53,false)),(.bin .neq (.tmp 54) (.tmp 55))⟩,
  ⟨(some 57),none,(.pick (.tmp 53) (.const (.bool true)) (.tmp 56))⟩]) (.cond (.tmp 57) (.seq (.ops [
  ⟨(some 4),none,(.asg (.const (.bool false)))⟩]) .ret) .skip)) (.seq (.seq (.draw (mB 61 2017612633061982208) [] [⟨0,(mB 61 2017612633061982208),[],⟨(some 58),none,(.load 2 true (.tmp 9))⟩⟩,⟨1,(mB 61 2017612633061982208),[],⟨(some 59),none,(.load 2 true (.tmp 2))⟩⟩,⟨2,(mB 61 1441151880758558720),[],⟨(some 60),none,(.call 6 [(.tmp 59)])⟩⟩] [⟨(some 61),none,(.callX 9 [(.tmp 58),(.tmp 60)])⟩,⟨(some 62),none,(.un .not (.tmp 61))⟩]) (.cond (.tmp 62) (.seq (.ops [
  ⟨(some 4),none,(.asg (.const (.bool false)))⟩]) .ret) .skip)) (.seq (.ops [
  ⟨(some 13),none,(.asg (.const (.int .i64 1)))⟩]) (.seq (.ops [
  ⟨(some 63),none,(.load 2 true (.tmp 9))⟩,
  ⟨(some 64),none,(.mv (.tmp 13))⟩,
  ⟨(some 65),none,(.callX 10 [(.tmp 63),(.tmp 64)])⟩,
  ⟨(some 13),none,(.asg (.tmp 65))⟩]) (.seq (.seq (.ops [
  ⟨(some 66),none,(.mv (.tmp 13))⟩,
  ⟨(some 67),none,(.bin .lss (.tmp 66) (.const (.int .i64 0)))⟩,
  ⟨(some 68),none,(.mv (.tmp 67))⟩,
  ⟨(some 69),(some (68,false)),(.load 1 true (.tmp 10))⟩,
  ⟨(some 70),(some (68,false)),(.load 1 true (.tmp 6))⟩,
  ⟨(some 71),(some (68,false)),(.callX 8 [(.tmp 69),(.tmp 70)])⟩,
  ⟨(some 72),(some (68,false)),(.un .not (.tmp 71))⟩,
  ⟨(some 73),none,(.pick (.tmp 68) (.const (.bool true)) (.tmp 72))⟩,
  ⟨(some 74),none,(.mv (.tmp 73))⟩,
  ⟨(some 75),(some (74,false)),(.mv (.tmp 11))⟩,
  ⟨(some 76),(some (74,false)),(.mv (.tmp 7))⟩,
  ⟨(some 77),(some (74,false)),(.bin .neq (.tmp 75) (.tmp 76))⟩,
  ⟨(some 78),none,(.pick (.tmp 74) (.const (.bool true)) (.tmp 77))⟩,
  ⟨(some 79),none,(.mv (.tmp 78))⟩,
  ⟨(some 80),(some (79,false)),(.mv (.tmp 12))⟩,
  ⟨(some 81),(some (79,false)),(.mv (.tmp 8))⟩,
  ⟨(some 82),(some (79,false)),(.bin .neq (.tmp 80) (.tmp 81))⟩,
  ⟨(some 83),none,(.pick (.tmp 79) (.const (.bool true)) (.tmp 82))⟩]) (.cond (.tmp 83) (.seq (.ops [
  ⟨(some 4),none,(.asg (.const (.bool false)))⟩]) .ret) .skip)) (.seq (.ops [
  ⟨(some 14),none,(.asg (.const (.int .i64 1)))⟩]) (.seq (.ops [
  ⟨(some 84),none,(.load 1 true (.tmp 10))⟩,
  ⟨(some 85),none,(.mv (.tmp 14))⟩,
  ⟨(some 86),none,(.callX 11 [(.tmp 84),(.tmp 85)])⟩,
  ⟨(some 14),none,(.asg (.tmp 86))⟩]) (.seq (.ops [
  ⟨(some 15),none,(.asg (.const (.int .i64 1)))⟩]) (.seq (.ops [
  ⟨(some 87),none,(.load 1 true (.tmp 10))⟩,
  ⟨(some 88),none,(.mv (.tmp 15))⟩,
  ⟨(some 89),none,(.callX 12 [(.tmp 87),(.tmp 88)])⟩,
  ⟨(some 15),none,(.asg (.tmp 89))⟩]) (.seq (.seq (.ops [
  ⟨(some 90),none,(.mv (.tmp 15))⟩,
  ⟨(some 91),none,(.bin .lss (.tmp 90) (.const (.int .i64 0)))⟩]) (.cond (.tmp 91) (.seq (.ops [
  ⟨(some 4),none,(.asg (.const (.bool false)))⟩]) .ret) .skip)) (.seq (.seq (.ops [
  ⟨(some 92),none,(.mv (.tmp 15))⟩,
  ⟨(some 93),none,(.mv (.tmp 14))⟩,
  ⟨(some 94),none,(.bin .neq (.tmp 92) (.tmp 93))⟩]) (.cond (.tmp 94) (.seq (.ops [
  ⟨(some 4),none,(.asg (.const (.bool false)))⟩]) .ret) .skip)) (.seq (.ops [
  ⟨(some 96),none,(.load 2 true (.tmp 2))⟩,
  ⟨(some 97),none,(.callX 6 [(.tmp 96)])⟩,
  ⟨(some 98),none,(.mv (.tmp 1))⟩,
  ⟨(some 99),none,(.callX 7 [(.tmp 97),(.tmp 98)])⟩,
  ⟨(some 95),none,(.mv (.tmp 99))⟩,
  ⟨(some 100),none,(.ext (.tmp 95) 0)⟩,
  ⟨(some 101),none,(.ext (.tmp 95) 1)⟩,
  ⟨(some 102),none,(.ext (.tmp 95) 2)⟩,
  ⟨(some 16),none,(.alloc [(.slice none 0 0)])⟩,
  ⟨none,none,(.store 1 (.tmp 16) (.tmp 100))⟩,
  ⟨(some 17),none,(.asg (.tmp 101))⟩,
  ⟨(some 18),none,(.asg (.tmp 102))⟩]) (.seq (.seq (.ops [
  ⟨(some 103),none,(.load 1 true (.tmp 16))⟩,
  ⟨(some 104),none,(.load 1 true (.tmp 6))⟩,
  ⟨(some 105),none,(.callX 8 [(.tmp 103),(.tmp 104)])⟩,
  ⟨(some 106),none,(.un .not (.tmp 105))⟩,
  ⟨(some 107),none,(.mv (.tmp 106))⟩,
  ⟨(some 108),(some (107,false)),(.mv (.tmp 17))⟩,
  ⟨(some 109),(some (107,false)),(.mv (.tmp 7))⟩,
  ⟨(some 110),(some (107,false)),(.bin .neq (.tmp 108) (.tmp 109))⟩,
  ⟨(some 111),none,(.pick (.tmp 107) (.const (.bool true)) (.tmp 110))⟩,
  ⟨(some 112),none,(.mv (.tmp 111))⟩,
  ⟨(some 113),(some (112,false)),(.mv (.tmp 18))⟩,
  ⟨(some 114),(some (112,false)),(.mv (.tmp 8))⟩,
  ⟨(some 115),(some (112,false)),(.bin .neq (.tmp 113) (.tmp 114))⟩,
  ⟨(some 116),none,(.pick (.tmp 112) (.const (.bool true)) (.tmp 115))⟩]) (.cond (.tmp 116) (.seq (.ops [
  ⟨(some 4),none,(.asg (.const (.bool false)))⟩]) .ret) .skip)) (.seq (.ops [
  ⟨(some 15),none,(.asg (.const (.int .i64 1)))⟩]) (.seq (.ops [
  ⟨(some 117),none,(.load 1 true (.tmp 10))⟩,
  ⟨(some 118),none,(.mv (.tmp 15))⟩,
  ⟨(some 119),none,(.callX 12 [(.tmp 117),(.tmp 118)])⟩,
  ⟨(some 15),none,(.asg (.tmp 119))⟩]) (.seq (.seq (.ops [
  ⟨(some 120),none,(.mv (.tmp 15))⟩,
  ⟨(some 121),none,(.bin .lss (.tmp 120) (.const (.int .i64 0)))⟩]) (.cond (.tmp 121) (.seq (.ops [
  ⟨(some 4),none,(.asg (.const (.bool false)))⟩]) .ret) .skip)) (.seq (.seq (.ops [
  ⟨(some 122),none,(.mv (.tmp 15))⟩,
  ⟨(some 123),none,(.mv (.tmp 14))⟩,
  ⟨(some 124),none,(.bin .neq (.tmp 122) (.tmp 123))⟩]) (.cond (.tmp 124) (.seq (.ops [
  ⟨(some 4),none,(.asg (.const (.bool false)))⟩]) .ret) .skip)) (.seq (.ops [
  ⟨(some 4),none,(.asg (.const (.bool true)))⟩]) .ret))))))))))))))))))))))))))
theorem zBp {a0 a1 d:D}(h:code_laws_FnExactReadAssembly.wp (CT Tryz.prog zAr) (zC9 [(.t 4)] d) [a0,a1,.undef,.undef,.undef,.undef,.undef,.undef,.undef,.undef,.undef,.undef,.undef,.undef,.undef,.undef,.undef,.undef,.undef,.undef,.undef,.undef,.undef,.undef,.undef,.undef,.undef,.undef,.undef,.undef,.undef,.undef,.undef,.undef,.undef,.undef,.undef,.undef,.undef,.undef,.undef,.undef,.undef,.undef,.undef,.undef,.undef,.undef,.undef,.undef,.undef,.undef,.undef,.undef,.undef,.undef,.undef,.undef,.undef,.undef,.undef,.undef,.undef,.undef,.undef,.undef,.undef,.undef,.undef,.undef,.undef,.undef,.undef,.undef,.undef,.undef,.undef,.undef,.undef,.undef,.undef,.undef,.undef,.undef,.undef,.undef,.undef,.undef,.undef,.undef,.undef,.undef,.undef,.undef,.undef,.undef,.undef,.undef,.undef,.undef,.undef,.undef,.undef,.undef,.undef,.undef,.undef,.undef,.undef,.undef,.undef,.undef,.undef,.undef,.undef,.undef,.undef,.undef,.undef,.undef,.undef,.undef,.undef,.undef,.undef]):Contract Tryz.prog zAr 3 [a0,a1] d :=
  zAk (pt:=0) zC6 Tryz.func3 (fun us W=>by kernel_rfl) (c:=Tryz.f3.body.getD .skip) (ms:=[]) (ms':=[]) (by kernel_rfl) (by kernel_rfl) (by kernel_rfl) h
set_option maxHeartbeats 8000000 in
theorem zK0 (q_aSet:TileSet)(q_aSet_ok:TileSet.td.ok q_aSet)(q_aText:ByteArray)(q_aText_ok:q_aText.size≤maxLen):Contract Tryz.prog zAr 3 [.agg (TileSet.td.d false q_aSet),.v (.string q_aText)] (.v (.bool true)):=by
  by_cases g0:q_aText.size≤1048576
  · by_cases g1:((TileSet.cnt q_aSet:Nat):Int)≤1048576
    · have q_aSet_n:TileSet.cnt q_aSet≤1048576:=(by omega);have q_aText_n:q_aText.size≤1048576:=(by omega);have hr0:=(zLf q_aSet q_aSet_ok q_aSet_n q_aText q_aText_ok q_aText_n)
      have n0:decide ((1048576:Int)<(q_aText.size:Nat))=false:=(by rw [decide_eq_false_iff_not];omega);have e1:szR (1048576) (TileSet.cnt q_aSet)=1048576-(TileSet.cnt q_aSet:Nat):=(by rw [zE2 g1]);have n1:decide ((1048576-(TileSet.cnt q_aSet:Nat):Int)<0)=false:=(by rw [decide_eq_false_iff_not];omega);have hi0:=(zFe q_aSet q_aSet_n).imm;simp only [D.imm,zHy,TD.imm,TD.rows,zAe,zAc,zAf,zAb,zAd,zAa] at hi0;have hm_0:=TileSet.cnT_le q_aSet;have hm_1:=(show (Assembly.cnT (zAs q_aSet q_aText))≤1000000000000 from zLg q_aSet q_aText)
      have dm0:decide (((1+(TileSet.cnT q_aSet:Nat)):Int)<0)=false:=(by rw [decide_eq_false_iff_not];omega);have dm1:decide (((1+(Assembly.cnT (zAs q_aSet q_aText):Nat)):Int)<0)=false:=(by rw [decide_eq_false_iff_not];omega);rw [TileSet.td_d];refine zBp ?_;unfold code_laws_FnExactReadAssembly;simp -implicitDefEqProofs (disch:=omega) only [go_sem,↓reduceIte ,decide_true,n0,e1,n1,dm0,dm1];refine zAm (zL3 q_aSet q_aSet_ok (1048576) (by omega) (by omega)) (by simp -implicitDefEqProofs (disch:=omega) only [go_sem,↓reduceIte,deep,TD.rows,zAe,zAc,zAf,zAb,zAd,zAa,decide_true,n0,e1,n1,dm0,dm1];exact rfl) ?_;simp -implicitDefEqProofs (disch:=omega) only [go_sem,↓reduceIte ,decide_true,n0,e1,n1,dm0,dm1];refine zAm (zFe q_aSet q_aSet_n) (by simp -implicitDefEqProofs (disch:=omega) only [go_sem,↓reduceIte,deep,TD.rows,zAe,zAc,zAf,zAb,zAd,zAa,decide_true,n0,e1,n1,dm0,dm1];exact rfl) ?_;simp -implicitDefEqProofs (disch:=omega) only [go_sem,↓reduceIte ,decide_true,n0,e1,n1,dm0,dm1];refine zAm (zH2 q_aSet q_aSet_ok q_aSet_n q_aText q_aText_ok q_aText_n) (by simp -implicitDefEqProofs (disch:=omega) only [go_sem,↓reduceIte,deep,TD.rows,zAe,zAc,zAf,zAb,zAd,zAa,decide_true,n0,e1,n1,dm0,dm1];exact rfl) ?_;simp -implicitDefEqProofs (disch:=omega) only [go_sem,↓reduceIte ,decide_true,n0,e1,n1,dm0,dm1];refine zAm (zFe q_aSet q_aSet_n) (by simp -implicitDefEqProofs (disch:=omega) only [go_sem,↓reduceIte,deep,TD.rows,zAe,zAc,zAf,zAb,zAd,zAa,decide_true,n0,e1,n1,dm0,dm1];exact rfl) ?_;simp -implicitDefEqProofs (disch:=omega) only [go_sem,↓reduceIte ,decide_true,n0,e1,n1,dm0,dm1];refine zAm (zEq q_aSet q_aSet_ok q_aSet_n q_aText q_aText_ok q_aText_n) (by simp -implicitDefEqProofs (disch:=omega) only [go_sem,↓reduceIte,deep,TD.rows,zAe,zAc,zAf,zAb,zAd,zAa,decide_true,n0,e1,n1,dm0,dm1];exact rfl) ?_;simp -implicitDefEqProofs (disch:=omega) only [go_sem,↓reduceIte ,decide_true,n0,e1,n1,dm0,dm1];refine zAm (zF0 (zAs q_aSet q_aText) hr0) (by simp -implicitDefEqProofs (disch:=omega) only [go_sem,↓reduceIte,deep,TD.rows,zAe,zAc,zAf,zAb,zAd,zAa,decide_true,n0,e1,n1,dm0,dm1];exact rfl) ?_;simp -implicitDefEqProofs (disch:=omega) only [go_sem,↓reduceIte ,decide_true,n0,e1,n1,dm0,dm1];refine yDt (hi0) (by simp -implicitDefEqProofs (disch:=omega) only [go_sem,↓reduceIte,deep,TD.rows,zAe,zAc,zAf,zAb,zAd,zAa,decide_true,n0,e1,n1,dm0,dm1];exact rfl) ?_;simp -implicitDefEqProofs (disch:=omega) only [go_sem,↓reduceIte ,decide_true,n0,e1,n1,dm0,dm1];refine zAm (zTa q_aSet q_aSet_ok) (by simp -implicitDefEqProofs (disch:=omega) only [go_sem,↓reduceIte,deep,TD.rows,zAe,zAc,zAf,zAb,zAd,zAa,decide_true,n0,e1,n1,dm0,dm1];exact rfl) ?_;simp -implicitDefEqProofs (disch:=omega) only [go_sem,↓reduceIte ,decide_true,n0,e1,n1,dm0,dm1];refine zO9 (r:=9) (zPm q_aSet q_aSet_ok (1) (by omega) (by omega)) rfl rfl rfl rfl ?_;simp -implicitDefEqProofs (disch:=omega) only [go_sem,↓reduceIte ,decide_true,n0,e1,n1,dm0,dm1];refine zAm (zF0 (zAs q_aSet q_aText) hr0) (by simp -implicitDefEqProofs (disch:=omega) only [go_sem,↓reduceIte,deep,TD.rows,zAe,zAc,zAf,zAb,zAd,zAa,decide_true,n0,e1,n1,dm0,dm1];exact rfl) ?_;simp -implicitDefEqProofs (disch:=omega) only [go_sem,↓reduceIte ,decide_true,n0,e1,n1,dm0,dm1];refine zO9 (r:=10) (zNy (zAs q_aSet q_aText) hr0 (1) (by omega) (by omega)) rfl rfl rfl rfl ?_;simp -implicitDefEqProofs (disch:=omega) only [go_sem,↓reduceIte ,decide_true,n0,e1,n1,dm0,dm1];refine zAm (zG3 (zAs q_aSet q_aText) hr0 (1) (by omega) (by omega)) (by simp -implicitDefEqProofs (disch:=omega) only [go_sem,↓reduceIte,deep,TD.rows,zAe,zAc,zAf,zAb,zAd,zAa,decide_true,n0,e1,n1,dm0,dm1];exact rfl) ?_;simp -implicitDefEqProofs (disch:=omega) only [go_sem,↓reduceIte ,decide_true,n0,e1,n1,dm0,dm1];refine zAm (zFe q_aSet q_aSet_n) (by simp -implicitDefEqProofs (disch:=omega) only [go_sem,↓reduceIte,deep,TD.rows,zAe,zAc,zAf,zAb,zAd,zAa,decide_true,n0,e1,n1,dm0,dm1];exact rfl) ?_;simp -implicitDefEqProofs (disch:=omega) only [go_sem,↓reduceIte ,decide_true,n0,e1,n1,dm0,dm1];refine zAm (zEq q_aSet q_aSet_ok q_aSet_n q_aText q_aText_ok q_aText_n) (by simp -implicitDefEqProofs (disch:=omega) only [go_sem,↓reduceIte,deep,TD.rows,zAe,zAc,zAf,zAb,zAd,zAa,decide_true,n0,e1,n1,dm0,dm1];exact rfl) ?_;simp -implicitDefEqProofs (disch:=omega) only [go_sem,↓reduceIte ,decide_true,n0,e1,n1,dm0,dm1];refine zAm (zF0 (zAs q_aSet q_aText) hr0) (by simp -implicitDefEqProofs (disch:=omega) only [go_sem,↓reduceIte,deep,TD.rows,zAe,zAc,zAf,zAb,zAd,zAa,decide_true,n0,e1,n1,dm0,dm1];exact rfl) ?_;simp -implicitDefEqProofs (disch:=omega) only [go_sem,↓reduceIte ,decide_true,n0,e1,n1,dm0,dm1];refine zAm (zG3 (zAs q_aSet q_aText) hr0 (1) (by omega) (by omega)) (by simp -implicitDefEqProofs (disch:=omega) only [go_sem,↓reduceIte,deep,TD.rows,zAe,zAc,zAf,zAb,zAd,zAa,decide_true,n0,e1,n1,dm0,dm1];exact rfl) ?_;simp -implicitDefEqProofs (disch:=omega) only [go_sem,↓reduceIte ,decide_true,n0,e1,n1,dm0,dm1]
    · have n0:decide ((1048576:Int)<(q_aText.size:Nat))=false:=(by rw [decide_eq_false_iff_not];omega);have e1:szR (1048576) (TileSet.cnt q_aSet) = -1:=(by rw [zDy g1]);rw [TileSet.td_d];refine zBp ?_;unfold code_laws_FnExactReadAssembly;simp -implicitDefEqProofs (disch:=omega) only [go_sem,↓reduceIte ,decide_true,n0,e1];refine zAm (zL3 q_aSet q_aSet_ok (1048576) (by omega) (by omega)) (by simp -implicitDefEqProofs (disch:=omega) only [go_sem,↓reduceIte,deep,TD.rows,zAe,zAc,zAf,zAb,zAd,zAa,decide_true,n0,e1];exact rfl) ?_;simp -implicitDefEqProofs (disch:=omega) only [go_sem,↓reduceIte ,decide_true,n0,e1]
  · have n0:decide ((1048576:Int)<(q_aText.size:Nat))=true:=(by rw [decide_eq_true_eq];omega);rw [TileSet.td_d];refine zBp ?_;unfold code_laws_FnExactReadAssembly;simp -implicitDefEqProofs (disch:=omega) only [go_sem,↓reduceIte ,decide_true,n0]
theorem zE1 (q_aSet_v0 q_aSet_v1:Value)(q_aSet:TileSet)(q_aText:ByteArray)(w:World)(hTab:GI zAr w (fun b=>b<w.heap.size))(q_aSet_h0:(Ty.slice 76 Glue.ty).rep w w.heap.size [q_aSet_v0] q_aSet.Glues)(q_aSet_h1:(Ty.slice 80 Tile.ty).rep w w.heap.size [q_aSet_v1] q_aSet.Tiles)(q_aText_p:q_aText.size≤maxLen) :
    Calls Tryz.prog 3 #[.agg #[q_aSet_v0,q_aSet_v1],.string q_aText] w fun e w'=>e=.returned (.bool true)∧Below w.heap.size w w':=by
  have hr_q_aSet:=TileSet.rep_mk (w:=w) (B:=w.heap.size) q_aSet_h0 q_aSet_h1;refine (Contract.at (zK0 q_aSet (TileSet.td.rep_ok hr_q_aSet) q_aText q_aText_p) hTab (Nat.le_refl _) (zL1 (TD.arg_agg TileSet.td hr_q_aSet) (zL1 (yJu _) zU4))).mono ?_;rintro e w' ⟨⟨v,I,F,rfl,hT,hn,hF⟩,hb⟩;obtain rfl:=T_v hT;exact ⟨rfl,hb⟩
end Go.Proofs.YtdlchnlpmofpmaaGreatDoor
