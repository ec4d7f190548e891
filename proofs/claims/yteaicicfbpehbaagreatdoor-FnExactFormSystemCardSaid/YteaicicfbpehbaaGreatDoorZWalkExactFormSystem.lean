/- Laws that the proof stands on. -/
import Derived.Test.YteaicicfbpehbaaGreatDoorZg21
import Derived.Test.YteaicicfbpehbaaGreatDoorZg13
import Derived.Test.YteaicicfbpehbaaGreatDoorZg15
import Derived.Test.YteaicicfbpehbaaGreatDoorZg12
import Derived.Test.YteaicicfbpehbaaGreatDoorZVTab
set_option linter.all false
namespace Go.Proofs.YteaicicfbpehbaaGreatDoor
open Go.RowKit Go.V
attribute [local go_sem] List.getElem?_cons_succ List.getElem?_cons_zero List.set_cons_succ List.set_cons_zero List.map_cons List.map_nil List.length_cons List.length_nil List.all_cons List.all_nil List.drop_succ_cons List.drop_zero List.take_succ_cons List.take_zero List.flatMap_cons List.flatMap_nil List.cons_append List.nil_append List.append_nil List.headD_cons Value.oneCell' Bool.and_true Bool.true_and Bool.or_false Bool.false_or Bool.and_self Bool.not_true Bool.not_false and_true true_and beq_self_eq_true Bool.false_eq_true if_true if_false Nat.zero_add Nat.reduceAdd Nat.reduceMul Nat.reduceLeDiff Nat.le_refl Option.isSome_some Option.isSome_none not_true_eq_false not_false_eq_true ne_eq reduceCtorEq List.reverse_nil bne_self_eq_false Nat.reduceEqDiff List.isPrefixOf Bool.not_eq_true Bool.and_false Bool.false_and Bool.true_or Bool.or_true decide_true decide_false Nat.reduceBEq Nat.reduceBNe List.replicate_succ List.replicate_zero exists_eq_left' exists_eq_left Option.some.injEq or_false or_true true_or false_or Option.map_some Option.map_none mB Nat.reduceMod Nat.reduceDiv
set_option maxRecDepth 100000
attribute [local go_sem] List.length_map decide_true decide_false Int.reduceLT Int.reduceNeg Assembly.td_d Form.td_d System.td_d TileSet.td_d
def code_laws_FnExactFormSystem:VCode:=(.seq (.ops [
  ⟨(some 2),none,(.box (.tmp 0))⟩,
  ⟨(some 4),none,(.asg (.const (.bool false)))⟩]) (.seq (.seq (.ops [
  ⟨(some 17),none,(.mv (.tmp 1))⟩,
  ⟨(some 18),none,(.len (.tmp 17))⟩,
  ⟨(some 19),none,(.bin .gtr (.tmp 18) (.const (.int .i64 1048576)))⟩]) (.cond (.tmp 19) (.seq (.ops [
  ⟨(some 4),none,(.asg (.const (.bool true)))⟩]) .ret) .skip)) (.seq (.ops [
  ⟨(some 5),none,(.asg (.const (.int .i64 1048576)))⟩]) (.seq (.ops [
  ⟨(some 20),none,(.load 3 true (.tmp 2))⟩,
  ⟨(some 21),none,(.mv (.tmp 5))⟩,
  ⟨(some 22),none,(.callX 4 [(.tmp 20),(.tmp 21)])⟩,
  ⟨(some 5),none,(.asg (.tmp 22))⟩]) (.seq (.seq (.ops [
  ⟨(some 23),none,(.mv (.tmp 5))⟩,
  ⟨(some 24),none,(.bin .lss (.tmp 23) (.const (.int .i64 0)))⟩]) (.cond (.tmp 24) (.seq (.ops [
  ⟨(some 4),none,(.asg (.const (.bool true)))⟩]) .ret) .skip)) (.seq (.ops [
  ⟨(some 26),none,(.load 3 true (.tmp 2))⟩,
  ⟨(some 27),none,(.callX 6 [(.tmp 26)])⟩,
  ⟨(some 28),none,(.mv (.tmp 1))⟩,
  ⟨(some 29),none,(.callX 7 [(.tmp 28)])⟩,
  ⟨(some 30),none,(.callX 5 [(.tmp 27),(.tmp 29)])⟩,
  ⟨(some 25),none,(.mv (.tmp 30))⟩,
  ⟨(some 31),none,(.ext (.tmp 25) 0)⟩,
  ⟨(some 32),none,(.ext (.tmp 25) 1)⟩,
  ⟨(some 6),none,(.alloc [(.slice none 0 0),(.slice none 0 0),(.slice none 0 0),(.int .i64 0)])⟩,
  ⟨none,none,(.store 4 (.tmp 6) (.tmp 31))⟩,
  ⟨(some 7),none,(.asg (.tmp 32))⟩]) (.seq (.ops [
  ⟨(some 33),none,(.load 3 true (.tmp 2))⟩,
  ⟨(some 34),none,(.callX 6 [(.tmp 33)])⟩,
  ⟨(some 8),none,(.alloc [(.int .i64 0),(.slice none 0 0),(.slice none 0 0)])⟩,
  ⟨none,none,(.store 3 (.tmp 8) (.tmp 34))⟩]) (.seq (.ops [
  ⟨(some 35),none,(.mv (.tmp 1))⟩,
  ⟨(some 36),none,(.callX 7 [(.tmp 35)])⟩,
  ⟨(some 9),none,(.asg (.tmp 36))⟩]) (.seq (.ops [
  ⟨(some 38),none,(.load 3 true (.tmp 8))⟩,
  ⟨(some 39),none,(.mv (.tmp 9))⟩,
  ⟨(some 40),none,(.callX 8 [(.tmp 38),(.tmp 39)])⟩,
  ⟨(some 37),none,(.mv (.tmp 40))⟩,
  ⟨(some 41),none,(.ext (.tmp 37) 0)⟩,
  ⟨(some 42),none,(.ext (.tmp 37) 1)⟩,
  ⟨(some 10),none,(.alloc [(.slice none 0 0),(.slice none 0 0),(.slice none 0 0),(.int .i64 0)])⟩,
  ⟨none,none,(.store 4 (.tmp 10) (.tmp 41))⟩,
  ⟨(some 11),none,(.asg (.tmp 42))⟩]) (.seq (.seq (.ops [
  ⟨(some 43),none,(.load 4 true (.tmp 10))⟩,
  ⟨(some 44),none,(.load 4 true (.tmp 6))⟩,
  ⟨(some 45),none,(.callX 9 [(.tmp 43),(.tmp 44)])⟩,
  ⟨(some 46),none,(.un .not (.tmp 45))⟩,
  ⟨(some 47),none,(.mv (.tmp 46))⟩,
  ⟨(some 48),(some (47,false)),(.mv (.tmp 11))⟩,
  ⟨(some 49),(some (47,false)),(.mv (.tmp 7))⟩,
  ⟨(some 50),(some (47,false)),(.bin .neq (.tmp 48) (.tmp 49))⟩,
  ⟨(some 51),none,(.pick (.tmp 47) (.const (.bool true)) (.tmp 50))⟩]) (.cond (.tmp 51) (.seq (.ops [
  ⟨(some 4),none,(.asg (.const (.bool false)))⟩]) .ret) .skip)) (.seq (.seq (.draw (mB 55 31525197391593472) [] [⟨0,(mB 55 31525197391593472),[],⟨(some 52),none,(.load 3 true (.tmp 8))⟩⟩,⟨1,(mB 55 31525197391593472),[],⟨(some 53),none,(.load 3 true (.tmp 2))⟩⟩,⟨2,(mB 55 22517998136852480),[],⟨(some 54),none,(.call 6 [(.tmp 53)])⟩⟩] [⟨(some 55),none,(.callX 10 [(.tmp 52),(.tmp 54)])⟩,⟨(some 56),none,(.un .not (.tmp 55))⟩]) (.cond (.tmp 56) (.seq (.ops [
  ⟨(some 4),none,(.asg (.const (.bool false)))⟩]) .ret) .skip)) (.seq (.seq (.ops [
  ⟨(some 57),none,(.mv (.tmp 9))⟩,
  ⟨(some 58),none,(.mv (.tmp 1))⟩,
  ⟨(some 59),none,(.callX 7 [(.tmp 58)])⟩,
  ⟨(some 60),none,(.callX 11 [(.tmp 57),(.tmp 59)])⟩,
  ⟨(some 61),none,(.un .not (.tmp 60))⟩]) (.cond (.tmp 61) (.seq (.ops [
  ⟨(some 4),none,(.asg (.const (.bool false)))⟩]) .ret) .skip)) (.seq (.ops [
  ⟨(some 12),none,(.asg (.const (.int .i64 1)))⟩]) (.seq (.ops [
  ⟨(some 62),none,(.load 3 true (.tmp 8))⟩,
  ⟨(some 63),none,(.mv (.tmp 12))⟩,
  ⟨(some 64),none,(.callX 12 [(.tmp 62),(.tmp 63)])⟩,
  ⟨(some 12),none,(.asg (.tmp 64))⟩]) (.seq (.ops [
  ⟨(some 65),none,(.mv (.tmp 9))⟩,
  ⟨(some 66),none,(.mv (.tmp 12))⟩,
  ⟨(some 67),none,(.callX 13 [(.tmp 65),(.tmp 66)])⟩,
  ⟨(some 12),none,(.asg (.tmp 67))⟩]) (.seq (.seq (.ops [
  ⟨(some 68),none,(.mv (.tmp 12))⟩,
  ⟨(some 69),none,(.bin .lss (.tmp 68) (.const (.int .i64 0)))⟩,
  ⟨(some 70),none,(.mv (.tmp 69))⟩,
  ⟨(some 71),(some (70,false)),(.load 4 true (.tmp 10))⟩,
  ⟨(some 72),(some (70,false)),(.load 4 true (.tmp 6))⟩,
  ⟨(some 73),(some (70,false)),(.callX 9 [(.tmp 71),(.tmp 72)])⟩,
  ⟨(some 74),(some (70,false)),(.un .not (.tmp 73))⟩,
  ⟨(some 75),none,(.pick (.tmp 70) (.const (.bool true)) (.tmp 74))⟩,
  ⟨(some 76),none,(.mv (.tmp 75))⟩,
  ⟨(some 77),(some (76,false)),(.mv (.tmp 11))⟩,
  ⟨(some 78),(some (76,false)),(.mv (.tmp 7))⟩,
  ⟨(some 79),(some (76,false)),(.bin .neq (.tmp 77) (.tmp 78))⟩,
  ⟨(some 80),none,(.pick (.tmp 76) (.const (.bool true)) (.tmp 79))⟩]) (.cond (.tmp 80) (.seq (.ops [
  ⟨(some 4),none,(.asg (.const (.bool false)))⟩]) .ret) .skip)) (.seq (.ops [
  ⟨(some 13),none,(.asg (.const (.int .i64 1)))⟩]) (.seq (.ops [
  ⟨(some 81),none,(.load 4 true (.tmp 10))⟩,
  ⟨(some 82),none,(.mv (.tmp 13))⟩,
  ⟨(some 83),none,(.callX 14 [(.tmp 81),(.tmp 82)])⟩,
  ⟨(some 13),none,(.asg (.tmp 83))⟩]) (.seq (.ops [
  ⟨(some 14),none,(.asg (.const (.int .i64 1)))⟩]) (.seq (.ops [
  ⟨(some 84),none,(.load 4 true (.tmp 10))⟩,
  ⟨(some 85),none,(.mv (.tmp 14))⟩,
  ⟨(some 86),none,(.callX 15 [(.tmp 84),(.tmp 85)])⟩,
  ⟨(some 14),none,(.asg (.tmp 86))⟩]) (.seq (.seq (.ops [
  ⟨(some 87),none,(.mv (.tmp 14))⟩,
  ⟨(some 88),none,(.bin .lss (.tmp 87) (.const (.int .i64 0)))⟩]) (.cond (.tmp 88) (.seq (.ops [
  ⟨(some 4),none,(.asg (.const (.bool false)))⟩]) .ret) .skip)) (.seq (.seq (.ops [
  ⟨(some 89),none,(.mv (.tmp 14))⟩,
  ⟨(some 90),none,(.mv (.tmp 13))⟩,
  ⟨(some 91),none,(.bin .neq (.tmp 89) (.tmp 90))⟩]) (.cond (.tmp 91) (.seq (.ops [
  ⟨(some 4),none,(.asg (.const (.bool false)))⟩]) .ret) .skip)) (.seq (.ops [
  ⟨(some 93),none,(.load 3 true (.tmp 2))⟩,
  ⟨(some 94),none,(.callX 6 [(.tmp 93)])⟩,
  ⟨(some 95),none,(.mv (.tmp 1))⟩,
  ⟨(some 96),none,(.callX 7 [(.tmp 95)])⟩,
  ⟨(some 97),none,(.callX 8 [(.tmp 94),(.tmp 96)])⟩,
  ⟨(some 92),none,(.mv (.tmp 97))⟩,
  ⟨(some 98),none,(.ext (.tmp 92) 0)⟩,
  ⟨(some 99),none,(.ext (.tmp 92) 1)⟩,
  ⟨(some 15),none,(.alloc [(.slice none 0 0),(.slice none 0 0),(.slice none 0 0),(.int .i64 0)])⟩,
  ⟨none,none,(.store 4 (.tmp 15) (.tmp 98))⟩,
  ⟨(some 16),none,(.asg (.tmp 99))⟩]) (.seq (.seq (.ops [
  ⟨(some 100),none,(.load 4 true (.tmp 15))⟩,
  ⟨(some 101),none,(.load 4 true (.tmp 6))⟩,
  ⟨(some 102),none,(.callX 9 [(.tmp 100),(.tmp 101)])⟩,
  ⟨(some 103),none,(.un .not (.tmp 102))⟩,
  ⟨(some 104),none,(.mv (.tmp 103))⟩,
  ⟨(some 105),(some (104,false)),(.mv (.tmp 16))⟩,
  ⟨(some 106),(some (104,false)),(.mv (.tmp 7))⟩,
  ⟨(some 107),(some (104,false)),(.bin .neq (.tmp 105) (.tmp 106))⟩,
  ⟨(some 108),none,(.pick (.tmp 104) (.const (.bool true)) (.tmp 107))⟩]) (.cond (.tmp 108) (.seq (.ops [
  ⟨(some 4),none,(.asg (.const (.bool false)))⟩]) .ret) .skip)) (.seq (.ops [
  ⟨(some 14),none,(.asg (.const (.int .i64 1)))⟩]) (.seq (.ops [
  ⟨(some 109),none,(.load 4 true (.tmp 10))⟩,
  ⟨(some 110),none,(.mv (.tmp 14))⟩,
  ⟨(some 111),none,(.callX 15 [(.tmp 109),(.tmp 110)])⟩,
  ⟨(some 14),none,(.asg (.tmp 111))⟩]) (.seq (.seq (.ops [
  ⟨(some 112),none,(.mv (.tmp 14))⟩,
  ⟨(some 113),none,(.bin .lss (.tmp 112) (.const (.int .i64 0)))⟩]) (.cond (.tmp 113) (.seq (.ops [
  ⟨(some 4),none,(.asg (.const (.bool false)))⟩]) .ret) .skip)) (.seq (.seq (.ops [
  ⟨(some 114),none,(.mv (.tmp 14))⟩,
  ⟨(some 115),none,(.mv (.tmp 13))⟩,
  ⟨(some 116),none,(.bin .neq (.tmp 114) (.tmp 115))⟩]) (.cond (.tmp 116) (.seq (.ops [
  ⟨(some 4),none,(.asg (.const (.bool false)))⟩]) .ret) .skip)) (.seq (.ops [
  ⟨(some 4),none,(.asg (.const (.bool true)))⟩]) .ret)))))))))))))))))))))))))))))
theorem zCm {a0 a1 d:D} (h:code_laws_FnExactFormSystem.wp (CT Tryz.prog zA8) (zD5 [(.t 4)] d) [a0,a1,.undef,.undef,.undef,.undef,.undef,.undef,.undef,.undef,.undef,.undef,.undef,.undef,.undef,.undef,.undef,.undef,.undef,.undef,.undef,.undef,.undef,.undef,.undef,.undef,.undef,.undef,.undef,.undef,.undef,.undef,.undef,.undef,.undef,.undef,.undef,.undef,.undef,.undef,.undef,.undef,.undef,.undef,.undef,.undef,.undef,.undef,.undef,.undef,.undef,.undef,.undef,.undef,.undef,.undef,.undef,.undef,.undef,.undef,.undef,.undef,.undef,.undef,.undef,.undef,.undef,.undef,.undef,.undef,.undef,.undef,.undef,.undef,.undef,.undef,.undef,.undef,.undef,.undef,.undef,.undef,.undef,.undef,.undef,.undef,.undef,.undef,.undef,.undef,.undef,.undef,.undef,.undef,.undef,.undef,.undef,.undef,.undef,.undef,.undef,.undef,.undef,.undef,.undef,.undef,.undef,.undef,.undef,.undef,.undef,.undef,.undef,.undef,.undef,.undef,.undef]):Contract Tryz.prog zA8 3 [a0,a1] d :=
  zAm (pt:=0) zDy Tryz.func3 (fun us W=>by kernel_rfl) (c:=Tryz.f3.body.getD .skip) (ms:=[]) (ms':=[]) (by kernel_rfl) (by kernel_rfl) (by kernel_rfl) h
set_option maxHeartbeats 8000000 in
theorem zNz (q_aF:Form) (q_aF_ok:Form.td.ok q_aF) (q_aInputs:List Int) (q_aInputs_ok:∀ y,y∈q_aInputs→InK .i64 y):Contract Tryz.prog zA8 3 [.agg (Form.td.d false q_aF),.sl false 1 (q_aInputs.map (rI))] (.v (.bool true)):=by
  by_cases g0:q_aInputs.length≤1048576
  · by_cases g1:((Form.cnt q_aF:Nat):Int)≤1048576
    · have q_aF_n:Form.cnt q_aF≤1048576:=(by omega);have q_aInputs_n:q_aInputs.length≤1048576:=(by omega);have hr0:=(zOf q_aF q_aF_ok q_aF_n q_aInputs q_aInputs_ok q_aInputs_n)
      have n0:decide ((1048576:Int) < (q_aInputs.length:Nat))=false:=(by rw [decide_eq_false_iff_not];omega);have e1:szR (1048576) (Form.cnt q_aF)=1048576 - (Form.cnt q_aF:Nat):=(by rw [zIt g1]);have n1:decide ((1048576 - (Form.cnt q_aF:Nat):Int) < 0)=false:=(by rw [decide_eq_false_iff_not];omega);have hi0:=(zLq q_aF q_aF_n).imm;simp only [D.imm,zIn,TD.imm,TD.rows,zAe,zAc,zAf,zAb,zAd,zAa] at hi0;have hm_0:=Form.cnT_le q_aF;have hm_1:=zEb (K:=1) (fun _=>Nat.le_refl 1) q_aInputs;have hm_2:=(show (System.cnT (zA6 q_aF q_aInputs))≤1000000000000 from zOg q_aF q_aInputs)
      have dm0:decide (((1+(Form.cnT q_aF:Nat)):Int) < 0)=false:=(by rw [decide_eq_false_iff_not];omega);have dm1:decide ((((1+(Form.cnT q_aF:Nat))+(cnS (fun _=>1) q_aInputs:Nat)):Int) < 0)=false:=(by rw [decide_eq_false_iff_not];omega);have dm2:decide (((1+(System.cnT (zA6 q_aF q_aInputs):Nat)):Int) < 0)=false:=(by rw [decide_eq_false_iff_not];omega);rw [Form.td_d];refine zCm ?_;unfold code_laws_FnExactFormSystem;simp -implicitDefEqProofs (disch:=omega) only [go_sem,↓reduceIte ,decide_true,n0,e1,n1,dm0,dm1,dm2];refine zAk (zUg q_aF q_aF_ok (1048576) (by omega) (by omega)) (by simp -implicitDefEqProofs (disch:=omega) only [go_sem,↓reduceIte,deep,TD.rows,zAe,zAc,zAf,zAb,zAd,zAa,decide_true,n0,e1,n1,dm0,dm1,dm2];exact rfl) ?_;simp -implicitDefEqProofs (disch:=omega) only [go_sem,↓reduceIte ,decide_true,n0,e1,n1,dm0,dm1,dm2];refine zAk (zLq q_aF q_aF_n) (by simp -implicitDefEqProofs (disch:=omega) only [go_sem,↓reduceIte,deep,TD.rows,zAe,zAc,zAf,zAb,zAd,zAa,decide_true,n0,e1,n1,dm0,dm1,dm2];exact rfl) ?_;simp -implicitDefEqProofs (disch:=omega) only [go_sem,↓reduceIte ,decide_true,n0,e1,n1,dm0,dm1,dm2];refine zAk (zFp q_aInputs q_aInputs_n) (by simp -implicitDefEqProofs (disch:=omega) only [go_sem,↓reduceIte,deep,TD.rows,zAe,zAc,zAf,zAb,zAd,zAa,decide_true,n0,e1,n1,dm0,dm1,dm2];exact rfl) ?_;simp -implicitDefEqProofs (disch:=omega) only [go_sem,↓reduceIte ,decide_true,n0,e1,n1,dm0,dm1,dm2];refine zAk (zK8 q_aF q_aF_ok q_aF_n q_aInputs q_aInputs_ok q_aInputs_n) (by simp -implicitDefEqProofs (disch:=omega) only [go_sem,↓reduceIte,deep,TD.rows,zAe,zAc,zAf,zAb,zAd,zAa,decide_true,n0,e1,n1,dm0,dm1,dm2];exact rfl) ?_;simp -implicitDefEqProofs (disch:=omega) only [go_sem,↓reduceIte ,decide_true,n0,e1,n1,dm0,dm1,dm2];refine zAk (zLq q_aF q_aF_n) (by simp -implicitDefEqProofs (disch:=omega) only [go_sem,↓reduceIte,deep,TD.rows,zAe,zAc,zAf,zAb,zAd,zAa,decide_true,n0,e1,n1,dm0,dm1,dm2];exact rfl) ?_;simp -implicitDefEqProofs (disch:=omega) only [go_sem,↓reduceIte ,decide_true,n0,e1,n1,dm0,dm1,dm2];refine zAk (zFp q_aInputs q_aInputs_n) (by simp -implicitDefEqProofs (disch:=omega) only [go_sem,↓reduceIte,deep,TD.rows,zAe,zAc,zAf,zAb,zAd,zAa,decide_true,n0,e1,n1,dm0,dm1,dm2];exact rfl) ?_;simp -implicitDefEqProofs (disch:=omega) only [go_sem,↓reduceIte ,decide_true,n0,e1,n1,dm0,dm1,dm2];refine zAk (zGk q_aF q_aF_ok q_aF_n q_aInputs q_aInputs_ok q_aInputs_n) (by simp -implicitDefEqProofs (disch:=omega) only [go_sem,↓reduceIte,deep,TD.rows,zAe,zAc,zAf,zAb,zAd,zAa,decide_true,n0,e1,n1,dm0,dm1,dm2];exact rfl) ?_;simp -implicitDefEqProofs (disch:=omega) only [go_sem,↓reduceIte ,decide_true,n0,e1,n1,dm0,dm1,dm2];refine zAk (zJ4 (zA6 q_aF q_aInputs) hr0) (by simp -implicitDefEqProofs (disch:=omega) only [go_sem,↓reduceIte,deep,TD.rows,zAe,zAc,zAf,zAb,zAd,zAa,decide_true,n0,e1,n1,dm0,dm1,dm2];exact rfl) ?_;simp -implicitDefEqProofs (disch:=omega) only [go_sem,↓reduceIte ,decide_true,n0,e1,n1,dm0,dm1,dm2];refine zAx (hi0) (by simp -implicitDefEqProofs (disch:=omega) only [go_sem,↓reduceIte,deep,TD.rows,zAe,zAc,zAf,zAb,zAd,zAa,decide_true,n0,e1,n1,dm0,dm1,dm2];exact rfl) ?_;simp -implicitDefEqProofs (disch:=omega) only [go_sem,↓reduceIte ,decide_true,n0,e1,n1,dm0,dm1,dm2];refine zAk (yC5 q_aF q_aF_ok) (by simp -implicitDefEqProofs (disch:=omega) only [go_sem,↓reduceIte,deep,TD.rows,zAe,zAc,zAf,zAb,zAd,zAa,decide_true,n0,e1,n1,dm0,dm1,dm2];exact rfl) ?_;simp -implicitDefEqProofs (disch:=omega) only [go_sem,↓reduceIte ,decide_true,n0,e1,n1,dm0,dm1,dm2];refine zAk (zFp q_aInputs q_aInputs_n) (by simp -implicitDefEqProofs (disch:=omega) only [go_sem,↓reduceIte,deep,TD.rows,zAe,zAc,zAf,zAb,zAd,zAa,decide_true,n0,e1,n1,dm0,dm1,dm2];exact rfl) ?_;simp -implicitDefEqProofs (disch:=omega) only [go_sem,↓reduceIte ,decide_true,n0,e1,n1,dm0,dm1,dm2];refine zAk (zV4 q_aInputs q_aInputs_ok) (by simp -implicitDefEqProofs (disch:=omega) only [go_sem,↓reduceIte,deep,TD.rows,zAe,zAc,zAf,zAb,zAd,zAa,decide_true,n0,e1,n1,dm0,dm1,dm2];exact rfl) ?_;simp -implicitDefEqProofs (disch:=omega) only [go_sem,↓reduceIte ,decide_true,n0,e1,n1,dm0,dm1,dm2];refine zO0 (r:=8) (zV0 q_aF q_aF_ok (1) (by omega) (by omega)) rfl rfl rfl rfl ?_;simp -implicitDefEqProofs (disch:=omega) only [go_sem,↓reduceIte ,decide_true,n0,e1,n1,dm0,dm1,dm2];refine zX7 (r:=9) (zQp q_aInputs q_aInputs_ok ((1+(Form.cnT q_aF:Nat))) (by omega) (by omega)) rfl rfl rfl rfl ?_;simp -implicitDefEqProofs (disch:=omega) only [go_sem,↓reduceIte ,decide_true,n0,e1,n1,dm0,dm1,dm2];refine zAk (zJ4 (zA6 q_aF q_aInputs) hr0) (by simp -implicitDefEqProofs (disch:=omega) only [go_sem,↓reduceIte,deep,TD.rows,zAe,zAc,zAf,zAb,zAd,zAa,decide_true,n0,e1,n1,dm0,dm1,dm2];exact rfl) ?_;simp -implicitDefEqProofs (disch:=omega) only [go_sem,↓reduceIte ,decide_true,n0,e1,n1,dm0,dm1,dm2];refine zO0 (r:=10) (zQo (zA6 q_aF q_aInputs) hr0 (1) (by omega) (by omega)) rfl rfl rfl rfl ?_;simp -implicitDefEqProofs (disch:=omega) only [go_sem,↓reduceIte ,decide_true,n0,e1,n1,dm0,dm1,dm2];refine zAk (zKv (zA6 q_aF q_aInputs) hr0 (1) (by omega) (by omega)) (by simp -implicitDefEqProofs (disch:=omega) only [go_sem,↓reduceIte,deep,TD.rows,zAe,zAc,zAf,zAb,zAd,zAa,decide_true,n0,e1,n1,dm0,dm1,dm2];exact rfl) ?_;simp -implicitDefEqProofs (disch:=omega) only [go_sem,↓reduceIte ,decide_true,n0,e1,n1,dm0,dm1,dm2];refine zAk (zLq q_aF q_aF_n) (by simp -implicitDefEqProofs (disch:=omega) only [go_sem,↓reduceIte,deep,TD.rows,zAe,zAc,zAf,zAb,zAd,zAa,decide_true,n0,e1,n1,dm0,dm1,dm2];exact rfl) ?_;simp -implicitDefEqProofs (disch:=omega) only [go_sem,↓reduceIte ,decide_true,n0,e1,n1,dm0,dm1,dm2];refine zAk (zFp q_aInputs q_aInputs_n) (by simp -implicitDefEqProofs (disch:=omega) only [go_sem,↓reduceIte,deep,TD.rows,zAe,zAc,zAf,zAb,zAd,zAa,decide_true,n0,e1,n1,dm0,dm1,dm2];exact rfl) ?_;simp -implicitDefEqProofs (disch:=omega) only [go_sem,↓reduceIte ,decide_true,n0,e1,n1,dm0,dm1,dm2];refine zAk (zGk q_aF q_aF_ok q_aF_n q_aInputs q_aInputs_ok q_aInputs_n) (by simp -implicitDefEqProofs (disch:=omega) only [go_sem,↓reduceIte,deep,TD.rows,zAe,zAc,zAf,zAb,zAd,zAa,decide_true,n0,e1,n1,dm0,dm1,dm2];exact rfl) ?_;simp -implicitDefEqProofs (disch:=omega) only [go_sem,↓reduceIte ,decide_true,n0,e1,n1,dm0,dm1,dm2];refine zAk (zJ4 (zA6 q_aF q_aInputs) hr0) (by simp -implicitDefEqProofs (disch:=omega) only [go_sem,↓reduceIte,deep,TD.rows,zAe,zAc,zAf,zAb,zAd,zAa,decide_true,n0,e1,n1,dm0,dm1,dm2];exact rfl) ?_;simp -implicitDefEqProofs (disch:=omega) only [go_sem,↓reduceIte ,decide_true,n0,e1,n1,dm0,dm1,dm2];refine zAk (zKv (zA6 q_aF q_aInputs) hr0 (1) (by omega) (by omega)) (by simp -implicitDefEqProofs (disch:=omega) only [go_sem,↓reduceIte,deep,TD.rows,zAe,zAc,zAf,zAb,zAd,zAa,decide_true,n0,e1,n1,dm0,dm1,dm2];exact rfl) ?_;simp -implicitDefEqProofs (disch:=omega) only [go_sem,↓reduceIte ,decide_true,n0,e1,n1,dm0,dm1,dm2]
    · have n0:decide ((1048576:Int) < (q_aInputs.length:Nat))=false:=(by rw [decide_eq_false_iff_not];omega);have e1:szR (1048576) (Form.cnt q_aF) = -1:=(by rw [zHv g1]);rw [Form.td_d];refine zCm ?_;unfold code_laws_FnExactFormSystem;simp -implicitDefEqProofs (disch:=omega) only [go_sem,↓reduceIte ,decide_true,n0,e1];refine zAk (zUg q_aF q_aF_ok (1048576) (by omega) (by omega)) (by simp -implicitDefEqProofs (disch:=omega) only [go_sem,↓reduceIte,deep,TD.rows,zAe,zAc,zAf,zAb,zAd,zAa,decide_true,n0,e1];exact rfl) ?_;simp -implicitDefEqProofs (disch:=omega) only [go_sem,↓reduceIte ,decide_true,n0,e1]
  · have n0:decide ((1048576:Int) < (q_aInputs.length:Nat))=true:=(by rw [decide_eq_true_eq];omega);rw [Form.td_d];refine zCm ?_;unfold code_laws_FnExactFormSystem;simp -implicitDefEqProofs (disch:=omega) only [go_sem,↓reduceIte ,decide_true,n0]
theorem zGo (q_aF_v0 q_aF_v1:Value) (q_aF:Form) (q_aInputs_v:Value) (q_aInputs:List Int) (w:World) (hTab:GI zA8 w (fun b=>b < w.heap.size)) (q_aF_h0:(Ty.slice 88 Cube.ty).rep w w.heap.size [q_aF_v0] q_aF.Cubes) (q_aF_h1:(Ty.slice 26 (Ty.slice 2 (Ty.int .i64))).rep w w.heap.size [q_aF_v1] q_aF.Sums) (q_aF_p0:InK .i64 q_aF.Inputs) (q_aInputs_h:(Ty.slice 2 (Ty.int .i64)).rep w w.heap.size [q_aInputs_v] q_aInputs) :
    Calls Tryz.prog 3 #[.agg #[.int .i64 q_aF.Inputs,q_aF_v0,q_aF_v1],q_aInputs_v] w fun e w'=>e=.returned (.bool true)∧Below w.heap.size w w':=by
  have hr_q_aF:=Form.rep_mk (w:=w) (B:=w.heap.size) q_aF_p0 q_aF_h0 q_aF_h1;refine (Contract.at (zNz q_aF (Form.td.rep_ok hr_q_aF) q_aInputs ((TD.slice 2 (TD.int .i64)).rep_ok q_aInputs_h)) hTab (Nat.le_refl _) (zL6 (TD.arg_agg Form.td hr_q_aF) (zL6 (TD.arg_slice (TD.int .i64) q_aInputs_h) zUf))).mono ?_;rintro e w' ⟨⟨v,I,F,rfl,hT,hn,hF⟩,hb⟩;obtain rfl:=T_v hT;exact ⟨rfl,hb⟩
end Go.Proofs.YteaicicfbpehbaaGreatDoor
