/- Laws that the proof stands on. -/
import Derived.Test.YtaleehohmpohoaaZg20
import Derived.Test.YtaleehohmpohoaaZg16
import Derived.Test.YtaleehohmpohoaaZg14
set_option linter.all false
namespace Go.Proofs.Ytaleehohmpohoaa
open Go.RowKit Go.V
attribute [local go_sem] List.getElem?_cons_succ List.getElem?_cons_zero List.set_cons_succ List.set_cons_zero List.map_cons List.map_nil List.length_cons List.length_nil List.all_cons List.all_nil List.drop_succ_cons List.drop_zero List.take_succ_cons List.take_zero List.flatMap_cons List.flatMap_nil List.cons_append List.nil_append List.append_nil List.headD_cons Value.oneCell' Bool.and_true Bool.true_and Bool.or_false Bool.false_or Bool.and_self Bool.not_true Bool.not_false and_true true_and beq_self_eq_true Bool.false_eq_true if_true if_false Nat.zero_add Nat.reduceAdd Nat.reduceMul Nat.reduceLeDiff Nat.le_refl Option.isSome_some Option.isSome_none not_true_eq_false not_false_eq_true ne_eq reduceCtorEq List.reverse_nil bne_self_eq_false Nat.reduceEqDiff List.isPrefixOf Bool.not_eq_true Bool.and_false Bool.false_and Bool.true_or Bool.or_true decide_true decide_false Nat.reduceBEq Nat.reduceBNe List.replicate_succ List.replicate_zero exists_eq_left' exists_eq_left Option.some.injEq or_false or_true true_or false_or Option.map_some Option.map_none mB Nat.reduceMod Nat.reduceDiv
set_option maxRecDepth 100000
attribute [local go_sem] List.length_map decide_true decide_false Int.reduceLT Int.reduceNeg Design.td_d
def code_laws_FnExactCanonicalDesign:VCode:=(.seq (.ops [
  ⟨(some 1),none,(.box (.tmp 0))⟩,
  ⟨(some 2),none,(.asg (.const (.bool false)))⟩]) (.seq (.ops [
  ⟨(some 3),none,(.asg (.const (.int .i64 1048576)))⟩]) (.seq (.ops [
  ⟨(some 14),none,(.load 3 true (.tmp 1))⟩,
  ⟨(some 15),none,(.mv (.tmp 3))⟩,
  ⟨(some 16),none,(.callX 7 [(.tmp 14),(.tmp 15)])⟩,
  ⟨(some 3),none,(.asg (.tmp 16))⟩]) (.seq (.seq (.ops [
  ⟨(some 17),none,(.mv (.tmp 3))⟩,
  ⟨(some 18),none,(.bin .lss (.tmp 17) (.const (.int .i64 0)))⟩]) (.cond (.tmp 18) (.seq (.ops [
  ⟨(some 2),none,(.asg (.const (.bool true)))⟩]) .ret) .skip)) (.seq (.ops [
  ⟨(some 20),none,(.load 3 true (.tmp 1))⟩,
  ⟨(some 21),none,(.callX 9 [(.tmp 20)])⟩,
  ⟨(some 22),none,(.callX 8 [(.tmp 21)])⟩,
  ⟨(some 19),none,(.mv (.tmp 22))⟩,
  ⟨(some 23),none,(.ext (.tmp 19) 0)⟩,
  ⟨(some 24),none,(.ext (.tmp 19) 1)⟩,
  ⟨(some 4),none,(.alloc [(.slice none 0 0),(.slice none 0 0),(.slice none 0 0)])⟩,
  ⟨none,none,(.store 3 (.tmp 4) (.tmp 23))⟩,
  ⟨(some 5),none,(.asg (.tmp 24))⟩]) (.seq (.ops [
  ⟨(some 25),none,(.load 3 true (.tmp 1))⟩,
  ⟨(some 26),none,(.callX 9 [(.tmp 25)])⟩,
  ⟨(some 6),none,(.alloc [(.slice none 0 0),(.slice none 0 0),(.slice none 0 0)])⟩,
  ⟨none,none,(.store 3 (.tmp 6) (.tmp 26))⟩]) (.seq (.ops [
  ⟨(some 28),none,(.load 3 true (.tmp 6))⟩,
  ⟨(some 29),none,(.callX 10 [(.tmp 28)])⟩,
  ⟨(some 27),none,(.mv (.tmp 29))⟩,
  ⟨(some 30),none,(.ext (.tmp 27) 0)⟩,
  ⟨(some 31),none,(.ext (.tmp 27) 1)⟩,
  ⟨(some 7),none,(.alloc [(.slice none 0 0),(.slice none 0 0),(.slice none 0 0)])⟩,
  ⟨none,none,(.store 3 (.tmp 7) (.tmp 30))⟩,
  ⟨(some 8),none,(.asg (.tmp 31))⟩]) (.seq (.seq (.ops [
  ⟨(some 32),none,(.load 3 true (.tmp 7))⟩,
  ⟨(some 33),none,(.load 3 true (.tmp 4))⟩,
  ⟨(some 34),none,(.callX 11 [(.tmp 32),(.tmp 33)])⟩,
  ⟨(some 35),none,(.un .not (.tmp 34))⟩,
  ⟨(some 36),none,(.mv (.tmp 35))⟩,
  ⟨(some 37),(some (36,false)),(.mv (.tmp 8))⟩,
  ⟨(some 38),(some (36,false)),(.mv (.tmp 5))⟩,
  ⟨(some 39),(some (36,false)),(.bin .neq (.tmp 37) (.tmp 38))⟩,
  ⟨(some 40),none,(.pick (.tmp 36) (.const (.bool true)) (.tmp 39))⟩]) (.cond (.tmp 40) (.seq (.ops [
  ⟨(some 2),none,(.asg (.const (.bool false)))⟩]) .ret) .skip)) (.seq (.seq (.draw (mB 44 15393162788864) [] [⟨0,(mB 44 15393162788864),[],⟨(some 41),none,(.load 3 true (.tmp 6))⟩⟩,⟨1,(mB 44 15393162788864),[],⟨(some 42),none,(.load 3 true (.tmp 1))⟩⟩,⟨2,(mB 44 10995116277760),[],⟨(some 43),none,(.call 9 [(.tmp 42)])⟩⟩] [⟨(some 44),none,(.callX 11 [(.tmp 41),(.tmp 43)])⟩,⟨(some 45),none,(.un .not (.tmp 44))⟩]) (.cond (.tmp 45) (.seq (.ops [
  ⟨(some 2),none,(.asg (.const (.bool false)))⟩]) .ret) .skip)) (.seq (.ops [
  ⟨(some 9),none,(.asg (.const (.int .i64 1)))⟩]) (.seq (.ops [
  ⟨(some 46),none,(.load 3 true (.tmp 6))⟩,
  ⟨(some 47),none,(.mv (.tmp 9))⟩,
  ⟨(some 48),none,(.callX 12 [(.tmp 46),(.tmp 47)])⟩,
  ⟨(some 9),none,(.asg (.tmp 48))⟩]) (.seq (.seq (.ops [
  ⟨(some 49),none,(.mv (.tmp 9))⟩,
  ⟨(some 50),none,(.bin .lss (.tmp 49) (.const (.int .i64 0)))⟩,
  ⟨(some 51),none,(.mv (.tmp 50))⟩,
  ⟨(some 52),(some (51,false)),(.load 3 true (.tmp 7))⟩,
  ⟨(some 53),(some (51,false)),(.load 3 true (.tmp 4))⟩,
  ⟨(some 54),(some (51,false)),(.callX 11 [(.tmp 52),(.tmp 53)])⟩,
  ⟨(some 55),(some (51,false)),(.un .not (.tmp 54))⟩,
  ⟨(some 56),none,(.pick (.tmp 51) (.const (.bool true)) (.tmp 55))⟩,
  ⟨(some 57),none,(.mv (.tmp 56))⟩,
  ⟨(some 58),(some (57,false)),(.mv (.tmp 8))⟩,
  ⟨(some 59),(some (57,false)),(.mv (.tmp 5))⟩,
  ⟨(some 60),(some (57,false)),(.bin .neq (.tmp 58) (.tmp 59))⟩,
  ⟨(some 61),none,(.pick (.tmp 57) (.const (.bool true)) (.tmp 60))⟩]) (.cond (.tmp 61) (.seq (.ops [
  ⟨(some 2),none,(.asg (.const (.bool false)))⟩]) .ret) .skip)) (.seq (.ops [
  ⟨(some 10),none,(.asg (.const (.int .i64 1)))⟩]) (.seq (.ops [
  ⟨(some 62),none,(.load 3 true (.tmp 7))⟩,
  ⟨(some 63),none,(.mv (.tmp 10))⟩,
  ⟨(some 64),none,(.callX 12 [(.tmp 62),(.tmp 63)])⟩,
  ⟨(some 10),none,(.asg (.tmp 64))⟩]) (.seq (.ops [
  ⟨(some 11),none,(.asg (.const (.int .i64 1)))⟩]) (.seq (.ops [
  ⟨(some 65),none,(.load 3 true (.tmp 7))⟩,
  ⟨(some 66),none,(.mv (.tmp 11))⟩,
  ⟨(some 67),none,(.callX 13 [(.tmp 65),(.tmp 66)])⟩,
  ⟨(some 11),none,(.asg (.tmp 67))⟩]) (.seq (.seq (.ops [
  ⟨(some 68),none,(.mv (.tmp 11))⟩,
  ⟨(some 69),none,(.bin .lss (.tmp 68) (.const (.int .i64 0)))⟩]) (.cond (.tmp 69) (.seq (.ops [
  ⟨(some 2),none,(.asg (.const (.bool false)))⟩]) .ret) .skip)) (.seq (.seq (.ops [
  ⟨(some 70),none,(.mv (.tmp 11))⟩,
  ⟨(some 71),none,(.mv (.tmp 10))⟩,
  ⟨(some 72),none,(.bin .neq (.tmp 70) (.tmp 71))⟩]) (.cond (.tmp 72) (.seq (.ops [
  ⟨(some 2),none,(.asg (.const (.bool false)))⟩]) .ret) .skip)) (.seq (.ops [
  ⟨(some 74),none,(.load 3 true (.tmp 1))⟩,
  ⟨(some 75),none,(.callX 9 [(.tmp 74)])⟩,
  ⟨(some 76),none,(.callX 10 [(.tmp 75)])⟩,
  ⟨(some 73),none,(.mv (.tmp 76))⟩,
  ⟨(some 77),none,(.ext (.tmp 73) 0)⟩,
  ⟨(some 78),none,(.ext (.tmp 73) 1)⟩,
  ⟨(some 12),none,(.alloc [(.slice none 0 0),(.slice none 0 0),(.slice none 0 0)])⟩,
  ⟨none,none,(.store 3 (.tmp 12) (.tmp 77))⟩,
  ⟨(some 13),none,(.asg (.tmp 78))⟩]) (.seq (.seq (.ops [
  ⟨(some 79),none,(.load 3 true (.tmp 12))⟩,
  ⟨(some 80),none,(.load 3 true (.tmp 4))⟩,
  ⟨(some 81),none,(.callX 11 [(.tmp 79),(.tmp 80)])⟩,
  ⟨(some 82),none,(.un .not (.tmp 81))⟩,
  ⟨(some 83),none,(.mv (.tmp 82))⟩,
  ⟨(some 84),(some (83,false)),(.mv (.tmp 13))⟩,
  ⟨(some 85),(some (83,false)),(.mv (.tmp 5))⟩,
  ⟨(some 86),(some (83,false)),(.bin .neq (.tmp 84) (.tmp 85))⟩,
  ⟨(some 87),none,(.pick (.tmp 83) (.const (.bool true)) (.tmp 86))⟩]) (.cond (.tmp 87) (.seq (.ops [
  ⟨(some 2),none,(.asg (.const (.bool false)))⟩]) .ret) .skip)) (.seq (.ops [
  ⟨(some 11),none,(.asg (.const (.int .i64 1)))⟩]) (.seq (.ops [
  ⟨(some 88),none,(.load 3 true (.tmp 7))⟩,
  ⟨(some 89),none,(.mv (.tmp 11))⟩,
  ⟨(some 90),none,(.callX 13 [(.tmp 88),(.tmp 89)])⟩,
  ⟨(some 11),none,(.asg (.tmp 90))⟩]) (.seq (.seq (.ops [
  ⟨(some 91),none,(.mv (.tmp 11))⟩,
  ⟨(some 92),none,(.bin .lss (.tmp 91) (.const (.int .i64 0)))⟩]) (.cond (.tmp 92) (.seq (.ops [
  ⟨(some 2),none,(.asg (.const (.bool false)))⟩]) .ret) .skip)) (.seq (.seq (.ops [
  ⟨(some 93),none,(.mv (.tmp 11))⟩,
  ⟨(some 94),none,(.mv (.tmp 10))⟩,
  ⟨(some 95),none,(.bin .neq (.tmp 93) (.tmp 94))⟩]) (.cond (.tmp 95) (.seq (.ops [
  ⟨(some 2),none,(.asg (.const (.bool false)))⟩]) .ret) .skip)) (.seq (.ops [
  ⟨(some 2),none,(.asg (.const (.bool true)))⟩]) .ret)))))))))))))))))))))))))
theorem law_laws_FnExactCanonicalDesign {a0 d:D}(h:code_laws_FnExactCanonicalDesign.wp (CT Try.prog NoG) (endQ [(.t 2)] d) [a0,.undef,.undef,.undef,.undef,.undef,.undef,.undef,.undef,.undef,.undef,.undef,.undef,.undef,.undef,.undef,.undef,.undef,.undef,.undef,.undef,.undef,.undef,.undef,.undef,.undef,.undef,.undef,.undef,.undef,.undef,.undef,.undef,.undef,.undef,.undef,.undef,.undef,.undef,.undef,.undef,.undef,.undef,.undef,.undef,.undef,.undef,.undef,.undef,.undef,.undef,.undef,.undef,.undef,.undef,.undef,.undef,.undef,.undef,.undef,.undef,.undef,.undef,.undef,.undef,.undef,.undef,.undef,.undef,.undef,.undef,.undef,.undef,.undef,.undef,.undef,.undef,.undef,.undef,.undef,.undef,.undef,.undef,.undef,.undef,.undef,.undef,.undef,.undef,.undef,.undef,.undef,.undef,.undef,.undef,.undef]):Contract Try.prog NoG 3 [a0] d :=
  contract_of (pt:=0) noG Try.func3 (fun us W=>by kernel_rfl) (c:=Try.f3.body.getD .skip) (ms:=[]) (ms':=[]) (by kernel_rfl) (by kernel_rfl) (by kernel_rfl) h
set_option maxHeartbeats 8000000 in
theorem vlawCanonicalDesign (q_aD:Design)(q_aD_ok:Design.td.ok q_aD):Contract Try.prog NoG 3 [.agg (Design.td.d false q_aD)] (.v (.bool true)):=by
  by_cases g0:((Design.cnt q_aD:Nat):Int)≤1048576
  · have q_aD_n:Design.cnt q_aD≤1048576:=(by omega);have hr0:=(CanonicalDesignR_ok q_aD q_aD_ok q_aD_n)
    have e0:szR (1048576) (Design.cnt q_aD)=1048576-(Design.cnt q_aD:Nat):=(by rw [szR_ok g0]);have n0:decide ((1048576-(Design.cnt q_aD:Nat):Int)<0)=false:=(by rw [decide_eq_false_iff_not];omega);have hi0:=(v_toDesign q_aD q_aD_n).imm;simp only [D.imm,immL,TD.imm,TD.rows,immLL_rI,immLL_rB8,immLL_rS,immLL_rBo,immLL_rII,immLL_rIIt] at hi0;have hm_0:=Design.cnT_le q_aD;have hm_1:=(show (Design.cnT (CanonicalDesignR q_aD))≤1000000000000 from CanonicalDesignR_cn q_aD)
    have dm0:decide (((1+(Design.cnT q_aD:Nat)):Int)<0)=false:=(by rw [decide_eq_false_iff_not];omega);have dm1:decide (((1+(Design.cnT (CanonicalDesignR q_aD):Nat)):Int)<0)=false:=(by rw [decide_eq_false_iff_not];omega);rw [Design.td_d];refine law_laws_FnExactCanonicalDesign ?_;unfold code_laws_FnExactCanonicalDesign;simp -implicitDefEqProofs (disch:=omega) only [go_sem,↓reduceIte ,decide_true,e0,n0,dm0,dm1];refine call_B (v_szDesign q_aD q_aD_ok (1048576) (by omega) (by omega)) (by simp -implicitDefEqProofs (disch:=omega) only [go_sem,↓reduceIte,deep,TD.rows,immLL_rI,immLL_rB8,immLL_rS,immLL_rBo,immLL_rII,immLL_rIIt,decide_true,e0,n0,dm0,dm1];exact rfl) ?_;simp -implicitDefEqProofs (disch:=omega) only [go_sem,↓reduceIte ,decide_true,e0,n0,dm0,dm1];refine call_B (v_toDesign q_aD q_aD_n) (by simp -implicitDefEqProofs (disch:=omega) only [go_sem,↓reduceIte,deep,TD.rows,immLL_rI,immLL_rB8,immLL_rS,immLL_rBo,immLL_rII,immLL_rIIt,decide_true,e0,n0,dm0,dm1];exact rfl) ?_;simp -implicitDefEqProofs (disch:=omega) only [go_sem,↓reduceIte ,decide_true,e0,n0,dm0,dm1];refine call_B (vCanonicalDesign_spec q_aD q_aD_ok q_aD_n) (by simp -implicitDefEqProofs (disch:=omega) only [go_sem,↓reduceIte,deep,TD.rows,immLL_rI,immLL_rB8,immLL_rS,immLL_rBo,immLL_rII,immLL_rIIt,decide_true,e0,n0,dm0,dm1];exact rfl) ?_;simp -implicitDefEqProofs (disch:=omega) only [go_sem,↓reduceIte ,decide_true,e0,n0,dm0,dm1];refine call_B (v_toDesign q_aD q_aD_n) (by simp -implicitDefEqProofs (disch:=omega) only [go_sem,↓reduceIte,deep,TD.rows,immLL_rI,immLL_rB8,immLL_rS,immLL_rBo,immLL_rII,immLL_rIIt,decide_true,e0,n0,dm0,dm1];exact rfl) ?_;simp -implicitDefEqProofs (disch:=omega) only [go_sem,↓reduceIte ,decide_true,e0,n0,dm0,dm1];refine call_B (vCanonicalDesign_impl q_aD q_aD_ok q_aD_n) (by simp -implicitDefEqProofs (disch:=omega) only [go_sem,↓reduceIte,deep,TD.rows,immLL_rI,immLL_rB8,immLL_rS,immLL_rBo,immLL_rII,immLL_rIIt,decide_true,e0,n0,dm0,dm1];exact rfl) ?_;simp -implicitDefEqProofs (disch:=omega) only [go_sem,↓reduceIte ,decide_true,e0,n0,dm0,dm1];refine call_B (v_eqDesign (CanonicalDesignR q_aD) hr0) (by simp -implicitDefEqProofs (disch:=omega) only [go_sem,↓reduceIte,deep,TD.rows,immLL_rI,immLL_rB8,immLL_rS,immLL_rBo,immLL_rII,immLL_rIIt,decide_true,e0,n0,dm0,dm1];exact rfl) ?_;simp -implicitDefEqProofs (disch:=omega) only [go_sem,↓reduceIte ,decide_true,e0,n0,dm0,dm1];refine call_NB (hi0) (by simp -implicitDefEqProofs (disch:=omega) only [go_sem,↓reduceIte,deep,TD.rows,immLL_rI,immLL_rB8,immLL_rS,immLL_rBo,immLL_rII,immLL_rIIt,decide_true,e0,n0,dm0,dm1];exact rfl) ?_;simp -implicitDefEqProofs (disch:=omega) only [go_sem,↓reduceIte ,decide_true,e0,n0,dm0,dm1];refine call_B (v_eqDesign q_aD q_aD_ok) (by simp -implicitDefEqProofs (disch:=omega) only [go_sem,↓reduceIte,deep,TD.rows,immLL_rI,immLL_rB8,immLL_rS,immLL_rBo,immLL_rII,immLL_rIIt,decide_true,e0,n0,dm0,dm1];exact rfl) ?_;simp -implicitDefEqProofs (disch:=omega) only [go_sem,↓reduceIte ,decide_true,e0,n0,dm0,dm1];refine call_markB (r:=6) (v_markDesign q_aD q_aD_ok (1) (by omega) (by omega)) rfl rfl rfl rfl ?_;simp -implicitDefEqProofs (disch:=omega) only [go_sem,↓reduceIte ,decide_true,e0,n0,dm0,dm1];refine call_B (v_eqDesign (CanonicalDesignR q_aD) hr0) (by simp -implicitDefEqProofs (disch:=omega) only [go_sem,↓reduceIte,deep,TD.rows,immLL_rI,immLL_rB8,immLL_rS,immLL_rBo,immLL_rII,immLL_rIIt,decide_true,e0,n0,dm0,dm1];exact rfl) ?_;simp -implicitDefEqProofs (disch:=omega) only [go_sem,↓reduceIte ,decide_true,e0,n0,dm0,dm1];refine call_markB (r:=7) (v_markDesign (CanonicalDesignR q_aD) hr0 (1) (by omega) (by omega)) rfl rfl rfl rfl ?_;simp -implicitDefEqProofs (disch:=omega) only [go_sem,↓reduceIte ,decide_true,e0,n0,dm0,dm1];refine call_B (v_heldDesign (CanonicalDesignR q_aD) hr0 (1) (by omega) (by omega)) (by simp -implicitDefEqProofs (disch:=omega) only [go_sem,↓reduceIte,deep,TD.rows,immLL_rI,immLL_rB8,immLL_rS,immLL_rBo,immLL_rII,immLL_rIIt,decide_true,e0,n0,dm0,dm1];exact rfl) ?_;simp -implicitDefEqProofs (disch:=omega) only [go_sem,↓reduceIte ,decide_true,e0,n0,dm0,dm1];refine call_B (v_toDesign q_aD q_aD_n) (by simp -implicitDefEqProofs (disch:=omega) only [go_sem,↓reduceIte,deep,TD.rows,immLL_rI,immLL_rB8,immLL_rS,immLL_rBo,immLL_rII,immLL_rIIt,decide_true,e0,n0,dm0,dm1];exact rfl) ?_;simp -implicitDefEqProofs (disch:=omega) only [go_sem,↓reduceIte ,decide_true,e0,n0,dm0,dm1];refine call_B (vCanonicalDesign_impl q_aD q_aD_ok q_aD_n) (by simp -implicitDefEqProofs (disch:=omega) only [go_sem,↓reduceIte,deep,TD.rows,immLL_rI,immLL_rB8,immLL_rS,immLL_rBo,immLL_rII,immLL_rIIt,decide_true,e0,n0,dm0,dm1];exact rfl) ?_;simp -implicitDefEqProofs (disch:=omega) only [go_sem,↓reduceIte ,decide_true,e0,n0,dm0,dm1];refine call_B (v_eqDesign (CanonicalDesignR q_aD) hr0) (by simp -implicitDefEqProofs (disch:=omega) only [go_sem,↓reduceIte,deep,TD.rows,immLL_rI,immLL_rB8,immLL_rS,immLL_rBo,immLL_rII,immLL_rIIt,decide_true,e0,n0,dm0,dm1];exact rfl) ?_;simp -implicitDefEqProofs (disch:=omega) only [go_sem,↓reduceIte ,decide_true,e0,n0,dm0,dm1];refine call_B (v_heldDesign (CanonicalDesignR q_aD) hr0 (1) (by omega) (by omega)) (by simp -implicitDefEqProofs (disch:=omega) only [go_sem,↓reduceIte,deep,TD.rows,immLL_rI,immLL_rB8,immLL_rS,immLL_rBo,immLL_rII,immLL_rIIt,decide_true,e0,n0,dm0,dm1];exact rfl) ?_;simp -implicitDefEqProofs (disch:=omega) only [go_sem,↓reduceIte ,decide_true,e0,n0,dm0,dm1]
  · have e0:szR (1048576) (Design.cnt q_aD) = -1:=(by rw [szR_no g0]);rw [Design.td_d];refine law_laws_FnExactCanonicalDesign ?_;unfold code_laws_FnExactCanonicalDesign;simp -implicitDefEqProofs (disch:=omega) only [go_sem,↓reduceIte ,decide_true,e0];refine call_B (v_szDesign q_aD q_aD_ok (1048576) (by omega) (by omega)) (by simp -implicitDefEqProofs (disch:=omega) only [go_sem,↓reduceIte,deep,TD.rows,immLL_rI,immLL_rB8,immLL_rS,immLL_rBo,immLL_rII,immLL_rIIt,decide_true,e0];exact rfl) ?_;simp -implicitDefEqProofs (disch:=omega) only [go_sem,↓reduceIte ,decide_true,e0]
theorem walk_fnExactCanonicalDesign (q_aD_v0 q_aD_v1 q_aD_v2:Value)(q_aD:Design)(w:World)(q_aD_h0:(Ty.slice 2 (Ty.int .i64)).rep w w.heap.size [q_aD_v0] q_aD.Bottom)(q_aD_h1:(Ty.slice 2 (Ty.int .i64)).rep w w.heap.size [q_aD_v1] q_aD.Left)(q_aD_h2:(Ty.slice 63 Piece.ty).rep w w.heap.size [q_aD_v2] q_aD.Pieces) :
    Calls Try.prog 3 #[.agg #[q_aD_v0,q_aD_v1,q_aD_v2]] w fun e w'=>e=.returned (.bool true)∧Below w.heap.size w w':=by
  have hr_q_aD:=Design.rep_mk (w:=w) (B:=w.heap.size) q_aD_h0 q_aD_h1 q_aD_h2;refine (Contract.at (vlawCanonicalDesign q_aD (Design.td.rep_ok hr_q_aD)) gI (Nat.le_refl _) (vals_cons (TD.arg_agg Design.td hr_q_aD) vals_nil)).mono ?_;rintro e w' ⟨⟨v,I,F,rfl,hT,hn,hF⟩,hb⟩;obtain rfl:=T_v hT;exact ⟨rfl,hb⟩
end Go.Proofs.Ytaleehohmpohoaa
