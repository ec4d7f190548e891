/- Laws that the proof stands on. -/
import Derived.Test.YtaleehohmpohoaaZg19
import Derived.Test.YtaleehohmpohoaaZg17
import Derived.Test.YtaleehohmpohoaaZg16
set_option linter.all false
namespace Go.Proofs.Ytaleehohmpohoaa
open Go.RowKit Go.V
attribute [local go_sem] List.getElem?_cons_succ List.getElem?_cons_zero List.set_cons_succ List.set_cons_zero List.map_cons List.map_nil List.length_cons List.length_nil List.all_cons List.all_nil List.drop_succ_cons List.drop_zero List.take_succ_cons List.take_zero List.flatMap_cons List.flatMap_nil List.cons_append List.nil_append List.append_nil List.headD_cons Value.oneCell' Bool.and_true Bool.true_and Bool.or_false Bool.false_or Bool.and_self Bool.not_true Bool.not_false and_true true_and beq_self_eq_true Bool.false_eq_true if_true if_false Nat.zero_add Nat.reduceAdd Nat.reduceMul Nat.reduceLeDiff Nat.le_refl Option.isSome_some Option.isSome_none not_true_eq_false not_false_eq_true ne_eq reduceCtorEq List.reverse_nil bne_self_eq_false Nat.reduceEqDiff List.isPrefixOf Bool.not_eq_true Bool.and_false Bool.false_and Bool.true_or Bool.or_true decide_true decide_false Nat.reduceBEq Nat.reduceBNe List.replicate_succ List.replicate_zero exists_eq_left' exists_eq_left Option.some.injEq or_false or_true true_or false_or Option.map_some Option.map_none mB Nat.reduceMod Nat.reduceDiv
set_option maxRecDepth 100000
attribute [local go_sem] List.length_map decide_true decide_false Int.reduceLT Int.reduceNeg Design.td_d Pattern.td_d
def code_laws_FnExactSearchDesign:VCode:=(.seq (.ops [
  ⟨some 3,none,.box (.tmp 0)⟩,
  ⟨some 6,none,.asg (.const (.bool false))⟩]) (.seq (.ops [
  ⟨some 7,none,.asg (.const (.int .i64 1048576))⟩]) (.seq (.ops [
  ⟨some 21,none,.load 3 true (.tmp 3)⟩,
  ⟨some 22,none,.mv (.tmp 7)⟩,
  ⟨some 23,none,.callX 14 [(.tmp 21),(.tmp 22)]⟩,
  ⟨some 7,none,.asg (.tmp 23)⟩]) (.seq (.seq (.ops [
  ⟨some 24,none,.mv (.tmp 7)⟩,
  ⟨some 25,none,.bin .lss (.tmp 24) (.const (.int .i64 0))⟩]) (.cond (.tmp 25) (.seq (.ops [
  ⟨some 6,none,.asg (.const (.bool true))⟩]) .ret) .skip)) (.seq (.ops [
  ⟨some 27,none,.load 3 true (.tmp 3)⟩,
  ⟨some 28,none,.callX 16 [(.tmp 27)]⟩,
  ⟨some 29,none,.mv (.tmp 1)⟩,
  ⟨some 30,none,.mv (.tmp 2)⟩,
  ⟨some 31,none,.callX 15 [(.tmp 28),(.tmp 29),(.tmp 30)]⟩,
  ⟨some 26,none,.mv (.tmp 31)⟩,
  ⟨some 32,none,.ext (.tmp 26) 0⟩,
  ⟨some 33,none,.ext (.tmp 26) 1⟩,
  ⟨some 34,none,.ext (.tmp 26) 2⟩,
  ⟨some 8,none,.alloc [(.slice none 0 0),(.slice none 0 0),(.slice none 0 0)]⟩,
  ⟨none,none,.store 3 (.tmp 8) (.tmp 32)⟩,
  ⟨some 9,none,.asg (.tmp 33)⟩,
  ⟨some 10,none,.asg (.tmp 34)⟩]) (.seq (.ops [
  ⟨some 35,none,.load 3 true (.tmp 3)⟩,
  ⟨some 36,none,.callX 16 [(.tmp 35)]⟩,
  ⟨some 11,none,.alloc [(.int .i64 0),(.int .i64 0),(.slice none 0 0)]⟩,
  ⟨none,none,.store 3 (.tmp 11) (.tmp 36)⟩]) (.seq (.ops [
  ⟨some 38,none,.load 3 true (.tmp 11)⟩,
  ⟨some 39,none,.mv (.tmp 1)⟩,
  ⟨some 40,none,.mv (.tmp 2)⟩,
  ⟨some 41,none,.callX 17 [(.tmp 38),(.tmp 39),(.tmp 40)]⟩,
  ⟨some 37,none,.mv (.tmp 41)⟩,
  ⟨some 42,none,.ext (.tmp 37) 0⟩,
  ⟨some 43,none,.ext (.tmp 37) 1⟩,
  ⟨some 44,none,.ext (.tmp 37) 2⟩,
  ⟨some 12,none,.alloc [(.slice none 0 0),(.slice none 0 0),(.slice none 0 0)]⟩,
  ⟨none,none,.store 3 (.tmp 12) (.tmp 42)⟩,
  ⟨some 13,none,.asg (.tmp 43)⟩,
  ⟨some 14,none,.asg (.tmp 44)⟩]) (.seq (.seq (.ops [
  ⟨some 45,none,.load 3 true (.tmp 12)⟩,
  ⟨some 46,none,.load 3 true (.tmp 8)⟩,
  ⟨some 47,none,.callX 11 [(.tmp 45),(.tmp 46)]⟩,
  ⟨some 48,none,.un .not (.tmp 47)⟩,
  ⟨some 49,none,.mv (.tmp 48)⟩,
  ⟨some 50,some (49,false),.mv (.tmp 13)⟩,
  ⟨some 51,some (49,false),.mv (.tmp 9)⟩,
  ⟨some 52,some (49,false),.bin .neq (.tmp 50) (.tmp 51)⟩,
  ⟨some 53,none,.pick (.tmp 49) (.const (.bool true)) (.tmp 52)⟩,
  ⟨some 54,none,.mv (.tmp 53)⟩,
  ⟨some 55,some (54,false),.mv (.tmp 14)⟩,
  ⟨some 56,some (54,false),.mv (.tmp 10)⟩,
  ⟨some 57,some (54,false),.bin .neq (.tmp 55) (.tmp 56)⟩,
  ⟨some 58,none,.pick (.tmp 54) (.const (.bool true)) (.tmp 57)⟩]) (.cond (.tmp 58) (.seq (.ops [
  ⟨some 6,none,.asg (.const (.bool false))⟩]) .ret) .skip)) (.seq (.seq (.draw (mB 62 0x3800000000000000) [] [⟨0,mB 62 0x3800000000000000,[],⟨some 59,none,.load 3 true (.tmp 11)⟩⟩,⟨1,mB 62 0x3800000000000000,[],⟨some 60,none,.load 3 true (.tmp 3)⟩⟩,⟨2,mB 62 0x2800000000000000,[],⟨some 61,none,.call 16 [(.tmp 60)]⟩⟩] [⟨some 62,none,.callX 18 [(.tmp 59),(.tmp 61)]⟩,⟨some 63,none,.un .not (.tmp 62)⟩]) (.cond (.tmp 63) (.seq (.ops [
  ⟨some 6,none,.asg (.const (.bool false))⟩]) .ret) .skip)) (.seq (.ops [
  ⟨some 15,none,.asg (.const (.int .i64 1))⟩]) (.seq (.ops [
  ⟨some 64,none,.load 3 true (.tmp 11)⟩,
  ⟨some 65,none,.mv (.tmp 15)⟩,
  ⟨some 66,none,.callX 19 [(.tmp 64),(.tmp 65)]⟩,
  ⟨some 15,none,.asg (.tmp 66)⟩]) (.seq (.seq (.ops [
  ⟨some 67,none,.mv (.tmp 15)⟩,
  ⟨some 68,none,.bin .lss (.tmp 67) (.const (.int .i64 0))⟩,
  ⟨some 69,none,.mv (.tmp 68)⟩,
  ⟨some 70,some (69,false),.load 3 true (.tmp 12)⟩,
  ⟨some 71,some (69,false),.load 3 true (.tmp 8)⟩,
  ⟨some 72,some (69,false),.callX 11 [(.tmp 70),(.tmp 71)]⟩,
  ⟨some 73,some (69,false),.un .not (.tmp 72)⟩,
  ⟨some 74,none,.pick (.tmp 69) (.const (.bool true)) (.tmp 73)⟩,
  ⟨some 75,none,.mv (.tmp 74)⟩,
  ⟨some 76,some (75,false),.mv (.tmp 13)⟩,
  ⟨some 77,some (75,false),.mv (.tmp 9)⟩,
  ⟨some 78,some (75,false),.bin .neq (.tmp 76) (.tmp 77)⟩,
  ⟨some 79,none,.pick (.tmp 75) (.const (.bool true)) (.tmp 78)⟩,
  ⟨some 80,none,.mv (.tmp 79)⟩,
  ⟨some 81,some (80,false),.mv (.tmp 14)⟩,
  ⟨some 82,some (80,false),.mv (.tmp 10)⟩,
  ⟨some 83,some (80,false),.bin .neq (.tmp 81) (.tmp 82)⟩,
  ⟨some 84,none,.pick (.tmp 80) (.const (.bool true)) (.tmp 83)⟩]) (.cond (.tmp 84) (.seq (.ops [
  ⟨some 6,none,.asg (.const (.bool false))⟩]) .ret) .skip)) (.seq (.ops [
  ⟨some 16,none,.asg (.const (.int .i64 1))⟩]) (.seq (.ops [
  ⟨some 85,none,.load 3 true (.tmp 12)⟩,
  ⟨some 86,none,.mv (.tmp 16)⟩,
  ⟨some 87,none,.callX 12 [(.tmp 85),(.tmp 86)]⟩,
  ⟨some 16,none,.asg (.tmp 87)⟩]) (.seq (.ops [
  ⟨some 17,none,.asg (.const (.int .i64 1))⟩]) (.seq (.ops [
  ⟨some 88,none,.load 3 true (.tmp 12)⟩,
  ⟨some 89,none,.mv (.tmp 17)⟩,
  ⟨some 90,none,.callX 13 [(.tmp 88),(.tmp 89)]⟩,
  ⟨some 17,none,.asg (.tmp 90)⟩]) (.seq (.seq (.ops [
  ⟨some 91,none,.mv (.tmp 17)⟩,
  ⟨some 92,none,.bin .lss (.tmp 91) (.const (.int .i64 0))⟩]) (.cond (.tmp 92) (.seq (.ops [
  ⟨some 6,none,.asg (.const (.bool false))⟩]) .ret) .skip)) (.seq (.seq (.ops [
  ⟨some 93,none,.mv (.tmp 17)⟩,
  ⟨some 94,none,.mv (.tmp 16)⟩,
  ⟨some 95,none,.bin .neq (.tmp 93) (.tmp 94)⟩]) (.cond (.tmp 95) (.seq (.ops [
  ⟨some 6,none,.asg (.const (.bool false))⟩]) .ret) .skip)) (.seq (.ops [
  ⟨some 97,none,.load 3 true (.tmp 3)⟩,
  ⟨some 98,none,.callX 16 [(.tmp 97)]⟩,
  ⟨some 99,none,.mv (.tmp 1)⟩,
  ⟨some 100,none,.mv (.tmp 2)⟩,
  ⟨some 101,none,.callX 17 [(.tmp 98),(.tmp 99),(.tmp 100)]⟩,
  ⟨some 96,none,.mv (.tmp 101)⟩,
  ⟨some 102,none,.ext (.tmp 96) 0⟩,
  ⟨some 103,none,.ext (.tmp 96) 1⟩,
  ⟨some 104,none,.ext (.tmp 96) 2⟩,
  ⟨some 18,none,.alloc [(.slice none 0 0),(.slice none 0 0),(.slice none 0 0)]⟩,
  ⟨none,none,.store 3 (.tmp 18) (.tmp 102)⟩,
  ⟨some 19,none,.asg (.tmp 103)⟩,
  ⟨some 20,none,.asg (.tmp 104)⟩]) (.seq (.seq (.ops [
  ⟨some 105,none,.load 3 true (.tmp 18)⟩,
  ⟨some 106,none,.load 3 true (.tmp 8)⟩,
  ⟨some 107,none,.callX 11 [(.tmp 105),(.tmp 106)]⟩,
  ⟨some 108,none,.un .not (.tmp 107)⟩,
  ⟨some 109,none,.mv (.tmp 108)⟩,
  ⟨some 110,some (109,false),.mv (.tmp 19)⟩,
  ⟨some 111,some (109,false),.mv (.tmp 9)⟩,
  ⟨some 112,some (109,false),.bin .neq (.tmp 110) (.tmp 111)⟩,
  ⟨some 113,none,.pick (.tmp 109) (.const (.bool true)) (.tmp 112)⟩,
  ⟨some 114,none,.mv (.tmp 113)⟩,
  ⟨some 115,some (114,false),.mv (.tmp 20)⟩,
  ⟨some 116,some (114,false),.mv (.tmp 10)⟩,
  ⟨some 117,some (114,false),.bin .neq (.tmp 115) (.tmp 116)⟩,
  ⟨some 118,none,.pick (.tmp 114) (.const (.bool true)) (.tmp 117)⟩]) (.cond (.tmp 118) (.seq (.ops [
  ⟨some 6,none,.asg (.const (.bool false))⟩]) .ret) .skip)) (.seq (.ops [
  ⟨some 17,none,.asg (.const (.int .i64 1))⟩]) (.seq (.ops [
  ⟨some 119,none,.load 3 true (.tmp 12)⟩,
  ⟨some 120,none,.mv (.tmp 17)⟩,
  ⟨some 121,none,.callX 13 [(.tmp 119),(.tmp 120)]⟩,
  ⟨some 17,none,.asg (.tmp 121)⟩]) (.seq (.seq (.ops [
  ⟨some 122,none,.mv (.tmp 17)⟩,
  ⟨some 123,none,.bin .lss (.tmp 122) (.const (.int .i64 0))⟩]) (.cond (.tmp 123) (.seq (.ops [
  ⟨some 6,none,.asg (.const (.bool false))⟩]) .ret) .skip)) (.seq (.seq (.ops [
  ⟨some 124,none,.mv (.tmp 17)⟩,
  ⟨some 125,none,.mv (.tmp 16)⟩,
  ⟨some 126,none,.bin .neq (.tmp 124) (.tmp 125)⟩]) (.cond (.tmp 126) (.seq (.ops [
  ⟨some 6,none,.asg (.const (.bool false))⟩]) .ret) .skip)) (.seq (.ops [
  ⟨some 6,none,.asg (.const (.bool true))⟩]) .ret)))))))))))))))))))))))))
theorem law_laws_FnExactSearchDesign {a0 a1 a2 d:D}(h:code_laws_FnExactSearchDesign.wp (CT Try.prog NoG) (endQ [(.t 6)] d) [a0,a1,a2,.undef,.undef,.undef,.undef,.undef,.undef,.undef,.undef,.undef,.undef,.undef,.undef,.undef,.undef,.undef,.undef,.undef,.undef,.undef,.undef,.undef,.undef,.undef,.undef,.undef,.undef,.undef,.undef,.undef,.undef,.undef,.undef,.undef,.undef,.undef,.undef,.undef,.undef,.undef,.undef,.undef,.undef,.undef,.undef,.undef,.undef,.undef,.undef,.undef,.undef,.undef,.undef,.undef,.undef,.undef,.undef,.undef,.undef,.undef,.undef,.undef,.undef,.undef,.undef,.undef,.undef,.undef,.undef,.undef,.undef,.undef,.undef,.undef,.undef,.undef,.undef,.undef,.undef,.undef,.undef,.undef,.undef,.undef,.undef,.undef,.undef,.undef,.undef,.undef,.undef,.undef,.undef,.undef,.undef,.undef,.undef,.undef,.undef,.undef,.undef,.undef,.undef,.undef,.undef,.undef,.undef,.undef,.undef,.undef,.undef,.undef,.undef,.undef,.undef,.undef,.undef,.undef,.undef,.undef,.undef,.undef,.undef,.undef,.undef]):Contract Try.prog NoG 4 [a0,a1,a2] d :=
  contract_of (pt:=0) noG Try.func4 (fun us W=>by kernel_rfl) (c:=Try.f4.body.getD .skip) (ms:=[]) (ms':=[]) (by kernel_rfl) (by kernel_rfl) (by kernel_rfl) h
set_option maxHeartbeats 8000000 in
theorem vlawSearchDesign (q_aP:Pattern)(q_aP_ok:Pattern.td.ok q_aP)(q_aPieces:Int)(q_aPieces_ok:InK .i64 q_aPieces)(q_aBudget:Int)(q_aBudget_ok:InK .i64 q_aBudget):Contract Try.prog NoG 4 [.agg (Pattern.td.d false q_aP),.v (.int .i64 q_aPieces),.v (.int .i64 q_aBudget)] (.v (.bool true)):=by
  by_cases g0:((Pattern.cnt q_aP:Nat):Int)≤1048576
  · have q_aP_n:Pattern.cnt q_aP≤1048576:=(by omega);have hr0:=(SearchDesignR_ok q_aP q_aP_ok q_aP_n q_aPieces q_aPieces_ok q_aBudget q_aBudget_ok)
    have e0:szR (1048576) (Pattern.cnt q_aP)=1048576-(Pattern.cnt q_aP:Nat):=(by rw [szR_ok g0]);have n0:decide ((1048576-(Pattern.cnt q_aP:Nat):Int)<0)=false:=(by rw [decide_eq_false_iff_not];omega);have hi0:=(v_toPattern q_aP q_aP_n).imm;simp only [D.imm,immL,TD.imm,TD.rows,immLL_rI,immLL_rB8,immLL_rS,immLL_rBo,immLL_rII,immLL_rIIt] at hi0;have hm_0:=Pattern.cnT_le q_aP;have hm_1:=(show (Design.cnT (SearchDesignR q_aP q_aPieces q_aBudget))≤1000000000000 from SearchDesignR_cn q_aP q_aPieces q_aBudget)
    have dm0:decide (((1+(Pattern.cnT q_aP:Nat)):Int)<0)=false:=(by rw [decide_eq_false_iff_not];omega);have dm1:decide (((1+(Design.cnT (SearchDesignR q_aP q_aPieces q_aBudget):Nat)):Int)<0)=false:=(by rw [decide_eq_false_iff_not];omega);rw [Pattern.td_d];refine law_laws_FnExactSearchDesign ?_;unfold code_laws_FnExactSearchDesign;simp -implicitDefEqProofs (disch:=omega) only [go_sem,↓reduceIte ,decide_true,e0,n0,dm0,dm1];refine call_B (v_szPattern q_aP q_aP_ok (1048576) (by omega) (by omega)) (by simp -implicitDefEqProofs (disch:=omega) only [go_sem,↓reduceIte,deep,TD.rows,immLL_rI,immLL_rB8,immLL_rS,immLL_rBo,immLL_rII,immLL_rIIt,decide_true,e0,n0,dm0,dm1];exact rfl) ?_;simp -implicitDefEqProofs (disch:=omega) only [go_sem,↓reduceIte ,decide_true,e0,n0,dm0,dm1];refine call_B (v_toPattern q_aP q_aP_n) (by simp -implicitDefEqProofs (disch:=omega) only [go_sem,↓reduceIte,deep,TD.rows,immLL_rI,immLL_rB8,immLL_rS,immLL_rBo,immLL_rII,immLL_rIIt,decide_true,e0,n0,dm0,dm1];exact rfl) ?_;simp -implicitDefEqProofs (disch:=omega) only [go_sem,↓reduceIte ,decide_true,e0,n0,dm0,dm1];refine call_B (vSearchDesign_spec q_aP q_aP_ok q_aP_n q_aPieces q_aPieces_ok q_aBudget q_aBudget_ok) (by simp -implicitDefEqProofs (disch:=omega) only [go_sem,↓reduceIte,deep,TD.rows,immLL_rI,immLL_rB8,immLL_rS,immLL_rBo,immLL_rII,immLL_rIIt,decide_true,e0,n0,dm0,dm1];exact rfl) ?_;simp -implicitDefEqProofs (disch:=omega) only [go_sem,↓reduceIte ,decide_true,e0,n0,dm0,dm1];refine call_B (v_toPattern q_aP q_aP_n) (by simp -implicitDefEqProofs (disch:=omega) only [go_sem,↓reduceIte,deep,TD.rows,immLL_rI,immLL_rB8,immLL_rS,immLL_rBo,immLL_rII,immLL_rIIt,decide_true,e0,n0,dm0,dm1];exact rfl) ?_;simp -implicitDefEqProofs (disch:=omega) only [go_sem,↓reduceIte ,decide_true,e0,n0,dm0,dm1];refine call_B (vSearchDesign_impl q_aP q_aP_ok q_aP_n q_aPieces q_aPieces_ok q_aBudget q_aBudget_ok) (by simp -implicitDefEqProofs (disch:=omega) only [go_sem,↓reduceIte,deep,TD.rows,immLL_rI,immLL_rB8,immLL_rS,immLL_rBo,immLL_rII,immLL_rIIt,decide_true,e0,n0,dm0,dm1];exact rfl) ?_;simp -implicitDefEqProofs (disch:=omega) only [go_sem,↓reduceIte ,decide_true,e0,n0,dm0,dm1];refine call_B (v_eqDesign (SearchDesignR q_aP q_aPieces q_aBudget) hr0) (by simp -implicitDefEqProofs (disch:=omega) only [go_sem,↓reduceIte,deep,TD.rows,immLL_rI,immLL_rB8,immLL_rS,immLL_rBo,immLL_rII,immLL_rIIt,decide_true,e0,n0,dm0,dm1];exact rfl) ?_;simp -implicitDefEqProofs (disch:=omega) only [go_sem,↓reduceIte ,decide_true,e0,n0,dm0,dm1];refine call_NB (hi0) (by simp -implicitDefEqProofs (disch:=omega) only [go_sem,↓reduceIte,deep,TD.rows,immLL_rI,immLL_rB8,immLL_rS,immLL_rBo,immLL_rII,immLL_rIIt,decide_true,e0,n0,dm0,dm1];exact rfl) ?_;simp -implicitDefEqProofs (disch:=omega) only [go_sem,↓reduceIte ,decide_true,e0,n0,dm0,dm1];refine call_B (v_eqPattern q_aP q_aP_ok) (by simp -implicitDefEqProofs (disch:=omega) only [go_sem,↓reduceIte,deep,TD.rows,immLL_rI,immLL_rB8,immLL_rS,immLL_rBo,immLL_rII,immLL_rIIt,decide_true,e0,n0,dm0,dm1];exact rfl) ?_;simp -implicitDefEqProofs (disch:=omega) only [go_sem,↓reduceIte ,decide_true,e0,n0,dm0,dm1];refine call_markB (r:=11) (v_markPattern q_aP q_aP_ok (1) (by omega) (by omega)) rfl rfl rfl rfl ?_;simp -implicitDefEqProofs (disch:=omega) only [go_sem,↓reduceIte ,decide_true,e0,n0,dm0,dm1];refine call_B (v_eqDesign (SearchDesignR q_aP q_aPieces q_aBudget) hr0) (by simp -implicitDefEqProofs (disch:=omega) only [go_sem,↓reduceIte,deep,TD.rows,immLL_rI,immLL_rB8,immLL_rS,immLL_rBo,immLL_rII,immLL_rIIt,decide_true,e0,n0,dm0,dm1];exact rfl) ?_;simp -implicitDefEqProofs (disch:=omega) only [go_sem,↓reduceIte ,decide_true,e0,n0,dm0,dm1];refine call_markB (r:=12) (v_markDesign (SearchDesignR q_aP q_aPieces q_aBudget) hr0 (1) (by omega) (by omega)) rfl rfl rfl rfl ?_;simp -implicitDefEqProofs (disch:=omega) only [go_sem,↓reduceIte ,decide_true,e0,n0,dm0,dm1];refine call_B (v_heldDesign (SearchDesignR q_aP q_aPieces q_aBudget) hr0 (1) (by omega) (by omega)) (by simp -implicitDefEqProofs (disch:=omega) only [go_sem,↓reduceIte,deep,TD.rows,immLL_rI,immLL_rB8,immLL_rS,immLL_rBo,immLL_rII,immLL_rIIt,decide_true,e0,n0,dm0,dm1];exact rfl) ?_;simp -implicitDefEqProofs (disch:=omega) only [go_sem,↓reduceIte ,decide_true,e0,n0,dm0,dm1];refine call_B (v_toPattern q_aP q_aP_n) (by simp -implicitDefEqProofs (disch:=omega) only [go_sem,↓reduceIte,deep,TD.rows,immLL_rI,immLL_rB8,immLL_rS,immLL_rBo,immLL_rII,immLL_rIIt,decide_true,e0,n0,dm0,dm1];exact rfl) ?_;simp -implicitDefEqProofs (disch:=omega) only [go_sem,↓reduceIte ,decide_true,e0,n0,dm0,dm1];refine call_B (vSearchDesign_impl q_aP q_aP_ok q_aP_n q_aPieces q_aPieces_ok q_aBudget q_aBudget_ok) (by simp -implicitDefEqProofs (disch:=omega) only [go_sem,↓reduceIte,deep,TD.rows,immLL_rI,immLL_rB8,immLL_rS,immLL_rBo,immLL_rII,immLL_rIIt,decide_true,e0,n0,dm0,dm1];exact rfl) ?_;simp -implicitDefEqProofs (disch:=omega) only [go_sem,↓reduceIte ,decide_true,e0,n0,dm0,dm1];refine call_B (v_eqDesign (SearchDesignR q_aP q_aPieces q_aBudget) hr0) (by simp -implicitDefEqProofs (disch:=omega) only [go_sem,↓reduceIte,deep,TD.rows,immLL_rI,immLL_rB8,immLL_rS,immLL_rBo,immLL_rII,immLL_rIIt,decide_true,e0,n0,dm0,dm1];exact rfl) ?_;simp -implicitDefEqProofs (disch:=omega) only [go_sem,↓reduceIte ,decide_true,e0,n0,dm0,dm1];refine call_B (v_heldDesign (SearchDesignR q_aP q_aPieces q_aBudget) hr0 (1) (by omega) (by omega)) (by simp -implicitDefEqProofs (disch:=omega) only [go_sem,↓reduceIte,deep,TD.rows,immLL_rI,immLL_rB8,immLL_rS,immLL_rBo,immLL_rII,immLL_rIIt,decide_true,e0,n0,dm0,dm1];exact rfl) ?_;simp -implicitDefEqProofs (disch:=omega) only [go_sem,↓reduceIte ,decide_true,e0,n0,dm0,dm1]
  · have e0:szR (1048576) (Pattern.cnt q_aP) = -1:=(by rw [szR_no g0]);rw [Pattern.td_d];refine law_laws_FnExactSearchDesign ?_;unfold code_laws_FnExactSearchDesign;simp -implicitDefEqProofs (disch:=omega) only [go_sem,↓reduceIte ,decide_true,e0];refine call_B (v_szPattern q_aP q_aP_ok (1048576) (by omega) (by omega)) (by simp -implicitDefEqProofs (disch:=omega) only [go_sem,↓reduceIte,deep,TD.rows,immLL_rI,immLL_rB8,immLL_rS,immLL_rBo,immLL_rII,immLL_rIIt,decide_true,e0];exact rfl) ?_;simp -implicitDefEqProofs (disch:=omega) only [go_sem,↓reduceIte ,decide_true,e0]
theorem walk_fnExactSearchDesign (q_aP_v0:Value)(q_aP:Pattern)(q_aPieces:Int)(q_aBudget:Int)(w:World)(q_aP_h0:(Ty.slice 2 (Ty.int .i64)).rep w w.heap.size [q_aP_v0] q_aP.Cells)(q_aP_p0:InK .i64 q_aP.Width)(q_aP_p1:InK .i64 q_aP.Height)(q_aPieces_p:InK .i64 q_aPieces)(q_aBudget_p:InK .i64 q_aBudget) :
    Calls Try.prog 4 #[.agg #[.int .i64 q_aP.Width,.int .i64 q_aP.Height,q_aP_v0],.int .i64 q_aPieces,.int .i64 q_aBudget] w fun e w'=>e=.returned (.bool true)∧Below w.heap.size w w':=by
  have hr_q_aP:=Pattern.rep_mk (w:=w) (B:=w.heap.size) q_aP_p0 q_aP_p1 q_aP_h0;refine (Contract.at (vlawSearchDesign q_aP (Pattern.td.rep_ok hr_q_aP) q_aPieces q_aPieces_p q_aBudget q_aBudget_p) gI (Nat.le_refl _) (vals_cons (TD.arg_agg Pattern.td hr_q_aP) (vals_cons (vals_v _) (vals_cons (vals_v _) vals_nil)))).mono ?_;rintro e w' ⟨⟨v,I,F,rfl,hT,hn,hF⟩,hb⟩;obtain rfl:=T_v hT;exact ⟨rfl,hb⟩
end Go.Proofs.Ytaleehohmpohoaa
