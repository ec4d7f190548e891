/- Laws that the proof stands on. -/
import Derived.Test.YtjkbngjiagknkaaGreatDoorZFReadProof
import Derived.Test.YtjkbngjiagknkaaGreatDoorZg14
import Derived.Test.YtjkbngjiagknkaaGreatDoorZVTab
set_option linter.all false
namespace Go.Proofs.YtjkbngjiagknkaaGreatDoor
open Go.RowKit Go.V
attribute [local go_sem] List.getElem?_cons_succ List.getElem?_cons_zero List.set_cons_succ List.set_cons_zero List.map_cons List.map_nil List.length_cons List.length_nil List.all_cons List.all_nil List.drop_succ_cons List.drop_zero List.take_succ_cons List.take_zero List.flatMap_cons List.flatMap_nil List.cons_append List.nil_append List.append_nil List.headD_cons Value.oneCell' Bool.and_true Bool.true_and Bool.or_false Bool.false_or Bool.and_self Bool.not_true Bool.not_false and_true true_and beq_self_eq_true Bool.false_eq_true if_true if_false Nat.zero_add Nat.reduceAdd Nat.reduceMul Nat.reduceLeDiff Nat.le_refl Option.isSome_some Option.isSome_none not_true_eq_false not_false_eq_true ne_eq reduceCtorEq List.reverse_nil bne_self_eq_false Nat.reduceEqDiff List.isPrefixOf Bool.not_eq_true Bool.and_false Bool.false_and Bool.true_or Bool.or_true decide_true decide_false Nat.reduceBEq Nat.reduceBNe List.replicate_succ List.replicate_zero exists_eq_left' exists_eq_left Option.some.injEq or_false or_true true_or false_or Option.map_some Option.map_none mB Nat.reduceMod Nat.reduceDiv
set_option maxRecDepth 100000
attribute [local go_sem] List.length_map decide_true decide_false Int.reduceLT Int.reduceNeg Proof.td_d
def code_laws_FnExactReadProof:VCode:=(.seq (.ops [
  ⟨(some 2),none,(.asg (.const (.bool false)))⟩]) (.seq (.seq (.ops [
  ⟨(some 14),none,(.mv (.tmp 0))⟩,
  ⟨(some 15),none,(.lenS (.tmp 14))⟩,
  ⟨(some 16),none,(.bin .gtr (.tmp 15) (.const (.int .i64 1048576)))⟩]) (.cond (.tmp 16) (.seq (.ops [
  ⟨(some 2),none,(.asg (.const (.bool true)))⟩]) .ret) .skip)) (.seq (.ops [
  ⟨(some 18),none,(.mv (.tmp 0))⟩,
  ⟨(some 19),none,(.callX 11 [(.tmp 18)])⟩,
  ⟨(some 17),none,(.mv (.tmp 19))⟩,
  ⟨(some 20),none,(.ext (.tmp 17) 0)⟩,
  ⟨(some 21),none,(.ext (.tmp 17) 1)⟩,
  ⟨(some 22),none,(.ext (.tmp 17) 2)⟩,
  ⟨(some 3),none,(.alloc [(.int .i64 0),(.slice none 0 0),(.slice none 0 0),(.slice none 0 0),(.slice none 0 0)])⟩,
  ⟨none,none,(.store 5 (.tmp 3) (.tmp 20))⟩,
  ⟨(some 4),none,(.asg (.tmp 21))⟩,
  ⟨(some 5),none,(.asg (.tmp 22))⟩]) (.seq (.ops [
  ⟨(some 24),none,(.mv (.tmp 0))⟩,
  ⟨(some 25),none,(.callX 12 [(.tmp 24)])⟩,
  ⟨(some 23),none,(.mv (.tmp 25))⟩,
  ⟨(some 26),none,(.ext (.tmp 23) 0)⟩,
  ⟨(some 27),none,(.ext (.tmp 23) 1)⟩,
  ⟨(some 28),none,(.ext (.tmp 23) 2)⟩,
  ⟨(some 6),none,(.alloc [(.int .i64 0),(.slice none 0 0),(.slice none 0 0),(.slice none 0 0),(.slice none 0 0)])⟩,
  ⟨none,none,(.store 5 (.tmp 6) (.tmp 26))⟩,
  ⟨(some 7),none,(.asg (.tmp 27))⟩,
  ⟨(some 8),none,(.asg (.tmp 28))⟩]) (.seq (.seq (.ops [
  ⟨(some 29),none,(.load 5 true (.tmp 6))⟩,
  ⟨(some 30),none,(.load 5 true (.tmp 3))⟩,
  ⟨(some 31),none,(.callX 13 [(.tmp 29),(.tmp 30)])⟩,
  ⟨(some 32),none,(.un .not (.tmp 31))⟩,
  ⟨(some 33),none,(.mv (.tmp 32))⟩,
  ⟨(some 34),(some (33,false)),(.mv (.tmp 7))⟩,
  ⟨(some 35),(some (33,false)),(.mv (.tmp 4))⟩,
  ⟨(some 36),(some (33,false)),(.bin .neq (.tmp 34) (.tmp 35))⟩,
  ⟨(some 37),none,(.pick (.tmp 33) (.const (.bool true)) (.tmp 36))⟩,
  ⟨(some 38),none,(.mv (.tmp 37))⟩,
  ⟨(some 39),(some (38,false)),(.mv (.tmp 8))⟩,
  ⟨(some 40),(some (38,false)),(.mv (.tmp 5))⟩,
  ⟨(some 41),(some (38,false)),(.bin .neq (.tmp 39) (.tmp 40))⟩,
  ⟨(some 42),none,(.pick (.tmp 38) (.const (.bool true)) (.tmp 41))⟩]) (.cond (.tmp 42) (.seq (.ops [
  ⟨(some 2),none,(.asg (.const (.bool false)))⟩]) .ret) .skip)) (.seq (.ops [
  ⟨(some 9),none,(.asg (.const (.int .i64 1)))⟩]) (.seq (.ops [
  ⟨(some 43),none,(.load 5 true (.tmp 6))⟩,
  ⟨(some 44),none,(.mv (.tmp 9))⟩,
  ⟨(some 45),none,(.callX 14 [(.tmp 43),(.tmp 44)])⟩,
  ⟨(some 9),none,(.asg (.tmp 45))⟩]) (.seq (.ops [
  ⟨(some 10),none,(.asg (.const (.int .i64 1)))⟩]) (.seq (.ops [
  ⟨(some 46),none,(.load 5 true (.tmp 6))⟩,
  ⟨(some 47),none,(.mv (.tmp 10))⟩,
  ⟨(some 48),none,(.callX 15 [(.tmp 46),(.tmp 47)])⟩,
  ⟨(some 10),none,(.asg (.tmp 48))⟩]) (.seq (.seq (.ops [
  ⟨(some 49),none,(.mv (.tmp 10))⟩,
  ⟨(some 50),none,(.bin .lss (.tmp 49) (.const (.int .i64 0)))⟩]) (.cond (.tmp 50) (.seq (.ops [
  ⟨(some 2),none,(.asg (.const (.bool false)))⟩]) .ret) .skip)) (.seq (.seq (.ops [
  ⟨(some 51),none,(.mv (.tmp 10))⟩,
  ⟨(some 52),none,(.mv (.tmp 9))⟩,
  ⟨(some 53),none,(.bin .neq (.tmp 51) (.tmp 52))⟩]) (.cond (.tmp 53) (.seq (.ops [
  ⟨(some 2),none,(.asg (.const (.bool false)))⟩]) .ret) .skip)) (.seq (.ops [
  ⟨(some 55),none,(.mv (.tmp 0))⟩,
  ⟨(some 56),none,(.callX 12 [(.tmp 55)])⟩,
  ⟨(some 54),none,(.mv (.tmp 56))⟩,
  ⟨(some 57),none,(.ext (.tmp 54) 0)⟩,
  ⟨(some 58),none,(.ext (.tmp 54) 1)⟩,
  ⟨(some 59),none,(.ext (.tmp 54) 2)⟩,
  ⟨(some 11),none,(.alloc [(.int .i64 0),(.slice none 0 0),(.slice none 0 0),(.slice none 0 0),(.slice none 0 0)])⟩,
  ⟨none,none,(.store 5 (.tmp 11) (.tmp 57))⟩,
  ⟨(some 12),none,(.asg (.tmp 58))⟩,
  ⟨(some 13),none,(.asg (.tmp 59))⟩]) (.seq (.seq (.ops [
  ⟨(some 60),none,(.load 5 true (.tmp 11))⟩,
  ⟨(some 61),none,(.load 5 true (.tmp 3))⟩,
  ⟨(some 62),none,(.callX 13 [(.tmp 60),(.tmp 61)])⟩,
  ⟨(some 63),none,(.un .not (.tmp 62))⟩,
  ⟨(some 64),none,(.mv (.tmp 63))⟩,
  ⟨(some 65),(some (64,false)),(.mv (.tmp 12))⟩,
  ⟨(some 66),(some (64,false)),(.mv (.tmp 4))⟩,
  ⟨(some 67),(some (64,false)),(.bin .neq (.tmp 65) (.tmp 66))⟩,
  ⟨(some 68),none,(.pick (.tmp 64) (.const (.bool true)) (.tmp 67))⟩,
  ⟨(some 69),none,(.mv (.tmp 68))⟩,
  ⟨(some 70),(some (69,false)),(.mv (.tmp 13))⟩,
  ⟨(some 71),(some (69,false)),(.mv (.tmp 5))⟩,
  ⟨(some 72),(some (69,false)),(.bin .neq (.tmp 70) (.tmp 71))⟩,
  ⟨(some 73),none,(.pick (.tmp 69) (.const (.bool true)) (.tmp 72))⟩]) (.cond (.tmp 73) (.seq (.ops [
  ⟨(some 2),none,(.asg (.const (.bool false)))⟩]) .ret) .skip)) (.seq (.ops [
  ⟨(some 10),none,(.asg (.const (.int .i64 1)))⟩]) (.seq (.ops [
  ⟨(some 74),none,(.load 5 true (.tmp 6))⟩,
  ⟨(some 75),none,(.mv (.tmp 10))⟩,
  ⟨(some 76),none,(.callX 15 [(.tmp 74),(.tmp 75)])⟩,
  ⟨(some 10),none,(.asg (.tmp 76))⟩]) (.seq (.seq (.ops [
  ⟨(some 77),none,(.mv (.tmp 10))⟩,
  ⟨(some 78),none,(.bin .lss (.tmp 77) (.const (.int .i64 0)))⟩]) (.cond (.tmp 78) (.seq (.ops [
  ⟨(some 2),none,(.asg (.const (.bool false)))⟩]) .ret) .skip)) (.seq (.seq (.ops [
  ⟨(some 79),none,(.mv (.tmp 10))⟩,
  ⟨(some 80),none,(.mv (.tmp 9))⟩,
  ⟨(some 81),none,(.bin .neq (.tmp 79) (.tmp 80))⟩]) (.cond (.tmp 81) (.seq (.ops [
  ⟨(some 2),none,(.asg (.const (.bool false)))⟩]) .ret) .skip)) (.seq (.ops [
  ⟨(some 2),none,(.asg (.const (.bool true)))⟩]) .ret))))))))))))))))))
theorem law_laws_FnExactReadProof {a0 d:D} (h:code_laws_FnExactReadProof.wp (CT Tryz.prog TabG) (endQ [(.t 2)] d) [a0,.undef,.undef,.undef,.undef,.undef,.undef,.undef,.undef,.undef,.undef,.undef,.undef,.undef,.undef,.undef,.undef,.undef,.undef,.undef,.undef,.undef,.undef,.undef,.undef,.undef,.undef,.undef,.undef,.undef,.undef,.undef,.undef,.undef,.undef,.undef,.undef,.undef,.undef,.undef,.undef,.undef,.undef,.undef,.undef,.undef,.undef,.undef,.undef,.undef,.undef,.undef,.undef,.undef,.undef,.undef,.undef,.undef,.undef,.undef,.undef,.undef,.undef,.undef,.undef,.undef,.undef,.undef,.undef,.undef,.undef,.undef,.undef,.undef,.undef,.undef,.undef,.undef,.undef,.undef,.undef,.undef]):Contract Tryz.prog TabG 4 [a0] d :=
  contract_of (pt:=0) tabG Tryz.func4 (fun us W=>by kernel_rfl) (c:=Tryz.f4.body.getD .skip) (ms:=[]) (ms':=[]) (by kernel_rfl) (by kernel_rfl) (by kernel_rfl) h
set_option maxHeartbeats 8000000 in
theorem vlawReadProof (q_aText:ByteArray) (q_aText_ok:q_aText.size≤maxLen):Contract Tryz.prog TabG 4 [.v (.string q_aText)] (.v (.bool true)):=by
  by_cases g0:q_aText.size≤1048576
  · have q_aText_n:q_aText.size≤1048576:=(by omega);have hr0:=(ReadProofP_ok q_aText q_aText_ok q_aText_n)
    have n0:decide ((1048576:Int) < (q_aText.size:Nat))=false:=(by rw [decide_eq_false_iff_not];omega);have hm_0:=(show (Proof.cnT (ReadProofP q_aText))≤1000000000000 from ReadProofP_cn q_aText)
    have dm0:decide (((1+(Proof.cnT (ReadProofP q_aText):Nat)):Int) < 0)=false:=(by rw [decide_eq_false_iff_not];omega);refine law_laws_FnExactReadProof ?_;unfold code_laws_FnExactReadProof;simp -implicitDefEqProofs (disch:=omega) only [go_sem,↓reduceIte ,decide_true,n0,dm0];refine call_B (vReadProof_spec q_aText q_aText_ok q_aText_n) (by simp -implicitDefEqProofs (disch:=omega) only [go_sem,↓reduceIte,deep,TD.rows,immLL_rI,immLL_rB8,immLL_rS,immLL_rBo,immLL_rII,immLL_rIIt,decide_true,n0,dm0];exact rfl) ?_;simp -implicitDefEqProofs (disch:=omega) only [go_sem,↓reduceIte ,decide_true,n0,dm0];refine call_B (vReadProof_impl q_aText q_aText_ok q_aText_n) (by simp -implicitDefEqProofs (disch:=omega) only [go_sem,↓reduceIte,deep,TD.rows,immLL_rI,immLL_rB8,immLL_rS,immLL_rBo,immLL_rII,immLL_rIIt,decide_true,n0,dm0];exact rfl) ?_;simp -implicitDefEqProofs (disch:=omega) only [go_sem,↓reduceIte ,decide_true,n0,dm0];refine call_B (v_eqProof (ReadProofP q_aText) hr0) (by simp -implicitDefEqProofs (disch:=omega) only [go_sem,↓reduceIte,deep,TD.rows,immLL_rI,immLL_rB8,immLL_rS,immLL_rBo,immLL_rII,immLL_rIIt,decide_true,n0,dm0];exact rfl) ?_;simp -implicitDefEqProofs (disch:=omega) only [go_sem,↓reduceIte ,decide_true,n0,dm0];refine call_markB (r:=6) (v_markProof (ReadProofP q_aText) hr0 (1) (by omega) (by omega)) rfl rfl rfl rfl ?_;simp -implicitDefEqProofs (disch:=omega) only [go_sem,↓reduceIte ,decide_true,n0,dm0];refine call_B (v_heldProof (ReadProofP q_aText) hr0 (1) (by omega) (by omega)) (by simp -implicitDefEqProofs (disch:=omega) only [go_sem,↓reduceIte,deep,TD.rows,immLL_rI,immLL_rB8,immLL_rS,immLL_rBo,immLL_rII,immLL_rIIt,decide_true,n0,dm0];exact rfl) ?_;simp -implicitDefEqProofs (disch:=omega) only [go_sem,↓reduceIte ,decide_true,n0,dm0];refine call_B (vReadProof_impl q_aText q_aText_ok q_aText_n) (by simp -implicitDefEqProofs (disch:=omega) only [go_sem,↓reduceIte,deep,TD.rows,immLL_rI,immLL_rB8,immLL_rS,immLL_rBo,immLL_rII,immLL_rIIt,decide_true,n0,dm0];exact rfl) ?_;simp -implicitDefEqProofs (disch:=omega) only [go_sem,↓reduceIte ,decide_true,n0,dm0];refine call_B (v_eqProof (ReadProofP q_aText) hr0) (by simp -implicitDefEqProofs (disch:=omega) only [go_sem,↓reduceIte,deep,TD.rows,immLL_rI,immLL_rB8,immLL_rS,immLL_rBo,immLL_rII,immLL_rIIt,decide_true,n0,dm0];exact rfl) ?_;simp -implicitDefEqProofs (disch:=omega) only [go_sem,↓reduceIte ,decide_true,n0,dm0];refine call_B (v_heldProof (ReadProofP q_aText) hr0 (1) (by omega) (by omega)) (by simp -implicitDefEqProofs (disch:=omega) only [go_sem,↓reduceIte,deep,TD.rows,immLL_rI,immLL_rB8,immLL_rS,immLL_rBo,immLL_rII,immLL_rIIt,decide_true,n0,dm0];exact rfl) ?_;simp -implicitDefEqProofs (disch:=omega) only [go_sem,↓reduceIte ,decide_true,n0,dm0]
  · have n0:decide ((1048576:Int) < (q_aText.size:Nat))=true:=(by rw [decide_eq_true_eq];omega);refine law_laws_FnExactReadProof ?_;unfold code_laws_FnExactReadProof;simp -implicitDefEqProofs (disch:=omega) only [go_sem,↓reduceIte ,decide_true,n0]
theorem walk_fnExactReadProof (q_aText:ByteArray) (w:World) (hTab:GI TabG w (fun b=>b < w.heap.size)) (q_aText_p:q_aText.size≤maxLen) :
    Calls Tryz.prog 4 #[.string q_aText] w fun e w'=>e=.returned (.bool true)∧Below w.heap.size w w':=by
  refine (Contract.at (vlawReadProof q_aText q_aText_p) hTab (Nat.le_refl _) (vals_cons (vals_v _) vals_nil)).mono ?_;rintro e w' ⟨⟨v,I,F,rfl,hT,hn,hF⟩,hb⟩;obtain rfl:=T_v hT;exact ⟨rfl,hb⟩
end Go.Proofs.YtjkbngjiagknkaaGreatDoor
