/- Laws that the proof stands on. -/
import Derived.Test.YtjkbngjiagknkaaGreatDoorZg19
import Derived.Test.YtjkbngjiagknkaaGreatDoorZVTab
set_option linter.all false
namespace Go.Proofs.YtjkbngjiagknkaaGreatDoor
open Go.RowKit Go.V
attribute [local go_sem] List.getElem?_cons_succ List.getElem?_cons_zero List.set_cons_succ List.set_cons_zero List.map_cons List.map_nil List.length_cons List.length_nil List.all_cons List.all_nil List.drop_succ_cons List.drop_zero List.take_succ_cons List.take_zero List.flatMap_cons List.flatMap_nil List.cons_append List.nil_append List.append_nil List.headD_cons Value.oneCell' Bool.and_true Bool.true_and Bool.or_false Bool.false_or Bool.and_self Bool.not_true Bool.not_false and_true true_and beq_self_eq_true Bool.false_eq_true if_true if_false Nat.zero_add Nat.reduceAdd Nat.reduceMul Nat.reduceLeDiff Nat.le_refl _root_.Option.isSome_some _root_.Option.isSome_none not_true_eq_false not_false_eq_true ne_eq reduceCtorEq List.reverse_nil bne_self_eq_false Nat.reduceEqDiff List.isPrefixOf Bool.not_eq_true Bool.and_false Bool.false_and Bool.true_or Bool.or_true decide_true decide_false Nat.reduceBEq Nat.reduceBNe List.replicate_succ List.replicate_zero exists_eq_left' exists_eq_left _root_.Option.some.injEq or_false or_true true_or false_or _root_.Option.map_some _root_.Option.map_none mB Nat.reduceMod Nat.reduceDiv
set_option maxRecDepth 100000
def code_impl_readNumbers:VCode:=(.seq (.ops [
  ⟨(some 2),none,(.asg (.const (.slice none 0 0)))⟩,
  ⟨(some 3),none,(.asg (.const (.bool false)))⟩]) (.seq (.ops [
  ⟨(some 4),none,(.asg (.const (.slice none 0 0)))⟩]) (.seq (.seq (.ops [
  ⟨(some 9),none,(.mv (.tmp 0))⟩,
  ⟨(some 10),none,(.len (.tmp 9))⟩,
  ⟨(some 11),none,(.mv (.const (.int .i64 0)))⟩]) (.block 0 (.loop (mB 28 213905903) (.seq (.ops [
  ⟨(some 12),none,(.bin .lss (.tmp 11) (.tmp 10))⟩]) (.seq (.cond (.tmp 12) .skip (.exit 0)) (.seq (.block 1 (.seq (.ops [
  ⟨(some 13),none,(.ia 1 (.tmp 9) (.tmp 11))⟩,
  ⟨(some 14),none,(.load 1 false (.tmp 13))⟩,
  ⟨(some 6),none,(.asg (.tmp 14))⟩]) (.seq (.ops [
  ⟨(some 16),none,(.mv (.tmp 6))⟩,
  ⟨(some 17),none,(.callX 75 [(.tmp 16)])⟩,
  ⟨(some 15),none,(.mv (.tmp 17))⟩,
  ⟨(some 18),none,(.ext (.tmp 15) 0)⟩,
  ⟨(some 19),none,(.ext (.tmp 15) 1)⟩,
  ⟨(some 7),none,(.asg (.tmp 18))⟩,
  ⟨(some 8),none,(.asg (.tmp 19))⟩]) (.seq (.seq (.ops [
  ⟨(some 20),none,(.mv (.tmp 8))⟩,
  ⟨(some 21),none,(.un .not (.tmp 20))⟩]) (.cond (.tmp 21) (.seq (.ops [
  ⟨(some 2),none,(.asg (.const (.slice none 0 0)))⟩,
  ⟨(some 3),none,(.asg (.const (.bool false)))⟩]) .ret) .skip)) (.ops [
  ⟨(some 22),none,(.mv (.tmp 4))⟩,
  ⟨(some 23),none,(.mv (.tmp 7))⟩,
  ⟨(some 24),none,(.bsl 1 [(.tmp 23)])⟩,
  ⟨(some 25),none,(.app 1 8 (.tmp 22) (.tmp 24))⟩,
  ⟨(some 4),none,(.asg (.tmp 25))⟩]))))) (.ops [
  ⟨(some 26),none,(.bin .add (.tmp 11) (.const (.int .i64 1)))⟩,
  ⟨(some 11),none,(.mv (.tmp 26))⟩]))))))) (.seq (.ops [
  ⟨(some 27),none,(.mv (.tmp 4))⟩,
  ⟨(some 2),none,(.asg (.tmp 27))⟩,
  ⟨(some 3),none,(.asg (.const (.bool true)))⟩]) .ret))))
theorem law_impl_readNumbers {a0 d:D} (h:code_impl_readNumbers.wp (CT Tryz.prog TabG) (endQ [(.t 2),(.t 3)] d) [a0,.undef,.undef,.undef,.undef,.undef,.undef,.undef,.undef,.undef,.undef,.undef,.undef,.undef,.undef,.undef,.undef,.undef,.undef,.undef,.undef,.undef,.undef,.undef,.undef,.undef,.undef,.undef]):Contract Tryz.prog TabG 59 [a0] d :=
  contract_of (pt:=0) tabG Tryz.func59 (fun us W=>by kernel_rfl) (c:=Tryz.f59.body.getD .skip) (ms:=[(mB 28 213905903)]) (ms':=[]) (by kernel_rfl) (by kernel_rfl) (by kernel_rfl) h
set_option maxHeartbeats 2000000 in
theorem v_readNumbers (ws:List ByteArray) (hws:∀ w,w∈ws→w.size≤1048576) (hn:ws.length≤1048577):Contract Tryz.prog TabG 59 [.sl false 1 (ws.map rS)] (.tup [.sl true 1 (((rdNums ws).getD []).map rI),.v (.bool (rdNums ws).isSome)]):=by
  refine law_impl_readNumbers ?_;unfold code_impl_readNumbers;simp -implicitDefEqProofs (disch:=omega) only [go_sem,↓reduceIte];refine loop_ov (by simp -implicitDefEqProofs (disch:=omega) only [go_sem,↓reduceIte];exact rfl) (fun q:Nat × List Int=>[(4,.sl true 1 (q.2.map rI)),(11,.v (.int .i64 (q.1:Nat)))]) (fun _=>by simp only [ovr_nil,ovr_cons,List.set_cons_zero,List.set_cons_succ];exact rfl) (fun q:Nat × List Int=>q.1≤ws.length∧rdNums (ws.take q.1)=some q.2) (fun q:Nat × List Int=>ws.length - q.1) ((0,[])) (nleA) (?_) ?_
  · exact ⟨Nat.zero_le _,rfl⟩
  rintro ⟨i,o⟩ ⟨hi,ho⟩;simp only at hi ho ⊢;have hol:o.length≤1048577:=by have:=rdNums_len ho;rw [List.length_take] at this;omega
  simp -implicitDefEqProofs (disch:=omega) only [go_sem,↓reduceIte];refine cond_split ?_ ?_ <;> intro hlt
  · have hlt:i < ws.length:=(by simpa using hlt);have hltM:i < (ws.map rS).length:=(by rw [List.length_map];exact hlt);have e1:(ws.map rS)[i]?=some [D.v (.string ws[i])]:=(by rw [List.getElem?_map,List.getElem?_eq_getElem hlt];rfl);have ht:=rdNums_take hlt;rw [ho] at ht;cases hr:readD ws[i] with
    | none =>
      have hv:=v_ReadDecimal_impl ws[i] (hws _ (List.getElem_mem hlt));rw [hr] at hv;rw [rdNums_none hlt hr];simp -implicitDefEqProofs (disch:=omega) only [go_sem,↓reduceIte ,e1,Int.toNat_natCast,Int.natCast_nonneg];refine ⟨by omega,?_⟩;refine call_B (hv) (by simp -implicitDefEqProofs (disch:=omega) only [go_sem,↓reduceIte,deep,TD.rows,immLL_rI,immLL_rB8,immLL_rS,immLL_rBo,immLL_rII,immLL_rIIt,e1,Int.toNat_natCast,Int.natCast_nonneg,rdR];exact rfl) ?_;simp -implicitDefEqProofs (disch:=omega) only [go_sem,↓reduceIte ,e1,Int.toNat_natCast,Int.natCast_nonneg,rdR]
      first | done | rfl
    | some n=>have hv:=v_ReadDecimal_impl ws[i] (hws _ (List.getElem_mem hlt));rw [hr] at hv;rw [hr] at ht;simp -implicitDefEqProofs (disch:=omega) only [go_sem,↓reduceIte ,e1,Int.toNat_natCast,Int.natCast_nonneg];refine ⟨by omega,?_⟩;refine call_B (hv) (by simp -implicitDefEqProofs (disch:=omega) only [go_sem,↓reduceIte,deep,TD.rows,immLL_rI,immLL_rB8,immLL_rS,immLL_rBo,immLL_rII,immLL_rIIt,e1,Int.toNat_natCast,Int.natCast_nonneg,rdR,wrN];exact rfl) ?_;simp -implicitDefEqProofs (disch:=omega) only [go_sem,↓reduceIte ,e1,Int.toNat_natCast,Int.natCast_nonneg,rdR,wrN];refine ⟨by rw [List.length_map];omega,(i+1,o++[n]),by show ws.length - (i+1) < ws.length - i;omega,⟨hlt,ht⟩,?_⟩;rw [List.map_append];exact nleA
  · have hie:i=ws.length:=(by have:¬ i < ws.length:=(by simpa using hlt);omega);subst hie;rw [List.take_length] at ho;rw [ho];simp -implicitDefEqProofs (disch:=omega) only [go_sem,↓reduceIte]
    first | done | rfl
end Go.Proofs.YtjkbngjiagknkaaGreatDoor
