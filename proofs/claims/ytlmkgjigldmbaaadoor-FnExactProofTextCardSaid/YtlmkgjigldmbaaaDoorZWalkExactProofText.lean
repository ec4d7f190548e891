/- Laws that the proof stands on. -/
import Derived.Test.YtlmkgjigldmbaaaDoorZVPTxt
import Derived.Test.YtlmkgjigldmbaaaDoorZg14
import Derived.Test.YtlmkgjigldmbaaaDoorZg13
import Derived.Test.YtlmkgjigldmbaaaDoorZVTab
set_option linter.all false
namespace Go.Proofs.YtlmkgjigldmbaaaDoor
open Go.RowKit Go.V
attribute [local go_sem] List.getElem?_cons_succ List.getElem?_cons_zero List.set_cons_succ List.set_cons_zero List.map_cons List.map_nil List.length_cons List.length_nil List.all_cons List.all_nil List.drop_succ_cons List.drop_zero List.take_succ_cons List.take_zero List.flatMap_cons List.flatMap_nil List.cons_append List.nil_append List.append_nil List.headD_cons Value.oneCell' Bool.and_true Bool.true_and Bool.or_false Bool.false_or Bool.and_self Bool.not_true Bool.not_false and_true true_and beq_self_eq_true Bool.false_eq_true if_true if_false Nat.zero_add Nat.reduceAdd Nat.reduceMul Nat.reduceLeDiff Nat.le_refl Option.isSome_some Option.isSome_none not_true_eq_false not_false_eq_true ne_eq reduceCtorEq List.reverse_nil bne_self_eq_false Nat.reduceEqDiff List.isPrefixOf Bool.not_eq_true Bool.and_false Bool.false_and Bool.true_or Bool.or_true decide_true decide_false Nat.reduceBEq Nat.reduceBNe List.replicate_succ List.replicate_zero exists_eq_left' exists_eq_left Option.some.injEq or_false or_true true_or false_or Option.map_some Option.map_none mB Nat.reduceMod Nat.reduceDiv
set_option maxRecDepth 100000
attribute [local go_sem] List.length_map decide_true decide_false Int.reduceLT Int.reduceNeg Proof.td_d
def code_laws_FnExactProofText : VCode := (.seq (.ops [
  ⟨(some 1), none, (.box (.tmp 0))⟩,
  ⟨(some 2), none, (.asg (.const (.bool false)))⟩]) (.seq (.ops [
  ⟨(some 3), none, (.asg (.const (.int .i64 1048576)))⟩]) (.seq (.ops [
  ⟨(some 7), none, (.load 5 true (.tmp 1))⟩,
  ⟨(some 8), none, (.mv (.tmp 3))⟩,
  ⟨(some 9), none, (.callX 5 [(.tmp 7), (.tmp 8)])⟩,
  ⟨(some 3), none, (.asg (.tmp 9))⟩]) (.seq (.seq (.ops [
  ⟨(some 10), none, (.mv (.tmp 3))⟩,
  ⟨(some 11), none, (.bin .lss (.tmp 10) (.const (.int .i64 0)))⟩]) (.cond (.tmp 11) (.seq (.ops [
  ⟨(some 2), none, (.asg (.const (.bool true)))⟩]) .ret) .skip)) (.seq (.ops [
  ⟨(some 12), none, (.load 5 true (.tmp 1))⟩,
  ⟨(some 13), none, (.callX 7 [(.tmp 12)])⟩,
  ⟨(some 14), none, (.callX 6 [(.tmp 13)])⟩,
  ⟨(some 4), none, (.asg (.tmp 14))⟩]) (.seq (.ops [
  ⟨(some 15), none, (.load 5 true (.tmp 1))⟩,
  ⟨(some 16), none, (.callX 7 [(.tmp 15)])⟩,
  ⟨(some 5), none, (.alloc [(.int .i64 0), (.slice none 0 0), (.slice none 0 0), (.slice none 0 0), (.slice none 0 0)])⟩,
  ⟨none, none, (.store 5 (.tmp 5) (.tmp 16))⟩]) (.seq (.ops [
  ⟨(some 17), none, (.load 5 true (.tmp 5))⟩,
  ⟨(some 18), none, (.callX 8 [(.tmp 17)])⟩,
  ⟨(some 6), none, (.asg (.tmp 18))⟩]) (.seq (.seq (.ops [
  ⟨(some 19), none, (.mv (.tmp 6))⟩,
  ⟨(some 20), none, (.mv (.tmp 4))⟩,
  ⟨(some 21), none, (.bin .neq (.tmp 19) (.tmp 20))⟩]) (.cond (.tmp 21) (.seq (.ops [
  ⟨(some 2), none, (.asg (.const (.bool false)))⟩]) .ret) .skip)) (.seq (.seq (.draw (mB 25 29360128) [] [⟨0, (mB 25 29360128), [], ⟨(some 22), none, (.load 5 true (.tmp 5))⟩⟩, ⟨1, (mB 25 29360128), [], ⟨(some 23), none, (.load 5 true (.tmp 1))⟩⟩, ⟨2, (mB 25 20971520), [], ⟨(some 24), none, (.call 7 [(.tmp 23)])⟩⟩] [⟨(some 25), none, (.callX 9 [(.tmp 22), (.tmp 24)])⟩, ⟨(some 26), none, (.un .not (.tmp 25))⟩]) (.cond (.tmp 26) (.seq (.ops [
  ⟨(some 2), none, (.asg (.const (.bool false)))⟩]) .ret) .skip)) (.seq (.ops [
  ⟨(some 2), none, (.asg (.const (.bool true)))⟩]) .ret))))))))))
theorem law_laws_FnExactProofText {a0 d : D} (h : code_laws_FnExactProofText.wp (CT Tryd.prog TabG) (endQ [(.t 2)] d) [a0, .undef, .undef, .undef, .undef, .undef, .undef, .undef, .undef, .undef, .undef, .undef, .undef, .undef, .undef, .undef, .undef, .undef, .undef, .undef, .undef, .undef, .undef, .undef, .undef, .undef, .undef]) : Contract Tryd.prog TabG 3 [a0] d :=
  contract_of (pt := 0) tabG Tryd.func3 (fun us W => by kernel_rfl) (c := Tryd.f3.body.getD .skip) (ms := []) (ms' := []) (by kernel_rfl) (by kernel_rfl) (by kernel_rfl) h
set_option maxHeartbeats 8000000 in
theorem vlawProofText (q_aP : Proof) (q_aP_ok : Proof.td.ok q_aP) : Contract Tryd.prog TabG 3 [.agg (Proof.td.d false q_aP)] (.v (.bool true)) := by
  by_cases g0 : ((Proof.cnt q_aP : Nat) : Int) ≤ 1048576
  · have q_aP_n : Proof.cnt q_aP ≤ 1048576 := (by omega); have e0 : szR (1048576) (Proof.cnt q_aP) = 1048576 - (Proof.cnt q_aP : Nat) := (by rw [szR_ok g0]); have n0 : decide ((1048576 - (Proof.cnt q_aP : Nat) : Int) < 0) = false := (by rw [decide_eq_false_iff_not]; omega); have hi0 := (v_toProof q_aP q_aP_n).imm; simp only [D.imm, immL, TD.imm, TD.rows, immLL_rI, immLL_rB8, immLL_rS, immLL_rBo, immLL_rII, immLL_rIIt] at hi0; rw [Proof.td_d]; refine law_laws_FnExactProofText ?_; unfold code_laws_FnExactProofText; simp -implicitDefEqProofs (disch := omega) only [go_sem, ↓reduceIte , decide_true, e0, n0]; refine call_B (v_szProof q_aP q_aP_ok (1048576) (by omega) (by omega)) (by simp -implicitDefEqProofs (disch := omega) only [go_sem, ↓reduceIte, deep, TD.rows, immLL_rI, immLL_rB8, immLL_rS, immLL_rBo, immLL_rII, immLL_rIIt, decide_true, e0, n0]; exact rfl) ?_; simp -implicitDefEqProofs (disch := omega) only [go_sem, ↓reduceIte , decide_true, e0, n0]; refine call_B (v_toProof q_aP q_aP_n) (by simp -implicitDefEqProofs (disch := omega) only [go_sem, ↓reduceIte, deep, TD.rows, immLL_rI, immLL_rB8, immLL_rS, immLL_rBo, immLL_rII, immLL_rIIt, decide_true, e0, n0]; exact rfl) ?_; simp -implicitDefEqProofs (disch := omega) only [go_sem, ↓reduceIte , decide_true, e0, n0]; refine call_B (vProofText_spec q_aP q_aP_ok q_aP_n) (by simp -implicitDefEqProofs (disch := omega) only [go_sem, ↓reduceIte, deep, TD.rows, immLL_rI, immLL_rB8, immLL_rS, immLL_rBo, immLL_rII, immLL_rIIt, decide_true, e0, n0]; exact rfl) ?_; simp -implicitDefEqProofs (disch := omega) only [go_sem, ↓reduceIte , decide_true, e0, n0]; refine call_B (v_toProof q_aP q_aP_n) (by simp -implicitDefEqProofs (disch := omega) only [go_sem, ↓reduceIte, deep, TD.rows, immLL_rI, immLL_rB8, immLL_rS, immLL_rBo, immLL_rII, immLL_rIIt, decide_true, e0, n0]; exact rfl) ?_; simp -implicitDefEqProofs (disch := omega) only [go_sem, ↓reduceIte , decide_true, e0, n0]; refine call_B (vProofText_impl q_aP q_aP_ok q_aP_n) (by simp -implicitDefEqProofs (disch := omega) only [go_sem, ↓reduceIte, deep, TD.rows, immLL_rI, immLL_rB8, immLL_rS, immLL_rBo, immLL_rII, immLL_rIIt, decide_true, e0, n0]; exact rfl) ?_; simp -implicitDefEqProofs (disch := omega) only [go_sem, ↓reduceIte , decide_true, e0, n0]; refine call_NB (hi0) (by simp -implicitDefEqProofs (disch := omega) only [go_sem, ↓reduceIte, deep, TD.rows, immLL_rI, immLL_rB8, immLL_rS, immLL_rBo, immLL_rII, immLL_rIIt, decide_true, e0, n0]; exact rfl) ?_; simp -implicitDefEqProofs (disch := omega) only [go_sem, ↓reduceIte , decide_true, e0, n0]; refine call_B (v_eqProof q_aP q_aP_ok) (by simp -implicitDefEqProofs (disch := omega) only [go_sem, ↓reduceIte, deep, TD.rows, immLL_rI, immLL_rB8, immLL_rS, immLL_rBo, immLL_rII, immLL_rIIt, decide_true, e0, n0]; exact rfl) ?_; simp -implicitDefEqProofs (disch := omega) only [go_sem, ↓reduceIte , decide_true, e0, n0]
  · have e0 : szR (1048576) (Proof.cnt q_aP) = -1 := (by rw [szR_no g0]); rw [Proof.td_d]; refine law_laws_FnExactProofText ?_; unfold code_laws_FnExactProofText; simp -implicitDefEqProofs (disch := omega) only [go_sem, ↓reduceIte , decide_true, e0]; refine call_B (v_szProof q_aP q_aP_ok (1048576) (by omega) (by omega)) (by simp -implicitDefEqProofs (disch := omega) only [go_sem, ↓reduceIte, deep, TD.rows, immLL_rI, immLL_rB8, immLL_rS, immLL_rBo, immLL_rII, immLL_rIIt, decide_true, e0]; exact rfl) ?_; simp -implicitDefEqProofs (disch := omega) only [go_sem, ↓reduceIte , decide_true, e0]
theorem walk_fnExactProofText (q_aP_v0 q_aP_v1 q_aP_v2 q_aP_v3 : Value) (q_aP : Proof) (w : World) (hTab : GI TabG w (fun b => b < w.heap.size)) (q_aP_h0 : (Ty.slice 78 Option.ty).rep w w.heap.size [q_aP_v0] q_aP.Sequence) (q_aP_h1 : (Ty.slice 78 Option.ty).rep w w.heap.size [q_aP_v1] q_aP.Other) (q_aP_h2 : (Ty.slice 2 (Ty.int .i64)).rep w w.heap.size [q_aP_v2] q_aP.Part) (q_aP_h3 : (Ty.slice 23 (Ty.slice 2 (Ty.int .i64))).rep w w.heap.size [q_aP_v3] q_aP.Flows) (q_aP_p0 : InK .i64 q_aP.Kind) :
    Calls Tryd.prog 3 #[.agg #[.int .i64 q_aP.Kind, q_aP_v0, q_aP_v1, q_aP_v2, q_aP_v3]] w fun e w' => e = .returned (.bool true) ∧ Below w.heap.size w w' := by
  have hr_q_aP := Proof.rep_mk (w := w) (B := w.heap.size) q_aP_p0 q_aP_h0 q_aP_h1 q_aP_h2 q_aP_h3; refine (Contract.at (vlawProofText q_aP (Proof.td.rep_ok hr_q_aP)) hTab (Nat.le_refl _) (vals_cons (TD.arg_agg Proof.td hr_q_aP) vals_nil)).mono ?_; rintro e w' ⟨⟨v, I, F, rfl, hT, hn, hF⟩, hb⟩; obtain rfl := T_v hT; exact ⟨rfl, hb⟩
end Go.Proofs.YtlmkgjigldmbaaaDoor
