/- Laws that the proof stands on. -/
import Derived.Test.YtgnlikamelfmjaaZFIsConnected
import Derived.Test.YtgnlikamelfmjaaZg14
import Derived.Test.YtgnlikamelfmjaaZg10
set_option linter.all false
namespace Go.Proofs.Ytgnlikamelfmjaa
open Go.RowKit Go.V
attribute [local go_sem] List.getElem?_cons_succ List.getElem?_cons_zero List.set_cons_succ List.set_cons_zero List.map_cons List.map_nil List.length_cons List.length_nil List.all_cons List.all_nil List.drop_succ_cons List.drop_zero List.take_succ_cons List.take_zero List.flatMap_cons List.flatMap_nil List.cons_append List.nil_append List.append_nil List.headD_cons Value.oneCell' Bool.and_true Bool.true_and Bool.or_false Bool.false_or Bool.and_self Bool.not_true Bool.not_false and_true true_and beq_self_eq_true Bool.false_eq_true if_true if_false Nat.zero_add Nat.reduceAdd Nat.reduceMul Nat.reduceLeDiff Nat.le_refl Option.isSome_some Option.isSome_none not_true_eq_false not_false_eq_true ne_eq reduceCtorEq List.reverse_nil bne_self_eq_false Nat.reduceEqDiff List.isPrefixOf Bool.not_eq_true Bool.and_false Bool.false_and Bool.true_or Bool.or_true decide_true decide_false Nat.reduceBEq Nat.reduceBNe List.replicate_succ List.replicate_zero exists_eq_left' exists_eq_left Option.some.injEq or_false or_true true_or false_or Option.map_some Option.map_none mB Nat.reduceMod Nat.reduceDiv
set_option maxRecDepth 100000
attribute [local go_sem] List.length_map decide_true decide_false Int.reduceLT Int.reduceNeg
def code_laws_FnExactIsConnected : VCode := (.seq (.ops [
  ⟨(some 2), none, (.asg (.const (.bool false)))⟩]) (.seq (.ops [
  ⟨(some 3), none, (.asg (.const (.int .i64 1048576)))⟩]) (.seq (.ops [
  ⟨(some 7), none, (.mv (.tmp 0))⟩,
  ⟨(some 8), none, (.mv (.tmp 3))⟩,
  ⟨(some 9), none, (.callX 7 [(.tmp 7), (.tmp 8)])⟩,
  ⟨(some 3), none, (.asg (.tmp 9))⟩]) (.seq (.seq (.ops [
  ⟨(some 10), none, (.mv (.tmp 3))⟩,
  ⟨(some 11), none, (.bin .lss (.tmp 10) (.const (.int .i64 0)))⟩]) (.cond (.tmp 11) (.seq (.ops [
  ⟨(some 2), none, (.asg (.const (.bool true)))⟩]) .ret) .skip)) (.seq (.ops [
  ⟨(some 12), none, (.mv (.tmp 0))⟩,
  ⟨(some 13), none, (.callX 9 [(.tmp 12)])⟩,
  ⟨(some 14), none, (.callX 8 [(.tmp 13)])⟩,
  ⟨(some 4), none, (.asg (.tmp 14))⟩]) (.seq (.ops [
  ⟨(some 15), none, (.mv (.tmp 0))⟩,
  ⟨(some 16), none, (.callX 9 [(.tmp 15)])⟩,
  ⟨(some 5), none, (.asg (.tmp 16))⟩]) (.seq (.ops [
  ⟨(some 17), none, (.mv (.tmp 5))⟩,
  ⟨(some 18), none, (.callX 10 [(.tmp 17)])⟩,
  ⟨(some 6), none, (.asg (.tmp 18))⟩]) (.seq (.seq (.ops [
  ⟨(some 19), none, (.mv (.tmp 6))⟩,
  ⟨(some 20), none, (.mv (.tmp 4))⟩,
  ⟨(some 21), none, (.binB true (.tmp 19) (.tmp 20))⟩]) (.cond (.tmp 21) (.seq (.ops [
  ⟨(some 2), none, (.asg (.const (.bool false)))⟩]) .ret) .skip)) (.seq (.seq (.ops [
  ⟨(some 22), none, (.mv (.tmp 5))⟩,
  ⟨(some 23), none, (.mv (.tmp 0))⟩,
  ⟨(some 24), none, (.callX 9 [(.tmp 23)])⟩,
  ⟨(some 25), none, (.callX 11 [(.tmp 22), (.tmp 24)])⟩,
  ⟨(some 26), none, (.un .not (.tmp 25))⟩]) (.cond (.tmp 26) (.seq (.ops [
  ⟨(some 2), none, (.asg (.const (.bool false)))⟩]) .ret) .skip)) (.seq (.ops [
  ⟨(some 2), none, (.asg (.const (.bool true)))⟩]) .ret))))))))))
theorem law_laws_FnExactIsConnected {a0 d : D} (h : code_laws_FnExactIsConnected.wp (CT Try.prog NoG) (endQ [(.t 2)] d) [a0, .undef, .undef, .undef, .undef, .undef, .undef, .undef, .undef, .undef, .undef, .undef, .undef, .undef, .undef, .undef, .undef, .undef, .undef, .undef, .undef, .undef, .undef, .undef, .undef, .undef, .undef]) : Contract Try.prog NoG 3 [a0] d :=
  contract_of (pt := 0) noG Try.func3 (fun us W => by kernel_rfl) (c := Try.f3.body.getD .skip) (ms := []) (ms' := []) (by kernel_rfl) (by kernel_rfl) (by kernel_rfl) h
set_option maxHeartbeats 8000000 in
theorem vlawIsConnected (q_aShape : List Point) (q_aShape_ok : ∀ y, y ∈ q_aShape → Point.td.ok y) : Contract Try.prog NoG 3 [.sl false 2 (q_aShape.map (Point.td.d false))] (.v (.bool true)) := by
  by_cases g0 : ((q_aShape.length : Nat) : Int) ≤ 1048576
  · have q_aShape_n : q_aShape.length ≤ 1048576 := (by omega); have e0 : szR (1048576) (q_aShape.length) = 1048576 - (q_aShape.length : Nat) := (by rw [szR_ok g0]); have n0 : decide ((1048576 - (q_aShape.length : Nat) : Int) < 0) = false := (by rw [decide_eq_false_iff_not]; omega); refine law_laws_FnExactIsConnected ?_; unfold code_laws_FnExactIsConnected; simp -implicitDefEqProofs (disch := omega) only [go_sem, ↓reduceIte , decide_true, e0, n0]; refine call_B (v_szPointS q_aShape q_aShape_ok (1048576) (by omega) (by omega)) (by simp -implicitDefEqProofs (disch := omega) only [go_sem, ↓reduceIte, deep, TD.rows, immLL_rI, immLL_rB8, immLL_rS, immLL_rBo, immLL_rII, immLL_rIIt, decide_true, e0, n0]; exact rfl) ?_; simp -implicitDefEqProofs (disch := omega) only [go_sem, ↓reduceIte , decide_true, e0, n0]; refine call_B (v_toPointS q_aShape q_aShape_n) (by simp -implicitDefEqProofs (disch := omega) only [go_sem, ↓reduceIte, deep, TD.rows, immLL_rI, immLL_rB8, immLL_rS, immLL_rBo, immLL_rII, immLL_rIIt, decide_true, e0, n0]; exact rfl) ?_; simp -implicitDefEqProofs (disch := omega) only [go_sem, ↓reduceIte , decide_true, e0, n0]; refine call_B (vIsConnected_spec q_aShape q_aShape_ok q_aShape_n) (by simp -implicitDefEqProofs (disch := omega) only [go_sem, ↓reduceIte, deep, TD.rows, immLL_rI, immLL_rB8, immLL_rS, immLL_rBo, immLL_rII, immLL_rIIt, decide_true, e0, n0]; exact rfl) ?_; simp -implicitDefEqProofs (disch := omega) only [go_sem, ↓reduceIte , decide_true, e0, n0]; refine call_B (v_toPointS q_aShape q_aShape_n) (by simp -implicitDefEqProofs (disch := omega) only [go_sem, ↓reduceIte, deep, TD.rows, immLL_rI, immLL_rB8, immLL_rS, immLL_rBo, immLL_rII, immLL_rIIt, decide_true, e0, n0]; exact rfl) ?_; simp -implicitDefEqProofs (disch := omega) only [go_sem, ↓reduceIte , decide_true, e0, n0]; refine call_B (vIsConnected_impl q_aShape q_aShape_ok q_aShape_n) (by simp -implicitDefEqProofs (disch := omega) only [go_sem, ↓reduceIte, deep, TD.rows, immLL_rI, immLL_rB8, immLL_rS, immLL_rBo, immLL_rII, immLL_rIIt, decide_true, e0, n0]; exact rfl) ?_; simp -implicitDefEqProofs (disch := omega) only [go_sem, ↓reduceIte , decide_true, e0, n0]; refine call_B (v_toPointS q_aShape q_aShape_n) (by simp -implicitDefEqProofs (disch := omega) only [go_sem, ↓reduceIte, deep, TD.rows, immLL_rI, immLL_rB8, immLL_rS, immLL_rBo, immLL_rII, immLL_rIIt, decide_true, e0, n0]; exact rfl) ?_; simp -implicitDefEqProofs (disch := omega) only [go_sem, ↓reduceIte , decide_true, e0, n0]; refine call_B (v_eqPointS q_aShape q_aShape_ok) (by simp -implicitDefEqProofs (disch := omega) only [go_sem, ↓reduceIte, deep, TD.rows, immLL_rI, immLL_rB8, immLL_rS, immLL_rBo, immLL_rII, immLL_rIIt, decide_true, e0, n0]; exact rfl) ?_; simp -implicitDefEqProofs (disch := omega) only [go_sem, ↓reduceIte , decide_true, e0, n0]
  · have e0 : szR (1048576) (q_aShape.length) = -1 := (by rw [szR_no g0]); refine law_laws_FnExactIsConnected ?_; unfold code_laws_FnExactIsConnected; simp -implicitDefEqProofs (disch := omega) only [go_sem, ↓reduceIte , decide_true, e0]; refine call_B (v_szPointS q_aShape q_aShape_ok (1048576) (by omega) (by omega)) (by simp -implicitDefEqProofs (disch := omega) only [go_sem, ↓reduceIte, deep, TD.rows, immLL_rI, immLL_rB8, immLL_rS, immLL_rBo, immLL_rII, immLL_rIIt, decide_true, e0]; exact rfl) ?_; simp -implicitDefEqProofs (disch := omega) only [go_sem, ↓reduceIte , decide_true, e0]
theorem walk_fnExactIsConnected (q_aShape_v : Value) (q_aShape : List Point) (w : World) (q_aShape_h : (Ty.slice 61 Point.ty).rep w w.heap.size [q_aShape_v] q_aShape) :
    Calls Try.prog 3 #[q_aShape_v] w fun e w' => e = .returned (.bool true) ∧ Below w.heap.size w w' := by
  refine (Contract.at (vlawIsConnected q_aShape ((TD.slice 61 Point.td).rep_ok q_aShape_h)) gI (Nat.le_refl _) (vals_cons (TD.arg_slice Point.td q_aShape_h) vals_nil)).mono ?_; rintro e w' ⟨⟨v, I, F, rfl, hT, hn, hF⟩, hb⟩; obtain rfl := T_v hT; exact ⟨rfl, hb⟩
end Go.Proofs.Ytgnlikamelfmjaa
