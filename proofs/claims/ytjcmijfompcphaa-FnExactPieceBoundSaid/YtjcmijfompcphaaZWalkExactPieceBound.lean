/- Laws that the proof stands on. -/
import Derived.Test.YtjcmijfompcphaaZFPieceBound
import Derived.Test.YtjcmijfompcphaaZVLPattern
import Derived.Test.YtjcmijfompcphaaZg16
import Derived.Test.YtjcmijfompcphaaZVLBase
set_option linter.all false
namespace Go.Proofs.Ytjcmijfompcphaa
open Go.RowKit Go.V
attribute [local go_sem] List.getElem?_cons_succ List.getElem?_cons_zero List.set_cons_succ List.set_cons_zero List.map_cons List.map_nil List.length_cons List.length_nil List.all_cons List.all_nil List.drop_succ_cons List.drop_zero List.take_succ_cons List.take_zero List.flatMap_cons List.flatMap_nil List.cons_append List.nil_append List.append_nil List.headD_cons Value.oneCell' Bool.and_true Bool.true_and Bool.or_false Bool.false_or Bool.and_self Bool.not_true Bool.not_false and_true true_and beq_self_eq_true Bool.false_eq_true if_true if_false Nat.zero_add Nat.reduceAdd Nat.reduceMul Nat.reduceLeDiff Nat.le_refl Option.isSome_some Option.isSome_none not_true_eq_false not_false_eq_true ne_eq reduceCtorEq List.reverse_nil bne_self_eq_false Nat.reduceEqDiff List.isPrefixOf Bool.not_eq_true Bool.and_false Bool.false_and Bool.true_or Bool.or_true decide_true decide_false Nat.reduceBEq Nat.reduceBNe List.replicate_succ List.replicate_zero exists_eq_left' exists_eq_left Option.some.injEq or_false or_true true_or false_or Option.map_some Option.map_none mB Nat.reduceMod Nat.reduceDiv
set_option maxRecDepth 100000
attribute [local go_sem] List.length_map decide_true decide_false Int.reduceLT Int.reduceNeg Pattern.td_d
def code_laws_FnExactPieceBound : VCode := (.seq (.ops [
  ⟨(some 1), none, (.box (.tmp 0))⟩,
  ⟨(some 2), none, (.asg (.const (.bool false)))⟩]) (.seq (.ops [
  ⟨(some 3), none, (.asg (.const (.int .i64 1048576)))⟩]) (.seq (.ops [
  ⟨(some 9), none, (.load 3 true (.tmp 1))⟩,
  ⟨(some 10), none, (.mv (.tmp 3))⟩,
  ⟨(some 11), none, (.callX 4 [(.tmp 9), (.tmp 10)])⟩,
  ⟨(some 3), none, (.asg (.tmp 11))⟩]) (.seq (.seq (.ops [
  ⟨(some 12), none, (.mv (.tmp 3))⟩,
  ⟨(some 13), none, (.bin .lss (.tmp 12) (.const (.int .i64 0)))⟩]) (.cond (.tmp 13) (.seq (.ops [
  ⟨(some 2), none, (.asg (.const (.bool true)))⟩]) .ret) .skip)) (.seq (.ops [
  ⟨(some 15), none, (.load 3 true (.tmp 1))⟩,
  ⟨(some 16), none, (.callX 6 [(.tmp 15)])⟩,
  ⟨(some 17), none, (.callX 5 [(.tmp 16)])⟩,
  ⟨(some 14), none, (.mv (.tmp 17))⟩,
  ⟨(some 18), none, (.ext (.tmp 14) 0)⟩,
  ⟨(some 19), none, (.ext (.tmp 14) 1)⟩,
  ⟨(some 4), none, (.asg (.tmp 18))⟩,
  ⟨(some 5), none, (.asg (.tmp 19))⟩]) (.seq (.ops [
  ⟨(some 20), none, (.load 3 true (.tmp 1))⟩,
  ⟨(some 21), none, (.callX 6 [(.tmp 20)])⟩,
  ⟨(some 6), none, (.alloc [(.int .i64 0), (.int .i64 0), (.slice none 0 0)])⟩,
  ⟨none, none, (.store 3 (.tmp 6) (.tmp 21))⟩]) (.seq (.ops [
  ⟨(some 23), none, (.load 3 true (.tmp 6))⟩,
  ⟨(some 24), none, (.callX 7 [(.tmp 23)])⟩,
  ⟨(some 22), none, (.mv (.tmp 24))⟩,
  ⟨(some 25), none, (.ext (.tmp 22) 0)⟩,
  ⟨(some 26), none, (.ext (.tmp 22) 1)⟩,
  ⟨(some 7), none, (.asg (.tmp 25))⟩,
  ⟨(some 8), none, (.asg (.tmp 26))⟩]) (.seq (.seq (.ops [
  ⟨(some 27), none, (.mv (.tmp 7))⟩,
  ⟨(some 28), none, (.mv (.tmp 4))⟩,
  ⟨(some 29), none, (.bin .neq (.tmp 27) (.tmp 28))⟩,
  ⟨(some 30), none, (.mv (.tmp 29))⟩,
  ⟨(some 31), (some (30, false)), (.mv (.tmp 8))⟩,
  ⟨(some 32), (some (30, false)), (.mv (.tmp 5))⟩,
  ⟨(some 33), (some (30, false)), (.bin .neq (.tmp 31) (.tmp 32))⟩,
  ⟨(some 34), none, (.pick (.tmp 30) (.const (.bool true)) (.tmp 33))⟩]) (.cond (.tmp 34) (.seq (.ops [
  ⟨(some 2), none, (.asg (.const (.bool false)))⟩]) .ret) .skip)) (.seq (.seq (.draw (mB 38 240518168576) [] [⟨0, (mB 38 240518168576), [], ⟨(some 35), none, (.load 3 true (.tmp 6))⟩⟩, ⟨1, (mB 38 240518168576), [], ⟨(some 36), none, (.load 3 true (.tmp 1))⟩⟩, ⟨2, (mB 38 171798691840), [], ⟨(some 37), none, (.call 6 [(.tmp 36)])⟩⟩] [⟨(some 38), none, (.callX 8 [(.tmp 35), (.tmp 37)])⟩, ⟨(some 39), none, (.un .not (.tmp 38))⟩]) (.cond (.tmp 39) (.seq (.ops [
  ⟨(some 2), none, (.asg (.const (.bool false)))⟩]) .ret) .skip)) (.seq (.ops [
  ⟨(some 2), none, (.asg (.const (.bool true)))⟩]) .ret))))))))))
theorem law_laws_FnExactPieceBound {a0 d : D} (h : code_laws_FnExactPieceBound.wp (CT Try.prog NoG) (endQ [(.t 2)] d) [a0, .undef, .undef, .undef, .undef, .undef, .undef, .undef, .undef, .undef, .undef, .undef, .undef, .undef, .undef, .undef, .undef, .undef, .undef, .undef, .undef, .undef, .undef, .undef, .undef, .undef, .undef, .undef, .undef, .undef, .undef, .undef, .undef, .undef, .undef, .undef, .undef, .undef, .undef, .undef]) : Contract Try.prog NoG 3 [a0] d :=
  contract_of (pt := 0) noG Try.func3 (fun us W => by kernel_rfl) (c := Try.f3.body.getD .skip) (ms := []) (ms' := []) (by kernel_rfl) (by kernel_rfl) (by kernel_rfl) h
set_option maxHeartbeats 8000000 in
theorem vlawPieceBound (q_aP : Pattern) (q_aP_ok : Pattern.td.ok q_aP) : Contract Try.prog NoG 3 [.agg (Pattern.td.d false q_aP)] (.v (.bool true)) := by
  by_cases g0 : ((Pattern.cnt q_aP : Nat) : Int) ≤ 1048576
  · have q_aP_n : Pattern.cnt q_aP ≤ 1048576 := (by omega); have e0 : szR (1048576) (Pattern.cnt q_aP) = 1048576 - (Pattern.cnt q_aP : Nat) := (by rw [szR_ok g0]); have n0 : decide ((1048576 - (Pattern.cnt q_aP : Nat) : Int) < 0) = false := (by rw [decide_eq_false_iff_not]; omega); have hi0 := (v_toPattern q_aP q_aP_n).imm; simp only [D.imm, immL, TD.imm, TD.rows, immLL_rI, immLL_rB8, immLL_rS, immLL_rBo, immLL_rII, immLL_rIIt] at hi0; rw [Pattern.td_d]; refine law_laws_FnExactPieceBound ?_; unfold code_laws_FnExactPieceBound; simp -implicitDefEqProofs (disch := omega) only [go_sem, ↓reduceIte , decide_true, e0, n0]; refine call_B (v_szPattern q_aP q_aP_ok (1048576) (by omega) (by omega)) (by simp -implicitDefEqProofs (disch := omega) only [go_sem, ↓reduceIte, deep, TD.rows, immLL_rI, immLL_rB8, immLL_rS, immLL_rBo, immLL_rII, immLL_rIIt, decide_true, e0, n0]; exact rfl) ?_; simp -implicitDefEqProofs (disch := omega) only [go_sem, ↓reduceIte , decide_true, e0, n0]; refine call_B (v_toPattern q_aP q_aP_n) (by simp -implicitDefEqProofs (disch := omega) only [go_sem, ↓reduceIte, deep, TD.rows, immLL_rI, immLL_rB8, immLL_rS, immLL_rBo, immLL_rII, immLL_rIIt, decide_true, e0, n0]; exact rfl) ?_; simp -implicitDefEqProofs (disch := omega) only [go_sem, ↓reduceIte , decide_true, e0, n0]; refine call_B (vPieceBound_spec q_aP q_aP_ok q_aP_n) (by simp -implicitDefEqProofs (disch := omega) only [go_sem, ↓reduceIte, deep, TD.rows, immLL_rI, immLL_rB8, immLL_rS, immLL_rBo, immLL_rII, immLL_rIIt, decide_true, e0, n0]; exact rfl) ?_; simp -implicitDefEqProofs (disch := omega) only [go_sem, ↓reduceIte , decide_true, e0, n0]; refine call_B (v_toPattern q_aP q_aP_n) (by simp -implicitDefEqProofs (disch := omega) only [go_sem, ↓reduceIte, deep, TD.rows, immLL_rI, immLL_rB8, immLL_rS, immLL_rBo, immLL_rII, immLL_rIIt, decide_true, e0, n0]; exact rfl) ?_; simp -implicitDefEqProofs (disch := omega) only [go_sem, ↓reduceIte , decide_true, e0, n0]; refine call_B (vPieceBound_impl q_aP q_aP_ok q_aP_n) (by simp -implicitDefEqProofs (disch := omega) only [go_sem, ↓reduceIte, deep, TD.rows, immLL_rI, immLL_rB8, immLL_rS, immLL_rBo, immLL_rII, immLL_rIIt, decide_true, e0, n0]; exact rfl) ?_; simp -implicitDefEqProofs (disch := omega) only [go_sem, ↓reduceIte , decide_true, e0, n0]; refine call_NB (hi0) (by simp -implicitDefEqProofs (disch := omega) only [go_sem, ↓reduceIte, deep, TD.rows, immLL_rI, immLL_rB8, immLL_rS, immLL_rBo, immLL_rII, immLL_rIIt, decide_true, e0, n0]; exact rfl) ?_; simp -implicitDefEqProofs (disch := omega) only [go_sem, ↓reduceIte , decide_true, e0, n0]; refine call_B (v_eqPattern q_aP q_aP_ok) (by simp -implicitDefEqProofs (disch := omega) only [go_sem, ↓reduceIte, deep, TD.rows, immLL_rI, immLL_rB8, immLL_rS, immLL_rBo, immLL_rII, immLL_rIIt, decide_true, e0, n0]; exact rfl) ?_; simp -implicitDefEqProofs (disch := omega) only [go_sem, ↓reduceIte , decide_true, e0, n0]
  · have e0 : szR (1048576) (Pattern.cnt q_aP) = -1 := (by rw [szR_no g0]); rw [Pattern.td_d]; refine law_laws_FnExactPieceBound ?_; unfold code_laws_FnExactPieceBound; simp -implicitDefEqProofs (disch := omega) only [go_sem, ↓reduceIte , decide_true, e0]; refine call_B (v_szPattern q_aP q_aP_ok (1048576) (by omega) (by omega)) (by simp -implicitDefEqProofs (disch := omega) only [go_sem, ↓reduceIte, deep, TD.rows, immLL_rI, immLL_rB8, immLL_rS, immLL_rBo, immLL_rII, immLL_rIIt, decide_true, e0]; exact rfl) ?_; simp -implicitDefEqProofs (disch := omega) only [go_sem, ↓reduceIte , decide_true, e0]
theorem walk_fnExactPieceBound (q_aP_v0 : Value) (q_aP : Pattern) (w : World) (q_aP_h0 : (Ty.slice 2 (Ty.int .i64)).rep w w.heap.size [q_aP_v0] q_aP.Cells) (q_aP_p0 : InK .i64 q_aP.Width) (q_aP_p1 : InK .i64 q_aP.Height) :
    Calls Try.prog 3 #[.agg #[.int .i64 q_aP.Width, .int .i64 q_aP.Height, q_aP_v0]] w fun e w' => e = .returned (.bool true) ∧ Below w.heap.size w w' := by
  have hr_q_aP := Pattern.rep_mk (w := w) (B := w.heap.size) q_aP_p0 q_aP_p1 q_aP_h0; refine (Contract.at (vlawPieceBound q_aP (Pattern.td.rep_ok hr_q_aP)) gI (Nat.le_refl _) (vals_cons (TD.arg_agg Pattern.td hr_q_aP) vals_nil)).mono ?_; rintro e w' ⟨⟨v, I, F, rfl, hT, hn, hF⟩, hb⟩; obtain rfl := T_v hT; exact ⟨rfl, hb⟩
end Go.Proofs.Ytjcmijfompcphaa
