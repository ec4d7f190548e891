/- Laws that the proof stands on. -/
import Derived.Test.YtlblmbhaakjcaaaDoorZg14
import Derived.Test.YtlblmbhaakjcaaaDoorZVLMeasure
import Derived.Test.YtlblmbhaakjcaaaDoorZg11
import Derived.Test.YtlblmbhaakjcaaaDoorZVTab
set_option linter.all false
namespace Go.Proofs.YtlblmbhaakjcaaaDoor
open Go.RowKit Go.V
attribute [local go_sem] List.getElem?_cons_succ List.getElem?_cons_zero List.set_cons_succ List.set_cons_zero List.map_cons List.map_nil List.length_cons List.length_nil List.all_cons List.all_nil List.drop_succ_cons List.drop_zero List.take_succ_cons List.take_zero List.flatMap_cons List.flatMap_nil List.cons_append List.nil_append List.append_nil List.headD_cons Value.oneCell' Bool.and_true Bool.true_and Bool.or_false Bool.false_or Bool.and_self Bool.not_true Bool.not_false and_true true_and beq_self_eq_true Bool.false_eq_true if_true if_false Nat.zero_add Nat.reduceAdd Nat.reduceMul Nat.reduceLeDiff Nat.le_refl Option.isSome_some Option.isSome_none not_true_eq_false not_false_eq_true ne_eq reduceCtorEq List.reverse_nil bne_self_eq_false Nat.reduceEqDiff List.isPrefixOf Bool.not_eq_true Bool.and_false Bool.false_and Bool.true_or Bool.or_true decide_true decide_false Nat.reduceBEq Nat.reduceBNe List.replicate_succ List.replicate_zero exists_eq_left' exists_eq_left Option.some.injEq or_false or_true true_or false_or Option.map_some Option.map_none mB Nat.reduceMod Nat.reduceDiv
set_option maxRecDepth 100000
attribute [local go_sem] List.length_map decide_true decide_false Int.reduceLT Int.reduceNeg Measure.td_d
def code_laws_FnExactMeasureText : VCode := (.seq (.ops [
  ⟨(some 1), none, (.box (.tmp 0))⟩,
  ⟨(some 2), none, (.asg (.const (.bool false)))⟩]) (.seq (.ops [
  ⟨(some 5), none, (.load 7 true (.tmp 1))⟩,
  ⟨(some 6), none, (.callX 6 [(.tmp 5)])⟩,
  ⟨(some 7), none, (.callX 5 [(.tmp 6)])⟩,
  ⟨(some 3), none, (.asg (.tmp 7))⟩]) (.seq (.ops [
  ⟨(some 8), none, (.load 7 true (.tmp 1))⟩,
  ⟨(some 9), none, (.callX 6 [(.tmp 8)])⟩,
  ⟨(some 10), none, (.callX 7 [(.tmp 9)])⟩,
  ⟨(some 4), none, (.asg (.tmp 10))⟩]) (.seq (.seq (.ops [
  ⟨(some 11), none, (.mv (.tmp 4))⟩,
  ⟨(some 12), none, (.mv (.tmp 3))⟩,
  ⟨(some 13), none, (.bin .neq (.tmp 11) (.tmp 12))⟩]) (.cond (.tmp 13) (.seq (.ops [
  ⟨(some 2), none, (.asg (.const (.bool false)))⟩]) .ret) .skip)) (.seq (.ops [
  ⟨(some 2), none, (.asg (.const (.bool true)))⟩]) .ret)))))
theorem law_laws_FnExactMeasureText {a0 d : D} (h : code_laws_FnExactMeasureText.wp (CT Tryd.prog TabG) (endQ [(.t 2)] d) [a0, .undef, .undef, .undef, .undef, .undef, .undef, .undef, .undef, .undef, .undef, .undef, .undef, .undef]) : Contract Tryd.prog TabG 3 [a0] d :=
  contract_of tabG Tryd.func3 (fun us W => by kernel_rfl) (c := Tryd.f3.body.getD .skip) (ms := []) (ms' := []) (by kernel_rfl) (by kernel_rfl) (by kernel_rfl) h
set_option maxHeartbeats 8000000 in
theorem vlawMeasureText (q_aM : Measure) (q_aM_ok : Measure.td.ok q_aM) : Contract Tryd.prog TabG 3 [.agg (Measure.td.d false q_aM)] (.v (.bool true)) := by rw [Measure.td_d]; refine law_laws_FnExactMeasureText ?_; unfold code_laws_FnExactMeasureText; simp -implicitDefEqProofs (disch := omega) only [go_sem, ↓reduceIte , decide_true]; refine call_leA (v_toMeasure q_aM) (by simp -implicitDefEqProofs (disch := omega) only [go_sem, ↓reduceIte, deep, TD.rows, immLL_rI, immLL_rB8, immLL_rS, immLL_rBo, immLL_rII, immLL_rIIt, decide_true]; exact rfl) (by repeat (first | exact leL_nil | refine leL_cons ?_ ?_ | exact le_of_eq rfl | exact le_iptrN (leL_of_eq rfl) | refine le_agg ?_ | exact le_slf rfl (TD.rows ..) | refine le_iptr ?_ | refine le_fn ?_ ?_)) (by first | exact .inl rfl | exact .inr rfl | exact .inl (by simp only [D.noImm, noImmL, go_sem, TD.nims, TD.nim, nim_rI, nim_rB8, nim_rBo, nim_rS])) ?_; simp -implicitDefEqProofs (disch := omega) only [go_sem, ↓reduceIte , decide_true]; refine call_leA (vMeasureText_spec q_aM q_aM_ok) (by simp -implicitDefEqProofs (disch := omega) only [go_sem, ↓reduceIte, deep, TD.rows, immLL_rI, immLL_rB8, immLL_rS, immLL_rBo, immLL_rII, immLL_rIIt, decide_true]; exact rfl) (by repeat (first | exact leL_nil | refine leL_cons ?_ ?_ | exact le_of_eq rfl | exact le_iptrN (leL_of_eq rfl) | refine le_agg ?_ | exact le_slf rfl (TD.rows ..) | refine le_iptr ?_ | refine le_fn ?_ ?_)) (by first | exact .inl rfl | exact .inr rfl | exact .inl (by simp only [D.noImm, noImmL, go_sem, TD.nims, TD.nim, nim_rI, nim_rB8, nim_rBo, nim_rS])) ?_; simp -implicitDefEqProofs (disch := omega) only [go_sem, ↓reduceIte , decide_true]; refine call_leA (v_toMeasure q_aM) (by simp -implicitDefEqProofs (disch := omega) only [go_sem, ↓reduceIte, deep, TD.rows, immLL_rI, immLL_rB8, immLL_rS, immLL_rBo, immLL_rII, immLL_rIIt, decide_true]; exact rfl) (by repeat (first | exact leL_nil | refine leL_cons ?_ ?_ | exact le_of_eq rfl | exact le_iptrN (leL_of_eq rfl) | refine le_agg ?_ | exact le_slf rfl (TD.rows ..) | refine le_iptr ?_ | refine le_fn ?_ ?_)) (by first | exact .inl rfl | exact .inr rfl | exact .inl (by simp only [D.noImm, noImmL, go_sem, TD.nims, TD.nim, nim_rI, nim_rB8, nim_rBo, nim_rS])) ?_; simp -implicitDefEqProofs (disch := omega) only [go_sem, ↓reduceIte , decide_true]; refine call_leA (vMeasureText_impl q_aM q_aM_ok) (by simp -implicitDefEqProofs (disch := omega) only [go_sem, ↓reduceIte, deep, TD.rows, immLL_rI, immLL_rB8, immLL_rS, immLL_rBo, immLL_rII, immLL_rIIt, decide_true]; exact rfl) (by repeat (first | exact leL_nil | refine leL_cons ?_ ?_ | exact le_of_eq rfl | exact le_iptrN (leL_of_eq rfl) | refine le_agg ?_ | exact le_slf rfl (TD.rows ..) | refine le_iptr ?_ | refine le_fn ?_ ?_)) (by first | exact .inl rfl | exact .inr rfl | exact .inl (by simp only [D.noImm, noImmL, go_sem, TD.nims, TD.nim, nim_rI, nim_rB8, nim_rBo, nim_rS])) ?_; simp -implicitDefEqProofs (disch := omega) only [go_sem, ↓reduceIte , decide_true]
theorem walk_fnExactMeasureText (q_aM : Measure) (w : World) (hTab : GI TabG w (fun b => b < w.heap.size)) (q_aM_p0 : InK .i64 q_aM.Tiles) (q_aM_p1 : InK .i64 q_aM.Kinds) (q_aM_p2 : InK .i64 q_aM.Glues) (q_aM_p3 : InK .i64 q_aM.Area) (q_aM_p4 : InK .i64 q_aM.Strength) (q_aM_p5 : InK .i64 q_aM.Misfits) (q_aM_p6 : InK .i64 q_aM.Slack) :
    Calls Tryd.prog 3 #[.agg #[.int .i64 q_aM.Tiles, .int .i64 q_aM.Kinds, .int .i64 q_aM.Glues, .int .i64 q_aM.Area, .int .i64 q_aM.Strength, .int .i64 q_aM.Misfits, .int .i64 q_aM.Slack]] w fun e w' => e = .returned (.bool true) ∧ Below w.heap.size w w' := by
  have hr_q_aM := Measure.rep_mk (w := w) (B := w.heap.size) q_aM_p0 q_aM_p1 q_aM_p2 q_aM_p3 q_aM_p4 q_aM_p5 q_aM_p6; refine (Contract.at (vlawMeasureText q_aM (Measure.td.rep_ok hr_q_aM)) hTab (Nat.le_refl _) (vals_cons (TD.arg_agg Measure.td hr_q_aM) vals_nil)).mono ?_; rintro e w' ⟨⟨v, I, F, rfl, hT, hn, hF⟩, hb⟩; obtain rfl := T_v hT; exact ⟨rfl, hb⟩
end Go.Proofs.YtlblmbhaakjcaaaDoor
