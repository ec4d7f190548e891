/- Dominates: the program's and the reference's. -/
import Derived.Test.YtlfgkhjibhfopaaTdMeasure
import Derived.Test.YtlfgkhjibhfopaaVCom
set_option linter.all false
namespace Go.Proofs.Ytlfgkhjibhfopaa
open Go.RowKit Go.V
set_option maxRecDepth 100000
def domB (a b : Measure) : Bool :=
  !(decide (b.Tiles < a.Tiles) || decide (b.Kinds < a.Kinds) || decide (b.Glues < a.Glues) || decide (b.Area < a.Area) || decide (b.Misfits < a.Misfits)) &&
  decide (b.Strength ≤ a.Strength) && decide (b.Slack ≤ a.Slack) && !(decide (a.Tiles = b.Tiles) && decide (a.Kinds = b.Kinds) && decide (a.Glues = b.Glues) && decide (a.Area = b.Area) && decide (a.Strength = b.Strength) && decide (a.Misfits = b.Misfits) && decide (a.Slack = b.Slack))
/-- spec.Dominates -/
def code_spec_Dominates : VCode := (.seq (.ops [
  ⟨(some 2), none, (.box (.tmp 0))⟩,
  ⟨(some 3), none, (.box (.tmp 1))⟩,
  ⟨(some 4), none, (.asg (.const (.bool false)))⟩]) (.seq (.ops [
  ⟨(some 5), none, (.fa 0 (.tmp 2))⟩,
  ⟨(some 6), none, (.load 1 false (.tmp 5))⟩,
  ⟨(some 7), none, (.fa 0 (.tmp 3))⟩,
  ⟨(some 8), none, (.load 1 false (.tmp 7))⟩,
  ⟨(some 9), none, (.bin .leq (.tmp 6) (.tmp 8))⟩,
  ⟨(some 10), none, (.mv (.tmp 9))⟩,
  ⟨(some 11), (some (10, true)), (.fa 1 (.tmp 2))⟩,
  ⟨(some 12), (some (10, true)), (.load 1 false (.tmp 11))⟩,
  ⟨(some 13), (some (10, true)), (.fa 1 (.tmp 3))⟩,
  ⟨(some 14), (some (10, true)), (.load 1 false (.tmp 13))⟩,
  ⟨(some 15), (some (10, true)), (.bin .leq (.tmp 12) (.tmp 14))⟩,
  ⟨(some 16), none, (.pick (.tmp 10) (.tmp 15) (.const (.bool false)))⟩,
  ⟨(some 17), none, (.mv (.tmp 16))⟩,
  ⟨(some 18), (some (17, true)), (.fa 2 (.tmp 2))⟩,
  ⟨(some 19), (some (17, true)), (.load 1 false (.tmp 18))⟩,
  ⟨(some 20), (some (17, true)), (.fa 2 (.tmp 3))⟩,
  ⟨(some 21), (some (17, true)), (.load 1 false (.tmp 20))⟩,
  ⟨(some 22), (some (17, true)), (.bin .leq (.tmp 19) (.tmp 21))⟩,
  ⟨(some 23), none, (.pick (.tmp 17) (.tmp 22) (.const (.bool false)))⟩,
  ⟨(some 24), none, (.mv (.tmp 23))⟩,
  ⟨(some 25), (some (24, true)), (.fa 3 (.tmp 2))⟩,
  ⟨(some 26), (some (24, true)), (.load 1 false (.tmp 25))⟩,
  ⟨(some 27), (some (24, true)), (.fa 3 (.tmp 3))⟩,
  ⟨(some 28), (some (24, true)), (.load 1 false (.tmp 27))⟩,
  ⟨(some 29), (some (24, true)), (.bin .leq (.tmp 26) (.tmp 28))⟩,
  ⟨(some 30), none, (.pick (.tmp 24) (.tmp 29) (.const (.bool false)))⟩,
  ⟨(some 31), none, (.mv (.tmp 30))⟩,
  ⟨(some 32), (some (31, true)), (.fa 5 (.tmp 2))⟩,
  ⟨(some 33), (some (31, true)), (.load 1 false (.tmp 32))⟩,
  ⟨(some 34), (some (31, true)), (.fa 5 (.tmp 3))⟩,
  ⟨(some 35), (some (31, true)), (.load 1 false (.tmp 34))⟩,
  ⟨(some 36), (some (31, true)), (.bin .leq (.tmp 33) (.tmp 35))⟩,
  ⟨(some 37), none, (.pick (.tmp 31) (.tmp 36) (.const (.bool false)))⟩,
  ⟨(some 38), none, (.mv (.tmp 37))⟩,
  ⟨(some 39), (some (38, true)), (.fa 4 (.tmp 2))⟩,
  ⟨(some 40), (some (38, true)), (.load 1 false (.tmp 39))⟩,
  ⟨(some 41), (some (38, true)), (.fa 4 (.tmp 3))⟩,
  ⟨(some 42), (some (38, true)), (.load 1 false (.tmp 41))⟩,
  ⟨(some 43), (some (38, true)), (.bin .geq (.tmp 40) (.tmp 42))⟩,
  ⟨(some 44), none, (.pick (.tmp 38) (.tmp 43) (.const (.bool false)))⟩,
  ⟨(some 45), none, (.mv (.tmp 44))⟩,
  ⟨(some 46), (some (45, true)), (.fa 6 (.tmp 2))⟩,
  ⟨(some 47), (some (45, true)), (.load 1 false (.tmp 46))⟩,
  ⟨(some 48), (some (45, true)), (.fa 6 (.tmp 3))⟩,
  ⟨(some 49), (some (45, true)), (.load 1 false (.tmp 48))⟩,
  ⟨(some 50), (some (45, true)), (.bin .geq (.tmp 47) (.tmp 49))⟩,
  ⟨(some 51), none, (.pick (.tmp 45) (.tmp 50) (.const (.bool false)))⟩,
  ⟨(some 52), none, (.mv (.tmp 51))⟩,
  ⟨(some 53), (some (52, true)), (.load 7 true (.tmp 2))⟩,
  ⟨(some 54), (some (52, true)), (.load 7 true (.tmp 3))⟩,
  ⟨(some 55), (some (52, true)), (.eqs true [1, 1, 1, 1, 1, 1, 1] (.tmp 53) (.tmp 54))⟩,
  ⟨(some 56), none, (.pick (.tmp 52) (.tmp 55) (.const (.bool false)))⟩,
  ⟨(some 4), none, (.asg (.tmp 56))⟩]) .ret))
theorem law_spec_Dominates {a0 a1 d : D} (h : code_spec_Dominates.wp (Contract Try.prog NoG) (endQ [(.t 4)] d) [a0, a1, .undef, .undef, .undef, .undef, .undef, .undef, .undef, .undef, .undef, .undef, .undef, .undef, .undef, .undef, .undef, .undef, .undef, .undef, .undef, .undef, .undef, .undef, .undef, .undef, .undef, .undef, .undef, .undef, .undef, .undef, .undef, .undef, .undef, .undef, .undef, .undef, .undef, .undef, .undef, .undef, .undef, .undef, .undef, .undef, .undef, .undef, .undef, .undef, .undef, .undef, .undef, .undef, .undef, .undef, .undef]) : Contract Try.prog NoG 15 [a0, a1] d :=
  contract_of noG Try.func15 (fun us W => by kernel_rfl) (c := Try.f15.body.getD .skip) (ms := []) (ms' := []) (by kernel_rfl) (by kernel_rfl) (by kernel_rfl) h
/-- impl.Dominates -/
def code_impl_Dominates : VCode := (.seq (.ops [
  ⟨(some 2), none, (.box (.tmp 0))⟩,
  ⟨(some 3), none, (.box (.tmp 1))⟩,
  ⟨(some 4), none, (.asg (.const (.bool false)))⟩]) (.seq (.ops [
  ⟨(some 6), none, (.fa 0 (.tmp 2))⟩,
  ⟨(some 7), none, (.load 1 false (.tmp 6))⟩,
  ⟨(some 8), none, (.fa 0 (.tmp 3))⟩,
  ⟨(some 9), none, (.load 1 false (.tmp 8))⟩,
  ⟨(some 10), none, (.bin .gtr (.tmp 7) (.tmp 9))⟩,
  ⟨(some 11), none, (.mv (.tmp 10))⟩,
  ⟨(some 12), (some (11, false)), (.fa 1 (.tmp 2))⟩,
  ⟨(some 13), (some (11, false)), (.load 1 false (.tmp 12))⟩,
  ⟨(some 14), (some (11, false)), (.fa 1 (.tmp 3))⟩,
  ⟨(some 15), (some (11, false)), (.load 1 false (.tmp 14))⟩,
  ⟨(some 16), (some (11, false)), (.bin .gtr (.tmp 13) (.tmp 15))⟩,
  ⟨(some 17), none, (.pick (.tmp 11) (.const (.bool true)) (.tmp 16))⟩,
  ⟨(some 18), none, (.mv (.tmp 17))⟩,
  ⟨(some 19), (some (18, false)), (.fa 2 (.tmp 2))⟩,
  ⟨(some 20), (some (18, false)), (.load 1 false (.tmp 19))⟩,
  ⟨(some 21), (some (18, false)), (.fa 2 (.tmp 3))⟩,
  ⟨(some 22), (some (18, false)), (.load 1 false (.tmp 21))⟩,
  ⟨(some 23), (some (18, false)), (.bin .gtr (.tmp 20) (.tmp 22))⟩,
  ⟨(some 24), none, (.pick (.tmp 18) (.const (.bool true)) (.tmp 23))⟩,
  ⟨(some 25), none, (.mv (.tmp 24))⟩,
  ⟨(some 26), (some (25, false)), (.fa 3 (.tmp 2))⟩,
  ⟨(some 27), (some (25, false)), (.load 1 false (.tmp 26))⟩,
  ⟨(some 28), (some (25, false)), (.fa 3 (.tmp 3))⟩,
  ⟨(some 29), (some (25, false)), (.load 1 false (.tmp 28))⟩,
  ⟨(some 30), (some (25, false)), (.bin .gtr (.tmp 27) (.tmp 29))⟩,
  ⟨(some 31), none, (.pick (.tmp 25) (.const (.bool true)) (.tmp 30))⟩,
  ⟨(some 32), none, (.mv (.tmp 31))⟩,
  ⟨(some 33), (some (32, false)), (.fa 5 (.tmp 2))⟩,
  ⟨(some 34), (some (32, false)), (.load 1 false (.tmp 33))⟩,
  ⟨(some 35), (some (32, false)), (.fa 5 (.tmp 3))⟩,
  ⟨(some 36), (some (32, false)), (.load 1 false (.tmp 35))⟩,
  ⟨(some 37), (some (32, false)), (.bin .gtr (.tmp 34) (.tmp 36))⟩,
  ⟨(some 38), none, (.pick (.tmp 32) (.const (.bool true)) (.tmp 37))⟩,
  ⟨(some 5), none, (.asg (.tmp 38))⟩]) (.seq (.ops [
  ⟨(some 39), none, (.mv (.tmp 5))⟩,
  ⟨(some 40), none, (.un .not (.tmp 39))⟩,
  ⟨(some 41), none, (.mv (.tmp 40))⟩,
  ⟨(some 42), (some (41, true)), (.fa 4 (.tmp 2))⟩,
  ⟨(some 43), (some (41, true)), (.load 1 false (.tmp 42))⟩,
  ⟨(some 44), (some (41, true)), (.fa 4 (.tmp 3))⟩,
  ⟨(some 45), (some (41, true)), (.load 1 false (.tmp 44))⟩,
  ⟨(some 46), (some (41, true)), (.bin .geq (.tmp 43) (.tmp 45))⟩,
  ⟨(some 47), none, (.pick (.tmp 41) (.tmp 46) (.const (.bool false)))⟩,
  ⟨(some 48), none, (.mv (.tmp 47))⟩,
  ⟨(some 49), (some (48, true)), (.fa 6 (.tmp 2))⟩,
  ⟨(some 50), (some (48, true)), (.load 1 false (.tmp 49))⟩,
  ⟨(some 51), (some (48, true)), (.fa 6 (.tmp 3))⟩,
  ⟨(some 52), (some (48, true)), (.load 1 false (.tmp 51))⟩,
  ⟨(some 53), (some (48, true)), (.bin .geq (.tmp 50) (.tmp 52))⟩,
  ⟨(some 54), none, (.pick (.tmp 48) (.tmp 53) (.const (.bool false)))⟩,
  ⟨(some 55), none, (.mv (.tmp 54))⟩,
  ⟨(some 56), (some (55, true)), (.load 7 true (.tmp 2))⟩,
  ⟨(some 57), (some (55, true)), (.load 7 true (.tmp 3))⟩,
  ⟨(some 58), (some (55, true)), (.eqs true [1, 1, 1, 1, 1, 1, 1] (.tmp 56) (.tmp 57))⟩,
  ⟨(some 59), none, (.pick (.tmp 55) (.tmp 58) (.const (.bool false)))⟩,
  ⟨(some 4), none, (.asg (.tmp 59))⟩]) .ret)))
theorem law_impl_Dominates {a0 a1 d : D} (h : code_impl_Dominates.wp (Contract Try.prog NoG) (endQ [(.t 4)] d) [a0, a1, .undef, .undef, .undef, .undef, .undef, .undef, .undef, .undef, .undef, .undef, .undef, .undef, .undef, .undef, .undef, .undef, .undef, .undef, .undef, .undef, .undef, .undef, .undef, .undef, .undef, .undef, .undef, .undef, .undef, .undef, .undef, .undef, .undef, .undef, .undef, .undef, .undef, .undef, .undef, .undef, .undef, .undef, .undef, .undef, .undef, .undef, .undef, .undef, .undef, .undef, .undef, .undef, .undef, .undef, .undef, .undef, .undef, .undef]) : Contract Try.prog NoG 17 [a0, a1] d :=
  contract_of noG Try.func17 (fun us W => by kernel_rfl) (c := Try.f17.body.getD .skip) (ms := []) (ms' := []) (by kernel_rfl) (by kernel_rfl) (by kernel_rfl) h
set_option maxHeartbeats 2000000 in
theorem v_Dominates_spec (a b : Measure) : Contract Try.prog NoG 15 [.agg (Measure.td.d false a), .agg (Measure.td.d false b)] (.v (.bool (domB a b))) := by
  rw [Measure.td_d, Measure.td_d]
  refine law_spec_Dominates ?_
  unfold code_spec_Dominates
  simp (disch := omega) only [go_sem, ↓reduceIte, List.getElem?_cons_succ, List.getElem?_cons_zero, List.set_cons_succ, List.set_cons_zero, List.map_cons, List.map_nil, List.length_cons, List.length_nil, List.all_cons, List.all_nil, List.drop_succ_cons, List.drop_zero, List.take_succ_cons, List.take_zero, List.flatMap_cons, List.flatMap_nil, List.cons_append, List.nil_append, List.append_nil, List.headD_cons, Value.oneCell', Bool.and_true, Bool.true_and, Bool.or_false, Bool.false_or, Bool.and_self, Bool.not_true, Bool.not_false, and_true, true_and, beq_self_eq_true, Bool.false_eq_true, if_true, if_false, Nat.zero_add, Nat.reduceAdd, Nat.reduceMul, Nat.reduceLeDiff, Nat.le_refl, Option.isSome_some, Option.isSome_none, not_true_eq_false, not_false_eq_true, ne_eq, reduceCtorEq, List.reverse_nil, bne_self_eq_false, Nat.reduceEqDiff, List.isPrefixOf, Bool.not_eq_true, Bool.and_false, Bool.false_and, Bool.true_or, Bool.or_true, decide_true, decide_false, Nat.reduceBEq, Nat.reduceBNe, List.replicate_succ, List.replicate_zero, exists_eq_left', exists_eq_left, Option.some.injEq, or_false, or_true, true_or, false_or, Option.map_some, Option.map_none]
  repeat' (first | (refine guard_split ?_ ?_ <;> intro h <;> try (simp (disch := omega) only [go_sem, ↓reduceIte, List.getElem?_cons_succ, List.getElem?_cons_zero, List.set_cons_succ, List.set_cons_zero, List.map_cons, List.map_nil, List.length_cons, List.length_nil, List.all_cons, List.all_nil, List.drop_succ_cons, List.drop_zero, List.take_succ_cons, List.take_zero, List.flatMap_cons, List.flatMap_nil, List.cons_append, List.nil_append, List.append_nil, List.headD_cons, Value.oneCell', Bool.and_true, Bool.true_and, Bool.or_false, Bool.false_or, Bool.and_self, Bool.not_true, Bool.not_false, and_true, true_and, beq_self_eq_true, Bool.false_eq_true, if_true, if_false, Nat.zero_add, Nat.reduceAdd, Nat.reduceMul, Nat.reduceLeDiff, Nat.le_refl, Option.isSome_some, Option.isSome_none, not_true_eq_false, not_false_eq_true, ne_eq, reduceCtorEq, List.reverse_nil, bne_self_eq_false, Nat.reduceEqDiff, List.isPrefixOf, Bool.not_eq_true, Bool.and_false, Bool.false_and, Bool.true_or, Bool.or_true, decide_true, decide_false, Nat.reduceBEq, Nat.reduceBNe, List.replicate_succ, List.replicate_zero, exists_eq_left', exists_eq_left, Option.some.injEq, or_false, or_true, true_or, false_or, Option.map_some, Option.map_none, h])) | (refine gd_split ?_ ?_ <;> intro h <;> try (simp (disch := omega) only [go_sem, ↓reduceIte, List.getElem?_cons_succ, List.getElem?_cons_zero, List.set_cons_succ, List.set_cons_zero, List.map_cons, List.map_nil, List.length_cons, List.length_nil, List.all_cons, List.all_nil, List.drop_succ_cons, List.drop_zero, List.take_succ_cons, List.take_zero, List.flatMap_cons, List.flatMap_nil, List.cons_append, List.nil_append, List.append_nil, List.headD_cons, Value.oneCell', Bool.and_true, Bool.true_and, Bool.or_false, Bool.false_or, Bool.and_self, Bool.not_true, Bool.not_false, and_true, true_and, beq_self_eq_true, Bool.false_eq_true, if_true, if_false, Nat.zero_add, Nat.reduceAdd, Nat.reduceMul, Nat.reduceLeDiff, Nat.le_refl, Option.isSome_some, Option.isSome_none, not_true_eq_false, not_false_eq_true, ne_eq, reduceCtorEq, List.reverse_nil, bne_self_eq_false, Nat.reduceEqDiff, List.isPrefixOf, Bool.not_eq_true, Bool.and_false, Bool.false_and, Bool.true_or, Bool.or_true, decide_true, decide_false, Nat.reduceBEq, Nat.reduceBNe, List.replicate_succ, List.replicate_zero, exists_eq_left', exists_eq_left, Option.some.injEq, or_false, or_true, true_or, false_or, Option.map_some, Option.map_none, h])) | (refine cond_split ?_ ?_ <;> intro h <;> try (simp (disch := omega) only [go_sem, ↓reduceIte, List.getElem?_cons_succ, List.getElem?_cons_zero, List.set_cons_succ, List.set_cons_zero, List.map_cons, List.map_nil, List.length_cons, List.length_nil, List.all_cons, List.all_nil, List.drop_succ_cons, List.drop_zero, List.take_succ_cons, List.take_zero, List.flatMap_cons, List.flatMap_nil, List.cons_append, List.nil_append, List.append_nil, List.headD_cons, Value.oneCell', Bool.and_true, Bool.true_and, Bool.or_false, Bool.false_or, Bool.and_self, Bool.not_true, Bool.not_false, and_true, true_and, beq_self_eq_true, Bool.false_eq_true, if_true, if_false, Nat.zero_add, Nat.reduceAdd, Nat.reduceMul, Nat.reduceLeDiff, Nat.le_refl, Option.isSome_some, Option.isSome_none, not_true_eq_false, not_false_eq_true, ne_eq, reduceCtorEq, List.reverse_nil, bne_self_eq_false, Nat.reduceEqDiff, List.isPrefixOf, Bool.not_eq_true, Bool.and_false, Bool.false_and, Bool.true_or, Bool.or_true, decide_true, decide_false, Nat.reduceBEq, Nat.reduceBNe, List.replicate_succ, List.replicate_zero, exists_eq_left', exists_eq_left, Option.some.injEq, or_false, or_true, true_or, false_or, Option.map_some, Option.map_none, h])))
  all_goals (simp only [Bool.not_eq_true', Bool.not_eq_false', decide_eq_true_eq, decide_eq_false_iff_not] at *)
  all_goals (apply congrArg Value.bool; rw [Bool.eq_iff_iff]; simp [domB]; try omega)
set_option maxHeartbeats 2000000 in
theorem v_Dominates_impl (a b : Measure) : Contract Try.prog NoG 17 [.agg (Measure.td.d false a), .agg (Measure.td.d false b)] (.v (.bool (domB a b))) := by
  rw [Measure.td_d, Measure.td_d]
  refine law_impl_Dominates ?_
  unfold code_impl_Dominates
  simp (disch := omega) only [go_sem, ↓reduceIte, List.getElem?_cons_succ, List.getElem?_cons_zero, List.set_cons_succ, List.set_cons_zero, List.map_cons, List.map_nil, List.length_cons, List.length_nil, List.all_cons, List.all_nil, List.drop_succ_cons, List.drop_zero, List.take_succ_cons, List.take_zero, List.flatMap_cons, List.flatMap_nil, List.cons_append, List.nil_append, List.append_nil, List.headD_cons, Value.oneCell', Bool.and_true, Bool.true_and, Bool.or_false, Bool.false_or, Bool.and_self, Bool.not_true, Bool.not_false, and_true, true_and, beq_self_eq_true, Bool.false_eq_true, if_true, if_false, Nat.zero_add, Nat.reduceAdd, Nat.reduceMul, Nat.reduceLeDiff, Nat.le_refl, Option.isSome_some, Option.isSome_none, not_true_eq_false, not_false_eq_true, ne_eq, reduceCtorEq, List.reverse_nil, bne_self_eq_false, Nat.reduceEqDiff, List.isPrefixOf, Bool.not_eq_true, Bool.and_false, Bool.false_and, Bool.true_or, Bool.or_true, decide_true, decide_false, Nat.reduceBEq, Nat.reduceBNe, List.replicate_succ, List.replicate_zero, exists_eq_left', exists_eq_left, Option.some.injEq, or_false, or_true, true_or, false_or, Option.map_some, Option.map_none]
  repeat' (first | (refine guard_split ?_ ?_ <;> intro h <;> try (simp (disch := omega) only [go_sem, ↓reduceIte, List.getElem?_cons_succ, List.getElem?_cons_zero, List.set_cons_succ, List.set_cons_zero, List.map_cons, List.map_nil, List.length_cons, List.length_nil, List.all_cons, List.all_nil, List.drop_succ_cons, List.drop_zero, List.take_succ_cons, List.take_zero, List.flatMap_cons, List.flatMap_nil, List.cons_append, List.nil_append, List.append_nil, List.headD_cons, Value.oneCell', Bool.and_true, Bool.true_and, Bool.or_false, Bool.false_or, Bool.and_self, Bool.not_true, Bool.not_false, and_true, true_and, beq_self_eq_true, Bool.false_eq_true, if_true, if_false, Nat.zero_add, Nat.reduceAdd, Nat.reduceMul, Nat.reduceLeDiff, Nat.le_refl, Option.isSome_some, Option.isSome_none, not_true_eq_false, not_false_eq_true, ne_eq, reduceCtorEq, List.reverse_nil, bne_self_eq_false, Nat.reduceEqDiff, List.isPrefixOf, Bool.not_eq_true, Bool.and_false, Bool.false_and, Bool.true_or, Bool.or_true, decide_true, decide_false, Nat.reduceBEq, Nat.reduceBNe, List.replicate_succ, List.replicate_zero, exists_eq_left', exists_eq_left, Option.some.injEq, or_false, or_true, true_or, false_or, Option.map_some, Option.map_none, h])) | (refine gd_split ?_ ?_ <;> intro h <;> try (simp (disch := omega) only [go_sem, ↓reduceIte, List.getElem?_cons_succ, List.getElem?_cons_zero, List.set_cons_succ, List.set_cons_zero, List.map_cons, List.map_nil, List.length_cons, List.length_nil, List.all_cons, List.all_nil, List.drop_succ_cons, List.drop_zero, List.take_succ_cons, List.take_zero, List.flatMap_cons, List.flatMap_nil, List.cons_append, List.nil_append, List.append_nil, List.headD_cons, Value.oneCell', Bool.and_true, Bool.true_and, Bool.or_false, Bool.false_or, Bool.and_self, Bool.not_true, Bool.not_false, and_true, true_and, beq_self_eq_true, Bool.false_eq_true, if_true, if_false, Nat.zero_add, Nat.reduceAdd, Nat.reduceMul, Nat.reduceLeDiff, Nat.le_refl, Option.isSome_some, Option.isSome_none, not_true_eq_false, not_false_eq_true, ne_eq, reduceCtorEq, List.reverse_nil, bne_self_eq_false, Nat.reduceEqDiff, List.isPrefixOf, Bool.not_eq_true, Bool.and_false, Bool.false_and, Bool.true_or, Bool.or_true, decide_true, decide_false, Nat.reduceBEq, Nat.reduceBNe, List.replicate_succ, List.replicate_zero, exists_eq_left', exists_eq_left, Option.some.injEq, or_false, or_true, true_or, false_or, Option.map_some, Option.map_none, h])) | (refine cond_split ?_ ?_ <;> intro h <;> try (simp (disch := omega) only [go_sem, ↓reduceIte, List.getElem?_cons_succ, List.getElem?_cons_zero, List.set_cons_succ, List.set_cons_zero, List.map_cons, List.map_nil, List.length_cons, List.length_nil, List.all_cons, List.all_nil, List.drop_succ_cons, List.drop_zero, List.take_succ_cons, List.take_zero, List.flatMap_cons, List.flatMap_nil, List.cons_append, List.nil_append, List.append_nil, List.headD_cons, Value.oneCell', Bool.and_true, Bool.true_and, Bool.or_false, Bool.false_or, Bool.and_self, Bool.not_true, Bool.not_false, and_true, true_and, beq_self_eq_true, Bool.false_eq_true, if_true, if_false, Nat.zero_add, Nat.reduceAdd, Nat.reduceMul, Nat.reduceLeDiff, Nat.le_refl, Option.isSome_some, Option.isSome_none, not_true_eq_false, not_false_eq_true, ne_eq, reduceCtorEq, List.reverse_nil, bne_self_eq_false, Nat.reduceEqDiff, List.isPrefixOf, Bool.not_eq_true, Bool.and_false, Bool.false_and, Bool.true_or, Bool.or_true, decide_true, decide_false, Nat.reduceBEq, Nat.reduceBNe, List.replicate_succ, List.replicate_zero, exists_eq_left', exists_eq_left, Option.some.injEq, or_false, or_true, true_or, false_or, Option.map_some, Option.map_none, h])))
  all_goals (simp only [Bool.not_eq_true', Bool.not_eq_false', decide_eq_true_eq, decide_eq_false_iff_not] at *)
  all_goals (apply congrArg Value.bool; rw [Bool.eq_iff_iff]; simp [domB]; try omega)
end Go.Proofs.Ytlfgkhjibhfopaa
