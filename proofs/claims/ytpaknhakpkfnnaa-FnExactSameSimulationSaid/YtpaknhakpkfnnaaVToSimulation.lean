/- Made by vtogen.py: laws.to.. for Simulation. -/
import Derived.Test.YtpaknhakpkfnnaaTdSimulation
import Derived.Test.YtpaknhakpkfnnaaProg
set_option linter.all false
namespace Go.Proofs.Ytpaknhakpkfnnaa
open Go.RowKit Go.V
set_option maxRecDepth 100000
abbrev mk_laws_toInt64S_0 : List Bool := [false, true, true, false, false, true, true, false, true, true, true, true, true, true, true, true, true, true, true, true, true, true]
/-- laws.toInt64S -/
def code_laws_toInt64S : VCode := (.seq (.ops [
  ⟨(some 2), none, (.asg (.const (.slice none 0 0)))⟩]) (.seq (.ops [
  ⟨(some 5), none, (.mv (.tmp 0))⟩,
  ⟨(some 6), none, (.len (.tmp 5))⟩,
  ⟨(some 7), none, (.mks 1 8 [(.int .i64 0)] (.tmp 6) (.tmp 6))⟩,
  ⟨(some 3), none, (.asg (.tmp 7))⟩]) (.seq (.seq (.ops [
  ⟨(some 4), none, (.asg (.const (.int .i64 0)))⟩]) (.block 0 (.loop mk_laws_toInt64S_0 (.seq (.seq (.ops [
  ⟨(some 8), none, (.mv (.tmp 4))⟩,
  ⟨(some 9), none, (.mv (.tmp 0))⟩,
  ⟨(some 10), none, (.len (.tmp 9))⟩,
  ⟨(some 11), none, (.bin .lss (.tmp 8) (.tmp 10))⟩]) (.cond (.tmp 11) .skip (.exit 0))) (.seq (.block 1 (.ops [
  ⟨(some 14), none, (.mv (.tmp 3))⟩,
  ⟨(some 15), none, (.mv (.tmp 4))⟩,
  ⟨(some 16), none, (.mv (.tmp 0))⟩,
  ⟨(some 17), none, (.mv (.tmp 4))⟩,
  ⟨(some 18), none, (.ia 1 (.tmp 16) (.tmp 17))⟩,
  ⟨(some 19), none, (.load 1 false (.tmp 18))⟩,
  ⟨(some 20), none, (.ia 1 (.tmp 14) (.tmp 15))⟩,
  ⟨none, none, (.store 1 (.tmp 20) (.tmp 19))⟩])) (.ops [
  ⟨(some 12), none, (.mv (.tmp 4))⟩,
  ⟨(some 13), none, (.bin .add (.tmp 12) (.const (.int .i64 1)))⟩,
  ⟨(some 4), none, (.asg (.tmp 13))⟩])))))) (.seq (.ops [
  ⟨(some 21), none, (.mv (.tmp 3))⟩,
  ⟨(some 2), none, (.asg (.tmp 21))⟩]) .ret))))
theorem law_laws_toInt64S {a0 d : D} (h : code_laws_toInt64S.wp (Contract Try.prog NoG) (endQ [(.t 2)] d) [a0, .undef, .undef, .undef, .undef, .undef, .undef, .undef, .undef, .undef, .undef, .undef, .undef, .undef, .undef, .undef, .undef, .undef, .undef, .undef, .undef, .undef]) : Contract Try.prog NoG 14 [a0] d :=
  contract_of noG Try.func14 (fun us W => by kernel_rfl) (c := Try.f14.body.getD .skip) (ms := [mk_laws_toInt64S_0]) (ms' := []) (by kernel_rfl) (by kernel_rfl) (by kernel_rfl) h
set_option maxHeartbeats 2000000 in
theorem v_toInt64S (xs : List Int) (hn : xs.length ≤ 1048576) : Contract Try.prog NoG 14 [.sl false 1 (xs.map (rI))] (.sl true 1 (xs.map (rI))) := by
  have hl : xs.length ≤ 1048576 := by exact hn
  refine law_laws_toInt64S ?_
  unfold code_laws_toInt64S
  simp (disch := omega) only [go_sem, ↓reduceIte, List.getElem?_cons_succ, List.getElem?_cons_zero, List.set_cons_succ, List.set_cons_zero, List.map_cons, List.map_nil, List.length_cons, List.length_nil, List.all_cons, List.all_nil, List.drop_succ_cons, List.drop_zero, List.take_succ_cons, List.take_zero, List.flatMap_cons, List.flatMap_nil, List.cons_append, List.nil_append, List.append_nil, List.headD_cons, Value.oneCell', Bool.and_true, Bool.true_and, Bool.or_false, Bool.false_or, Bool.and_self, Bool.not_true, Bool.not_false, and_true, true_and, beq_self_eq_true, Bool.false_eq_true, if_true, if_false, Nat.zero_add, Nat.reduceAdd, Nat.reduceMul, Nat.reduceLeDiff, Nat.le_refl, Option.isSome_some, Option.isSome_none, not_true_eq_false, not_false_eq_true, ne_eq, reduceCtorEq, List.reverse_nil, bne_self_eq_false, Nat.reduceEqDiff, List.isPrefixOf, Bool.not_eq_true, Bool.and_false, Bool.false_and, Bool.true_or, Bool.or_true, decide_true, decide_false, Nat.reduceBEq, Nat.reduceBNe, List.replicate_succ, List.replicate_zero, exists_eq_left', exists_eq_left, Option.some.injEq, or_false, or_true, true_or, false_or, Option.map_some, Option.map_none , List.length_map, Int.toNat_natCast]
  refine ⟨by omega, by omega, by omega, ?_⟩
  refine loop_st (fun k : Nat => [.sl false 1 (xs.map (rI)), .undef, .undef, .sl true 1 ((xs.take k).map (rI) ++ List.replicate (xs.length - k) [D.v (.int .i64 0)]), .v (.int .i64 k), .undef, .undef, .undef, .undef, .undef, .undef, .undef, .undef, .undef, .undef, .undef, .undef, .undef, .undef, .undef, .undef, .undef]) (fun k => k ≤ xs.length) (fun k => xs.length - k) 0 (by repeat (first | exact nleL_nil | refine nleL_cons ?_ ?_ | exact nle_rfl _ | exact nle_nil | refine nle_box ?_ | refine nle_agg ?_ | refine nle_sl ?_ | exact nleLL_nil | refine nleLL_cons ?_ ?_ | exact nle_of_eq rfl)) (Nat.zero_le _) ?_
  intro k hk
  simp (disch := omega) only [go_sem, ↓reduceIte, List.getElem?_cons_succ, List.getElem?_cons_zero, List.set_cons_succ, List.set_cons_zero, List.map_cons, List.map_nil, List.length_cons, List.length_nil, List.all_cons, List.all_nil, List.drop_succ_cons, List.drop_zero, List.take_succ_cons, List.take_zero, List.flatMap_cons, List.flatMap_nil, List.cons_append, List.nil_append, List.append_nil, List.headD_cons, Value.oneCell', Bool.and_true, Bool.true_and, Bool.or_false, Bool.false_or, Bool.and_self, Bool.not_true, Bool.not_false, and_true, true_and, beq_self_eq_true, Bool.false_eq_true, if_true, if_false, Nat.zero_add, Nat.reduceAdd, Nat.reduceMul, Nat.reduceLeDiff, Nat.le_refl, Option.isSome_some, Option.isSome_none, not_true_eq_false, not_false_eq_true, ne_eq, reduceCtorEq, List.reverse_nil, bne_self_eq_false, Nat.reduceEqDiff, List.isPrefixOf, Bool.not_eq_true, Bool.and_false, Bool.false_and, Bool.true_or, Bool.or_true, decide_true, decide_false, Nat.reduceBEq, Nat.reduceBNe, List.replicate_succ, List.replicate_zero, exists_eq_left', exists_eq_left, Option.some.injEq, or_false, or_true, true_or, false_or, Option.map_some, Option.map_none , List.length_map, Int.toNat_natCast, Int.ofNat_lt, Int.natCast_nonneg, List.getElem?_map, Option.map_some]
  refine cond_split ?_ ?_ <;> intro hlt
  · have hlt : k < xs.length := by simpa using hlt
    have e1 := List.getElem?_eq_getElem hlt
    have g1 := fill_len xs (rI) [D.v (.int .i64 0)] k
    have g2 := fill_at xs (rI) [D.v (.int .i64 0)] k hlt
    have g3 := fill_next xs (rI) [D.v (.int .i64 0)] k hlt
    have g4 : k < ((xs.take k).map (rI) ++ List.replicate (xs.length - k) [D.v (.int .i64 0)]).length := by rw [g1]; exact hlt
    simp (disch := omega) only [go_sem, ↓reduceIte, List.getElem?_cons_succ, List.getElem?_cons_zero, List.set_cons_succ, List.set_cons_zero, List.map_cons, List.map_nil, List.length_cons, List.length_nil, List.all_cons, List.all_nil, List.drop_succ_cons, List.drop_zero, List.take_succ_cons, List.take_zero, List.flatMap_cons, List.flatMap_nil, List.cons_append, List.nil_append, List.append_nil, List.headD_cons, Value.oneCell', Bool.and_true, Bool.true_and, Bool.or_false, Bool.false_or, Bool.and_self, Bool.not_true, Bool.not_false, and_true, true_and, beq_self_eq_true, Bool.false_eq_true, if_true, if_false, Nat.zero_add, Nat.reduceAdd, Nat.reduceMul, Nat.reduceLeDiff, Nat.le_refl, Option.isSome_some, Option.isSome_none, not_true_eq_false, not_false_eq_true, ne_eq, reduceCtorEq, List.reverse_nil, bne_self_eq_false, Nat.reduceEqDiff, List.isPrefixOf, Bool.not_eq_true, Bool.and_false, Bool.false_and, Bool.true_or, Bool.or_true, decide_true, decide_false, Nat.reduceBEq, Nat.reduceBNe, List.replicate_succ, List.replicate_zero, exists_eq_left', exists_eq_left, Option.some.injEq, or_false, or_true, true_or, false_or, Option.map_some, Option.map_none , List.length_map, Int.toNat_natCast, Int.ofNat_lt, Int.natCast_nonneg, List.getElem?_map, Option.map_some, hlt, e1, g1, g2, List.set_set, List.getElem?_set_self g4, wrN]
    refine ⟨k + 1, by omega, hlt, ?_⟩
    rw [← g3]
    repeat (first | exact nleL_nil | refine nleL_cons ?_ ?_ | exact nle_rfl _ | exact nle_nil | refine nle_box ?_ | refine nle_agg ?_ | refine nle_sl ?_ | exact nleLL_nil | refine nleLL_cons ?_ ?_ | exact nle_of_eq rfl)
  · have hge : k = xs.length := by
      have : ¬ k < xs.length := by simpa using hlt
      omega
    subst hge
    simp (disch := omega) only [go_sem, ↓reduceIte, List.getElem?_cons_succ, List.getElem?_cons_zero, List.set_cons_succ, List.set_cons_zero, List.map_cons, List.map_nil, List.length_cons, List.length_nil, List.all_cons, List.all_nil, List.drop_succ_cons, List.drop_zero, List.take_succ_cons, List.take_zero, List.flatMap_cons, List.flatMap_nil, List.cons_append, List.nil_append, List.append_nil, List.headD_cons, Value.oneCell', Bool.and_true, Bool.true_and, Bool.or_false, Bool.false_or, Bool.and_self, Bool.not_true, Bool.not_false, and_true, true_and, beq_self_eq_true, Bool.false_eq_true, if_true, if_false, Nat.zero_add, Nat.reduceAdd, Nat.reduceMul, Nat.reduceLeDiff, Nat.le_refl, Option.isSome_some, Option.isSome_none, not_true_eq_false, not_false_eq_true, ne_eq, reduceCtorEq, List.reverse_nil, bne_self_eq_false, Nat.reduceEqDiff, List.isPrefixOf, Bool.not_eq_true, Bool.and_false, Bool.false_and, Bool.true_or, Bool.or_true, decide_true, decide_false, Nat.reduceBEq, Nat.reduceBNe, List.replicate_succ, List.replicate_zero, exists_eq_left', exists_eq_left, Option.some.injEq, or_false, or_true, true_or, false_or, Option.map_some, Option.map_none , fill_end]
/-- laws.toGlue -/
def code_laws_toGlue : VCode := (.seq (.ops [
  ⟨(some 1), none, (.box (.tmp 0))⟩,
  ⟨(some 2), none, (.alloc [(.string ⟨⟨[]⟩⟩), (.int .i64 0)])⟩]) (.seq (.ops [
  ⟨(some 3), none, (.alloc [(.string ⟨⟨[]⟩⟩), (.int .i64 0)])⟩]) (.seq (.ops [
  ⟨(some 4), none, (.fa 0 (.tmp 1))⟩,
  ⟨(some 5), none, (.load 1 false (.tmp 4))⟩,
  ⟨(some 6), none, (.fa 0 (.tmp 3))⟩,
  ⟨none, none, (.store 1 (.tmp 6) (.tmp 5))⟩]) (.seq (.ops [
  ⟨(some 7), none, (.fa 1 (.tmp 1))⟩,
  ⟨(some 8), none, (.load 1 false (.tmp 7))⟩,
  ⟨(some 9), none, (.fa 1 (.tmp 3))⟩,
  ⟨none, none, (.store 1 (.tmp 9) (.tmp 8))⟩]) (.seq (.ops [
  ⟨(some 10), none, (.load 2 true (.tmp 3))⟩,
  ⟨none, none, (.store 2 (.tmp 2) (.tmp 10))⟩]) .ret)))))
theorem law_laws_toGlue {a0 d : D} (h : code_laws_toGlue.wp (Contract Try.prog NoG) (endQ [(.c 2 2 true)] d) [a0, .undef, .undef, .undef, .undef, .undef, .undef, .undef, .undef, .undef, .undef]) : Contract Try.prog NoG 44 [a0] d :=
  contract_of noG Try.func44 (fun us W => by kernel_rfl) (c := Try.f44.body.getD .skip) (ms := []) (ms' := []) (by kernel_rfl) (by kernel_rfl) (by kernel_rfl) h
set_option maxHeartbeats 2000000 in
theorem v_toGlue (q : Glue) (hn : Glue.cnt q ≤ 1048576) : Contract Try.prog NoG 44 [.agg (Glue.td.d false q)] (.agg (Glue.td.d true q)) := by
  rw [Glue.td_d, Glue.td_d]
  refine law_laws_toGlue ?_
  unfold code_laws_toGlue
  have hn0 := hn
  unfold Glue.cnt at hn
  simp (disch := omega) only [go_sem, ↓reduceIte, List.getElem?_cons_succ, List.getElem?_cons_zero, List.set_cons_succ, List.set_cons_zero, List.map_cons, List.map_nil, List.length_cons, List.length_nil, List.all_cons, List.all_nil, List.drop_succ_cons, List.drop_zero, List.take_succ_cons, List.take_zero, List.flatMap_cons, List.flatMap_nil, List.cons_append, List.nil_append, List.append_nil, List.headD_cons, Value.oneCell', Bool.and_true, Bool.true_and, Bool.or_false, Bool.false_or, Bool.and_self, Bool.not_true, Bool.not_false, and_true, true_and, beq_self_eq_true, Bool.false_eq_true, if_true, if_false, Nat.zero_add, Nat.reduceAdd, Nat.reduceMul, Nat.reduceLeDiff, Nat.le_refl, Option.isSome_some, Option.isSome_none, not_true_eq_false, not_false_eq_true, ne_eq, reduceCtorEq, List.reverse_nil, bne_self_eq_false, Nat.reduceEqDiff, List.isPrefixOf, Bool.not_eq_true, Bool.and_false, Bool.false_and, Bool.true_or, Bool.or_true, decide_true, decide_false, Nat.reduceBEq, Nat.reduceBNe, List.replicate_succ, List.replicate_zero, exists_eq_left', exists_eq_left, Option.some.injEq, or_false, or_true, true_or, false_or, Option.map_some, Option.map_none]
abbrev mk_laws_toGlueS_0 : List Bool := [false, true, true, false, false, true, true, false, true, true, true, true, true, true, true, true, true, true, true, true, true, true, true]
/-- laws.toGlueS -/
def code_laws_toGlueS : VCode := (.seq (.ops [
  ⟨(some 2), none, (.asg (.const (.slice none 0 0)))⟩]) (.seq (.ops [
  ⟨(some 5), none, (.mv (.tmp 0))⟩,
  ⟨(some 6), none, (.len (.tmp 5))⟩,
  ⟨(some 7), none, (.mks 2 24 [(.string ⟨⟨[]⟩⟩), (.int .i64 0)] (.tmp 6) (.tmp 6))⟩,
  ⟨(some 3), none, (.asg (.tmp 7))⟩]) (.seq (.seq (.ops [
  ⟨(some 4), none, (.asg (.const (.int .i64 0)))⟩]) (.block 0 (.loop mk_laws_toGlueS_0 (.seq (.seq (.ops [
  ⟨(some 8), none, (.mv (.tmp 4))⟩,
  ⟨(some 9), none, (.mv (.tmp 0))⟩,
  ⟨(some 10), none, (.len (.tmp 9))⟩,
  ⟨(some 11), none, (.bin .lss (.tmp 8) (.tmp 10))⟩]) (.cond (.tmp 11) .skip (.exit 0))) (.seq (.block 1 (.ops [
  ⟨(some 14), none, (.mv (.tmp 3))⟩,
  ⟨(some 15), none, (.mv (.tmp 4))⟩,
  ⟨(some 16), none, (.mv (.tmp 0))⟩,
  ⟨(some 17), none, (.mv (.tmp 4))⟩,
  ⟨(some 18), none, (.ia 2 (.tmp 16) (.tmp 17))⟩,
  ⟨(some 19), none, (.load 2 true (.tmp 18))⟩,
  ⟨(some 20), none, (.call 44 [(.tmp 19)])⟩,
  ⟨(some 21), none, (.ia 2 (.tmp 14) (.tmp 15))⟩,
  ⟨none, none, (.store 2 (.tmp 21) (.tmp 20))⟩])) (.ops [
  ⟨(some 12), none, (.mv (.tmp 4))⟩,
  ⟨(some 13), none, (.bin .add (.tmp 12) (.const (.int .i64 1)))⟩,
  ⟨(some 4), none, (.asg (.tmp 13))⟩])))))) (.seq (.ops [
  ⟨(some 22), none, (.mv (.tmp 3))⟩,
  ⟨(some 2), none, (.asg (.tmp 22))⟩]) .ret))))
theorem law_laws_toGlueS {a0 d : D} (h : code_laws_toGlueS.wp (Contract Try.prog NoG) (endQ [(.t 2)] d) [a0, .undef, .undef, .undef, .undef, .undef, .undef, .undef, .undef, .undef, .undef, .undef, .undef, .undef, .undef, .undef, .undef, .undef, .undef, .undef, .undef, .undef, .undef]) : Contract Try.prog NoG 32 [a0] d :=
  contract_of noG Try.func32 (fun us W => by kernel_rfl) (c := Try.f32.body.getD .skip) (ms := [mk_laws_toGlueS_0]) (ms' := []) (by kernel_rfl) (by kernel_rfl) (by kernel_rfl) h
set_option maxHeartbeats 2000000 in
theorem v_toGlueS (xs : List Glue) (hn : cntL Glue.cnt xs ≤ 1048576) : Contract Try.prog NoG 32 [.sl false 2 (xs.map (Glue.td.d false))] (.sl true 2 (xs.map (Glue.td.d true))) := by
  have hl : xs.length ≤ 1048576 := by have := cntL_len Glue.cnt xs; omega
  refine law_laws_toGlueS ?_
  unfold code_laws_toGlueS
  simp (disch := omega) only [go_sem, ↓reduceIte, List.getElem?_cons_succ, List.getElem?_cons_zero, List.set_cons_succ, List.set_cons_zero, List.map_cons, List.map_nil, List.length_cons, List.length_nil, List.all_cons, List.all_nil, List.drop_succ_cons, List.drop_zero, List.take_succ_cons, List.take_zero, List.flatMap_cons, List.flatMap_nil, List.cons_append, List.nil_append, List.append_nil, List.headD_cons, Value.oneCell', Bool.and_true, Bool.true_and, Bool.or_false, Bool.false_or, Bool.and_self, Bool.not_true, Bool.not_false, and_true, true_and, beq_self_eq_true, Bool.false_eq_true, if_true, if_false, Nat.zero_add, Nat.reduceAdd, Nat.reduceMul, Nat.reduceLeDiff, Nat.le_refl, Option.isSome_some, Option.isSome_none, not_true_eq_false, not_false_eq_true, ne_eq, reduceCtorEq, List.reverse_nil, bne_self_eq_false, Nat.reduceEqDiff, List.isPrefixOf, Bool.not_eq_true, Bool.and_false, Bool.false_and, Bool.true_or, Bool.or_true, decide_true, decide_false, Nat.reduceBEq, Nat.reduceBNe, List.replicate_succ, List.replicate_zero, exists_eq_left', exists_eq_left, Option.some.injEq, or_false, or_true, true_or, false_or, Option.map_some, Option.map_none , List.length_map, Int.toNat_natCast]
  refine ⟨by omega, by omega, by omega, ?_⟩
  refine loop_st (fun k : Nat => [.sl false 2 (xs.map (Glue.td.d false)), .undef, .undef, .sl true 2 ((xs.take k).map (Glue.td.d true) ++ List.replicate (xs.length - k) [D.v (.string ⟨⟨[]⟩⟩), D.v (.int .i64 0)]), .v (.int .i64 k), .undef, .undef, .undef, .undef, .undef, .undef, .undef, .undef, .undef, .undef, .undef, .undef, .undef, .undef, .undef, .undef, .undef, .undef]) (fun k => k ≤ xs.length) (fun k => xs.length - k) 0 (by repeat (first | exact nleL_nil | refine nleL_cons ?_ ?_ | exact nle_rfl _ | exact nle_nil | refine nle_box ?_ | refine nle_agg ?_ | refine nle_sl ?_ | exact nleLL_nil | refine nleLL_cons ?_ ?_ | exact nle_of_eq rfl)) (Nat.zero_le _) ?_
  intro k hk
  simp (disch := omega) only [go_sem, ↓reduceIte, List.getElem?_cons_succ, List.getElem?_cons_zero, List.set_cons_succ, List.set_cons_zero, List.map_cons, List.map_nil, List.length_cons, List.length_nil, List.all_cons, List.all_nil, List.drop_succ_cons, List.drop_zero, List.take_succ_cons, List.take_zero, List.flatMap_cons, List.flatMap_nil, List.cons_append, List.nil_append, List.append_nil, List.headD_cons, Value.oneCell', Bool.and_true, Bool.true_and, Bool.or_false, Bool.false_or, Bool.and_self, Bool.not_true, Bool.not_false, and_true, true_and, beq_self_eq_true, Bool.false_eq_true, if_true, if_false, Nat.zero_add, Nat.reduceAdd, Nat.reduceMul, Nat.reduceLeDiff, Nat.le_refl, Option.isSome_some, Option.isSome_none, not_true_eq_false, not_false_eq_true, ne_eq, reduceCtorEq, List.reverse_nil, bne_self_eq_false, Nat.reduceEqDiff, List.isPrefixOf, Bool.not_eq_true, Bool.and_false, Bool.false_and, Bool.true_or, Bool.or_true, decide_true, decide_false, Nat.reduceBEq, Nat.reduceBNe, List.replicate_succ, List.replicate_zero, exists_eq_left', exists_eq_left, Option.some.injEq, or_false, or_true, true_or, false_or, Option.map_some, Option.map_none , List.length_map, Int.toNat_natCast, Int.ofNat_lt, Int.natCast_nonneg, List.getElem?_map, Option.map_some]
  refine cond_split ?_ ?_ <;> intro hlt
  · have hlt : k < xs.length := by simpa using hlt
    have e1 := List.getElem?_eq_getElem hlt
    have g1 := fill_len xs (Glue.td.d true) [D.v (.string ⟨⟨[]⟩⟩), D.v (.int .i64 0)] k
    have g2 := fill_at xs (Glue.td.d true) [D.v (.string ⟨⟨[]⟩⟩), D.v (.int .i64 0)] k hlt
    have g3 := fill_next xs (Glue.td.d true) [D.v (.string ⟨⟨[]⟩⟩), D.v (.int .i64 0)] k hlt
    have g4 : k < ((xs.take k).map (Glue.td.d true) ++ List.replicate (xs.length - k) [D.v (.string ⟨⟨[]⟩⟩), D.v (.int .i64 0)]).length := by rw [g1]; exact hlt
    have hm := cntL_mem Glue.cnt xs k hlt
    simp (disch := omega) only [go_sem, ↓reduceIte, List.getElem?_cons_succ, List.getElem?_cons_zero, List.set_cons_succ, List.set_cons_zero, List.map_cons, List.map_nil, List.length_cons, List.length_nil, List.all_cons, List.all_nil, List.drop_succ_cons, List.drop_zero, List.take_succ_cons, List.take_zero, List.flatMap_cons, List.flatMap_nil, List.cons_append, List.nil_append, List.append_nil, List.headD_cons, Value.oneCell', Bool.and_true, Bool.true_and, Bool.or_false, Bool.false_or, Bool.and_self, Bool.not_true, Bool.not_false, and_true, true_and, beq_self_eq_true, Bool.false_eq_true, if_true, if_false, Nat.zero_add, Nat.reduceAdd, Nat.reduceMul, Nat.reduceLeDiff, Nat.le_refl, Option.isSome_some, Option.isSome_none, not_true_eq_false, not_false_eq_true, ne_eq, reduceCtorEq, List.reverse_nil, bne_self_eq_false, Nat.reduceEqDiff, List.isPrefixOf, Bool.not_eq_true, Bool.and_false, Bool.false_and, Bool.true_or, Bool.or_true, decide_true, decide_false, Nat.reduceBEq, Nat.reduceBNe, List.replicate_succ, List.replicate_zero, exists_eq_left', exists_eq_left, Option.some.injEq, or_false, or_true, true_or, false_or, Option.map_some, Option.map_none , List.length_map, Int.toNat_natCast, Int.ofNat_lt, Int.natCast_nonneg, List.getElem?_map, Option.map_some, hlt, e1, g1, g2, List.set_set, List.getElem?_set_self g4, wrN, Glue.td_d]
    refine call_le (v_toGlue xs[k] (by omega)) (by repeat (first | exact leL_nil | refine leL_cons ?_ ?_ | exact le_of_eq rfl | exact le_slf rfl (by first | rfl | exact TD.rows _ _ _ | exact immLL_rI _ | exact immLL_rB8 _ | exact immLL_rS _ | exact immLL_rBo _) | refine le_agg ?_ | refine le_iptr ?_ | refine le_fn ?_ ?_)) (by first | exact .inl rfl | exact .inl (by simp only [D.noImm, noImmL, Bool.and_true, Bool.true_and, TD.nims, TD.nim, nim_rI, nim_rB8, nim_rBo, nim_rS])) ?_
    simp (disch := omega) only [go_sem, ↓reduceIte, List.getElem?_cons_succ, List.getElem?_cons_zero, List.set_cons_succ, List.set_cons_zero, List.map_cons, List.map_nil, List.length_cons, List.length_nil, List.all_cons, List.all_nil, List.drop_succ_cons, List.drop_zero, List.take_succ_cons, List.take_zero, List.flatMap_cons, List.flatMap_nil, List.cons_append, List.nil_append, List.append_nil, List.headD_cons, Value.oneCell', Bool.and_true, Bool.true_and, Bool.or_false, Bool.false_or, Bool.and_self, Bool.not_true, Bool.not_false, and_true, true_and, beq_self_eq_true, Bool.false_eq_true, if_true, if_false, Nat.zero_add, Nat.reduceAdd, Nat.reduceMul, Nat.reduceLeDiff, Nat.le_refl, Option.isSome_some, Option.isSome_none, not_true_eq_false, not_false_eq_true, ne_eq, reduceCtorEq, List.reverse_nil, bne_self_eq_false, Nat.reduceEqDiff, List.isPrefixOf, Bool.not_eq_true, Bool.and_false, Bool.false_and, Bool.true_or, Bool.or_true, decide_true, decide_false, Nat.reduceBEq, Nat.reduceBNe, List.replicate_succ, List.replicate_zero, exists_eq_left', exists_eq_left, Option.some.injEq, or_false, or_true, true_or, false_or, Option.map_some, Option.map_none , List.length_map, Int.toNat_natCast, Int.ofNat_lt, Int.natCast_nonneg, List.getElem?_map, Option.map_some, hlt, e1, g1, g2, List.set_set, List.getElem?_set_self g4, wrN, Glue.td_d]
    refine ⟨k + 1, by omega, hlt, ?_⟩
    rw [← g3]
    rw [Glue.td_d]
    repeat (first | exact nleL_nil | refine nleL_cons ?_ ?_ | exact nle_rfl _ | exact nle_nil | refine nle_box ?_ | refine nle_agg ?_ | refine nle_sl ?_ | exact nleLL_nil | refine nleLL_cons ?_ ?_ | exact nle_of_eq rfl)
  · have hge : k = xs.length := by
      have : ¬ k < xs.length := by simpa using hlt
      omega
    subst hge
    simp (disch := omega) only [go_sem, ↓reduceIte, List.getElem?_cons_succ, List.getElem?_cons_zero, List.set_cons_succ, List.set_cons_zero, List.map_cons, List.map_nil, List.length_cons, List.length_nil, List.all_cons, List.all_nil, List.drop_succ_cons, List.drop_zero, List.take_succ_cons, List.take_zero, List.flatMap_cons, List.flatMap_nil, List.cons_append, List.nil_append, List.append_nil, List.headD_cons, Value.oneCell', Bool.and_true, Bool.true_and, Bool.or_false, Bool.false_or, Bool.and_self, Bool.not_true, Bool.not_false, and_true, true_and, beq_self_eq_true, Bool.false_eq_true, if_true, if_false, Nat.zero_add, Nat.reduceAdd, Nat.reduceMul, Nat.reduceLeDiff, Nat.le_refl, Option.isSome_some, Option.isSome_none, not_true_eq_false, not_false_eq_true, ne_eq, reduceCtorEq, List.reverse_nil, bne_self_eq_false, Nat.reduceEqDiff, List.isPrefixOf, Bool.not_eq_true, Bool.and_false, Bool.false_and, Bool.true_or, Bool.or_true, decide_true, decide_false, Nat.reduceBEq, Nat.reduceBNe, List.replicate_succ, List.replicate_zero, exists_eq_left', exists_eq_left, Option.some.injEq, or_false, or_true, true_or, false_or, Option.map_some, Option.map_none , fill_end]
/-- laws.toTile -/
def code_laws_toTile : VCode := (.seq (.ops [
  ⟨(some 1), none, (.box (.tmp 0))⟩,
  ⟨(some 2), none, (.alloc [(.string ⟨⟨[]⟩⟩), (.slice none 0 0)])⟩]) (.seq (.ops [
  ⟨(some 3), none, (.alloc [(.string ⟨⟨[]⟩⟩), (.slice none 0 0)])⟩]) (.seq (.ops [
  ⟨(some 4), none, (.fa 0 (.tmp 1))⟩,
  ⟨(some 5), none, (.load 1 false (.tmp 4))⟩,
  ⟨(some 6), none, (.fa 0 (.tmp 3))⟩,
  ⟨none, none, (.store 1 (.tmp 6) (.tmp 5))⟩]) (.seq (.ops [
  ⟨(some 7), none, (.fa 1 (.tmp 1))⟩,
  ⟨(some 8), none, (.load 1 false (.tmp 7))⟩,
  ⟨(some 9), none, (.call 14 [(.tmp 8)])⟩,
  ⟨(some 10), none, (.fa 1 (.tmp 3))⟩,
  ⟨none, none, (.store 1 (.tmp 10) (.tmp 9))⟩]) (.seq (.ops [
  ⟨(some 11), none, (.load 2 true (.tmp 3))⟩,
  ⟨none, none, (.store 2 (.tmp 2) (.tmp 11))⟩]) .ret)))))
theorem law_laws_toTile {a0 d : D} (h : code_laws_toTile.wp (Contract Try.prog NoG) (endQ [(.c 2 2 true)] d) [a0, .undef, .undef, .undef, .undef, .undef, .undef, .undef, .undef, .undef, .undef, .undef]) : Contract Try.prog NoG 45 [a0] d :=
  contract_of noG Try.func45 (fun us W => by kernel_rfl) (c := Try.f45.body.getD .skip) (ms := []) (ms' := []) (by kernel_rfl) (by kernel_rfl) (by kernel_rfl) h
set_option maxHeartbeats 2000000 in
theorem v_toTile (q : Tile) (hn : Tile.cnt q ≤ 1048576) : Contract Try.prog NoG 45 [.agg (Tile.td.d false q)] (.agg (Tile.td.d true q)) := by
  rw [Tile.td_d, Tile.td_d]
  refine law_laws_toTile ?_
  unfold code_laws_toTile
  have hn0 := hn
  unfold Tile.cnt at hn
  simp (disch := omega) only [go_sem, ↓reduceIte, List.getElem?_cons_succ, List.getElem?_cons_zero, List.set_cons_succ, List.set_cons_zero, List.map_cons, List.map_nil, List.length_cons, List.length_nil, List.all_cons, List.all_nil, List.drop_succ_cons, List.drop_zero, List.take_succ_cons, List.take_zero, List.flatMap_cons, List.flatMap_nil, List.cons_append, List.nil_append, List.append_nil, List.headD_cons, Value.oneCell', Bool.and_true, Bool.true_and, Bool.or_false, Bool.false_or, Bool.and_self, Bool.not_true, Bool.not_false, and_true, true_and, beq_self_eq_true, Bool.false_eq_true, if_true, if_false, Nat.zero_add, Nat.reduceAdd, Nat.reduceMul, Nat.reduceLeDiff, Nat.le_refl, Option.isSome_some, Option.isSome_none, not_true_eq_false, not_false_eq_true, ne_eq, reduceCtorEq, List.reverse_nil, bne_self_eq_false, Nat.reduceEqDiff, List.isPrefixOf, Bool.not_eq_true, Bool.and_false, Bool.false_and, Bool.true_or, Bool.or_true, decide_true, decide_false, Nat.reduceBEq, Nat.reduceBNe, List.replicate_succ, List.replicate_zero, exists_eq_left', exists_eq_left, Option.some.injEq, or_false, or_true, true_or, false_or, Option.map_some, Option.map_none]
  refine call_le (v_toInt64S q.Sides (by omega)) (by repeat (first | exact leL_nil | refine leL_cons ?_ ?_ | exact le_of_eq rfl | exact le_slf rfl (by first | rfl | exact TD.rows _ _ _ | exact immLL_rI _ | exact immLL_rB8 _ | exact immLL_rS _ | exact immLL_rBo _) | refine le_agg ?_ | refine le_iptr ?_ | refine le_fn ?_ ?_)) (by first | exact .inl rfl | exact .inl (by simp only [D.noImm, noImmL, Bool.and_true, Bool.true_and, TD.nims, TD.nim, nim_rI, nim_rB8, nim_rBo, nim_rS])) ?_
  simp (disch := omega) only [go_sem, ↓reduceIte, List.getElem?_cons_succ, List.getElem?_cons_zero, List.set_cons_succ, List.set_cons_zero, List.map_cons, List.map_nil, List.length_cons, List.length_nil, List.all_cons, List.all_nil, List.drop_succ_cons, List.drop_zero, List.take_succ_cons, List.take_zero, List.flatMap_cons, List.flatMap_nil, List.cons_append, List.nil_append, List.append_nil, List.headD_cons, Value.oneCell', Bool.and_true, Bool.true_and, Bool.or_false, Bool.false_or, Bool.and_self, Bool.not_true, Bool.not_false, and_true, true_and, beq_self_eq_true, Bool.false_eq_true, if_true, if_false, Nat.zero_add, Nat.reduceAdd, Nat.reduceMul, Nat.reduceLeDiff, Nat.le_refl, Option.isSome_some, Option.isSome_none, not_true_eq_false, not_false_eq_true, ne_eq, reduceCtorEq, List.reverse_nil, bne_self_eq_false, Nat.reduceEqDiff, List.isPrefixOf, Bool.not_eq_true, Bool.and_false, Bool.false_and, Bool.true_or, Bool.or_true, decide_true, decide_false, Nat.reduceBEq, Nat.reduceBNe, List.replicate_succ, List.replicate_zero, exists_eq_left', exists_eq_left, Option.some.injEq, or_false, or_true, true_or, false_or, Option.map_some, Option.map_none]
abbrev mk_laws_toTileS_0 : List Bool := [false, true, true, false, false, true, true, false, true, true, true, true, true, true, true, true, true, true, true, true, true, true, true]
/-- laws.toTileS -/
def code_laws_toTileS : VCode := (.seq (.ops [
  ⟨(some 2), none, (.asg (.const (.slice none 0 0)))⟩]) (.seq (.ops [
  ⟨(some 5), none, (.mv (.tmp 0))⟩,
  ⟨(some 6), none, (.len (.tmp 5))⟩,
  ⟨(some 7), none, (.mks 2 40 [(.string ⟨⟨[]⟩⟩), (.slice none 0 0)] (.tmp 6) (.tmp 6))⟩,
  ⟨(some 3), none, (.asg (.tmp 7))⟩]) (.seq (.seq (.ops [
  ⟨(some 4), none, (.asg (.const (.int .i64 0)))⟩]) (.block 0 (.loop mk_laws_toTileS_0 (.seq (.seq (.ops [
  ⟨(some 8), none, (.mv (.tmp 4))⟩,
  ⟨(some 9), none, (.mv (.tmp 0))⟩,
  ⟨(some 10), none, (.len (.tmp 9))⟩,
  ⟨(some 11), none, (.bin .lss (.tmp 8) (.tmp 10))⟩]) (.cond (.tmp 11) .skip (.exit 0))) (.seq (.block 1 (.ops [
  ⟨(some 14), none, (.mv (.tmp 3))⟩,
  ⟨(some 15), none, (.mv (.tmp 4))⟩,
  ⟨(some 16), none, (.mv (.tmp 0))⟩,
  ⟨(some 17), none, (.mv (.tmp 4))⟩,
  ⟨(some 18), none, (.ia 2 (.tmp 16) (.tmp 17))⟩,
  ⟨(some 19), none, (.load 2 true (.tmp 18))⟩,
  ⟨(some 20), none, (.call 45 [(.tmp 19)])⟩,
  ⟨(some 21), none, (.ia 2 (.tmp 14) (.tmp 15))⟩,
  ⟨none, none, (.store 2 (.tmp 21) (.tmp 20))⟩])) (.ops [
  ⟨(some 12), none, (.mv (.tmp 4))⟩,
  ⟨(some 13), none, (.bin .add (.tmp 12) (.const (.int .i64 1)))⟩,
  ⟨(some 4), none, (.asg (.tmp 13))⟩])))))) (.seq (.ops [
  ⟨(some 22), none, (.mv (.tmp 3))⟩,
  ⟨(some 2), none, (.asg (.tmp 22))⟩]) .ret))))
theorem law_laws_toTileS {a0 d : D} (h : code_laws_toTileS.wp (Contract Try.prog NoG) (endQ [(.t 2)] d) [a0, .undef, .undef, .undef, .undef, .undef, .undef, .undef, .undef, .undef, .undef, .undef, .undef, .undef, .undef, .undef, .undef, .undef, .undef, .undef, .undef, .undef, .undef]) : Contract Try.prog NoG 33 [a0] d :=
  contract_of noG Try.func33 (fun us W => by kernel_rfl) (c := Try.f33.body.getD .skip) (ms := [mk_laws_toTileS_0]) (ms' := []) (by kernel_rfl) (by kernel_rfl) (by kernel_rfl) h
set_option maxHeartbeats 2000000 in
theorem v_toTileS (xs : List Tile) (hn : cntL Tile.cnt xs ≤ 1048576) : Contract Try.prog NoG 33 [.sl false 2 (xs.map (Tile.td.d false))] (.sl true 2 (xs.map (Tile.td.d true))) := by
  have hl : xs.length ≤ 1048576 := by have := cntL_len Tile.cnt xs; omega
  refine law_laws_toTileS ?_
  unfold code_laws_toTileS
  simp (disch := omega) only [go_sem, ↓reduceIte, List.getElem?_cons_succ, List.getElem?_cons_zero, List.set_cons_succ, List.set_cons_zero, List.map_cons, List.map_nil, List.length_cons, List.length_nil, List.all_cons, List.all_nil, List.drop_succ_cons, List.drop_zero, List.take_succ_cons, List.take_zero, List.flatMap_cons, List.flatMap_nil, List.cons_append, List.nil_append, List.append_nil, List.headD_cons, Value.oneCell', Bool.and_true, Bool.true_and, Bool.or_false, Bool.false_or, Bool.and_self, Bool.not_true, Bool.not_false, and_true, true_and, beq_self_eq_true, Bool.false_eq_true, if_true, if_false, Nat.zero_add, Nat.reduceAdd, Nat.reduceMul, Nat.reduceLeDiff, Nat.le_refl, Option.isSome_some, Option.isSome_none, not_true_eq_false, not_false_eq_true, ne_eq, reduceCtorEq, List.reverse_nil, bne_self_eq_false, Nat.reduceEqDiff, List.isPrefixOf, Bool.not_eq_true, Bool.and_false, Bool.false_and, Bool.true_or, Bool.or_true, decide_true, decide_false, Nat.reduceBEq, Nat.reduceBNe, List.replicate_succ, List.replicate_zero, exists_eq_left', exists_eq_left, Option.some.injEq, or_false, or_true, true_or, false_or, Option.map_some, Option.map_none , List.length_map, Int.toNat_natCast]
  refine ⟨by omega, by omega, by omega, ?_⟩
  refine loop_st (fun k : Nat => [.sl false 2 (xs.map (Tile.td.d false)), .undef, .undef, .sl true 2 ((xs.take k).map (Tile.td.d true) ++ List.replicate (xs.length - k) [D.v (.string ⟨⟨[]⟩⟩), D.nils]), .v (.int .i64 k), .undef, .undef, .undef, .undef, .undef, .undef, .undef, .undef, .undef, .undef, .undef, .undef, .undef, .undef, .undef, .undef, .undef, .undef]) (fun k => k ≤ xs.length) (fun k => xs.length - k) 0 (by repeat (first | exact nleL_nil | refine nleL_cons ?_ ?_ | exact nle_rfl _ | exact nle_nil | refine nle_box ?_ | refine nle_agg ?_ | refine nle_sl ?_ | exact nleLL_nil | refine nleLL_cons ?_ ?_ | exact nle_of_eq rfl)) (Nat.zero_le _) ?_
  intro k hk
  simp (disch := omega) only [go_sem, ↓reduceIte, List.getElem?_cons_succ, List.getElem?_cons_zero, List.set_cons_succ, List.set_cons_zero, List.map_cons, List.map_nil, List.length_cons, List.length_nil, List.all_cons, List.all_nil, List.drop_succ_cons, List.drop_zero, List.take_succ_cons, List.take_zero, List.flatMap_cons, List.flatMap_nil, List.cons_append, List.nil_append, List.append_nil, List.headD_cons, Value.oneCell', Bool.and_true, Bool.true_and, Bool.or_false, Bool.false_or, Bool.and_self, Bool.not_true, Bool.not_false, and_true, true_and, beq_self_eq_true, Bool.false_eq_true, if_true, if_false, Nat.zero_add, Nat.reduceAdd, Nat.reduceMul, Nat.reduceLeDiff, Nat.le_refl, Option.isSome_some, Option.isSome_none, not_true_eq_false, not_false_eq_true, ne_eq, reduceCtorEq, List.reverse_nil, bne_self_eq_false, Nat.reduceEqDiff, List.isPrefixOf, Bool.not_eq_true, Bool.and_false, Bool.false_and, Bool.true_or, Bool.or_true, decide_true, decide_false, Nat.reduceBEq, Nat.reduceBNe, List.replicate_succ, List.replicate_zero, exists_eq_left', exists_eq_left, Option.some.injEq, or_false, or_true, true_or, false_or, Option.map_some, Option.map_none , List.length_map, Int.toNat_natCast, Int.ofNat_lt, Int.natCast_nonneg, List.getElem?_map, Option.map_some]
  refine cond_split ?_ ?_ <;> intro hlt
  · have hlt : k < xs.length := by simpa using hlt
    have e1 := List.getElem?_eq_getElem hlt
    have g1 := fill_len xs (Tile.td.d true) [D.v (.string ⟨⟨[]⟩⟩), D.nils] k
    have g2 := fill_at xs (Tile.td.d true) [D.v (.string ⟨⟨[]⟩⟩), D.nils] k hlt
    have g3 := fill_next xs (Tile.td.d true) [D.v (.string ⟨⟨[]⟩⟩), D.nils] k hlt
    have g4 : k < ((xs.take k).map (Tile.td.d true) ++ List.replicate (xs.length - k) [D.v (.string ⟨⟨[]⟩⟩), D.nils]).length := by rw [g1]; exact hlt
    have hm := cntL_mem Tile.cnt xs k hlt
    simp (disch := omega) only [go_sem, ↓reduceIte, List.getElem?_cons_succ, List.getElem?_cons_zero, List.set_cons_succ, List.set_cons_zero, List.map_cons, List.map_nil, List.length_cons, List.length_nil, List.all_cons, List.all_nil, List.drop_succ_cons, List.drop_zero, List.take_succ_cons, List.take_zero, List.flatMap_cons, List.flatMap_nil, List.cons_append, List.nil_append, List.append_nil, List.headD_cons, Value.oneCell', Bool.and_true, Bool.true_and, Bool.or_false, Bool.false_or, Bool.and_self, Bool.not_true, Bool.not_false, and_true, true_and, beq_self_eq_true, Bool.false_eq_true, if_true, if_false, Nat.zero_add, Nat.reduceAdd, Nat.reduceMul, Nat.reduceLeDiff, Nat.le_refl, Option.isSome_some, Option.isSome_none, not_true_eq_false, not_false_eq_true, ne_eq, reduceCtorEq, List.reverse_nil, bne_self_eq_false, Nat.reduceEqDiff, List.isPrefixOf, Bool.not_eq_true, Bool.and_false, Bool.false_and, Bool.true_or, Bool.or_true, decide_true, decide_false, Nat.reduceBEq, Nat.reduceBNe, List.replicate_succ, List.replicate_zero, exists_eq_left', exists_eq_left, Option.some.injEq, or_false, or_true, true_or, false_or, Option.map_some, Option.map_none , List.length_map, Int.toNat_natCast, Int.ofNat_lt, Int.natCast_nonneg, List.getElem?_map, Option.map_some, hlt, e1, g1, g2, List.set_set, List.getElem?_set_self g4, wrN, Tile.td_d]
    refine call_le (v_toTile xs[k] (by omega)) (by repeat (first | exact leL_nil | refine leL_cons ?_ ?_ | exact le_of_eq rfl | exact le_slf rfl (by first | rfl | exact TD.rows _ _ _ | exact immLL_rI _ | exact immLL_rB8 _ | exact immLL_rS _ | exact immLL_rBo _) | refine le_agg ?_ | refine le_iptr ?_ | refine le_fn ?_ ?_)) (by first | exact .inl rfl | exact .inl (by simp only [D.noImm, noImmL, Bool.and_true, Bool.true_and, TD.nims, TD.nim, nim_rI, nim_rB8, nim_rBo, nim_rS])) ?_
    simp (disch := omega) only [go_sem, ↓reduceIte, List.getElem?_cons_succ, List.getElem?_cons_zero, List.set_cons_succ, List.set_cons_zero, List.map_cons, List.map_nil, List.length_cons, List.length_nil, List.all_cons, List.all_nil, List.drop_succ_cons, List.drop_zero, List.take_succ_cons, List.take_zero, List.flatMap_cons, List.flatMap_nil, List.cons_append, List.nil_append, List.append_nil, List.headD_cons, Value.oneCell', Bool.and_true, Bool.true_and, Bool.or_false, Bool.false_or, Bool.and_self, Bool.not_true, Bool.not_false, and_true, true_and, beq_self_eq_true, Bool.false_eq_true, if_true, if_false, Nat.zero_add, Nat.reduceAdd, Nat.reduceMul, Nat.reduceLeDiff, Nat.le_refl, Option.isSome_some, Option.isSome_none, not_true_eq_false, not_false_eq_true, ne_eq, reduceCtorEq, List.reverse_nil, bne_self_eq_false, Nat.reduceEqDiff, List.isPrefixOf, Bool.not_eq_true, Bool.and_false, Bool.false_and, Bool.true_or, Bool.or_true, decide_true, decide_false, Nat.reduceBEq, Nat.reduceBNe, List.replicate_succ, List.replicate_zero, exists_eq_left', exists_eq_left, Option.some.injEq, or_false, or_true, true_or, false_or, Option.map_some, Option.map_none , List.length_map, Int.toNat_natCast, Int.ofNat_lt, Int.natCast_nonneg, List.getElem?_map, Option.map_some, hlt, e1, g1, g2, List.set_set, List.getElem?_set_self g4, wrN, Tile.td_d]
    refine ⟨k + 1, by omega, hlt, ?_⟩
    rw [← g3]
    rw [Tile.td_d]
    repeat (first | exact nleL_nil | refine nleL_cons ?_ ?_ | exact nle_rfl _ | exact nle_nil | refine nle_box ?_ | refine nle_agg ?_ | refine nle_sl ?_ | exact nleLL_nil | refine nleLL_cons ?_ ?_ | exact nle_of_eq rfl)
  · have hge : k = xs.length := by
      have : ¬ k < xs.length := by simpa using hlt
      omega
    subst hge
    simp (disch := omega) only [go_sem, ↓reduceIte, List.getElem?_cons_succ, List.getElem?_cons_zero, List.set_cons_succ, List.set_cons_zero, List.map_cons, List.map_nil, List.length_cons, List.length_nil, List.all_cons, List.all_nil, List.drop_succ_cons, List.drop_zero, List.take_succ_cons, List.take_zero, List.flatMap_cons, List.flatMap_nil, List.cons_append, List.nil_append, List.append_nil, List.headD_cons, Value.oneCell', Bool.and_true, Bool.true_and, Bool.or_false, Bool.false_or, Bool.and_self, Bool.not_true, Bool.not_false, and_true, true_and, beq_self_eq_true, Bool.false_eq_true, if_true, if_false, Nat.zero_add, Nat.reduceAdd, Nat.reduceMul, Nat.reduceLeDiff, Nat.le_refl, Option.isSome_some, Option.isSome_none, not_true_eq_false, not_false_eq_true, ne_eq, reduceCtorEq, List.reverse_nil, bne_self_eq_false, Nat.reduceEqDiff, List.isPrefixOf, Bool.not_eq_true, Bool.and_false, Bool.false_and, Bool.true_or, Bool.or_true, decide_true, decide_false, Nat.reduceBEq, Nat.reduceBNe, List.replicate_succ, List.replicate_zero, exists_eq_left', exists_eq_left, Option.some.injEq, or_false, or_true, true_or, false_or, Option.map_some, Option.map_none , fill_end]
/-- laws.toTileSet -/
def code_laws_toTileSet : VCode := (.seq (.ops [
  ⟨(some 1), none, (.box (.tmp 0))⟩,
  ⟨(some 2), none, (.alloc [(.slice none 0 0), (.slice none 0 0)])⟩]) (.seq (.ops [
  ⟨(some 3), none, (.alloc [(.slice none 0 0), (.slice none 0 0)])⟩]) (.seq (.ops [
  ⟨(some 4), none, (.fa 0 (.tmp 1))⟩,
  ⟨(some 5), none, (.load 1 false (.tmp 4))⟩,
  ⟨(some 6), none, (.call 32 [(.tmp 5)])⟩,
  ⟨(some 7), none, (.fa 0 (.tmp 3))⟩,
  ⟨none, none, (.store 1 (.tmp 7) (.tmp 6))⟩]) (.seq (.ops [
  ⟨(some 8), none, (.fa 1 (.tmp 1))⟩,
  ⟨(some 9), none, (.load 1 false (.tmp 8))⟩,
  ⟨(some 10), none, (.call 33 [(.tmp 9)])⟩,
  ⟨(some 11), none, (.fa 1 (.tmp 3))⟩,
  ⟨none, none, (.store 1 (.tmp 11) (.tmp 10))⟩]) (.seq (.ops [
  ⟨(some 12), none, (.load 2 true (.tmp 3))⟩,
  ⟨none, none, (.store 2 (.tmp 2) (.tmp 12))⟩]) .ret)))))
theorem law_laws_toTileSet {a0 d : D} (h : code_laws_toTileSet.wp (Contract Try.prog NoG) (endQ [(.c 2 2 true)] d) [a0, .undef, .undef, .undef, .undef, .undef, .undef, .undef, .undef, .undef, .undef, .undef, .undef]) : Contract Try.prog NoG 23 [a0] d :=
  contract_of noG Try.func23 (fun us W => by kernel_rfl) (c := Try.f23.body.getD .skip) (ms := []) (ms' := []) (by kernel_rfl) (by kernel_rfl) (by kernel_rfl) h
set_option maxHeartbeats 2000000 in
theorem v_toTileSet (q : TileSet) (hn : TileSet.cnt q ≤ 1048576) : Contract Try.prog NoG 23 [.agg (TileSet.td.d false q)] (.agg (TileSet.td.d true q)) := by
  rw [TileSet.td_d, TileSet.td_d]
  refine law_laws_toTileSet ?_
  unfold code_laws_toTileSet
  have hn0 := hn
  unfold TileSet.cnt at hn
  simp (disch := omega) only [go_sem, ↓reduceIte, List.getElem?_cons_succ, List.getElem?_cons_zero, List.set_cons_succ, List.set_cons_zero, List.map_cons, List.map_nil, List.length_cons, List.length_nil, List.all_cons, List.all_nil, List.drop_succ_cons, List.drop_zero, List.take_succ_cons, List.take_zero, List.flatMap_cons, List.flatMap_nil, List.cons_append, List.nil_append, List.append_nil, List.headD_cons, Value.oneCell', Bool.and_true, Bool.true_and, Bool.or_false, Bool.false_or, Bool.and_self, Bool.not_true, Bool.not_false, and_true, true_and, beq_self_eq_true, Bool.false_eq_true, if_true, if_false, Nat.zero_add, Nat.reduceAdd, Nat.reduceMul, Nat.reduceLeDiff, Nat.le_refl, Option.isSome_some, Option.isSome_none, not_true_eq_false, not_false_eq_true, ne_eq, reduceCtorEq, List.reverse_nil, bne_self_eq_false, Nat.reduceEqDiff, List.isPrefixOf, Bool.not_eq_true, Bool.and_false, Bool.false_and, Bool.true_or, Bool.or_true, decide_true, decide_false, Nat.reduceBEq, Nat.reduceBNe, List.replicate_succ, List.replicate_zero, exists_eq_left', exists_eq_left, Option.some.injEq, or_false, or_true, true_or, false_or, Option.map_some, Option.map_none]
  refine call_le (v_toGlueS q.Glues (by omega)) (by repeat (first | exact leL_nil | refine leL_cons ?_ ?_ | exact le_of_eq rfl | exact le_slf rfl (by first | rfl | exact TD.rows _ _ _ | exact immLL_rI _ | exact immLL_rB8 _ | exact immLL_rS _ | exact immLL_rBo _) | refine le_agg ?_ | refine le_iptr ?_ | refine le_fn ?_ ?_)) (by first | exact .inl rfl | exact .inl (by simp only [D.noImm, noImmL, Bool.and_true, Bool.true_and, TD.nims, TD.nim, nim_rI, nim_rB8, nim_rBo, nim_rS])) ?_
  simp (disch := omega) only [go_sem, ↓reduceIte, List.getElem?_cons_succ, List.getElem?_cons_zero, List.set_cons_succ, List.set_cons_zero, List.map_cons, List.map_nil, List.length_cons, List.length_nil, List.all_cons, List.all_nil, List.drop_succ_cons, List.drop_zero, List.take_succ_cons, List.take_zero, List.flatMap_cons, List.flatMap_nil, List.cons_append, List.nil_append, List.append_nil, List.headD_cons, Value.oneCell', Bool.and_true, Bool.true_and, Bool.or_false, Bool.false_or, Bool.and_self, Bool.not_true, Bool.not_false, and_true, true_and, beq_self_eq_true, Bool.false_eq_true, if_true, if_false, Nat.zero_add, Nat.reduceAdd, Nat.reduceMul, Nat.reduceLeDiff, Nat.le_refl, Option.isSome_some, Option.isSome_none, not_true_eq_false, not_false_eq_true, ne_eq, reduceCtorEq, List.reverse_nil, bne_self_eq_false, Nat.reduceEqDiff, List.isPrefixOf, Bool.not_eq_true, Bool.and_false, Bool.false_and, Bool.true_or, Bool.or_true, decide_true, decide_false, Nat.reduceBEq, Nat.reduceBNe, List.replicate_succ, List.replicate_zero, exists_eq_left', exists_eq_left, Option.some.injEq, or_false, or_true, true_or, false_or, Option.map_some, Option.map_none]
  refine call_le (v_toTileS q.Tiles (by omega)) (by repeat (first | exact leL_nil | refine leL_cons ?_ ?_ | exact le_of_eq rfl | exact le_slf rfl (by first | rfl | exact TD.rows _ _ _ | exact immLL_rI _ | exact immLL_rB8 _ | exact immLL_rS _ | exact immLL_rBo _) | refine le_agg ?_ | refine le_iptr ?_ | refine le_fn ?_ ?_)) (by first | exact .inl rfl | exact .inl (by simp only [D.noImm, noImmL, Bool.and_true, Bool.true_and, TD.nims, TD.nim, nim_rI, nim_rB8, nim_rBo, nim_rS])) ?_
  simp (disch := omega) only [go_sem, ↓reduceIte, List.getElem?_cons_succ, List.getElem?_cons_zero, List.set_cons_succ, List.set_cons_zero, List.map_cons, List.map_nil, List.length_cons, List.length_nil, List.all_cons, List.all_nil, List.drop_succ_cons, List.drop_zero, List.take_succ_cons, List.take_zero, List.flatMap_cons, List.flatMap_nil, List.cons_append, List.nil_append, List.append_nil, List.headD_cons, Value.oneCell', Bool.and_true, Bool.true_and, Bool.or_false, Bool.false_or, Bool.and_self, Bool.not_true, Bool.not_false, and_true, true_and, beq_self_eq_true, Bool.false_eq_true, if_true, if_false, Nat.zero_add, Nat.reduceAdd, Nat.reduceMul, Nat.reduceLeDiff, Nat.le_refl, Option.isSome_some, Option.isSome_none, not_true_eq_false, not_false_eq_true, ne_eq, reduceCtorEq, List.reverse_nil, bne_self_eq_false, Nat.reduceEqDiff, List.isPrefixOf, Bool.not_eq_true, Bool.and_false, Bool.false_and, Bool.true_or, Bool.or_true, decide_true, decide_false, Nat.reduceBEq, Nat.reduceBNe, List.replicate_succ, List.replicate_zero, exists_eq_left', exists_eq_left, Option.some.injEq, or_false, or_true, true_or, false_or, Option.map_some, Option.map_none]
/-- laws.toPoint -/
def code_laws_toPoint : VCode := (.seq (.ops [
  ⟨(some 1), none, (.box (.tmp 0))⟩,
  ⟨(some 2), none, (.alloc [(.int .i64 0), (.int .i64 0)])⟩]) (.seq (.ops [
  ⟨(some 3), none, (.alloc [(.int .i64 0), (.int .i64 0)])⟩]) (.seq (.ops [
  ⟨(some 4), none, (.fa 0 (.tmp 1))⟩,
  ⟨(some 5), none, (.load 1 false (.tmp 4))⟩,
  ⟨(some 6), none, (.fa 0 (.tmp 3))⟩,
  ⟨none, none, (.store 1 (.tmp 6) (.tmp 5))⟩]) (.seq (.ops [
  ⟨(some 7), none, (.fa 1 (.tmp 1))⟩,
  ⟨(some 8), none, (.load 1 false (.tmp 7))⟩,
  ⟨(some 9), none, (.fa 1 (.tmp 3))⟩,
  ⟨none, none, (.store 1 (.tmp 9) (.tmp 8))⟩]) (.seq (.ops [
  ⟨(some 10), none, (.load 2 true (.tmp 3))⟩,
  ⟨none, none, (.store 2 (.tmp 2) (.tmp 10))⟩]) .ret)))))
theorem law_laws_toPoint {a0 d : D} (h : code_laws_toPoint.wp (Contract Try.prog NoG) (endQ [(.c 2 2 true)] d) [a0, .undef, .undef, .undef, .undef, .undef, .undef, .undef, .undef, .undef, .undef]) : Contract Try.prog NoG 50 [a0] d :=
  contract_of noG Try.func50 (fun us W => by kernel_rfl) (c := Try.f50.body.getD .skip) (ms := []) (ms' := []) (by kernel_rfl) (by kernel_rfl) (by kernel_rfl) h
set_option maxHeartbeats 2000000 in
theorem v_toPoint (q : Point) : Contract Try.prog NoG 50 [.agg (Point.td.d false q)] (.agg (Point.td.d true q)) := by
  rw [Point.td_d, Point.td_d]
  refine law_laws_toPoint ?_
  unfold code_laws_toPoint
  simp (disch := omega) only [go_sem, ↓reduceIte, List.getElem?_cons_succ, List.getElem?_cons_zero, List.set_cons_succ, List.set_cons_zero, List.map_cons, List.map_nil, List.length_cons, List.length_nil, List.all_cons, List.all_nil, List.drop_succ_cons, List.drop_zero, List.take_succ_cons, List.take_zero, List.flatMap_cons, List.flatMap_nil, List.cons_append, List.nil_append, List.append_nil, List.headD_cons, Value.oneCell', Bool.and_true, Bool.true_and, Bool.or_false, Bool.false_or, Bool.and_self, Bool.not_true, Bool.not_false, and_true, true_and, beq_self_eq_true, Bool.false_eq_true, if_true, if_false, Nat.zero_add, Nat.reduceAdd, Nat.reduceMul, Nat.reduceLeDiff, Nat.le_refl, Option.isSome_some, Option.isSome_none, not_true_eq_false, not_false_eq_true, ne_eq, reduceCtorEq, List.reverse_nil, bne_self_eq_false, Nat.reduceEqDiff, List.isPrefixOf, Bool.not_eq_true, Bool.and_false, Bool.false_and, Bool.true_or, Bool.or_true, decide_true, decide_false, Nat.reduceBEq, Nat.reduceBNe, List.replicate_succ, List.replicate_zero, exists_eq_left', exists_eq_left, Option.some.injEq, or_false, or_true, true_or, false_or, Option.map_some, Option.map_none]
/-- laws.toPlaced -/
def code_laws_toPlaced : VCode := (.seq (.ops [
  ⟨(some 1), none, (.box (.tmp 0))⟩,
  ⟨(some 2), none, (.alloc [(.int .i64 0), (.int .i64 0), (.int .i64 0)])⟩]) (.seq (.ops [
  ⟨(some 3), none, (.alloc [(.int .i64 0), (.int .i64 0), (.int .i64 0)])⟩]) (.seq (.ops [
  ⟨(some 4), none, (.fa 0 (.tmp 1))⟩,
  ⟨(some 5), none, (.load 2 true (.tmp 4))⟩,
  ⟨(some 6), none, (.call 50 [(.tmp 5)])⟩,
  ⟨(some 7), none, (.fa 0 (.tmp 3))⟩,
  ⟨none, none, (.store 2 (.tmp 7) (.tmp 6))⟩]) (.seq (.ops [
  ⟨(some 8), none, (.fa 2 (.tmp 1))⟩,
  ⟨(some 9), none, (.load 1 false (.tmp 8))⟩,
  ⟨(some 10), none, (.fa 2 (.tmp 3))⟩,
  ⟨none, none, (.store 1 (.tmp 10) (.tmp 9))⟩]) (.seq (.ops [
  ⟨(some 11), none, (.load 3 true (.tmp 3))⟩,
  ⟨none, none, (.store 3 (.tmp 2) (.tmp 11))⟩]) .ret)))))
theorem law_laws_toPlaced {a0 d : D} (h : code_laws_toPlaced.wp (Contract Try.prog NoG) (endQ [(.c 2 3 true)] d) [a0, .undef, .undef, .undef, .undef, .undef, .undef, .undef, .undef, .undef, .undef, .undef]) : Contract Try.prog NoG 46 [a0] d :=
  contract_of noG Try.func46 (fun us W => by kernel_rfl) (c := Try.f46.body.getD .skip) (ms := []) (ms' := []) (by kernel_rfl) (by kernel_rfl) (by kernel_rfl) h
set_option maxHeartbeats 2000000 in
theorem v_toPlaced (q : Placed) : Contract Try.prog NoG 46 [.agg (Placed.td.d false q)] (.agg (Placed.td.d true q)) := by
  rw [Placed.td_d, Placed.td_d]
  refine law_laws_toPlaced ?_
  unfold code_laws_toPlaced
  simp (disch := omega) only [go_sem, ↓reduceIte, List.getElem?_cons_succ, List.getElem?_cons_zero, List.set_cons_succ, List.set_cons_zero, List.map_cons, List.map_nil, List.length_cons, List.length_nil, List.all_cons, List.all_nil, List.drop_succ_cons, List.drop_zero, List.take_succ_cons, List.take_zero, List.flatMap_cons, List.flatMap_nil, List.cons_append, List.nil_append, List.append_nil, List.headD_cons, Value.oneCell', Bool.and_true, Bool.true_and, Bool.or_false, Bool.false_or, Bool.and_self, Bool.not_true, Bool.not_false, and_true, true_and, beq_self_eq_true, Bool.false_eq_true, if_true, if_false, Nat.zero_add, Nat.reduceAdd, Nat.reduceMul, Nat.reduceLeDiff, Nat.le_refl, Option.isSome_some, Option.isSome_none, not_true_eq_false, not_false_eq_true, ne_eq, reduceCtorEq, List.reverse_nil, bne_self_eq_false, Nat.reduceEqDiff, List.isPrefixOf, Bool.not_eq_true, Bool.and_false, Bool.false_and, Bool.true_or, Bool.or_true, decide_true, decide_false, Nat.reduceBEq, Nat.reduceBNe, List.replicate_succ, List.replicate_zero, exists_eq_left', exists_eq_left, Option.some.injEq, or_false, or_true, true_or, false_or, Option.map_some, Option.map_none , Point.td_d]
  refine call_le (v_toPoint q.At) (by repeat (first | exact leL_nil | refine leL_cons ?_ ?_ | exact le_of_eq rfl | exact le_slf rfl (by first | rfl | exact TD.rows _ _ _ | exact immLL_rI _ | exact immLL_rB8 _ | exact immLL_rS _ | exact immLL_rBo _) | refine le_agg ?_ | refine le_iptr ?_ | refine le_fn ?_ ?_)) (by first | exact .inl rfl | exact .inl (by simp only [D.noImm, noImmL, Bool.and_true, Bool.true_and, TD.nims, TD.nim, nim_rI, nim_rB8, nim_rBo, nim_rS])) ?_
  simp (disch := omega) only [go_sem, ↓reduceIte, List.getElem?_cons_succ, List.getElem?_cons_zero, List.set_cons_succ, List.set_cons_zero, List.map_cons, List.map_nil, List.length_cons, List.length_nil, List.all_cons, List.all_nil, List.drop_succ_cons, List.drop_zero, List.take_succ_cons, List.take_zero, List.flatMap_cons, List.flatMap_nil, List.cons_append, List.nil_append, List.append_nil, List.headD_cons, Value.oneCell', Bool.and_true, Bool.true_and, Bool.or_false, Bool.false_or, Bool.and_self, Bool.not_true, Bool.not_false, and_true, true_and, beq_self_eq_true, Bool.false_eq_true, if_true, if_false, Nat.zero_add, Nat.reduceAdd, Nat.reduceMul, Nat.reduceLeDiff, Nat.le_refl, Option.isSome_some, Option.isSome_none, not_true_eq_false, not_false_eq_true, ne_eq, reduceCtorEq, List.reverse_nil, bne_self_eq_false, Nat.reduceEqDiff, List.isPrefixOf, Bool.not_eq_true, Bool.and_false, Bool.false_and, Bool.true_or, Bool.or_true, decide_true, decide_false, Nat.reduceBEq, Nat.reduceBNe, List.replicate_succ, List.replicate_zero, exists_eq_left', exists_eq_left, Option.some.injEq, or_false, or_true, true_or, false_or, Option.map_some, Option.map_none , Point.td_d]
abbrev mk_laws_toPlacedS_0 : List Bool := [false, true, true, false, false, true, true, false, true, true, true, true, true, true, true, true, true, true, true, true, true, true, true]
/-- laws.toPlacedS -/
def code_laws_toPlacedS : VCode := (.seq (.ops [
  ⟨(some 2), none, (.asg (.const (.slice none 0 0)))⟩]) (.seq (.ops [
  ⟨(some 5), none, (.mv (.tmp 0))⟩,
  ⟨(some 6), none, (.len (.tmp 5))⟩,
  ⟨(some 7), none, (.mks 3 24 [(.int .i64 0), (.int .i64 0), (.int .i64 0)] (.tmp 6) (.tmp 6))⟩,
  ⟨(some 3), none, (.asg (.tmp 7))⟩]) (.seq (.seq (.ops [
  ⟨(some 4), none, (.asg (.const (.int .i64 0)))⟩]) (.block 0 (.loop mk_laws_toPlacedS_0 (.seq (.seq (.ops [
  ⟨(some 8), none, (.mv (.tmp 4))⟩,
  ⟨(some 9), none, (.mv (.tmp 0))⟩,
  ⟨(some 10), none, (.len (.tmp 9))⟩,
  ⟨(some 11), none, (.bin .lss (.tmp 8) (.tmp 10))⟩]) (.cond (.tmp 11) .skip (.exit 0))) (.seq (.block 1 (.ops [
  ⟨(some 14), none, (.mv (.tmp 3))⟩,
  ⟨(some 15), none, (.mv (.tmp 4))⟩,
  ⟨(some 16), none, (.mv (.tmp 0))⟩,
  ⟨(some 17), none, (.mv (.tmp 4))⟩,
  ⟨(some 18), none, (.ia 3 (.tmp 16) (.tmp 17))⟩,
  ⟨(some 19), none, (.load 3 true (.tmp 18))⟩,
  ⟨(some 20), none, (.call 46 [(.tmp 19)])⟩,
  ⟨(some 21), none, (.ia 3 (.tmp 14) (.tmp 15))⟩,
  ⟨none, none, (.store 3 (.tmp 21) (.tmp 20))⟩])) (.ops [
  ⟨(some 12), none, (.mv (.tmp 4))⟩,
  ⟨(some 13), none, (.bin .add (.tmp 12) (.const (.int .i64 1)))⟩,
  ⟨(some 4), none, (.asg (.tmp 13))⟩])))))) (.seq (.ops [
  ⟨(some 22), none, (.mv (.tmp 3))⟩,
  ⟨(some 2), none, (.asg (.tmp 22))⟩]) .ret))))
theorem law_laws_toPlacedS {a0 d : D} (h : code_laws_toPlacedS.wp (Contract Try.prog NoG) (endQ [(.t 2)] d) [a0, .undef, .undef, .undef, .undef, .undef, .undef, .undef, .undef, .undef, .undef, .undef, .undef, .undef, .undef, .undef, .undef, .undef, .undef, .undef, .undef, .undef, .undef]) : Contract Try.prog NoG 34 [a0] d :=
  contract_of noG Try.func34 (fun us W => by kernel_rfl) (c := Try.f34.body.getD .skip) (ms := [mk_laws_toPlacedS_0]) (ms' := []) (by kernel_rfl) (by kernel_rfl) (by kernel_rfl) h
set_option maxHeartbeats 2000000 in
theorem v_toPlacedS (xs : List Placed) (hn : xs.length ≤ 1048576) : Contract Try.prog NoG 34 [.sl false 3 (xs.map (Placed.td.d false))] (.sl true 3 (xs.map (Placed.td.d true))) := by
  have hl : xs.length ≤ 1048576 := by exact hn
  refine law_laws_toPlacedS ?_
  unfold code_laws_toPlacedS
  simp (disch := omega) only [go_sem, ↓reduceIte, List.getElem?_cons_succ, List.getElem?_cons_zero, List.set_cons_succ, List.set_cons_zero, List.map_cons, List.map_nil, List.length_cons, List.length_nil, List.all_cons, List.all_nil, List.drop_succ_cons, List.drop_zero, List.take_succ_cons, List.take_zero, List.flatMap_cons, List.flatMap_nil, List.cons_append, List.nil_append, List.append_nil, List.headD_cons, Value.oneCell', Bool.and_true, Bool.true_and, Bool.or_false, Bool.false_or, Bool.and_self, Bool.not_true, Bool.not_false, and_true, true_and, beq_self_eq_true, Bool.false_eq_true, if_true, if_false, Nat.zero_add, Nat.reduceAdd, Nat.reduceMul, Nat.reduceLeDiff, Nat.le_refl, Option.isSome_some, Option.isSome_none, not_true_eq_false, not_false_eq_true, ne_eq, reduceCtorEq, List.reverse_nil, bne_self_eq_false, Nat.reduceEqDiff, List.isPrefixOf, Bool.not_eq_true, Bool.and_false, Bool.false_and, Bool.true_or, Bool.or_true, decide_true, decide_false, Nat.reduceBEq, Nat.reduceBNe, List.replicate_succ, List.replicate_zero, exists_eq_left', exists_eq_left, Option.some.injEq, or_false, or_true, true_or, false_or, Option.map_some, Option.map_none , List.length_map, Int.toNat_natCast]
  refine ⟨by omega, by omega, by omega, ?_⟩
  refine loop_st (fun k : Nat => [.sl false 3 (xs.map (Placed.td.d false)), .undef, .undef, .sl true 3 ((xs.take k).map (Placed.td.d true) ++ List.replicate (xs.length - k) [D.v (.int .i64 0), D.v (.int .i64 0), D.v (.int .i64 0)]), .v (.int .i64 k), .undef, .undef, .undef, .undef, .undef, .undef, .undef, .undef, .undef, .undef, .undef, .undef, .undef, .undef, .undef, .undef, .undef, .undef]) (fun k => k ≤ xs.length) (fun k => xs.length - k) 0 (by repeat (first | exact nleL_nil | refine nleL_cons ?_ ?_ | exact nle_rfl _ | exact nle_nil | refine nle_box ?_ | refine nle_agg ?_ | refine nle_sl ?_ | exact nleLL_nil | refine nleLL_cons ?_ ?_ | exact nle_of_eq rfl)) (Nat.zero_le _) ?_
  intro k hk
  simp (disch := omega) only [go_sem, ↓reduceIte, List.getElem?_cons_succ, List.getElem?_cons_zero, List.set_cons_succ, List.set_cons_zero, List.map_cons, List.map_nil, List.length_cons, List.length_nil, List.all_cons, List.all_nil, List.drop_succ_cons, List.drop_zero, List.take_succ_cons, List.take_zero, List.flatMap_cons, List.flatMap_nil, List.cons_append, List.nil_append, List.append_nil, List.headD_cons, Value.oneCell', Bool.and_true, Bool.true_and, Bool.or_false, Bool.false_or, Bool.and_self, Bool.not_true, Bool.not_false, and_true, true_and, beq_self_eq_true, Bool.false_eq_true, if_true, if_false, Nat.zero_add, Nat.reduceAdd, Nat.reduceMul, Nat.reduceLeDiff, Nat.le_refl, Option.isSome_some, Option.isSome_none, not_true_eq_false, not_false_eq_true, ne_eq, reduceCtorEq, List.reverse_nil, bne_self_eq_false, Nat.reduceEqDiff, List.isPrefixOf, Bool.not_eq_true, Bool.and_false, Bool.false_and, Bool.true_or, Bool.or_true, decide_true, decide_false, Nat.reduceBEq, Nat.reduceBNe, List.replicate_succ, List.replicate_zero, exists_eq_left', exists_eq_left, Option.some.injEq, or_false, or_true, true_or, false_or, Option.map_some, Option.map_none , List.length_map, Int.toNat_natCast, Int.ofNat_lt, Int.natCast_nonneg, List.getElem?_map, Option.map_some]
  refine cond_split ?_ ?_ <;> intro hlt
  · have hlt : k < xs.length := by simpa using hlt
    have e1 := List.getElem?_eq_getElem hlt
    have g1 := fill_len xs (Placed.td.d true) [D.v (.int .i64 0), D.v (.int .i64 0), D.v (.int .i64 0)] k
    have g2 := fill_at xs (Placed.td.d true) [D.v (.int .i64 0), D.v (.int .i64 0), D.v (.int .i64 0)] k hlt
    have g3 := fill_next xs (Placed.td.d true) [D.v (.int .i64 0), D.v (.int .i64 0), D.v (.int .i64 0)] k hlt
    have g4 : k < ((xs.take k).map (Placed.td.d true) ++ List.replicate (xs.length - k) [D.v (.int .i64 0), D.v (.int .i64 0), D.v (.int .i64 0)]).length := by rw [g1]; exact hlt
    simp (disch := omega) only [go_sem, ↓reduceIte, List.getElem?_cons_succ, List.getElem?_cons_zero, List.set_cons_succ, List.set_cons_zero, List.map_cons, List.map_nil, List.length_cons, List.length_nil, List.all_cons, List.all_nil, List.drop_succ_cons, List.drop_zero, List.take_succ_cons, List.take_zero, List.flatMap_cons, List.flatMap_nil, List.cons_append, List.nil_append, List.append_nil, List.headD_cons, Value.oneCell', Bool.and_true, Bool.true_and, Bool.or_false, Bool.false_or, Bool.and_self, Bool.not_true, Bool.not_false, and_true, true_and, beq_self_eq_true, Bool.false_eq_true, if_true, if_false, Nat.zero_add, Nat.reduceAdd, Nat.reduceMul, Nat.reduceLeDiff, Nat.le_refl, Option.isSome_some, Option.isSome_none, not_true_eq_false, not_false_eq_true, ne_eq, reduceCtorEq, List.reverse_nil, bne_self_eq_false, Nat.reduceEqDiff, List.isPrefixOf, Bool.not_eq_true, Bool.and_false, Bool.false_and, Bool.true_or, Bool.or_true, decide_true, decide_false, Nat.reduceBEq, Nat.reduceBNe, List.replicate_succ, List.replicate_zero, exists_eq_left', exists_eq_left, Option.some.injEq, or_false, or_true, true_or, false_or, Option.map_some, Option.map_none , List.length_map, Int.toNat_natCast, Int.ofNat_lt, Int.natCast_nonneg, List.getElem?_map, Option.map_some, hlt, e1, g1, g2, List.set_set, List.getElem?_set_self g4, wrN, Placed.td_d]
    refine call_le (v_toPlaced xs[k]) (by repeat (first | exact leL_nil | refine leL_cons ?_ ?_ | exact le_of_eq rfl | exact le_slf rfl (by first | rfl | exact TD.rows _ _ _ | exact immLL_rI _ | exact immLL_rB8 _ | exact immLL_rS _ | exact immLL_rBo _) | refine le_agg ?_ | refine le_iptr ?_ | refine le_fn ?_ ?_)) (by first | exact .inl rfl | exact .inl (by simp only [D.noImm, noImmL, Bool.and_true, Bool.true_and, TD.nims, TD.nim, nim_rI, nim_rB8, nim_rBo, nim_rS])) ?_
    simp (disch := omega) only [go_sem, ↓reduceIte, List.getElem?_cons_succ, List.getElem?_cons_zero, List.set_cons_succ, List.set_cons_zero, List.map_cons, List.map_nil, List.length_cons, List.length_nil, List.all_cons, List.all_nil, List.drop_succ_cons, List.drop_zero, List.take_succ_cons, List.take_zero, List.flatMap_cons, List.flatMap_nil, List.cons_append, List.nil_append, List.append_nil, List.headD_cons, Value.oneCell', Bool.and_true, Bool.true_and, Bool.or_false, Bool.false_or, Bool.and_self, Bool.not_true, Bool.not_false, and_true, true_and, beq_self_eq_true, Bool.false_eq_true, if_true, if_false, Nat.zero_add, Nat.reduceAdd, Nat.reduceMul, Nat.reduceLeDiff, Nat.le_refl, Option.isSome_some, Option.isSome_none, not_true_eq_false, not_false_eq_true, ne_eq, reduceCtorEq, List.reverse_nil, bne_self_eq_false, Nat.reduceEqDiff, List.isPrefixOf, Bool.not_eq_true, Bool.and_false, Bool.false_and, Bool.true_or, Bool.or_true, decide_true, decide_false, Nat.reduceBEq, Nat.reduceBNe, List.replicate_succ, List.replicate_zero, exists_eq_left', exists_eq_left, Option.some.injEq, or_false, or_true, true_or, false_or, Option.map_some, Option.map_none , List.length_map, Int.toNat_natCast, Int.ofNat_lt, Int.natCast_nonneg, List.getElem?_map, Option.map_some, hlt, e1, g1, g2, List.set_set, List.getElem?_set_self g4, wrN, Placed.td_d]
    refine ⟨k + 1, by omega, hlt, ?_⟩
    rw [← g3]
    rw [Placed.td_d]
    repeat (first | exact nleL_nil | refine nleL_cons ?_ ?_ | exact nle_rfl _ | exact nle_nil | refine nle_box ?_ | refine nle_agg ?_ | refine nle_sl ?_ | exact nleLL_nil | refine nleLL_cons ?_ ?_ | exact nle_of_eq rfl)
  · have hge : k = xs.length := by
      have : ¬ k < xs.length := by simpa using hlt
      omega
    subst hge
    simp (disch := omega) only [go_sem, ↓reduceIte, List.getElem?_cons_succ, List.getElem?_cons_zero, List.set_cons_succ, List.set_cons_zero, List.map_cons, List.map_nil, List.length_cons, List.length_nil, List.all_cons, List.all_nil, List.drop_succ_cons, List.drop_zero, List.take_succ_cons, List.take_zero, List.flatMap_cons, List.flatMap_nil, List.cons_append, List.nil_append, List.append_nil, List.headD_cons, Value.oneCell', Bool.and_true, Bool.true_and, Bool.or_false, Bool.false_or, Bool.and_self, Bool.not_true, Bool.not_false, and_true, true_and, beq_self_eq_true, Bool.false_eq_true, if_true, if_false, Nat.zero_add, Nat.reduceAdd, Nat.reduceMul, Nat.reduceLeDiff, Nat.le_refl, Option.isSome_some, Option.isSome_none, not_true_eq_false, not_false_eq_true, ne_eq, reduceCtorEq, List.reverse_nil, bne_self_eq_false, Nat.reduceEqDiff, List.isPrefixOf, Bool.not_eq_true, Bool.and_false, Bool.false_and, Bool.true_or, Bool.or_true, decide_true, decide_false, Nat.reduceBEq, Nat.reduceBNe, List.replicate_succ, List.replicate_zero, exists_eq_left', exists_eq_left, Option.some.injEq, or_false, or_true, true_or, false_or, Option.map_some, Option.map_none , fill_end]
/-- laws.toAssembly -/
def code_laws_toAssembly : VCode := (.seq (.ops [
  ⟨(some 1), none, (.box (.tmp 0))⟩,
  ⟨(some 2), none, (.alloc [(.slice none 0 0)])⟩]) (.seq (.ops [
  ⟨(some 3), none, (.alloc [(.slice none 0 0)])⟩]) (.seq (.ops [
  ⟨(some 4), none, (.fa 0 (.tmp 1))⟩,
  ⟨(some 5), none, (.load 1 false (.tmp 4))⟩,
  ⟨(some 6), none, (.call 34 [(.tmp 5)])⟩,
  ⟨(some 7), none, (.fa 0 (.tmp 3))⟩,
  ⟨none, none, (.store 1 (.tmp 7) (.tmp 6))⟩]) (.seq (.ops [
  ⟨(some 8), none, (.load 1 true (.tmp 3))⟩,
  ⟨none, none, (.store 1 (.tmp 2) (.tmp 8))⟩]) .ret))))
theorem law_laws_toAssembly {a0 d : D} (h : code_laws_toAssembly.wp (Contract Try.prog NoG) (endQ [(.c 2 1 true)] d) [a0, .undef, .undef, .undef, .undef, .undef, .undef, .undef, .undef]) : Contract Try.prog NoG 24 [a0] d :=
  contract_of noG Try.func24 (fun us W => by kernel_rfl) (c := Try.f24.body.getD .skip) (ms := []) (ms' := []) (by kernel_rfl) (by kernel_rfl) (by kernel_rfl) h
set_option maxHeartbeats 2000000 in
theorem v_toAssembly (q : Assembly) (hn : Assembly.cnt q ≤ 1048576) : Contract Try.prog NoG 24 [.agg (Assembly.td.d false q)] (.agg (Assembly.td.d true q)) := by
  rw [Assembly.td_d, Assembly.td_d]
  refine law_laws_toAssembly ?_
  unfold code_laws_toAssembly
  have hn0 := hn
  unfold Assembly.cnt at hn
  simp (disch := omega) only [go_sem, ↓reduceIte, List.getElem?_cons_succ, List.getElem?_cons_zero, List.set_cons_succ, List.set_cons_zero, List.map_cons, List.map_nil, List.length_cons, List.length_nil, List.all_cons, List.all_nil, List.drop_succ_cons, List.drop_zero, List.take_succ_cons, List.take_zero, List.flatMap_cons, List.flatMap_nil, List.cons_append, List.nil_append, List.append_nil, List.headD_cons, Value.oneCell', Bool.and_true, Bool.true_and, Bool.or_false, Bool.false_or, Bool.and_self, Bool.not_true, Bool.not_false, and_true, true_and, beq_self_eq_true, Bool.false_eq_true, if_true, if_false, Nat.zero_add, Nat.reduceAdd, Nat.reduceMul, Nat.reduceLeDiff, Nat.le_refl, Option.isSome_some, Option.isSome_none, not_true_eq_false, not_false_eq_true, ne_eq, reduceCtorEq, List.reverse_nil, bne_self_eq_false, Nat.reduceEqDiff, List.isPrefixOf, Bool.not_eq_true, Bool.and_false, Bool.false_and, Bool.true_or, Bool.or_true, decide_true, decide_false, Nat.reduceBEq, Nat.reduceBNe, List.replicate_succ, List.replicate_zero, exists_eq_left', exists_eq_left, Option.some.injEq, or_false, or_true, true_or, false_or, Option.map_some, Option.map_none]
  refine call_le (v_toPlacedS q.Tiles (by omega)) (by repeat (first | exact leL_nil | refine leL_cons ?_ ?_ | exact le_of_eq rfl | exact le_slf rfl (by first | rfl | exact TD.rows _ _ _ | exact immLL_rI _ | exact immLL_rB8 _ | exact immLL_rS _ | exact immLL_rBo _) | refine le_agg ?_ | refine le_iptr ?_ | refine le_fn ?_ ?_)) (by first | exact .inl rfl | exact .inl (by simp only [D.noImm, noImmL, Bool.and_true, Bool.true_and, TD.nims, TD.nim, nim_rI, nim_rB8, nim_rBo, nim_rS])) ?_
  simp (disch := omega) only [go_sem, ↓reduceIte, List.getElem?_cons_succ, List.getElem?_cons_zero, List.set_cons_succ, List.set_cons_zero, List.map_cons, List.map_nil, List.length_cons, List.length_nil, List.all_cons, List.all_nil, List.drop_succ_cons, List.drop_zero, List.take_succ_cons, List.take_zero, List.flatMap_cons, List.flatMap_nil, List.cons_append, List.nil_append, List.append_nil, List.headD_cons, Value.oneCell', Bool.and_true, Bool.true_and, Bool.or_false, Bool.false_or, Bool.and_self, Bool.not_true, Bool.not_false, and_true, true_and, beq_self_eq_true, Bool.false_eq_true, if_true, if_false, Nat.zero_add, Nat.reduceAdd, Nat.reduceMul, Nat.reduceLeDiff, Nat.le_refl, Option.isSome_some, Option.isSome_none, not_true_eq_false, not_false_eq_true, ne_eq, reduceCtorEq, List.reverse_nil, bne_self_eq_false, Nat.reduceEqDiff, List.isPrefixOf, Bool.not_eq_true, Bool.and_false, Bool.false_and, Bool.true_or, Bool.or_true, decide_true, decide_false, Nat.reduceBEq, Nat.reduceBNe, List.replicate_succ, List.replicate_zero, exists_eq_left', exists_eq_left, Option.some.injEq, or_false, or_true, true_or, false_or, Option.map_some, Option.map_none]
/-- laws.toSystem -/
def code_laws_toSystem : VCode := (.seq (.ops [
  ⟨(some 1), none, (.box (.tmp 0))⟩,
  ⟨(some 2), none, (.alloc [(.slice none 0 0), (.slice none 0 0), (.slice none 0 0), (.int .i64 0)])⟩]) (.seq (.ops [
  ⟨(some 3), none, (.alloc [(.slice none 0 0), (.slice none 0 0), (.slice none 0 0), (.int .i64 0)])⟩]) (.seq (.ops [
  ⟨(some 4), none, (.fa 0 (.tmp 1))⟩,
  ⟨(some 5), none, (.load 2 true (.tmp 4))⟩,
  ⟨(some 6), none, (.call 23 [(.tmp 5)])⟩,
  ⟨(some 7), none, (.fa 0 (.tmp 3))⟩,
  ⟨none, none, (.store 2 (.tmp 7) (.tmp 6))⟩]) (.seq (.ops [
  ⟨(some 8), none, (.fa 2 (.tmp 1))⟩,
  ⟨(some 9), none, (.load 1 true (.tmp 8))⟩,
  ⟨(some 10), none, (.call 24 [(.tmp 9)])⟩,
  ⟨(some 11), none, (.fa 2 (.tmp 3))⟩,
  ⟨none, none, (.store 1 (.tmp 11) (.tmp 10))⟩]) (.seq (.ops [
  ⟨(some 12), none, (.fa 3 (.tmp 1))⟩,
  ⟨(some 13), none, (.load 1 false (.tmp 12))⟩,
  ⟨(some 14), none, (.fa 3 (.tmp 3))⟩,
  ⟨none, none, (.store 1 (.tmp 14) (.tmp 13))⟩]) (.seq (.ops [
  ⟨(some 15), none, (.load 4 true (.tmp 3))⟩,
  ⟨none, none, (.store 4 (.tmp 2) (.tmp 15))⟩]) .ret))))))
theorem law_laws_toSystem {a0 d : D} (h : code_laws_toSystem.wp (Contract Try.prog NoG) (endQ [(.c 2 4 true)] d) [a0, .undef, .undef, .undef, .undef, .undef, .undef, .undef, .undef, .undef, .undef, .undef, .undef, .undef, .undef, .undef]) : Contract Try.prog NoG 13 [a0] d :=
  contract_of noG Try.func13 (fun us W => by kernel_rfl) (c := Try.f13.body.getD .skip) (ms := []) (ms' := []) (by kernel_rfl) (by kernel_rfl) (by kernel_rfl) h
set_option maxHeartbeats 2000000 in
theorem v_toSystem (q : System) (hn : System.cnt q ≤ 1048576) : Contract Try.prog NoG 13 [.agg (System.td.d false q)] (.agg (System.td.d true q)) := by
  rw [System.td_d, System.td_d]
  refine law_laws_toSystem ?_
  unfold code_laws_toSystem
  have hn0 := hn
  unfold System.cnt at hn
  simp (disch := omega) only [go_sem, ↓reduceIte, List.getElem?_cons_succ, List.getElem?_cons_zero, List.set_cons_succ, List.set_cons_zero, List.map_cons, List.map_nil, List.length_cons, List.length_nil, List.all_cons, List.all_nil, List.drop_succ_cons, List.drop_zero, List.take_succ_cons, List.take_zero, List.flatMap_cons, List.flatMap_nil, List.cons_append, List.nil_append, List.append_nil, List.headD_cons, Value.oneCell', Bool.and_true, Bool.true_and, Bool.or_false, Bool.false_or, Bool.and_self, Bool.not_true, Bool.not_false, and_true, true_and, beq_self_eq_true, Bool.false_eq_true, if_true, if_false, Nat.zero_add, Nat.reduceAdd, Nat.reduceMul, Nat.reduceLeDiff, Nat.le_refl, Option.isSome_some, Option.isSome_none, not_true_eq_false, not_false_eq_true, ne_eq, reduceCtorEq, List.reverse_nil, bne_self_eq_false, Nat.reduceEqDiff, List.isPrefixOf, Bool.not_eq_true, Bool.and_false, Bool.false_and, Bool.true_or, Bool.or_true, decide_true, decide_false, Nat.reduceBEq, Nat.reduceBNe, List.replicate_succ, List.replicate_zero, exists_eq_left', exists_eq_left, Option.some.injEq, or_false, or_true, true_or, false_or, Option.map_some, Option.map_none , TileSet.td_d, Assembly.td_d]
  refine call_le (v_toTileSet q.Set (by omega)) (by repeat (first | exact leL_nil | refine leL_cons ?_ ?_ | exact le_of_eq rfl | exact le_slf rfl (by first | rfl | exact TD.rows _ _ _ | exact immLL_rI _ | exact immLL_rB8 _ | exact immLL_rS _ | exact immLL_rBo _) | refine le_agg ?_ | refine le_iptr ?_ | refine le_fn ?_ ?_)) (by first | exact .inl rfl | exact .inl (by simp only [D.noImm, noImmL, Bool.and_true, Bool.true_and, TD.nims, TD.nim, nim_rI, nim_rB8, nim_rBo, nim_rS])) ?_
  simp (disch := omega) only [go_sem, ↓reduceIte, List.getElem?_cons_succ, List.getElem?_cons_zero, List.set_cons_succ, List.set_cons_zero, List.map_cons, List.map_nil, List.length_cons, List.length_nil, List.all_cons, List.all_nil, List.drop_succ_cons, List.drop_zero, List.take_succ_cons, List.take_zero, List.flatMap_cons, List.flatMap_nil, List.cons_append, List.nil_append, List.append_nil, List.headD_cons, Value.oneCell', Bool.and_true, Bool.true_and, Bool.or_false, Bool.false_or, Bool.and_self, Bool.not_true, Bool.not_false, and_true, true_and, beq_self_eq_true, Bool.false_eq_true, if_true, if_false, Nat.zero_add, Nat.reduceAdd, Nat.reduceMul, Nat.reduceLeDiff, Nat.le_refl, Option.isSome_some, Option.isSome_none, not_true_eq_false, not_false_eq_true, ne_eq, reduceCtorEq, List.reverse_nil, bne_self_eq_false, Nat.reduceEqDiff, List.isPrefixOf, Bool.not_eq_true, Bool.and_false, Bool.false_and, Bool.true_or, Bool.or_true, decide_true, decide_false, Nat.reduceBEq, Nat.reduceBNe, List.replicate_succ, List.replicate_zero, exists_eq_left', exists_eq_left, Option.some.injEq, or_false, or_true, true_or, false_or, Option.map_some, Option.map_none , TileSet.td_d, Assembly.td_d]
  refine call_le (v_toAssembly q.Seed (by omega)) (by repeat (first | exact leL_nil | refine leL_cons ?_ ?_ | exact le_of_eq rfl | exact le_slf rfl (by first | rfl | exact TD.rows _ _ _ | exact immLL_rI _ | exact immLL_rB8 _ | exact immLL_rS _ | exact immLL_rBo _) | refine le_agg ?_ | refine le_iptr ?_ | refine le_fn ?_ ?_)) (by first | exact .inl rfl | exact .inl (by simp only [D.noImm, noImmL, Bool.and_true, Bool.true_and, TD.nims, TD.nim, nim_rI, nim_rB8, nim_rBo, nim_rS])) ?_
  simp (disch := omega) only [go_sem, ↓reduceIte, List.getElem?_cons_succ, List.getElem?_cons_zero, List.set_cons_succ, List.set_cons_zero, List.map_cons, List.map_nil, List.length_cons, List.length_nil, List.all_cons, List.all_nil, List.drop_succ_cons, List.drop_zero, List.take_succ_cons, List.take_zero, List.flatMap_cons, List.flatMap_nil, List.cons_append, List.nil_append, List.append_nil, List.headD_cons, Value.oneCell', Bool.and_true, Bool.true_and, Bool.or_false, Bool.false_or, Bool.and_self, Bool.not_true, Bool.not_false, and_true, true_and, beq_self_eq_true, Bool.false_eq_true, if_true, if_false, Nat.zero_add, Nat.reduceAdd, Nat.reduceMul, Nat.reduceLeDiff, Nat.le_refl, Option.isSome_some, Option.isSome_none, not_true_eq_false, not_false_eq_true, ne_eq, reduceCtorEq, List.reverse_nil, bne_self_eq_false, Nat.reduceEqDiff, List.isPrefixOf, Bool.not_eq_true, Bool.and_false, Bool.false_and, Bool.true_or, Bool.or_true, decide_true, decide_false, Nat.reduceBEq, Nat.reduceBNe, List.replicate_succ, List.replicate_zero, exists_eq_left', exists_eq_left, Option.some.injEq, or_false, or_true, true_or, false_or, Option.map_some, Option.map_none , TileSet.td_d, Assembly.td_d]
/-- laws.toSimulation -/
def code_laws_toSimulation : VCode := (.seq (.ops [
  ⟨(some 1), none, (.box (.tmp 0))⟩,
  ⟨(some 2), none, (.alloc [(.slice none 0 0), (.slice none 0 0), (.slice none 0 0), (.int .i64 0), (.slice none 0 0), (.slice none 0 0), (.slice none 0 0), (.int .i64 0), (.int .i64 0), (.slice none 0 0)])⟩]) (.seq (.ops [
  ⟨(some 3), none, (.alloc [(.slice none 0 0), (.slice none 0 0), (.slice none 0 0), (.int .i64 0), (.slice none 0 0), (.slice none 0 0), (.slice none 0 0), (.int .i64 0), (.int .i64 0), (.slice none 0 0)])⟩]) (.seq (.ops [
  ⟨(some 4), none, (.fa 0 (.tmp 1))⟩,
  ⟨(some 5), none, (.load 4 true (.tmp 4))⟩,
  ⟨(some 6), none, (.call 13 [(.tmp 5)])⟩,
  ⟨(some 7), none, (.fa 0 (.tmp 3))⟩,
  ⟨none, none, (.store 4 (.tmp 7) (.tmp 6))⟩]) (.seq (.ops [
  ⟨(some 8), none, (.fa 4 (.tmp 1))⟩,
  ⟨(some 9), none, (.load 4 true (.tmp 8))⟩,
  ⟨(some 10), none, (.call 13 [(.tmp 9)])⟩,
  ⟨(some 11), none, (.fa 4 (.tmp 3))⟩,
  ⟨none, none, (.store 4 (.tmp 11) (.tmp 10))⟩]) (.seq (.ops [
  ⟨(some 12), none, (.fa 8 (.tmp 1))⟩,
  ⟨(some 13), none, (.load 1 false (.tmp 12))⟩,
  ⟨(some 14), none, (.fa 8 (.tmp 3))⟩,
  ⟨none, none, (.store 1 (.tmp 14) (.tmp 13))⟩]) (.seq (.ops [
  ⟨(some 15), none, (.fa 9 (.tmp 1))⟩,
  ⟨(some 16), none, (.load 1 false (.tmp 15))⟩,
  ⟨(some 17), none, (.call 14 [(.tmp 16)])⟩,
  ⟨(some 18), none, (.fa 9 (.tmp 3))⟩,
  ⟨none, none, (.store 1 (.tmp 18) (.tmp 17))⟩]) (.seq (.ops [
  ⟨(some 19), none, (.load 10 true (.tmp 3))⟩,
  ⟨none, none, (.store 10 (.tmp 2) (.tmp 19))⟩]) .ret)))))))
theorem law_laws_toSimulation {a0 d : D} (h : code_laws_toSimulation.wp (Contract Try.prog NoG) (endQ [(.c 2 10 true)] d) [a0, .undef, .undef, .undef, .undef, .undef, .undef, .undef, .undef, .undef, .undef, .undef, .undef, .undef, .undef, .undef, .undef, .undef, .undef, .undef]) : Contract Try.prog NoG 6 [a0] d :=
  contract_of noG Try.func6 (fun us W => by kernel_rfl) (c := Try.f6.body.getD .skip) (ms := []) (ms' := []) (by kernel_rfl) (by kernel_rfl) (by kernel_rfl) h
set_option maxHeartbeats 2000000 in
theorem v_toSimulation (q : Simulation) (hn : Simulation.cnt q ≤ 1048576) : Contract Try.prog NoG 6 [.agg (Simulation.td.d false q)] (.agg (Simulation.td.d true q)) := by
  rw [Simulation.td_d, Simulation.td_d]
  refine law_laws_toSimulation ?_
  unfold code_laws_toSimulation
  have hn0 := hn
  unfold Simulation.cnt at hn
  simp (disch := omega) only [go_sem, ↓reduceIte, List.getElem?_cons_succ, List.getElem?_cons_zero, List.set_cons_succ, List.set_cons_zero, List.map_cons, List.map_nil, List.length_cons, List.length_nil, List.all_cons, List.all_nil, List.drop_succ_cons, List.drop_zero, List.take_succ_cons, List.take_zero, List.flatMap_cons, List.flatMap_nil, List.cons_append, List.nil_append, List.append_nil, List.headD_cons, Value.oneCell', Bool.and_true, Bool.true_and, Bool.or_false, Bool.false_or, Bool.and_self, Bool.not_true, Bool.not_false, and_true, true_and, beq_self_eq_true, Bool.false_eq_true, if_true, if_false, Nat.zero_add, Nat.reduceAdd, Nat.reduceMul, Nat.reduceLeDiff, Nat.le_refl, Option.isSome_some, Option.isSome_none, not_true_eq_false, not_false_eq_true, ne_eq, reduceCtorEq, List.reverse_nil, bne_self_eq_false, Nat.reduceEqDiff, List.isPrefixOf, Bool.not_eq_true, Bool.and_false, Bool.false_and, Bool.true_or, Bool.or_true, decide_true, decide_false, Nat.reduceBEq, Nat.reduceBNe, List.replicate_succ, List.replicate_zero, exists_eq_left', exists_eq_left, Option.some.injEq, or_false, or_true, true_or, false_or, Option.map_some, Option.map_none , System.td_d, System.td_d]
  refine call_le (v_toSystem q.Big (by omega)) (by repeat (first | exact leL_nil | refine leL_cons ?_ ?_ | exact le_of_eq rfl | exact le_slf rfl (by first | rfl | exact TD.rows _ _ _ | exact immLL_rI _ | exact immLL_rB8 _ | exact immLL_rS _ | exact immLL_rBo _) | refine le_agg ?_ | refine le_iptr ?_ | refine le_fn ?_ ?_)) (by first | exact .inl rfl | exact .inl (by simp only [D.noImm, noImmL, Bool.and_true, Bool.true_and, TD.nims, TD.nim, nim_rI, nim_rB8, nim_rBo, nim_rS])) ?_
  simp (disch := omega) only [go_sem, ↓reduceIte, List.getElem?_cons_succ, List.getElem?_cons_zero, List.set_cons_succ, List.set_cons_zero, List.map_cons, List.map_nil, List.length_cons, List.length_nil, List.all_cons, List.all_nil, List.drop_succ_cons, List.drop_zero, List.take_succ_cons, List.take_zero, List.flatMap_cons, List.flatMap_nil, List.cons_append, List.nil_append, List.append_nil, List.headD_cons, Value.oneCell', Bool.and_true, Bool.true_and, Bool.or_false, Bool.false_or, Bool.and_self, Bool.not_true, Bool.not_false, and_true, true_and, beq_self_eq_true, Bool.false_eq_true, if_true, if_false, Nat.zero_add, Nat.reduceAdd, Nat.reduceMul, Nat.reduceLeDiff, Nat.le_refl, Option.isSome_some, Option.isSome_none, not_true_eq_false, not_false_eq_true, ne_eq, reduceCtorEq, List.reverse_nil, bne_self_eq_false, Nat.reduceEqDiff, List.isPrefixOf, Bool.not_eq_true, Bool.and_false, Bool.false_and, Bool.true_or, Bool.or_true, decide_true, decide_false, Nat.reduceBEq, Nat.reduceBNe, List.replicate_succ, List.replicate_zero, exists_eq_left', exists_eq_left, Option.some.injEq, or_false, or_true, true_or, false_or, Option.map_some, Option.map_none , System.td_d, System.td_d]
  refine call_le (v_toSystem q.Small (by omega)) (by repeat (first | exact leL_nil | refine leL_cons ?_ ?_ | exact le_of_eq rfl | exact le_slf rfl (by first | rfl | exact TD.rows _ _ _ | exact immLL_rI _ | exact immLL_rB8 _ | exact immLL_rS _ | exact immLL_rBo _) | refine le_agg ?_ | refine le_iptr ?_ | refine le_fn ?_ ?_)) (by first | exact .inl rfl | exact .inl (by simp only [D.noImm, noImmL, Bool.and_true, Bool.true_and, TD.nims, TD.nim, nim_rI, nim_rB8, nim_rBo, nim_rS])) ?_
  simp (disch := omega) only [go_sem, ↓reduceIte, List.getElem?_cons_succ, List.getElem?_cons_zero, List.set_cons_succ, List.set_cons_zero, List.map_cons, List.map_nil, List.length_cons, List.length_nil, List.all_cons, List.all_nil, List.drop_succ_cons, List.drop_zero, List.take_succ_cons, List.take_zero, List.flatMap_cons, List.flatMap_nil, List.cons_append, List.nil_append, List.append_nil, List.headD_cons, Value.oneCell', Bool.and_true, Bool.true_and, Bool.or_false, Bool.false_or, Bool.and_self, Bool.not_true, Bool.not_false, and_true, true_and, beq_self_eq_true, Bool.false_eq_true, if_true, if_false, Nat.zero_add, Nat.reduceAdd, Nat.reduceMul, Nat.reduceLeDiff, Nat.le_refl, Option.isSome_some, Option.isSome_none, not_true_eq_false, not_false_eq_true, ne_eq, reduceCtorEq, List.reverse_nil, bne_self_eq_false, Nat.reduceEqDiff, List.isPrefixOf, Bool.not_eq_true, Bool.and_false, Bool.false_and, Bool.true_or, Bool.or_true, decide_true, decide_false, Nat.reduceBEq, Nat.reduceBNe, List.replicate_succ, List.replicate_zero, exists_eq_left', exists_eq_left, Option.some.injEq, or_false, or_true, true_or, false_or, Option.map_some, Option.map_none , System.td_d, System.td_d]
  refine call_le (v_toInt64S q.Labels (by omega)) (by repeat (first | exact leL_nil | refine leL_cons ?_ ?_ | exact le_of_eq rfl | exact le_slf rfl (by first | rfl | exact TD.rows _ _ _ | exact immLL_rI _ | exact immLL_rB8 _ | exact immLL_rS _ | exact immLL_rBo _) | refine le_agg ?_ | refine le_iptr ?_ | refine le_fn ?_ ?_)) (by first | exact .inl rfl | exact .inl (by simp only [D.noImm, noImmL, Bool.and_true, Bool.true_and, TD.nims, TD.nim, nim_rI, nim_rB8, nim_rBo, nim_rS])) ?_
  simp (disch := omega) only [go_sem, ↓reduceIte, List.getElem?_cons_succ, List.getElem?_cons_zero, List.set_cons_succ, List.set_cons_zero, List.map_cons, List.map_nil, List.length_cons, List.length_nil, List.all_cons, List.all_nil, List.drop_succ_cons, List.drop_zero, List.take_succ_cons, List.take_zero, List.flatMap_cons, List.flatMap_nil, List.cons_append, List.nil_append, List.append_nil, List.headD_cons, Value.oneCell', Bool.and_true, Bool.true_and, Bool.or_false, Bool.false_or, Bool.and_self, Bool.not_true, Bool.not_false, and_true, true_and, beq_self_eq_true, Bool.false_eq_true, if_true, if_false, Nat.zero_add, Nat.reduceAdd, Nat.reduceMul, Nat.reduceLeDiff, Nat.le_refl, Option.isSome_some, Option.isSome_none, not_true_eq_false, not_false_eq_true, ne_eq, reduceCtorEq, List.reverse_nil, bne_self_eq_false, Nat.reduceEqDiff, List.isPrefixOf, Bool.not_eq_true, Bool.and_false, Bool.false_and, Bool.true_or, Bool.or_true, decide_true, decide_false, Nat.reduceBEq, Nat.reduceBNe, List.replicate_succ, List.replicate_zero, exists_eq_left', exists_eq_left, Option.some.injEq, or_false, or_true, true_or, false_or, Option.map_some, Option.map_none , System.td_d, System.td_d]
end Go.Proofs.Ytpaknhakpkfnnaa
