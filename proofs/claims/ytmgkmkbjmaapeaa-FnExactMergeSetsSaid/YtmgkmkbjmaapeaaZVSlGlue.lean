/- Made by vslgen.py: functions of package slices on slices of Glue. -/
import Derived.Test.YtmgkmkbjmaapeaaZTdGlue
import Derived.Test.YtmgkmkbjmaapeaaProg
set_option linter.all false
namespace Go.Proofs.Ytmgkmkbjmaapeaa
open Go.RowKit Go.V
attribute [local go_sem] List.getElem?_cons_succ List.getElem?_cons_zero List.set_cons_succ List.set_cons_zero List.map_cons List.map_nil List.length_cons List.length_nil List.all_cons List.all_nil List.drop_succ_cons List.drop_zero List.take_succ_cons List.take_zero List.flatMap_cons List.flatMap_nil List.cons_append List.nil_append List.append_nil List.headD_cons Value.oneCell' Bool.and_true Bool.true_and Bool.or_false Bool.false_or Bool.and_self Bool.not_true Bool.not_false and_true true_and beq_self_eq_true Bool.false_eq_true if_true if_false Nat.zero_add Nat.le_refl Option.isSome_some Option.isSome_none not_true_eq_false not_false_eq_true ne_eq List.reverse_nil bne_self_eq_false List.isPrefixOf Bool.not_eq_true Bool.and_false Bool.false_and Bool.true_or Bool.or_true decide_true decide_false List.replicate_succ List.replicate_zero exists_eq_left' exists_eq_left or_false or_true true_or false_or Option.map_some Option.map_none
set_option maxRecDepth 100000
abbrev mk_slices_IndexFunc_impl_Glue_impl_Glue_0 : List Bool := [false, false, true, true, true, true, true, false, false, true, true, true, true, true, true, true, true, true, true]
def code_slices_IndexFunc_impl_Glue_impl_Glue : VCode := (.seq (.ops [
  ⟨(some 4), none, (.asg (.const (.int .i64 0)))⟩]) (.seq (.seq (.ops [
  ⟨(some 6), none, (.mv (.tmp 0))⟩,
  ⟨(some 7), none, (.len (.tmp 6))⟩,
  ⟨(some 8), none, (.mv (.const (.int .i64 0)))⟩]) (.block 0 (.loop mk_slices_IndexFunc_impl_Glue_impl_Glue_0 (.seq (.ops [
  ⟨(some 9), none, (.bin .lss (.tmp 8) (.tmp 7))⟩]) (.seq (.cond (.tmp 9) .skip (.exit 0)) (.seq (.block 1 (.seq (.ops [
  ⟨(some 10), none, (.mv (.tmp 8))⟩,
  ⟨(some 5), none, (.asg (.tmp 10))⟩]) (.seq (.ops [
  ⟨(some 11), none, (.mv (.tmp 1))⟩,
  ⟨(some 12), none, (.mv (.tmp 0))⟩,
  ⟨(some 13), none, (.mv (.tmp 5))⟩,
  ⟨(some 14), none, (.ia 2 (.tmp 12) (.tmp 13))⟩,
  ⟨(some 15), none, (.load 2 true (.tmp 14))⟩,
  ⟨(some 16), none, (.callvX (.tmp 11) [(.tmp 15)])⟩]) (.cond (.tmp 16) (.seq (.ops [
  ⟨(some 17), none, (.mv (.tmp 5))⟩,
  ⟨(some 4), none, (.asg (.tmp 17))⟩]) .ret) .skip)))) (.ops [
  ⟨(some 18), none, (.bin .add (.tmp 8) (.const (.int .i64 1)))⟩,
  ⟨(some 8), none, (.mv (.tmp 18))⟩]))))))) (.seq (.ops [
  ⟨(some 4), none, (.asg (.const (.int .i64 (-1))))⟩]) .ret)))
theorem law_slices_IndexFunc_impl_Glue_impl_Glue {a0 a1 d : D} (h : code_slices_IndexFunc_impl_Glue_impl_Glue.wp (CT Try.prog NoG) (endQ [(.t 4)] d) [a0, a1, .undef, .undef, .undef, .undef, .undef, .undef, .undef, .undef, .undef, .undef, .undef, .undef, .undef, .undef, .undef, .undef, .undef]) : Contract Try.prog NoG 102 [a0, a1] d :=
  contract_of noG Try.func102 (fun us W => by kernel_rfl) (c := Try.f102.body.getD .skip) (ms := [mk_slices_IndexFunc_impl_Glue_impl_Glue_0]) (ms' := []) (by kernel_rfl) (by kernel_rfl) (by kernel_rfl) h
theorem v_IndexFunc_Glue (f : FuncId) (caps : List D) (hd : CapsOK caps) (xs : List Glue) (p : Glue → Bool) (hc : ∀ x, x ∈ xs → Contract Try.prog NoG f (.agg (Glue.td.d false x) :: caps) (.v (.bool (p x)))) (hn : xs.length ≤ 1099511627776) :
    Contract Try.prog NoG 102 [.sl false 2 (xs.map (Glue.td.d false)), .fn f [] caps] (.v (.int .i64 (vIdx p xs))) := by
  refine law_slices_IndexFunc_impl_Glue_impl_Glue ?_
  unfold code_slices_IndexFunc_impl_Glue_impl_Glue
  simp -implicitDefEqProofs (disch := omega) only [go_sem, ↓reduceIte, Nat.reduceAdd, Nat.reduceMul, Nat.reduceLeDiff, reduceCtorEq, Nat.reduceEqDiff, Nat.reduceBEq, Nat.reduceBNe, Option.some.injEq , hd.owny, hd.pr]
  refine loop_st (fun i : Nat => [.sl false 2 (xs.map (Glue.td.d false)), .fn f [] caps, .undef, .undef, .undef, .undef, .undef, .v (.int .i64 (xs.map (Glue.td.d false)).length), .v (.int .i64 i), .undef, .undef, .undef, .undef, .undef, .undef, .undef, .undef, .undef, .undef]) (fun i => i ≤ xs.length ∧ ∀ j (hj : j < xs.length), j < i → p xs[j] = false) (fun i => xs.length - i) 0 ?_ ⟨Nat.zero_le _, fun j _ h => absurd h (Nat.not_lt_zero _)⟩ ?_
  · simp -implicitDefEqProofs (disch := omega) only [go_sem, ↓reduceIte, Nat.reduceAdd, Nat.reduceMul, Nat.reduceLeDiff, reduceCtorEq, Nat.reduceEqDiff, Nat.reduceBEq, Nat.reduceBNe, Option.some.injEq , hd.owny, hd.pr]
    (try simp -implicitDefEqProofs only [nleL_cc, nleL_nn, nle_self, nle_boxs, nle_aggs, nle_nils, and_self, and_true, true_and]) <;> repeat' (first | exact nle_of_eq rfl | exact nle_nil | apply And.intro | apply nle_sl | apply nleLL_cons | apply nleL_cons | exact nleL_nil | exact nleLL_nil | apply nle_box | apply nle_agg)
  rintro i ⟨hi, ha⟩
  simp -implicitDefEqProofs (disch := omega) only [go_sem, ↓reduceIte, Nat.reduceAdd, Nat.reduceMul, Nat.reduceLeDiff, reduceCtorEq, Nat.reduceEqDiff, Nat.reduceBEq, Nat.reduceBNe, Option.some.injEq , List.length_map, Int.toNat_natCast, Int.ofNat_lt, Int.natCast_nonneg, List.getElem?_map, Option.map_some, hd.owny, hd.pr]
  refine cond_split ?_ ?_ <;> intro hlt
  · have hlt : i < xs.length := by simpa using hlt
    have hx := List.getElem?_eq_getElem hlt
    simp -implicitDefEqProofs (disch := omega) only [go_sem, ↓reduceIte, Nat.reduceAdd, Nat.reduceMul, Nat.reduceLeDiff, reduceCtorEq, Nat.reduceEqDiff, Nat.reduceBEq, Nat.reduceBNe, Option.some.injEq , List.length_map, Int.toNat_natCast, Int.ofNat_lt, Int.natCast_nonneg, List.getElem?_map, Option.map_some, hlt, hx, Glue.td_d, hd.owny, hd.pr]
    have hcx := hc _ (List.getElem_mem hlt)
    rw [Glue.td_d] at hcx
    refine callv_le (f := f) (first := []) (caps := caps) ?_ hcx ?_ (.inl rfl) ?_
    · simp -implicitDefEqProofs (disch := omega) only [go_sem, ↓reduceIte, Nat.reduceAdd, Nat.reduceMul, Nat.reduceLeDiff, reduceCtorEq, Nat.reduceEqDiff, Nat.reduceBEq, Nat.reduceBNe, Option.some.injEq , hd.owny]
    · refine leL_of_eq ?_
      simp only [List.nil_append, List.cons_append, List.map_cons, List.map_nil, hd.d8, List.map_append]
      simp only [deep, raw, List.getElem?_cons_succ, List.getElem?_cons_zero, List.map_cons, List.map_nil, TD.rows, immLL_rI, immLL_rB8, immLL_rS, immLL_rBo]
    simp -implicitDefEqProofs (disch := omega) only [go_sem, ↓reduceIte, Nat.reduceAdd, Nat.reduceMul, Nat.reduceLeDiff, reduceCtorEq, Nat.reduceEqDiff, Nat.reduceBEq, Nat.reduceBNe, Option.some.injEq , hd.owny, hd.pr]
    refine cond_split ?_ ?_ <;> intro hp
    · simp -implicitDefEqProofs (disch := omega) only [go_sem, ↓reduceIte, Nat.reduceAdd, Nat.reduceMul, Nat.reduceLeDiff, reduceCtorEq, Nat.reduceEqDiff, Nat.reduceBEq, Nat.reduceBNe, Option.some.injEq , hd.owny, hd.pr]
      rw [vIdx_hit p xs i hlt ha hp]
    · simp -implicitDefEqProofs (disch := omega) only [go_sem, ↓reduceIte, Nat.reduceAdd, Nat.reduceMul, Nat.reduceLeDiff, reduceCtorEq, Nat.reduceEqDiff, Nat.reduceBEq, Nat.reduceBNe, Option.some.injEq , wrN, hd.owny, hd.pr]
      refine ⟨i + 1, by omega, ⟨hlt, fun j hj h => ?_⟩, by (try simp -implicitDefEqProofs only [nleL_cc, nleL_nn, nle_self, nle_boxs, nle_aggs, nle_nils, and_self, and_true, true_and]) <;> repeat' (first | exact nle_of_eq rfl | exact nle_nil | apply And.intro | apply nle_sl | apply nleLL_cons | apply nleL_cons | exact nleL_nil | exact nleLL_nil | apply nle_box | apply nle_agg)⟩
      rcases Nat.lt_or_ge j i with h' | h'
      · exact ha j hj h'
      · have : j = i := by omega
        subst this
        exact hp
  · have hlt : ¬ i < xs.length := by simpa using hlt
    simp -implicitDefEqProofs (disch := omega) only [go_sem, ↓reduceIte, Nat.reduceAdd, Nat.reduceMul, Nat.reduceLeDiff, reduceCtorEq, Nat.reduceEqDiff, Nat.reduceBEq, Nat.reduceBNe, Option.some.injEq]
    rw [vIdx_miss p xs (fun j hj => ha j hj (by omega))]
end Go.Proofs.Ytmgkmkbjmaapeaa
