/- Made by vslgen.py: functions of package slices on slices of int64. -/
import Derived.Test.YtmgkmkbjmaapeaaZVB
import Derived.Test.YtmgkmkbjmaapeaaProg
set_option linter.all false
namespace Go.Proofs.Ytmgkmkbjmaapeaa
open Go.RowKit Go.V
attribute [local go_sem] List.getElem?_cons_succ List.getElem?_cons_zero List.set_cons_succ List.set_cons_zero List.map_cons List.map_nil List.length_cons List.length_nil List.all_cons List.all_nil List.drop_succ_cons List.drop_zero List.take_succ_cons List.take_zero List.flatMap_cons List.flatMap_nil List.cons_append List.nil_append List.append_nil List.headD_cons Value.oneCell' Bool.and_true Bool.true_and Bool.or_false Bool.false_or Bool.and_self Bool.not_true Bool.not_false and_true true_and beq_self_eq_true Bool.false_eq_true if_true if_false Nat.zero_add Nat.le_refl Option.isSome_some Option.isSome_none not_true_eq_false not_false_eq_true ne_eq List.reverse_nil bne_self_eq_false List.isPrefixOf Bool.not_eq_true Bool.and_false Bool.false_and Bool.true_or Bool.or_true decide_true decide_false List.replicate_succ List.replicate_zero exists_eq_left' exists_eq_left or_false or_true true_or false_or Option.map_some Option.map_none
set_option maxRecDepth 100000
abbrev mk_slices_IndexFunc_int64_int64_0 : List Bool := [false, false, true, true, true, true, true, false, false, true, true, true, true, true, true, true, true, true, true]
def code_slices_IndexFunc_int64_int64 : VCode := (.seq (.ops [
  ⟨(some 4), none, (.asg (.const (.int .i64 0)))⟩]) (.seq (.seq (.ops [
  ⟨(some 6), none, (.mv (.tmp 0))⟩,
  ⟨(some 7), none, (.len (.tmp 6))⟩,
  ⟨(some 8), none, (.mv (.const (.int .i64 0)))⟩]) (.block 0 (.loop mk_slices_IndexFunc_int64_int64_0 (.seq (.ops [
  ⟨(some 9), none, (.bin .lss (.tmp 8) (.tmp 7))⟩]) (.seq (.cond (.tmp 9) .skip (.exit 0)) (.seq (.block 1 (.seq (.ops [
  ⟨(some 10), none, (.mv (.tmp 8))⟩,
  ⟨(some 5), none, (.asg (.tmp 10))⟩]) (.seq (.ops [
  ⟨(some 11), none, (.mv (.tmp 1))⟩,
  ⟨(some 12), none, (.mv (.tmp 0))⟩,
  ⟨(some 13), none, (.mv (.tmp 5))⟩,
  ⟨(some 14), none, (.ia 1 (.tmp 12) (.tmp 13))⟩,
  ⟨(some 15), none, (.load 1 false (.tmp 14))⟩,
  ⟨(some 16), none, (.callvX (.tmp 11) [(.tmp 15)])⟩]) (.cond (.tmp 16) (.seq (.ops [
  ⟨(some 17), none, (.mv (.tmp 5))⟩,
  ⟨(some 4), none, (.asg (.tmp 17))⟩]) .ret) .skip)))) (.ops [
  ⟨(some 18), none, (.bin .add (.tmp 8) (.const (.int .i64 1)))⟩,
  ⟨(some 8), none, (.mv (.tmp 18))⟩]))))))) (.seq (.ops [
  ⟨(some 4), none, (.asg (.const (.int .i64 (-1))))⟩]) .ret)))
theorem law_slices_IndexFunc_int64_int64 {a0 a1 d : D} (h : code_slices_IndexFunc_int64_int64.wp (CT Try.prog NoG) (endQ [(.t 4)] d) [a0, a1, .undef, .undef, .undef, .undef, .undef, .undef, .undef, .undef, .undef, .undef, .undef, .undef, .undef, .undef, .undef, .undef, .undef]) : Contract Try.prog NoG 105 [a0, a1] d :=
  contract_of noG Try.func105 (fun us W => by kernel_rfl) (c := Try.f105.body.getD .skip) (ms := [mk_slices_IndexFunc_int64_int64_0]) (ms' := []) (by kernel_rfl) (by kernel_rfl) (by kernel_rfl) h
theorem v_IndexFunc_Int64 (f : FuncId) (caps : List D) (hd : CapsOK caps) (xs : List Int) (p : Int → Bool) (hc : ∀ x, x ∈ xs → Contract Try.prog NoG f (.v (.int .i64 x) :: caps) (.v (.bool (p x)))) (hn : xs.length ≤ 1099511627776) :
    Contract Try.prog NoG 105 [.sl false 1 (xs.map (rI)), .fn f [] caps] (.v (.int .i64 (vIdx p xs))) := by
  refine law_slices_IndexFunc_int64_int64 ?_
  unfold code_slices_IndexFunc_int64_int64
  simp -implicitDefEqProofs (disch := omega) only [go_sem, ↓reduceIte, Nat.reduceAdd, Nat.reduceMul, Nat.reduceLeDiff, reduceCtorEq, Nat.reduceEqDiff, Nat.reduceBEq, Nat.reduceBNe, Option.some.injEq , hd.owny, hd.pr]
  refine loop_st (fun i : Nat => [.sl false 1 (xs.map (rI)), .fn f [] caps, .undef, .undef, .undef, .undef, .undef, .v (.int .i64 (xs.map (rI)).length), .v (.int .i64 i), .undef, .undef, .undef, .undef, .undef, .undef, .undef, .undef, .undef, .undef]) (fun i => i ≤ xs.length ∧ ∀ j (hj : j < xs.length), j < i → p xs[j] = false) (fun i => xs.length - i) 0 ?_ ⟨Nat.zero_le _, fun j _ h => absurd h (Nat.not_lt_zero _)⟩ ?_
  · simp -implicitDefEqProofs (disch := omega) only [go_sem, ↓reduceIte, Nat.reduceAdd, Nat.reduceMul, Nat.reduceLeDiff, reduceCtorEq, Nat.reduceEqDiff, Nat.reduceBEq, Nat.reduceBNe, Option.some.injEq , hd.owny, hd.pr]
    (try simp -implicitDefEqProofs only [nleL_cc, nleL_nn, nle_self, nle_boxs, nle_aggs, nle_nils, and_self, and_true, true_and]) <;> repeat' (first | exact nle_of_eq rfl | exact nle_nil | apply And.intro | apply nle_sl | apply nleLL_cons | apply nleL_cons | exact nleL_nil | exact nleLL_nil | apply nle_box | apply nle_agg)
  rintro i ⟨hi, ha⟩
  simp -implicitDefEqProofs (disch := omega) only [go_sem, ↓reduceIte, Nat.reduceAdd, Nat.reduceMul, Nat.reduceLeDiff, reduceCtorEq, Nat.reduceEqDiff, Nat.reduceBEq, Nat.reduceBNe, Option.some.injEq , List.length_map, Int.toNat_natCast, Int.ofNat_lt, Int.natCast_nonneg, List.getElem?_map, Option.map_some, hd.owny, hd.pr]
  refine cond_split ?_ ?_ <;> intro hlt
  · have hlt : i < xs.length := by simpa using hlt
    have hx := List.getElem?_eq_getElem hlt
    simp -implicitDefEqProofs (disch := omega) only [go_sem, ↓reduceIte, Nat.reduceAdd, Nat.reduceMul, Nat.reduceLeDiff, reduceCtorEq, Nat.reduceEqDiff, Nat.reduceBEq, Nat.reduceBNe, Option.some.injEq , List.length_map, Int.toNat_natCast, Int.ofNat_lt, Int.natCast_nonneg, List.getElem?_map, Option.map_some, hlt, hx, hd.owny, hd.pr]
    have hcx := hc _ (List.getElem_mem hlt)
    refine callv_le (f := f) (first := []) (caps := caps) ?_ hcx ?_ (.inl rfl) ?_
    · simp -implicitDefEqProofs (disch := omega) only [go_sem, ↓reduceIte, Nat.reduceAdd, Nat.reduceMul, Nat.reduceLeDiff, reduceCtorEq, Nat.reduceEqDiff, Nat.reduceBEq, Nat.reduceBNe, Option.some.injEq , hd.owny]
    · refine leL_of_eq ?_
      simp only [List.nil_append, List.cons_append, List.map_cons, List.map_nil, hd.d8, List.map_append]
      simp only [deep, raw, List.getElem?_cons_succ, List.getElem?_cons_zero, List.map_cons, List.map_nil, TD.rows, immLL_rI, immLL_rB8, immLL_rS, immLL_rBo]
    simp -implicitDefEqProofs (disch := omega) only [go_sem, ↓reduceIte, Nat.reduceAdd, Nat.reduceMul, Nat.reduceLeDiff, reduceCtorEq, Nat.reduceEqDiff, Nat.reduceBEq, Nat.reduceBNe, Option.some.injEq , hd.owny, hd.pr]
    refine cond_split ?_ ?_ <;> intro hp
    · simp -implicitDefEqProofs (disch := omega) only [go_sem, ↓reduceIte, Nat.reduceAdd, Nat.reduceMul, Nat.reduceLeDiff, reduceCtorEq, Nat.reduceEqDiff, Nat.reduceBEq, Nat.reduceBNe, Option.some.injEq , hd.owny, hd.pr]
      rw [vIdx_hit p xs i hlt ha hp]
    · simp -implicitDefEqProofs (disch := omega) only [go_sem, ↓reduceIte, Nat.reduceAdd, Nat.reduceMul, Nat.reduceLeDiff, reduceCtorEq, Nat.reduceEqDiff, Nat.reduceBEq, Nat.reduceBNe, Option.some.injEq , wrN, hd.owny, hd.pr]
      refine ⟨i + 1, by omega, ⟨hlt, fun j hj h => ?_⟩, by (try simp -implicitDefEqProofs only [nleL_cc, nleL_nn, nle_self, nle_boxs, nle_aggs, nle_nils, and_self, and_true, true_and]) <;> repeat' (first | exact nle_of_eq rfl | exact nle_nil | apply And.intro | apply nle_sl | apply nleLL_cons | apply nleL_cons | exact nleL_nil | exact nleLL_nil | apply nle_box | apply nle_agg)⟩
      rcases Nat.lt_or_ge j i with h' | h'
      · exact ha j hj h'
      · have : j = i := by omega
        subst this
        exact hp
  · have hlt : ¬ i < xs.length := by simpa using hlt
    simp -implicitDefEqProofs (disch := omega) only [go_sem, ↓reduceIte, Nat.reduceAdd, Nat.reduceMul, Nat.reduceLeDiff, reduceCtorEq, Nat.reduceEqDiff, Nat.reduceBEq, Nat.reduceBNe, Option.some.injEq]
    rw [vIdx_miss p xs (fun j hj => ha j hj (by omega))]
def code_slices_ContainsFunc_int64_int64 : VCode := (.seq (.ops [
  ⟨(some 4), none, (.asg (.const (.bool false)))⟩]) (.seq (.ops [
  ⟨(some 5), none, (.mv (.tmp 0))⟩,
  ⟨(some 6), none, (.mv (.tmp 1))⟩,
  ⟨(some 7), none, (.callX 105 [(.tmp 5), (.tmp 6)])⟩,
  ⟨(some 8), none, (.bin .geq (.tmp 7) (.const (.int .i64 0)))⟩,
  ⟨(some 4), none, (.asg (.tmp 8))⟩]) .ret))
theorem law_slices_ContainsFunc_int64_int64 {a0 a1 d : D} (h : code_slices_ContainsFunc_int64_int64.wp (CT Try.prog NoG) (endQ [(.t 4)] d) [a0, a1, .undef, .undef, .undef, .undef, .undef, .undef, .undef]) : Contract Try.prog NoG 81 [a0, a1] d :=
  contract_of noG Try.func81 (fun us W => by kernel_rfl) (c := Try.f81.body.getD .skip) (ms := []) (ms' := []) (by kernel_rfl) (by kernel_rfl) (by kernel_rfl) h
theorem v_ContainsFunc_Int64 (f : FuncId) (caps : List D) (hd : CapsOK caps) (xs : List Int) (p : Int → Bool) (hc : ∀ x, x ∈ xs → Contract Try.prog NoG f (.v (.int .i64 x) :: caps) (.v (.bool (p x)))) (hn : xs.length ≤ 1099511627776) :
    Contract Try.prog NoG 81 [.sl false 1 (xs.map (rI)), .fn f [] caps] (.v (.bool (xs.any p))) := by
  refine law_slices_ContainsFunc_int64_int64 ?_
  unfold code_slices_ContainsFunc_int64_int64
  simp -implicitDefEqProofs (disch := omega) only [go_sem, ↓reduceIte, Nat.reduceAdd, Nat.reduceMul, Nat.reduceLeDiff, reduceCtorEq, Nat.reduceEqDiff, Nat.reduceBEq, Nat.reduceBNe, Option.some.injEq , hd.owny, hd.pr]
  refine call_le (v_IndexFunc_Int64 f caps hd xs p hc hn) ?_ (.inl rfl) ?_
  · refine leL_of_eq ?_
    simp only [List.map_cons, List.map_nil, deep, raw, List.getElem?_cons_succ, List.getElem?_cons_zero, TD.rows, immLL_rI, immLL_rB8, immLL_rS, immLL_rBo, hd.owny, hd.pr, hd.d7]
    try rfl
  simp -implicitDefEqProofs (disch := omega) only [go_sem, ↓reduceIte, Nat.reduceAdd, Nat.reduceMul, Nat.reduceLeDiff, reduceCtorEq, Nat.reduceEqDiff, Nat.reduceBEq, Nat.reduceBNe, Option.some.injEq]
  exact congrArg Value.bool (vIdx_any p xs)
abbrev mk_slices_Equal_int64_int64_0 : List Bool := [false, false, true, true, true, true, true, true, true, true, true, true, false, false, true, true, true, true, true, true, true, true, true, true, true, true]
abbrev mk_slices_Equal_int64_int64_1 : List Bool := [false, false, false, false, false, false, false, false, false, false, false, false, false, false, false, false, true, true, true, true, true, true, true, true]
abbrev mk_slices_Equal_int64_int64_2 : List Bool := [false, false, false, false, false, false, false, false, false, false, false, false, false, false, false, false, false, false, true, true, true, true, true, true]
abbrev mk_slices_Equal_int64_int64_3 : List Bool := [false, false, false, false, false, false, false, false, false, false, false, false, false, false, false, false, false, false, false, true, true, true, true, true]
abbrev mk_slices_Equal_int64_int64_4 : List Bool := [false, false, false, false, false, false, false, false, false, false, false, false, false, false, false, false, true, true, true, true, false, false, true, true]
abbrev mk_slices_Equal_int64_int64_5 : List Bool := [false, false, false, false, false, false, false, false, false, false, false, false, false, false, false, false, true, true, true, true, false, false, false, true]
def code_slices_Equal_int64_int64 : VCode := (.seq (.ops [
  ⟨(some 4), none, (.asg (.const (.bool false)))⟩]) (.seq (.seq (.ops [
  ⟨(some 6), none, (.mv (.tmp 0))⟩,
  ⟨(some 7), none, (.len (.tmp 6))⟩,
  ⟨(some 8), none, (.mv (.tmp 1))⟩,
  ⟨(some 9), none, (.len (.tmp 8))⟩,
  ⟨(some 10), none, (.bin .neq (.tmp 7) (.tmp 9))⟩]) (.cond (.tmp 10) (.seq (.ops [
  ⟨(some 4), none, (.asg (.const (.bool false)))⟩]) .ret) .skip)) (.seq (.seq (.ops [
  ⟨(some 11), none, (.mv (.tmp 0))⟩,
  ⟨(some 12), none, (.len (.tmp 11))⟩,
  ⟨(some 13), none, (.mv (.const (.int .i64 0)))⟩]) (.block 0 (.loop mk_slices_Equal_int64_int64_0 (.seq (.ops [
  ⟨(some 14), none, (.bin .lss (.tmp 13) (.tmp 12))⟩]) (.seq (.cond (.tmp 14) .skip (.exit 0)) (.seq (.block 1 (.seq (.ops [
  ⟨(some 15), none, (.mv (.tmp 13))⟩,
  ⟨(some 5), none, (.asg (.tmp 15))⟩]) (.seq (.draw mk_slices_Equal_int64_int64_1 [] [⟨0, mk_slices_Equal_int64_int64_1, [], ⟨(some 16), none, (.mv (.tmp 0))⟩⟩, ⟨1, mk_slices_Equal_int64_int64_1, [], ⟨(some 17), none, (.mv (.tmp 5))⟩⟩, ⟨2, mk_slices_Equal_int64_int64_2, [], ⟨(some 18), none, (.ia 1 (.tmp 16) (.tmp 17))⟩⟩, ⟨3, mk_slices_Equal_int64_int64_3, [], ⟨(some 19), none, (.load 1 false (.tmp 18))⟩⟩, ⟨4, mk_slices_Equal_int64_int64_1, [], ⟨(some 20), none, (.mv (.tmp 1))⟩⟩, ⟨5, mk_slices_Equal_int64_int64_1, [], ⟨(some 21), none, (.mv (.tmp 5))⟩⟩, ⟨6, mk_slices_Equal_int64_int64_4, [], ⟨(some 22), none, (.ia 1 (.tmp 20) (.tmp 21))⟩⟩, ⟨7, mk_slices_Equal_int64_int64_5, [], ⟨(some 23), none, (.load 1 false (.tmp 22))⟩⟩] [⟨(some 24), none, (.bin .neq (.tmp 19) (.tmp 23))⟩]) (.cond (.tmp 24) (.seq (.ops [
  ⟨(some 4), none, (.asg (.const (.bool false)))⟩]) .ret) .skip)))) (.ops [
  ⟨(some 25), none, (.bin .add (.tmp 13) (.const (.int .i64 1)))⟩,
  ⟨(some 13), none, (.mv (.tmp 25))⟩]))))))) (.seq (.ops [
  ⟨(some 4), none, (.asg (.const (.bool true)))⟩]) .ret))))
theorem law_slices_Equal_int64_int64 {a0 a1 d : D} (h : code_slices_Equal_int64_int64.wp (CT Try.prog NoG) (endQ [(.t 4)] d) [a0, a1, .undef, .undef, .undef, .undef, .undef, .undef, .undef, .undef, .undef, .undef, .undef, .undef, .undef, .undef, .undef, .undef, .undef, .undef, .undef, .undef, .undef, .undef, .undef, .undef]) : Contract Try.prog NoG 71 [a0, a1] d :=
  contract_of noG Try.func71 (fun us W => by kernel_rfl) (c := Try.f71.body.getD .skip) (ms := [mk_slices_Equal_int64_int64_0]) (ms' := []) (by kernel_rfl) (by kernel_rfl) (by kernel_rfl) h
theorem v_Equal_Int64 (xs ys : List Int) (hn : xs.length ≤ 1099511627776) : Contract Try.prog NoG 71 [.sl false 1 (xs.map (rI)), .sl false 1 (ys.map (rI))] (.v (.bool (decide (xs = ys)))) := by
  refine law_slices_Equal_int64_int64 ?_
  unfold code_slices_Equal_int64_int64
  simp -implicitDefEqProofs (disch := omega) only [go_sem, ↓reduceIte, Nat.reduceAdd, Nat.reduceMul, Nat.reduceLeDiff, reduceCtorEq, Nat.reduceEqDiff, Nat.reduceBEq, Nat.reduceBNe, Option.some.injEq , List.length_map]
  refine cond_split ?_ ?_ <;> intro h
  · simp -implicitDefEqProofs (disch := omega) only [go_sem, ↓reduceIte, Nat.reduceAdd, Nat.reduceMul, Nat.reduceLeDiff, reduceCtorEq, Nat.reduceEqDiff, Nat.reduceBEq, Nat.reduceBNe, Option.some.injEq]
    have : xs ≠ ys := fun e => by subst e; simp at h
    simp [this]
  · have hl : xs.length = ys.length := by simp at h; omega
    simp -implicitDefEqProofs (disch := omega) only [go_sem, ↓reduceIte, Nat.reduceAdd, Nat.reduceMul, Nat.reduceLeDiff, reduceCtorEq, Nat.reduceEqDiff, Nat.reduceBEq, Nat.reduceBNe, Option.some.injEq]
    refine loop_st (fun i : Nat => [.sl false 1 (xs.map (rI)), .sl false 1 (ys.map (rI)), .undef, .undef, .undef, .undef, .undef, .undef, .undef, .undef, .undef, .undef, .v (.int .i64 xs.length), .v (.int .i64 i), .undef, .undef, .undef, .undef, .undef, .undef, .undef, .undef, .undef, .undef, .undef, .undef]) (fun i => i ≤ xs.length ∧ xs.take i = ys.take i) (fun i => xs.length - i) 0 ?_ ⟨Nat.zero_le _, rfl⟩ ?_
    · simp -implicitDefEqProofs (disch := omega) only [go_sem, ↓reduceIte, Nat.reduceAdd, Nat.reduceMul, Nat.reduceLeDiff, reduceCtorEq, Nat.reduceEqDiff, Nat.reduceBEq, Nat.reduceBNe, Option.some.injEq , List.length_map]
      (try simp -implicitDefEqProofs only [nleL_cc, nleL_nn, nle_self, nle_boxs, nle_aggs, nle_nils, and_self, and_true, true_and]) <;> repeat' (first | exact nle_of_eq rfl | exact nle_nil | apply And.intro | apply nle_sl | apply nleLL_cons | apply nleL_cons | exact nleL_nil | exact nleLL_nil | apply nle_box | apply nle_agg)
    rintro i ⟨hi, ht⟩
    simp -implicitDefEqProofs (disch := omega) only [go_sem, ↓reduceIte, Nat.reduceAdd, Nat.reduceMul, Nat.reduceLeDiff, reduceCtorEq, Nat.reduceEqDiff, Nat.reduceBEq, Nat.reduceBNe, Option.some.injEq , List.length_map, Int.toNat_natCast, Int.ofNat_lt, Int.natCast_nonneg, List.getElem?_map, Option.map_some]
    refine cond_split ?_ ?_ <;> intro hlt
    · have h1 : i < xs.length := by simpa using hlt
      have h2 : i < ys.length := by omega
      have e1 := List.getElem?_eq_getElem h1
      have e2 := List.getElem?_eq_getElem h2
      simp -implicitDefEqProofs (disch := omega) only [go_sem, ↓reduceIte, Nat.reduceAdd, Nat.reduceMul, Nat.reduceLeDiff, reduceCtorEq, Nat.reduceEqDiff, Nat.reduceBEq, Nat.reduceBNe, Option.some.injEq , List.length_map, Int.toNat_natCast, Int.ofNat_lt, Int.natCast_nonneg, List.getElem?_map, Option.map_some, h1, h2, e1, e2]
      refine cond_split ?_ ?_ <;> intro hc
      · simp -implicitDefEqProofs (disch := omega) only [go_sem, ↓reduceIte, Nat.reduceAdd, Nat.reduceMul, Nat.reduceLeDiff, reduceCtorEq, Nat.reduceEqDiff, Nat.reduceBEq, Nat.reduceBNe, Option.some.injEq]
        have hne : xs[i] ≠ ys[i] := by simpa using hc
        have : xs ≠ ys := fun e => hne (by subst e; rfl)
        simp [this]
      · simp -implicitDefEqProofs (disch := omega) only [go_sem, ↓reduceIte, Nat.reduceAdd, Nat.reduceMul, Nat.reduceLeDiff, reduceCtorEq, Nat.reduceEqDiff, Nat.reduceBEq, Nat.reduceBNe, Option.some.injEq , wrN]
        have heq : xs[i] = ys[i] := by simpa using hc
        refine ⟨i + 1, by omega, ⟨h1, ?_⟩, by (try simp -implicitDefEqProofs only [nleL_cc, nleL_nn, nle_self, nle_boxs, nle_aggs, nle_nils, and_self, and_true, true_and]) <;> repeat' (first | exact nle_of_eq rfl | exact nle_nil | apply And.intro | apply nle_sl | apply nleLL_cons | apply nleL_cons | exact nleL_nil | exact nleLL_nil | apply nle_box | apply nle_agg)⟩
        rw [List.take_succ_eq_append_getElem h1, List.take_succ_eq_append_getElem h2, ht, heq]
    · have hge : ¬ i < xs.length := by simpa using hlt
      simp -implicitDefEqProofs (disch := omega) only [go_sem, ↓reduceIte, Nat.reduceAdd, Nat.reduceMul, Nat.reduceLeDiff, reduceCtorEq, Nat.reduceEqDiff, Nat.reduceBEq, Nat.reduceBNe, Option.some.injEq]
      have : xs = ys := by
        rw [List.take_of_length_le (by omega), List.take_of_length_le (by omega)] at ht
        exact ht
      simp [this]
end Go.Proofs.Ytmgkmkbjmaapeaa
