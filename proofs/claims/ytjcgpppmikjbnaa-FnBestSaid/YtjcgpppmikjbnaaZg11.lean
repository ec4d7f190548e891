/- Laws that the proof stands on. -/
import Derived.Test.YtjcgpppmikjbnaaZTdMeasure
import Derived.Test.YtjcgpppmikjbnaaZVCom
import Derived.Test.YtjcgpppmikjbnaaProg
import Derived.Test.YtjcgpppmikjbnaaZVSrc
set_option linter.all false
namespace Go.Proofs.Ytjcgpppmikjbnaa
open Go.RowKit Go.V
attribute [local go_sem] List.getElem?_cons_succ List.getElem?_cons_zero List.set_cons_succ List.set_cons_zero List.map_cons List.map_nil List.length_cons List.length_nil List.all_cons List.all_nil List.drop_succ_cons List.drop_zero List.take_succ_cons List.take_zero List.flatMap_cons List.flatMap_nil List.cons_append List.nil_append List.append_nil List.headD_cons Value.oneCell' Bool.and_true Bool.true_and Bool.or_false Bool.false_or Bool.and_self Bool.not_true Bool.not_false and_true true_and beq_self_eq_true Bool.false_eq_true if_true if_false Nat.zero_add Nat.reduceAdd Nat.reduceMul Nat.reduceLeDiff Nat.le_refl Option.isSome_some Option.isSome_none not_true_eq_false not_false_eq_true ne_eq reduceCtorEq List.reverse_nil bne_self_eq_false Nat.reduceEqDiff List.isPrefixOf Bool.not_eq_true Bool.and_false Bool.false_and Bool.true_or Bool.or_true decide_true decide_false Nat.reduceBEq Nat.reduceBNe List.replicate_succ List.replicate_zero exists_eq_left' exists_eq_left Option.some.injEq or_false or_true true_or false_or Option.map_some Option.map_none mB Nat.reduceMod Nat.reduceDiv
set_option maxRecDepth 100000
def domB (a b : Measure) : Bool :=
  !(decide (b.Tiles < a.Tiles) || decide (b.Kinds < a.Kinds) || decide (b.Glues < a.Glues) || decide (b.Area < a.Area) || decide (b.Misfits < a.Misfits)) &&
  decide (b.Strength ≤ a.Strength) && decide (b.Slack ≤ a.Slack) && !(decide (a.Tiles = b.Tiles) && decide (a.Kinds = b.Kinds) && decide (a.Glues = b.Glues) && decide (a.Area = b.Area) && decide (a.Strength = b.Strength) && decide (a.Misfits = b.Misfits) && decide (a.Slack = b.Slack))
def code_spec_Dominates : VCode := (.seq (.ops [
  ⟨(some 2), none, (.box (.tmp 0))⟩,
  ⟨(some 3), none, (.box (.tmp 1))⟩,
  ⟨(some 4), none, (.asg (.const (.bool false)))⟩]) (.seq (.ops [
  ⟨(some 5), none, (.fa 0 (.tmp 2))⟩,
  ⟨(some 6), none, (.load 1 false (.tmp 5))⟩,
  ⟨(some 7), none, (.fa 0 (.tmp 3))⟩,
  ⟨(some 8), none, (.load 1 false (.tmp 7))⟩,
  ⟨(some 9), none, (.bin .leq (.tmp 6) (.tmp 8))⟩,
  ⟨(some 10), none, (.mv (.tmp 9))⟩,
  ⟨(some 11), (some (10, true)), (.fa 1 (.tmp 2))⟩,
  ⟨(some 12), (some (10, true)), (.load 1 false (.tmp 11))⟩,
  ⟨(some 13), (some (10, true)), (.fa 1 (.tmp 3))⟩,
  ⟨(some 14), (some (10, true)), (.load 1 false (.tmp 13))⟩,
  ⟨(some 15), (some (10, true)), (.bin .leq (.tmp 12) (.tmp 14))⟩,
  ⟨(some 16), none, (.pick (.tmp 10) (.tmp 15) (.const (.bool false)))⟩,
  ⟨(some 17), none, (.mv (.tmp 16))⟩,
  ⟨(some 18), (some (17, true)), (.fa 2 (.tmp 2))⟩,
  ⟨(some 19), (some (17, true)), (.load 1 false (.tmp 18))⟩,
  ⟨(some 20), (some (17, true)), (.fa 2 (.tmp 3))⟩,
  ⟨(some 21), (some (17, true)), (.load 1 false (.tmp 20))⟩,
  ⟨(some 22), (some (17, true)), (.bin .leq (.tmp 19) (.tmp 21))⟩,
  ⟨(some 23), none, (.pick (.tmp 17) (.tmp 22) (.const (.bool false)))⟩,
  ⟨(some 24), none, (.mv (.tmp 23))⟩,
  ⟨(some 25), (some (24, true)), (.fa 3 (.tmp 2))⟩,
  ⟨(some 26), (some (24, true)), (.load 1 false (.tmp 25))⟩,
  ⟨(some 27), (some (24, true)), (.fa 3 (.tmp 3))⟩,
  ⟨(some 28), (some (24, true)), (.load 1 false (.tmp 27))⟩,
  ⟨(some 29), (some (24, true)), (.bin .leq (.tmp 26) (.tmp 28))⟩,
  ⟨(some 30), none, (.pick (.tmp 24) (.tmp 29) (.const (.bool false)))⟩,
  ⟨(some 31), none, (.mv (.tmp 30))⟩,
  ⟨(some 32), (some (31, true)), (.fa 5 (.tmp 2))⟩,
  ⟨(some 33), (some (31, true)), (.load 1 false (.tmp 32))⟩,
  ⟨(some 34), (some (31, true)), (.fa 5 (.tmp 3))⟩,
  ⟨(some 35), (some (31, true)), (.load 1 false (.tmp 34))⟩,
  ⟨(some 36), (some (31, true)), (.bin .leq (.tmp 33) (.tmp 35))⟩,
  ⟨(some 37), none, (.pick (.tmp 31) (.tmp 36) (.const (.bool false)))⟩,
  ⟨(some 38), none, (.mv (.tmp 37))⟩,
  ⟨(some 39), (some (38, true)), (.fa 4 (.tmp 2))⟩,
  ⟨(some 40), (some (38, true)), (.load 1 false (.tmp 39))⟩,
  ⟨(some 41), (some (38, true)), (.fa 4 (.tmp 3))⟩,
  ⟨(some 42), (some (38, true)), (.load 1 false (.tmp 41))⟩,
  ⟨(some 43), (some (38, true)), (.bin .geq (.tmp 40) (.tmp 42))⟩,
  ⟨(some 44), none, (.pick (.tmp 38) (.tmp 43) (.const (.bool false)))⟩,
  ⟨(some 45), none, (.mv (.tmp 44))⟩,
  ⟨(some 46), (some (45, true)), (.fa 6 (.tmp 2))⟩,
  ⟨(some 47), (some (45, true)), (.load 1 false (.tmp 46))⟩,
  ⟨(some 48), (some (45, true)), (.fa 6 (.tmp 3))⟩,
  ⟨(some 49), (some (45, true)), (.load 1 false (.tmp 48))⟩,
  ⟨(some 50), (some (45, true)), (.bin .geq (.tmp 47) (.tmp 49))⟩,
  ⟨(some 51), none, (.pick (.tmp 45) (.tmp 50) (.const (.bool false)))⟩,
  ⟨(some 52), none, (.mv (.tmp 51))⟩,
  ⟨(some 53), (some (52, true)), (.load 7 true (.tmp 2))⟩,
  ⟨(some 54), (some (52, true)), (.load 7 true (.tmp 3))⟩,
  ⟨(some 55), (some (52, true)), (.eqs true [1, 1, 1, 1, 1, 1, 1] (.tmp 53) (.tmp 54))⟩,
  ⟨(some 56), none, (.pick (.tmp 52) (.tmp 55) (.const (.bool false)))⟩,
  ⟨(some 4), none, (.asg (.tmp 56))⟩]) .ret))
theorem law_spec_Dominates {a0 a1 d : D} (h : code_spec_Dominates.wp (CT Try.prog NoG) (endQ [(.t 4)] d) [a0, a1, .undef, .undef, .undef, .undef, .undef, .undef, .undef, .undef, .undef, .undef, .undef, .undef, .undef, .undef, .undef, .undef, .undef, .undef, .undef, .undef, .undef, .undef, .undef, .undef, .undef, .undef, .undef, .undef, .undef, .undef, .undef, .undef, .undef, .undef, .undef, .undef, .undef, .undef, .undef, .undef, .undef, .undef, .undef, .undef, .undef, .undef, .undef, .undef, .undef, .undef, .undef, .undef, .undef, .undef, .undef]) : Contract Try.prog NoG 15 [a0, a1] d :=
  contract_of noG Try.func15 (fun us W => by kernel_rfl) (c := Try.f15.body.getD .skip) (ms := []) (ms' := []) (by kernel_rfl) (by kernel_rfl) (by kernel_rfl) h
def code_impl_Dominates : VCode := (.seq (.ops [
  ⟨(some 2), none, (.box (.tmp 0))⟩,
  ⟨(some 3), none, (.box (.tmp 1))⟩,
  ⟨(some 4), none, (.asg (.const (.bool false)))⟩]) (.seq (.ops [
  ⟨(some 6), none, (.fa 0 (.tmp 2))⟩,
  ⟨(some 7), none, (.load 1 false (.tmp 6))⟩,
  ⟨(some 8), none, (.fa 0 (.tmp 3))⟩,
  ⟨(some 9), none, (.load 1 false (.tmp 8))⟩,
  ⟨(some 10), none, (.bin .gtr (.tmp 7) (.tmp 9))⟩,
  ⟨(some 11), none, (.mv (.tmp 10))⟩,
  ⟨(some 12), (some (11, false)), (.fa 1 (.tmp 2))⟩,
  ⟨(some 13), (some (11, false)), (.load 1 false (.tmp 12))⟩,
  ⟨(some 14), (some (11, false)), (.fa 1 (.tmp 3))⟩,
  ⟨(some 15), (some (11, false)), (.load 1 false (.tmp 14))⟩,
  ⟨(some 16), (some (11, false)), (.bin .gtr (.tmp 13) (.tmp 15))⟩,
  ⟨(some 17), none, (.pick (.tmp 11) (.const (.bool true)) (.tmp 16))⟩,
  ⟨(some 18), none, (.mv (.tmp 17))⟩,
  ⟨(some 19), (some (18, false)), (.fa 2 (.tmp 2))⟩,
  ⟨(some 20), (some (18, false)), (.load 1 false (.tmp 19))⟩,
  ⟨(some 21), (some (18, false)), (.fa 2 (.tmp 3))⟩,
  ⟨(some 22), (some (18, false)), (.load 1 false (.tmp 21))⟩,
  ⟨(some 23), (some (18, false)), (.bin .gtr (.tmp 20) (.tmp 22))⟩,
  ⟨(some 24), none, (.pick (.tmp 18) (.const (.bool true)) (.tmp 23))⟩,
  ⟨(some 25), none, (.mv (.tmp 24))⟩,
  ⟨(some 26), (some (25, false)), (.fa 3 (.tmp 2))⟩,
  ⟨(some 27), (some (25, false)), (.load 1 false (.tmp 26))⟩,
  ⟨(some 28), (some (25, false)), (.fa 3 (.tmp 3))⟩,
  ⟨(some 29), (some (25, false)), (.load 1 false (.tmp 28))⟩,
  ⟨(some 30), (some (25, false)), (.bin .gtr (.tmp 27) (.tmp 29))⟩,
  ⟨(some 31), none, (.pick (.tmp 25) (.const (.bool true)) (.tmp 30))⟩,
  ⟨(some 32), none, (.mv (.tmp 31))⟩,
  ⟨(some 33), (some (32, false)), (.fa 5 (.tmp 2))⟩,
  ⟨(some 34), (some (32, false)), (.load 1 false (.tmp 33))⟩,
  ⟨(some 35), (some (32, false)), (.fa 5 (.tmp 3))⟩,
  ⟨(some 36), (some (32, false)), (.load 1 false (.tmp 35))⟩,
  ⟨(some 37), (some (32, false)), (.bin .gtr (.tmp 34) (.tmp 36))⟩,
  ⟨(some 38), none, (.pick (.tmp 32) (.const (.bool true)) (.tmp 37))⟩,
  ⟨(some 5), none, (.asg (.tmp 38))⟩]) (.seq (.ops [
  ⟨(some 39), none, (.mv (.tmp 5))⟩,
  ⟨(some 40), none, (.un .not (.tmp 39))⟩,
  ⟨(some 41), none, (.mv (.tmp 40))⟩,
  ⟨(some 42), (some (41, true)), (.fa 4 (.tmp 2))⟩,
  ⟨(some 43), (some (41, true)), (.load 1 false (.tmp 42))⟩,
  ⟨(some 44), (some (41, true)), (.fa 4 (.tmp 3))⟩,
  ⟨(some 45), (some (41, true)), (.load 1 false (.tmp 44))⟩,
  ⟨(some 46), (some (41, true)), (.bin .geq (.tmp 43) (.tmp 45))⟩,
  ⟨(some 47), none, (.pick (.tmp 41) (.tmp 46) (.const (.bool false)))⟩,
  ⟨(some 48), none, (.mv (.tmp 47))⟩,
  ⟨(some 49), (some (48, true)), (.fa 6 (.tmp 2))⟩,
  ⟨(some 50), (some (48, true)), (.load 1 false (.tmp 49))⟩,
  ⟨(some 51), (some (48, true)), (.fa 6 (.tmp 3))⟩,
  ⟨(some 52), (some (48, true)), (.load 1 false (.tmp 51))⟩,
  ⟨(some 53), (some (48, true)), (.bin .geq (.tmp 50) (.tmp 52))⟩,
  ⟨(some 54), none, (.pick (.tmp 48) (.tmp 53) (.const (.bool false)))⟩,
  ⟨(some 55), none, (.mv (.tmp 54))⟩,
  ⟨(some 56), (some (55, true)), (.load 7 true (.tmp 2))⟩,
  ⟨(some 57), (some (55, true)), (.load 7 true (.tmp 3))⟩,
  ⟨(some 58), (some (55, true)), (.eqs true [1, 1, 1, 1, 1, 1, 1] (.tmp 56) (.tmp 57))⟩,
  ⟨(some 59), none, (.pick (.tmp 55) (.tmp 58) (.const (.bool false)))⟩,
  ⟨(some 4), none, (.asg (.tmp 59))⟩]) .ret)))
theorem law_impl_Dominates {a0 a1 d : D} (h : code_impl_Dominates.wp (CT Try.prog NoG) (endQ [(.t 4)] d) [a0, a1, .undef, .undef, .undef, .undef, .undef, .undef, .undef, .undef, .undef, .undef, .undef, .undef, .undef, .undef, .undef, .undef, .undef, .undef, .undef, .undef, .undef, .undef, .undef, .undef, .undef, .undef, .undef, .undef, .undef, .undef, .undef, .undef, .undef, .undef, .undef, .undef, .undef, .undef, .undef, .undef, .undef, .undef, .undef, .undef, .undef, .undef, .undef, .undef, .undef, .undef, .undef, .undef, .undef, .undef, .undef, .undef, .undef, .undef]) : Contract Try.prog NoG 8 [a0, a1] d :=
  contract_of noG Try.func8 (fun us W => by kernel_rfl) (c := Try.f8.body.getD .skip) (ms := []) (ms' := []) (by kernel_rfl) (by kernel_rfl) (by kernel_rfl) h
set_option maxHeartbeats 2000000 in
theorem v_Dominates_spec (a b : Measure) : Contract Try.prog NoG 15 [.agg (Measure.td.d false a), .agg (Measure.td.d false b)] (.v (.bool (domB a b))) := by
  rw [Measure.td_d, Measure.td_d]; refine law_spec_Dominates ?_; unfold code_spec_Dominates; simp -implicitDefEqProofs (disch := omega) only [go_sem, ↓reduceIte]
  repeat' (first | (refine guard_split ?_ ?_ <;> intro h <;> try (simp -implicitDefEqProofs (disch := omega) only [go_sem, ↓reduceIte, h])) | (refine gd_split ?_ ?_ <;> intro h <;> try (simp -implicitDefEqProofs (disch := omega) only [go_sem, ↓reduceIte, h])) | (refine cond_split ?_ ?_ <;> intro h <;> try (simp -implicitDefEqProofs (disch := omega) only [go_sem, ↓reduceIte, h])))
  all_goals (simp only [Bool.not_eq_true', Bool.not_eq_false', decide_eq_true_eq, decide_eq_false_iff_not] at *)
  all_goals (apply congrArg Value.bool; rw [Bool.eq_iff_iff]; simp [domB]; try omega)
set_option maxHeartbeats 2000000 in
theorem v_Dominates_impl (a b : Measure) : Contract Try.prog NoG 8 [.agg (Measure.td.d false a), .agg (Measure.td.d false b)] (.v (.bool (domB a b))) := by
  rw [Measure.td_d, Measure.td_d]; refine law_impl_Dominates ?_; unfold code_impl_Dominates; simp -implicitDefEqProofs (disch := omega) only [go_sem, ↓reduceIte]
  repeat' (first | (refine guard_split ?_ ?_ <;> intro h <;> try (simp -implicitDefEqProofs (disch := omega) only [go_sem, ↓reduceIte, h])) | (refine gd_split ?_ ?_ <;> intro h <;> try (simp -implicitDefEqProofs (disch := omega) only [go_sem, ↓reduceIte, h])) | (refine cond_split ?_ ?_ <;> intro h <;> try (simp -implicitDefEqProofs (disch := omega) only [go_sem, ↓reduceIte, h])))
  all_goals (simp only [Bool.not_eq_true', Bool.not_eq_false', decide_eq_true_eq, decide_eq_false_iff_not] at *)
  all_goals (apply congrArg Value.bool; rw [Bool.eq_iff_iff]; simp [domB]; try omega)
def code_slices_IndexFunc_impl_Measure_impl_Measure : VCode := (.seq (.ops [
  ⟨(some 4), none, (.asg (.const (.int .i64 0)))⟩]) (.seq (.seq (.ops [
  ⟨(some 6), none, (.mv (.tmp 0))⟩,
  ⟨(some 7), none, (.len (.tmp 6))⟩,
  ⟨(some 8), none, (.mv (.const (.int .i64 0)))⟩]) (.block 0 (.loop (mB 19 523900) (.seq (.ops [
  ⟨(some 9), none, (.bin .lss (.tmp 8) (.tmp 7))⟩]) (.seq (.cond (.tmp 9) .skip (.exit 0)) (.seq (.block 1 (.seq (.ops [
  ⟨(some 10), none, (.mv (.tmp 8))⟩,
  ⟨(some 5), none, (.asg (.tmp 10))⟩]) (.seq (.ops [
  ⟨(some 11), none, (.mv (.tmp 1))⟩,
  ⟨(some 12), none, (.mv (.tmp 0))⟩,
  ⟨(some 13), none, (.mv (.tmp 5))⟩,
  ⟨(some 14), none, (.ia 7 (.tmp 12) (.tmp 13))⟩,
  ⟨(some 15), none, (.load 7 true (.tmp 14))⟩,
  ⟨(some 16), none, (.callvX (.tmp 11) [(.tmp 15)])⟩]) (.cond (.tmp 16) (.seq (.ops [
  ⟨(some 17), none, (.mv (.tmp 5))⟩,
  ⟨(some 4), none, (.asg (.tmp 17))⟩]) .ret) .skip)))) (.ops [
  ⟨(some 18), none, (.bin .add (.tmp 8) (.const (.int .i64 1)))⟩,
  ⟨(some 8), none, (.mv (.tmp 18))⟩]))))))) (.seq (.ops [
  ⟨(some 4), none, (.asg (.const (.int .i64 (-1))))⟩]) .ret)))
theorem law_slices_IndexFunc_impl_Measure_impl_Measure {a0 a1 d : D} (h : code_slices_IndexFunc_impl_Measure_impl_Measure.wp (CT Try.prog NoG) (endQ [(.t 4)] d) [a0, a1, .undef, .undef, .undef, .undef, .undef, .undef, .undef, .undef, .undef, .undef, .undef, .undef, .undef, .undef, .undef, .undef, .undef]) : Contract Try.prog NoG 18 [a0, a1] d :=
  contract_of noG Try.func18 (fun us W => by kernel_rfl) (c := Try.f18.body.getD .skip) (ms := [(mB 19 523900)]) (ms' := []) (by kernel_rfl) (by kernel_rfl) (by kernel_rfl) h
theorem v_IndexFunc_Measure (f : FuncId) (caps : List D) (hd : CapsOK caps) (xs : List Measure) (p : Measure → Bool) (hc : ∀ x, x ∈ xs → Contract Try.prog NoG f (.agg (Measure.td.d false x) :: caps) (.v (.bool (p x)))) (hn : xs.length ≤ 1099511627776) :
    Contract Try.prog NoG 18 [.sl false 7 (xs.map (Measure.td.d false)), .fn f [] caps] (.v (.int .i64 (vIdx p xs))) := by
  refine law_slices_IndexFunc_impl_Measure_impl_Measure ?_; unfold code_slices_IndexFunc_impl_Measure_impl_Measure; simp -implicitDefEqProofs (disch := omega) only [go_sem, ↓reduceIte , hd.owny, hd.pr]; refine loop_st (fun i : Nat => [.sl false 7 (xs.map (Measure.td.d false)), .fn f [] caps, .undef, .undef, .undef, .undef, .undef, .v (.int .i64 (xs.map (Measure.td.d false)).length), .v (.int .i64 i), .undef, .undef, .undef, .undef, .undef, .undef, .undef, .undef, .undef, .undef]) (fun i => i ≤ xs.length ∧ ∀ j (hj : j < xs.length), j < i → p xs[j] = false) (fun i => xs.length - i) 0 ?_ ⟨Nat.zero_le _, fun j _ h => absurd h (Nat.not_lt_zero _)⟩ ?_
  · simp -implicitDefEqProofs (disch := omega) only [go_sem, ↓reduceIte , hd.owny, hd.pr]
    (try simp -implicitDefEqProofs only [nleL_cc, nleL_nn, nle_self, nle_boxs, nle_aggs, nle_nils, and_self, and_true, true_and]) <;> repeat' (first | exact nle_of_eq rfl | exact nle_nil | apply And.intro | apply nle_sl | apply nleLL_cons | apply nleL_cons | exact nleL_nil | exact nleLL_nil | apply nle_box | apply nle_agg)
  rintro i ⟨hi, ha⟩; simp -implicitDefEqProofs (disch := omega) only [go_sem, ↓reduceIte , List.length_map, Int.toNat_natCast, Int.ofNat_lt, Int.natCast_nonneg, List.getElem?_map, Option.map_some, hd.owny, hd.pr]; refine cond_split ?_ ?_ <;> intro hlt
  · have hlt : i < xs.length := (by simpa using hlt); have hx := List.getElem?_eq_getElem hlt; simp -implicitDefEqProofs (disch := omega) only [go_sem, ↓reduceIte , List.length_map, Int.toNat_natCast, Int.ofNat_lt, Int.natCast_nonneg, List.getElem?_map, Option.map_some, hlt, hx, Measure.td_d, hd.owny, hd.pr]; have hcx := hc _ (List.getElem_mem hlt); rw [Measure.td_d] at hcx; refine callv_le (f := f) (first := []) (caps := caps) ?_ hcx ?_ (.inl rfl) ?_
    · simp -implicitDefEqProofs (disch := omega) only [go_sem, ↓reduceIte , hd.owny]
    · refine leL_of_eq ?_; simp only [List.nil_append, List.cons_append, List.map_cons, List.map_nil, hd.d8, List.map_append]; simp only [deep, raw, List.getElem?_cons_succ, List.getElem?_cons_zero, List.map_cons, List.map_nil, TD.rows, immLL_rI, immLL_rB8, immLL_rS, immLL_rBo]
    simp -implicitDefEqProofs (disch := omega) only [go_sem, ↓reduceIte , hd.owny, hd.pr]; refine cond_split ?_ ?_ <;> intro hp
    · simp -implicitDefEqProofs (disch := omega) only [go_sem, ↓reduceIte , hd.owny, hd.pr]; rw [vIdx_hit p xs i hlt ha hp]
    · simp -implicitDefEqProofs (disch := omega) only [go_sem, ↓reduceIte , wrN, hd.owny, hd.pr]; refine ⟨i + 1, by omega, ⟨hlt, fun j hj h => ?_⟩, by (try simp -implicitDefEqProofs only [nleL_cc, nleL_nn, nle_self, nle_boxs, nle_aggs, nle_nils, and_self, and_true, true_and]) <;> repeat' (first | exact nle_of_eq rfl | exact nle_nil | apply And.intro | apply nle_sl | apply nleLL_cons | apply nleL_cons | exact nleL_nil | exact nleLL_nil | apply nle_box | apply nle_agg)⟩; rcases Nat.lt_or_ge j i with h' | h'
      · exact ha j hj h'
      · have : j = i := (by omega); subst this; exact hp
  · have hlt : ¬ i < xs.length := (by simpa using hlt); simp -implicitDefEqProofs (disch := omega) only [go_sem, ↓reduceIte]; rw [vIdx_miss p xs (fun j hj => ha j hj (by omega))]
def code_slices_ContainsFunc_impl_Measure_impl_Measure : VCode := (.seq (.ops [
  ⟨(some 4), none, (.asg (.const (.bool false)))⟩]) (.seq (.ops [
  ⟨(some 5), none, (.mv (.tmp 0))⟩,
  ⟨(some 6), none, (.mv (.tmp 1))⟩,
  ⟨(some 7), none, (.callX 18 [(.tmp 5), (.tmp 6)])⟩,
  ⟨(some 8), none, (.bin .geq (.tmp 7) (.const (.int .i64 0)))⟩,
  ⟨(some 4), none, (.asg (.tmp 8))⟩]) .ret))
theorem law_slices_ContainsFunc_impl_Measure_impl_Measure {a0 a1 d : D} (h : code_slices_ContainsFunc_impl_Measure_impl_Measure.wp (CT Try.prog NoG) (endQ [(.t 4)] d) [a0, a1, .undef, .undef, .undef, .undef, .undef, .undef, .undef]) : Contract Try.prog NoG 13 [a0, a1] d :=
  contract_of noG Try.func13 (fun us W => by kernel_rfl) (c := Try.f13.body.getD .skip) (ms := []) (ms' := []) (by kernel_rfl) (by kernel_rfl) (by kernel_rfl) h
theorem v_ContainsFunc_Measure (f : FuncId) (caps : List D) (hd : CapsOK caps) (xs : List Measure) (p : Measure → Bool) (hc : ∀ x, x ∈ xs → Contract Try.prog NoG f (.agg (Measure.td.d false x) :: caps) (.v (.bool (p x)))) (hn : xs.length ≤ 1099511627776) :
    Contract Try.prog NoG 13 [.sl false 7 (xs.map (Measure.td.d false)), .fn f [] caps] (.v (.bool (xs.any p))) := by
  refine law_slices_ContainsFunc_impl_Measure_impl_Measure ?_; unfold code_slices_ContainsFunc_impl_Measure_impl_Measure; simp -implicitDefEqProofs (disch := omega) only [go_sem, ↓reduceIte , hd.owny, hd.pr]; refine call_le (v_IndexFunc_Measure f caps hd xs p hc hn) ?_ (.inl rfl) ?_
  · refine leL_of_eq ?_; simp only [List.map_cons, List.map_nil, deep, raw, List.getElem?_cons_succ, List.getElem?_cons_zero, TD.rows, immLL_rI, immLL_rB8, immLL_rS, immLL_rBo, hd.owny, hd.pr, hd.d7]
    try rfl
  simp -implicitDefEqProofs (disch := omega) only [go_sem, ↓reduceIte]; exact congrArg Value.bool (vIdx_any p xs)
def bestAt (q : List Measure) (i : Nat) : Bool := match q[i]? with
  | some m => !q.any (fun o => domB o m)
  | none => false
def bestL (q : List Measure) (i : Nat) : List Int := ((List.range i).filter (bestAt q)).map (fun n : Nat => (n : Int))
theorem bestL_t {q : List Measure} {i : Nat} (h : bestAt q i = true) : bestL q (i + 1) = bestL q i ++ [(i : Int)] := by simp [bestL, List.range_succ, h]
theorem bestL_f {q : List Measure} {i : Nat} (h : bestAt q i = false) : bestL q (i + 1) = bestL q i := by simp [bestL, List.range_succ, h]
theorem bestL_len (q : List Measure) (i : Nat) : (bestL q i).length ≤ i := by rw [bestL, List.length_map]; exact Nat.le_trans (List.length_filter_le _ _) (by simp)
def bestR (q : List Measure) : List Int := if 60 < q.length then [] else bestL q q.length
def bestC (q : List Measure) : Int := if 60 < q.length then 2 else 0
def code_spec_BestMeasures : VCode := (.seq (.ops [
  ⟨(some 2), none, (.asg (.const (.slice none 0 0)))⟩,
  ⟨(some 3), none, (.asg (.const (.int .i64 0)))⟩]) (.seq (.seq (.ops [
  ⟨(some 8), none, (.mv (.tmp 0))⟩,
  ⟨(some 9), none, (.len (.tmp 8))⟩,
  ⟨(some 10), none, (.bin .gtr (.tmp 9) (.const (.int .i64 60)))⟩]) (.cond (.tmp 10) (.seq (.ops [
  ⟨(some 11), none, (.bsl 1 [])⟩,
  ⟨(some 2), none, (.asg (.tmp 11))⟩,
  ⟨(some 3), none, (.asg (.const (.int .i64 2)))⟩]) .ret) .skip)) (.seq (.ops [
  ⟨(some 12), none, (.bsl 1 [])⟩,
  ⟨(some 4), none, (.asg (.tmp 12))⟩]) (.seq (.seq (.ops [
  ⟨(some 5), none, (.asg (.const (.int .i64 0)))⟩]) (.block 0 (.loop (mB 44 10445360459726) (.seq (.seq (.ops [
  ⟨(some 13), none, (.mv (.tmp 5))⟩,
  ⟨(some 14), none, (.mv (.tmp 0))⟩,
  ⟨(some 15), none, (.len (.tmp 14))⟩,
  ⟨(some 16), none, (.bin .lss (.tmp 13) (.tmp 15))⟩]) (.cond (.tmp 16) .skip (.exit 0))) (.seq (.block 1 (.seq (.ops [
  ⟨(some 6), none, (.asg (.const (.bool true)))⟩]) (.seq (.seq (.ops [
  ⟨(some 7), none, (.asg (.const (.int .i64 0)))⟩]) (.block 2 (.loop (mB 44 10445360459534) (.seq (.seq (.ops [
  ⟨(some 19), none, (.mv (.tmp 7))⟩,
  ⟨(some 20), none, (.mv (.tmp 0))⟩,
  ⟨(some 21), none, (.len (.tmp 20))⟩,
  ⟨(some 22), none, (.bin .lss (.tmp 19) (.tmp 21))⟩]) (.cond (.tmp 22) .skip (.exit 2))) (.seq (.block 3 (.draw (mB 35 34326183936) [] [⟨0, (mB 35 34326183936), [], ⟨(some 25), none, (.mv (.tmp 6))⟩⟩, ⟨1, (mB 35 34292629504), [], ⟨(some 26), none, (.mv (.tmp 25))⟩⟩, ⟨2, (mB 35 34225520640), [], ⟨(some 27), (some (26, true)), (.mv (.tmp 0))⟩⟩, ⟨3, (mB 35 34225520640), [], ⟨(some 28), (some (26, true)), (.mv (.tmp 7))⟩⟩, ⟨4, (mB 35 33822867456), [], ⟨(some 29), (some (26, true)), (.ia 7 (.tmp 27) (.tmp 28))⟩⟩, ⟨5, (mB 35 33285996544), [], ⟨(some 30), (some (26, true)), (.load 7 true (.tmp 29))⟩⟩, ⟨6, (mB 35 34225520640), [], ⟨(some 31), (some (26, true)), (.mv (.tmp 0))⟩⟩, ⟨7, (mB 35 34225520640), [], ⟨(some 32), (some (26, true)), (.mv (.tmp 5))⟩⟩, ⟨8, (mB 35 27783069696), [], ⟨(some 33), (some (26, true)), (.ia 7 (.tmp 31) (.tmp 32))⟩⟩, ⟨9, (mB 35 19193135104), [], ⟨(some 34), (some (26, true)), (.load 7 true (.tmp 33))⟩⟩] [⟨(some 35), (some (26, true)), (.callX 15 [(.tmp 30), (.tmp 34)])⟩, ⟨(some 36), (some (26, true)), (.un .not (.tmp 35))⟩, ⟨(some 37), none, (.pick (.tmp 26) (.tmp 36) (.const (.bool false)))⟩, ⟨(some 6), none, (.asg (.tmp 37))⟩])) (.ops [
  ⟨(some 23), none, (.mv (.tmp 7))⟩,
  ⟨(some 24), none, (.bin .add (.tmp 23) (.const (.int .i64 1)))⟩,
  ⟨(some 7), none, (.asg (.tmp 24))⟩])))))) (.seq (.ops [
  ⟨(some 38), none, (.mv (.tmp 6))⟩]) (.cond (.tmp 38) (.ops [
  ⟨(some 39), none, (.mv (.tmp 4))⟩,
  ⟨(some 40), none, (.mv (.tmp 5))⟩,
  ⟨(some 41), none, (.bsl 1 [(.tmp 40)])⟩,
  ⟨(some 42), none, (.app 1 8 (.tmp 39) (.tmp 41))⟩,
  ⟨(some 4), none, (.asg (.tmp 42))⟩]) .skip))))) (.ops [
  ⟨(some 17), none, (.mv (.tmp 5))⟩,
  ⟨(some 18), none, (.bin .add (.tmp 17) (.const (.int .i64 1)))⟩,
  ⟨(some 5), none, (.asg (.tmp 18))⟩])))))) (.seq (.ops [
  ⟨(some 43), none, (.mv (.tmp 4))⟩,
  ⟨(some 2), none, (.asg (.tmp 43))⟩,
  ⟨(some 3), none, (.asg (.const (.int .i64 0)))⟩]) .ret)))))
theorem law_spec_BestMeasures {a0 d : D} (h : code_spec_BestMeasures.wp (CT Try.prog NoG) (endQ [(.t 2), (.t 3)] d) [a0, .undef, .undef, .undef, .undef, .undef, .undef, .undef, .undef, .undef, .undef, .undef, .undef, .undef, .undef, .undef, .undef, .undef, .undef, .undef, .undef, .undef, .undef, .undef, .undef, .undef, .undef, .undef, .undef, .undef, .undef, .undef, .undef, .undef, .undef, .undef, .undef, .undef, .undef, .undef, .undef, .undef, .undef, .undef]) : Contract Try.prog NoG 7 [a0] d :=
  contract_of noG Try.func7 (fun us W => by kernel_rfl) (c := Try.f7.body.getD .skip) (ms := [(mB 44 10445360459726), (mB 44 10445360459534)]) (ms' := []) (by kernel_rfl) (by kernel_rfl) (by kernel_rfl) h
def code_impl_BestMeasures : VCode := (.seq (.ops [
  ⟨(some 2), none, (.asg (.const (.slice none 0 0)))⟩,
  ⟨(some 3), none, (.asg (.const (.int .i64 0)))⟩]) (.seq (.seq (.ops [
  ⟨(some 7), none, (.mv (.tmp 0))⟩,
  ⟨(some 8), none, (.len (.tmp 7))⟩,
  ⟨(some 9), none, (.bin .gtr (.tmp 8) (.const (.int .i64 60)))⟩]) (.cond (.tmp 9) (.seq (.ops [
  ⟨(some 2), none, (.asg (.const (.slice none 0 0)))⟩,
  ⟨(some 3), none, (.asg (.const (.int .i64 2)))⟩]) .ret) .skip)) (.seq (.ops [
  ⟨(some 4), none, (.asg (.const (.slice none 0 0)))⟩]) (.seq (.seq (.ops [
  ⟨(some 10), none, (.mv (.tmp 0))⟩,
  ⟨(some 11), none, (.len (.tmp 10))⟩,
  ⟨(some 12), none, (.mv (.const (.int .i64 0)))⟩]) (.block 0 (.loop (mB 27 106947566) (.seq (.ops [
  ⟨(some 13), none, (.bin .lss (.tmp 12) (.tmp 11))⟩]) (.seq (.cond (.tmp 13) .skip (.exit 0)) (.seq (.block 1 (.seq (.ops [
  ⟨(some 14), none, (.mv (.tmp 12))⟩,
  ⟨(some 15), none, (.ia 7 (.tmp 10) (.tmp 12))⟩,
  ⟨(some 16), none, (.load 7 true (.tmp 15))⟩,
  ⟨(some 6), none, (.alloc [(.int .i64 0), (.int .i64 0), (.int .i64 0), (.int .i64 0), (.int .i64 0), (.int .i64 0), (.int .i64 0)])⟩,
  ⟨(some 5), none, (.asg (.tmp 14))⟩,
  ⟨none, none, (.store 7 (.tmp 6) (.tmp 16))⟩]) (.seq (.ops [
  ⟨(some 17), none, (.mv (.tmp 0))⟩,
  ⟨(some 18), none, (.mkf 14 [] [(.tmp 6)])⟩,
  ⟨(some 19), none, (.callX 13 [(.tmp 17), (.tmp 18)])⟩,
  ⟨(some 20), none, (.un .not (.tmp 19))⟩]) (.cond (.tmp 20) (.ops [
  ⟨(some 21), none, (.mv (.tmp 4))⟩,
  ⟨(some 22), none, (.mv (.tmp 5))⟩,
  ⟨(some 23), none, (.bsl 1 [(.tmp 22)])⟩,
  ⟨(some 24), none, (.app 1 8 (.tmp 21) (.tmp 23))⟩,
  ⟨(some 4), none, (.asg (.tmp 24))⟩]) .skip)))) (.ops [
  ⟨(some 25), none, (.bin .add (.tmp 12) (.const (.int .i64 1)))⟩,
  ⟨(some 12), none, (.mv (.tmp 25))⟩]))))))) (.seq (.ops [
  ⟨(some 26), none, (.mv (.tmp 4))⟩,
  ⟨(some 2), none, (.asg (.tmp 26))⟩,
  ⟨(some 3), none, (.asg (.const (.int .i64 0)))⟩]) .ret)))))
theorem law_impl_BestMeasures {a0 d : D} (h : code_impl_BestMeasures.wp (CT Try.prog NoG) (endQ [(.t 2), (.t 3)] d) [a0, .undef, .undef, .undef, .undef, .undef, .undef, .undef, .undef, .undef, .undef, .undef, .undef, .undef, .undef, .undef, .undef, .undef, .undef, .undef, .undef, .undef, .undef, .undef, .undef, .undef, .undef]) : Contract Try.prog NoG 6 [a0] d :=
  contract_of noG Try.func6 (fun us W => by kernel_rfl) (c := Try.f6.body.getD .skip) (ms := [(mB 27 106947566)]) (ms' := []) (by kernel_rfl) (by kernel_rfl) (by kernel_rfl) h
def code_impl_BestMeasures_1 : VCode := (.seq (.ops [
  ⟨(some 2), none, (.box (.tmp 0))⟩,
  ⟨(some 3), none, (.asg (.const (.bool false)))⟩]) (.seq (.ops [
  ⟨(some 4), none, (.load 7 true (.tmp 2))⟩,
  ⟨(some 5), none, (.load 7 true (.tmp 1))⟩,
  ⟨(some 6), none, (.callX 8 [(.tmp 4), (.tmp 5)])⟩,
  ⟨(some 3), none, (.asg (.tmp 6))⟩]) .ret))
theorem law_impl_BestMeasures_1 {a0 a1 d : D} (h : code_impl_BestMeasures_1.wp (CT Try.prog NoG) (endQ [(.t 3)] d) [a0, a1, .undef, .undef, .undef, .undef, .undef]) : Contract Try.prog NoG 14 [a0, a1] d :=
  contract_of noG Try.func14 (fun us W => by kernel_rfl) (c := Try.f14.body.getD .skip) (ms := []) (ms' := []) (by kernel_rfl) (by kernel_rfl) (by kernel_rfl) h
theorem vBestMeasures_spec (q_aList : List Measure) (q_aList_ok : ∀ y, y ∈ q_aList → Measure.td.ok y) (q_aList_n : q_aList.length ≤ 1048576) : Contract Try.prog NoG 7 [.sl false 7 (q_aList.map (Measure.td.d false))] (.tup [.sl true 1 ((bestR q_aList).map (rI)), .v (.int .i64 (bestC q_aList))]) := by
  refine law_spec_BestMeasures ?_; unfold code_spec_BestMeasures; simp -implicitDefEqProofs (disch := omega) only [go_sem, ↓reduceIte , List.length_map]; refine cond_split ?_ ?_ <;> intro h
  · have h : 60 < q_aList.length := (by have := of_decide_eq_true h; omega); simp -implicitDefEqProofs (disch := omega) only [go_sem, ↓reduceIte , bestR, bestC, h]
  · have h : ¬ 60 < q_aList.length := (by have := of_decide_eq_false h; omega); simp -implicitDefEqProofs (disch := omega) only [go_sem, ↓reduceIte]; refine loop_st (fun i : Nat => [.sl false 7 (q_aList.map (Measure.td.d false)), .undef, .undef, .undef, .sl true 1 ((bestL q_aList i).map rI), .v (.int .i64 i), .undef, .undef, .undef, .undef, .undef, .undef, .undef, .undef, .undef, .undef, .undef, .undef, .undef, .undef, .undef, .undef, .undef, .undef, .undef, .undef, .undef, .undef, .undef, .undef, .undef, .undef, .undef, .undef, .undef, .undef, .undef, .undef, .undef, .undef, .undef, .undef, .undef, .undef]) (fun i => i ≤ q_aList.length) (fun i => q_aList.length - i) 0 (by (try simp -implicitDefEqProofs only [nleL_cc, nleL_nn, nle_self, nle_boxs, nle_aggs, nle_nils, and_self, and_true, true_and]) <;> repeat' (first | exact nle_of_eq rfl | exact nle_nil | apply And.intro | apply nle_sl | apply nleLL_cons | apply nleL_cons | exact nleL_nil | exact nleLL_nil | apply nle_box | apply nle_agg)) (Nat.zero_le _) ?_; intro i hi; simp -implicitDefEqProofs (disch := omega) only [go_sem, ↓reduceIte , List.length_map, Int.toNat_natCast, Int.ofNat_lt, Int.natCast_nonneg, List.getElem?_map, Option.map_some]; refine cond_split ?_ ?_ <;> intro hlt
    · have hlt : i < q_aList.length := (by simpa using hlt); have hx := List.getElem?_eq_getElem hlt; have hbl := bestL_len q_aList i; simp -implicitDefEqProofs (disch := omega) only [go_sem, ↓reduceIte]; refine loop_st (fun k : Nat => [.sl false 7 (q_aList.map (Measure.td.d false)), .undef, .undef, .undef, .sl true 1 ((bestL q_aList i).map rI), .v (.int .i64 i), .v (.bool (!(q_aList.take k).any (fun o => domB o q_aList[i]))), .v (.int .i64 k), .undef, .undef, .undef, .undef, .undef, .undef, .undef, .undef, .undef, .undef, .undef, .undef, .undef, .undef, .undef, .undef, .undef, .undef, .undef, .undef, .undef, .undef, .undef, .undef, .undef, .undef, .undef, .undef, .undef, .undef, .undef, .undef, .undef, .undef, .undef, .undef]) (fun k => k ≤ q_aList.length) (fun k => q_aList.length - k) 0 (by (try simp -implicitDefEqProofs only [nleL_cc, nleL_nn, nle_self, nle_boxs, nle_aggs, nle_nils, and_self, and_true, true_and]) <;> repeat' (first | exact nle_of_eq rfl | exact nle_nil | apply And.intro | apply nle_sl | apply nleLL_cons | apply nleL_cons | exact nleL_nil | exact nleLL_nil | apply nle_box | apply nle_agg)) (Nat.zero_le _) ?_
      · intro k hk; simp -implicitDefEqProofs (disch := omega) only [go_sem, ↓reduceIte , List.length_map, Int.toNat_natCast, Int.ofNat_lt, Int.natCast_nonneg, List.getElem?_map, Option.map_some]; refine cond_split ?_ ?_ <;> intro hlk
        · have hlk : k < q_aList.length := (by simpa using hlk); have hy := List.getElem?_eq_getElem hlk; have e1 : (q_aList.take (k + 1)).any (fun o => domB o q_aList[i]) = ((q_aList.take k).any (fun o => domB o q_aList[i]) || domB q_aList[k] q_aList[i]) := (by rw [List.take_succ_eq_append_getElem hlk, List.any_append]; simp); simp -implicitDefEqProofs (disch := omega) only [go_sem, ↓reduceIte]; refine gd_split ?_ ?_ <;> intro hb
          · simp -implicitDefEqProofs (disch := omega) only [go_sem, ↓reduceIte , hb, List.length_map, Int.toNat_natCast, Int.ofNat_lt, Int.natCast_nonneg, List.getElem?_map, Option.map_some, hlt, hlk, hx, hy, Measure.td_d]; refine call_leA (v_Dominates_spec q_aList[k] q_aList[i]) (by simp -implicitDefEqProofs (disch := omega) only [go_sem, ↓reduceIte, deep, TD.rows, immLL_rI, immLL_rB8, immLL_rS, immLL_rBo, immLL_rII, immLL_rIIt, hb, wrN]; exact rfl) (by repeat (first | exact leL_nil | refine leL_cons ?_ ?_ | exact le_of_eq rfl | exact le_iptrN (leL_of_eq rfl) | refine le_agg ?_ | exact le_slf rfl (TD.rows ..) | refine le_iptr ?_ | refine le_fn ?_ ?_)) (by first | exact .inl rfl | exact .inr rfl | exact .inl (by simp only [D.noImm, noImmL, go_sem, TD.nims, TD.nim, nim_rI, nim_rB8, nim_rBo, nim_rS])) ?_; simp -implicitDefEqProofs (disch := omega) only [go_sem, ↓reduceIte , hb, wrN]; refine ⟨k + 1, by omega, hlk, ?_⟩; simp only [Bool.not_eq_true'] at hb; rw [e1, hb, Bool.false_or]
            (try simp -implicitDefEqProofs only [nleL_cc, nleL_nn, nle_self, nle_boxs, nle_aggs, nle_nils, and_self, and_true, true_and]) <;> repeat' (first | exact nle_of_eq rfl | exact nle_nil | apply And.intro | apply nle_sl | apply nleLL_cons | apply nleL_cons | exact nleL_nil | exact nleLL_nil | apply nle_box | apply nle_agg)
          · simp -implicitDefEqProofs (disch := omega) only [go_sem, ↓reduceIte , hb, wrN]; refine ⟨k + 1, by omega, hlk, ?_⟩; simp only [Bool.not_eq_false'] at hb; rw [e1, hb, Bool.true_or]
            (try simp -implicitDefEqProofs only [nleL_cc, nleL_nn, nle_self, nle_boxs, nle_aggs, nle_nils, and_self, and_true, true_and]) <;> repeat' (first | exact nle_of_eq rfl | exact nle_nil | apply And.intro | apply nle_sl | apply nleLL_cons | apply nleL_cons | exact nleL_nil | exact nleLL_nil | apply nle_box | apply nle_agg)
        · have hlk : k = q_aList.length := (by have : ¬ k < q_aList.length := (by simpa using hlk); omega); subst hlk; have e2 : bestAt q_aList i = !q_aList.any (fun o => domB o q_aList[i]) := (by simp [bestAt, hx]); simp -implicitDefEqProofs (disch := omega) only [go_sem, ↓reduceIte , List.take_length]; refine cond_split ?_ ?_ <;> intro hb
          · simp -implicitDefEqProofs (disch := omega) only [go_sem, ↓reduceIte , hb, List.length_map, wrN]; refine ⟨by omega, i + 1, by omega, hlt, ?_⟩; rw [bestL_t (e2.trans hb), List.map_append]
            (try simp -implicitDefEqProofs only [nleL_cc, nleL_nn, nle_self, nle_boxs, nle_aggs, nle_nils, and_self, and_true, true_and]) <;> repeat' (first | exact nle_of_eq rfl | exact nle_nil | apply And.intro | apply nle_sl | apply nleLL_cons | apply nleL_cons | exact nleL_nil | exact nleLL_nil | apply nle_box | apply nle_agg)
          · simp -implicitDefEqProofs (disch := omega) only [go_sem, ↓reduceIte , hb, wrN]; refine ⟨i + 1, by omega, hlt, ?_⟩; rw [bestL_f (e2.trans hb)]
            (try simp -implicitDefEqProofs only [nleL_cc, nleL_nn, nle_self, nle_boxs, nle_aggs, nle_nils, and_self, and_true, true_and]) <;> repeat' (first | exact nle_of_eq rfl | exact nle_nil | apply And.intro | apply nle_sl | apply nleLL_cons | apply nleL_cons | exact nleL_nil | exact nleLL_nil | apply nle_box | apply nle_agg)
    · have hlt : i = q_aList.length := (by have : ¬ i < q_aList.length := (by simpa using hlt); omega); subst hlt; simp -implicitDefEqProofs (disch := omega) only [go_sem, ↓reduceIte , bestR, bestC, h]
theorem v_BestMeasures1 (a b : Measure) : Contract Try.prog NoG 14 [.agg (Measure.td.d false a), .iptr (Measure.td.d false b) 0] (.v (.bool (domB a b))) := by rw [Measure.td_d, Measure.td_d]; refine law_impl_BestMeasures_1 ?_; unfold code_impl_BestMeasures_1; simp -implicitDefEqProofs (disch := omega) only [go_sem, ↓reduceIte]; refine call_leA (v_Dominates_impl a b) (by simp -implicitDefEqProofs (disch := omega) only [go_sem, ↓reduceIte, deep, TD.rows, immLL_rI, immLL_rB8, immLL_rS, immLL_rBo, immLL_rII, immLL_rIIt]; exact rfl) (by repeat (first | exact leL_nil | refine leL_cons ?_ ?_ | exact le_of_eq rfl | exact le_iptrN (leL_of_eq rfl) | refine le_agg ?_ | exact le_slf rfl (TD.rows ..) | refine le_iptr ?_ | refine le_fn ?_ ?_)) (by first | exact .inl rfl | exact .inr rfl | exact .inl (by simp only [D.noImm, noImmL, go_sem, TD.nims, TD.nim, nim_rI, nim_rB8, nim_rBo, nim_rS])) ?_; simp -implicitDefEqProofs (disch := omega) only [go_sem, ↓reduceIte]
theorem vBestMeasures_impl (q_aList : List Measure) (q_aList_ok : ∀ y, y ∈ q_aList → Measure.td.ok y) (q_aList_n : q_aList.length ≤ 1048576) : Contract Try.prog NoG 6 [.sl false 7 (q_aList.map (Measure.td.d false))] (.tup [.sl true 1 ((bestR q_aList).map (rI)), .v (.int .i64 (bestC q_aList))]) := by
  refine law_impl_BestMeasures ?_; unfold code_impl_BestMeasures; simp -implicitDefEqProofs (disch := omega) only [go_sem, ↓reduceIte , List.length_map]; refine cond_split ?_ ?_ <;> intro h
  · have h : 60 < q_aList.length := (by have := of_decide_eq_true h; omega); simp -implicitDefEqProofs (disch := omega) only [go_sem, ↓reduceIte , bestR, bestC, h]
  · have h : ¬ 60 < q_aList.length := (by have := of_decide_eq_false h; omega); simp -implicitDefEqProofs (disch := omega) only [go_sem, ↓reduceIte]; refine loop_st (fun i : Nat => [.sl false 7 (q_aList.map (Measure.td.d false)), .undef, .undef, .undef, .sl true 1 ((bestL q_aList i).map rI), .undef, .undef, .undef, .undef, .undef, .sl false 7 (q_aList.map (Measure.td.d false)), .v (.int .i64 (q_aList.map (Measure.td.d false)).length), .v (.int .i64 i), .undef, .undef, .undef, .undef, .undef, .undef, .undef, .undef, .undef, .undef, .undef, .undef, .undef, .undef]) (fun i => i ≤ q_aList.length) (fun i => q_aList.length - i) 0 (by (try simp -implicitDefEqProofs only [nleL_cc, nleL_nn, nle_self, nle_boxs, nle_aggs, nle_nils, and_self, and_true, true_and]) <;> repeat' (first | exact nle_of_eq rfl | exact nle_nil | apply And.intro | apply nle_sl | apply nleLL_cons | apply nleL_cons | exact nleL_nil | exact nleLL_nil | apply nle_box | apply nle_agg)) (Nat.zero_le _) ?_; intro i hi; simp -implicitDefEqProofs (disch := omega) only [go_sem, ↓reduceIte , List.length_map, Int.toNat_natCast, Int.ofNat_lt, Int.natCast_nonneg, List.getElem?_map, Option.map_some]; refine cond_split ?_ ?_ <;> intro hlt
    · have hlt : i < q_aList.length := (by simpa using hlt); have hx := List.getElem?_eq_getElem hlt; have hbl := bestL_len q_aList i; have e2 : bestAt q_aList i = !q_aList.any (fun o => domB o q_aList[i]) := (by simp [bestAt, hx]); simp -implicitDefEqProofs (disch := omega) only [go_sem, ↓reduceIte , List.length_map, Int.toNat_natCast, Int.ofNat_lt, Int.natCast_nonneg, List.getElem?_map, Option.map_some, hlt, hx, Measure.td_d]; refine call_leA (v_ContainsFunc_Measure _ [.iptr (Measure.td.d false q_aList[i]) 0] ⟨rfl, fun _ => rfl, fun _ => rfl, fun _ => rfl⟩ q_aList (fun o => domB o q_aList[i]) (fun x _ => v_BestMeasures1 x q_aList[i]) (by omega)) (by simp -implicitDefEqProofs (disch := omega) only [go_sem, ↓reduceIte, deep, TD.rows, immLL_rI, immLL_rB8, immLL_rS, immLL_rBo, immLL_rII, immLL_rIIt]; exact rfl) (by repeat (first | exact leL_nil | refine leL_cons ?_ ?_ | exact le_of_eq rfl | exact le_iptrN (leL_of_eq rfl) | refine le_agg ?_ | exact le_slf rfl (TD.rows ..) | refine le_iptr ?_ | refine le_fn ?_ ?_)) (by first | exact .inl rfl | exact .inr rfl | exact .inl (by simp only [D.noImm, noImmL, go_sem, TD.nims, TD.nim, nim_rI, nim_rB8, nim_rBo, nim_rS])) ?_; simp -implicitDefEqProofs (disch := omega) only [go_sem, ↓reduceIte]; refine cond_split ?_ ?_ <;> intro hb
      · simp -implicitDefEqProofs (disch := omega) only [go_sem, ↓reduceIte , hb, List.length_map, wrN]; refine ⟨by omega, i + 1, by omega, hlt, ?_⟩; rw [bestL_t (e2.trans hb), List.map_append]
        (try simp -implicitDefEqProofs only [nleL_cc, nleL_nn, nle_self, nle_boxs, nle_aggs, nle_nils, and_self, and_true, true_and]) <;> repeat' (first | exact nle_of_eq rfl | exact nle_nil | apply And.intro | apply nle_sl | apply nleLL_cons | apply nleL_cons | exact nleL_nil | exact nleLL_nil | apply nle_box | apply nle_agg)
      · simp -implicitDefEqProofs (disch := omega) only [go_sem, ↓reduceIte , hb, wrN]; refine ⟨i + 1, by omega, hlt, ?_⟩; rw [bestL_f (e2.trans hb)]
        (try simp -implicitDefEqProofs only [nleL_cc, nleL_nn, nle_self, nle_boxs, nle_aggs, nle_nils, and_self, and_true, true_and]) <;> repeat' (first | exact nle_of_eq rfl | exact nle_nil | apply And.intro | apply nle_sl | apply nleLL_cons | apply nleL_cons | exact nleL_nil | exact nleLL_nil | apply nle_box | apply nle_agg)
    · have hlt : i = q_aList.length := (by have : ¬ i < q_aList.length := (by simpa using hlt); omega); subst hlt; simp -implicitDefEqProofs (disch := omega) only [go_sem, ↓reduceIte , bestR, bestC, h]
def m34S (s : Src) : Src := pickN (pickN (pickN (pickN (pickN (pickN (pickN (pickN s 3) 2) 3) 2) 3) 2) 3) 20
def m34L (s : Src) : Src := pickN (pickN (pickN (pickN (pickN (pickN (pickN s 3) 2) 3) 2) 3) 2) 3
def m34N (s : Src) : Src := if pickV (m34L s) 20 = 0 then pickN (m34S s) 2 else m34S s
def m34K (s : Src) : Int := if pickV (m34L s) 20 = 0 then [(-9223372036854775808 : Int), 9223372036854775807].getD (pickV (m34S s) 2).toNat 0 else pickV (pickN (pickN (pickN (pickN (pickN (pickN s 3) 2) 3) 2) 3) 2) 3 - 1
def m34 (s : Src) : Measure := ⟨4 + pickV s 3, 2 + pickV (pickN s 3) 2, pickV (pickN (pickN s 3) 2) 3, 6 + pickV (pickN (pickN (pickN s 3) 2) 3) 2, pickV (pickN (pickN (pickN (pickN s 3) 2) 3) 2) 3, pickV (pickN (pickN (pickN (pickN (pickN s 3) 2) 3) 2) 3) 2, m34K s⟩
theorem m34_B {k : Nat} {s : Src} (h : SrcB (k + 18) s) : SrcB k (m34N s) := by
  have h8 : SrcB (k + 2) (m34S s) := ((((((((h : SrcB (k + 16 + 2) s).pick 3 : SrcB (k + 14 + 2) _).pick 2 : SrcB (k + 12 + 2) _).pick 3 : SrcB (k + 10 + 2) _).pick 2 : SrcB (k + 8 + 2) _).pick 3 : SrcB (k + 6 + 2) _).pick 2 : SrcB (k + 4 + 2) _).pick 3 : SrcB (k + 2 + 2) _).pick 20; unfold m34N; split
  · exact h8.pick 2
  · exact h8.mono (by omega)
theorem m34_ok {s : Src} (h : SrcB 18 s) : Measure.td.ok (m34 s) := by
  have a1 := pickV_in (k := 16) h (n := 3) (by omega); have h1 : SrcB 16 _ := (h : SrcB (16 + 2) s).pick 3; have a2 := pickV_in (k := 14) h1 (n := 2) (by omega); have h2 : SrcB 14 _ := (h1 : SrcB (14 + 2) _).pick 2; have a3 := pickV_in (k := 12) h2 (n := 3) (by omega); have h3 : SrcB 12 _ := (h2 : SrcB (12 + 2) _).pick 3; have a4 := pickV_in (k := 10) h3 (n := 2) (by omega); have h4 : SrcB 10 _ := (h3 : SrcB (10 + 2) _).pick 2; have a5 := pickV_in (k := 8) h4 (n := 3) (by omega); have h5 : SrcB 8 _ := (h4 : SrcB (8 + 2) _).pick 3; have a6 := pickV_in (k := 6) h5 (n := 2) (by omega); have h6 : SrcB 6 _ := (h5 : SrcB (6 + 2) _).pick 2; have a7 := pickV_in (k := 4) h6 (n := 3) (by omega); have a8 : InK .i64 (m34K s) := by
    unfold m34K; split
    · have h7 : SrcB 4 _ := (h6 : SrcB (4 + 2) _).pick 3; have h8 : SrcB 2 _ := (h7 : SrcB (2 + 2) _).pick 20; have a9 := pickV_in (k := 0) h8 (n := 2) (by omega); have : (pickV (m34S s) 2).toNat = 0 ∨ (pickV (m34S s) 2).toNat = 1 := (by unfold m34S; omega); rcases this with e | e <;> rw [e] <;> exact ⟨by decide, by decide⟩
    · exact ⟨by omega, by omega⟩
  rw [Measure.td_ok]; exact ⟨(show InK .i64 (4 + pickV s 3) from ⟨by omega, by omega⟩), (show InK .i64 (2 + pickV (pickN s 3) 2) from ⟨by omega, by omega⟩), ⟨by simp only [m34]; omega, by simp only [m34]; omega⟩, (show InK .i64 (6 + pickV (pickN (pickN (pickN s 3) 2) 3) 2) from ⟨by omega, by omega⟩), ⟨by simp only [m34]; omega, by simp only [m34]; omega⟩, ⟨by simp only [m34]; omega, by simp only [m34]; omega⟩, a8⟩
def code_spec_l34Measure : VCode := (.seq (.ops [
  ⟨(some 2), none, (.alloc [(.int .i64 0), (.int .i64 0), (.int .i64 0), (.int .i64 0), (.int .i64 0), (.int .i64 0), (.int .i64 0)])⟩]) (.seq (.ops [
  ⟨(some 4), none, (.mv (.tmp 0))⟩,
  ⟨(some 5), none, (.callX 10 [(.tmp 4), (.const (.int .i64 3))])⟩,
  ⟨(some 6), none, (.bin .add (.const (.int .i64 4)) (.tmp 5))⟩,
  ⟨(some 7), none, (.mv (.tmp 0))⟩,
  ⟨(some 8), none, (.callX 10 [(.tmp 7), (.const (.int .i64 2))])⟩,
  ⟨(some 9), none, (.bin .add (.const (.int .i64 2)) (.tmp 8))⟩,
  ⟨(some 10), none, (.mv (.tmp 0))⟩,
  ⟨(some 11), none, (.callX 10 [(.tmp 10), (.const (.int .i64 3))])⟩,
  ⟨(some 12), none, (.build [(.int .i64 0), (.int .i64 0), (.int .i64 0), (.int .i64 0), (.int .i64 0), (.int .i64 0), (.int .i64 0)] [(0, 1, (.tmp 6)), (1, 1, (.tmp 9)), (2, 1, (.tmp 11))])⟩,
  ⟨(some 3), none, (.alloc [(.int .i64 0), (.int .i64 0), (.int .i64 0), (.int .i64 0), (.int .i64 0), (.int .i64 0), (.int .i64 0)])⟩,
  ⟨none, none, (.store 7 (.tmp 3) (.tmp 12))⟩]) (.seq (.ops [
  ⟨(some 13), none, (.mv (.tmp 0))⟩,
  ⟨(some 14), none, (.callX 10 [(.tmp 13), (.const (.int .i64 2))])⟩,
  ⟨(some 15), none, (.bin .add (.const (.int .i64 6)) (.tmp 14))⟩,
  ⟨(some 16), none, (.fa 3 (.tmp 3))⟩,
  ⟨none, none, (.store 1 (.tmp 16) (.tmp 15))⟩]) (.seq (.ops [
  ⟨(some 17), none, (.mv (.tmp 0))⟩,
  ⟨(some 18), none, (.callX 10 [(.tmp 17), (.const (.int .i64 3))])⟩,
  ⟨(some 19), none, (.fa 4 (.tmp 3))⟩,
  ⟨none, none, (.store 1 (.tmp 19) (.tmp 18))⟩]) (.seq (.ops [
  ⟨(some 20), none, (.mv (.tmp 0))⟩,
  ⟨(some 21), none, (.callX 10 [(.tmp 20), (.const (.int .i64 2))])⟩,
  ⟨(some 22), none, (.fa 5 (.tmp 3))⟩,
  ⟨none, none, (.store 1 (.tmp 22) (.tmp 21))⟩]) (.seq (.ops [
  ⟨(some 23), none, (.mv (.tmp 0))⟩,
  ⟨(some 24), none, (.callX 10 [(.tmp 23), (.const (.int .i64 3))])⟩,
  ⟨(some 25), none, (.bin .sub (.tmp 24) (.const (.int .i64 1)))⟩,
  ⟨(some 26), none, (.fa 6 (.tmp 3))⟩,
  ⟨none, none, (.store 1 (.tmp 26) (.tmp 25))⟩]) (.seq (.seq (.ops [
  ⟨(some 27), none, (.mv (.tmp 0))⟩,
  ⟨(some 28), none, (.callX 12 [(.tmp 27), (.const (.int .i64 20))])⟩]) (.cond (.tmp 28) (.ops [
  ⟨(some 29), none, (.mv (.tmp 0))⟩,
  ⟨(some 30), none, (.bsl 1 [(.const (.int .i64 (-9223372036854775808))), (.const (.int .i64 9223372036854775807))])⟩,
  ⟨(some 31), none, (.callX 17 [(.tmp 29), (.tmp 30)])⟩,
  ⟨(some 32), none, (.fa 6 (.tmp 3))⟩,
  ⟨none, none, (.store 1 (.tmp 32) (.tmp 31))⟩]) .skip)) (.seq (.ops [
  ⟨(some 33), none, (.load 7 true (.tmp 3))⟩,
  ⟨none, none, (.store 7 (.tmp 2) (.tmp 33))⟩]) .ret))))))))
theorem law_spec_l34Measure {a0 d : D} {cells cells' : List D} (h : ∀ b, code_spec_l34Measure.wp (CT Try.prog NoG) (endX [(.c 2 7 true)] d 0 b cells') [.box (some b) cells, .undef, .undef, .undef, .undef, .undef, .undef, .undef, .undef, .undef, .undef, .undef, .undef, .undef, .undef, .undef, .undef, .undef, .undef, .undef, .undef, .undef, .undef, .undef, .undef, .undef, .undef, .undef, .undef, .undef, .undef, .undef, .undef, .undef]) : ContractX Try.prog NoG 11 0 [a0] cells d cells' :=
  contract_ofX noG Try.func11 (fun us W => by kernel_rfl) (c := Try.f11.body.getD .skip) (ms := []) (ms' := []) (by kernel_rfl) (by kernel_rfl) (by kernel_rfl) (by simp) h
set_option maxHeartbeats 4000000 in
theorem v_l34Measure (s : Src) (hs : SrcB 18 s) : ContractX Try.prog NoG 11 0 [.undef] s.d (.agg (Measure.td.d true (m34 s))) (m34N s).d := by
  rw [Measure.td_d]; refine law_spec_l34Measure ?_; intro b; unfold code_spec_l34Measure; have a1 := pickV_in (k := 16) hs (n := 3) (by omega); have h1 : SrcB 16 _ := (hs : SrcB (16 + 2) s).pick 3; have a2 := pickV_in (k := 14) h1 (n := 2) (by omega); have h2 : SrcB 14 _ := (h1 : SrcB (14 + 2) _).pick 2; have a3 := pickV_in (k := 12) h2 (n := 3) (by omega); have h3 : SrcB 12 _ := (h2 : SrcB (12 + 2) _).pick 3; have a4 := pickV_in (k := 10) h3 (n := 2) (by omega); have h4 : SrcB 10 _ := (h3 : SrcB (10 + 2) _).pick 2; have a5 := pickV_in (k := 8) h4 (n := 3) (by omega); have h5 : SrcB 8 _ := (h4 : SrcB (8 + 2) _).pick 3; have a6 := pickV_in (k := 6) h5 (n := 2) (by omega); have h6 : SrcB 6 _ := (h5 : SrcB (6 + 2) _).pick 2; have a7 := pickV_in (k := 4) h6 (n := 3) (by omega); have h7 : SrcB 4 _ := (h6 : SrcB (4 + 2) _).pick 3; have h8 : SrcB 2 _ := (h7 : SrcB (2 + 2) _).pick 20; have w1 : IntKind.i64.wrap (4 + pickV s 3) = 4 + pickV s 3 := wrI (by omega) (by omega); have w2 : IntKind.i64.wrap (2 + pickV (pickN s 3) 2) = 2 + pickV (pickN s 3) 2 := wrI (by omega) (by omega); have w4 : IntKind.i64.wrap (6 + pickV (pickN (pickN (pickN s 3) 2) 3) 2) = 6 + pickV (pickN (pickN (pickN s 3) 2) 3) 2 := wrI (by omega) (by omega); have w7 : IntKind.i64.wrap (pickV (pickN (pickN (pickN (pickN (pickN (pickN s 3) 2) 3) 2) 3) 2) 3 - 1) = pickV (pickN (pickN (pickN (pickN (pickN (pickN s 3) 2) 3) 2) 3) 2) 3 - 1 := wrI (by omega) (by omega); unfold m34; simp only [Src.d]; simp -implicitDefEqProofs (disch := omega) only [go_sem, ↓reduceIte]; refine call_ioA (i := 0) (r := 0) (v_pick s 3 (hs.mono (by omega))) rfl rfl (by simp -implicitDefEqProofs (disch := omega) only [go_sem, ↓reduceIte, deep, TD.rows, immLL_rI, immLL_rB8, immLL_rS, immLL_rBo, immLL_rII, immLL_rIIt, Src.d, w1]; exact rfl) (by repeat (first | exact leL_nil | refine leL_cons ?_ ?_ | exact le_of_eq rfl | exact le_iptrN (leL_of_eq rfl) | refine le_agg ?_ | exact le_slf rfl (TD.rows ..) | refine le_iptr ?_ | refine le_fn ?_ ?_)) (by repeat (first | exact leL_nil | refine leL_cons ?_ ?_ | exact le_of_eq rfl | exact le_iptrN (leL_of_eq rfl) | refine le_agg ?_ | exact le_slf rfl (TD.rows ..) | refine le_iptr ?_ | refine le_fn ?_ ?_)) (by first | exact .inr rfl | exact .inl ⟨rfl, rfl⟩ | exact .inl ⟨by simp only [D.noImm, noImmL, go_sem, TD.nims, TD.nim], by simp only [D.noImm, noImmL, go_sem, TD.nims, TD.nim, nim_rI, nim_rB8, nim_rBo, nim_rS]⟩) ?_; simp -implicitDefEqProofs (disch := omega) only [go_sem, ↓reduceIte , Src.d, w1]; refine call_ioA (i := 0) (r := 0) (v_pick _ 2 (h1.mono (by omega))) rfl rfl (by simp -implicitDefEqProofs (disch := omega) only [go_sem, ↓reduceIte, deep, TD.rows, immLL_rI, immLL_rB8, immLL_rS, immLL_rBo, immLL_rII, immLL_rIIt, Src.d, w2]; exact rfl) (by repeat (first | exact leL_nil | refine leL_cons ?_ ?_ | exact le_of_eq rfl | exact le_iptrN (leL_of_eq rfl) | refine le_agg ?_ | exact le_slf rfl (TD.rows ..) | refine le_iptr ?_ | refine le_fn ?_ ?_)) (by repeat (first | exact leL_nil | refine leL_cons ?_ ?_ | exact le_of_eq rfl | exact le_iptrN (leL_of_eq rfl) | refine le_agg ?_ | exact le_slf rfl (TD.rows ..) | refine le_iptr ?_ | refine le_fn ?_ ?_)) (by first | exact .inr rfl | exact .inl ⟨rfl, rfl⟩ | exact .inl ⟨by simp only [D.noImm, noImmL, go_sem, TD.nims, TD.nim], by simp only [D.noImm, noImmL, go_sem, TD.nims, TD.nim, nim_rI, nim_rB8, nim_rBo, nim_rS]⟩) ?_; simp -implicitDefEqProofs (disch := omega) only [go_sem, ↓reduceIte , Src.d, w2]; refine call_ioA (i := 0) (r := 0) (v_pick _ 3 (h2.mono (by omega))) rfl rfl (by simp -implicitDefEqProofs (disch := omega) only [go_sem, ↓reduceIte, deep, TD.rows, immLL_rI, immLL_rB8, immLL_rS, immLL_rBo, immLL_rII, immLL_rIIt, Src.d]; exact rfl) (by repeat (first | exact leL_nil | refine leL_cons ?_ ?_ | exact le_of_eq rfl | exact le_iptrN (leL_of_eq rfl) | refine le_agg ?_ | exact le_slf rfl (TD.rows ..) | refine le_iptr ?_ | refine le_fn ?_ ?_)) (by repeat (first | exact leL_nil | refine leL_cons ?_ ?_ | exact le_of_eq rfl | exact le_iptrN (leL_of_eq rfl) | refine le_agg ?_ | exact le_slf rfl (TD.rows ..) | refine le_iptr ?_ | refine le_fn ?_ ?_)) (by first | exact .inr rfl | exact .inl ⟨rfl, rfl⟩ | exact .inl ⟨by simp only [D.noImm, noImmL, go_sem, TD.nims, TD.nim], by simp only [D.noImm, noImmL, go_sem, TD.nims, TD.nim, nim_rI, nim_rB8, nim_rBo, nim_rS]⟩) ?_; simp -implicitDefEqProofs (disch := omega) only [go_sem, ↓reduceIte , Src.d]; refine call_ioA (i := 0) (r := 0) (v_pick _ 2 (h3.mono (by omega))) rfl rfl (by simp -implicitDefEqProofs (disch := omega) only [go_sem, ↓reduceIte, deep, TD.rows, immLL_rI, immLL_rB8, immLL_rS, immLL_rBo, immLL_rII, immLL_rIIt, Src.d, w4]; exact rfl) (by repeat (first | exact leL_nil | refine leL_cons ?_ ?_ | exact le_of_eq rfl | exact le_iptrN (leL_of_eq rfl) | refine le_agg ?_ | exact le_slf rfl (TD.rows ..) | refine le_iptr ?_ | refine le_fn ?_ ?_)) (by repeat (first | exact leL_nil | refine leL_cons ?_ ?_ | exact le_of_eq rfl | exact le_iptrN (leL_of_eq rfl) | refine le_agg ?_ | exact le_slf rfl (TD.rows ..) | refine le_iptr ?_ | refine le_fn ?_ ?_)) (by first | exact .inr rfl | exact .inl ⟨rfl, rfl⟩ | exact .inl ⟨by simp only [D.noImm, noImmL, go_sem, TD.nims, TD.nim], by simp only [D.noImm, noImmL, go_sem, TD.nims, TD.nim, nim_rI, nim_rB8, nim_rBo, nim_rS]⟩) ?_; simp -implicitDefEqProofs (disch := omega) only [go_sem, ↓reduceIte , Src.d, w4]; refine call_ioA (i := 0) (r := 0) (v_pick _ 3 (h4.mono (by omega))) rfl rfl (by simp -implicitDefEqProofs (disch := omega) only [go_sem, ↓reduceIte, deep, TD.rows, immLL_rI, immLL_rB8, immLL_rS, immLL_rBo, immLL_rII, immLL_rIIt, Src.d]; exact rfl) (by repeat (first | exact leL_nil | refine leL_cons ?_ ?_ | exact le_of_eq rfl | exact le_iptrN (leL_of_eq rfl) | refine le_agg ?_ | exact le_slf rfl (TD.rows ..) | refine le_iptr ?_ | refine le_fn ?_ ?_)) (by repeat (first | exact leL_nil | refine leL_cons ?_ ?_ | exact le_of_eq rfl | exact le_iptrN (leL_of_eq rfl) | refine le_agg ?_ | exact le_slf rfl (TD.rows ..) | refine le_iptr ?_ | refine le_fn ?_ ?_)) (by first | exact .inr rfl | exact .inl ⟨rfl, rfl⟩ | exact .inl ⟨by simp only [D.noImm, noImmL, go_sem, TD.nims, TD.nim], by simp only [D.noImm, noImmL, go_sem, TD.nims, TD.nim, nim_rI, nim_rB8, nim_rBo, nim_rS]⟩) ?_; simp -implicitDefEqProofs (disch := omega) only [go_sem, ↓reduceIte , Src.d]; refine call_ioA (i := 0) (r := 0) (v_pick _ 2 (h5.mono (by omega))) rfl rfl (by simp -implicitDefEqProofs (disch := omega) only [go_sem, ↓reduceIte, deep, TD.rows, immLL_rI, immLL_rB8, immLL_rS, immLL_rBo, immLL_rII, immLL_rIIt, Src.d]; exact rfl) (by repeat (first | exact leL_nil | refine leL_cons ?_ ?_ | exact le_of_eq rfl | exact le_iptrN (leL_of_eq rfl) | refine le_agg ?_ | exact le_slf rfl (TD.rows ..) | refine le_iptr ?_ | refine le_fn ?_ ?_)) (by repeat (first | exact leL_nil | refine leL_cons ?_ ?_ | exact le_of_eq rfl | exact le_iptrN (leL_of_eq rfl) | refine le_agg ?_ | exact le_slf rfl (TD.rows ..) | refine le_iptr ?_ | refine le_fn ?_ ?_)) (by first | exact .inr rfl | exact .inl ⟨rfl, rfl⟩ | exact .inl ⟨by simp only [D.noImm, noImmL, go_sem, TD.nims, TD.nim], by simp only [D.noImm, noImmL, go_sem, TD.nims, TD.nim, nim_rI, nim_rB8, nim_rBo, nim_rS]⟩) ?_; simp -implicitDefEqProofs (disch := omega) only [go_sem, ↓reduceIte , Src.d]; refine call_ioA (i := 0) (r := 0) (v_pick _ 3 (h6.mono (by omega))) rfl rfl (by simp -implicitDefEqProofs (disch := omega) only [go_sem, ↓reduceIte, deep, TD.rows, immLL_rI, immLL_rB8, immLL_rS, immLL_rBo, immLL_rII, immLL_rIIt, Src.d, w7]; exact rfl) (by repeat (first | exact leL_nil | refine leL_cons ?_ ?_ | exact le_of_eq rfl | exact le_iptrN (leL_of_eq rfl) | refine le_agg ?_ | exact le_slf rfl (TD.rows ..) | refine le_iptr ?_ | refine le_fn ?_ ?_)) (by repeat (first | exact leL_nil | refine leL_cons ?_ ?_ | exact le_of_eq rfl | exact le_iptrN (leL_of_eq rfl) | refine le_agg ?_ | exact le_slf rfl (TD.rows ..) | refine le_iptr ?_ | refine le_fn ?_ ?_)) (by first | exact .inr rfl | exact .inl ⟨rfl, rfl⟩ | exact .inl ⟨by simp only [D.noImm, noImmL, go_sem, TD.nims, TD.nim], by simp only [D.noImm, noImmL, go_sem, TD.nims, TD.nim, nim_rI, nim_rB8, nim_rBo, nim_rS]⟩) ?_; simp -implicitDefEqProofs (disch := omega) only [go_sem, ↓reduceIte , Src.d, w7]; by_cases h0 : pickV (m34L s) 20 = 0
  · have e1 : m34K s = [(-9223372036854775808 : Int), 9223372036854775807].getD (pickV (m34S s) 2).toNat 0 := (by unfold m34K; rw [if_pos h0]); have e2 : m34N s = pickN (m34S s) 2 := (by unfold m34N; rw [if_pos h0]); have d0 : oneV (m34L s) 20 = true := decide_eq_true h0; unfold m34L at d0; rw [e1, e2]; unfold m34S; refine call_ioA (i := 0) (r := 0) (v_one _ 20 (h7.mono (by omega))) rfl rfl (by simp -implicitDefEqProofs (disch := omega) only [go_sem, ↓reduceIte, deep, TD.rows, immLL_rI, immLL_rB8, immLL_rS, immLL_rBo, immLL_rII, immLL_rIIt, Src.d, d0]; exact rfl) (by repeat (first | exact leL_nil | refine leL_cons ?_ ?_ | exact le_of_eq rfl | exact le_iptrN (leL_of_eq rfl) | refine le_agg ?_ | exact le_slf rfl (TD.rows ..) | refine le_iptr ?_ | refine le_fn ?_ ?_)) (by repeat (first | exact leL_nil | refine leL_cons ?_ ?_ | exact le_of_eq rfl | exact le_iptrN (leL_of_eq rfl) | refine le_agg ?_ | exact le_slf rfl (TD.rows ..) | refine le_iptr ?_ | refine le_fn ?_ ?_)) (by first | exact .inr rfl | exact .inl ⟨rfl, rfl⟩ | exact .inl ⟨by simp only [D.noImm, noImmL, go_sem, TD.nims, TD.nim], by simp only [D.noImm, noImmL, go_sem, TD.nims, TD.nim, nim_rI, nim_rB8, nim_rBo, nim_rS]⟩) ?_; simp -implicitDefEqProofs (disch := omega) only [go_sem, ↓reduceIte , Src.d, d0]; have hR := v_among (pickN (pickN (pickN (pickN (pickN (pickN (pickN (pickN s 3) 2) 3) 2) 3) 2) 3) 20) [-9223372036854775808, 9223372036854775807] h8 (by decide) (by decide); refine call_ioF 30 (i := 0) (r := 0) (hR) (by simp -implicitDefEqProofs (disch := omega) only [go_sem, ↓reduceIte, deep, TD.rows, immLL_rI, immLL_rB8, immLL_rS, immLL_rBo, immLL_rII, immLL_rIIt, frz, D.imm, immL, Src.d]; exact rfl) rfl rfl (by simp -implicitDefEqProofs (disch := omega) only [go_sem, ↓reduceIte, deep, TD.rows, immLL_rI, immLL_rB8, immLL_rS, immLL_rBo, immLL_rII, immLL_rIIt, Src.d]; exact rfl) (by repeat (first | exact leL_nil | refine leL_cons ?_ ?_ | exact le_of_eq rfl | exact le_iptrN (leL_of_eq rfl) | refine le_agg ?_ | exact le_slf rfl (TD.rows ..) | refine le_iptr ?_ | refine le_fn ?_ ?_)) (by repeat (first | exact leL_nil | refine leL_cons ?_ ?_ | exact le_of_eq rfl | exact le_iptrN (leL_of_eq rfl) | refine le_agg ?_ | exact le_slf rfl (TD.rows ..) | refine le_iptr ?_ | refine le_fn ?_ ?_)) (by first | exact .inr rfl | exact .inl ⟨rfl, rfl⟩ | exact .inl ⟨by simp only [D.noImm, noImmL, go_sem, TD.nims, TD.nim], by simp only [D.noImm, noImmL, go_sem, TD.nims, TD.nim, nim_rI, nim_rB8, nim_rBo, nim_rS]⟩) ?_; simp -implicitDefEqProofs (disch := omega) only [go_sem, ↓reduceIte , Src.d]; exact ⟨rfl, rfl, rfl, rfl⟩
  · have e1 : m34K s = pickV (pickN (pickN (pickN (pickN (pickN (pickN s 3) 2) 3) 2) 3) 2) 3 - 1 := (by unfold m34K; rw [if_neg h0]); have e2 : m34N s = m34S s := (by unfold m34N; rw [if_neg h0]); have d0 : oneV (m34L s) 20 = false := decide_eq_false h0; unfold m34L at d0; rw [e1, e2]; unfold m34S; refine call_ioA (i := 0) (r := 0) (v_one _ 20 (h7.mono (by omega))) rfl rfl (by simp -implicitDefEqProofs (disch := omega) only [go_sem, ↓reduceIte, deep, TD.rows, immLL_rI, immLL_rB8, immLL_rS, immLL_rBo, immLL_rII, immLL_rIIt, Src.d, d0]; exact rfl) (by repeat (first | exact leL_nil | refine leL_cons ?_ ?_ | exact le_of_eq rfl | exact le_iptrN (leL_of_eq rfl) | refine le_agg ?_ | exact le_slf rfl (TD.rows ..) | refine le_iptr ?_ | refine le_fn ?_ ?_)) (by repeat (first | exact leL_nil | refine leL_cons ?_ ?_ | exact le_of_eq rfl | exact le_iptrN (leL_of_eq rfl) | refine le_agg ?_ | exact le_slf rfl (TD.rows ..) | refine le_iptr ?_ | refine le_fn ?_ ?_)) (by first | exact .inr rfl | exact .inl ⟨rfl, rfl⟩ | exact .inl ⟨by simp only [D.noImm, noImmL, go_sem, TD.nims, TD.nim], by simp only [D.noImm, noImmL, go_sem, TD.nims, TD.nim, nim_rI, nim_rB8, nim_rBo, nim_rS]⟩) ?_; simp -implicitDefEqProofs (disch := omega) only [go_sem, ↓reduceIte , Src.d, d0]
def outJ (s : Src) : Nat → List Measure
  | 0 => []
  | n + 1 => outJ s n ++ [m34 ((fun m => Nat.rec s (fun _ x => m34N x) m) n)]
def srcJ (s : Src) (n : Nat) : Src := Nat.rec s (fun _ x => m34N x) n
theorem srcJ_zero (s : Src) : srcJ s 0 = s := rfl
theorem srcJ_succ (s : Src) (n : Nat) : srcJ s (n + 1) = m34N (srcJ s n) := rfl
theorem outJ_succ (s : Src) (n : Nat) : outJ s (n + 1) = outJ s n ++ [m34 (srcJ s n)] := rfl
theorem outJ_len (s : Src) : ∀ n, (outJ s n).length = n
  | 0 => rfl
  | n + 1 => by rw [outJ_succ, List.length_append, outJ_len s n]; rfl
theorem srcJ_B {k : Nat} {s : Src} : ∀ n, SrcB (k + 18 * n) s → SrcB k (srcJ s n)
  | 0, h => show SrcB k s from h.mono (by omega)
  | n + 1, h => by rw [srcJ_succ]; exact m34_B (srcJ_B (k := k + 18) n (h.mono (by omega)))
theorem outJ_ok {s : Src} : ∀ n, SrcB (18 * n) s → ∀ x, x ∈ outJ s n → Measure.td.ok x
  | 0, _, x, hx => by cases hx
  | n + 1, h, x, hx => by
    rw [outJ_succ] at hx; rcases List.mem_append.1 hx with hx | hx
    · exact outJ_ok n (h.mono (by omega)) x hx
    · simp at hx; subst hx; exact m34_ok (srcJ_B n (h.mono (by omega)))
def fillM : Nat → List Measure → Src → List Measure
  | 0, out, _ => out
  | f + 1, out, s => if (out.length : Int) < 60 + pickV s 2 then fillM f (out ++ [m34 (pickN s 2)]) (m34N (pickN s 2)) else out
theorem fillM_len : ∀ (f : Nat) (out : List Measure) (s : Src), (fillM f out s).length ≤ out.length + f
  | 0, out, s => by simp [fillM]
  | f + 1, out, s => by
    unfold fillM; split
    · have := fillM_len f (out ++ [m34 (pickN s 2)]) (m34N (pickN s 2)); simp only [List.length_append, List.length_cons, List.length_nil] at this; omega
    · omega
theorem fillM_ok : ∀ (f : Nat) {out : List Measure} {s : Src}, SrcB (20 * f) s → (∀ x, x ∈ out → Measure.td.ok x) → ∀ x, x ∈ fillM f out s → Measure.td.ok x
  | 0, out, s, _, h, x, hx => h x hx
  | f + 1, out, s, hs, h, x, hx => by
    unfold fillM at hx; have h1 : SrcB (20 * f + 18) (pickN s 2) := SrcB.pick (hs.mono (by omega)) 2; split at hx
    · refine fillM_ok f (m34_B h1) (fun y hy => ?_) x hx; rcases List.mem_append.1 hy with hy | hy
      · exact h y hy
      · simp at hy; subst hy; exact m34_ok (h1.mono (by omega))
    · exact h x hx
def drawM (code : List Int) : List Measure :=
  if oneV (srcJ (pickN ⟨code, 0, 0⟩ 9) (pickV ⟨code, 0, 0⟩ 9).toNat) 12 then fillM (62 - (pickV ⟨code, 0, 0⟩ 9).toNat) (outJ (pickN ⟨code, 0, 0⟩ 9) (pickV ⟨code, 0, 0⟩ 9).toNat) (pickN (srcJ (pickN ⟨code, 0, 0⟩ 9) (pickV ⟨code, 0, 0⟩ 9).toNat) 12)
  else outJ (pickN ⟨code, 0, 0⟩ 9) (pickV ⟨code, 0, 0⟩ 9).toNat
structure CodeB (code : List Int) : Prop where
  ok : ∀ x, x ∈ code → 0 ≤ x ∧ x ≤ 255
  len : code.length ≤ 1048576
theorem CodeB.src {code : List Int} (h : CodeB code) : SrcB 4611686018427387904 ⟨code, 0, 0⟩ := ⟨h.ok, h.len, by simp⟩
theorem drawM_len {code : List Int} (h : CodeB code) : (drawM code).length ≤ 62 := by
  have h0 := pickV_in (k := 0) (h.src.mono (by omega)) (n := 9) (by omega); unfold drawM; split
  · refine Nat.le_trans (fillM_len _ _ _) ?_; rw [outJ_len]; omega
  · rw [outJ_len]; omega
theorem drawM_ok {code : List Int} (h : CodeB code) : ∀ x, x ∈ drawM code → Measure.td.ok x := by
  have h0 := pickV_in (k := 0) (h.src.mono (by omega)) (n := 9) (by omega); have h1 : SrcB (2000 + 18 * (pickV ⟨code, 0, 0⟩ 9).toNat) (pickN ⟨code, 0, 0⟩ 9) := SrcB.pick (h.src.mono (by omega)) 9; have h2 := outJ_ok _ (h1.mono (by omega : 18 * (pickV ⟨code, 0, 0⟩ 9).toNat ≤ _)); unfold drawM; split
  · exact fillM_ok _ (SrcB.pick ((srcJ_B _ h1).mono (by omega)) 12) h2
  · exact h2
theorem rows_snoc (out : List Measure) (m : Measure) : (out ++ [m]).map (Measure.td.d true) = out.map (Measure.td.d true) ++ [[.v (.int .i64 m.Tiles), .v (.int .i64 m.Kinds), .v (.int .i64 m.Glues), .v (.int .i64 m.Area), .v (.int .i64 m.Strength), .v (.int .i64 m.Misfits), .v (.int .i64 m.Slack)]] := by rw [List.map_append]; rfl
def code_spec_DrawBestMeasures : VCode := (.seq (.ops [
  ⟨(some 2), none, (.asg (.const (.slice none 0 0)))⟩]) (.seq (.ops [
  ⟨(some 6), none, (.mv (.tmp 0))⟩,
  ⟨(some 7), none, (.callX 9 [(.tmp 6)])⟩,
  ⟨(some 3), none, (.asg (.tmp 7))⟩]) (.seq (.ops [
  ⟨(some 8), none, (.bsl 7 [])⟩,
  ⟨(some 4), none, (.asg (.tmp 8))⟩]) (.seq (.seq (.ops [
  ⟨(some 9), none, (.mv (.tmp 3))⟩,
  ⟨(some 10), none, (.callX 10 [(.tmp 9), (.const (.int .i64 9))])⟩,
  ⟨(some 5), none, (.asg (.tmp 10))⟩]) (.block 0 (.loop (mB 34 10468163079) (.seq (.seq (.ops [
  ⟨(some 11), none, (.mv (.tmp 5))⟩,
  ⟨(some 12), none, (.bin .gtr (.tmp 11) (.const (.int .i64 0)))⟩]) (.cond (.tmp 12) .skip (.exit 0))) (.seq (.block 1 (.ops [
  ⟨(some 15), none, (.mv (.tmp 4))⟩,
  ⟨(some 16), none, (.mv (.tmp 3))⟩,
  ⟨(some 17), none, (.callX 11 [(.tmp 16)])⟩,
  ⟨(some 18), none, (.bsl 7 [(.tmp 17)])⟩,
  ⟨(some 19), none, (.app 7 56 (.tmp 15) (.tmp 18))⟩,
  ⟨(some 4), none, (.asg (.tmp 19))⟩])) (.ops [
  ⟨(some 13), none, (.mv (.tmp 5))⟩,
  ⟨(some 14), none, (.bin .sub (.tmp 13) (.const (.int .i64 1)))⟩,
  ⟨(some 5), none, (.asg (.tmp 14))⟩])))))) (.seq (.seq (.ops [
  ⟨(some 20), none, (.mv (.tmp 3))⟩,
  ⟨(some 21), none, (.callX 12 [(.tmp 20), (.const (.int .i64 12))])⟩]) (.cond (.tmp 21) (.block 2 (.loop (mB 34 10468163111) (.seq (.seq (.ops [
  ⟨(some 22), none, (.mv (.tmp 4))⟩,
  ⟨(some 23), none, (.len (.tmp 22))⟩,
  ⟨(some 24), none, (.mv (.tmp 3))⟩,
  ⟨(some 25), none, (.callX 10 [(.tmp 24), (.const (.int .i64 2))])⟩,
  ⟨(some 26), none, (.bin .add (.const (.int .i64 60)) (.tmp 25))⟩,
  ⟨(some 27), none, (.bin .lss (.tmp 23) (.tmp 26))⟩]) (.cond (.tmp 27) .skip (.exit 2))) (.block 3 (.ops [
  ⟨(some 28), none, (.mv (.tmp 4))⟩,
  ⟨(some 29), none, (.mv (.tmp 3))⟩,
  ⟨(some 30), none, (.callX 11 [(.tmp 29)])⟩,
  ⟨(some 31), none, (.bsl 7 [(.tmp 30)])⟩,
  ⟨(some 32), none, (.app 7 56 (.tmp 28) (.tmp 31))⟩,
  ⟨(some 4), none, (.asg (.tmp 32))⟩]))))) .skip)) (.seq (.ops [
  ⟨(some 33), none, (.mv (.tmp 4))⟩,
  ⟨(some 2), none, (.asg (.tmp 33))⟩]) .ret))))))
theorem law_spec_DrawBestMeasures {a0 d : D} (h : code_spec_DrawBestMeasures.wp (CT Try.prog NoG) (endQ [(.t 2)] d) [a0, .undef, .undef, .undef, .undef, .undef, .undef, .undef, .undef, .undef, .undef, .undef, .undef, .undef, .undef, .undef, .undef, .undef, .undef, .undef, .undef, .undef, .undef, .undef, .undef, .undef, .undef, .undef, .undef, .undef, .undef, .undef, .undef, .undef]) : Contract Try.prog NoG 5 [a0] d :=
  contract_of noG Try.func5 (fun us W => by kernel_rfl) (c := Try.f5.body.getD .skip) (ms := [(mB 34 10468163079), (mB 34 10468163111)]) (ms' := []) (by kernel_rfl) (by kernel_rfl) (by kernel_rfl) h
set_option maxHeartbeats 4000000 in
theorem v_DrawBestMeasures (code : List Int) (hc : CodeB code) : Contract Try.prog NoG 5 [.sl false 1 (code.map rB8)] (.sl true 7 ((drawM code).map (Measure.td.d true))) := by
  refine law_spec_DrawBestMeasures ?_; unfold code_spec_DrawBestMeasures; have h0 := pickV_in (k := 0) (hc.src.mono (by omega)) (n := 9) (by omega); obtain ⟨n, hn⟩ : ∃ n : Nat, pickV ⟨code, 0, 0⟩ 9 = (n : Int) := ⟨(pickV ⟨code, 0, 0⟩ 9).toNat, by omega⟩
  have h1 : SrcB (2000 + 18 * n) (pickN ⟨code, 0, 0⟩ 9) := SrcB.pick (hc.src.mono (by omega)) 9; have hd : drawM code = if oneV (srcJ (pickN ⟨code, 0, 0⟩ 9) n) 12 then fillM (62 - n) (outJ (pickN ⟨code, 0, 0⟩ 9) n) (pickN (srcJ (pickN ⟨code, 0, 0⟩ 9) n) 12) else outJ (pickN ⟨code, 0, 0⟩ 9) n := by unfold drawM; rw [hn, Int.toNat_natCast]
  rw [hd]; have hs := v_pick ⟨code, 0, 0⟩ 9 (hc.src.mono (by omega)); rw [hn] at hs; generalize pickN ⟨code, 0, 0⟩ 9 = s1 at *; simp -implicitDefEqProofs (disch := omega) only [go_sem, ↓reduceIte]; refine call_leA (v_l00From code) (by simp -implicitDefEqProofs (disch := omega) only [go_sem, ↓reduceIte, deep, TD.rows, immLL_rI, immLL_rB8, immLL_rS, immLL_rBo, immLL_rII, immLL_rIIt, Src.d]; exact rfl) (by repeat (first | exact leL_nil | refine leL_cons ?_ ?_ | exact le_of_eq rfl | exact le_iptrN (leL_of_eq rfl) | refine le_agg ?_ | exact le_slf rfl (TD.rows ..) | refine le_iptr ?_ | refine le_fn ?_ ?_)) (by first | exact .inl rfl | exact .inr rfl | exact .inl (by simp only [D.noImm, noImmL, go_sem, TD.nims, TD.nim, nim_rI, nim_rB8, nim_rBo, nim_rS])) ?_; simp -implicitDefEqProofs (disch := omega) only [go_sem, ↓reduceIte , Src.d]; refine call_ioA (i := 0) (r := 7) (hs) rfl rfl (by simp -implicitDefEqProofs (disch := omega) only [go_sem, ↓reduceIte, deep, TD.rows, immLL_rI, immLL_rB8, immLL_rS, immLL_rBo, immLL_rII, immLL_rIIt, Src.d]; exact rfl) (by repeat (first | exact leL_nil | refine leL_cons ?_ ?_ | exact le_of_eq rfl | exact le_iptrN (leL_of_eq rfl) | refine le_agg ?_ | exact le_slf rfl (TD.rows ..) | refine le_iptr ?_ | refine le_fn ?_ ?_)) (by repeat (first | exact leL_nil | refine leL_cons ?_ ?_ | exact le_of_eq rfl | exact le_iptrN (leL_of_eq rfl) | refine le_agg ?_ | exact le_slf rfl (TD.rows ..) | refine le_iptr ?_ | refine le_fn ?_ ?_)) (by first | exact .inr rfl | exact .inl ⟨rfl, rfl⟩ | exact .inl ⟨by simp only [D.noImm, noImmL, go_sem, TD.nims, TD.nim], by simp only [D.noImm, noImmL, go_sem, TD.nims, TD.nim, nim_rI, nim_rB8, nim_rBo, nim_rS]⟩) ?_; simp -implicitDefEqProofs (disch := omega) only [go_sem, ↓reduceIte , Src.d]; refine loop_ov (by simp -implicitDefEqProofs (disch := omega) only [go_sem, ↓reduceIte]; exact rfl) (fun j : Nat => [(4, .sl true 7 ((outJ s1 j).map (Measure.td.d true))), (5, .v (.int .i64 ((n : Int) - (j : Nat)))), (7, .box none (srcJ s1 j).d)]) (fun _ => by simp only [ovr_nil, ovr_cons, List.set_cons_zero, List.set_cons_succ]; exact rfl) (fun j : Nat => j ≤ n) (fun j : Nat => n - j) (0) (by rw [srcJ_zero, Int.natCast_zero, Int.sub_zero]; (try simp -implicitDefEqProofs only [nleL_cc, nleL_nn, nle_self, nle_boxs, nle_aggs, nle_nils, and_self, and_true, true_and]) <;> repeat' (first | exact nle_of_eq rfl | exact nle_nil | apply And.intro | apply nle_sl | apply nleLL_cons | apply nleL_cons | exact nleL_nil | exact nleLL_nil | apply nle_box | apply nle_agg)) (?_) ?_
  · exact Nat.zero_le _
  intro j hj; have hsj : SrcB (18 + (2000 + 18 * (n - j) - 18)) (srcJ s1 j) := srcJ_B j (h1.mono (by omega)); have hlen := outJ_len s1 j; by_cases hlt : j < n
  · have d1 : decide ((0 : Int) < (n : Int) - (j : Nat)) = true := (by rw [decide_eq_true_eq]; omega); have w1 : IntKind.i64.wrap ((n : Int) - (j : Nat) - 1) = (n : Int) - ((j + 1 : Nat) : Int) := (by rw [wrI (by omega) (by omega)]; omega); simp only [Src.d]; simp -implicitDefEqProofs (disch := omega) only [go_sem, ↓reduceIte , d1]; refine call_ioA (i := 0) (r := 7) (v_l34Measure (srcJ s1 j) (hsj.mono (by omega))) rfl rfl (by simp -implicitDefEqProofs (disch := omega) only [go_sem, ↓reduceIte, deep, TD.rows, immLL_rI, immLL_rB8, immLL_rS, immLL_rBo, immLL_rII, immLL_rIIt, Src.d, Measure.td_d, List.length_map, hlen, w1]; exact rfl) (by repeat (first | exact leL_nil | refine leL_cons ?_ ?_ | exact le_of_eq rfl | exact le_iptrN (leL_of_eq rfl) | refine le_agg ?_ | exact le_slf rfl (TD.rows ..) | refine le_iptr ?_ | refine le_fn ?_ ?_)) (by repeat (first | exact leL_nil | refine leL_cons ?_ ?_ | exact le_of_eq rfl | exact le_iptrN (leL_of_eq rfl) | refine le_agg ?_ | exact le_slf rfl (TD.rows ..) | refine le_iptr ?_ | refine le_fn ?_ ?_)) (by first | exact .inr rfl | exact .inl ⟨rfl, rfl⟩ | exact .inl ⟨by simp only [D.noImm, noImmL, go_sem, TD.nims, TD.nim], by simp only [D.noImm, noImmL, go_sem, TD.nims, TD.nim, nim_rI, nim_rB8, nim_rBo, nim_rS]⟩) ?_; simp -implicitDefEqProofs (disch := omega) only [go_sem, ↓reduceIte , Src.d, Measure.td_d, List.length_map, hlen, w1]; refine ⟨by omega, j + 1, by omega, hlt, ?_⟩; rw [outJ_succ, rows_snoc, srcJ_succ]
    (try simp -implicitDefEqProofs only [nleL_cc, nleL_nn, nle_self, nle_boxs, nle_aggs, nle_nils, and_self, and_true, true_and]) <;> repeat' (first | exact nle_of_eq rfl | exact nle_nil | apply And.intro | apply nle_sl | apply nleLL_cons | apply nleL_cons | exact nleL_nil | exact nleLL_nil | apply nle_box | apply nle_agg)
  · have d1 : decide ((0 : Int) < (n : Int) - (j : Nat)) = false := (by rw [decide_eq_false_iff_not]; omega); obtain rfl : j = n := (by omega); have h2 : SrcB 2000 (srcJ s1 j) := srcJ_B j h1; simp only [Src.d]; simp -implicitDefEqProofs (disch := omega) only [go_sem, ↓reduceIte , d1]; cases h12 : oneV (srcJ s1 j) 12 with
    | false => refine call_ioA (i := 0) (r := 7) (v_one (srcJ s1 j) 12 (h2.mono (by omega))) rfl rfl (by simp -implicitDefEqProofs (disch := omega) only [go_sem, ↓reduceIte, deep, TD.rows, immLL_rI, immLL_rB8, immLL_rS, immLL_rBo, immLL_rII, immLL_rIIt, Src.d, h12]; exact rfl) (by repeat (first | exact leL_nil | refine leL_cons ?_ ?_ | exact le_of_eq rfl | exact le_iptrN (leL_of_eq rfl) | refine le_agg ?_ | exact le_slf rfl (TD.rows ..) | refine le_iptr ?_ | refine le_fn ?_ ?_)) (by repeat (first | exact leL_nil | refine leL_cons ?_ ?_ | exact le_of_eq rfl | exact le_iptrN (leL_of_eq rfl) | refine le_agg ?_ | exact le_slf rfl (TD.rows ..) | refine le_iptr ?_ | refine le_fn ?_ ?_)) (by first | exact .inr rfl | exact .inl ⟨rfl, rfl⟩ | exact .inl ⟨by simp only [D.noImm, noImmL, go_sem, TD.nims, TD.nim], by simp only [D.noImm, noImmL, go_sem, TD.nims, TD.nim, nim_rI, nim_rB8, nim_rBo, nim_rS]⟩) ?_; simp -implicitDefEqProofs (disch := omega) only [go_sem, ↓reduceIte , Src.d, h12]
    | true =>
    refine call_ioA (i := 0) (r := 7) (v_one (srcJ s1 j) 12 (h2.mono (by omega))) rfl rfl (by simp -implicitDefEqProofs (disch := omega) only [go_sem, ↓reduceIte, deep, TD.rows, immLL_rI, immLL_rB8, immLL_rS, immLL_rBo, immLL_rII, immLL_rIIt, Src.d, h12]; exact rfl) (by repeat (first | exact leL_nil | refine leL_cons ?_ ?_ | exact le_of_eq rfl | exact le_iptrN (leL_of_eq rfl) | refine le_agg ?_ | exact le_slf rfl (TD.rows ..) | refine le_iptr ?_ | refine le_fn ?_ ?_)) (by repeat (first | exact leL_nil | refine leL_cons ?_ ?_ | exact le_of_eq rfl | exact le_iptrN (leL_of_eq rfl) | refine le_agg ?_ | exact le_slf rfl (TD.rows ..) | refine le_iptr ?_ | refine le_fn ?_ ?_)) (by first | exact .inr rfl | exact .inl ⟨rfl, rfl⟩ | exact .inl ⟨by simp only [D.noImm, noImmL, go_sem, TD.nims, TD.nim], by simp only [D.noImm, noImmL, go_sem, TD.nims, TD.nim, nim_rI, nim_rB8, nim_rBo, nim_rS]⟩) ?_; simp -implicitDefEqProofs (disch := omega) only [go_sem, ↓reduceIte , Src.d, h12]; generalize hR : fillM (62 - j) (outJ s1 j) (pickN (srcJ s1 j) 12) = R; refine loop_ov (by simp -implicitDefEqProofs (disch := omega) only [go_sem, ↓reduceIte]; exact rfl) (fun p : List Measure × Src => [(4, .sl true 7 (p.1.map (Measure.td.d true))), (7, .box none p.2.d)]) (fun _ => by simp only [ovr_nil, ovr_cons, List.set_cons_zero, List.set_cons_succ]; exact rfl) (fun p : List Measure × Src => p.1.length ≤ 62 ∧ fillM (62 - p.1.length) p.1 p.2 = R ∧ SrcB (20 * (62 - p.1.length) + 2) p.2) (fun p : List Measure × Src => 62 - p.1.length) ((outJ s1 j, pickN (srcJ s1 j) 12)) (by (try simp -implicitDefEqProofs only [nleL_cc, nleL_nn, nle_self, nle_boxs, nle_aggs, nle_nils, and_self, and_true, true_and]) <;> repeat' (first | exact nle_of_eq rfl | exact nle_nil | apply And.intro | apply nle_sl | apply nleLL_cons | apply nleL_cons | exact nleL_nil | exact nleLL_nil | apply nle_box | apply nle_agg)) (?_) ?_
    · exact ⟨by rw [hlen]; omega, by rw [hlen]; exact hR, SrcB.pick (h2.mono (by omega)) 12⟩
    rintro ⟨out, s⟩ ⟨hl, hf, hb⟩; simp only at hl hf hb; have a1 := pickV_in (k := 0) (hb.mono (by omega)) (n := 2) (by omega); have w1 : IntKind.i64.wrap (60 + pickV s 2) = 60 + pickV s 2 := wrI (by omega) (by omega); simp only [Src.d]; by_cases hlt : (out.length : Int) < 60 + pickV s 2
    · have d2 : decide ((out.length : Int) < 60 + pickV s 2) = true := decide_eq_true hlt; have hs2 : SrcB (20 * (62 - (out.length + 1)) + 2 + 18) (pickN s 2) := SrcB.pick (hb.mono (by omega)) 2; simp -implicitDefEqProofs (disch := omega) only [go_sem, ↓reduceIte , List.length_map]; refine call_ioA (i := 0) (r := 7) (v_pick s 2 (hb.mono (by omega))) rfl rfl (by simp -implicitDefEqProofs (disch := omega) only [go_sem, ↓reduceIte, deep, TD.rows, immLL_rI, immLL_rB8, immLL_rS, immLL_rBo, immLL_rII, immLL_rIIt, Src.d, w1, d2]; exact rfl) (by repeat (first | exact leL_nil | refine leL_cons ?_ ?_ | exact le_of_eq rfl | exact le_iptrN (leL_of_eq rfl) | refine le_agg ?_ | exact le_slf rfl (TD.rows ..) | refine le_iptr ?_ | refine le_fn ?_ ?_)) (by repeat (first | exact leL_nil | refine leL_cons ?_ ?_ | exact le_of_eq rfl | exact le_iptrN (leL_of_eq rfl) | refine le_agg ?_ | exact le_slf rfl (TD.rows ..) | refine le_iptr ?_ | refine le_fn ?_ ?_)) (by first | exact .inr rfl | exact .inl ⟨rfl, rfl⟩ | exact .inl ⟨by simp only [D.noImm, noImmL, go_sem, TD.nims, TD.nim], by simp only [D.noImm, noImmL, go_sem, TD.nims, TD.nim, nim_rI, nim_rB8, nim_rBo, nim_rS]⟩) ?_; simp -implicitDefEqProofs (disch := omega) only [go_sem, ↓reduceIte , Src.d, w1, d2]; refine call_ioA (i := 0) (r := 7) (v_l34Measure (pickN s 2) (hs2.mono (by omega))) rfl rfl (by simp -implicitDefEqProofs (disch := omega) only [go_sem, ↓reduceIte, deep, TD.rows, immLL_rI, immLL_rB8, immLL_rS, immLL_rBo, immLL_rII, immLL_rIIt, Src.d, Measure.td_d, List.length_map]; exact rfl) (by repeat (first | exact leL_nil | refine leL_cons ?_ ?_ | exact le_of_eq rfl | exact le_iptrN (leL_of_eq rfl) | refine le_agg ?_ | exact le_slf rfl (TD.rows ..) | refine le_iptr ?_ | refine le_fn ?_ ?_)) (by repeat (first | exact leL_nil | refine leL_cons ?_ ?_ | exact le_of_eq rfl | exact le_iptrN (leL_of_eq rfl) | refine le_agg ?_ | exact le_slf rfl (TD.rows ..) | refine le_iptr ?_ | refine le_fn ?_ ?_)) (by first | exact .inr rfl | exact .inl ⟨rfl, rfl⟩ | exact .inl ⟨by simp only [D.noImm, noImmL, go_sem, TD.nims, TD.nim], by simp only [D.noImm, noImmL, go_sem, TD.nims, TD.nim, nim_rI, nim_rB8, nim_rBo, nim_rS]⟩) ?_; simp -implicitDefEqProofs (disch := omega) only [go_sem, ↓reduceIte , Src.d, Measure.td_d, List.length_map]; refine ⟨by omega, (out ++ [m34 (pickN s 2)], m34N (pickN s 2)), by simp only [List.length_append, List.length_cons, List.length_nil]; omega, ⟨by simp only [List.length_append, List.length_cons, List.length_nil]; omega, ?_, ?_⟩, ?_⟩
      · rw [← hf, show 62 - out.length = (62 - (out.length + 1)) + 1 by omega]; simp only [List.length_append, List.length_cons, List.length_nil, fillM, if_pos hlt]
      · simp only [List.length_append, List.length_cons, List.length_nil]; exact m34_B hs2
      · rw [rows_snoc]
        (try simp -implicitDefEqProofs only [nleL_cc, nleL_nn, nle_self, nle_boxs, nle_aggs, nle_nils, and_self, and_true, true_and]) <;> repeat' (first | exact nle_of_eq rfl | exact nle_nil | apply And.intro | apply nle_sl | apply nleLL_cons | apply nleL_cons | exact nleL_nil | exact nleLL_nil | apply nle_box | apply nle_agg)
    · have d2 : decide ((out.length : Int) < 60 + pickV s 2) = false := decide_eq_false hlt; have hr : out = R := by
        rw [← hf]; cases 62 - out.length with
        | zero => rfl
        | succ k => simp only [fillM, if_neg hlt]
      simp -implicitDefEqProofs (disch := omega) only [go_sem, ↓reduceIte , List.length_map]; refine call_ioA (i := 0) (r := 7) (v_pick s 2 (hb.mono (by omega))) rfl rfl (by simp -implicitDefEqProofs (disch := omega) only [go_sem, ↓reduceIte, deep, TD.rows, immLL_rI, immLL_rB8, immLL_rS, immLL_rBo, immLL_rII, immLL_rIIt, Src.d, w1, d2]; exact rfl) (by repeat (first | exact leL_nil | refine leL_cons ?_ ?_ | exact le_of_eq rfl | exact le_iptrN (leL_of_eq rfl) | refine le_agg ?_ | exact le_slf rfl (TD.rows ..) | refine le_iptr ?_ | refine le_fn ?_ ?_)) (by repeat (first | exact leL_nil | refine leL_cons ?_ ?_ | exact le_of_eq rfl | exact le_iptrN (leL_of_eq rfl) | refine le_agg ?_ | exact le_slf rfl (TD.rows ..) | refine le_iptr ?_ | refine le_fn ?_ ?_)) (by first | exact .inr rfl | exact .inl ⟨rfl, rfl⟩ | exact .inl ⟨by simp only [D.noImm, noImmL, go_sem, TD.nims, TD.nim], by simp only [D.noImm, noImmL, go_sem, TD.nims, TD.nim, nim_rI, nim_rB8, nim_rBo, nim_rS]⟩) ?_; simp -implicitDefEqProofs (disch := omega) only [go_sem, ↓reduceIte , Src.d, w1, d2]; rw [hr]
theorem dom_parts {a b : Measure} : domB a b = true ↔ (a.Tiles ≤ b.Tiles ∧ a.Kinds ≤ b.Kinds ∧ a.Glues ≤ b.Glues ∧ a.Area ≤ b.Area ∧ a.Misfits ≤ b.Misfits ∧ b.Strength ≤ a.Strength ∧ b.Slack ≤ a.Slack) ∧ ¬ (a.Tiles = b.Tiles ∧ a.Kinds = b.Kinds ∧ a.Glues = b.Glues ∧ a.Area = b.Area ∧ a.Strength = b.Strength ∧ a.Misfits = b.Misfits ∧ a.Slack = b.Slack) := by unfold domB; simp only [Bool.and_eq_true, Bool.not_eq_true', Bool.or_eq_false_iff, decide_eq_false_iff_not, decide_eq_true_eq, Bool.and_eq_false_iff]; omega
theorem dom_irr (a : Measure) : domB a a = false := by
  cases h : domB a a with
  | false => rfl
  | true => exact absurd ⟨rfl, rfl, rfl, rfl, rfl, rfl, rfl⟩ (dom_parts.1 h).2
theorem dom_trans {a b c : Measure} (h1 : domB a b = true) (h2 : domB b c = true) : domB a c = true := by rw [dom_parts] at *; omega
theorem dom_asym {a b : Measure} (h : domB a b = true) : domB b a = false := by
  cases h2 : domB b a with
  | false => rfl
  | true => have := dom_trans h h2; rw [dom_irr] at this; cases this
theorem countP_lt {α : Type} {p r : α → Bool} : ∀ {xs : List α}, (∀ x, p x = true → r x = true) → (∃ y, y ∈ xs ∧ p y = false ∧ r y = true) → xs.countP p < xs.countP r
  | [], _, ⟨y, hy, _⟩ => by cases hy
  | x :: xs, h, ⟨y, hy, h1, h2⟩ => by
    have hle : xs.countP p ≤ xs.countP r := List.countP_mono_left (fun z _ hz => h z hz); rw [List.countP_cons, List.countP_cons]; rcases List.mem_cons.1 hy with rfl | hy
    · simp only [h1, h2, Bool.false_eq_true, if_false, if_true]; omega
    · have ih := countP_lt h ⟨y, hy, h1, h2⟩; cases hp : p x with
      | true => simp only [h x hp, if_true]; omega
      | false => simp only [Bool.false_eq_true, if_false]; split <;> omega
theorem best_above (q : List Measure) : ∀ (n : Nat) (x : Measure), q.countP (fun o => domB o x) = n → q.any (fun o => domB o x) = true → ∃ k, ∃ hk : k < q.length, bestAt q k = true ∧ domB q[k] x = true := by
  intro n; induction n using Nat.strongRecOn with
  | ind n ih =>
    intro x hn hx; rw [List.any_eq_true] at hx; obtain ⟨y, hy, hyx⟩ := hx; obtain ⟨k, hk, rfl⟩ := List.getElem_of_mem hy; cases hb : bestAt q k with
    | true => exact ⟨k, hk, hb, hyx⟩
    | false => have hany : q.any (fun o => domB o q[k]) = true := (by unfold bestAt at hb; rw [List.getElem?_eq_getElem hk] at hb; simpa using hb); have hlt : q.countP (fun o => domB o q[k]) < n := (by rw [← hn]; exact countP_lt (fun o ho => dom_trans ho hyx) ⟨q[k], hy, dom_irr _, hyx⟩); obtain ⟨j, hj, h1, h2⟩ := ih _ hlt q[k] rfl hany; exact ⟨j, hj, h1, dom_trans h2 hyx⟩
def domI (q : List Measure) (x : Measure) (j : Int) : Bool := match q[j.toNat]? with
  | some m => domB m x
  | none => false
theorem mem_best {q : List Measure} {n : Nat} {j : Int} : j ∈ bestL q n ↔ ∃ k : Nat, j = (k : Int) ∧ k < n ∧ bestAt q k = true := by unfold bestL; simp only [List.mem_map, List.mem_filter, List.mem_range]; exact ⟨fun ⟨k, ⟨h1, h2⟩, h3⟩ => ⟨k, h3.symm, h1, h2⟩, fun ⟨k, h1, h2, h3⟩ => ⟨k, ⟨h2, h3⟩, h1.symm⟩⟩
theorem best_or (q : List Measure) {i : Nat} (hi : i < q.length) : (bestL q q.length).any (domI q q[i]) = !bestAt q i := by
  cases hb : bestAt q i with
  | true =>
    rw [Bool.not_true, List.any_eq_false]; intro j hj; obtain ⟨k, rfl, hk, _⟩ := mem_best.1 hj; have hno : q.any (fun o => domB o q[i]) = false := by unfold bestAt at hb; rw [List.getElem?_eq_getElem hi] at hb; simpa using hb
    rw [List.any_eq_false] at hno; unfold domI; rw [Int.toNat_natCast, List.getElem?_eq_getElem hk]; exact hno _ (List.getElem_mem hk)
  | false => have hany : q.any (fun o => domB o q[i]) = true := (by unfold bestAt at hb; rw [List.getElem?_eq_getElem hi] at hb; simpa using hb); obtain ⟨k, hk, h1, h2⟩ := best_above q _ q[i] rfl hany; rw [Bool.not_false, List.any_eq_true]; refine ⟨(k : Int), mem_best.2 ⟨k, rfl, hk, h1⟩, ?_⟩; unfold domI; rw [Int.toNat_natCast, List.getElem?_eq_getElem hk]; exact h2
theorem best_split (q : List Measure) {i n : Nat} (h : i ≤ n) : ∃ rest, bestL q n = bestL q i ++ rest ∧ ∀ j, j ∈ rest → (i : Int) ≤ j := by
  induction n with
  | zero =>
    obtain rfl : i = 0 := (by omega)
    exact ⟨[], by simp, fun _ h => by cases h⟩
  | succ n ih =>
    by_cases hi : i = n + 1
    · subst hi; exact ⟨[], by simp, fun _ h => by cases h⟩
    · obtain ⟨rest, h1, h2⟩ := ih (by omega); cases hb : bestAt q n with
      | true =>
        rw [bestL_t hb, h1]; refine ⟨rest ++ [(n : Int)], by simp, fun j hj => ?_⟩; rcases List.mem_append.1 hj with hj | hj
        · exact h2 j hj
        · simp at hj; omega
      | false => rw [bestL_f hb]; exact ⟨rest, h1, h2⟩
theorem best_next (q : List Measure) {i : Nat} (hi : i < q.length) (hb : bestAt q i = true) : (bestL q q.length)[(bestL q i).length]? = some (i : Int) := by obtain ⟨rest, h1, _⟩ := best_split q (show i + 1 ≤ q.length from hi); rw [h1, bestL_t hb]; simp
theorem best_none (q : List Measure) {i : Nat} (hi : i < q.length) (hb : bestAt q i = false) {v : Int} (h : (bestL q q.length)[(bestL q i).length]? = some v) : v ≠ (i : Int) := by obtain ⟨rest, h1, h2⟩ := best_split q (show i + 1 ≤ q.length from hi); rw [h1, bestL_f hb, List.getElem?_append_right (Nat.le_refl _)] at h; have := h2 v (List.mem_of_getElem? h); omega
theorem best_step (q : List Measure) (i : Nat) : (bestL q (i + 1)).length = (bestL q i).length + (if bestAt q i then 1 else 0) := by
  cases hb : bestAt q i with
  | true => rw [bestL_t hb]; simp
  | false => rw [bestL_f hb]; simp
theorem any_take {α : Type} (p : α → Bool) {xs : List α} {k : Nat} {x : α} (h : xs[k]? = some x) : (xs.take (k + 1)).any p = ((xs.take k).any p || p x) := by have hk := (List.getElem?_eq_some_iff.1 h).1; rw [List.take_succ_eq_append_getElem hk, List.any_append]; have : xs[k] = x := (List.getElem?_eq_some_iff.1 h).2; simp [this]
def code_laws_FnBest : VCode := (.seq (.ops [
  ⟨(some 2), none, (.asg (.const (.bool false)))⟩]) (.seq (.seq (.ops [
  ⟨(some 14), none, (.mv (.tmp 0))⟩,
  ⟨(some 15), none, (.callX 4 [(.tmp 14), (.const (.slice none 0 0))])⟩]) (.cond (.tmp 15) (.seq (.ops [
  ⟨(some 2), none, (.asg (.const (.bool true)))⟩]) .ret) .skip)) (.seq (.ops [
  ⟨(some 16), none, (.mv (.tmp 0))⟩,
  ⟨(some 17), none, (.callX 5 [(.tmp 16)])⟩,
  ⟨(some 3), none, (.asg (.tmp 17))⟩]) (.seq (.ops [
  ⟨(some 19), none, (.mv (.tmp 3))⟩,
  ⟨(some 20), none, (.callX 6 [(.tmp 19)])⟩,
  ⟨(some 18), none, (.mv (.tmp 20))⟩,
  ⟨(some 21), none, (.ext (.tmp 18) 0)⟩,
  ⟨(some 22), none, (.ext (.tmp 18) 1)⟩,
  ⟨(some 4), none, (.asg (.tmp 21))⟩,
  ⟨(some 5), none, (.asg (.tmp 22))⟩]) (.seq (.seq (.ops [
  ⟨(some 23), none, (.mv (.tmp 5))⟩,
  ⟨(some 24), none, (.bin .neq (.tmp 23) (.const (.int .i64 0)))⟩]) (.cond (.tmp 24) (.seq (.ops [
  ⟨(some 26), none, (.mv (.tmp 3))⟩,
  ⟨(some 27), none, (.callX 7 [(.tmp 26)])⟩,
  ⟨(some 25), none, (.mv (.tmp 27))⟩,
  ⟨(some 28), none, (.ext (.tmp 25) 0)⟩,
  ⟨(some 29), none, (.ext (.tmp 25) 1)⟩,
  ⟨(some 6), none, (.asg (.tmp 28))⟩,
  ⟨(some 7), none, (.asg (.tmp 29))⟩]) (.seq (.ops [
  ⟨(some 30), none, (.mv (.tmp 5))⟩,
  ⟨(some 31), none, (.mv (.tmp 7))⟩,
  ⟨(some 32), none, (.bin .eql (.tmp 30) (.tmp 31))⟩,
  ⟨(some 2), none, (.asg (.tmp 32))⟩]) .ret)) .skip)) (.seq (.ops [
  ⟨(some 8), none, (.asg (.const (.int .i64 0)))⟩]) (.seq (.seq (.ops [
  ⟨(some 9), none, (.asg (.const (.int .i64 0)))⟩]) (.block 0 (.loop (mB 134 21778071482940061661655974875633161403623) (.seq (.seq (.ops [
  ⟨(some 33), none, (.mv (.tmp 9))⟩,
  ⟨(some 34), none, (.mv (.tmp 3))⟩,
  ⟨(some 35), none, (.len (.tmp 34))⟩,
  ⟨(some 36), none, (.bin .lss (.tmp 33) (.tmp 35))⟩]) (.cond (.tmp 36) .skip (.exit 0))) (.seq (.block 1 (.seq (.ops [
  ⟨(some 39), none, (.mv (.tmp 8))⟩,
  ⟨(some 40), none, (.mv (.tmp 4))⟩,
  ⟨(some 41), none, (.len (.tmp 40))⟩,
  ⟨(some 42), none, (.bin .lss (.tmp 39) (.tmp 41))⟩,
  ⟨(some 43), none, (.mv (.tmp 42))⟩,
  ⟨(some 44), (some (43, true)), (.mv (.tmp 4))⟩,
  ⟨(some 45), (some (43, true)), (.mv (.tmp 8))⟩,
  ⟨(some 46), (some (43, true)), (.ia 1 (.tmp 44) (.tmp 45))⟩,
  ⟨(some 47), (some (43, true)), (.load 1 false (.tmp 46))⟩,
  ⟨(some 48), (some (43, true)), (.mv (.tmp 9))⟩,
  ⟨(some 49), (some (43, true)), (.bin .eql (.tmp 47) (.tmp 48))⟩,
  ⟨(some 50), none, (.pick (.tmp 43) (.tmp 49) (.const (.bool false)))⟩,
  ⟨(some 10), none, (.asg (.tmp 50))⟩]) (.seq (.ops [
  ⟨(some 11), none, (.asg (.const (.bool false)))⟩]) (.seq (.seq (.ops [
  ⟨(some 12), none, (.asg (.const (.int .i64 0)))⟩]) (.block 2 (.loop (mB 134 21778071482940061661655974875633161396455) (.seq (.seq (.ops [
  ⟨(some 51), none, (.mv (.tmp 12))⟩,
  ⟨(some 52), none, (.mv (.tmp 4))⟩,
  ⟨(some 53), none, (.len (.tmp 52))⟩,
  ⟨(some 54), none, (.bin .lss (.tmp 51) (.tmp 53))⟩]) (.cond (.tmp 54) .skip (.exit 2))) (.seq (.block 3 (.draw (mB 85 38685626083552945514741760) [] [⟨0, (mB 85 38685626083552945514741760), [], ⟨(some 57), none, (.mv (.tmp 11))⟩⟩, ⟨1, (mB 85 38685625939437757438885888), [], ⟨(some 58), none, (.mv (.tmp 57))⟩⟩, ⟨2, (mB 85 38685625651207381287174144), [], ⟨(some 59), (some (58, false)), (.mv (.tmp 4))⟩⟩, ⟨3, (mB 85 38685625651207381287174144), [], ⟨(some 60), (some (58, false)), (.mv (.tmp 12))⟩⟩, ⟨4, (mB 85 38685623921825124376903680), [], ⟨(some 61), (some (58, false)), (.ia 1 (.tmp 59) (.tmp 60))⟩⟩, ⟨5, (mB 85 38685621615982115163209728), [], ⟨(some 62), (some (58, false)), (.load 1 false (.tmp 61))⟩⟩, ⟨6, (mB 85 38685617004296096735821824), [], ⟨(some 63), (some (58, false)), (.bin .geq (.tmp 62) (.const (.int .i64 0)))⟩⟩, ⟨7, (mB 85 38685607780924059881046016), [], ⟨(some 64), (some (58, false)), (.mv (.tmp 63))⟩⟩, ⟨8, (mB 85 38685589334179986171494400), [], ⟨(some 65), (some (64, true)), (.mv (.tmp 4))⟩⟩, ⟨9, (mB 85 38685589334179986171494400), [], ⟨(some 66), (some (64, true)), (.mv (.tmp 12))⟩⟩, ⟨10, (mB 85 38685478653715543914184704), [], ⟨(some 67), (some (64, true)), (.ia 1 (.tmp 65) (.tmp 66))⟩⟩, ⟨11, (mB 85 38685331079762954237771776), [], ⟨(some 68), (some (64, true)), (.load 1 false (.tmp 67))⟩⟩, ⟨12, (mB 85 38685589334179986171494400), [], ⟨(some 69), (some (64, true)), (.mv (.tmp 3))⟩⟩, ⟨13, (mB 85 38684999038369627465842688), [], ⟨(some 70), (some (64, true)), (.len (.tmp 69))⟩⟩, ⟨14, (mB 85 38683265044426698767990784), [], ⟨(some 71), (some (64, true)), (.bin .lss (.tmp 68) (.tmp 70))⟩⟩, ⟨15, (mB 85 38680903861185263945383936), [], ⟨(some 72), (some (58, false)), (.pick (.tmp 64) (.tmp 71) (.const (.bool false)))⟩⟩, ⟨16, (mB 85 38676181494702394300170240), [], ⟨(some 73), (some (58, false)), (.mv (.tmp 72))⟩⟩, ⟨17, (mB 85 38666736761736655009742848), [], ⟨(some 74), (some (73, true)), (.mv (.tmp 3))⟩⟩, ⟨18, (mB 85 38666736761736655009742848), [], ⟨(some 75), (some (73, true)), (.mv (.tmp 4))⟩⟩, ⟨19, (mB 85 38666736761736655009742848), [], ⟨(some 76), (some (73, true)), (.mv (.tmp 12))⟩⟩, ⟨20, (mB 85 38553399966147783524614144), [], ⟨(some 77), (some (73, true)), (.ia 1 (.tmp 75) (.tmp 76))⟩⟩, ⟨21, (mB 85 38402284238695954877775872), [], ⟨(some 78), (some (73, true)), (.load 1 false (.tmp 77))⟩⟩, ⟨22, (mB 85 38081163317860819003244544), [], ⟨(some 79), (some (73, true)), (.ia 7 (.tmp 74) (.tmp 78))⟩⟩, ⟨23, (mB 85 37476700408053504415891456), [], ⟨(some 80), (some (73, true)), (.load 7 true (.tmp 79))⟩⟩, ⟨24, (mB 85 38666736761736655009742848), [], ⟨(some 81), (some (73, true)), (.mv (.tmp 3))⟩⟩, ⟨25, (mB 85 38666736761736655009742848), [], ⟨(some 82), (some (73, true)), (.mv (.tmp 9))⟩⟩, ⟨26, (mB 85 31413181844048879961505792), [], ⟨(some 83), (some (73, true)), (.ia 7 (.tmp 81) (.tmp 82))⟩⟩, ⟨27, (mB 85 21741775287131846563856384), [], ⟨(some 84), (some (73, true)), (.load 7 true (.tmp 83))⟩⟩] [⟨(some 85), (some (73, true)), (.callX 8 [(.tmp 80), (.tmp 84)])⟩, ⟨(some 86), (some (58, false)), (.pick (.tmp 73) (.tmp 85) (.const (.bool false)))⟩, ⟨(some 87), none, (.pick (.tmp 58) (.const (.bool true)) (.tmp 86))⟩, ⟨(some 11), none, (.asg (.tmp 87))⟩])) (.ops [
  ⟨(some 55), none, (.mv (.tmp 12))⟩,
  ⟨(some 56), none, (.bin .add (.tmp 55) (.const (.int .i64 1)))⟩,
  ⟨(some 12), none, (.asg (.tmp 56))⟩])))))) (.seq (.seq (.draw (mB 100 1267341115218408056427978424320) [] [⟨0, (mB 100 1267341115218408056427978424320), [], ⟨(some 88), none, (.mv (.tmp 10))⟩⟩, ⟨1, (mB 100 1267341115218408056427978424320), [], ⟨(some 89), none, (.mv (.tmp 11))⟩⟩, ⟨2, (mB 100 1266412660188944021221804081152), [], ⟨(some 90), none, (.binB false (.tmp 88) (.tmp 89))⟩⟩, ⟨3, (mB 100 1265174720149658640946904956928), [], ⟨(some 91), none, (.mv (.tmp 90))⟩⟩, ⟨4, (mB 100 1262698840071087880397106708480), [], ⟨(some 92), (some (91, false)), (.mv (.tmp 3))⟩⟩, ⟨5, (mB 100 1262698840071087880397106708480), [], ⟨(some 93), (some (91, false)), (.mv (.tmp 9))⟩⟩, ⟨6, (mB 100 1247843559599663317098317217792), [], ⟨(some 94), (some (91, false)), (.ia 7 (.tmp 92) (.tmp 93))⟩⟩, ⟨7, (mB 100 1228036518971097232699931230208), [], ⟨(some 95), (some (91, false)), (.load 7 true (.tmp 94))⟩⟩, ⟨8, (mB 100 1262698840071087880397106708480), [], ⟨(some 96), (some (91, false)), (.mv (.tmp 3))⟩⟩, ⟨9, (mB 100 1262698840071087880397106708480), [], ⟨(some 97), (some (91, false)), (.mv (.tmp 9))⟩⟩, ⟨10, (mB 100 1025014352528294867616474857472), [], ⟨(some 98), (some (91, false)), (.ia 7 (.tmp 96) (.tmp 97))⟩⟩, ⟨11, (mB 100 708101702471237517242299056128), [], ⟨(some 99), (some (91, false)), (.load 7 true (.tmp 98))⟩⟩] [⟨(some 100), (some (91, false)), (.callX 8 [(.tmp 95), (.tmp 99)])⟩, ⟨(some 101), none, (.pick (.tmp 91) (.const (.bool true)) (.tmp 100))⟩]) (.cond (.tmp 101) (.seq (.ops [
  ⟨(some 2), none, (.asg (.const (.bool false)))⟩]) .ret) .skip)) (.seq (.seq (.ops [
  ⟨(some 102), none, (.mv (.tmp 10))⟩]) (.cond (.tmp 102) (.ops [
  ⟨(some 103), none, (.mv (.tmp 8))⟩,
  ⟨(some 104), none, (.bin .add (.tmp 103) (.const (.int .i64 1)))⟩,
  ⟨(some 8), none, (.asg (.tmp 104))⟩]) .skip)) (.seq (.ops [
  ⟨(some 13), none, (.asg (.const (.int .i64 0)))⟩]) (.block 4 (.loop (mB 134 21778071482940061661655974875633161395431) (.seq (.seq (.ops [
  ⟨(some 105), none, (.mv (.tmp 13))⟩,
  ⟨(some 106), none, (.mv (.tmp 9))⟩,
  ⟨(some 107), none, (.bin .lss (.tmp 105) (.tmp 106))⟩]) (.cond (.tmp 107) .skip (.exit 4))) (.seq (.block 5 (.seq (.draw (mB 128 340281068846723829756467474807685906432) [] [⟨0, (mB 128 340281068846723829756467474807685906432), [], ⟨(some 110), none, (.mv (.tmp 3))⟩⟩, ⟨1, (mB 128 340281068846723829756467474807685906432), [], ⟨(some 111), none, (.mv (.tmp 9))⟩⟩, ⟨2, (mB 128 340277174624079928635746076935438991360), [], ⟨(some 112), none, (.ia 7 (.tmp 110) (.tmp 111))⟩⟩, ⟨3, (mB 128 340271982327221393808117546439109771264), [], ⟨(some 113), none, (.load 7 true (.tmp 112))⟩⟩, ⟨4, (mB 128 340281068846723829756467474807685906432), [], ⟨(some 114), none, (.mv (.tmp 3))⟩⟩, ⟨5, (mB 128 340281068846723829756467474807685906432), [], ⟨(some 115), none, (.mv (.tmp 13))⟩⟩, ⟨6, (mB 128 340218761284421411824925108851735265280), [], ⟨(some 116), none, (.ia 7 (.tmp 114) (.tmp 115))⟩⟩, ⟨7, (mB 128 340135684534684854582868620910467743744), [], ⟨(some 117), none, (.load 7 true (.tmp 116))⟩⟩, ⟨8, (mB 128 339950059921992234495148655666698125312), [], ⟨(some 118), none, (.call 8 [(.tmp 113), (.tmp 117)])⟩⟩, ⟨9, (mB 128 339617752923046005526922703901628039168), [], ⟨(some 119), none, (.mv (.tmp 118))⟩⟩, ⟨10, (mB 128 338953138925153547590470800371487866880), [], ⟨(some 120), (some (119, true)), (.mv (.tmp 3))⟩⟩, ⟨11, (mB 128 338953138925153547590470800371487866880), [], ⟨(some 121), (some (119, true)), (.mv (.tmp 13))⟩⟩, ⟨12, (mB 128 334965454937798799971759379190646833152), [], ⟨(some 122), (some (119, true)), (.ia 7 (.tmp 120) (.tmp 121))⟩⟩, ⟨13, (mB 128 329648542954659136480144150949525454848), [], ⟨(some 123), (some (119, true)), (.load 7 true (.tmp 122))⟩⟩, ⟨14, (mB 128 338953138925153547590470800371487866880), [], ⟨(some 124), (some (119, true)), (.mv (.tmp 3))⟩⟩, ⟨15, (mB 128 338953138925153547590470800371487866880), [], ⟨(some 125), (some (119, true)), (.mv (.tmp 9))⟩⟩, ⟨16, (mB 128 275150195127477585691088061478031327232), [], ⟨(some 126), (some (119, true)), (.ia 7 (.tmp 124) (.tmp 125))⟩⟩, ⟨17, (mB 128 190079603397242969825244409620089274368), [], ⟨(some 127), (some (119, true)), (.load 7 true (.tmp 126))⟩⟩] [⟨(some 128), (some (119, true)), (.callX 8 [(.tmp 123), (.tmp 127)])⟩, ⟨(some 129), none, (.pick (.tmp 119) (.tmp 128) (.const (.bool false)))⟩]) (.cond (.tmp 129) (.seq (.ops [
  ⟨(some 2), none, (.asg (.const (.bool false)))⟩]) .ret) .skip))) (.ops [
  ⟨(some 108), none, (.mv (.tmp 13))⟩,
  ⟨(some 109), none, (.bin .add (.tmp 108) (.const (.int .i64 1)))⟩,
  ⟨(some 13), none, (.asg (.tmp 109))⟩])))))))))))) (.ops [
  ⟨(some 37), none, (.mv (.tmp 9))⟩,
  ⟨(some 38), none, (.bin .add (.tmp 37) (.const (.int .i64 1)))⟩,
  ⟨(some 9), none, (.asg (.tmp 38))⟩])))))) (.seq (.ops [
  ⟨(some 130), none, (.mv (.tmp 8))⟩,
  ⟨(some 131), none, (.mv (.tmp 4))⟩,
  ⟨(some 132), none, (.len (.tmp 131))⟩,
  ⟨(some 133), none, (.bin .eql (.tmp 130) (.tmp 132))⟩,
  ⟨(some 2), none, (.asg (.tmp 133))⟩]) .ret))))))))
theorem law_laws_FnBest {a0 d : D} (h : code_laws_FnBest.wp (CT Try.prog NoG) (endQ [(.t 2)] d) [a0, .undef, .undef, .undef, .undef, .undef, .undef, .undef, .undef, .undef, .undef, .undef, .undef, .undef, .undef, .undef, .undef, .undef, .undef, .undef, .undef, .undef, .undef, .undef, .undef, .undef, .undef, .undef, .undef, .undef, .undef, .undef, .undef, .undef, .undef, .undef, .undef, .undef, .undef, .undef, .undef, .undef, .undef, .undef, .undef, .undef, .undef, .undef, .undef, .undef, .undef, .undef, .undef, .undef, .undef, .undef, .undef, .undef, .undef, .undef, .undef, .undef, .undef, .undef, .undef, .undef, .undef, .undef, .undef, .undef, .undef, .undef, .undef, .undef, .undef, .undef, .undef, .undef, .undef, .undef, .undef, .undef, .undef, .undef, .undef, .undef, .undef, .undef, .undef, .undef, .undef, .undef, .undef, .undef, .undef, .undef, .undef, .undef, .undef, .undef, .undef, .undef, .undef, .undef, .undef, .undef, .undef, .undef, .undef, .undef, .undef, .undef, .undef, .undef, .undef, .undef, .undef, .undef, .undef, .undef, .undef, .undef, .undef, .undef, .undef, .undef, .undef, .undef, .undef, .undef, .undef, .undef, .undef, .undef]) : Contract Try.prog NoG 3 [a0] d :=
  contract_of noG Try.func3 (fun us W => by kernel_rfl) (c := Try.f3.body.getD .skip) (ms := [(mB 134 21778071482940061661655974875633161403623), (mB 134 21778071482940061661655974875633161396455), (mB 134 21778071482940061661655974875633161395431)]) (ms' := []) (by kernel_rfl) (by kernel_rfl) (by kernel_rfl) h
def code_laws_a2Long : VCode := (.seq (.ops [
  ⟨(some 4), none, (.asg (.const (.bool false)))⟩]) (.seq (.ops [
  ⟨(some 5), none, (.mv (.tmp 0))⟩,
  ⟨(some 6), none, (.len (.tmp 5))⟩,
  ⟨(some 7), none, (.bin .gtr (.tmp 6) (.const (.int .i64 3000)))⟩,
  ⟨(some 8), none, (.mv (.tmp 7))⟩,
  ⟨(some 9), (some (8, false)), (.mv (.tmp 1))⟩,
  ⟨(some 10), (some (8, false)), (.len (.tmp 9))⟩,
  ⟨(some 11), (some (8, false)), (.bin .gtr (.tmp 10) (.const (.int .i64 3000)))⟩,
  ⟨(some 12), none, (.pick (.tmp 8) (.const (.bool true)) (.tmp 11))⟩,
  ⟨(some 4), none, (.asg (.tmp 12))⟩]) .ret))
theorem law_laws_a2Long {a0 a1 d : D} (h : code_laws_a2Long.wp (CT Try.prog NoG) (endQ [(.t 4)] d) [a0, a1, .undef, .undef, .undef, .undef, .undef, .undef, .undef, .undef, .undef, .undef, .undef]) : Contract Try.prog NoG 4 [a0, a1] d :=
  contract_of noG Try.func4 (fun us W => by kernel_rfl) (c := Try.f4.body.getD .skip) (ms := []) (ms' := []) (by kernel_rfl) (by kernel_rfl) (by kernel_rfl) h
theorem v_a2Long (a : List Int) : Contract Try.prog NoG 4 [.sl false 1 (a.map rB8), .nils] (.v (.bool (decide (3000 < (a.length : Int))))) := by
  refine law_laws_a2Long ?_; unfold code_laws_a2Long; simp -implicitDefEqProofs (disch := omega) only [go_sem, ↓reduceIte , List.length_map]; cases h : decide ((3000 : Int) < (a.length : Int)) with
  | true => simp -implicitDefEqProofs (disch := omega) only [go_sem, ↓reduceIte , h]
  | false => simp -implicitDefEqProofs (disch := omega) only [go_sem, ↓reduceIte , h, Int.natCast_zero, Int.reduceLT]
set_option maxHeartbeats 8000000 in
theorem vlawBest (q_code : List Int) (hc : ∀ x, x ∈ q_code → InK .u8 x) : Contract Try.prog NoG 3 [.sl false 1 (q_code.map rB8)] (.v (.bool true)) := by
  refine law_laws_FnBest ?_; unfold code_laws_FnBest; simp -implicitDefEqProofs (disch := omega) only [go_sem, ↓reduceIte]; by_cases hl : (3000 : Int) < (q_code.length : Int)
  · have d0 := decide_eq_true hl; refine call_leA (v_a2Long q_code) (by simp -implicitDefEqProofs (disch := omega) only [go_sem, ↓reduceIte, deep, TD.rows, immLL_rI, immLL_rB8, immLL_rS, immLL_rBo, immLL_rII, immLL_rIIt, d0]; exact rfl) (by repeat (first | exact leL_nil | refine leL_cons ?_ ?_ | exact le_of_eq rfl | exact le_iptrN (leL_of_eq rfl) | refine le_agg ?_ | exact le_slf rfl (TD.rows ..) | refine le_iptr ?_ | refine le_fn ?_ ?_)) (by first | exact .inl rfl | exact .inr rfl | exact .inl (by simp only [D.noImm, noImmL, go_sem, TD.nims, TD.nim, nim_rI, nim_rB8, nim_rBo, nim_rS])) ?_; simp -implicitDefEqProofs (disch := omega) only [go_sem, ↓reduceIte , d0]
  · have d0 := decide_eq_false hl; have hC : CodeB q_code := ⟨fun x hx => by have := hc x hx; unfold InK at this; omega, by omega⟩
    refine call_leA (v_a2Long q_code) (by simp -implicitDefEqProofs (disch := omega) only [go_sem, ↓reduceIte, deep, TD.rows, immLL_rI, immLL_rB8, immLL_rS, immLL_rBo, immLL_rII, immLL_rIIt, d0]; exact rfl) (by repeat (first | exact leL_nil | refine leL_cons ?_ ?_ | exact le_of_eq rfl | exact le_iptrN (leL_of_eq rfl) | refine le_agg ?_ | exact le_slf rfl (TD.rows ..) | refine le_iptr ?_ | refine le_fn ?_ ?_)) (by first | exact .inl rfl | exact .inr rfl | exact .inl (by simp only [D.noImm, noImmL, go_sem, TD.nims, TD.nim, nim_rI, nim_rB8, nim_rBo, nim_rS])) ?_; simp -implicitDefEqProofs (disch := omega) only [go_sem, ↓reduceIte , d0]; have hq := drawM_ok hC; have hn := drawM_len hC; have hD := v_DrawBestMeasures q_code hC; generalize drawM q_code = q at *; have hI := vBestMeasures_impl q hq (by omega); have hS := vBestMeasures_spec q hq (by omega); refine call_leA (hD) (by simp -implicitDefEqProofs (disch := omega) only [go_sem, ↓reduceIte, deep, TD.rows, immLL_rI, immLL_rB8, immLL_rS, immLL_rBo, immLL_rII, immLL_rIIt]; exact rfl) (by repeat (first | exact leL_nil | refine leL_cons ?_ ?_ | exact le_of_eq rfl | exact le_iptrN (leL_of_eq rfl) | refine le_agg ?_ | exact le_slf rfl (TD.rows ..) | refine le_iptr ?_ | refine le_fn ?_ ?_)) (by first | exact .inl rfl | exact .inr rfl | exact .inl (by simp only [D.noImm, noImmL, go_sem, TD.nims, TD.nim, nim_rI, nim_rB8, nim_rBo, nim_rS])) ?_; simp -implicitDefEqProofs (disch := omega) only [go_sem, ↓reduceIte]; by_cases h60 : 60 < q.length
    · have hr : bestR q = [] := (by unfold bestR; rw [if_pos h60]); have hcc : bestC q = 2 := (by unfold bestC; rw [if_pos h60]); rw [hr, hcc] at hI hS; refine call_leA (hI) (by simp -implicitDefEqProofs (disch := omega) only [go_sem, ↓reduceIte, deep, TD.rows, immLL_rI, immLL_rB8, immLL_rS, immLL_rBo, immLL_rII, immLL_rIIt, Int.reduceEq, decide_false, decide_true]; exact rfl) (by repeat (first | exact leL_nil | refine leL_cons ?_ ?_ | exact le_of_eq rfl | exact le_iptrN (leL_of_eq rfl) | refine le_agg ?_ | exact le_slf rfl (TD.rows ..) | refine le_iptr ?_ | refine le_fn ?_ ?_)) (by first | exact .inl rfl | exact .inr rfl | exact .inl (by simp only [D.noImm, noImmL, go_sem, TD.nims, TD.nim, nim_rI, nim_rB8, nim_rBo, nim_rS])) ?_; simp -implicitDefEqProofs (disch := omega) only [go_sem, ↓reduceIte , Int.reduceEq, decide_false, decide_true]; refine call_leA (hS) (by simp -implicitDefEqProofs (disch := omega) only [go_sem, ↓reduceIte, deep, TD.rows, immLL_rI, immLL_rB8, immLL_rS, immLL_rBo, immLL_rII, immLL_rIIt, decide_true]; exact rfl) (by repeat (first | exact leL_nil | refine leL_cons ?_ ?_ | exact le_of_eq rfl | exact le_iptrN (leL_of_eq rfl) | refine le_agg ?_ | exact le_slf rfl (TD.rows ..) | refine le_iptr ?_ | refine le_fn ?_ ?_)) (by first | exact .inl rfl | exact .inr rfl | exact .inl (by simp only [D.noImm, noImmL, go_sem, TD.nims, TD.nim, nim_rI, nim_rB8, nim_rBo, nim_rS])) ?_; simp -implicitDefEqProofs (disch := omega) only [go_sem, ↓reduceIte , decide_true]
    · have hr : bestR q = bestL q q.length := (by unfold bestR; rw [if_neg h60]); have hcc : bestC q = 0 := (by unfold bestC; rw [if_neg h60]); rw [hr, hcc] at hI hS; have hbl := bestL_len q q.length; refine call_leA (hI) (by simp -implicitDefEqProofs (disch := omega) only [go_sem, ↓reduceIte, deep, TD.rows, immLL_rI, immLL_rB8, immLL_rS, immLL_rBo, immLL_rII, immLL_rIIt, decide_true]; exact rfl) (by repeat (first | exact leL_nil | refine leL_cons ?_ ?_ | exact le_of_eq rfl | exact le_iptrN (leL_of_eq rfl) | refine le_agg ?_ | exact le_slf rfl (TD.rows ..) | refine le_iptr ?_ | refine le_fn ?_ ?_)) (by first | exact .inl rfl | exact .inr rfl | exact .inl (by simp only [D.noImm, noImmL, go_sem, TD.nims, TD.nim, nim_rI, nim_rB8, nim_rBo, nim_rS])) ?_; simp -implicitDefEqProofs (disch := omega) only [go_sem, ↓reduceIte , decide_true]; refine loop_ov (by simp -implicitDefEqProofs (disch := omega) only [go_sem, ↓reduceIte]; exact rfl) (fun i : Nat => [(8, .v (.int .i64 ((bestL q i).length : Nat))), (9, .v (.int .i64 (i : Nat)))]) (fun _ => by simp only [ovr_nil, ovr_cons, List.set_cons_zero, List.set_cons_succ]; exact rfl) (fun i : Nat => i ≤ q.length) (fun i : Nat => q.length - i) (0) (by (try simp -implicitDefEqProofs only [nleL_cc, nleL_nn, nle_self, nle_boxs, nle_aggs, nle_nils, and_self, and_true, true_and]) <;> repeat' (first | exact nle_of_eq rfl | exact nle_nil | apply And.intro | apply nle_sl | apply nleLL_cons | apply nleL_cons | exact nleL_nil | exact nleLL_nil | apply nle_box | apply nle_agg)) (?_) ?_
      · exact Nat.zero_le _
      intro i hi; simp -implicitDefEqProofs (disch := omega) only [go_sem, ↓reduceIte , List.length_map]; refine cond_split ?_ ?_ <;> intro hlt
      · have hlt : i < q.length := (by simpa using hlt); have e1 := List.getElem?_eq_getElem hlt; have hbi := bestL_len q i; have hlb : (bestL q q.length).length ≤ 9223372036854775807 := (by omega); cases hb : bestAt q i with
        | true =>
          have e5 := best_next q hlt hb; have hin := (List.getElem?_eq_some_iff.1 e5).1; have din : decide (((bestL q i).length : Int) < ((bestL q q.length).length : Int)) = true := (by rw [decide_eq_true_eq]; omega); simp -implicitDefEqProofs (disch := omega) only [go_sem, ↓reduceIte , List.length_map, din, List.length_map, Int.toNat_natCast, Int.ofNat_lt, Int.natCast_nonneg, List.getElem?_map, Option.map_some, hin, e5, decide_true]; refine loop_ov (by simp -implicitDefEqProofs (disch := omega) only [go_sem, ↓reduceIte]; exact rfl) (fun k : Nat => [(11, .v (.bool (((bestL q q.length).take k).any (domI q q[i])))), (12, .v (.int .i64 (k : Nat)))]) (fun _ => by simp only [ovr_nil, ovr_cons, List.set_cons_zero, List.set_cons_succ]; exact rfl) (fun k : Nat => k ≤ (bestL q q.length).length) (fun k : Nat => (bestL q q.length).length - k) (0) (by (try simp -implicitDefEqProofs only [nleL_cc, nleL_nn, nle_self, nle_boxs, nle_aggs, nle_nils, and_self, and_true, true_and]) <;> repeat' (first | exact nle_of_eq rfl | exact nle_nil | apply And.intro | apply nle_sl | apply nleLL_cons | apply nleL_cons | exact nleL_nil | exact nleLL_nil | apply nle_box | apply nle_agg)) (?_) ?_
          · exact Nat.zero_le _
          intro k hk; simp -implicitDefEqProofs (disch := omega) only [go_sem, ↓reduceIte , List.length_map]; refine cond_split ?_ ?_ <;> intro hltk
          · have hltk : k < (bestL q q.length).length := (by simpa using hltk); obtain ⟨v2, e2⟩ : ∃ v2, (bestL q q.length)[k]? = some v2 := ⟨_, List.getElem?_eq_getElem hltk⟩
            obtain ⟨j, rfl, hj, _⟩ := mem_best.1 (List.mem_of_getElem? e2); have e3 := List.getElem?_eq_getElem hj; have hnx := any_take (domI q q[i]) e2; have hdi : domI q q[i] (j : Int) = domB q[j] q[i] := (by unfold domI; rw [Int.toNat_natCast, e3]); rw [hdi] at hnx; cases hb2 : ((bestL q q.length).take k).any (domI q q[i]) with
            | true =>
              rw [hb2, Bool.true_or] at hnx; simp -implicitDefEqProofs (disch := omega) only [go_sem, ↓reduceIte , List.length_map, wrN]; refine ⟨k + 1, by omega, hltk, ?_⟩; rw [hnx]
              (try simp -implicitDefEqProofs only [nleL_cc, nleL_nn, nle_self, nle_boxs, nle_aggs, nle_nils, and_self, and_true, true_and]) <;> repeat' (first | exact nle_of_eq rfl | exact nle_nil | apply And.intro | apply nle_sl | apply nleLL_cons | apply nleL_cons | exact nleL_nil | exact nleLL_nil | apply nle_box | apply nle_agg)
            | false =>
              rw [hb2, Bool.false_or] at hnx; have g0 : decide ((0 : Int) ≤ (j : Int)) = true := by rw [decide_eq_true_eq]; omega
              have g1 : decide ((j : Int) < (q.length : Int)) = true := (by rw [decide_eq_true_eq]; omega); simp -implicitDefEqProofs (disch := omega) only [go_sem, ↓reduceIte , List.length_map, List.length_map, Int.toNat_natCast, Int.ofNat_lt, Int.natCast_nonneg, List.getElem?_map, Option.map_some, hltk, e2, g0, g1, hj, e3, Measure.td_d, hlt, e1]; refine call_leA (v_Dominates_impl q[j] q[i]) (by simp -implicitDefEqProofs (disch := omega) only [go_sem, ↓reduceIte, deep, TD.rows, immLL_rI, immLL_rB8, immLL_rS, immLL_rBo, immLL_rII, immLL_rIIt, Measure.td_d, wrN]; exact rfl) (by repeat (first | exact leL_nil | refine leL_cons ?_ ?_ | exact le_of_eq rfl | exact le_iptrN (leL_of_eq rfl) | refine le_agg ?_ | exact le_slf rfl (TD.rows ..) | refine le_iptr ?_ | refine le_fn ?_ ?_)) (by first | exact .inl rfl | exact .inr rfl | exact .inl (by simp only [D.noImm, noImmL, go_sem, TD.nims, TD.nim, nim_rI, nim_rB8, nim_rBo, nim_rS])) ?_; simp -implicitDefEqProofs (disch := omega) only [go_sem, ↓reduceIte , Measure.td_d, wrN]; refine ⟨k + 1, by omega, hltk, ?_⟩; rw [hnx]
              (try simp -implicitDefEqProofs only [nleL_cc, nleL_nn, nle_self, nle_boxs, nle_aggs, nle_nils, and_self, and_true, true_and]) <;> repeat' (first | exact nle_of_eq rfl | exact nle_nil | apply And.intro | apply nle_sl | apply nleLL_cons | apply nleL_cons | exact nleL_nil | exact nleLL_nil | apply nle_box | apply nle_agg)
          · obtain rfl : k = (bestL q q.length).length := (by have : ¬ k < (bestL q q.length).length := (by simpa using hltk); omega); have hbt := best_or q hlt; rw [hb, Bool.not_true] at hbt; have hself := dom_irr q[i]; have hst := best_step q i; rw [hb] at hst; simp -implicitDefEqProofs (disch := omega) only [go_sem, ↓reduceIte , List.take_length, hbt, List.length_map, Int.toNat_natCast, Int.ofNat_lt, Int.natCast_nonneg, List.getElem?_map, Option.map_some, hlt, e1, Measure.td_d, decide_true, decide_false, Bool.beq_eq_decide_eq]; refine call_leA (v_Dominates_impl q[i] q[i]) (by simp -implicitDefEqProofs (disch := omega) only [go_sem, ↓reduceIte, deep, TD.rows, immLL_rI, immLL_rB8, immLL_rS, immLL_rBo, immLL_rII, immLL_rIIt, hself, Measure.td_d, wrN]; exact rfl) (by repeat (first | exact leL_nil | refine leL_cons ?_ ?_ | exact le_of_eq rfl | exact le_iptrN (leL_of_eq rfl) | refine le_agg ?_ | exact le_slf rfl (TD.rows ..) | refine le_iptr ?_ | refine le_fn ?_ ?_)) (by first | exact .inl rfl | exact .inr rfl | exact .inl (by simp only [D.noImm, noImmL, go_sem, TD.nims, TD.nim, nim_rI, nim_rB8, nim_rBo, nim_rS])) ?_; simp -implicitDefEqProofs (disch := omega) only [go_sem, ↓reduceIte , hself, Measure.td_d, wrN]; refine loop_ov (by simp -implicitDefEqProofs (disch := omega) only [go_sem, ↓reduceIte]; exact rfl) (fun k : Nat => [(13, .v (.int .i64 (k : Nat)))]) (fun _ => by simp only [ovr_nil, ovr_cons, List.set_cons_zero, List.set_cons_succ]; exact rfl) (fun k : Nat => k ≤ i) (fun k : Nat => i - k) (0) (by (try simp -implicitDefEqProofs only [nleL_cc, nleL_nn, nle_self, nle_boxs, nle_aggs, nle_nils, and_self, and_true, true_and]) <;> repeat' (first | exact nle_of_eq rfl | exact nle_nil | apply And.intro | apply nle_sl | apply nleLL_cons | apply nleL_cons | exact nleL_nil | exact nleLL_nil | apply nle_box | apply nle_agg)) (?_) ?_
            · exact Nat.zero_le _
            intro k hk; simp -implicitDefEqProofs (disch := omega) only [go_sem, ↓reduceIte]; refine cond_split ?_ ?_ <;> intro hltk
            · have hltk : k < i := (by simpa using hltk); have hkq : k < q.length := (by omega); have e4 := List.getElem?_eq_getElem hkq; simp -implicitDefEqProofs (disch := omega) only [go_sem, ↓reduceIte , List.length_map, List.length_map, Int.toNat_natCast, Int.ofNat_lt, Int.natCast_nonneg, List.getElem?_map, Option.map_some, hlt, e1, hkq, e4, Measure.td_d]; cases hd1 : domB q[i] q[k] with
              | false => refine call_leNA (v_Dominates_impl q[i] q[k]) (by simp -implicitDefEqProofs (disch := omega) only [go_sem, ↓reduceIte, deep, TD.rows, immLL_rI, immLL_rB8, immLL_rS, immLL_rBo, immLL_rII, immLL_rIIt, hd1, wrN]; exact rfl) (by repeat (first | exact leL_nil | refine leL_cons ?_ ?_ | exact le_of_eq rfl | exact le_iptrN (leL_of_eq rfl) | refine le_agg ?_ | exact le_slf rfl (TD.rows ..) | refine le_iptr ?_ | refine le_fn ?_ ?_)) (by first | exact .inl rfl | exact .inr rfl | exact .inl (by simp only [D.noImm, noImmL, go_sem, TD.nims, TD.nim, nim_rI, nim_rB8, nim_rBo, nim_rS])) ?_; simp -implicitDefEqProofs (disch := omega) only [go_sem, ↓reduceIte , hd1, wrN]; exact ⟨k + 1, by omega, hltk, by (try simp -implicitDefEqProofs only [nleL_cc, nleL_nn, nle_self, nle_boxs, nle_aggs, nle_nils, and_self, and_true, true_and]) <;> repeat' (first | exact nle_of_eq rfl | exact nle_nil | apply And.intro | apply nle_sl | apply nleLL_cons | apply nleL_cons | exact nleL_nil | exact nleLL_nil | apply nle_box | apply nle_agg)⟩
              | true => have hd2 := dom_asym hd1; refine call_leNA (v_Dominates_impl q[i] q[k]) (by simp -implicitDefEqProofs (disch := omega) only [go_sem, ↓reduceIte, deep, TD.rows, immLL_rI, immLL_rB8, immLL_rS, immLL_rBo, immLL_rII, immLL_rIIt, hd1, List.length_map, List.length_map, Int.toNat_natCast, Int.ofNat_lt, Int.natCast_nonneg, List.getElem?_map, Option.map_some, hlt, e1, hkq, e4, Measure.td_d]; exact rfl) (by repeat (first | exact leL_nil | refine leL_cons ?_ ?_ | exact le_of_eq rfl | exact le_iptrN (leL_of_eq rfl) | refine le_agg ?_ | exact le_slf rfl (TD.rows ..) | refine le_iptr ?_ | refine le_fn ?_ ?_)) (by first | exact .inl rfl | exact .inr rfl | exact .inl (by simp only [D.noImm, noImmL, go_sem, TD.nims, TD.nim, nim_rI, nim_rB8, nim_rBo, nim_rS])) ?_; simp -implicitDefEqProofs (disch := omega) only [go_sem, ↓reduceIte , hd1, List.length_map, List.length_map, Int.toNat_natCast, Int.ofNat_lt, Int.natCast_nonneg, List.getElem?_map, Option.map_some, hlt, e1, hkq, e4, Measure.td_d]; refine call_leA (v_Dominates_impl q[k] q[i]) (by simp -implicitDefEqProofs (disch := omega) only [go_sem, ↓reduceIte, deep, TD.rows, immLL_rI, immLL_rB8, immLL_rS, immLL_rBo, immLL_rII, immLL_rIIt, hd2, wrN]; exact rfl) (by repeat (first | exact leL_nil | refine leL_cons ?_ ?_ | exact le_of_eq rfl | exact le_iptrN (leL_of_eq rfl) | refine le_agg ?_ | exact le_slf rfl (TD.rows ..) | refine le_iptr ?_ | refine le_fn ?_ ?_)) (by first | exact .inl rfl | exact .inr rfl | exact .inl (by simp only [D.noImm, noImmL, go_sem, TD.nims, TD.nim, nim_rI, nim_rB8, nim_rBo, nim_rS])) ?_; simp -implicitDefEqProofs (disch := omega) only [go_sem, ↓reduceIte , hd2, wrN]; exact ⟨k + 1, by omega, hltk, by (try simp -implicitDefEqProofs only [nleL_cc, nleL_nn, nle_self, nle_boxs, nle_aggs, nle_nils, and_self, and_true, true_and]) <;> repeat' (first | exact nle_of_eq rfl | exact nle_nil | apply And.intro | apply nle_sl | apply nleLL_cons | apply nleL_cons | exact nleL_nil | exact nleLL_nil | apply nle_box | apply nle_agg)⟩
            · simp -implicitDefEqProofs (disch := omega) only [go_sem, ↓reduceIte , wrN]; refine ⟨i + 1, by omega, hlt, ?_⟩; rw [hst]
              (try simp -implicitDefEqProofs only [nleL_cc, nleL_nn, nle_self, nle_boxs, nle_aggs, nle_nils, and_self, and_true, true_and]) <;> repeat' (first | exact nle_of_eq rfl | exact nle_nil | apply And.intro | apply nle_sl | apply nleLL_cons | apply nleL_cons | exact nleL_nil | exact nleLL_nil | apply nle_box | apply nle_agg)
        | false =>
          by_cases hin : (bestL q i).length < (bestL q q.length).length
          · have din : decide (((bestL q i).length : Int) < ((bestL q q.length).length : Int)) = true := (by rw [decide_eq_true_eq]; omega); obtain ⟨v, e5⟩ : ∃ v, (bestL q q.length)[(bestL q i).length]? = some v := ⟨_, List.getElem?_eq_getElem hin⟩
            have dv : decide (v = (i : Int)) = false := decide_eq_false (best_none q hlt hb e5); simp -implicitDefEqProofs (disch := omega) only [go_sem, ↓reduceIte , List.length_map, din, List.length_map, Int.toNat_natCast, Int.ofNat_lt, Int.natCast_nonneg, List.getElem?_map, Option.map_some, hin, e5, dv]; refine loop_ov (by simp -implicitDefEqProofs (disch := omega) only [go_sem, ↓reduceIte]; exact rfl) (fun k : Nat => [(11, .v (.bool (((bestL q q.length).take k).any (domI q q[i])))), (12, .v (.int .i64 (k : Nat)))]) (fun _ => by simp only [ovr_nil, ovr_cons, List.set_cons_zero, List.set_cons_succ]; exact rfl) (fun k : Nat => k ≤ (bestL q q.length).length) (fun k : Nat => (bestL q q.length).length - k) (0) (by (try simp -implicitDefEqProofs only [nleL_cc, nleL_nn, nle_self, nle_boxs, nle_aggs, nle_nils, and_self, and_true, true_and]) <;> repeat' (first | exact nle_of_eq rfl | exact nle_nil | apply And.intro | apply nle_sl | apply nleLL_cons | apply nleL_cons | exact nleL_nil | exact nleLL_nil | apply nle_box | apply nle_agg)) (?_) ?_
            · exact Nat.zero_le _
            intro k hk; simp -implicitDefEqProofs (disch := omega) only [go_sem, ↓reduceIte , List.length_map]; refine cond_split ?_ ?_ <;> intro hltk
            · have hltk : k < (bestL q q.length).length := (by simpa using hltk); obtain ⟨v2, e2⟩ : ∃ v2, (bestL q q.length)[k]? = some v2 := ⟨_, List.getElem?_eq_getElem hltk⟩
              obtain ⟨j, rfl, hj, _⟩ := mem_best.1 (List.mem_of_getElem? e2); have e3 := List.getElem?_eq_getElem hj; have hnx := any_take (domI q q[i]) e2; have hdi : domI q q[i] (j : Int) = domB q[j] q[i] := (by unfold domI; rw [Int.toNat_natCast, e3]); rw [hdi] at hnx; cases hb2 : ((bestL q q.length).take k).any (domI q q[i]) with
              | true =>
                rw [hb2, Bool.true_or] at hnx; simp -implicitDefEqProofs (disch := omega) only [go_sem, ↓reduceIte , List.length_map, wrN]; refine ⟨k + 1, by omega, hltk, ?_⟩; rw [hnx]
                (try simp -implicitDefEqProofs only [nleL_cc, nleL_nn, nle_self, nle_boxs, nle_aggs, nle_nils, and_self, and_true, true_and]) <;> repeat' (first | exact nle_of_eq rfl | exact nle_nil | apply And.intro | apply nle_sl | apply nleLL_cons | apply nleL_cons | exact nleL_nil | exact nleLL_nil | apply nle_box | apply nle_agg)
              | false =>
                rw [hb2, Bool.false_or] at hnx; have g0 : decide ((0 : Int) ≤ (j : Int)) = true := by rw [decide_eq_true_eq]; omega
                have g1 : decide ((j : Int) < (q.length : Int)) = true := (by rw [decide_eq_true_eq]; omega); simp -implicitDefEqProofs (disch := omega) only [go_sem, ↓reduceIte , List.length_map, List.length_map, Int.toNat_natCast, Int.ofNat_lt, Int.natCast_nonneg, List.getElem?_map, Option.map_some, hltk, e2, g0, g1, hj, e3, Measure.td_d, hlt, e1]; refine call_leA (v_Dominates_impl q[j] q[i]) (by simp -implicitDefEqProofs (disch := omega) only [go_sem, ↓reduceIte, deep, TD.rows, immLL_rI, immLL_rB8, immLL_rS, immLL_rBo, immLL_rII, immLL_rIIt, Measure.td_d, wrN]; exact rfl) (by repeat (first | exact leL_nil | refine leL_cons ?_ ?_ | exact le_of_eq rfl | exact le_iptrN (leL_of_eq rfl) | refine le_agg ?_ | exact le_slf rfl (TD.rows ..) | refine le_iptr ?_ | refine le_fn ?_ ?_)) (by first | exact .inl rfl | exact .inr rfl | exact .inl (by simp only [D.noImm, noImmL, go_sem, TD.nims, TD.nim, nim_rI, nim_rB8, nim_rBo, nim_rS])) ?_; simp -implicitDefEqProofs (disch := omega) only [go_sem, ↓reduceIte , Measure.td_d, wrN]; refine ⟨k + 1, by omega, hltk, ?_⟩; rw [hnx]
                (try simp -implicitDefEqProofs only [nleL_cc, nleL_nn, nle_self, nle_boxs, nle_aggs, nle_nils, and_self, and_true, true_and]) <;> repeat' (first | exact nle_of_eq rfl | exact nle_nil | apply And.intro | apply nle_sl | apply nleLL_cons | apply nleL_cons | exact nleL_nil | exact nleLL_nil | apply nle_box | apply nle_agg)
            · obtain rfl : k = (bestL q q.length).length := (by have : ¬ k < (bestL q q.length).length := (by simpa using hltk); omega); have hbt := best_or q hlt; rw [hb, Bool.not_false] at hbt; have hself := dom_irr q[i]; have hst := best_step q i; rw [hb] at hst; simp -implicitDefEqProofs (disch := omega) only [go_sem, ↓reduceIte , List.take_length, hbt, List.length_map, Int.toNat_natCast, Int.ofNat_lt, Int.natCast_nonneg, List.getElem?_map, Option.map_some, hlt, e1, Measure.td_d, decide_true, decide_false, Bool.beq_eq_decide_eq]; refine call_leA (v_Dominates_impl q[i] q[i]) (by simp -implicitDefEqProofs (disch := omega) only [go_sem, ↓reduceIte, deep, TD.rows, immLL_rI, immLL_rB8, immLL_rS, immLL_rBo, immLL_rII, immLL_rIIt, hself, Measure.td_d, wrN]; exact rfl) (by repeat (first | exact leL_nil | refine leL_cons ?_ ?_ | exact le_of_eq rfl | exact le_iptrN (leL_of_eq rfl) | refine le_agg ?_ | exact le_slf rfl (TD.rows ..) | refine le_iptr ?_ | refine le_fn ?_ ?_)) (by first | exact .inl rfl | exact .inr rfl | exact .inl (by simp only [D.noImm, noImmL, go_sem, TD.nims, TD.nim, nim_rI, nim_rB8, nim_rBo, nim_rS])) ?_; simp -implicitDefEqProofs (disch := omega) only [go_sem, ↓reduceIte , hself, Measure.td_d, wrN]; refine loop_ov (by simp -implicitDefEqProofs (disch := omega) only [go_sem, ↓reduceIte]; exact rfl) (fun k : Nat => [(13, .v (.int .i64 (k : Nat)))]) (fun _ => by simp only [ovr_nil, ovr_cons, List.set_cons_zero, List.set_cons_succ]; exact rfl) (fun k : Nat => k ≤ i) (fun k : Nat => i - k) (0) (by (try simp -implicitDefEqProofs only [nleL_cc, nleL_nn, nle_self, nle_boxs, nle_aggs, nle_nils, and_self, and_true, true_and]) <;> repeat' (first | exact nle_of_eq rfl | exact nle_nil | apply And.intro | apply nle_sl | apply nleLL_cons | apply nleL_cons | exact nleL_nil | exact nleLL_nil | apply nle_box | apply nle_agg)) (?_) ?_
              · exact Nat.zero_le _
              intro k hk; simp -implicitDefEqProofs (disch := omega) only [go_sem, ↓reduceIte]; refine cond_split ?_ ?_ <;> intro hltk
              · have hltk : k < i := (by simpa using hltk); have hkq : k < q.length := (by omega); have e4 := List.getElem?_eq_getElem hkq; simp -implicitDefEqProofs (disch := omega) only [go_sem, ↓reduceIte , List.length_map, List.length_map, Int.toNat_natCast, Int.ofNat_lt, Int.natCast_nonneg, List.getElem?_map, Option.map_some, hlt, e1, hkq, e4, Measure.td_d]; cases hd1 : domB q[i] q[k] with
                | false => refine call_leNA (v_Dominates_impl q[i] q[k]) (by simp -implicitDefEqProofs (disch := omega) only [go_sem, ↓reduceIte, deep, TD.rows, immLL_rI, immLL_rB8, immLL_rS, immLL_rBo, immLL_rII, immLL_rIIt, hd1, wrN]; exact rfl) (by repeat (first | exact leL_nil | refine leL_cons ?_ ?_ | exact le_of_eq rfl | exact le_iptrN (leL_of_eq rfl) | refine le_agg ?_ | exact le_slf rfl (TD.rows ..) | refine le_iptr ?_ | refine le_fn ?_ ?_)) (by first | exact .inl rfl | exact .inr rfl | exact .inl (by simp only [D.noImm, noImmL, go_sem, TD.nims, TD.nim, nim_rI, nim_rB8, nim_rBo, nim_rS])) ?_; simp -implicitDefEqProofs (disch := omega) only [go_sem, ↓reduceIte , hd1, wrN]; exact ⟨k + 1, by omega, hltk, by (try simp -implicitDefEqProofs only [nleL_cc, nleL_nn, nle_self, nle_boxs, nle_aggs, nle_nils, and_self, and_true, true_and]) <;> repeat' (first | exact nle_of_eq rfl | exact nle_nil | apply And.intro | apply nle_sl | apply nleLL_cons | apply nleL_cons | exact nleL_nil | exact nleLL_nil | apply nle_box | apply nle_agg)⟩
                | true => have hd2 := dom_asym hd1; refine call_leNA (v_Dominates_impl q[i] q[k]) (by simp -implicitDefEqProofs (disch := omega) only [go_sem, ↓reduceIte, deep, TD.rows, immLL_rI, immLL_rB8, immLL_rS, immLL_rBo, immLL_rII, immLL_rIIt, hd1, List.length_map, List.length_map, Int.toNat_natCast, Int.ofNat_lt, Int.natCast_nonneg, List.getElem?_map, Option.map_some, hlt, e1, hkq, e4, Measure.td_d]; exact rfl) (by repeat (first | exact leL_nil | refine leL_cons ?_ ?_ | exact le_of_eq rfl | exact le_iptrN (leL_of_eq rfl) | refine le_agg ?_ | exact le_slf rfl (TD.rows ..) | refine le_iptr ?_ | refine le_fn ?_ ?_)) (by first | exact .inl rfl | exact .inr rfl | exact .inl (by simp only [D.noImm, noImmL, go_sem, TD.nims, TD.nim, nim_rI, nim_rB8, nim_rBo, nim_rS])) ?_; simp -implicitDefEqProofs (disch := omega) only [go_sem, ↓reduceIte , hd1, List.length_map, List.length_map, Int.toNat_natCast, Int.ofNat_lt, Int.natCast_nonneg, List.getElem?_map, Option.map_some, hlt, e1, hkq, e4, Measure.td_d]; refine call_leA (v_Dominates_impl q[k] q[i]) (by simp -implicitDefEqProofs (disch := omega) only [go_sem, ↓reduceIte, deep, TD.rows, immLL_rI, immLL_rB8, immLL_rS, immLL_rBo, immLL_rII, immLL_rIIt, hd2, wrN]; exact rfl) (by repeat (first | exact leL_nil | refine leL_cons ?_ ?_ | exact le_of_eq rfl | exact le_iptrN (leL_of_eq rfl) | refine le_agg ?_ | exact le_slf rfl (TD.rows ..) | refine le_iptr ?_ | refine le_fn ?_ ?_)) (by first | exact .inl rfl | exact .inr rfl | exact .inl (by simp only [D.noImm, noImmL, go_sem, TD.nims, TD.nim, nim_rI, nim_rB8, nim_rBo, nim_rS])) ?_; simp -implicitDefEqProofs (disch := omega) only [go_sem, ↓reduceIte , hd2, wrN]; exact ⟨k + 1, by omega, hltk, by (try simp -implicitDefEqProofs only [nleL_cc, nleL_nn, nle_self, nle_boxs, nle_aggs, nle_nils, and_self, and_true, true_and]) <;> repeat' (first | exact nle_of_eq rfl | exact nle_nil | apply And.intro | apply nle_sl | apply nleLL_cons | apply nleL_cons | exact nleL_nil | exact nleLL_nil | apply nle_box | apply nle_agg)⟩
              · simp -implicitDefEqProofs (disch := omega) only [go_sem, ↓reduceIte , wrN]; refine ⟨i + 1, by omega, hlt, ?_⟩; rw [hst]
                (try simp -implicitDefEqProofs only [nleL_cc, nleL_nn, nle_self, nle_boxs, nle_aggs, nle_nils, and_self, and_true, true_and]) <;> repeat' (first | exact nle_of_eq rfl | exact nle_nil | apply And.intro | apply nle_sl | apply nleLL_cons | apply nleL_cons | exact nleL_nil | exact nleLL_nil | apply nle_box | apply nle_agg)
          · have din : decide (((bestL q i).length : Int) < ((bestL q q.length).length : Int)) = false := (by rw [decide_eq_false_iff_not]; omega); simp -implicitDefEqProofs (disch := omega) only [go_sem, ↓reduceIte , List.length_map, din]; refine loop_ov (by simp -implicitDefEqProofs (disch := omega) only [go_sem, ↓reduceIte]; exact rfl) (fun k : Nat => [(11, .v (.bool (((bestL q q.length).take k).any (domI q q[i])))), (12, .v (.int .i64 (k : Nat)))]) (fun _ => by simp only [ovr_nil, ovr_cons, List.set_cons_zero, List.set_cons_succ]; exact rfl) (fun k : Nat => k ≤ (bestL q q.length).length) (fun k : Nat => (bestL q q.length).length - k) (0) (by (try simp -implicitDefEqProofs only [nleL_cc, nleL_nn, nle_self, nle_boxs, nle_aggs, nle_nils, and_self, and_true, true_and]) <;> repeat' (first | exact nle_of_eq rfl | exact nle_nil | apply And.intro | apply nle_sl | apply nleLL_cons | apply nleL_cons | exact nleL_nil | exact nleLL_nil | apply nle_box | apply nle_agg)) (?_) ?_
            · exact Nat.zero_le _
            intro k hk; simp -implicitDefEqProofs (disch := omega) only [go_sem, ↓reduceIte , List.length_map]; refine cond_split ?_ ?_ <;> intro hltk
            · have hltk : k < (bestL q q.length).length := (by simpa using hltk); obtain ⟨v2, e2⟩ : ∃ v2, (bestL q q.length)[k]? = some v2 := ⟨_, List.getElem?_eq_getElem hltk⟩
              obtain ⟨j, rfl, hj, _⟩ := mem_best.1 (List.mem_of_getElem? e2); have e3 := List.getElem?_eq_getElem hj; have hnx := any_take (domI q q[i]) e2; have hdi : domI q q[i] (j : Int) = domB q[j] q[i] := (by unfold domI; rw [Int.toNat_natCast, e3]); rw [hdi] at hnx; cases hb2 : ((bestL q q.length).take k).any (domI q q[i]) with
              | true =>
                rw [hb2, Bool.true_or] at hnx; simp -implicitDefEqProofs (disch := omega) only [go_sem, ↓reduceIte , List.length_map, wrN]; refine ⟨k + 1, by omega, hltk, ?_⟩; rw [hnx]
                (try simp -implicitDefEqProofs only [nleL_cc, nleL_nn, nle_self, nle_boxs, nle_aggs, nle_nils, and_self, and_true, true_and]) <;> repeat' (first | exact nle_of_eq rfl | exact nle_nil | apply And.intro | apply nle_sl | apply nleLL_cons | apply nleL_cons | exact nleL_nil | exact nleLL_nil | apply nle_box | apply nle_agg)
              | false =>
                rw [hb2, Bool.false_or] at hnx; have g0 : decide ((0 : Int) ≤ (j : Int)) = true := by rw [decide_eq_true_eq]; omega
                have g1 : decide ((j : Int) < (q.length : Int)) = true := (by rw [decide_eq_true_eq]; omega); simp -implicitDefEqProofs (disch := omega) only [go_sem, ↓reduceIte , List.length_map, List.length_map, Int.toNat_natCast, Int.ofNat_lt, Int.natCast_nonneg, List.getElem?_map, Option.map_some, hltk, e2, g0, g1, hj, e3, Measure.td_d, hlt, e1]; refine call_leA (v_Dominates_impl q[j] q[i]) (by simp -implicitDefEqProofs (disch := omega) only [go_sem, ↓reduceIte, deep, TD.rows, immLL_rI, immLL_rB8, immLL_rS, immLL_rBo, immLL_rII, immLL_rIIt, Measure.td_d, wrN]; exact rfl) (by repeat (first | exact leL_nil | refine leL_cons ?_ ?_ | exact le_of_eq rfl | exact le_iptrN (leL_of_eq rfl) | refine le_agg ?_ | exact le_slf rfl (TD.rows ..) | refine le_iptr ?_ | refine le_fn ?_ ?_)) (by first | exact .inl rfl | exact .inr rfl | exact .inl (by simp only [D.noImm, noImmL, go_sem, TD.nims, TD.nim, nim_rI, nim_rB8, nim_rBo, nim_rS])) ?_; simp -implicitDefEqProofs (disch := omega) only [go_sem, ↓reduceIte , Measure.td_d, wrN]; refine ⟨k + 1, by omega, hltk, ?_⟩; rw [hnx]
                (try simp -implicitDefEqProofs only [nleL_cc, nleL_nn, nle_self, nle_boxs, nle_aggs, nle_nils, and_self, and_true, true_and]) <;> repeat' (first | exact nle_of_eq rfl | exact nle_nil | apply And.intro | apply nle_sl | apply nleLL_cons | apply nleL_cons | exact nleL_nil | exact nleLL_nil | apply nle_box | apply nle_agg)
            · obtain rfl : k = (bestL q q.length).length := (by have : ¬ k < (bestL q q.length).length := (by simpa using hltk); omega); have hbt := best_or q hlt; rw [hb, Bool.not_false] at hbt; have hself := dom_irr q[i]; have hst := best_step q i; rw [hb] at hst; simp -implicitDefEqProofs (disch := omega) only [go_sem, ↓reduceIte , List.take_length, hbt, List.length_map, Int.toNat_natCast, Int.ofNat_lt, Int.natCast_nonneg, List.getElem?_map, Option.map_some, hlt, e1, Measure.td_d, decide_true, decide_false, Bool.beq_eq_decide_eq]; refine call_leA (v_Dominates_impl q[i] q[i]) (by simp -implicitDefEqProofs (disch := omega) only [go_sem, ↓reduceIte, deep, TD.rows, immLL_rI, immLL_rB8, immLL_rS, immLL_rBo, immLL_rII, immLL_rIIt, hself, Measure.td_d, wrN]; exact rfl) (by repeat (first | exact leL_nil | refine leL_cons ?_ ?_ | exact le_of_eq rfl | exact le_iptrN (leL_of_eq rfl) | refine le_agg ?_ | exact le_slf rfl (TD.rows ..) | refine le_iptr ?_ | refine le_fn ?_ ?_)) (by first | exact .inl rfl | exact .inr rfl | exact .inl (by simp only [D.noImm, noImmL, go_sem, TD.nims, TD.nim, nim_rI, nim_rB8, nim_rBo, nim_rS])) ?_; simp -implicitDefEqProofs (disch := omega) only [go_sem, ↓reduceIte , hself, Measure.td_d, wrN]; refine loop_ov (by simp -implicitDefEqProofs (disch := omega) only [go_sem, ↓reduceIte]; exact rfl) (fun k : Nat => [(13, .v (.int .i64 (k : Nat)))]) (fun _ => by simp only [ovr_nil, ovr_cons, List.set_cons_zero, List.set_cons_succ]; exact rfl) (fun k : Nat => k ≤ i) (fun k : Nat => i - k) (0) (by (try simp -implicitDefEqProofs only [nleL_cc, nleL_nn, nle_self, nle_boxs, nle_aggs, nle_nils, and_self, and_true, true_and]) <;> repeat' (first | exact nle_of_eq rfl | exact nle_nil | apply And.intro | apply nle_sl | apply nleLL_cons | apply nleL_cons | exact nleL_nil | exact nleLL_nil | apply nle_box | apply nle_agg)) (?_) ?_
              · exact Nat.zero_le _
              intro k hk; simp -implicitDefEqProofs (disch := omega) only [go_sem, ↓reduceIte]; refine cond_split ?_ ?_ <;> intro hltk
              · have hltk : k < i := (by simpa using hltk); have hkq : k < q.length := (by omega); have e4 := List.getElem?_eq_getElem hkq; simp -implicitDefEqProofs (disch := omega) only [go_sem, ↓reduceIte , List.length_map, List.length_map, Int.toNat_natCast, Int.ofNat_lt, Int.natCast_nonneg, List.getElem?_map, Option.map_some, hlt, e1, hkq, e4, Measure.td_d]; cases hd1 : domB q[i] q[k] with
                | false => refine call_leNA (v_Dominates_impl q[i] q[k]) (by simp -implicitDefEqProofs (disch := omega) only [go_sem, ↓reduceIte, deep, TD.rows, immLL_rI, immLL_rB8, immLL_rS, immLL_rBo, immLL_rII, immLL_rIIt, hd1, wrN]; exact rfl) (by repeat (first | exact leL_nil | refine leL_cons ?_ ?_ | exact le_of_eq rfl | exact le_iptrN (leL_of_eq rfl) | refine le_agg ?_ | exact le_slf rfl (TD.rows ..) | refine le_iptr ?_ | refine le_fn ?_ ?_)) (by first | exact .inl rfl | exact .inr rfl | exact .inl (by simp only [D.noImm, noImmL, go_sem, TD.nims, TD.nim, nim_rI, nim_rB8, nim_rBo, nim_rS])) ?_; simp -implicitDefEqProofs (disch := omega) only [go_sem, ↓reduceIte , hd1, wrN]; exact ⟨k + 1, by omega, hltk, by (try simp -implicitDefEqProofs only [nleL_cc, nleL_nn, nle_self, nle_boxs, nle_aggs, nle_nils, and_self, and_true, true_and]) <;> repeat' (first | exact nle_of_eq rfl | exact nle_nil | apply And.intro | apply nle_sl | apply nleLL_cons | apply nleL_cons | exact nleL_nil | exact nleLL_nil | apply nle_box | apply nle_agg)⟩
                | true => have hd2 := dom_asym hd1; refine call_leNA (v_Dominates_impl q[i] q[k]) (by simp -implicitDefEqProofs (disch := omega) only [go_sem, ↓reduceIte, deep, TD.rows, immLL_rI, immLL_rB8, immLL_rS, immLL_rBo, immLL_rII, immLL_rIIt, hd1, List.length_map, List.length_map, Int.toNat_natCast, Int.ofNat_lt, Int.natCast_nonneg, List.getElem?_map, Option.map_some, hlt, e1, hkq, e4, Measure.td_d]; exact rfl) (by repeat (first | exact leL_nil | refine leL_cons ?_ ?_ | exact le_of_eq rfl | exact le_iptrN (leL_of_eq rfl) | refine le_agg ?_ | exact le_slf rfl (TD.rows ..) | refine le_iptr ?_ | refine le_fn ?_ ?_)) (by first | exact .inl rfl | exact .inr rfl | exact .inl (by simp only [D.noImm, noImmL, go_sem, TD.nims, TD.nim, nim_rI, nim_rB8, nim_rBo, nim_rS])) ?_; simp -implicitDefEqProofs (disch := omega) only [go_sem, ↓reduceIte , hd1, List.length_map, List.length_map, Int.toNat_natCast, Int.ofNat_lt, Int.natCast_nonneg, List.getElem?_map, Option.map_some, hlt, e1, hkq, e4, Measure.td_d]; refine call_leA (v_Dominates_impl q[k] q[i]) (by simp -implicitDefEqProofs (disch := omega) only [go_sem, ↓reduceIte, deep, TD.rows, immLL_rI, immLL_rB8, immLL_rS, immLL_rBo, immLL_rII, immLL_rIIt, hd2, wrN]; exact rfl) (by repeat (first | exact leL_nil | refine leL_cons ?_ ?_ | exact le_of_eq rfl | exact le_iptrN (leL_of_eq rfl) | refine le_agg ?_ | exact le_slf rfl (TD.rows ..) | refine le_iptr ?_ | refine le_fn ?_ ?_)) (by first | exact .inl rfl | exact .inr rfl | exact .inl (by simp only [D.noImm, noImmL, go_sem, TD.nims, TD.nim, nim_rI, nim_rB8, nim_rBo, nim_rS])) ?_; simp -implicitDefEqProofs (disch := omega) only [go_sem, ↓reduceIte , hd2, wrN]; exact ⟨k + 1, by omega, hltk, by (try simp -implicitDefEqProofs only [nleL_cc, nleL_nn, nle_self, nle_boxs, nle_aggs, nle_nils, and_self, and_true, true_and]) <;> repeat' (first | exact nle_of_eq rfl | exact nle_nil | apply And.intro | apply nle_sl | apply nleLL_cons | apply nleL_cons | exact nleL_nil | exact nleLL_nil | apply nle_box | apply nle_agg)⟩
              · simp -implicitDefEqProofs (disch := omega) only [go_sem, ↓reduceIte , wrN]; refine ⟨i + 1, by omega, hlt, ?_⟩; rw [hst]
                (try simp -implicitDefEqProofs only [nleL_cc, nleL_nn, nle_self, nle_boxs, nle_aggs, nle_nils, and_self, and_true, true_and]) <;> repeat' (first | exact nle_of_eq rfl | exact nle_nil | apply And.intro | apply nle_sl | apply nleLL_cons | apply nleL_cons | exact nleL_nil | exact nleLL_nil | apply nle_box | apply nle_agg)
      · obtain rfl : i = q.length := (by have : ¬ i < q.length := (by simpa using hlt); omega); simp -implicitDefEqProofs (disch := omega) only [go_sem, ↓reduceIte , List.length_map, decide_true]
theorem walk_fnBest (q_code_v : Value) (q_code : List Int) (w : World) (q_code_h : (Ty.slice 5 (Ty.int .u8)).rep w w.heap.size [q_code_v] q_code) : Calls Try.prog 3 #[q_code_v] w fun e w' => e = .returned (.bool true) ∧ Below w.heap.size w w' := by refine (Contract.at (vlawBest q_code ((TD.slice 5 (TD.int .u8)).rep_ok q_code_h)) trivial (Nat.le_refl _) (vals_cons (TD.arg_slice (TD.int .u8) q_code_h) vals_nil)).mono ?_; rintro e w' ⟨⟨v, I, F, rfl, hT, hn, hF⟩, hb⟩; obtain rfl := T_v hT; exact ⟨rfl, hb⟩
end Go.Proofs.Ytjcgpppmikjbnaa
