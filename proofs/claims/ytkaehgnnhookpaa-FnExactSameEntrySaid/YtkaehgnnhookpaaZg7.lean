/- Laws that the proof stands on. -/
import Derived.Test.YtkaehgnnhookpaaZVB
import Derived.Test.YtkaehgnnhookpaaProg
set_option linter.all false
namespace Go.Proofs.Ytkaehgnnhookpaa
open Go.RowKit Go.V
attribute [local go_sem] List.getElem?_cons_succ List.getElem?_cons_zero List.set_cons_succ List.set_cons_zero List.map_cons List.map_nil List.length_cons List.length_nil List.all_cons List.all_nil List.drop_succ_cons List.drop_zero List.take_succ_cons List.take_zero List.flatMap_cons List.flatMap_nil List.cons_append List.nil_append List.append_nil List.headD_cons Value.oneCell' Bool.and_true Bool.true_and Bool.or_false Bool.false_or Bool.and_self Bool.not_true Bool.not_false and_true true_and beq_self_eq_true Bool.false_eq_true if_true if_false Nat.zero_add Nat.reduceAdd Nat.reduceMul Nat.reduceLeDiff Nat.le_refl Option.isSome_some Option.isSome_none not_true_eq_false not_false_eq_true ne_eq reduceCtorEq List.reverse_nil bne_self_eq_false Nat.reduceEqDiff List.isPrefixOf Bool.not_eq_true Bool.and_false Bool.false_and Bool.true_or Bool.or_true decide_true decide_false Nat.reduceBEq Nat.reduceBNe List.replicate_succ List.replicate_zero exists_eq_left' exists_eq_left Option.some.injEq or_false or_true true_or false_or Option.map_some Option.map_none mB Nat.reduceMod Nat.reduceDiv
set_option maxRecDepth 100000
def code_slices_Equal_int64_int64 : VCode := (.seq (.ops [
  ⟨(some 4), none, (.asg (.const (.bool false)))⟩]) (.seq (.seq (.ops [
  ⟨(some 6), none, (.mv (.tmp 0))⟩,
  ⟨(some 7), none, (.len (.tmp 6))⟩,
  ⟨(some 8), none, (.mv (.tmp 1))⟩,
  ⟨(some 9), none, (.len (.tmp 8))⟩,
  ⟨(some 10), none, (.bin .neq (.tmp 7) (.tmp 9))⟩]) (.cond (.tmp 10) (.seq (.ops [
  ⟨(some 4), none, (.asg (.const (.bool false)))⟩]) .ret) .skip)) (.seq (.seq (.ops [
  ⟨(some 11), none, (.mv (.tmp 0))⟩,
  ⟨(some 12), none, (.len (.tmp 11))⟩,
  ⟨(some 13), none, (.mv (.const (.int .i64 0)))⟩]) (.block 0 (.loop (mB 26 67096572) (.seq (.ops [
  ⟨(some 14), none, (.bin .lss (.tmp 13) (.tmp 12))⟩]) (.seq (.cond (.tmp 14) .skip (.exit 0)) (.seq (.block 1 (.seq (.ops [
  ⟨(some 15), none, (.mv (.tmp 13))⟩,
  ⟨(some 5), none, (.asg (.tmp 15))⟩]) (.seq (.draw (mB 24 16711680) [] [⟨0, (mB 24 16711680), [], ⟨(some 16), none, (.mv (.tmp 0))⟩⟩, ⟨1, (mB 24 16711680), [], ⟨(some 17), none, (.mv (.tmp 5))⟩⟩, ⟨2, (mB 24 16515072), [], ⟨(some 18), none, (.ia 1 (.tmp 16) (.tmp 17))⟩⟩, ⟨3, (mB 24 16252928), [], ⟨(some 19), none, (.load 1 false (.tmp 18))⟩⟩, ⟨4, (mB 24 16711680), [], ⟨(some 20), none, (.mv (.tmp 1))⟩⟩, ⟨5, (mB 24 16711680), [], ⟨(some 21), none, (.mv (.tmp 5))⟩⟩, ⟨6, (mB 24 13565952), [], ⟨(some 22), none, (.ia 1 (.tmp 20) (.tmp 21))⟩⟩, ⟨7, (mB 24 9371648), [], ⟨(some 23), none, (.load 1 false (.tmp 22))⟩⟩] [⟨(some 24), none, (.bin .neq (.tmp 19) (.tmp 23))⟩]) (.cond (.tmp 24) (.seq (.ops [
  ⟨(some 4), none, (.asg (.const (.bool false)))⟩]) .ret) .skip)))) (.ops [
  ⟨(some 25), none, (.bin .add (.tmp 13) (.const (.int .i64 1)))⟩,
  ⟨(some 13), none, (.mv (.tmp 25))⟩]))))))) (.seq (.ops [
  ⟨(some 4), none, (.asg (.const (.bool true)))⟩]) .ret))))
theorem law_slices_Equal_int64_int64 {a0 a1 d : D} (h : code_slices_Equal_int64_int64.wp (CT Try.prog NoG) (endQ [(.t 4)] d) [a0, a1, .undef, .undef, .undef, .undef, .undef, .undef, .undef, .undef, .undef, .undef, .undef, .undef, .undef, .undef, .undef, .undef, .undef, .undef, .undef, .undef, .undef, .undef, .undef, .undef]) : Contract Try.prog NoG 40 [a0, a1] d :=
  contract_of noG Try.func40 (fun us W => by kernel_rfl) (c := Try.f40.body.getD .skip) (ms := [(mB 26 67096572)]) (ms' := []) (by kernel_rfl) (by kernel_rfl) (by kernel_rfl) h
theorem v_Equal_Int64 (xs ys : List Int) (hn : xs.length ≤ 1099511627776) : Contract Try.prog NoG 40 [.sl false 1 (xs.map (rI)), .sl false 1 (ys.map (rI))] (.v (.bool (decide (xs = ys)))) := by
  refine law_slices_Equal_int64_int64 ?_; unfold code_slices_Equal_int64_int64; simp -implicitDefEqProofs (disch := omega) only [go_sem, ↓reduceIte , List.length_map]; refine cond_split ?_ ?_ <;> intro h
  · simp -implicitDefEqProofs (disch := omega) only [go_sem, ↓reduceIte]; have : xs ≠ ys := fun e => by subst e; simp at h
    simp [this]
  · have hl : xs.length = ys.length := (by simp at h; omega); simp -implicitDefEqProofs (disch := omega) only [go_sem, ↓reduceIte]; refine loop_st (fun i : Nat => [.sl false 1 (xs.map (rI)), .sl false 1 (ys.map (rI)), .undef, .undef, .undef, .undef, .undef, .undef, .undef, .undef, .undef, .undef, .v (.int .i64 xs.length), .v (.int .i64 i), .undef, .undef, .undef, .undef, .undef, .undef, .undef, .undef, .undef, .undef, .undef, .undef]) (fun i => i ≤ xs.length ∧ xs.take i = ys.take i) (fun i => xs.length - i) 0 ?_ ⟨Nat.zero_le _, rfl⟩ ?_
    · simp -implicitDefEqProofs (disch := omega) only [go_sem, ↓reduceIte , List.length_map]
      (try simp -implicitDefEqProofs only [nleL_cc, nleL_nn, nle_self, nle_boxs, nle_aggs, nle_nils, and_self, and_true, true_and]) <;> repeat' (first | exact nle_of_eq rfl | exact nle_nil | apply And.intro | apply nle_sl | apply nleLL_cons | apply nleL_cons | exact nleL_nil | exact nleLL_nil | apply nle_box | apply nle_agg)
    rintro i ⟨hi, ht⟩; simp -implicitDefEqProofs (disch := omega) only [go_sem, ↓reduceIte , List.length_map, Int.toNat_natCast, Int.ofNat_lt, Int.natCast_nonneg, List.getElem?_map, Option.map_some]; refine cond_split ?_ ?_ <;> intro hlt
    · have h1 : i < xs.length := (by simpa using hlt); have h2 : i < ys.length := (by omega); have e1 := List.getElem?_eq_getElem h1; have e2 := List.getElem?_eq_getElem h2; simp -implicitDefEqProofs (disch := omega) only [go_sem, ↓reduceIte , List.length_map, Int.toNat_natCast, Int.ofNat_lt, Int.natCast_nonneg, List.getElem?_map, Option.map_some, h1, h2, e1, e2]; refine cond_split ?_ ?_ <;> intro hc
      · simp -implicitDefEqProofs (disch := omega) only [go_sem, ↓reduceIte]; have hne : xs[i] ≠ ys[i] := by simpa using hc
        have : xs ≠ ys := fun e => hne (by subst e; rfl); simp [this]
      · simp -implicitDefEqProofs (disch := omega) only [go_sem, ↓reduceIte , wrN]; have heq : xs[i] = ys[i] := by simpa using hc
        refine ⟨i + 1, by omega, ⟨h1, ?_⟩, by (try simp -implicitDefEqProofs only [nleL_cc, nleL_nn, nle_self, nle_boxs, nle_aggs, nle_nils, and_self, and_true, true_and]) <;> repeat' (first | exact nle_of_eq rfl | exact nle_nil | apply And.intro | apply nle_sl | apply nleLL_cons | apply nleL_cons | exact nleL_nil | exact nleLL_nil | apply nle_box | apply nle_agg)⟩; rw [List.take_succ_eq_append_getElem h1, List.take_succ_eq_append_getElem h2, ht, heq]
    · have hge : ¬ i < xs.length := (by simpa using hlt); simp -implicitDefEqProofs (disch := omega) only [go_sem, ↓reduceIte]; have : xs = ys := (by rw [List.take_of_length_le (by omega), List.take_of_length_le (by omega)] at ht; exact ht); simp [this]
def code_slices_EqualFunc_int64_int64_int64_int64 : VCode := (.seq (.ops [
  ⟨(some 6), none, (.asg (.const (.bool false)))⟩]) (.seq (.seq (.ops [
  ⟨(some 10), none, (.mv (.tmp 0))⟩,
  ⟨(some 11), none, (.len (.tmp 10))⟩,
  ⟨(some 12), none, (.mv (.tmp 1))⟩,
  ⟨(some 13), none, (.len (.tmp 12))⟩,
  ⟨(some 14), none, (.bin .neq (.tmp 11) (.tmp 13))⟩]) (.cond (.tmp 14) (.seq (.ops [
  ⟨(some 6), none, (.asg (.const (.bool false)))⟩]) .ret) .skip)) (.seq (.seq (.ops [
  ⟨(some 15), none, (.mv (.tmp 0))⟩,
  ⟨(some 16), none, (.len (.tmp 15))⟩,
  ⟨(some 17), none, (.mv (.const (.int .i64 0)))⟩]) (.block 0 (.loop (mB 32 4294737913) (.seq (.ops [
  ⟨(some 18), none, (.bin .lss (.tmp 17) (.tmp 16))⟩]) (.seq (.cond (.tmp 18) .skip (.exit 0)) (.seq (.block 1 (.seq (.ops [
  ⟨(some 19), none, (.mv (.tmp 17))⟩,
  ⟨(some 20), none, (.ia 1 (.tmp 15) (.tmp 17))⟩,
  ⟨(some 21), none, (.load 1 false (.tmp 20))⟩,
  ⟨(some 7), none, (.asg (.tmp 19))⟩,
  ⟨(some 8), none, (.asg (.tmp 21))⟩]) (.seq (.ops [
  ⟨(some 22), none, (.mv (.tmp 1))⟩,
  ⟨(some 23), none, (.mv (.tmp 7))⟩,
  ⟨(some 24), none, (.ia 1 (.tmp 22) (.tmp 23))⟩,
  ⟨(some 25), none, (.load 1 false (.tmp 24))⟩,
  ⟨(some 9), none, (.asg (.tmp 25))⟩]) (.seq (.ops [
  ⟨(some 26), none, (.mv (.tmp 2))⟩,
  ⟨(some 27), none, (.mv (.tmp 8))⟩,
  ⟨(some 28), none, (.mv (.tmp 9))⟩,
  ⟨(some 29), none, (.callvX (.tmp 26) [(.tmp 27), (.tmp 28)])⟩,
  ⟨(some 30), none, (.un .not (.tmp 29))⟩]) (.cond (.tmp 30) (.seq (.ops [
  ⟨(some 6), none, (.asg (.const (.bool false)))⟩]) .ret) .skip))))) (.ops [
  ⟨(some 31), none, (.bin .add (.tmp 17) (.const (.int .i64 1)))⟩,
  ⟨(some 17), none, (.mv (.tmp 31))⟩]))))))) (.seq (.ops [
  ⟨(some 6), none, (.asg (.const (.bool true)))⟩]) .ret))))
theorem law_slices_EqualFunc_int64_int64_int64_int64 {a0 a1 a2 d : D} (h : code_slices_EqualFunc_int64_int64_int64_int64.wp (CT Try.prog NoG) (endQ [(.t 6)] d) [a0, a1, a2, .undef, .undef, .undef, .undef, .undef, .undef, .undef, .undef, .undef, .undef, .undef, .undef, .undef, .undef, .undef, .undef, .undef, .undef, .undef, .undef, .undef, .undef, .undef, .undef, .undef, .undef, .undef, .undef, .undef]) : Contract Try.prog NoG 41 [a0, a1, a2] d :=
  contract_of noG Try.func41 (fun us W => by kernel_rfl) (c := Try.f41.body.getD .skip) (ms := [(mB 32 4294737913)]) (ms' := []) (by kernel_rfl) (by kernel_rfl) (by kernel_rfl) h
theorem v_EqualFunc_Int64S (f : FuncId) (xs ys : List (List Int)) (hc : ∀ x y, x ∈ xs → y ∈ ys → Contract Try.prog NoG f [.sl false 1 (x.map (rI)), .sl false 1 (y.map (rI))] (.v (.bool (decide (x = y))))) (hn : xs.length ≤ 1099511627776) : Contract Try.prog NoG 41 [.sl false 1 (xs.map (fun x => [.sl false 1 (x.map (rI))])), .sl false 1 (ys.map (fun x => [.sl false 1 (x.map (rI))])), .fn f [] []] (.v (.bool (decide (xs = ys)))) := by
  refine law_slices_EqualFunc_int64_int64_int64_int64 ?_; unfold code_slices_EqualFunc_int64_int64_int64_int64; simp -implicitDefEqProofs (disch := omega) only [go_sem, ↓reduceIte , List.length_map]; refine cond_split ?_ ?_ <;> intro h
  · simp -implicitDefEqProofs (disch := omega) only [go_sem, ↓reduceIte]; have : xs ≠ ys := fun e => by subst e; simp at h
    simp [this]
  · have hl : xs.length = ys.length := (by simp at h; omega); simp -implicitDefEqProofs (disch := omega) only [go_sem, ↓reduceIte]; refine loop_st (fun i : Nat => [.undef, .sl false 1 (ys.map (fun x => [.sl false 1 (x.map (rI))])), .fn f [] [], .undef, .undef, .undef, .undef, .undef, .undef, .undef, .undef, .undef, .undef, .undef, .undef, .sl false 1 (xs.map (fun x => [.sl false 1 (x.map (rI))])), .v (.int .i64 xs.length), .v (.int .i64 i), .undef, .undef, .undef, .undef, .undef, .undef, .undef, .undef, .undef, .undef, .undef, .undef, .undef, .undef]) (fun i => i ≤ xs.length ∧ xs.take i = ys.take i) (fun i => xs.length - i) 0 ?_ ⟨Nat.zero_le _, rfl⟩ ?_
    · simp -implicitDefEqProofs (disch := omega) only [go_sem, ↓reduceIte , List.length_map]
      (try simp -implicitDefEqProofs only [nleL_cc, nleL_nn, nle_self, nle_boxs, nle_aggs, nle_nils, and_self, and_true, true_and]) <;> repeat' (first | exact nle_of_eq rfl | exact nle_nil | apply And.intro | apply nle_sl | apply nleLL_cons | apply nleL_cons | exact nleL_nil | exact nleLL_nil | apply nle_box | apply nle_agg)
    rintro i ⟨hi, ht⟩; simp -implicitDefEqProofs (disch := omega) only [go_sem, ↓reduceIte , List.length_map, Int.toNat_natCast, Int.ofNat_lt, Int.natCast_nonneg, List.getElem?_map, Option.map_some]; refine cond_split ?_ ?_ <;> intro hlt
    · have h1 : i < xs.length := (by simpa using hlt); have h2 : i < ys.length := (by omega); have e1 := List.getElem?_eq_getElem h1; have e2 := List.getElem?_eq_getElem h2; simp -implicitDefEqProofs (disch := omega) only [go_sem, ↓reduceIte , List.length_map, Int.toNat_natCast, Int.ofNat_lt, Int.natCast_nonneg, List.getElem?_map, Option.map_some, h1, h2, e1, e2]; have hcx := hc _ _ (List.getElem_mem h1) (List.getElem_mem h2); refine callv_le (f := f) (first := []) (caps := []) rfl hcx ?_ (.inl rfl) ?_
      · refine leL_of_eq ?_; simp only [List.nil_append, List.cons_append, List.append_nil, List.map_cons, List.map_nil]; simp only [deep, raw, List.getElem?_cons_succ, List.getElem?_cons_zero, List.map_cons, List.map_nil, TD.rows, immLL_rI, immLL_rB8, immLL_rS, immLL_rBo]
      simp -implicitDefEqProofs (disch := omega) only [go_sem, ↓reduceIte]; refine cond_split ?_ ?_ <;> intro hp
      · simp -implicitDefEqProofs (disch := omega) only [go_sem, ↓reduceIte]; have hne : xs[i] ≠ ys[i] := by simpa using hp
        have : xs ≠ ys := fun e => hne (by subst e; rfl); simp [this]
      · simp -implicitDefEqProofs (disch := omega) only [go_sem, ↓reduceIte , wrN]; have heq : xs[i] = ys[i] := by simpa using hp
        refine ⟨i + 1, by omega, ⟨h1, ?_⟩, by (try simp -implicitDefEqProofs only [nleL_cc, nleL_nn, nle_self, nle_boxs, nle_aggs, nle_nils, and_self, and_true, true_and]) <;> repeat' (first | exact nle_of_eq rfl | exact nle_nil | apply And.intro | apply nle_sl | apply nleLL_cons | apply nleL_cons | exact nleL_nil | exact nleLL_nil | apply nle_box | apply nle_agg)⟩; rw [List.take_succ_eq_append_getElem h1, List.take_succ_eq_append_getElem h2, ht, heq]
    · have hge : ¬ i < xs.length := (by simpa using hlt); simp -implicitDefEqProofs (disch := omega) only [go_sem, ↓reduceIte]; have : xs = ys := (by rw [List.take_of_length_le (by omega), List.take_of_length_le (by omega)] at ht; exact ht); simp [this]
def code_laws_toInt64S : VCode := (.seq (.ops [
  ⟨(some 2), none, (.asg (.const (.slice none 0 0)))⟩]) (.seq (.ops [
  ⟨(some 5), none, (.mv (.tmp 0))⟩,
  ⟨(some 6), none, (.len (.tmp 5))⟩,
  ⟨(some 7), none, (.mks 1 8 [(.int .i64 0)] (.tmp 6) (.tmp 6))⟩,
  ⟨(some 3), none, (.asg (.tmp 7))⟩]) (.seq (.seq (.ops [
  ⟨(some 4), none, (.asg (.const (.int .i64 0)))⟩]) (.block 0 (.loop (mB 22 4194150) (.seq (.seq (.ops [
  ⟨(some 8), none, (.mv (.tmp 4))⟩,
  ⟨(some 9), none, (.mv (.tmp 0))⟩,
  ⟨(some 10), none, (.len (.tmp 9))⟩,
  ⟨(some 11), none, (.bin .lss (.tmp 8) (.tmp 10))⟩]) (.cond (.tmp 11) .skip (.exit 0))) (.seq (.block 1 (.ops [
  ⟨(some 14), none, (.mv (.tmp 3))⟩,
  ⟨(some 15), none, (.mv (.tmp 4))⟩,
  ⟨(some 16), none, (.mv (.tmp 0))⟩,
  ⟨(some 17), none, (.mv (.tmp 4))⟩,
  ⟨(some 18), none, (.ia 1 (.tmp 16) (.tmp 17))⟩,
  ⟨(some 19), none, (.load 1 false (.tmp 18))⟩,
  ⟨(some 20), none, (.ia 1 (.tmp 14) (.tmp 15))⟩,
  ⟨none, none, (.store 1 (.tmp 20) (.tmp 19))⟩])) (.ops [
  ⟨(some 12), none, (.mv (.tmp 4))⟩,
  ⟨(some 13), none, (.bin .add (.tmp 12) (.const (.int .i64 1)))⟩,
  ⟨(some 4), none, (.asg (.tmp 13))⟩])))))) (.seq (.ops [
  ⟨(some 21), none, (.mv (.tmp 3))⟩,
  ⟨(some 2), none, (.asg (.tmp 21))⟩]) .ret))))
theorem law_laws_toInt64S {a0 d : D} (h : code_laws_toInt64S.wp (CT Try.prog NoG) (endQ [(.t 2)] d) [a0, .undef, .undef, .undef, .undef, .undef, .undef, .undef, .undef, .undef, .undef, .undef, .undef, .undef, .undef, .undef, .undef, .undef, .undef, .undef, .undef, .undef]) : Contract Try.prog NoG 35 [a0] d :=
  contract_of noG Try.func35 (fun us W => by kernel_rfl) (c := Try.f35.body.getD .skip) (ms := [(mB 22 4194150)]) (ms' := []) (by kernel_rfl) (by kernel_rfl) (by kernel_rfl) h
set_option maxHeartbeats 2000000 in
theorem v_toInt64S (xs : List Int) (hn : xs.length ≤ 1048576) : Contract Try.prog NoG 35 [.sl false 1 (xs.map (rI))] (.sl true 1 (xs.map (rI))) := by
  have hl : xs.length ≤ 1048576 := (by exact hn); refine law_laws_toInt64S ?_; unfold code_laws_toInt64S; simp -implicitDefEqProofs (disch := omega) only [go_sem, ↓reduceIte , List.length_map, Int.toNat_natCast]; refine ⟨by omega, by omega, by omega, ?_⟩; refine loop_st (fun k : Nat => [.sl false 1 (xs.map (rI)), .undef, .undef, .sl true 1 ((xs.take k).map (rI) ++ List.replicate (xs.length - k) [D.v (.int .i64 0)]), .v (.int .i64 k), .undef, .undef, .undef, .undef, .undef, .undef, .undef, .undef, .undef, .undef, .undef, .undef, .undef, .undef, .undef, .undef, .undef]) (fun k => k ≤ xs.length) (fun k => xs.length - k) 0 (by (try simp -implicitDefEqProofs only [nleL_cc, nleL_nn, nle_self, nle_boxs, nle_aggs, nle_nils, and_self, and_true, true_and]) <;> repeat' (first | exact nle_of_eq rfl | exact nle_nil | apply And.intro | apply nle_sl | apply nleLL_cons | apply nleL_cons | exact nleL_nil | exact nleLL_nil | apply nle_box | apply nle_agg)) (Nat.zero_le _) ?_; intro k hk; simp -implicitDefEqProofs (disch := omega) only [go_sem, ↓reduceIte , List.length_map, Int.toNat_natCast, Int.ofNat_lt, Int.natCast_nonneg, List.getElem?_map, Option.map_some]; refine cond_split ?_ ?_ <;> intro hlt
  · have hlt : k < xs.length := (by simpa using hlt); have e1 := List.getElem?_eq_getElem hlt; have g1 := fill_len xs (rI) [D.v (.int .i64 0)] k; have g2 := fill_at xs (rI) [D.v (.int .i64 0)] k hlt; have g3 := fill_next xs (rI) [D.v (.int .i64 0)] k hlt; have g4 : k < ((xs.take k).map (rI) ++ List.replicate (xs.length - k) [D.v (.int .i64 0)]).length := (by rw [g1]; exact hlt); simp -implicitDefEqProofs (disch := omega) only [go_sem, ↓reduceIte , List.length_map, Int.toNat_natCast, Int.ofNat_lt, Int.natCast_nonneg, List.getElem?_map, Option.map_some, hlt, e1, g1, g2, List.set_set, List.getElem?_set_self g4, wrN]; refine ⟨k + 1, by omega, hlt, ?_⟩; rw [← g3]
    (try simp -implicitDefEqProofs only [nleL_cc, nleL_nn, nle_self, nle_boxs, nle_aggs, nle_nils, and_self, and_true, true_and]) <;> repeat' (first | exact nle_of_eq rfl | exact nle_nil | apply And.intro | apply nle_sl | apply nleLL_cons | apply nleL_cons | exact nleL_nil | exact nleLL_nil | apply nle_box | apply nle_agg)
  · have hge : k = xs.length := (by have : ¬ k < xs.length := (by simpa using hlt); omega); subst hge; simp -implicitDefEqProofs (disch := omega) only [go_sem, ↓reduceIte , fill_end]
def code_laws_toInt64SS : VCode := (.seq (.ops [
  ⟨(some 2), none, (.asg (.const (.slice none 0 0)))⟩]) (.seq (.ops [
  ⟨(some 5), none, (.mv (.tmp 0))⟩,
  ⟨(some 6), none, (.len (.tmp 5))⟩,
  ⟨(some 7), none, (.mks 1 24 [(.slice none 0 0)] (.tmp 6) (.tmp 6))⟩,
  ⟨(some 3), none, (.asg (.tmp 7))⟩]) (.seq (.seq (.ops [
  ⟨(some 4), none, (.asg (.const (.int .i64 0)))⟩]) (.block 0 (.loop (mB 23 8388454) (.seq (.seq (.ops [
  ⟨(some 8), none, (.mv (.tmp 4))⟩,
  ⟨(some 9), none, (.mv (.tmp 0))⟩,
  ⟨(some 10), none, (.len (.tmp 9))⟩,
  ⟨(some 11), none, (.bin .lss (.tmp 8) (.tmp 10))⟩]) (.cond (.tmp 11) .skip (.exit 0))) (.seq (.block 1 (.ops [
  ⟨(some 14), none, (.mv (.tmp 3))⟩,
  ⟨(some 15), none, (.mv (.tmp 4))⟩,
  ⟨(some 16), none, (.mv (.tmp 0))⟩,
  ⟨(some 17), none, (.mv (.tmp 4))⟩,
  ⟨(some 18), none, (.ia 1 (.tmp 16) (.tmp 17))⟩,
  ⟨(some 19), none, (.load 1 false (.tmp 18))⟩,
  ⟨(some 20), none, (.callX 35 [(.tmp 19)])⟩,
  ⟨(some 21), none, (.ia 1 (.tmp 14) (.tmp 15))⟩,
  ⟨none, none, (.store 1 (.tmp 21) (.tmp 20))⟩])) (.ops [
  ⟨(some 12), none, (.mv (.tmp 4))⟩,
  ⟨(some 13), none, (.bin .add (.tmp 12) (.const (.int .i64 1)))⟩,
  ⟨(some 4), none, (.asg (.tmp 13))⟩])))))) (.seq (.ops [
  ⟨(some 22), none, (.mv (.tmp 3))⟩,
  ⟨(some 2), none, (.asg (.tmp 22))⟩]) .ret))))
theorem law_laws_toInt64SS {a0 d : D} (h : code_laws_toInt64SS.wp (CT Try.prog NoG) (endQ [(.t 2)] d) [a0, .undef, .undef, .undef, .undef, .undef, .undef, .undef, .undef, .undef, .undef, .undef, .undef, .undef, .undef, .undef, .undef, .undef, .undef, .undef, .undef, .undef, .undef]) : Contract Try.prog NoG 36 [a0] d :=
  contract_of noG Try.func36 (fun us W => by kernel_rfl) (c := Try.f36.body.getD .skip) (ms := [(mB 23 8388454)]) (ms' := []) (by kernel_rfl) (by kernel_rfl) (by kernel_rfl) h
set_option maxHeartbeats 2000000 in
theorem v_toInt64SS (xs : List (List Int)) (hn : cntL (fun x : List Int => x.length) xs ≤ 1048576) : Contract Try.prog NoG 36 [.sl false 1 (xs.map (fun x => [D.sl false 1 (x.map (rI))]))] (.sl true 1 (xs.map (fun x => [D.sl true 1 (x.map (rI))]))) := by
  have hl : xs.length ≤ 1048576 := (by have := cntL_len (fun x : List Int => x.length) xs; omega); refine law_laws_toInt64SS ?_; unfold code_laws_toInt64SS; simp -implicitDefEqProofs (disch := omega) only [go_sem, ↓reduceIte , List.length_map, Int.toNat_natCast]; refine ⟨by omega, by omega, by omega, ?_⟩; refine loop_st (fun k : Nat => [.sl false 1 (xs.map (fun x => [D.sl false 1 (x.map (rI))])), .undef, .undef, .sl true 1 ((xs.take k).map (fun x => [D.sl true 1 (x.map (rI))]) ++ List.replicate (xs.length - k) [D.nils]), .v (.int .i64 k), .undef, .undef, .undef, .undef, .undef, .undef, .undef, .undef, .undef, .undef, .undef, .undef, .undef, .undef, .undef, .undef, .undef, .undef]) (fun k => k ≤ xs.length) (fun k => xs.length - k) 0 (by (try simp -implicitDefEqProofs only [nleL_cc, nleL_nn, nle_self, nle_boxs, nle_aggs, nle_nils, and_self, and_true, true_and]) <;> repeat' (first | exact nle_of_eq rfl | exact nle_nil | apply And.intro | apply nle_sl | apply nleLL_cons | apply nleL_cons | exact nleL_nil | exact nleLL_nil | apply nle_box | apply nle_agg)) (Nat.zero_le _) ?_; intro k hk; simp -implicitDefEqProofs (disch := omega) only [go_sem, ↓reduceIte , List.length_map, Int.toNat_natCast, Int.ofNat_lt, Int.natCast_nonneg, List.getElem?_map, Option.map_some]; refine cond_split ?_ ?_ <;> intro hlt
  · have hlt : k < xs.length := (by simpa using hlt); have e1 := List.getElem?_eq_getElem hlt; have g1 := fill_len xs (fun x => [D.sl true 1 (x.map (rI))]) [D.nils] k; have g2 := fill_at xs (fun x => [D.sl true 1 (x.map (rI))]) [D.nils] k hlt; have g3 := fill_next xs (fun x => [D.sl true 1 (x.map (rI))]) [D.nils] k hlt; have g4 : k < ((xs.take k).map (fun x => [D.sl true 1 (x.map (rI))]) ++ List.replicate (xs.length - k) [D.nils]).length := (by rw [g1]; exact hlt); have hm := cntL_mem (fun x : List Int => x.length) xs k hlt; simp -implicitDefEqProofs (disch := omega) only [go_sem, ↓reduceIte , List.length_map, Int.toNat_natCast, Int.ofNat_lt, Int.natCast_nonneg, List.getElem?_map, Option.map_some, hlt, e1, g1, g2, List.set_set, List.getElem?_set_self g4, wrN]; refine call_leA (v_toInt64S xs[k] (by omega)) (by simp -implicitDefEqProofs (disch := omega) only [go_sem, ↓reduceIte, deep, TD.rows, immLL_rI, immLL_rB8, immLL_rS, immLL_rBo, immLL_rII, immLL_rIIt, List.length_map, Int.toNat_natCast, Int.ofNat_lt, Int.natCast_nonneg, List.getElem?_map, Option.map_some, hlt, e1, g1, g2, List.set_set, List.getElem?_set_self g4, wrN]; exact rfl) (by repeat (first | exact leL_nil | refine leL_cons ?_ ?_ | exact le_of_eq rfl | exact le_iptrN (leL_of_eq rfl) | refine le_agg ?_ | exact le_slf rfl (TD.rows ..) | refine le_iptr ?_ | refine le_fn ?_ ?_)) (by first | exact .inl rfl | exact .inr rfl | exact .inl (by simp only [D.noImm, noImmL, go_sem, TD.nims, TD.nim, nim_rI, nim_rB8, nim_rBo, nim_rS])) ?_; simp -implicitDefEqProofs (disch := omega) only [go_sem, ↓reduceIte , List.length_map, Int.toNat_natCast, Int.ofNat_lt, Int.natCast_nonneg, List.getElem?_map, Option.map_some, hlt, e1, g1, g2, List.set_set, List.getElem?_set_self g4, wrN]; refine ⟨k + 1, by omega, hlt, ?_⟩; rw [← g3]
    (try simp -implicitDefEqProofs only [nleL_cc, nleL_nn, nle_self, nle_boxs, nle_aggs, nle_nils, and_self, and_true, true_and]) <;> repeat' (first | exact nle_of_eq rfl | exact nle_nil | apply And.intro | apply nle_sl | apply nleLL_cons | apply nleL_cons | exact nleL_nil | exact nleLL_nil | apply nle_box | apply nle_agg)
  · have hge : k = xs.length := (by have : ¬ k < xs.length := (by simpa using hlt); omega); subst hge; simp -implicitDefEqProofs (disch := omega) only [go_sem, ↓reduceIte , fill_end]
end Go.Proofs.Ytkaehgnnhookpaa
