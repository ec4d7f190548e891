/- Laws that the proof stands on. -/
import Derived.Test.YtjcmijfompcphaaZVB
import Derived.Test.YtjcmijfompcphaaProg
set_option linter.all false
namespace Go.Proofs.Ytjcmijfompcphaa
open Go.RowKit Go.V
attribute [local go_sem] List.getElem?_cons_succ List.getElem?_cons_zero List.set_cons_succ List.set_cons_zero List.map_cons List.map_nil List.length_cons List.length_nil List.all_cons List.all_nil List.drop_succ_cons List.drop_zero List.take_succ_cons List.take_zero List.flatMap_cons List.flatMap_nil List.cons_append List.nil_append List.append_nil List.headD_cons Value.oneCell' Bool.and_true Bool.true_and Bool.or_false Bool.false_or Bool.and_self Bool.not_true Bool.not_false and_true true_and beq_self_eq_true Bool.false_eq_true if_true if_false Nat.zero_add Nat.reduceAdd Nat.reduceMul Nat.reduceLeDiff Nat.le_refl Option.isSome_some Option.isSome_none not_true_eq_false not_false_eq_true ne_eq reduceCtorEq List.reverse_nil bne_self_eq_false Nat.reduceEqDiff List.isPrefixOf Bool.not_eq_true Bool.and_false Bool.false_and Bool.true_or Bool.or_true decide_true decide_false Nat.reduceBEq Nat.reduceBNe List.replicate_succ List.replicate_zero exists_eq_left' exists_eq_left Option.some.injEq or_false or_true true_or false_or Option.map_some Option.map_none mB Nat.reduceMod Nat.reduceDiv
set_option maxRecDepth 100000
def inR (lo hi n : Int) : Bool := decide (lo ≤ n) && decide (n ≤ hi)
theorem inR_iff {lo hi n : Int} : inR lo hi n = true ↔ lo ≤ n ∧ n ≤ hi := by simp [inR]
def code_spec_l00In : VCode := (.seq (.ops [
  ⟨(some 6), none, (.asg (.const (.bool false)))⟩]) (.seq (.ops [
  ⟨(some 7), none, (.mv (.tmp 0))⟩,
  ⟨(some 8), none, (.mv (.tmp 1))⟩,
  ⟨(some 9), none, (.bin .geq (.tmp 7) (.tmp 8))⟩,
  ⟨(some 10), none, (.mv (.tmp 9))⟩,
  ⟨(some 11), (some (10, true)), (.mv (.tmp 0))⟩,
  ⟨(some 12), (some (10, true)), (.mv (.tmp 2))⟩,
  ⟨(some 13), (some (10, true)), (.bin .leq (.tmp 11) (.tmp 12))⟩,
  ⟨(some 14), none, (.pick (.tmp 10) (.tmp 13) (.const (.bool false)))⟩,
  ⟨(some 6), none, (.asg (.tmp 14))⟩]) .ret))
theorem law_spec_l00In {a0 a1 a2 d : D} (h : code_spec_l00In.wp (CT Try.prog NoG) (endQ [(.t 6)] d) [a0, a1, a2, .undef, .undef, .undef, .undef, .undef, .undef, .undef, .undef, .undef, .undef, .undef, .undef]) : Contract Try.prog NoG 16 [a0, a1, a2] d :=
  contract_of (pt := 0) noG Try.func16 (fun us W => by kernel_rfl) (c := Try.f16.body.getD .skip) (ms := []) (ms' := []) (by kernel_rfl) (by kernel_rfl) (by kernel_rfl) h
theorem v_l00In (a b c : Int) : Contract Try.prog NoG 16 [.v (.int .i64 a), .v (.int .i64 b), .v (.int .i64 c)] (.v (.bool (inR b c a))) := by
  refine law_spec_l00In ?_; unfold code_spec_l00In inR; simp -implicitDefEqProofs (disch := omega) only [go_sem, ↓reduceIte]; refine guard_split ?_ ?_ <;> intro h
  · simp -implicitDefEqProofs (disch := omega) only [go_sem, ↓reduceIte , h]
  · simp -implicitDefEqProofs (disch := omega) only [go_sem, ↓reduceIte , h]
def code_impl_within : VCode := (.seq (.ops [
  ⟨(some 6), none, (.asg (.const (.bool false)))⟩]) (.seq (.ops [
  ⟨(some 7), none, (.mv (.tmp 0))⟩,
  ⟨(some 8), none, (.mv (.tmp 1))⟩,
  ⟨(some 9), none, (.bin .geq (.tmp 7) (.tmp 8))⟩,
  ⟨(some 10), none, (.mv (.tmp 9))⟩,
  ⟨(some 11), (some (10, true)), (.mv (.tmp 0))⟩,
  ⟨(some 12), (some (10, true)), (.mv (.tmp 2))⟩,
  ⟨(some 13), (some (10, true)), (.bin .leq (.tmp 11) (.tmp 12))⟩,
  ⟨(some 14), none, (.pick (.tmp 10) (.tmp 13) (.const (.bool false)))⟩,
  ⟨(some 6), none, (.asg (.tmp 14))⟩]) .ret))
theorem law_impl_within {a0 a1 a2 d : D} (h : code_impl_within.wp (CT Try.prog NoG) (endQ [(.t 6)] d) [a0, a1, a2, .undef, .undef, .undef, .undef, .undef, .undef, .undef, .undef, .undef, .undef, .undef, .undef]) : Contract Try.prog NoG 18 [a0, a1, a2] d :=
  contract_of (pt := 0) noG Try.func18 (fun us W => by kernel_rfl) (c := Try.f18.body.getD .skip) (ms := []) (ms' := []) (by kernel_rfl) (by kernel_rfl) (by kernel_rfl) h
theorem v_within (a b c : Int) : Contract Try.prog NoG 18 [.v (.int .i64 a), .v (.int .i64 b), .v (.int .i64 c)] (.v (.bool (inR b c a))) := by
  refine law_impl_within ?_; unfold code_impl_within inR; simp -implicitDefEqProofs (disch := omega) only [go_sem, ↓reduceIte]; refine guard_split ?_ ?_ <;> intro h
  · simp -implicitDefEqProofs (disch := omega) only [go_sem, ↓reduceIte , h]
  · simp -implicitDefEqProofs (disch := omega) only [go_sem, ↓reduceIte , h]
def code_slices_IndexFunc_int64_int64 : VCode := (.seq (.ops [
  ⟨(some 4), none, (.asg (.const (.int .i64 0)))⟩]) (.seq (.seq (.ops [
  ⟨(some 6), none, (.mv (.tmp 0))⟩,
  ⟨(some 7), none, (.len (.tmp 6))⟩,
  ⟨(some 8), none, (.mv (.const (.int .i64 0)))⟩]) (.block 0 (.loop (mB 19 523900) (.seq (.ops [
  ⟨(some 9), none, (.bin .lss (.tmp 8) (.tmp 7))⟩]) (.seq (.cond (.tmp 9) .skip (.exit 0)) (.seq (.block 1 (.seq (.ops [
  ⟨(some 10), none, (.mv (.tmp 8))⟩,
  ⟨(some 5), none, (.asg (.tmp 10))⟩]) (.seq (.ops [
  ⟨(some 11), none, (.mv (.tmp 1))⟩,
  ⟨(some 12), none, (.mv (.tmp 0))⟩,
  ⟨(some 13), none, (.mv (.tmp 5))⟩,
  ⟨(some 14), none, (.ia 1 (.tmp 12) (.tmp 13))⟩,
  ⟨(some 15), none, (.load 1 false (.tmp 14))⟩,
  ⟨(some 16), none, (.callvX (.tmp 11) [(.tmp 15)])⟩]) (.cond (.tmp 16) (.seq (.ops [
  ⟨(some 17), none, (.mv (.tmp 5))⟩,
  ⟨(some 4), none, (.asg (.tmp 17))⟩]) .ret) .skip)))) (.ops [
  ⟨(some 18), none, (.bin .add (.tmp 8) (.const (.int .i64 1)))⟩,
  ⟨(some 8), none, (.mv (.tmp 18))⟩]))))))) (.seq (.ops [
  ⟨(some 4), none, (.asg (.const (.int .i64 (-1))))⟩]) .ret)))
theorem law_slices_IndexFunc_int64_int64 {a0 a1 d : D} (h : code_slices_IndexFunc_int64_int64.wp (CT Try.prog NoG) (endQ [(.t 4)] d) [a0, a1, .undef, .undef, .undef, .undef, .undef, .undef, .undef, .undef, .undef, .undef, .undef, .undef, .undef, .undef, .undef, .undef, .undef]) : Contract Try.prog NoG 27 [a0, a1] d :=
  contract_of (pt := 0) noG Try.func27 (fun us W => by kernel_rfl) (c := Try.f27.body.getD .skip) (ms := [(mB 19 523900)]) (ms' := []) (by kernel_rfl) (by kernel_rfl) (by kernel_rfl) h
theorem v_IndexFunc_Int64 (f : FuncId) (caps : List D) (hd : CapsOK caps) (xs : List Int) (p : Int → Bool) (hc : ∀ x, x ∈ xs → Contract Try.prog NoG f (.v (.int .i64 x) :: caps) (.v (.bool (p x)))) (hn : xs.length ≤ 1099511627776) :
    Contract Try.prog NoG 27 [.sl false 1 (xs.map (rI)), .fn f [] caps] (.v (.int .i64 (vIdx p xs))) := by
  refine law_slices_IndexFunc_int64_int64 ?_; unfold code_slices_IndexFunc_int64_int64; simp -implicitDefEqProofs (disch := omega) only [go_sem, ↓reduceIte , hd.owny, hd.pr]; refine loop_st (fun i : Nat => [.sl false 1 (xs.map (rI)), .fn f [] caps, .undef, .undef, .undef, .undef, .undef, .v (.int .i64 (xs.map (rI)).length), .v (.int .i64 i), .undef, .undef, .undef, .undef, .undef, .undef, .undef, .undef, .undef, .undef]) (fun i => i ≤ xs.length ∧ ∀ j (hj : j < xs.length), j < i → p xs[j] = false) (fun i => xs.length - i) 0 ?_ ⟨Nat.zero_le _, fun j _ h => absurd h (Nat.not_lt_zero _)⟩ ?_
  · simp -implicitDefEqProofs (disch := omega) only [go_sem, ↓reduceIte , hd.owny, hd.pr]
    (try simp -implicitDefEqProofs only [nleL_cc, nleL_nn, nle_self, nle_boxs, nle_aggs, nle_nils, and_self, and_true, true_and]) <;> repeat' (first | exact nle_of_eq rfl | exact nle_nil | apply And.intro | apply nle_sl | apply nleLL_cons | apply nleL_cons | exact nleL_nil | exact nleLL_nil | apply nle_box | apply nle_agg)
  rintro i ⟨hi, ha⟩; simp -implicitDefEqProofs (disch := omega) only [go_sem, ↓reduceIte , List.length_map, Int.toNat_natCast, Int.ofNat_lt, Int.natCast_nonneg, List.getElem?_map, Option.map_some, hd.owny, hd.pr]; refine cond_split ?_ ?_ <;> intro hlt
  · have hlt : i < xs.length := (by simpa using hlt); have hx := List.getElem?_eq_getElem hlt; simp -implicitDefEqProofs (disch := omega) only [go_sem, ↓reduceIte , List.length_map, Int.toNat_natCast, Int.ofNat_lt, Int.natCast_nonneg, List.getElem?_map, Option.map_some, hlt, hx, hd.owny, hd.pr]; have hcx := hc _ (List.getElem_mem hlt); refine callv_le (f := f) (first := []) (caps := caps) ?_ hcx ?_ (.inl rfl) ?_
    · simp -implicitDefEqProofs (disch := omega) only [go_sem, ↓reduceIte , hd.owny]
    · refine leL_of_eq ?_; simp only [List.nil_append, List.cons_append, List.map_cons, List.map_nil, hd.d8, List.map_append]; simp only [deep, raw, List.getElem?_cons_succ, List.getElem?_cons_zero, List.map_cons, List.map_nil, TD.rows, immLL_rI, immLL_rB8, immLL_rS, immLL_rBo]
    simp -implicitDefEqProofs (disch := omega) only [go_sem, ↓reduceIte , hd.owny, hd.pr]; refine cond_split ?_ ?_ <;> intro hp
    · simp -implicitDefEqProofs (disch := omega) only [go_sem, ↓reduceIte , hd.owny, hd.pr]; rw [vIdx_hit p xs i hlt ha hp]
    · simp -implicitDefEqProofs (disch := omega) only [go_sem, ↓reduceIte , wrN, hd.owny, hd.pr]; refine ⟨i + 1, by omega, ⟨hlt, fun j hj h => ?_⟩, nleA⟩; rcases Nat.lt_or_ge j i with h' | h'
      · exact ha j hj h'
      · have : j = i := (by omega); subst this; exact hp
  · have hlt : ¬ i < xs.length := (by simpa using hlt); simp -implicitDefEqProofs (disch := omega) only [go_sem, ↓reduceIte]; rw [vIdx_miss p xs (fun j hj => ha j hj (by omega))]
def code_slices_ContainsFunc_int64_int64 : VCode := (.seq (.ops [
  ⟨(some 4), none, (.asg (.const (.bool false)))⟩]) (.seq (.ops [
  ⟨(some 5), none, (.mv (.tmp 0))⟩,
  ⟨(some 6), none, (.mv (.tmp 1))⟩,
  ⟨(some 7), none, (.callX 27 [(.tmp 5), (.tmp 6)])⟩,
  ⟨(some 8), none, (.bin .geq (.tmp 7) (.const (.int .i64 0)))⟩,
  ⟨(some 4), none, (.asg (.tmp 8))⟩]) .ret))
theorem law_slices_ContainsFunc_int64_int64 {a0 a1 d : D} (h : code_slices_ContainsFunc_int64_int64.wp (CT Try.prog NoG) (endQ [(.t 4)] d) [a0, a1, .undef, .undef, .undef, .undef, .undef, .undef, .undef]) : Contract Try.prog NoG 23 [a0, a1] d :=
  contract_of (pt := 0) noG Try.func23 (fun us W => by kernel_rfl) (c := Try.f23.body.getD .skip) (ms := []) (ms' := []) (by kernel_rfl) (by kernel_rfl) (by kernel_rfl) h
theorem v_ContainsFunc_Int64 (f : FuncId) (caps : List D) (hd : CapsOK caps) (xs : List Int) (p : Int → Bool) (hc : ∀ x, x ∈ xs → Contract Try.prog NoG f (.v (.int .i64 x) :: caps) (.v (.bool (p x)))) (hn : xs.length ≤ 1099511627776) :
    Contract Try.prog NoG 23 [.sl false 1 (xs.map (rI)), .fn f [] caps] (.v (.bool (xs.any p))) := by
  refine law_slices_ContainsFunc_int64_int64 ?_; unfold code_slices_ContainsFunc_int64_int64; simp -implicitDefEqProofs (disch := omega) only [go_sem, ↓reduceIte , hd.owny, hd.pr]; refine call_le (v_IndexFunc_Int64 f caps hd xs p hc hn) ?_ (.inl rfl) ?_
  · refine leL_of_eq ?_; simp only [List.map_cons, List.map_nil, deep, raw, List.getElem?_cons_succ, List.getElem?_cons_zero, TD.rows, immLL_rI, immLL_rB8, immLL_rS, immLL_rBo, hd.owny, hd.pr, hd.d7]
    try rfl
  simp -implicitDefEqProofs (disch := omega) only [go_sem, ↓reduceIte]; exact congrArg Value.bool (vIdx_any p xs)
def code_slices_Clone_int64_int64 : VCode := (.seq (.ops [
  ⟨(some 2), none, (.asg (.const (.slice none 0 0)))⟩]) (.seq (.seq (.ops [
  ⟨(some 3), none, (.mv (.tmp 0))⟩,
  ⟨(some 4), none, (.isnil false (.tmp 3))⟩]) (.cond (.tmp 4) (.seq (.ops [
  ⟨(some 2), none, (.asg (.const (.slice none 0 0)))⟩]) .ret) .skip)) (.seq (.ops [
  ⟨(some 5), none, (.bsl 1 [])⟩,
  ⟨(some 6), none, (.mv (.tmp 0))⟩,
  ⟨(some 7), none, (.app 1 8 (.tmp 5) (.tmp 6))⟩,
  ⟨(some 2), none, (.asg (.tmp 7))⟩]) .ret)))
theorem law_slices_Clone_int64_int64 {a0 d : D} (h : code_slices_Clone_int64_int64.wp (CT Try.prog NoG) (endQ [(.t 2)] d) [a0, .undef, .undef, .undef, .undef, .undef, .undef, .undef]) : Contract Try.prog NoG 20 [a0] d :=
  contract_of (pt := 0) noG Try.func20 (fun us W => by kernel_rfl) (c := Try.f20.body.getD .skip) (ms := []) (ms' := []) (by kernel_rfl) (by kernel_rfl) (by kernel_rfl) h
theorem v_Clone_Int64 (xs : List Int) (hn : xs.length ≤ 1048576) : Contract Try.prog NoG 20 [.sl false 1 (xs.map rI)] (.sl true 1 (xs.map rI)) := by
  refine law_slices_Clone_int64_int64 ?_; unfold code_slices_Clone_int64_int64; simp -implicitDefEqProofs (disch := omega) only [go_sem, ↓reduceIte]; refine isnil_intro (fun b hb => ?_); simp -implicitDefEqProofs (disch := omega) only [go_sem, ↓reduceIte]; refine cond_split ?_ ?_ <;> intro h
  · simp -implicitDefEqProofs (disch := omega) only [go_sem, ↓reduceIte]; exact hb (by rw [h]; rfl)
  · simp -implicitDefEqProofs (disch := omega) only [go_sem, ↓reduceIte , List.length_map]
    first | omega | exact ⟨by omega, rfl⟩
def code_laws_toInt64S : VCode := (.seq (.ops [
  ⟨(some 2), none, (.asg (.const (.slice none 0 0)))⟩]) (.seq (.ops [
  ⟨(some 5), none, (.mv (.tmp 0))⟩,
  ⟨(some 6), none, (.len (.tmp 5))⟩,
  ⟨(some 7), none, (.mks 1 8 [(.int .i64 0)] (.tmp 6) (.tmp 6))⟩,
  ⟨(some 3), none, (.asg (.tmp 7))⟩]) (.seq (.seq (.ops [
  ⟨(some 4), none, (.asg (.const (.int .i64 0)))⟩]) (.block 0 (.loop (mB 22 4194150) (.seq (.seq (.ops [
  ⟨(some 8), none, (.mv (.tmp 4))⟩,
  ⟨(some 9), none, (.mv (.tmp 0))⟩,
  ⟨(some 10), none, (.len (.tmp 9))⟩,
  ⟨(some 11), none, (.bin .lss (.tmp 8) (.tmp 10))⟩]) (.cond (.tmp 11) .skip (.exit 0))) (.seq (.block 1 (.ops [
  ⟨(some 14), none, (.mv (.tmp 3))⟩,
  ⟨(some 15), none, (.mv (.tmp 4))⟩,
  ⟨(some 16), none, (.mv (.tmp 0))⟩,
  ⟨(some 17), none, (.mv (.tmp 4))⟩,
  ⟨(some 18), none, (.ia 1 (.tmp 16) (.tmp 17))⟩,
  ⟨(some 19), none, (.load 1 false (.tmp 18))⟩,
  ⟨(some 20), none, (.ia 1 (.tmp 14) (.tmp 15))⟩,
  ⟨none, none, (.store 1 (.tmp 20) (.tmp 19))⟩])) (.ops [
  ⟨(some 12), none, (.mv (.tmp 4))⟩,
  ⟨(some 13), none, (.bin .add (.tmp 12) (.const (.int .i64 1)))⟩,
  ⟨(some 4), none, (.asg (.tmp 13))⟩])))))) (.seq (.ops [
  ⟨(some 21), none, (.mv (.tmp 3))⟩,
  ⟨(some 2), none, (.asg (.tmp 21))⟩]) .ret))))
theorem law_laws_toInt64S {a0 d : D} (h : code_laws_toInt64S.wp (CT Try.prog NoG) (endQ [(.t 2)] d) [a0, .undef, .undef, .undef, .undef, .undef, .undef, .undef, .undef, .undef, .undef, .undef, .undef, .undef, .undef, .undef, .undef, .undef, .undef, .undef, .undef, .undef]) : Contract Try.prog NoG 12 [a0] d :=
  contract_of (pt := 0) noG Try.func12 (fun us W => by kernel_rfl) (c := Try.f12.body.getD .skip) (ms := [(mB 22 4194150)]) (ms' := []) (by kernel_rfl) (by kernel_rfl) (by kernel_rfl) h
set_option maxHeartbeats 2000000 in
theorem v_toInt64S (xs : List Int) (hn : xs.length ≤ 1048576) : Contract Try.prog NoG 12 [.sl false 1 (xs.map (rI))] (.sl true 1 (xs.map (rI))) := by
  have hl : xs.length ≤ 1048576 := (by exact hn); refine law_laws_toInt64S ?_; unfold code_laws_toInt64S; simp -implicitDefEqProofs (disch := omega) only [go_sem, ↓reduceIte , List.length_map, Int.toNat_natCast]; refine ⟨by omega, by omega, by omega, ?_⟩; refine loop_st (fun k : Nat => [.sl false 1 (xs.map (rI)), .undef, .undef, .sl true 1 ((xs.take k).map (rI) ++ List.replicate (xs.length - k) [D.v (.int .i64 0)]), .v (.int .i64 k), .undef, .undef, .undef, .undef, .undef, .undef, .undef, .undef, .undef, .undef, .undef, .undef, .undef, .undef, .undef, .undef, .undef]) (fun k => k ≤ xs.length) (fun k => xs.length - k) 0 (nleA) (Nat.zero_le _) ?_; intro k hk; simp -implicitDefEqProofs (disch := omega) only [go_sem, ↓reduceIte , List.length_map, Int.toNat_natCast, Int.ofNat_lt, Int.natCast_nonneg, List.getElem?_map, Option.map_some]; refine cond_split ?_ ?_ <;> intro hlt
  · have hlt : k < xs.length := (by simpa using hlt); have e1 := List.getElem?_eq_getElem hlt; have g1 := fill_len xs (rI) [D.v (.int .i64 0)] k; have g2 := fill_at xs (rI) [D.v (.int .i64 0)] k hlt; have g3 := fill_next xs (rI) [D.v (.int .i64 0)] k hlt; have g4 : k < ((xs.take k).map (rI) ++ List.replicate (xs.length - k) [D.v (.int .i64 0)]).length := (by rw [g1]; exact hlt); simp -implicitDefEqProofs (disch := omega) only [go_sem, ↓reduceIte , List.length_map, Int.toNat_natCast, Int.ofNat_lt, Int.natCast_nonneg, List.getElem?_map, Option.map_some, hlt, e1, g1, g2, List.set_set, List.getElem?_set_self g4, wrN]; refine ⟨k + 1, by omega, hlt, ?_⟩; rw [← g3]
    (try simp -implicitDefEqProofs only [nleL_cc, nleL_nn, nle_self, nle_boxs, nle_aggs, nle_nils, and_self, and_true, true_and]) <;> repeat' (first | exact nle_of_eq rfl | exact nle_nil | apply And.intro | apply nle_sl | apply nleLL_cons | apply nleL_cons | exact nleL_nil | exact nleLL_nil | apply nle_box | apply nle_agg)
  · have hge : k = xs.length := (by have : ¬ k < xs.length := (by simpa using hlt); omega); subst hge; simp -implicitDefEqProofs (disch := omega) only [go_sem, ↓reduceIte , fill_end]
end Go.Proofs.Ytjcmijfompcphaa
