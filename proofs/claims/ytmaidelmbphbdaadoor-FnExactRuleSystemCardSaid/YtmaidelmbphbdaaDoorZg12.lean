/- Laws that the proof stands on. -/
import Derived.Test.YtmaidelmbphbdaaDoorZVB
import Derived.Test.YtmaidelmbphbdaaDoorProg
import Derived.Test.YtmaidelmbphbdaaDoorZVTab
import Derived.Test.YtmaidelmbphbdaaDoorZg11
set_option linter.all false
namespace Go.Proofs.YtmaidelmbphbdaaDoor
open Go.RowKit Go.V
attribute [local go_sem] List.getElem?_cons_succ List.getElem?_cons_zero List.set_cons_succ List.set_cons_zero List.map_cons List.map_nil List.length_cons List.length_nil List.all_cons List.all_nil List.drop_succ_cons List.drop_zero List.take_succ_cons List.take_zero List.flatMap_cons List.flatMap_nil List.cons_append List.nil_append List.append_nil List.headD_cons Value.oneCell' Bool.and_true Bool.true_and Bool.or_false Bool.false_or Bool.and_self Bool.not_true Bool.not_false and_true true_and beq_self_eq_true Bool.false_eq_true if_true if_false Nat.zero_add Nat.reduceAdd Nat.reduceMul Nat.reduceLeDiff Nat.le_refl Option.isSome_some Option.isSome_none not_true_eq_false not_false_eq_true ne_eq reduceCtorEq List.reverse_nil bne_self_eq_false Nat.reduceEqDiff List.isPrefixOf Bool.not_eq_true Bool.and_false Bool.false_and Bool.true_or Bool.or_true decide_true decide_false Nat.reduceBEq Nat.reduceBNe List.replicate_succ List.replicate_zero exists_eq_left' exists_eq_left Option.some.injEq or_false or_true true_or false_or Option.map_some Option.map_none mB Nat.reduceMod Nat.reduceDiv
set_option maxRecDepth 100000
def inR (lo hi n : Int) : Bool := decide (lo ≤ n) && decide (n ≤ hi)
theorem inR_iff {lo hi n : Int} : inR lo hi n = true ↔ lo ≤ n ∧ n ≤ hi := by simp [inR]
def code_spec_l00In : VCode := (.seq (.ops [
  ⟨(some 6), none, (.asg (.const (.bool false)))⟩]) (.seq (.ops [
  ⟨(some 7), none, (.mv (.tmp 0))⟩,
  ⟨(some 8), none, (.mv (.tmp 1))⟩,
  ⟨(some 9), none, (.bin .geq (.tmp 7) (.tmp 8))⟩,
  ⟨(some 10), none, (.mv (.tmp 9))⟩,
  ⟨(some 11), (some (10, true)), (.mv (.tmp 0))⟩,
  ⟨(some 12), (some (10, true)), (.mv (.tmp 2))⟩,
  ⟨(some 13), (some (10, true)), (.bin .leq (.tmp 11) (.tmp 12))⟩,
  ⟨(some 14), none, (.pick (.tmp 10) (.tmp 13) (.const (.bool false)))⟩,
  ⟨(some 6), none, (.asg (.tmp 14))⟩]) .ret))
theorem law_spec_l00In {a0 a1 a2 d : D} (h : code_spec_l00In.wp (CT Tryd.prog TabG) (endQ [(.t 6)] d) [a0, a1, a2, .undef, .undef, .undef, .undef, .undef, .undef, .undef, .undef, .undef, .undef, .undef, .undef]) : Contract Tryd.prog TabG 28 [a0, a1, a2] d :=
  contract_of (pt := 0) tabG Tryd.func28 (fun us W => by kernel_rfl) (c := Tryd.f28.body.getD .skip) (ms := []) (ms' := []) (by kernel_rfl) (by kernel_rfl) (by kernel_rfl) h
theorem v_l00In (a b c : Int) : Contract Tryd.prog TabG 28 [.v (.int .i64 a), .v (.int .i64 b), .v (.int .i64 c)] (.v (.bool (inR b c a))) := by
  refine law_spec_l00In ?_; unfold code_spec_l00In inR; simp -implicitDefEqProofs (disch := omega) only [go_sem, ↓reduceIte]; refine guard_split ?_ ?_ <;> intro h
  · simp -implicitDefEqProofs (disch := omega) only [go_sem, ↓reduceIte , h]
  · simp -implicitDefEqProofs (disch := omega) only [go_sem, ↓reduceIte , h]
def code_impl_within : VCode := (.seq (.ops [
  ⟨(some 6), none, (.asg (.const (.bool false)))⟩]) (.seq (.ops [
  ⟨(some 7), none, (.mv (.tmp 0))⟩,
  ⟨(some 8), none, (.mv (.tmp 1))⟩,
  ⟨(some 9), none, (.bin .geq (.tmp 7) (.tmp 8))⟩,
  ⟨(some 10), none, (.mv (.tmp 9))⟩,
  ⟨(some 11), (some (10, true)), (.mv (.tmp 0))⟩,
  ⟨(some 12), (some (10, true)), (.mv (.tmp 2))⟩,
  ⟨(some 13), (some (10, true)), (.bin .leq (.tmp 11) (.tmp 12))⟩,
  ⟨(some 14), none, (.pick (.tmp 10) (.tmp 13) (.const (.bool false)))⟩,
  ⟨(some 6), none, (.asg (.tmp 14))⟩]) .ret))
theorem law_impl_within {a0 a1 a2 d : D} (h : code_impl_within.wp (CT Tryd.prog TabG) (endQ [(.t 6)] d) [a0, a1, a2, .undef, .undef, .undef, .undef, .undef, .undef, .undef, .undef, .undef, .undef, .undef, .undef]) : Contract Tryd.prog TabG 33 [a0, a1, a2] d :=
  contract_of (pt := 0) tabG Tryd.func33 (fun us W => by kernel_rfl) (c := Tryd.f33.body.getD .skip) (ms := []) (ms' := []) (by kernel_rfl) (by kernel_rfl) (by kernel_rfl) h
theorem v_within (a b c : Int) : Contract Tryd.prog TabG 33 [.v (.int .i64 a), .v (.int .i64 b), .v (.int .i64 c)] (.v (.bool (inR b c a))) := by
  refine law_impl_within ?_; unfold code_impl_within inR; simp -implicitDefEqProofs (disch := omega) only [go_sem, ↓reduceIte]; refine guard_split ?_ ?_ <;> intro h
  · simp -implicitDefEqProofs (disch := omega) only [go_sem, ↓reduceIte , h]
  · simp -implicitDefEqProofs (disch := omega) only [go_sem, ↓reduceIte , h]
def code_slices_IndexFunc_int64_int64 : VCode := (.seq (.ops [
  ⟨(some 4), none, (.asg (.const (.int .i64 0)))⟩]) (.seq (.seq (.ops [
  ⟨(some 6), none, (.mv (.tmp 0))⟩,
  ⟨(some 7), none, (.len (.tmp 6))⟩,
  ⟨(some 8), none, (.mv (.const (.int .i64 0)))⟩]) (.block 0 (.loop (mB 19 523900) (.seq (.ops [
  ⟨(some 9), none, (.bin .lss (.tmp 8) (.tmp 7))⟩]) (.seq (.cond (.tmp 9) .skip (.exit 0)) (.seq (.block 1 (.seq (.ops [
  ⟨(some 10), none, (.mv (.tmp 8))⟩,
  ⟨(some 5), none, (.asg (.tmp 10))⟩]) (.seq (.ops [
  ⟨(some 11), none, (.mv (.tmp 1))⟩,
  ⟨(some 12), none, (.mv (.tmp 0))⟩,
  ⟨(some 13), none, (.mv (.tmp 5))⟩,
  ⟨(some 14), none, (.ia 1 (.tmp 12) (.tmp 13))⟩,
  ⟨(some 15), none, (.load 1 false (.tmp 14))⟩,
  ⟨(some 16), none, (.callvX (.tmp 11) [(.tmp 15)])⟩]) (.cond (.tmp 16) (.seq (.ops [
  ⟨(some 17), none, (.mv (.tmp 5))⟩,
  ⟨(some 4), none, (.asg (.tmp 17))⟩]) .ret) .skip)))) (.ops [
  ⟨(some 18), none, (.bin .add (.tmp 8) (.const (.int .i64 1)))⟩,
  ⟨(some 8), none, (.mv (.tmp 18))⟩]))))))) (.seq (.ops [
  ⟨(some 4), none, (.asg (.const (.int .i64 (-1))))⟩]) .ret)))
theorem law_slices_IndexFunc_int64_int64 {a0 a1 d : D} (h : code_slices_IndexFunc_int64_int64.wp (CT Tryd.prog TabG) (endQ [(.t 4)] d) [a0, a1, .undef, .undef, .undef, .undef, .undef, .undef, .undef, .undef, .undef, .undef, .undef, .undef, .undef, .undef, .undef, .undef, .undef]) : Contract Tryd.prog TabG 102 [a0, a1] d :=
  contract_of (pt := 0) tabG Tryd.func102 (fun us W => by kernel_rfl) (c := Tryd.f102.body.getD .skip) (ms := [(mB 19 523900)]) (ms' := []) (by kernel_rfl) (by kernel_rfl) (by kernel_rfl) h
theorem v_IndexFunc_Int64 (f : FuncId) (caps : List D) (hd : CapsOK caps) (xs : List Int) (p : Int → Bool) (hc : ∀ x, x ∈ xs → Contract Tryd.prog TabG f (.v (.int .i64 x) :: caps) (.v (.bool (p x)))) (hn : xs.length ≤ 1099511627776) :
    Contract Tryd.prog TabG 102 [.sl false 1 (xs.map (rI)), .fn f [] caps] (.v (.int .i64 (vIdx p xs))) := by
  refine law_slices_IndexFunc_int64_int64 ?_; unfold code_slices_IndexFunc_int64_int64; simp -implicitDefEqProofs (disch := omega) only [go_sem, ↓reduceIte , hd.owny, hd.pr]; refine loop_st (fun i : Nat => [.sl false 1 (xs.map (rI)), .fn f [] caps, .undef, .undef, .undef, .undef, .undef, .v (.int .i64 (xs.map (rI)).length), .v (.int .i64 i), .undef, .undef, .undef, .undef, .undef, .undef, .undef, .undef, .undef, .undef]) (fun i => i ≤ xs.length ∧ ∀ j (hj : j < xs.length), j < i → p xs[j] = false) (fun i => xs.length - i) 0 ?_ ⟨Nat.zero_le _, fun j _ h => absurd h (Nat.not_lt_zero _)⟩ ?_
  · simp -implicitDefEqProofs (disch := omega) only [go_sem, ↓reduceIte , hd.owny, hd.pr]
    (try simp -implicitDefEqProofs only [nleL_cc, nleL_nn, nle_self, nle_boxs, nle_aggs, nle_nils, and_self, and_true, true_and]) <;> repeat' (first | exact nle_of_eq rfl | exact nle_nil | apply And.intro | apply nle_sl | apply nleLL_cons | apply nleL_cons | exact nleL_nil | exact nleLL_nil | apply nle_box | apply nle_agg)
  rintro i ⟨hi, ha⟩; simp -implicitDefEqProofs (disch := omega) only [go_sem, ↓reduceIte , List.length_map, Int.toNat_natCast, Int.ofNat_lt, Int.natCast_nonneg, List.getElem?_map, Option.map_some, hd.owny, hd.pr]; refine cond_split ?_ ?_ <;> intro hlt
  · have hlt : i < xs.length := (by simpa using hlt); have hx := List.getElem?_eq_getElem hlt; simp -implicitDefEqProofs (disch := omega) only [go_sem, ↓reduceIte , List.length_map, Int.toNat_natCast, Int.ofNat_lt, Int.natCast_nonneg, List.getElem?_map, Option.map_some, hlt, hx, hd.owny, hd.pr]; have hcx := hc _ (List.getElem_mem hlt); refine callv_le (f := f) (first := []) (caps := caps) ?_ hcx ?_ (.inl rfl) ?_
    · simp -implicitDefEqProofs (disch := omega) only [go_sem, ↓reduceIte , hd.owny]
    · refine leL_of_eq ?_; simp only [List.nil_append, List.cons_append, List.map_cons, List.map_nil, hd.d8, List.map_append]; simp only [deep, raw, List.getElem?_cons_succ, List.getElem?_cons_zero, List.map_cons, List.map_nil, TD.rows, immLL_rI, immLL_rB8, immLL_rS, immLL_rBo]
    simp -implicitDefEqProofs (disch := omega) only [go_sem, ↓reduceIte , hd.owny, hd.pr]; refine cond_split ?_ ?_ <;> intro hp
    · simp -implicitDefEqProofs (disch := omega) only [go_sem, ↓reduceIte , hd.owny, hd.pr]; rw [vIdx_hit p xs i hlt ha hp]
    · simp -implicitDefEqProofs (disch := omega) only [go_sem, ↓reduceIte , wrN, hd.owny, hd.pr]; refine ⟨i + 1, by omega, ⟨hlt, fun j hj h => ?_⟩, by (try simp -implicitDefEqProofs only [nleL_cc, nleL_nn, nle_self, nle_boxs, nle_aggs, nle_nils, and_self, and_true, true_and]) <;> repeat' (first | exact nle_of_eq rfl | exact nle_nil | apply And.intro | apply nle_sl | apply nleLL_cons | apply nleL_cons | exact nleL_nil | exact nleLL_nil | apply nle_box | apply nle_agg)⟩; rcases Nat.lt_or_ge j i with h' | h'
      · exact ha j hj h'
      · have : j = i := (by omega); subst this; exact hp
  · have hlt : ¬ i < xs.length := (by simpa using hlt); simp -implicitDefEqProofs (disch := omega) only [go_sem, ↓reduceIte]; rw [vIdx_miss p xs (fun j hj => ha j hj (by omega))]
def code_slices_ContainsFunc_int64_int64 : VCode := (.seq (.ops [
  ⟨(some 4), none, (.asg (.const (.bool false)))⟩]) (.seq (.ops [
  ⟨(some 5), none, (.mv (.tmp 0))⟩,
  ⟨(some 6), none, (.mv (.tmp 1))⟩,
  ⟨(some 7), none, (.callX 102 [(.tmp 5), (.tmp 6)])⟩,
  ⟨(some 8), none, (.bin .geq (.tmp 7) (.const (.int .i64 0)))⟩,
  ⟨(some 4), none, (.asg (.tmp 8))⟩]) .ret))
theorem law_slices_ContainsFunc_int64_int64 {a0 a1 d : D} (h : code_slices_ContainsFunc_int64_int64.wp (CT Tryd.prog TabG) (endQ [(.t 4)] d) [a0, a1, .undef, .undef, .undef, .undef, .undef, .undef, .undef]) : Contract Tryd.prog TabG 98 [a0, a1] d :=
  contract_of (pt := 0) tabG Tryd.func98 (fun us W => by kernel_rfl) (c := Tryd.f98.body.getD .skip) (ms := []) (ms' := []) (by kernel_rfl) (by kernel_rfl) (by kernel_rfl) h
theorem v_ContainsFunc_Int64 (f : FuncId) (caps : List D) (hd : CapsOK caps) (xs : List Int) (p : Int → Bool) (hc : ∀ x, x ∈ xs → Contract Tryd.prog TabG f (.v (.int .i64 x) :: caps) (.v (.bool (p x)))) (hn : xs.length ≤ 1099511627776) :
    Contract Tryd.prog TabG 98 [.sl false 1 (xs.map (rI)), .fn f [] caps] (.v (.bool (xs.any p))) := by
  refine law_slices_ContainsFunc_int64_int64 ?_; unfold code_slices_ContainsFunc_int64_int64; simp -implicitDefEqProofs (disch := omega) only [go_sem, ↓reduceIte , hd.owny, hd.pr]; refine call_le (v_IndexFunc_Int64 f caps hd xs p hc hn) ?_ (.inl rfl) ?_
  · refine leL_of_eq ?_; simp only [List.map_cons, List.map_nil, deep, raw, List.getElem?_cons_succ, List.getElem?_cons_zero, TD.rows, immLL_rI, immLL_rB8, immLL_rS, immLL_rBo, hd.owny, hd.pr, hd.d7]
    try rfl
  simp -implicitDefEqProofs (disch := omega) only [go_sem, ↓reduceIte]; exact congrArg Value.bool (vIdx_any p xs)
def code_impl_below_1 : VCode := (.seq (.ops [
  ⟨(some 3), none, (.asg (.const (.bool false)))⟩]) (.seq (.ops [
  ⟨(some 4), none, (.mv (.tmp 0))⟩,
  ⟨(some 5), none, (.load 1 false (.tmp 1))⟩,
  ⟨(some 6), none, (.bin .sub (.tmp 5) (.const (.int .i64 1)))⟩,
  ⟨(some 7), none, (.callX 33 [(.tmp 4), (.const (.int .i64 0)), (.tmp 6)])⟩,
  ⟨(some 8), none, (.un .not (.tmp 7))⟩,
  ⟨(some 3), none, (.asg (.tmp 8))⟩]) .ret))
theorem law_impl_below_1 {a0 a1 d : D} (h : code_impl_below_1.wp (CT Tryd.prog TabG) (endQ [(.t 3)] d) [a0, a1, .undef, .undef, .undef, .undef, .undef, .undef, .undef]) : Contract Tryd.prog TabG 99 [a0, a1] d :=
  contract_of (pt := 0) tabG Tryd.func99 (fun us W => by kernel_rfl) (c := Tryd.f99.body.getD .skip) (ms := []) (ms' := []) (by kernel_rfl) (by kernel_rfl) (by kernel_rfl) h
def code_impl_below : VCode := (.seq (.ops [
  ⟨(some 3), none, (.box (.tmp 1))⟩,
  ⟨(some 4), none, (.asg (.const (.bool false)))⟩]) (.seq (.ops [
  ⟨(some 5), none, (.mv (.tmp 0))⟩,
  ⟨(some 6), none, (.mkf 99 [] [(.tmp 3)])⟩,
  ⟨(some 7), none, (.callX 98 [(.tmp 5), (.tmp 6)])⟩,
  ⟨(some 8), none, (.un .not (.tmp 7))⟩,
  ⟨(some 4), none, (.asg (.tmp 8))⟩]) .ret))
theorem law_impl_below {a0 a1 d : D} (h : code_impl_below.wp (CT Tryd.prog TabG) (endQ [(.t 4)] d) [a0, a1, .undef, .undef, .undef, .undef, .undef, .undef, .undef]) : Contract Tryd.prog TabG 86 [a0, a1] d :=
  contract_of (pt := 0) tabG Tryd.func86 (fun us W => by kernel_rfl) (c := Tryd.f86.body.getD .skip) (ms := []) (ms' := []) (by kernel_rfl) (by kernel_rfl) (by kernel_rfl) h
theorem v_below1 (n l : Int) (hl : 0 ≤ l) (hl2 : l ≤ 1099511627776) : Contract Tryd.prog TabG 99 [.v (.int .i64 n), .iptr [.v (.int .i64 l)] 0] (.v (.bool (!inR 0 (l - 1) n))) := by refine law_impl_below_1 ?_; unfold code_impl_below_1; have hw : IntKind.i64.wrap (l - 1) = l - 1 := wrI (by omega) (by omega); simp -implicitDefEqProofs (disch := omega) only [go_sem, ↓reduceIte , hw]; refine call_leA (v_within n 0 (l - 1)) (by simp -implicitDefEqProofs (disch := omega) only [go_sem, ↓reduceIte, deep, TD.rows, immLL_rI, immLL_rB8, immLL_rS, immLL_rBo, immLL_rII, immLL_rIIt]; exact rfl) (by repeat (first | exact leL_nil | refine leL_cons ?_ ?_ | exact le_of_eq rfl | exact le_iptrN (leL_of_eq rfl) | refine le_agg ?_ | exact le_slf rfl (TD.rows ..) | refine le_iptr ?_ | refine le_fn ?_ ?_ | exact le_nilsl_)) (by first | exact .inl rfl | exact .inr rfl | exact .inl (by simp only [D.noImm, noImmL, go_sem, TD.nims, TD.nim, nim_rI, nim_rB8, nim_rBo, nim_rS])) ?_; simp -implicitDefEqProofs (disch := omega) only [go_sem, ↓reduceIte]
theorem v_below (xs : List Int) (l : Int) (hl : 0 ≤ l) (hl2 : l ≤ 1099511627776) (hn : xs.length ≤ 1048576) : Contract Tryd.prog TabG 86 [.sl false 1 (xs.map rI), .v (.int .i64 l)] (.v (.bool (xs.all (inR 0 (l - 1))))) := by refine law_impl_below ?_; unfold code_impl_below; simp -implicitDefEqProofs (disch := omega) only [go_sem, ↓reduceIte]; refine call_leA (v_ContainsFunc_Int64 _ [.iptr [.v (.int .i64 l)] 0] ⟨rfl, fun _ => rfl, fun _ => rfl, fun _ => rfl⟩ xs (fun n => !inR 0 (l - 1) n) (fun x _ => v_below1 x l hl hl2) (by omega)) (by simp -implicitDefEqProofs (disch := omega) only [go_sem, ↓reduceIte, deep, TD.rows, immLL_rI, immLL_rB8, immLL_rS, immLL_rBo, immLL_rII, immLL_rIIt, any_not, Bool.not_not]; exact rfl) (by repeat (first | exact leL_nil | refine leL_cons ?_ ?_ | exact le_of_eq rfl | exact le_iptrN (leL_of_eq rfl) | refine le_agg ?_ | exact le_slf rfl (TD.rows ..) | refine le_iptr ?_ | refine le_fn ?_ ?_ | exact le_nilsl_)) (by first | exact .inl rfl | exact .inr rfl | exact .inl (by simp only [D.noImm, noImmL, go_sem, TD.nims, TD.nim, nim_rI, nim_rB8, nim_rBo, nim_rS])) ?_; simp -implicitDefEqProofs (disch := omega) only [go_sem, ↓reduceIte , any_not, Bool.not_not]
def okRule (r : Rule) : Bool := inR 1 5 r.States && (decide ((r.Table.length : Int) = r.States * r.States) && r.Table.all (inR 0 (r.States - 1)))
def okSide (r : Rule) (l : List Int) : Bool := inR 1 15 (l.length : Int) && l.all (inR 0 (r.States - 1))
def ruleC (r : Rule) (w s : List Int) : Int := if okRule r then (if okSide r w && okSide r s then 0 else 2) else 1
theorem all_get {α : Type} {xs : List α} {p : α → Bool} (h : ∀ j (hj : j < xs.length), p xs[j] = true) : xs.all p = true := by rw [List.all_eq_true]; intro x hx; obtain ⟨j, hj, rfl⟩ := List.mem_iff_getElem.1 hx; exact h j hj
theorem all_not {α : Type} {xs : List α} {p : α → Bool} {j : Nat} (hj : j < xs.length) (h : p xs[j] = false) : xs.all p = false := by rw [List.all_eq_false]; exact ⟨xs[j], List.getElem_mem hj, by simp [h]⟩
theorem rule_st {r : Rule} (h : okRule r = true) : 1 ≤ r.States ∧ r.States ≤ 5 := by unfold okRule at h; rw [Bool.and_eq_true, inR_iff] at h; exact h.1
theorem sq_wrap {s : Int} (h : inR 1 5 s = true) : IntKind.i64.wrap (s * s) = s * s := by
  obtain ⟨h1, h2⟩ := inR_iff.1 h; obtain ⟨n, rfl⟩ : ∃ n : Nat, s = (n : Int) := ⟨s.toNat, by omega⟩
  have := Nat.mul_le_mul (show n ≤ 5 by omega) (show n ≤ 5 by omega); rw [← Int.natCast_mul]; exact wrI (by omega) (by omega)
def code_impl_ValidRule : VCode := (.seq (.ops [
  ⟨(some 1), none, (.box (.tmp 0))⟩,
  ⟨(some 2), none, (.asg (.const (.bool false)))⟩]) (.seq (.ops [
  ⟨(some 3), none, (.fa 0 (.tmp 1))⟩,
  ⟨(some 4), none, (.load 1 false (.tmp 3))⟩,
  ⟨(some 5), none, (.callX 33 [(.tmp 4), (.const (.int .i64 1)), (.const (.int .i64 5))])⟩,
  ⟨(some 6), none, (.mv (.tmp 5))⟩,
  ⟨(some 7), (some (6, true)), (.fa 1 (.tmp 1))⟩,
  ⟨(some 8), (some (6, true)), (.load 1 false (.tmp 7))⟩,
  ⟨(some 9), (some (6, true)), (.len (.tmp 8))⟩,
  ⟨(some 10), (some (6, true)), (.fa 0 (.tmp 1))⟩,
  ⟨(some 11), (some (6, true)), (.load 1 false (.tmp 10))⟩,
  ⟨(some 12), (some (6, true)), (.fa 0 (.tmp 1))⟩,
  ⟨(some 13), (some (6, true)), (.load 1 false (.tmp 12))⟩,
  ⟨(some 14), (some (6, true)), (.bin .mul (.tmp 11) (.tmp 13))⟩,
  ⟨(some 15), (some (6, true)), (.bin .eql (.tmp 9) (.tmp 14))⟩,
  ⟨(some 16), none, (.pick (.tmp 6) (.tmp 15) (.const (.bool false)))⟩,
  ⟨(some 17), none, (.mv (.tmp 16))⟩,
  ⟨(some 18), (some (17, true)), (.fa 1 (.tmp 1))⟩,
  ⟨(some 19), (some (17, true)), (.load 1 false (.tmp 18))⟩,
  ⟨(some 20), (some (17, true)), (.fa 0 (.tmp 1))⟩,
  ⟨(some 21), (some (17, true)), (.load 1 false (.tmp 20))⟩,
  ⟨(some 22), (some (17, true)), (.callX 86 [(.tmp 19), (.tmp 21)])⟩,
  ⟨(some 23), none, (.pick (.tmp 17) (.tmp 22) (.const (.bool false)))⟩,
  ⟨(some 2), none, (.asg (.tmp 23))⟩]) .ret))
theorem law_impl_ValidRule {a0 d : D} (h : code_impl_ValidRule.wp (CT Tryd.prog TabG) (endQ [(.t 2)] d) [a0, .undef, .undef, .undef, .undef, .undef, .undef, .undef, .undef, .undef, .undef, .undef, .undef, .undef, .undef, .undef, .undef, .undef, .undef, .undef, .undef, .undef, .undef, .undef]) : Contract Tryd.prog TabG 89 [a0] d :=
  contract_of (pt := 0) tabG Tryd.func89 (fun us W => by kernel_rfl) (c := Tryd.f89.body.getD .skip) (ms := []) (ms' := []) (by kernel_rfl) (by kernel_rfl) (by kernel_rfl) h
def code_impl_Rule_sideOk : VCode := (.seq (.ops [
  ⟨(some 2), none, (.box (.tmp 0))⟩,
  ⟨(some 4), none, (.asg (.const (.bool false)))⟩]) (.seq (.ops [
  ⟨(some 5), none, (.mv (.tmp 1))⟩,
  ⟨(some 6), none, (.len (.tmp 5))⟩,
  ⟨(some 7), none, (.callX 33 [(.tmp 6), (.const (.int .i64 1)), (.const (.int .i64 15))])⟩,
  ⟨(some 8), none, (.mv (.tmp 7))⟩,
  ⟨(some 9), (some (8, true)), (.mv (.tmp 1))⟩,
  ⟨(some 10), (some (8, true)), (.fa 0 (.tmp 2))⟩,
  ⟨(some 11), (some (8, true)), (.load 1 false (.tmp 10))⟩,
  ⟨(some 12), (some (8, true)), (.callX 86 [(.tmp 9), (.tmp 11)])⟩,
  ⟨(some 13), none, (.pick (.tmp 8) (.tmp 12) (.const (.bool false)))⟩,
  ⟨(some 4), none, (.asg (.tmp 13))⟩]) .ret))
theorem law_impl_Rule_sideOk {a0 a1 d : D} (h : code_impl_Rule_sideOk.wp (CT Tryd.prog TabG) (endQ [(.t 4)] d) [a0, a1, .undef, .undef, .undef, .undef, .undef, .undef, .undef, .undef, .undef, .undef, .undef, .undef]) : Contract Tryd.prog TabG 90 [a0, a1] d :=
  contract_of (pt := 0) tabG Tryd.func90 (fun us W => by kernel_rfl) (c := Tryd.f90.body.getD .skip) (ms := []) (ms' := []) (by kernel_rfl) (by kernel_rfl) (by kernel_rfl) h
def code_impl_sidesCode : VCode := (.seq (.ops [
  ⟨(some 3), none, (.box (.tmp 0))⟩,
  ⟨(some 6), none, (.asg (.const (.int .i64 0)))⟩]) (.seq (.block 0 (.seq (.ops [
  ⟨(some 8), none, (.load 2 true (.tmp 3))⟩,
  ⟨(some 9), none, (.callX 89 [(.tmp 8)])⟩,
  ⟨(some 10), none, (.un .not (.tmp 9))⟩,
  ⟨(some 7), none, (.asg (.tmp 10))⟩]) (.cond (.tmp 7) (.seq (.ops [
  ⟨(some 6), none, (.asg (.const (.int .i64 1)))⟩]) .ret) (.seq (.ops [
  ⟨(some 12), none, (.load 2 true (.tmp 3))⟩,
  ⟨(some 13), none, (.mv (.tmp 1))⟩,
  ⟨(some 14), none, (.callX 90 [(.tmp 12), (.tmp 13)])⟩,
  ⟨(some 15), none, (.un .not (.tmp 14))⟩,
  ⟨(some 16), none, (.mv (.tmp 15))⟩,
  ⟨(some 17), (some (16, false)), (.load 2 true (.tmp 3))⟩,
  ⟨(some 18), (some (16, false)), (.mv (.tmp 2))⟩,
  ⟨(some 19), (some (16, false)), (.callX 90 [(.tmp 17), (.tmp 18)])⟩,
  ⟨(some 20), (some (16, false)), (.un .not (.tmp 19))⟩,
  ⟨(some 21), none, (.pick (.tmp 16) (.const (.bool true)) (.tmp 20))⟩,
  ⟨(some 11), none, (.asg (.tmp 21))⟩]) (.cond (.tmp 11) (.seq (.ops [
  ⟨(some 6), none, (.asg (.const (.int .i64 2)))⟩]) .ret) .skip))))) (.seq (.ops [
  ⟨(some 6), none, (.asg (.const (.int .i64 0)))⟩]) .ret)))
theorem law_impl_sidesCode {a0 a1 a2 d : D} (h : code_impl_sidesCode.wp (CT Tryd.prog TabG) (endQ [(.t 6)] d) [a0, a1, a2, .undef, .undef, .undef, .undef, .undef, .undef, .undef, .undef, .undef, .undef, .undef, .undef, .undef, .undef, .undef, .undef, .undef, .undef, .undef]) : Contract Tryd.prog TabG 63 [a0, a1, a2] d :=
  contract_of (pt := 0) tabG Tryd.func63 (fun us W => by kernel_rfl) (c := Tryd.f63.body.getD .skip) (ms := []) (ms' := []) (by kernel_rfl) (by kernel_rfl) (by kernel_rfl) h
def code_impl_Rule_next : VCode := (.seq (.ops [
  ⟨(some 3), none, (.box (.tmp 0))⟩,
  ⟨(some 6), none, (.asg (.const (.int .i64 0)))⟩]) (.seq (.ops [
  ⟨(some 7), none, (.fa 1 (.tmp 3))⟩,
  ⟨(some 8), none, (.load 1 false (.tmp 7))⟩,
  ⟨(some 9), none, (.mv (.tmp 1))⟩,
  ⟨(some 10), none, (.fa 0 (.tmp 3))⟩,
  ⟨(some 11), none, (.load 1 false (.tmp 10))⟩,
  ⟨(some 12), none, (.bin .mul (.tmp 9) (.tmp 11))⟩,
  ⟨(some 13), none, (.mv (.tmp 2))⟩,
  ⟨(some 14), none, (.bin .add (.tmp 12) (.tmp 13))⟩,
  ⟨(some 15), none, (.ia 1 (.tmp 8) (.tmp 14))⟩,
  ⟨(some 16), none, (.load 1 false (.tmp 15))⟩,
  ⟨(some 6), none, (.asg (.tmp 16))⟩]) .ret))
theorem law_impl_Rule_next {a0 a1 a2 d : D} (h : code_impl_Rule_next.wp (CT Tryd.prog TabG) (endQ [(.t 6)] d) [a0, a1, a2, .undef, .undef, .undef, .undef, .undef, .undef, .undef, .undef, .undef, .undef, .undef, .undef, .undef, .undef]) : Contract Tryd.prog TabG 67 [a0, a1, a2] d :=
  contract_of (pt := 0) tabG Tryd.func67 (fun us W => by kernel_rfl) (c := Tryd.f67.body.getD .skip) (ms := []) (ms' := []) (by kernel_rfl) (by kernel_rfl) (by kernel_rfl) h
theorem v_ValidRule (r : Rule) (hn : r.Table.length ≤ 1048576) : Contract Tryd.prog TabG 89 [.agg (Rule.td.d false r)] (.v (.bool (okRule r))) := by
  rw [Rule.td_d]; refine law_impl_ValidRule ?_; unfold code_impl_ValidRule okRule; simp -implicitDefEqProofs (disch := omega) only [go_sem, ↓reduceIte]; cases h1 : inR 1 5 r.States with
  | false => refine call_leA (v_within _ _ _) (by simp -implicitDefEqProofs (disch := omega) only [go_sem, ↓reduceIte, deep, TD.rows, immLL_rI, immLL_rB8, immLL_rS, immLL_rBo, immLL_rII, immLL_rIIt, h1]; exact rfl) (by repeat (first | exact leL_nil | refine leL_cons ?_ ?_ | exact le_of_eq rfl | exact le_iptrN (leL_of_eq rfl) | refine le_agg ?_ | exact le_slf rfl (TD.rows ..) | refine le_iptr ?_ | refine le_fn ?_ ?_ | exact le_nilsl_)) (by first | exact .inl rfl | exact .inr rfl | exact .inl (by simp only [D.noImm, noImmL, go_sem, TD.nims, TD.nim, nim_rI, nim_rB8, nim_rBo, nim_rS])) ?_; simp -implicitDefEqProofs (disch := omega) only [go_sem, ↓reduceIte , h1]
  | true =>
  have hw := sq_wrap h1; obtain ⟨a1, a2⟩ := inR_iff.1 h1; cases h2 : decide ((r.Table.length : Int) = r.States * r.States) with
  | false => refine call_leA (v_within _ _ _) (by simp -implicitDefEqProofs (disch := omega) only [go_sem, ↓reduceIte, deep, TD.rows, immLL_rI, immLL_rB8, immLL_rS, immLL_rBo, immLL_rII, immLL_rIIt, h1, hw, List.length_map, h2]; exact rfl) (by repeat (first | exact leL_nil | refine leL_cons ?_ ?_ | exact le_of_eq rfl | exact le_iptrN (leL_of_eq rfl) | refine le_agg ?_ | exact le_slf rfl (TD.rows ..) | refine le_iptr ?_ | refine le_fn ?_ ?_ | exact le_nilsl_)) (by first | exact .inl rfl | exact .inr rfl | exact .inl (by simp only [D.noImm, noImmL, go_sem, TD.nims, TD.nim, nim_rI, nim_rB8, nim_rBo, nim_rS])) ?_; simp -implicitDefEqProofs (disch := omega) only [go_sem, ↓reduceIte , h1, hw, List.length_map, h2]
  | true =>
  refine call_leA (v_within _ _ _) (by simp -implicitDefEqProofs (disch := omega) only [go_sem, ↓reduceIte, deep, TD.rows, immLL_rI, immLL_rB8, immLL_rS, immLL_rBo, immLL_rII, immLL_rIIt, h1, hw, List.length_map, h2]; exact rfl) (by repeat (first | exact leL_nil | refine leL_cons ?_ ?_ | exact le_of_eq rfl | exact le_iptrN (leL_of_eq rfl) | refine le_agg ?_ | exact le_slf rfl (TD.rows ..) | refine le_iptr ?_ | refine le_fn ?_ ?_ | exact le_nilsl_)) (by first | exact .inl rfl | exact .inr rfl | exact .inl (by simp only [D.noImm, noImmL, go_sem, TD.nims, TD.nim, nim_rI, nim_rB8, nim_rBo, nim_rS])) ?_; simp -implicitDefEqProofs (disch := omega) only [go_sem, ↓reduceIte , h1, hw, List.length_map, h2]; refine call_leA (v_below r.Table r.States (by omega) (by omega) hn) (by simp -implicitDefEqProofs (disch := omega) only [go_sem, ↓reduceIte, deep, TD.rows, immLL_rI, immLL_rB8, immLL_rS, immLL_rBo, immLL_rII, immLL_rIIt, h2]; exact rfl) (by repeat (first | exact leL_nil | refine leL_cons ?_ ?_ | exact le_of_eq rfl | exact le_iptrN (leL_of_eq rfl) | refine le_agg ?_ | exact le_slf rfl (TD.rows ..) | refine le_iptr ?_ | refine le_fn ?_ ?_ | exact le_nilsl_)) (by first | exact .inl rfl | exact .inr rfl | exact .inl (by simp only [D.noImm, noImmL, go_sem, TD.nims, TD.nim, nim_rI, nim_rB8, nim_rBo, nim_rS])) ?_; simp -implicitDefEqProofs (disch := omega) only [go_sem, ↓reduceIte , h2]
theorem v_sideOk (r : Rule) (l : List Int) (hr : okRule r = true) (hn : l.length ≤ 1048576) : Contract Tryd.prog TabG 90 [.agg (Rule.td.d false r), .sl false 1 (l.map rI)] (.v (.bool (okSide r l))) := by
  rw [Rule.td_d]; have hs := rule_st hr; refine law_impl_Rule_sideOk ?_; unfold code_impl_Rule_sideOk okSide; simp -implicitDefEqProofs (disch := omega) only [go_sem, ↓reduceIte , List.length_map]; cases h1 : inR 1 15 (l.length : Int) with
  | false => refine call_leA (v_within _ _ _) (by simp -implicitDefEqProofs (disch := omega) only [go_sem, ↓reduceIte, deep, TD.rows, immLL_rI, immLL_rB8, immLL_rS, immLL_rBo, immLL_rII, immLL_rIIt, h1]; exact rfl) (by repeat (first | exact leL_nil | refine leL_cons ?_ ?_ | exact le_of_eq rfl | exact le_iptrN (leL_of_eq rfl) | refine le_agg ?_ | exact le_slf rfl (TD.rows ..) | refine le_iptr ?_ | refine le_fn ?_ ?_ | exact le_nilsl_)) (by first | exact .inl rfl | exact .inr rfl | exact .inl (by simp only [D.noImm, noImmL, go_sem, TD.nims, TD.nim, nim_rI, nim_rB8, nim_rBo, nim_rS])) ?_; simp -implicitDefEqProofs (disch := omega) only [go_sem, ↓reduceIte , h1]
  | true =>
  refine call_leA (v_within _ _ _) (by simp -implicitDefEqProofs (disch := omega) only [go_sem, ↓reduceIte, deep, TD.rows, immLL_rI, immLL_rB8, immLL_rS, immLL_rBo, immLL_rII, immLL_rIIt, h1]; exact rfl) (by repeat (first | exact leL_nil | refine leL_cons ?_ ?_ | exact le_of_eq rfl | exact le_iptrN (leL_of_eq rfl) | refine le_agg ?_ | exact le_slf rfl (TD.rows ..) | refine le_iptr ?_ | refine le_fn ?_ ?_ | exact le_nilsl_)) (by first | exact .inl rfl | exact .inr rfl | exact .inl (by simp only [D.noImm, noImmL, go_sem, TD.nims, TD.nim, nim_rI, nim_rB8, nim_rBo, nim_rS])) ?_; simp -implicitDefEqProofs (disch := omega) only [go_sem, ↓reduceIte , h1]; refine call_leA (v_below l r.States (by omega) (by omega) hn) (by simp -implicitDefEqProofs (disch := omega) only [go_sem, ↓reduceIte, deep, TD.rows, immLL_rI, immLL_rB8, immLL_rS, immLL_rBo, immLL_rII, immLL_rIIt]; exact rfl) (by repeat (first | exact leL_nil | refine leL_cons ?_ ?_ | exact le_of_eq rfl | exact le_iptrN (leL_of_eq rfl) | refine le_agg ?_ | exact le_slf rfl (TD.rows ..) | refine le_iptr ?_ | refine le_fn ?_ ?_ | exact le_nilsl_)) (by first | exact .inl rfl | exact .inr rfl | exact .inl (by simp only [D.noImm, noImmL, go_sem, TD.nims, TD.nim, nim_rI, nim_rB8, nim_rBo, nim_rS])) ?_; simp -implicitDefEqProofs (disch := omega) only [go_sem, ↓reduceIte]
theorem v_sidesCode (r : Rule) (w s : List Int) (hn : r.Table.length ≤ 1048576) (hw : w.length ≤ 1048576) (hs : s.length ≤ 1048576) : Contract Tryd.prog TabG 63 [.agg (Rule.td.d false r), .sl false 1 (w.map rI), .sl false 1 (s.map rI)] (.v (.int .i64 (ruleC r w s))) := by
  refine law_impl_sidesCode ?_; unfold code_impl_sidesCode ruleC; rw [Rule.td_d]; simp -implicitDefEqProofs (disch := omega) only [go_sem, ↓reduceIte]; cases h1 : okRule r with
  | false => refine call_leA (v_ValidRule r hn) (by simp -implicitDefEqProofs (disch := omega) only [go_sem, ↓reduceIte, deep, TD.rows, immLL_rI, immLL_rB8, immLL_rS, immLL_rBo, immLL_rII, immLL_rIIt, h1, Rule.td_d]; exact rfl) (by repeat (first | exact leL_nil | refine leL_cons ?_ ?_ | exact le_of_eq rfl | exact le_iptrN (leL_of_eq rfl) | refine le_agg ?_ | exact le_slf rfl (TD.rows ..) | refine le_iptr ?_ | refine le_fn ?_ ?_ | exact le_nilsl_)) (by first | exact .inl rfl | exact .inr rfl | exact .inl (by simp only [D.noImm, noImmL, go_sem, TD.nims, TD.nim, nim_rI, nim_rB8, nim_rBo, nim_rS])) ?_; simp -implicitDefEqProofs (disch := omega) only [go_sem, ↓reduceIte , h1, Rule.td_d]
  | true =>
  refine call_leA (v_ValidRule r hn) (by simp -implicitDefEqProofs (disch := omega) only [go_sem, ↓reduceIte, deep, TD.rows, immLL_rI, immLL_rB8, immLL_rS, immLL_rBo, immLL_rII, immLL_rIIt, h1, Rule.td_d]; exact rfl) (by repeat (first | exact leL_nil | refine leL_cons ?_ ?_ | exact le_of_eq rfl | exact le_iptrN (leL_of_eq rfl) | refine le_agg ?_ | exact le_slf rfl (TD.rows ..) | refine le_iptr ?_ | refine le_fn ?_ ?_ | exact le_nilsl_)) (by first | exact .inl rfl | exact .inr rfl | exact .inl (by simp only [D.noImm, noImmL, go_sem, TD.nims, TD.nim, nim_rI, nim_rB8, nim_rBo, nim_rS])) ?_; simp -implicitDefEqProofs (disch := omega) only [go_sem, ↓reduceIte , h1, Rule.td_d]; cases h2 : okSide r w with
  | false => refine call_leA (v_sideOk r w h1 hw) (by simp -implicitDefEqProofs (disch := omega) only [go_sem, ↓reduceIte, deep, TD.rows, immLL_rI, immLL_rB8, immLL_rS, immLL_rBo, immLL_rII, immLL_rIIt, h2, Rule.td_d]; exact rfl) (by repeat (first | exact leL_nil | refine leL_cons ?_ ?_ | exact le_of_eq rfl | exact le_iptrN (leL_of_eq rfl) | refine le_agg ?_ | exact le_slf rfl (TD.rows ..) | refine le_iptr ?_ | refine le_fn ?_ ?_ | exact le_nilsl_)) (by first | exact .inl rfl | exact .inr rfl | exact .inl (by simp only [D.noImm, noImmL, go_sem, TD.nims, TD.nim, nim_rI, nim_rB8, nim_rBo, nim_rS])) ?_; simp -implicitDefEqProofs (disch := omega) only [go_sem, ↓reduceIte , h2, Rule.td_d]
  | true =>
  refine call_leA (v_sideOk r w h1 hw) (by simp -implicitDefEqProofs (disch := omega) only [go_sem, ↓reduceIte, deep, TD.rows, immLL_rI, immLL_rB8, immLL_rS, immLL_rBo, immLL_rII, immLL_rIIt, h2, Rule.td_d]; exact rfl) (by repeat (first | exact leL_nil | refine leL_cons ?_ ?_ | exact le_of_eq rfl | exact le_iptrN (leL_of_eq rfl) | refine le_agg ?_ | exact le_slf rfl (TD.rows ..) | refine le_iptr ?_ | refine le_fn ?_ ?_ | exact le_nilsl_)) (by first | exact .inl rfl | exact .inr rfl | exact .inl (by simp only [D.noImm, noImmL, go_sem, TD.nims, TD.nim, nim_rI, nim_rB8, nim_rBo, nim_rS])) ?_; simp -implicitDefEqProofs (disch := omega) only [go_sem, ↓reduceIte , h2, Rule.td_d]; cases h3 : okSide r s with
  | false => refine call_leA (v_sideOk r s h1 hs) (by simp -implicitDefEqProofs (disch := omega) only [go_sem, ↓reduceIte, deep, TD.rows, immLL_rI, immLL_rB8, immLL_rS, immLL_rBo, immLL_rII, immLL_rIIt, h3, Rule.td_d]; exact rfl) (by repeat (first | exact leL_nil | refine leL_cons ?_ ?_ | exact le_of_eq rfl | exact le_iptrN (leL_of_eq rfl) | refine le_agg ?_ | exact le_slf rfl (TD.rows ..) | refine le_iptr ?_ | refine le_fn ?_ ?_ | exact le_nilsl_)) (by first | exact .inl rfl | exact .inr rfl | exact .inl (by simp only [D.noImm, noImmL, go_sem, TD.nims, TD.nim, nim_rI, nim_rB8, nim_rBo, nim_rS])) ?_; simp -implicitDefEqProofs (disch := omega) only [go_sem, ↓reduceIte , h3, Rule.td_d]
  | true =>
  refine call_leA (v_sideOk r s h1 hs) (by simp -implicitDefEqProofs (disch := omega) only [go_sem, ↓reduceIte, deep, TD.rows, immLL_rI, immLL_rB8, immLL_rS, immLL_rBo, immLL_rII, immLL_rIIt, h3, Rule.td_d]; exact rfl) (by repeat (first | exact leL_nil | refine leL_cons ?_ ?_ | exact le_of_eq rfl | exact le_iptrN (leL_of_eq rfl) | refine le_agg ?_ | exact le_slf rfl (TD.rows ..) | refine le_iptr ?_ | refine le_fn ?_ ?_ | exact le_nilsl_)) (by first | exact .inl rfl | exact .inr rfl | exact .inl (by simp only [D.noImm, noImmL, go_sem, TD.nims, TD.nim, nim_rI, nim_rB8, nim_rBo, nim_rS])) ?_; simp -implicitDefEqProofs (disch := omega) only [go_sem, ↓reduceIte , h3, Rule.td_d]
theorem v_ruleNext (r : Rule) (a b n : Nat) (hr : okRule r = true) (he : r.States = (n : Int)) (ha : a < n) (hb : b < n) : Contract Tryd.prog TabG 67 [.agg (Rule.td.d false r), .v (.int .i64 (a : Int)), .v (.int .i64 (b : Int))] (.v (.int .i64 (r.Table.getD (a * n + b) 0))) := by
  rw [Rule.td_d]; have hs := rule_st hr; refine law_impl_Rule_next ?_; unfold code_impl_Rule_next; rw [he]; have h1 := Nat.mul_le_mul (show a ≤ 4 by omega) (show n ≤ 5 by omega); have w1 : IntKind.i64.wrap ((a : Int) * (n : Int)) = ((a * n : Nat) : Int) := by rw [← Int.natCast_mul]; exact wrI (by omega) (by omega)
  have w2 : IntKind.i64.wrap (((a * n : Nat) : Int) + (b : Int)) = ((a * n + b : Nat) : Int) := (by rw [← Int.natCast_add]; exact wrI (by omega) (by omega)); have hl : r.Table.length = n * n := (by unfold okRule at hr; simp only [Bool.and_eq_true, decide_eq_true_eq] at hr; have := hr.2.1; rw [he, ← Int.natCast_mul] at this; omega); have hlt : a * n + b < r.Table.length := (by rw [hl]; have := Nat.mul_le_mul_right n (show a + 1 ≤ n by omega); rw [Nat.add_mul] at this; omega); have e1 := List.getElem?_eq_getElem hlt; have e2 : r.Table.getD (a * n + b) 0 = r.Table[a * n + b] := (by rw [List.getD_eq_getElem?_getD, e1]; rfl); rw [e2]; simp -implicitDefEqProofs (disch := omega) only [go_sem, ↓reduceIte , w1, w2, List.length_map, Int.toNat_natCast, Int.ofNat_lt, Int.natCast_nonneg, List.getElem?_map, Option.map_some, hlt, e1, rI]
def code_spec_l16Rule : VCode := (.seq (.ops [
  ⟨(some 2), none, (.asg (.const (.bool false)))⟩]) (.seq (.seq (.draw (mB 25 33554416) [] [⟨0, (mB 25 33554416), [], ⟨(some 4), none, (.mv (.tmp 0))⟩⟩, ⟨1, (mB 25 33554400), [], ⟨(some 5), none, (.nilc (.tmp 4))⟩⟩, ⟨2, (mB 25 33554368), [], ⟨(some 6), none, (.fa 0 (.tmp 5))⟩⟩, ⟨3, (mB 25 33554304), [], ⟨(some 7), none, (.load 1 false (.tmp 6))⟩⟩, ⟨4, (mB 25 33554176), [], ⟨(some 8), none, (.call 28 [(.tmp 7), (.const (.int .i64 1)), (.const (.int .i64 5))])⟩⟩, ⟨5, (mB 25 33553920), [], ⟨(some 9), none, (.un .not (.tmp 8))⟩⟩, ⟨6, (mB 25 33553408), [], ⟨(some 10), none, (.mv (.tmp 9))⟩⟩, ⟨7, (mB 25 33552384), [], ⟨(some 11), (some (10, false)), (.mv (.tmp 0))⟩⟩, ⟨8, (mB 25 33550336), [], ⟨(some 12), (some (10, false)), (.nilc (.tmp 11))⟩⟩, ⟨9, (mB 25 33546240), [], ⟨(some 13), (some (10, false)), (.fa 1 (.tmp 12))⟩⟩, ⟨10, (mB 25 33538048), [], ⟨(some 14), (some (10, false)), (.load 1 false (.tmp 13))⟩⟩, ⟨11, (mB 25 33521664), [], ⟨(some 15), (some (10, false)), (.len (.tmp 14))⟩⟩, ⟨12, (mB 25 33552384), [], ⟨(some 16), (some (10, false)), (.mv (.tmp 0))⟩⟩, ⟨13, (mB 25 33486848), [], ⟨(some 17), (some (10, false)), (.nilc (.tmp 16))⟩⟩, ⟨14, (mB 25 33355776), [], ⟨(some 18), (some (10, false)), (.fa 0 (.tmp 17))⟩⟩, ⟨15, (mB 25 33093632), [], ⟨(some 19), (some (10, false)), (.load 1 false (.tmp 18))⟩⟩, ⟨16, (mB 25 33552384), [], ⟨(some 20), (some (10, false)), (.mv (.tmp 0))⟩⟩, ⟨17, (mB 25 32503808), [], ⟨(some 21), (some (10, false)), (.nilc (.tmp 20))⟩⟩, ⟨18, (mB 25 30406656), [], ⟨(some 22), (some (10, false)), (.fa 0 (.tmp 21))⟩⟩, ⟨19, (mB 25 26212352), [], ⟨(some 23), (some (10, false)), (.load 1 false (.tmp 22))⟩⟩, ⟨20, (mB 25 16840704), [], ⟨(some 24), (some (10, false)), (.bin .mul (.tmp 19) (.tmp 23))⟩⟩] [⟨(some 25), (some (10, false)), (.bin .neq (.tmp 15) (.tmp 24))⟩, ⟨(some 26), none, (.pick (.tmp 10) (.const (.bool true)) (.tmp 25))⟩]) (.cond (.tmp 26) (.seq (.ops [
  ⟨(some 2), none, (.asg (.const (.bool false)))⟩]) .ret) .skip)) (.seq (.seq (.ops [
  ⟨(some 3), none, (.asg (.const (.int .i64 0)))⟩]) (.block 0 (.loop (mB 50 1125899906842614) (.seq (.seq (.ops [
  ⟨(some 27), none, (.mv (.tmp 3))⟩,
  ⟨(some 28), none, (.mv (.tmp 0))⟩,
  ⟨(some 29), none, (.nilc (.tmp 28))⟩,
  ⟨(some 30), none, (.fa 1 (.tmp 29))⟩,
  ⟨(some 31), none, (.load 1 false (.tmp 30))⟩,
  ⟨(some 32), none, (.len (.tmp 31))⟩,
  ⟨(some 33), none, (.bin .lss (.tmp 27) (.tmp 32))⟩]) (.cond (.tmp 33) .skip (.exit 0))) (.seq (.block 1 (.seq (.draw (mB 48 281406257233920) [] [⟨0, (mB 48 281406257233920), [], ⟨(some 36), none, (.mv (.tmp 0))⟩⟩, ⟨1, (mB 48 281337537757184), [], ⟨(some 37), none, (.nilc (.tmp 36))⟩⟩, ⟨2, (mB 48 281200098803712), [], ⟨(some 38), none, (.fa 1 (.tmp 37))⟩⟩, ⟨3, (mB 48 280925220896768), [], ⟨(some 39), none, (.load 1 false (.tmp 38))⟩⟩, ⟨4, (mB 48 281406257233920), [], ⟨(some 40), none, (.mv (.tmp 3))⟩⟩, ⟨5, (mB 48 279275953455104), [], ⟨(some 41), none, (.ia 1 (.tmp 39) (.tmp 40))⟩⟩, ⟨6, (mB 48 277076930199552), [], ⟨(some 42), none, (.load 1 false (.tmp 41))⟩⟩, ⟨7, (mB 48 281406257233920), [], ⟨(some 43), none, (.mv (.tmp 0))⟩⟩, ⟨8, (mB 48 272610164211712), [], ⟨(some 44), none, (.nilc (.tmp 43))⟩⟩, ⟨9, (mB 48 255017978167296), [], ⟨(some 45), none, (.fa 0 (.tmp 44))⟩⟩, ⟨10, (mB 48 219833606078464), [], ⟨(some 46), none, (.load 1 false (.tmp 45))⟩⟩, ⟨11, (mB 48 149464861900800), [], ⟨(some 47), none, (.bin .sub (.tmp 46) (.const (.int .i64 1)))⟩⟩] [⟨(some 48), none, (.callX 28 [(.tmp 42), (.const (.int .i64 0)), (.tmp 47)])⟩, ⟨(some 49), none, (.un .not (.tmp 48))⟩]) (.cond (.tmp 49) (.seq (.ops [
  ⟨(some 2), none, (.asg (.const (.bool false)))⟩]) .ret) .skip))) (.ops [
  ⟨(some 34), none, (.mv (.tmp 3))⟩,
  ⟨(some 35), none, (.bin .add (.tmp 34) (.const (.int .i64 1)))⟩,
  ⟨(some 3), none, (.asg (.tmp 35))⟩])))))) (.seq (.ops [
  ⟨(some 2), none, (.asg (.const (.bool true)))⟩]) .ret))))
theorem law_spec_l16Rule {a0 d : D} (h : code_spec_l16Rule.wp (CT Tryd.prog TabG) (endQ [(.t 2)] d) [a0, .undef, .undef, .undef, .undef, .undef, .undef, .undef, .undef, .undef, .undef, .undef, .undef, .undef, .undef, .undef, .undef, .undef, .undef, .undef, .undef, .undef, .undef, .undef, .undef, .undef, .undef, .undef, .undef, .undef, .undef, .undef, .undef, .undef, .undef, .undef, .undef, .undef, .undef, .undef, .undef, .undef, .undef, .undef, .undef, .undef, .undef, .undef, .undef, .undef]) : Contract Tryd.prog TabG 87 [a0] d :=
  contract_of (pt := 0) tabG Tryd.func87 (fun us W => by kernel_rfl) (c := Tryd.f87.body.getD .skip) (ms := [(mB 50 1125899906842614)]) (ms' := []) (by kernel_rfl) (by kernel_rfl) (by kernel_rfl) h
def code_spec_l16States : VCode := (.seq (.ops [
  ⟨(some 4), none, (.asg (.const (.bool false)))⟩]) (.seq (.seq (.ops [
  ⟨(some 6), none, (.mv (.tmp 1))⟩,
  ⟨(some 7), none, (.len (.tmp 6))⟩,
  ⟨(some 8), none, (.callX 28 [(.tmp 7), (.const (.int .i64 1)), (.const (.int .i64 15))])⟩,
  ⟨(some 9), none, (.un .not (.tmp 8))⟩]) (.cond (.tmp 9) (.seq (.ops [
  ⟨(some 4), none, (.asg (.const (.bool false)))⟩]) .ret) .skip)) (.seq (.seq (.ops [
  ⟨(some 5), none, (.asg (.const (.int .i64 0)))⟩]) (.block 0 (.loop (mB 27 134217692) (.seq (.seq (.ops [
  ⟨(some 10), none, (.mv (.tmp 5))⟩,
  ⟨(some 11), none, (.mv (.tmp 1))⟩,
  ⟨(some 12), none, (.len (.tmp 11))⟩,
  ⟨(some 13), none, (.bin .lss (.tmp 10) (.tmp 12))⟩]) (.cond (.tmp 13) .skip (.exit 0))) (.seq (.block 1 (.seq (.draw (mB 25 33488896) [] [⟨0, (mB 25 33488896), [], ⟨(some 16), none, (.mv (.tmp 1))⟩⟩, ⟨1, (mB 25 33488896), [], ⟨(some 17), none, (.mv (.tmp 5))⟩⟩, ⟨2, (mB 25 33292288), [], ⟨(some 18), none, (.ia 1 (.tmp 16) (.tmp 17))⟩⟩, ⟨3, (mB 25 33030144), [], ⟨(some 19), none, (.load 1 false (.tmp 18))⟩⟩, ⟨4, (mB 25 33488896), [], ⟨(some 20), none, (.mv (.tmp 0))⟩⟩, ⟨5, (mB 25 32440320), [], ⟨(some 21), none, (.nilc (.tmp 20))⟩⟩, ⟨6, (mB 25 30343168), [], ⟨(some 22), none, (.fa 0 (.tmp 21))⟩⟩, ⟨7, (mB 25 26148864), [], ⟨(some 23), none, (.load 1 false (.tmp 22))⟩⟩, ⟨8, (mB 25 17760256), [], ⟨(some 24), none, (.bin .sub (.tmp 23) (.const (.int .i64 1)))⟩⟩] [⟨(some 25), none, (.callX 28 [(.tmp 19), (.const (.int .i64 0)), (.tmp 24)])⟩, ⟨(some 26), none, (.un .not (.tmp 25))⟩]) (.cond (.tmp 26) (.seq (.ops [
  ⟨(some 4), none, (.asg (.const (.bool false)))⟩]) .ret) .skip))) (.ops [
  ⟨(some 14), none, (.mv (.tmp 5))⟩,
  ⟨(some 15), none, (.bin .add (.tmp 14) (.const (.int .i64 1)))⟩,
  ⟨(some 5), none, (.asg (.tmp 15))⟩])))))) (.seq (.ops [
  ⟨(some 4), none, (.asg (.const (.bool true)))⟩]) .ret))))
theorem law_spec_l16States {a0 a1 d : D} (h : code_spec_l16States.wp (CT Tryd.prog TabG) (endQ [(.t 4)] d) [a0, a1, .undef, .undef, .undef, .undef, .undef, .undef, .undef, .undef, .undef, .undef, .undef, .undef, .undef, .undef, .undef, .undef, .undef, .undef, .undef, .undef, .undef, .undef, .undef, .undef, .undef]) : Contract Tryd.prog TabG 88 [a0, a1] d :=
  contract_of (pt := 0) tabG Tryd.func88 (fun us W => by kernel_rfl) (c := Tryd.f88.body.getD .skip) (ms := [(mB 27 134217692)]) (ms' := []) (by kernel_rfl) (by kernel_rfl) (by kernel_rfl) h
def code_spec_l16Asked : VCode := (.seq (.ops [
  ⟨(some 6), none, (.asg (.const (.int .i64 0)))⟩]) (.seq (.seq (.ops [
  ⟨(some 7), none, (.mv (.tmp 0))⟩,
  ⟨(some 8), none, (.callX 87 [(.tmp 7)])⟩,
  ⟨(some 9), none, (.un .not (.tmp 8))⟩]) (.cond (.tmp 9) (.seq (.ops [
  ⟨(some 6), none, (.asg (.const (.int .i64 1)))⟩]) .ret) .skip)) (.seq (.seq (.ops [
  ⟨(some 10), none, (.mv (.tmp 0))⟩,
  ⟨(some 11), none, (.mv (.tmp 1))⟩,
  ⟨(some 12), none, (.callX 88 [(.tmp 10), (.tmp 11)])⟩,
  ⟨(some 13), none, (.un .not (.tmp 12))⟩,
  ⟨(some 14), none, (.mv (.tmp 13))⟩,
  ⟨(some 15), (some (14, false)), (.mv (.tmp 0))⟩,
  ⟨(some 16), (some (14, false)), (.mv (.tmp 2))⟩,
  ⟨(some 17), (some (14, false)), (.callX 88 [(.tmp 15), (.tmp 16)])⟩,
  ⟨(some 18), (some (14, false)), (.un .not (.tmp 17))⟩,
  ⟨(some 19), none, (.pick (.tmp 14) (.const (.bool true)) (.tmp 18))⟩]) (.cond (.tmp 19) (.seq (.ops [
  ⟨(some 6), none, (.asg (.const (.int .i64 2)))⟩]) .ret) .skip)) (.seq (.ops [
  ⟨(some 6), none, (.asg (.const (.int .i64 0)))⟩]) .ret))))
theorem law_spec_l16Asked {a0 a1 a2 d : D} (h : code_spec_l16Asked.wp (CT Tryd.prog TabG) (endQ [(.t 6)] d) [a0, a1, a2, .undef, .undef, .undef, .undef, .undef, .undef, .undef, .undef, .undef, .undef, .undef, .undef, .undef, .undef, .undef, .undef, .undef]) : Contract Tryd.prog TabG 61 [a0, a1, a2] d :=
  contract_of (pt := 0) tabG Tryd.func61 (fun us W => by kernel_rfl) (c := Tryd.f61.body.getD .skip) (ms := []) (ms' := []) (by kernel_rfl) (by kernel_rfl) (by kernel_rfl) h
theorem v_l16Rule (r : Rule) (hn : r.Table.length ≤ 1048576) : Contract Tryd.prog TabG 87 [.iptr (Rule.td.d false r) 0] (.v (.bool (okRule r))) := by
  rw [Rule.td_d]; refine law_spec_l16Rule ?_; unfold code_spec_l16Rule okRule; simp -implicitDefEqProofs (disch := omega) only [go_sem, ↓reduceIte]; cases h1 : inR 1 5 r.States with
  | false => refine call_leNA (v_l00In _ _ _) (by simp -implicitDefEqProofs (disch := omega) only [go_sem, ↓reduceIte, deep, TD.rows, immLL_rI, immLL_rB8, immLL_rS, immLL_rBo, immLL_rII, immLL_rIIt, h1]; exact rfl) (by repeat (first | exact leL_nil | refine leL_cons ?_ ?_ | exact le_of_eq rfl | exact le_iptrN (leL_of_eq rfl) | refine le_agg ?_ | exact le_slf rfl (TD.rows ..) | refine le_iptr ?_ | refine le_fn ?_ ?_ | exact le_nilsl_)) (by first | exact .inl rfl | exact .inr rfl | exact .inl (by simp only [D.noImm, noImmL, go_sem, TD.nims, TD.nim, nim_rI, nim_rB8, nim_rBo, nim_rS])) ?_; simp -implicitDefEqProofs (disch := omega) only [go_sem, ↓reduceIte , h1]
  | true =>
  have hw := sq_wrap h1; obtain ⟨a1, a2⟩ := inR_iff.1 h1; cases h2 : decide ((r.Table.length : Int) = r.States * r.States) with
  | false => refine call_leNA (v_l00In _ _ _) (by simp -implicitDefEqProofs (disch := omega) only [go_sem, ↓reduceIte, deep, TD.rows, immLL_rI, immLL_rB8, immLL_rS, immLL_rBo, immLL_rII, immLL_rIIt, h1, hw, List.length_map, h2]; exact rfl) (by repeat (first | exact leL_nil | refine leL_cons ?_ ?_ | exact le_of_eq rfl | exact le_iptrN (leL_of_eq rfl) | refine le_agg ?_ | exact le_slf rfl (TD.rows ..) | refine le_iptr ?_ | refine le_fn ?_ ?_ | exact le_nilsl_)) (by first | exact .inl rfl | exact .inr rfl | exact .inl (by simp only [D.noImm, noImmL, go_sem, TD.nims, TD.nim, nim_rI, nim_rB8, nim_rBo, nim_rS])) ?_; simp -implicitDefEqProofs (disch := omega) only [go_sem, ↓reduceIte , h1, hw, List.length_map, h2]
  | true =>
  have w2 : IntKind.i64.wrap (r.States - 1) = r.States - 1 := wrI (by omega) (by omega); refine call_leNA (v_l00In _ _ _) (by simp -implicitDefEqProofs (disch := omega) only [go_sem, ↓reduceIte, deep, TD.rows, immLL_rI, immLL_rB8, immLL_rS, immLL_rBo, immLL_rII, immLL_rIIt, h1, hw, List.length_map, h2]; exact rfl) (by repeat (first | exact leL_nil | refine leL_cons ?_ ?_ | exact le_of_eq rfl | exact le_iptrN (leL_of_eq rfl) | refine le_agg ?_ | exact le_slf rfl (TD.rows ..) | refine le_iptr ?_ | refine le_fn ?_ ?_ | exact le_nilsl_)) (by first | exact .inl rfl | exact .inr rfl | exact .inl (by simp only [D.noImm, noImmL, go_sem, TD.nims, TD.nim, nim_rI, nim_rB8, nim_rBo, nim_rS])) ?_; simp -implicitDefEqProofs (disch := omega) only [go_sem, ↓reduceIte , h1, hw, List.length_map, h2]; refine loop_ov (by simp -implicitDefEqProofs (disch := omega) only [go_sem, ↓reduceIte]; exact rfl) (fun i : Nat => [(3, .v (.int .i64 (i : Int)))]) (fun _ => by simp only [ovr_nil, ovr_cons, List.set_cons_zero, List.set_cons_succ]; exact rfl) (fun i : Nat => i ≤ r.Table.length ∧ ∀ j (hj : j < r.Table.length), j < i → inR 0 (r.States - 1) r.Table[j] = true) (fun i : Nat => r.Table.length - i) (0) (by (try simp -implicitDefEqProofs only [nleL_cc, nleL_nn, nle_self, nle_boxs, nle_aggs, nle_nils, and_self, and_true, true_and]) <;> repeat' (first | exact nle_of_eq rfl | exact nle_nil | apply And.intro | apply nle_sl | apply nleLL_cons | apply nleL_cons | exact nleL_nil | exact nleLL_nil | apply nle_box | apply nle_agg)) (?_) ?_
  · exact ⟨Nat.zero_le _, fun _ _ h => absurd h (Nat.not_lt_zero _)⟩
  rintro i ⟨hi, hall⟩; simp -implicitDefEqProofs (disch := omega) only [go_sem, ↓reduceIte , List.length_map, Int.toNat_natCast, Int.ofNat_lt, Int.natCast_nonneg, List.getElem?_map, Option.map_some]; refine cond_split ?_ ?_ <;> intro hlt
  · have hlt : i < r.Table.length := (by simpa using hlt); have e1 := List.getElem?_eq_getElem hlt; simp -implicitDefEqProofs (disch := omega) only [go_sem, ↓reduceIte , List.length_map, Int.toNat_natCast, Int.ofNat_lt, Int.natCast_nonneg, List.getElem?_map, Option.map_some, hlt, e1, rI, w2]; cases hc : inR 0 (r.States - 1) r.Table[i] with
    | false => have ha := all_not (p := inR 0 (r.States - 1)) hlt hc; refine call_leA (v_l00In _ _ _) (by simp -implicitDefEqProofs (disch := omega) only [go_sem, ↓reduceIte, deep, TD.rows, immLL_rI, immLL_rB8, immLL_rS, immLL_rBo, immLL_rII, immLL_rIIt, hc]; exact rfl) (by repeat (first | exact leL_nil | refine leL_cons ?_ ?_ | exact le_of_eq rfl | exact le_iptrN (leL_of_eq rfl) | refine le_agg ?_ | exact le_slf rfl (TD.rows ..) | refine le_iptr ?_ | refine le_fn ?_ ?_ | exact le_nilsl_)) (by first | exact .inl rfl | exact .inr rfl | exact .inl (by simp only [D.noImm, noImmL, go_sem, TD.nims, TD.nim, nim_rI, nim_rB8, nim_rBo, nim_rS])) ?_; simp -implicitDefEqProofs (disch := omega) only [go_sem, ↓reduceIte , hc]; rw [ha]
    | true =>
      refine call_leA (v_l00In _ _ _) (by simp -implicitDefEqProofs (disch := omega) only [go_sem, ↓reduceIte, deep, TD.rows, immLL_rI, immLL_rB8, immLL_rS, immLL_rBo, immLL_rII, immLL_rIIt, hc, wrN]; exact rfl) (by repeat (first | exact leL_nil | refine leL_cons ?_ ?_ | exact le_of_eq rfl | exact le_iptrN (leL_of_eq rfl) | refine le_agg ?_ | exact le_slf rfl (TD.rows ..) | refine le_iptr ?_ | refine le_fn ?_ ?_ | exact le_nilsl_)) (by first | exact .inl rfl | exact .inr rfl | exact .inl (by simp only [D.noImm, noImmL, go_sem, TD.nims, TD.nim, nim_rI, nim_rB8, nim_rBo, nim_rS])) ?_; simp -implicitDefEqProofs (disch := omega) only [go_sem, ↓reduceIte , hc, wrN]; refine ⟨i + 1, by omega, ⟨hlt, fun j hj h => ?_⟩, by (try simp -implicitDefEqProofs only [nleL_cc, nleL_nn, nle_self, nle_boxs, nle_aggs, nle_nils, and_self, and_true, true_and]) <;> repeat' (first | exact nle_of_eq rfl | exact nle_nil | apply And.intro | apply nle_sl | apply nleLL_cons | apply nleL_cons | exact nleL_nil | exact nleLL_nil | apply nle_box | apply nle_agg)⟩; by_cases hji : j = i
      · subst hji; exact hc
      · exact hall j hj (by omega)
  · obtain rfl : i = r.Table.length := (by have : ¬ i < r.Table.length := (by simpa using hlt); omega); have ha := all_get (p := inR 0 (r.States - 1)) (fun j hj => hall j hj hj); simp -implicitDefEqProofs (disch := omega) only [go_sem, ↓reduceIte]; rw [ha]
theorem v_l16States (r : Rule) (l : List Int) (hr : okRule r = true) (hn : l.length ≤ 1048576) : Contract Tryd.prog TabG 88 [.iptr (Rule.td.d false r) 0, .sl false 1 (l.map rI)] (.v (.bool (okSide r l))) := by
  rw [Rule.td_d]; have hs := rule_st hr; refine law_spec_l16States ?_; unfold code_spec_l16States okSide; have w2 : IntKind.i64.wrap (r.States - 1) = r.States - 1 := wrI (by omega) (by omega); simp -implicitDefEqProofs (disch := omega) only [go_sem, ↓reduceIte , List.length_map]; cases h1 : inR 1 15 (l.length : Int) with
  | false => refine call_leA (v_l00In _ _ _) (by simp -implicitDefEqProofs (disch := omega) only [go_sem, ↓reduceIte, deep, TD.rows, immLL_rI, immLL_rB8, immLL_rS, immLL_rBo, immLL_rII, immLL_rIIt, h1]; exact rfl) (by repeat (first | exact leL_nil | refine leL_cons ?_ ?_ | exact le_of_eq rfl | exact le_iptrN (leL_of_eq rfl) | refine le_agg ?_ | exact le_slf rfl (TD.rows ..) | refine le_iptr ?_ | refine le_fn ?_ ?_ | exact le_nilsl_)) (by first | exact .inl rfl | exact .inr rfl | exact .inl (by simp only [D.noImm, noImmL, go_sem, TD.nims, TD.nim, nim_rI, nim_rB8, nim_rBo, nim_rS])) ?_; simp -implicitDefEqProofs (disch := omega) only [go_sem, ↓reduceIte , h1]
  | true =>
  refine call_leA (v_l00In _ _ _) (by simp -implicitDefEqProofs (disch := omega) only [go_sem, ↓reduceIte, deep, TD.rows, immLL_rI, immLL_rB8, immLL_rS, immLL_rBo, immLL_rII, immLL_rIIt, h1]; exact rfl) (by repeat (first | exact leL_nil | refine leL_cons ?_ ?_ | exact le_of_eq rfl | exact le_iptrN (leL_of_eq rfl) | refine le_agg ?_ | exact le_slf rfl (TD.rows ..) | refine le_iptr ?_ | refine le_fn ?_ ?_ | exact le_nilsl_)) (by first | exact .inl rfl | exact .inr rfl | exact .inl (by simp only [D.noImm, noImmL, go_sem, TD.nims, TD.nim, nim_rI, nim_rB8, nim_rBo, nim_rS])) ?_; simp -implicitDefEqProofs (disch := omega) only [go_sem, ↓reduceIte , h1]; refine loop_ov (by simp -implicitDefEqProofs (disch := omega) only [go_sem, ↓reduceIte]; exact rfl) (fun i : Nat => [(5, .v (.int .i64 (i : Int)))]) (fun _ => by simp only [ovr_nil, ovr_cons, List.set_cons_zero, List.set_cons_succ]; exact rfl) (fun i : Nat => i ≤ l.length ∧ ∀ j (hj : j < l.length), j < i → inR 0 (r.States - 1) l[j] = true) (fun i : Nat => l.length - i) (0) (by (try simp -implicitDefEqProofs only [nleL_cc, nleL_nn, nle_self, nle_boxs, nle_aggs, nle_nils, and_self, and_true, true_and]) <;> repeat' (first | exact nle_of_eq rfl | exact nle_nil | apply And.intro | apply nle_sl | apply nleLL_cons | apply nleL_cons | exact nleL_nil | exact nleLL_nil | apply nle_box | apply nle_agg)) (?_) ?_
  · exact ⟨Nat.zero_le _, fun _ _ h => absurd h (Nat.not_lt_zero _)⟩
  rintro i ⟨hi, hall⟩; simp -implicitDefEqProofs (disch := omega) only [go_sem, ↓reduceIte , List.length_map, Int.toNat_natCast, Int.ofNat_lt, Int.natCast_nonneg, List.getElem?_map, Option.map_some]; refine cond_split ?_ ?_ <;> intro hlt
  · have hlt : i < l.length := (by simpa using hlt); have e1 := List.getElem?_eq_getElem hlt; simp -implicitDefEqProofs (disch := omega) only [go_sem, ↓reduceIte , List.length_map, Int.toNat_natCast, Int.ofNat_lt, Int.natCast_nonneg, List.getElem?_map, Option.map_some, hlt, e1, rI, w2]; cases hc : inR 0 (r.States - 1) l[i] with
    | false => have ha := all_not (p := inR 0 (r.States - 1)) hlt hc; refine call_leA (v_l00In _ _ _) (by simp -implicitDefEqProofs (disch := omega) only [go_sem, ↓reduceIte, deep, TD.rows, immLL_rI, immLL_rB8, immLL_rS, immLL_rBo, immLL_rII, immLL_rIIt, hc]; exact rfl) (by repeat (first | exact leL_nil | refine leL_cons ?_ ?_ | exact le_of_eq rfl | exact le_iptrN (leL_of_eq rfl) | refine le_agg ?_ | exact le_slf rfl (TD.rows ..) | refine le_iptr ?_ | refine le_fn ?_ ?_ | exact le_nilsl_)) (by first | exact .inl rfl | exact .inr rfl | exact .inl (by simp only [D.noImm, noImmL, go_sem, TD.nims, TD.nim, nim_rI, nim_rB8, nim_rBo, nim_rS])) ?_; simp -implicitDefEqProofs (disch := omega) only [go_sem, ↓reduceIte , hc]; rw [ha]
    | true =>
      refine call_leA (v_l00In _ _ _) (by simp -implicitDefEqProofs (disch := omega) only [go_sem, ↓reduceIte, deep, TD.rows, immLL_rI, immLL_rB8, immLL_rS, immLL_rBo, immLL_rII, immLL_rIIt, hc, wrN]; exact rfl) (by repeat (first | exact leL_nil | refine leL_cons ?_ ?_ | exact le_of_eq rfl | exact le_iptrN (leL_of_eq rfl) | refine le_agg ?_ | exact le_slf rfl (TD.rows ..) | refine le_iptr ?_ | refine le_fn ?_ ?_ | exact le_nilsl_)) (by first | exact .inl rfl | exact .inr rfl | exact .inl (by simp only [D.noImm, noImmL, go_sem, TD.nims, TD.nim, nim_rI, nim_rB8, nim_rBo, nim_rS])) ?_; simp -implicitDefEqProofs (disch := omega) only [go_sem, ↓reduceIte , hc, wrN]; refine ⟨i + 1, by omega, ⟨hlt, fun j hj h => ?_⟩, by (try simp -implicitDefEqProofs only [nleL_cc, nleL_nn, nle_self, nle_boxs, nle_aggs, nle_nils, and_self, and_true, true_and]) <;> repeat' (first | exact nle_of_eq rfl | exact nle_nil | apply And.intro | apply nle_sl | apply nleLL_cons | apply nleL_cons | exact nleL_nil | exact nleLL_nil | apply nle_box | apply nle_agg)⟩; by_cases hji : j = i
      · subst hji; exact hc
      · exact hall j hj (by omega)
  · obtain rfl : i = l.length := (by have : ¬ i < l.length := (by simpa using hlt); omega); have ha := all_get (p := inR 0 (r.States - 1)) (fun j hj => hall j hj hj); simp -implicitDefEqProofs (disch := omega) only [go_sem, ↓reduceIte]; rw [ha]
theorem v_l16Asked (r : Rule) (w s : List Int) (hn : r.Table.length ≤ 1048576) (hw : w.length ≤ 1048576) (hs : s.length ≤ 1048576) : Contract Tryd.prog TabG 61 [.iptr (Rule.td.d false r) 0, .sl false 1 (w.map rI), .sl false 1 (s.map rI)] (.v (.int .i64 (ruleC r w s))) := by
  refine law_spec_l16Asked ?_; unfold code_spec_l16Asked ruleC; simp -implicitDefEqProofs (disch := omega) only [go_sem, ↓reduceIte]; cases h1 : okRule r with
  | false => refine call_leA (v_l16Rule r hn) (by simp -implicitDefEqProofs (disch := omega) only [go_sem, ↓reduceIte, deep, TD.rows, immLL_rI, immLL_rB8, immLL_rS, immLL_rBo, immLL_rII, immLL_rIIt, h1]; exact rfl) (by repeat (first | exact leL_nil | refine leL_cons ?_ ?_ | exact le_of_eq rfl | exact le_iptrN (leL_of_eq rfl) | refine le_agg ?_ | exact le_slf rfl (TD.rows ..) | refine le_iptr ?_ | refine le_fn ?_ ?_ | exact le_nilsl_)) (by first | exact .inl rfl | exact .inr rfl | exact .inl (by simp only [D.noImm, noImmL, go_sem, TD.nims, TD.nim, nim_rI, nim_rB8, nim_rBo, nim_rS])) ?_; simp -implicitDefEqProofs (disch := omega) only [go_sem, ↓reduceIte , h1]
  | true =>
  refine call_leA (v_l16Rule r hn) (by simp -implicitDefEqProofs (disch := omega) only [go_sem, ↓reduceIte, deep, TD.rows, immLL_rI, immLL_rB8, immLL_rS, immLL_rBo, immLL_rII, immLL_rIIt, h1]; exact rfl) (by repeat (first | exact leL_nil | refine leL_cons ?_ ?_ | exact le_of_eq rfl | exact le_iptrN (leL_of_eq rfl) | refine le_agg ?_ | exact le_slf rfl (TD.rows ..) | refine le_iptr ?_ | refine le_fn ?_ ?_ | exact le_nilsl_)) (by first | exact .inl rfl | exact .inr rfl | exact .inl (by simp only [D.noImm, noImmL, go_sem, TD.nims, TD.nim, nim_rI, nim_rB8, nim_rBo, nim_rS])) ?_; simp -implicitDefEqProofs (disch := omega) only [go_sem, ↓reduceIte , h1]; cases h2 : okSide r w with
  | false => refine call_leA (v_l16States r w h1 hw) (by simp -implicitDefEqProofs (disch := omega) only [go_sem, ↓reduceIte, deep, TD.rows, immLL_rI, immLL_rB8, immLL_rS, immLL_rBo, immLL_rII, immLL_rIIt, h2]; exact rfl) (by repeat (first | exact leL_nil | refine leL_cons ?_ ?_ | exact le_of_eq rfl | exact le_iptrN (leL_of_eq rfl) | refine le_agg ?_ | exact le_slf rfl (TD.rows ..) | refine le_iptr ?_ | refine le_fn ?_ ?_ | exact le_nilsl_)) (by first | exact .inl rfl | exact .inr rfl | exact .inl (by simp only [D.noImm, noImmL, go_sem, TD.nims, TD.nim, nim_rI, nim_rB8, nim_rBo, nim_rS])) ?_; simp -implicitDefEqProofs (disch := omega) only [go_sem, ↓reduceIte , h2]
  | true =>
  refine call_leA (v_l16States r w h1 hw) (by simp -implicitDefEqProofs (disch := omega) only [go_sem, ↓reduceIte, deep, TD.rows, immLL_rI, immLL_rB8, immLL_rS, immLL_rBo, immLL_rII, immLL_rIIt, h2]; exact rfl) (by repeat (first | exact leL_nil | refine leL_cons ?_ ?_ | exact le_of_eq rfl | exact le_iptrN (leL_of_eq rfl) | refine le_agg ?_ | exact le_slf rfl (TD.rows ..) | refine le_iptr ?_ | refine le_fn ?_ ?_ | exact le_nilsl_)) (by first | exact .inl rfl | exact .inr rfl | exact .inl (by simp only [D.noImm, noImmL, go_sem, TD.nims, TD.nim, nim_rI, nim_rB8, nim_rBo, nim_rS])) ?_; simp -implicitDefEqProofs (disch := omega) only [go_sem, ↓reduceIte , h2]; cases h3 : okSide r s with
  | false => refine call_leA (v_l16States r s h1 hs) (by simp -implicitDefEqProofs (disch := omega) only [go_sem, ↓reduceIte, deep, TD.rows, immLL_rI, immLL_rB8, immLL_rS, immLL_rBo, immLL_rII, immLL_rIIt, h3]; exact rfl) (by repeat (first | exact leL_nil | refine leL_cons ?_ ?_ | exact le_of_eq rfl | exact le_iptrN (leL_of_eq rfl) | refine le_agg ?_ | exact le_slf rfl (TD.rows ..) | refine le_iptr ?_ | refine le_fn ?_ ?_ | exact le_nilsl_)) (by first | exact .inl rfl | exact .inr rfl | exact .inl (by simp only [D.noImm, noImmL, go_sem, TD.nims, TD.nim, nim_rI, nim_rB8, nim_rBo, nim_rS])) ?_; simp -implicitDefEqProofs (disch := omega) only [go_sem, ↓reduceIte , h3]
  | true =>
  refine call_leA (v_l16States r s h1 hs) (by simp -implicitDefEqProofs (disch := omega) only [go_sem, ↓reduceIte, deep, TD.rows, immLL_rI, immLL_rB8, immLL_rS, immLL_rBo, immLL_rII, immLL_rIIt, h3]; exact rfl) (by repeat (first | exact leL_nil | refine leL_cons ?_ ?_ | exact le_of_eq rfl | exact le_iptrN (leL_of_eq rfl) | refine le_agg ?_ | exact le_slf rfl (TD.rows ..) | refine le_iptr ?_ | refine le_fn ?_ ?_ | exact le_nilsl_)) (by first | exact .inl rfl | exact .inr rfl | exact .inl (by simp only [D.noImm, noImmL, go_sem, TD.nims, TD.nim, nim_rI, nim_rB8, nim_rBo, nim_rS])) ?_; simp -implicitDefEqProofs (disch := omega) only [go_sem, ↓reduceIte , h3]
def code_laws_toInt64S : VCode := (.seq (.ops [
  ⟨(some 2), none, (.asg (.const (.slice none 0 0)))⟩]) (.seq (.ops [
  ⟨(some 5), none, (.mv (.tmp 0))⟩,
  ⟨(some 6), none, (.len (.tmp 5))⟩,
  ⟨(some 7), none, (.mks 1 8 [(.int .i64 0)] (.tmp 6) (.tmp 6))⟩,
  ⟨(some 3), none, (.asg (.tmp 7))⟩]) (.seq (.seq (.ops [
  ⟨(some 4), none, (.asg (.const (.int .i64 0)))⟩]) (.block 0 (.loop (mB 22 4194150) (.seq (.seq (.ops [
  ⟨(some 8), none, (.mv (.tmp 4))⟩,
  ⟨(some 9), none, (.mv (.tmp 0))⟩,
  ⟨(some 10), none, (.len (.tmp 9))⟩,
  ⟨(some 11), none, (.bin .lss (.tmp 8) (.tmp 10))⟩]) (.cond (.tmp 11) .skip (.exit 0))) (.seq (.block 1 (.ops [
  ⟨(some 14), none, (.mv (.tmp 3))⟩,
  ⟨(some 15), none, (.mv (.tmp 4))⟩,
  ⟨(some 16), none, (.mv (.tmp 0))⟩,
  ⟨(some 17), none, (.mv (.tmp 4))⟩,
  ⟨(some 18), none, (.ia 1 (.tmp 16) (.tmp 17))⟩,
  ⟨(some 19), none, (.load 1 false (.tmp 18))⟩,
  ⟨(some 20), none, (.ia 1 (.tmp 14) (.tmp 15))⟩,
  ⟨none, none, (.store 1 (.tmp 20) (.tmp 19))⟩])) (.ops [
  ⟨(some 12), none, (.mv (.tmp 4))⟩,
  ⟨(some 13), none, (.bin .add (.tmp 12) (.const (.int .i64 1)))⟩,
  ⟨(some 4), none, (.asg (.tmp 13))⟩])))))) (.seq (.ops [
  ⟨(some 21), none, (.mv (.tmp 3))⟩,
  ⟨(some 2), none, (.asg (.tmp 21))⟩]) .ret))))
theorem law_laws_toInt64S {a0 d : D} (h : code_laws_toInt64S.wp (CT Tryd.prog TabG) (endQ [(.t 2)] d) [a0, .undef, .undef, .undef, .undef, .undef, .undef, .undef, .undef, .undef, .undef, .undef, .undef, .undef, .undef, .undef, .undef, .undef, .undef, .undef, .undef, .undef]) : Contract Tryd.prog TabG 18 [a0] d :=
  contract_of (pt := 0) tabG Tryd.func18 (fun us W => by kernel_rfl) (c := Tryd.f18.body.getD .skip) (ms := [(mB 22 4194150)]) (ms' := []) (by kernel_rfl) (by kernel_rfl) (by kernel_rfl) h
set_option maxHeartbeats 2000000 in
theorem v_toInt64S (xs : List Int) (hn : xs.length ≤ 1048576) : Contract Tryd.prog TabG 18 [.sl false 1 (xs.map (rI))] (.sl true 1 (xs.map (rI))) := by
  have hl : xs.length ≤ 1048576 := (by exact hn); refine law_laws_toInt64S ?_; unfold code_laws_toInt64S; simp -implicitDefEqProofs (disch := omega) only [go_sem, ↓reduceIte , List.length_map, Int.toNat_natCast]; refine ⟨by omega, by omega, by omega, ?_⟩; refine loop_st (fun k : Nat => [.sl false 1 (xs.map (rI)), .undef, .undef, .sl true 1 ((xs.take k).map (rI) ++ List.replicate (xs.length - k) [D.v (.int .i64 0)]), .v (.int .i64 k), .undef, .undef, .undef, .undef, .undef, .undef, .undef, .undef, .undef, .undef, .undef, .undef, .undef, .undef, .undef, .undef, .undef]) (fun k => k ≤ xs.length) (fun k => xs.length - k) 0 (by (try simp -implicitDefEqProofs only [nleL_cc, nleL_nn, nle_self, nle_boxs, nle_aggs, nle_nils, and_self, and_true, true_and]) <;> repeat' (first | exact nle_of_eq rfl | exact nle_nil | apply And.intro | apply nle_sl | apply nleLL_cons | apply nleL_cons | exact nleL_nil | exact nleLL_nil | apply nle_box | apply nle_agg)) (Nat.zero_le _) ?_; intro k hk; simp -implicitDefEqProofs (disch := omega) only [go_sem, ↓reduceIte , List.length_map, Int.toNat_natCast, Int.ofNat_lt, Int.natCast_nonneg, List.getElem?_map, Option.map_some]; refine cond_split ?_ ?_ <;> intro hlt
  · have hlt : k < xs.length := (by simpa using hlt); have e1 := List.getElem?_eq_getElem hlt; have g1 := fill_len xs (rI) [D.v (.int .i64 0)] k; have g2 := fill_at xs (rI) [D.v (.int .i64 0)] k hlt; have g3 := fill_next xs (rI) [D.v (.int .i64 0)] k hlt; have g4 : k < ((xs.take k).map (rI) ++ List.replicate (xs.length - k) [D.v (.int .i64 0)]).length := (by rw [g1]; exact hlt); simp -implicitDefEqProofs (disch := omega) only [go_sem, ↓reduceIte , List.length_map, Int.toNat_natCast, Int.ofNat_lt, Int.natCast_nonneg, List.getElem?_map, Option.map_some, hlt, e1, g1, g2, List.set_set, List.getElem?_set_self g4, wrN]; refine ⟨k + 1, by omega, hlt, ?_⟩; rw [← g3]
    (try simp -implicitDefEqProofs only [nleL_cc, nleL_nn, nle_self, nle_boxs, nle_aggs, nle_nils, and_self, and_true, true_and]) <;> repeat' (first | exact nle_of_eq rfl | exact nle_nil | apply And.intro | apply nle_sl | apply nleLL_cons | apply nleL_cons | exact nleL_nil | exact nleLL_nil | apply nle_box | apply nle_agg)
  · have hge : k = xs.length := (by have : ¬ k < xs.length := (by simpa using hlt); omega); subst hge; simp -implicitDefEqProofs (disch := omega) only [go_sem, ↓reduceIte , fill_end]
def code_laws_toRule : VCode := (.seq (.ops [
  ⟨(some 1), none, (.box (.tmp 0))⟩,
  ⟨(some 2), none, (.alloc [(.int .i64 0), (.slice none 0 0)])⟩]) (.seq (.ops [
  ⟨(some 3), none, (.alloc [(.int .i64 0), (.slice none 0 0)])⟩]) (.seq (.ops [
  ⟨(some 4), none, (.fa 0 (.tmp 1))⟩,
  ⟨(some 5), none, (.load 1 false (.tmp 4))⟩,
  ⟨(some 6), none, (.fa 0 (.tmp 3))⟩,
  ⟨none, none, (.store 1 (.tmp 6) (.tmp 5))⟩]) (.seq (.ops [
  ⟨(some 7), none, (.fa 1 (.tmp 1))⟩,
  ⟨(some 8), none, (.load 1 false (.tmp 7))⟩,
  ⟨(some 9), none, (.callX 18 [(.tmp 8)])⟩,
  ⟨(some 10), none, (.fa 1 (.tmp 3))⟩,
  ⟨none, none, (.store 1 (.tmp 10) (.tmp 9))⟩]) (.seq (.ops [
  ⟨(some 11), none, (.load 2 true (.tmp 3))⟩,
  ⟨none, none, (.store 2 (.tmp 2) (.tmp 11))⟩]) .ret)))))
theorem law_laws_toRule {a0 d : D} (h : code_laws_toRule.wp (CT Tryd.prog TabG) (endQ [(.c 2 2 true)] d) [a0, .undef, .undef, .undef, .undef, .undef, .undef, .undef, .undef, .undef, .undef, .undef]) : Contract Tryd.prog TabG 24 [a0] d :=
  contract_of (pt := 0) tabG Tryd.func24 (fun us W => by kernel_rfl) (c := Tryd.f24.body.getD .skip) (ms := []) (ms' := []) (by kernel_rfl) (by kernel_rfl) (by kernel_rfl) h
set_option maxHeartbeats 2000000 in
theorem v_toRule (q : Rule) (hn : Rule.cnt q ≤ 1048576) : Contract Tryd.prog TabG 24 [.agg (Rule.td.d false q)] (.agg (Rule.td.d true q)) := by rw [Rule.td_d, Rule.td_d]; refine law_laws_toRule ?_; unfold code_laws_toRule; have hn0 := hn; unfold Rule.cnt at hn; simp -implicitDefEqProofs (disch := omega) only [go_sem, ↓reduceIte]; refine call_leA (v_toInt64S q.Table (by omega)) (by simp -implicitDefEqProofs (disch := omega) only [go_sem, ↓reduceIte, deep, TD.rows, immLL_rI, immLL_rB8, immLL_rS, immLL_rBo, immLL_rII, immLL_rIIt]; exact rfl) (by repeat (first | exact leL_nil | refine leL_cons ?_ ?_ | exact le_of_eq rfl | exact le_iptrN (leL_of_eq rfl) | refine le_agg ?_ | exact le_slf rfl (TD.rows ..) | refine le_iptr ?_ | refine le_fn ?_ ?_ | exact le_nilsl_)) (by first | exact .inl rfl | exact .inr rfl | exact .inl (by simp only [D.noImm, noImmL, go_sem, TD.nims, TD.nim, nim_rI, nim_rB8, nim_rBo, nim_rS])) ?_; simp -implicitDefEqProofs (disch := omega) only [go_sem, ↓reduceIte]
end Go.Proofs.YtmaidelmbphbdaaDoor
