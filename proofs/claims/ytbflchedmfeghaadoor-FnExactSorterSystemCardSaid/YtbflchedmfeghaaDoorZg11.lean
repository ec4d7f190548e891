/- Laws that the proof stands on. -/
import Derived.Test.YtbflchedmfeghaaDoorZVB
import Derived.Test.YtbflchedmfeghaaDoorProg
import Derived.Test.YtbflchedmfeghaaDoorZVTab
import Derived.Test.YtbflchedmfeghaaDoorZg6
set_option linter.all false
namespace Go.Proofs.YtbflchedmfeghaaDoor
open Go.RowKit Go.V
attribute [local go_sem] List.getElem?_cons_succ List.getElem?_cons_zero List.set_cons_succ List.set_cons_zero List.map_cons List.map_nil List.length_cons List.length_nil List.all_cons List.all_nil List.drop_succ_cons List.drop_zero List.take_succ_cons List.take_zero List.flatMap_cons List.flatMap_nil List.cons_append List.nil_append List.append_nil List.headD_cons Value.oneCell' Bool.and_true Bool.true_and Bool.or_false Bool.false_or Bool.and_self Bool.not_true Bool.not_false and_true true_and beq_self_eq_true Bool.false_eq_true if_true if_false Nat.zero_add Nat.reduceAdd Nat.reduceMul Nat.reduceLeDiff Nat.le_refl Option.isSome_some Option.isSome_none not_true_eq_false not_false_eq_true ne_eq reduceCtorEq List.reverse_nil bne_self_eq_false Nat.reduceEqDiff List.isPrefixOf Bool.not_eq_true Bool.and_false Bool.false_and Bool.true_or Bool.or_true decide_true decide_false Nat.reduceBEq Nat.reduceBNe List.replicate_succ List.replicate_zero exists_eq_left' exists_eq_left Option.some.injEq or_false or_true true_or false_or Option.map_some Option.map_none mB Nat.reduceMod Nat.reduceDiv
set_option maxRecDepth 100000
def inR (lo hi n : Int) : Bool := decide (lo ≤ n) && decide (n ≤ hi)
theorem inR_iff {lo hi n : Int} : inR lo hi n = true ↔ lo ≤ n ∧ n ≤ hi := by simp [inR]
def code_spec_l00In : VCode := (.seq (.ops [
  ⟨(some 6), none, (.asg (.const (.bool false)))⟩]) (.seq (.ops [
  ⟨(some 7), none, (.mv (.tmp 0))⟩,
  ⟨(some 8), none, (.mv (.tmp 1))⟩,
  ⟨(some 9), none, (.bin .geq (.tmp 7) (.tmp 8))⟩,
  ⟨(some 10), none, (.mv (.tmp 9))⟩,
  ⟨(some 11), (some (10, true)), (.mv (.tmp 0))⟩,
  ⟨(some 12), (some (10, true)), (.mv (.tmp 2))⟩,
  ⟨(some 13), (some (10, true)), (.bin .leq (.tmp 11) (.tmp 12))⟩,
  ⟨(some 14), none, (.pick (.tmp 10) (.tmp 13) (.const (.bool false)))⟩,
  ⟨(some 6), none, (.asg (.tmp 14))⟩]) .ret))
theorem law_spec_l00In {a0 a1 a2 d : D} (h : code_spec_l00In.wp (CT Tryd.prog TabG) (endQ [(.t 6)] d) [a0, a1, a2, .undef, .undef, .undef, .undef, .undef, .undef, .undef, .undef, .undef, .undef, .undef, .undef]) : Contract Tryd.prog TabG 19 [a0, a1, a2] d :=
  contract_of (pt := 0) tabG Tryd.func19 (fun us W => by kernel_rfl) (c := Tryd.f19.body.getD .skip) (ms := []) (ms' := []) (by kernel_rfl) (by kernel_rfl) (by kernel_rfl) h
theorem v_l00In (a b c : Int) : Contract Tryd.prog TabG 19 [.v (.int .i64 a), .v (.int .i64 b), .v (.int .i64 c)] (.v (.bool (inR b c a))) := by
  refine law_spec_l00In ?_; unfold code_spec_l00In inR; simp -implicitDefEqProofs (disch := omega) only [go_sem, ↓reduceIte]; refine guard_split ?_ ?_ <;> intro h
  · simp -implicitDefEqProofs (disch := omega) only [go_sem, ↓reduceIte , h]
  · simp -implicitDefEqProofs (disch := omega) only [go_sem, ↓reduceIte , h]
def code_impl_within : VCode := (.seq (.ops [
  ⟨(some 6), none, (.asg (.const (.bool false)))⟩]) (.seq (.ops [
  ⟨(some 7), none, (.mv (.tmp 0))⟩,
  ⟨(some 8), none, (.mv (.tmp 1))⟩,
  ⟨(some 9), none, (.bin .geq (.tmp 7) (.tmp 8))⟩,
  ⟨(some 10), none, (.mv (.tmp 9))⟩,
  ⟨(some 11), (some (10, true)), (.mv (.tmp 0))⟩,
  ⟨(some 12), (some (10, true)), (.mv (.tmp 2))⟩,
  ⟨(some 13), (some (10, true)), (.bin .leq (.tmp 11) (.tmp 12))⟩,
  ⟨(some 14), none, (.pick (.tmp 10) (.tmp 13) (.const (.bool false)))⟩,
  ⟨(some 6), none, (.asg (.tmp 14))⟩]) .ret))
theorem law_impl_within {a0 a1 a2 d : D} (h : code_impl_within.wp (CT Tryd.prog TabG) (endQ [(.t 6)] d) [a0, a1, a2, .undef, .undef, .undef, .undef, .undef, .undef, .undef, .undef, .undef, .undef, .undef, .undef]) : Contract Tryd.prog TabG 28 [a0, a1, a2] d :=
  contract_of (pt := 0) tabG Tryd.func28 (fun us W => by kernel_rfl) (c := Tryd.f28.body.getD .skip) (ms := []) (ms' := []) (by kernel_rfl) (by kernel_rfl) (by kernel_rfl) h
theorem v_within (a b c : Int) : Contract Tryd.prog TabG 28 [.v (.int .i64 a), .v (.int .i64 b), .v (.int .i64 c)] (.v (.bool (inR b c a))) := by
  refine law_impl_within ?_; unfold code_impl_within inR; simp -implicitDefEqProofs (disch := omega) only [go_sem, ↓reduceIte]; refine guard_split ?_ ?_ <;> intro h
  · simp -implicitDefEqProofs (disch := omega) only [go_sem, ↓reduceIte , h]
  · simp -implicitDefEqProofs (disch := omega) only [go_sem, ↓reduceIte , h]
def code_spec_l00Min : VCode := (.seq (.ops [
  ⟨(some 4), none, (.asg (.const (.int .i64 0)))⟩]) (.seq (.seq (.ops [
  ⟨(some 5), none, (.mv (.tmp 0))⟩,
  ⟨(some 6), none, (.mv (.tmp 1))⟩,
  ⟨(some 7), none, (.bin .lss (.tmp 5) (.tmp 6))⟩]) (.cond (.tmp 7) (.seq (.ops [
  ⟨(some 8), none, (.mv (.tmp 0))⟩,
  ⟨(some 4), none, (.asg (.tmp 8))⟩]) .ret) .skip)) (.seq (.ops [
  ⟨(some 9), none, (.mv (.tmp 1))⟩,
  ⟨(some 4), none, (.asg (.tmp 9))⟩]) .ret)))
theorem law_spec_l00Min {a0 a1 d : D} (h : code_spec_l00Min.wp (CT Tryd.prog TabG) (endQ [(.t 4)] d) [a0, a1, .undef, .undef, .undef, .undef, .undef, .undef, .undef, .undef]) : Contract Tryd.prog TabG 66 [a0, a1] d :=
  contract_of (pt := 0) tabG Tryd.func66 (fun us W => by kernel_rfl) (c := Tryd.f66.body.getD .skip) (ms := []) (ms' := []) (by kernel_rfl) (by kernel_rfl) (by kernel_rfl) h
theorem v_l00Min (a b : Int) : Contract Tryd.prog TabG 66 [.v (.int .i64 a), .v (.int .i64 b)] (.v (.int .i64 (min a b))) := by
  refine law_spec_l00Min ?_; unfold code_spec_l00Min; simp -implicitDefEqProofs (disch := omega) only [go_sem, ↓reduceIte]; refine cond_split ?_ ?_ <;> intro h
  · have := of_decide_eq_true h; simp -implicitDefEqProofs (disch := omega) only [go_sem, ↓reduceIte]; apply congrArg (Value.int .i64); omega
  · have := of_decide_eq_false h; simp -implicitDefEqProofs (disch := omega) only [go_sem, ↓reduceIte]; apply congrArg (Value.int .i64); omega
def code_spec_l00Max : VCode := (.seq (.ops [
  ⟨(some 4), none, (.asg (.const (.int .i64 0)))⟩]) (.seq (.seq (.ops [
  ⟨(some 5), none, (.mv (.tmp 0))⟩,
  ⟨(some 6), none, (.mv (.tmp 1))⟩,
  ⟨(some 7), none, (.bin .gtr (.tmp 5) (.tmp 6))⟩]) (.cond (.tmp 7) (.seq (.ops [
  ⟨(some 8), none, (.mv (.tmp 0))⟩,
  ⟨(some 4), none, (.asg (.tmp 8))⟩]) .ret) .skip)) (.seq (.ops [
  ⟨(some 9), none, (.mv (.tmp 1))⟩,
  ⟨(some 4), none, (.asg (.tmp 9))⟩]) .ret)))
theorem law_spec_l00Max {a0 a1 d : D} (h : code_spec_l00Max.wp (CT Tryd.prog TabG) (endQ [(.t 4)] d) [a0, a1, .undef, .undef, .undef, .undef, .undef, .undef, .undef, .undef]) : Contract Tryd.prog TabG 67 [a0, a1] d :=
  contract_of (pt := 0) tabG Tryd.func67 (fun us W => by kernel_rfl) (c := Tryd.f67.body.getD .skip) (ms := []) (ms' := []) (by kernel_rfl) (by kernel_rfl) (by kernel_rfl) h
theorem v_l00Max (a b : Int) : Contract Tryd.prog TabG 67 [.v (.int .i64 a), .v (.int .i64 b)] (.v (.int .i64 (max a b))) := by
  refine law_spec_l00Max ?_; unfold code_spec_l00Max; simp -implicitDefEqProofs (disch := omega) only [go_sem, ↓reduceIte]; refine cond_split ?_ ?_ <;> intro h
  · have := of_decide_eq_true h; simp -implicitDefEqProofs (disch := omega) only [go_sem, ↓reduceIte]; apply congrArg (Value.int .i64); omega
  · have := of_decide_eq_false h; simp -implicitDefEqProofs (disch := omega) only [go_sem, ↓reduceIte]; apply congrArg (Value.int .i64); omega
def code_slices_IndexFunc_int64_int64 : VCode := (.seq (.ops [
  ⟨(some 4), none, (.asg (.const (.int .i64 0)))⟩]) (.seq (.seq (.ops [
  ⟨(some 6), none, (.mv (.tmp 0))⟩,
  ⟨(some 7), none, (.len (.tmp 6))⟩,
  ⟨(some 8), none, (.mv (.const (.int .i64 0)))⟩]) (.block 0 (.loop (mB 19 523900) (.seq (.ops [
  ⟨(some 9), none, (.bin .lss (.tmp 8) (.tmp 7))⟩]) (.seq (.cond (.tmp 9) .skip (.exit 0)) (.seq (.block 1 (.seq (.ops [
  ⟨(some 10), none, (.mv (.tmp 8))⟩,
  ⟨(some 5), none, (.asg (.tmp 10))⟩]) (.seq (.ops [
  ⟨(some 11), none, (.mv (.tmp 1))⟩,
  ⟨(some 12), none, (.mv (.tmp 0))⟩,
  ⟨(some 13), none, (.mv (.tmp 5))⟩,
  ⟨(some 14), none, (.ia 1 (.tmp 12) (.tmp 13))⟩,
  ⟨(some 15), none, (.load 1 false (.tmp 14))⟩,
  ⟨(some 16), none, (.callvX (.tmp 11) [(.tmp 15)])⟩]) (.cond (.tmp 16) (.seq (.ops [
  ⟨(some 17), none, (.mv (.tmp 5))⟩,
  ⟨(some 4), none, (.asg (.tmp 17))⟩]) .ret) .skip)))) (.ops [
  ⟨(some 18), none, (.bin .add (.tmp 8) (.const (.int .i64 1)))⟩,
  ⟨(some 8), none, (.mv (.tmp 18))⟩]))))))) (.seq (.ops [
  ⟨(some 4), none, (.asg (.const (.int .i64 (-1))))⟩]) .ret)))
theorem law_slices_IndexFunc_int64_int64 {a0 a1 d : D} (h : code_slices_IndexFunc_int64_int64.wp (CT Tryd.prog TabG) (endQ [(.t 4)] d) [a0, a1, .undef, .undef, .undef, .undef, .undef, .undef, .undef, .undef, .undef, .undef, .undef, .undef, .undef, .undef, .undef, .undef, .undef]) : Contract Tryd.prog TabG 80 [a0, a1] d :=
  contract_of (pt := 0) tabG Tryd.func80 (fun us W => by kernel_rfl) (c := Tryd.f80.body.getD .skip) (ms := [(mB 19 523900)]) (ms' := []) (by kernel_rfl) (by kernel_rfl) (by kernel_rfl) h
theorem v_IndexFunc_Int64 (f : FuncId) (caps : List D) (hd : CapsOK caps) (xs : List Int) (p : Int → Bool) (hc : ∀ x, x ∈ xs → Contract Tryd.prog TabG f (.v (.int .i64 x) :: caps) (.v (.bool (p x)))) (hn : xs.length ≤ 1099511627776) :
    Contract Tryd.prog TabG 80 [.sl false 1 (xs.map (rI)), .fn f [] caps] (.v (.int .i64 (vIdx p xs))) := by
  refine law_slices_IndexFunc_int64_int64 ?_; unfold code_slices_IndexFunc_int64_int64; simp -implicitDefEqProofs (disch := omega) only [go_sem, ↓reduceIte , hd.owny, hd.pr]; refine loop_st (fun i : Nat => [.sl false 1 (xs.map (rI)), .fn f [] caps, .undef, .undef, .undef, .undef, .undef, .v (.int .i64 (xs.map (rI)).length), .v (.int .i64 i), .undef, .undef, .undef, .undef, .undef, .undef, .undef, .undef, .undef, .undef]) (fun i => i ≤ xs.length ∧ ∀ j (hj : j < xs.length), j < i → p xs[j] = false) (fun i => xs.length - i) 0 ?_ ⟨Nat.zero_le _, fun j _ h => absurd h (Nat.not_lt_zero _)⟩ ?_
  · simp -implicitDefEqProofs (disch := omega) only [go_sem, ↓reduceIte , hd.owny, hd.pr]
    (try simp -implicitDefEqProofs only [nleL_cc, nleL_nn, nle_self, nle_boxs, nle_aggs, nle_nils, and_self, and_true, true_and]) <;> repeat' (first | exact nle_of_eq rfl | exact nle_nil | apply And.intro | apply nle_sl | apply nleLL_cons | apply nleL_cons | exact nleL_nil | exact nleLL_nil | apply nle_box | apply nle_agg)
  rintro i ⟨hi, ha⟩; simp -implicitDefEqProofs (disch := omega) only [go_sem, ↓reduceIte , List.length_map, Int.toNat_natCast, Int.ofNat_lt, Int.natCast_nonneg, List.getElem?_map, Option.map_some, hd.owny, hd.pr]; refine cond_split ?_ ?_ <;> intro hlt
  · have hlt : i < xs.length := (by simpa using hlt); have hx := List.getElem?_eq_getElem hlt; simp -implicitDefEqProofs (disch := omega) only [go_sem, ↓reduceIte , List.length_map, Int.toNat_natCast, Int.ofNat_lt, Int.natCast_nonneg, List.getElem?_map, Option.map_some, hlt, hx, hd.owny, hd.pr]; have hcx := hc _ (List.getElem_mem hlt); refine callv_le (f := f) (first := []) (caps := caps) ?_ hcx ?_ (.inl rfl) ?_
    · simp -implicitDefEqProofs (disch := omega) only [go_sem, ↓reduceIte , hd.owny]
    · refine leL_of_eq ?_; simp only [List.nil_append, List.cons_append, List.map_cons, List.map_nil, hd.d8, List.map_append]; simp only [deep, raw, List.getElem?_cons_succ, List.getElem?_cons_zero, List.map_cons, List.map_nil, TD.rows, immLL_rI, immLL_rB8, immLL_rS, immLL_rBo]
    simp -implicitDefEqProofs (disch := omega) only [go_sem, ↓reduceIte , hd.owny, hd.pr]; refine cond_split ?_ ?_ <;> intro hp
    · simp -implicitDefEqProofs (disch := omega) only [go_sem, ↓reduceIte , hd.owny, hd.pr]; rw [vIdx_hit p xs i hlt ha hp]
    · simp -implicitDefEqProofs (disch := omega) only [go_sem, ↓reduceIte , wrN, hd.owny, hd.pr]; refine ⟨i + 1, by omega, ⟨hlt, fun j hj h => ?_⟩, nleA⟩; rcases Nat.lt_or_ge j i with h' | h'
      · exact ha j hj h'
      · have : j = i := (by omega); subst this; exact hp
  · have hlt : ¬ i < xs.length := (by simpa using hlt); simp -implicitDefEqProofs (disch := omega) only [go_sem, ↓reduceIte]; rw [vIdx_miss p xs (fun j hj => ha j hj (by omega))]
def code_slices_ContainsFunc_int64_int64 : VCode := (.seq (.ops [
  ⟨(some 4), none, (.asg (.const (.bool false)))⟩]) (.seq (.ops [
  ⟨(some 5), none, (.mv (.tmp 0))⟩,
  ⟨(some 6), none, (.mv (.tmp 1))⟩,
  ⟨(some 7), none, (.callX 80 [(.tmp 5), (.tmp 6)])⟩,
  ⟨(some 8), none, (.bin .geq (.tmp 7) (.const (.int .i64 0)))⟩,
  ⟨(some 4), none, (.asg (.tmp 8))⟩]) .ret))
theorem law_slices_ContainsFunc_int64_int64 {a0 a1 d : D} (h : code_slices_ContainsFunc_int64_int64.wp (CT Tryd.prog TabG) (endQ [(.t 4)] d) [a0, a1, .undef, .undef, .undef, .undef, .undef, .undef, .undef]) : Contract Tryd.prog TabG 76 [a0, a1] d :=
  contract_of (pt := 0) tabG Tryd.func76 (fun us W => by kernel_rfl) (c := Tryd.f76.body.getD .skip) (ms := []) (ms' := []) (by kernel_rfl) (by kernel_rfl) (by kernel_rfl) h
theorem v_ContainsFunc_Int64 (f : FuncId) (caps : List D) (hd : CapsOK caps) (xs : List Int) (p : Int → Bool) (hc : ∀ x, x ∈ xs → Contract Tryd.prog TabG f (.v (.int .i64 x) :: caps) (.v (.bool (p x)))) (hn : xs.length ≤ 1099511627776) :
    Contract Tryd.prog TabG 76 [.sl false 1 (xs.map (rI)), .fn f [] caps] (.v (.bool (xs.any p))) := by
  refine law_slices_ContainsFunc_int64_int64 ?_; unfold code_slices_ContainsFunc_int64_int64; simp -implicitDefEqProofs (disch := omega) only [go_sem, ↓reduceIte , hd.owny, hd.pr]; refine call_le (v_IndexFunc_Int64 f caps hd xs p hc hn) ?_ (.inl rfl) ?_
  · refine leL_of_eq ?_; simp only [List.map_cons, List.map_nil, deep, raw, List.getElem?_cons_succ, List.getElem?_cons_zero, TD.rows, immLL_rI, immLL_rB8, immLL_rS, immLL_rBo, hd.owny, hd.pr, hd.d7]
    try rfl
  simp -implicitDefEqProofs (disch := omega) only [go_sem, ↓reduceIte]; exact congrArg Value.bool (vIdx_any p xs)
def decAcc : Nat → Nat → ByteArray → ByteArray
  | 0, _, out => out
  | f + 1, n, out => if n = 0 then out else decAcc f (n / 10) (strI [((48 + n % 10 : Nat) : Int)] ++ out)
def markT (k : Int) : ByteArray := if k ≤ 0 then ⟨⟨[109, 48]⟩⟩ else ⟨⟨[109]⟩⟩ ++ decAcc 20 k.toNat ⟨⟨[]⟩⟩
theorem decAcc_zero (f : Nat) (out : ByteArray) : decAcc f 0 out = out := by cases f <;> rfl
theorem strI_size (xs : List Int) : (strI xs).size = xs.length := by unfold strI; simp [ByteArray.size]
theorem decAcc_size : ∀ (f n : Nat) (out : ByteArray), (decAcc f n out).size ≤ f + out.size
  | 0, _, out => by simp [decAcc]
  | f + 1, n, out => by
    unfold decAcc; split
    · omega
    · have := decAcc_size f (n / 10) (strI [((48 + n % 10 : Nat) : Int)] ++ out); rw [ByteArray.size_append, strI_size] at this; simp only [List.length_cons, List.length_nil] at this; omega
theorem markT_size (k : Int) : (markT k).size ≤ maxLen := by
  unfold markT maxLen; split
  · decide
  · rw [ByteArray.size_append]; have := decAcc_size 20 k.toNat ⟨⟨[]⟩⟩
    have h0 : (⟨⟨[]⟩⟩ : ByteArray).size = 0 := rfl; have h1 : (⟨⟨[109]⟩⟩ : ByteArray).size = 1 := rfl; omega
def code_laws_markText : VCode := (.seq (.ops [
  ⟨(some 2), none, (.asg (.const (.string ⟨⟨[]⟩⟩)))⟩]) (.seq (.seq (.ops [
  ⟨(some 4), none, (.mv (.tmp 0))⟩,
  ⟨(some 5), none, (.bin .leq (.tmp 4) (.const (.int .i64 0)))⟩]) (.cond (.tmp 5) (.seq (.ops [
  ⟨(some 2), none, (.asg (.const (.string ⟨⟨[109, 48]⟩⟩)))⟩]) .ret) .skip)) (.seq (.ops [
  ⟨(some 3), none, (.asg (.const (.string ⟨⟨[]⟩⟩)))⟩]) (.seq (.block 0 (.loop (mB 20 1048566) (.seq (.seq (.ops [
  ⟨(some 6), none, (.mv (.tmp 0))⟩,
  ⟨(some 7), none, (.bin .gtr (.tmp 6) (.const (.int .i64 0)))⟩]) (.cond (.tmp 7) .skip (.exit 0))) (.block 1 (.seq (.ops [
  ⟨(some 8), none, (.mv (.tmp 0))⟩,
  ⟨(some 9), none, (.bin .rem (.tmp 8) (.const (.int .i64 10)))⟩,
  ⟨(some 10), none, (.bin .add (.const (.int .i64 48)) (.tmp 9))⟩,
  ⟨(some 11), none, (.conv .u8 (.tmp 10))⟩,
  ⟨(some 12), none, (.bsl 1 [(.tmp 11)])⟩,
  ⟨(some 13), none, (.b2s (.tmp 12))⟩,
  ⟨(some 14), none, (.mv (.tmp 3))⟩,
  ⟨(some 15), none, (.bin .add (.tmp 13) (.tmp 14))⟩,
  ⟨(some 3), none, (.asg (.tmp 15))⟩]) (.ops [
  ⟨(some 16), none, (.mv (.tmp 0))⟩,
  ⟨(some 17), none, (.bin .quo (.tmp 16) (.const (.int .i64 10)))⟩,
  ⟨(some 0), none, (.asg (.tmp 17))⟩])))))) (.seq (.ops [
  ⟨(some 18), none, (.mv (.tmp 3))⟩,
  ⟨(some 19), none, (.bin .add (.const (.string ⟨⟨[109]⟩⟩)) (.tmp 18))⟩,
  ⟨(some 2), none, (.asg (.tmp 19))⟩]) .ret)))))
theorem law_laws_markText {a0 d : D} (h : code_laws_markText.wp (CT Tryd.prog NoG) (endQ [(.t 2)] d) [a0, .undef, .undef, .undef, .undef, .undef, .undef, .undef, .undef, .undef, .undef, .undef, .undef, .undef, .undef, .undef, .undef, .undef, .undef, .undef]) : Contract Tryd.prog NoG 74 [a0] d :=
  contract_of (pt := 0) noG Tryd.func74 (fun us W => by kernel_rfl) (c := Tryd.f74.body.getD .skip) (ms := [(mB 20 1048566)]) (ms' := []) (by kernel_rfl) (by kernel_rfl) (by kernel_rfl) h
theorem v_markText (k : Int) (hk : k ≤ 4611686018427387904) : Contract Tryd.prog NoG 74 [.v (.int .i64 k)] (.v (.string (markT k))) := by
  refine law_laws_markText ?_; unfold code_laws_markText; simp -implicitDefEqProofs (disch := omega) only [go_sem, ↓reduceIte]; refine cond_split ?_ ?_ <;> intro h
  · have h : k ≤ 0 := of_decide_eq_true h; simp -implicitDefEqProofs (disch := omega) only [go_sem, ↓reduceIte]; unfold markT; rw [if_pos h]
  · have h : ¬ k ≤ 0 := of_decide_eq_false h; obtain ⟨n, rfl⟩ : ∃ n : Nat, k = (n : Int) := ⟨k.toNat, by omega⟩
    have hm : markT (n : Int) = ⟨⟨[109]⟩⟩ ++ decAcc 20 n ⟨⟨[]⟩⟩ := (by unfold markT; rw [if_neg h]; rfl); simp -implicitDefEqProofs (disch := omega) only [go_sem, ↓reduceIte]; refine loop_st (fun z : Nat × ByteArray => [.v (.int .i64 z.1), .undef, .undef, .v (.string z.2), .undef, .undef, .undef, .undef, .undef, .undef, .undef, .undef, .undef, .undef, .undef, .undef, .undef, .undef, .undef, .undef]) (fun z => z.1 ≤ n ∧ ∃ f, z.1 < 10 ^ f ∧ f + z.2.size ≤ 20 ∧ decAcc f z.1 z.2 = decAcc 20 n ⟨⟨[]⟩⟩) (fun z => z.1) (n, ⟨⟨[]⟩⟩) (nleA) ⟨Nat.le_refl _, 20, by simp only; omega, by simp only; exact Nat.le_refl 20, rfl⟩ ?_; rintro ⟨m, out⟩ ⟨hmn, f, hf, hs, hd⟩; simp only at hmn hf hs hd; simp -implicitDefEqProofs (disch := omega) only [go_sem, ↓reduceIte]; refine cond_split ?_ ?_ <;> intro hp
    · have hp : 0 < m := (by have := of_decide_eq_true hp; omega); cases f with
      | zero => simp at hf; omega
      | succ f =>
        have e1 : ((m : Nat) : Int).tmod 10 = ((m % 10 : Nat) : Int) := rfl; have e2 : IntKind.i64.wrap (48 + ((m % 10 : Nat) : Int)) = ((48 + m % 10 : Nat) : Int) := (by rw [wrI (by omega) (by omega)]; simp); have e3 : IntKind.u8.wrap ((48 + m % 10 : Nat) : Int) = ((48 + m % 10 : Nat) : Int) := IntWalk.u8_in _ (by omega); have e4 : IntKind.i64.wrap (((m : Nat) : Int).tdiv 10) = ((m / 10 : Nat) : Int) := (by rw [show ((m : Nat) : Int).tdiv 10 = ((m / 10 : Nat) : Int) from rfl, wrI (by omega) (by omega)]); simp -implicitDefEqProofs (disch := omega) only [go_sem, ↓reduceIte , e1, e2, e3]; refine And.intro (by omega) ?_; refine ⟨[((48 + m % 10 : Nat) : Int)], rfl, ?_⟩; simp -implicitDefEqProofs (disch := omega) only [go_sem, ↓reduceIte , e4]; refine And.intro (by rw [strI_size]; unfold maxLen; simp only [List.length_cons, List.length_nil]; omega) ?_; refine And.intro (by omega) ?_; refine ⟨(m / 10, strI [((48 + m % 10 : Nat) : Int)] ++ out), by simp only; omega, ⟨by simp only; omega, f, ?_, ?_, ?_⟩, nleA⟩
        · simp only; rw [Nat.pow_succ] at hf; omega
        · simp only; rw [ByteArray.size_append, strI_size]; simp only [List.length_cons, List.length_nil]; omega
        · rw [← hd]; simp only [decAcc]; rw [if_neg (by omega)]
    · have hp : m = 0 := (by have := of_decide_eq_false hp; omega); subst hp; rw [decAcc_zero] at hd; simp -implicitDefEqProofs (disch := omega) only [go_sem, ↓reduceIte]; refine And.intro (by unfold maxLen; show 1 + out.size ≤ _; omega) ?_; rw [hm, hd]
theorem markText_any (k : Int) (w : World) (hk : k ≤ 4611686018427387904) : Calls Tryd.prog 74 #[.int .i64 k] w fun e w' => e = .returned (.string (markT k)) ∧ Below w.heap.size w w' := by refine (Contract.at (us := [.int .i64 k]) (v_markText k hk) gI (Nat.le_refl _) (vals_cons (vals_v _) vals_nil)).mono ?_; rintro e w' ⟨⟨v, I, F, rfl, hT, _, _⟩, hb⟩; simp only [T] at hT; exact ⟨by rw [hT.1], hb⟩
def code_impl_below_1 : VCode := (.seq (.ops [
  ⟨(some 3), none, (.asg (.const (.bool false)))⟩]) (.seq (.ops [
  ⟨(some 4), none, (.mv (.tmp 0))⟩,
  ⟨(some 5), none, (.load 1 false (.tmp 1))⟩,
  ⟨(some 6), none, (.bin .sub (.tmp 5) (.const (.int .i64 1)))⟩,
  ⟨(some 7), none, (.callX 28 [(.tmp 4), (.const (.int .i64 0)), (.tmp 6)])⟩,
  ⟨(some 8), none, (.un .not (.tmp 7))⟩,
  ⟨(some 3), none, (.asg (.tmp 8))⟩]) .ret))
theorem law_impl_below_1 {a0 a1 d : D} (h : code_impl_below_1.wp (CT Tryd.prog TabG) (endQ [(.t 3)] d) [a0, a1, .undef, .undef, .undef, .undef, .undef, .undef, .undef]) : Contract Tryd.prog TabG 77 [a0, a1] d :=
  contract_of (pt := 0) tabG Tryd.func77 (fun us W => by kernel_rfl) (c := Tryd.f77.body.getD .skip) (ms := []) (ms' := []) (by kernel_rfl) (by kernel_rfl) (by kernel_rfl) h
def code_impl_below : VCode := (.seq (.ops [
  ⟨(some 3), none, (.box (.tmp 1))⟩,
  ⟨(some 4), none, (.asg (.const (.bool false)))⟩]) (.seq (.ops [
  ⟨(some 5), none, (.mv (.tmp 0))⟩,
  ⟨(some 6), none, (.mkf 77 [] [(.tmp 3)])⟩,
  ⟨(some 7), none, (.callX 76 [(.tmp 5), (.tmp 6)])⟩,
  ⟨(some 8), none, (.un .not (.tmp 7))⟩,
  ⟨(some 4), none, (.asg (.tmp 8))⟩]) .ret))
theorem law_impl_below {a0 a1 d : D} (h : code_impl_below.wp (CT Tryd.prog TabG) (endQ [(.t 4)] d) [a0, a1, .undef, .undef, .undef, .undef, .undef, .undef, .undef]) : Contract Tryd.prog TabG 68 [a0, a1] d :=
  contract_of (pt := 0) tabG Tryd.func68 (fun us W => by kernel_rfl) (c := Tryd.f68.body.getD .skip) (ms := []) (ms' := []) (by kernel_rfl) (by kernel_rfl) (by kernel_rfl) h
theorem v_below1 (n l : Int) (hl : 0 ≤ l) (hl2 : l ≤ 1099511627776) : Contract Tryd.prog TabG 77 [.v (.int .i64 n), .iptr [.v (.int .i64 l)] 0] (.v (.bool (!inR 0 (l - 1) n))) := by refine law_impl_below_1 ?_; unfold code_impl_below_1; have hw : IntKind.i64.wrap (l - 1) = l - 1 := wrI (by omega) (by omega); simp -implicitDefEqProofs (disch := omega) only [go_sem, ↓reduceIte , hw]; refine call_B (v_within n 0 (l - 1)) (by simp -implicitDefEqProofs (disch := omega) only [go_sem, ↓reduceIte, deep, TD.rows, immLL_rI, immLL_rB8, immLL_rS, immLL_rBo, immLL_rII, immLL_rIIt]; exact rfl) ?_; simp -implicitDefEqProofs (disch := omega) only [go_sem, ↓reduceIte]
theorem v_below (xs : List Int) (l : Int) (hl : 0 ≤ l) (hl2 : l ≤ 1099511627776) (hn : xs.length ≤ 1048576) : Contract Tryd.prog TabG 68 [.sl false 1 (xs.map rI), .v (.int .i64 l)] (.v (.bool (xs.all (inR 0 (l - 1))))) := by refine law_impl_below ?_; unfold code_impl_below; simp -implicitDefEqProofs (disch := omega) only [go_sem, ↓reduceIte]; refine call_B (v_ContainsFunc_Int64 _ [.iptr [.v (.int .i64 l)] 0] ⟨rfl, fun _ => rfl, fun _ => rfl, fun _ => rfl⟩ xs (fun n => !inR 0 (l - 1) n) (fun x _ => v_below1 x l hl hl2) (by omega)) (by simp -implicitDefEqProofs (disch := omega) only [go_sem, ↓reduceIte, deep, TD.rows, immLL_rI, immLL_rB8, immLL_rS, immLL_rBo, immLL_rII, immLL_rIIt, any_not, Bool.not_not]; exact rfl) ?_; simp -implicitDefEqProofs (disch := omega) only [go_sem, ↓reduceIte , any_not, Bool.not_not]
def code_laws_toInt64S : VCode := (.seq (.ops [
  ⟨(some 2), none, (.asg (.const (.slice none 0 0)))⟩]) (.seq (.ops [
  ⟨(some 5), none, (.mv (.tmp 0))⟩,
  ⟨(some 6), none, (.len (.tmp 5))⟩,
  ⟨(some 7), none, (.mks 1 8 [(.int .i64 0)] (.tmp 6) (.tmp 6))⟩,
  ⟨(some 3), none, (.asg (.tmp 7))⟩]) (.seq (.seq (.ops [
  ⟨(some 4), none, (.asg (.const (.int .i64 0)))⟩]) (.block 0 (.loop (mB 22 4194150) (.seq (.seq (.ops [
  ⟨(some 8), none, (.mv (.tmp 4))⟩,
  ⟨(some 9), none, (.mv (.tmp 0))⟩,
  ⟨(some 10), none, (.len (.tmp 9))⟩,
  ⟨(some 11), none, (.bin .lss (.tmp 8) (.tmp 10))⟩]) (.cond (.tmp 11) .skip (.exit 0))) (.seq (.block 1 (.ops [
  ⟨(some 14), none, (.mv (.tmp 3))⟩,
  ⟨(some 15), none, (.mv (.tmp 4))⟩,
  ⟨(some 16), none, (.mv (.tmp 0))⟩,
  ⟨(some 17), none, (.mv (.tmp 4))⟩,
  ⟨(some 18), none, (.ia 1 (.tmp 16) (.tmp 17))⟩,
  ⟨(some 19), none, (.load 1 false (.tmp 18))⟩,
  ⟨(some 20), none, (.ia 1 (.tmp 14) (.tmp 15))⟩,
  ⟨none, none, (.store 1 (.tmp 20) (.tmp 19))⟩])) (.ops [
  ⟨(some 12), none, (.mv (.tmp 4))⟩,
  ⟨(some 13), none, (.bin .add (.tmp 12) (.const (.int .i64 1)))⟩,
  ⟨(some 4), none, (.asg (.tmp 13))⟩])))))) (.seq (.ops [
  ⟨(some 21), none, (.mv (.tmp 3))⟩,
  ⟨(some 2), none, (.asg (.tmp 21))⟩]) .ret))))
theorem law_laws_toInt64S {a0 d : D} (h : code_laws_toInt64S.wp (CT Tryd.prog TabG) (endQ [(.t 2)] d) [a0, .undef, .undef, .undef, .undef, .undef, .undef, .undef, .undef, .undef, .undef, .undef, .undef, .undef, .undef, .undef, .undef, .undef, .undef, .undef, .undef, .undef]) : Contract Tryd.prog TabG 14 [a0] d :=
  contract_of (pt := 0) tabG Tryd.func14 (fun us W => by kernel_rfl) (c := Tryd.f14.body.getD .skip) (ms := [(mB 22 4194150)]) (ms' := []) (by kernel_rfl) (by kernel_rfl) (by kernel_rfl) h
set_option maxHeartbeats 2000000 in
theorem v_toInt64S (xs : List Int) (hn : xs.length ≤ 1048576) : Contract Tryd.prog TabG 14 [.sl false 1 (xs.map (rI))] (.sl true 1 (xs.map (rI))) := by
  have hl : xs.length ≤ 1048576 := (by exact hn); refine law_laws_toInt64S ?_; unfold code_laws_toInt64S; simp -implicitDefEqProofs (disch := omega) only [go_sem, ↓reduceIte , List.length_map, Int.toNat_natCast]; refine ⟨by omega, by omega, by omega, ?_⟩; refine loop_st (fun k : Nat => [.sl false 1 (xs.map (rI)), .undef, .undef, .sl true 1 ((xs.take k).map (rI) ++ List.replicate (xs.length - k) [D.v (.int .i64 0)]), .v (.int .i64 k), .undef, .undef, .undef, .undef, .undef, .undef, .undef, .undef, .undef, .undef, .undef, .undef, .undef, .undef, .undef, .undef, .undef]) (fun k => k ≤ xs.length) (fun k => xs.length - k) 0 (nleA) (Nat.zero_le _) ?_; intro k hk; simp -implicitDefEqProofs (disch := omega) only [go_sem, ↓reduceIte , List.length_map, Int.toNat_natCast, Int.ofNat_lt, Int.natCast_nonneg, List.getElem?_map, Option.map_some]; refine cond_split ?_ ?_ <;> intro hlt
  · have hlt : k < xs.length := (by simpa using hlt); have e1 := List.getElem?_eq_getElem hlt; have g1 := fill_len xs (rI) [D.v (.int .i64 0)] k; have g2 := fill_at xs (rI) [D.v (.int .i64 0)] k hlt; have g3 := fill_next xs (rI) [D.v (.int .i64 0)] k hlt; have g4 : k < ((xs.take k).map (rI) ++ List.replicate (xs.length - k) [D.v (.int .i64 0)]).length := (by rw [g1]; exact hlt); simp -implicitDefEqProofs (disch := omega) only [go_sem, ↓reduceIte , List.length_map, Int.toNat_natCast, Int.ofNat_lt, Int.natCast_nonneg, List.getElem?_map, Option.map_some, hlt, e1, g1, g2, List.set_set, List.getElem?_set_self g4, wrN]; refine ⟨k + 1, by omega, hlt, ?_⟩; rw [← g3]
    (try simp -implicitDefEqProofs only [nleL_cc, nleL_nn, nle_self, nle_boxs, nle_aggs, nle_nils, and_self, and_true, true_and]) <;> repeat' (first | exact nle_of_eq rfl | exact nle_nil | apply And.intro | apply nle_sl | apply nleLL_cons | apply nleL_cons | exact nleL_nil | exact nleLL_nil | apply nle_box | apply nle_agg)
  · have hge : k = xs.length := (by have : ¬ k < xs.length := (by simpa using hlt); omega); subst hge; simp -implicitDefEqProofs (disch := omega) only [go_sem, ↓reduceIte , fill_end]
end Go.Proofs.YtbflchedmfeghaaDoor
