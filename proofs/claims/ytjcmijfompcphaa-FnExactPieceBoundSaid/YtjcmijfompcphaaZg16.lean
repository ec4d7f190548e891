/- Laws that the proof stands on. -/
import Derived.Test.YtjcmijfompcphaaZTdPattern
import Derived.Test.YtjcmijfompcphaaZg10
import Derived.Test.YtjcmijfompcphaaZg8
set_option linter.all false
namespace Go.Proofs.Ytjcmijfompcphaa
open Go.RowKit Go.V
attribute [local go_sem] List.getElem?_cons_succ List.getElem?_cons_zero List.set_cons_succ List.set_cons_zero List.map_cons List.map_nil List.length_cons List.length_nil List.all_cons List.all_nil List.drop_succ_cons List.drop_zero List.take_succ_cons List.take_zero List.flatMap_cons List.flatMap_nil List.cons_append List.nil_append List.append_nil List.headD_cons Value.oneCell' Bool.and_true Bool.true_and Bool.or_false Bool.false_or Bool.and_self Bool.not_true Bool.not_false and_true true_and beq_self_eq_true Bool.false_eq_true if_true if_false Nat.zero_add Nat.reduceAdd Nat.reduceMul Nat.reduceLeDiff Nat.le_refl Option.isSome_some Option.isSome_none not_true_eq_false not_false_eq_true ne_eq reduceCtorEq List.reverse_nil bne_self_eq_false Nat.reduceEqDiff List.isPrefixOf Bool.not_eq_true Bool.and_false Bool.false_and Bool.true_or Bool.or_true decide_true decide_false Nat.reduceBEq Nat.reduceBNe List.replicate_succ List.replicate_zero exists_eq_left' exists_eq_left Option.some.injEq or_false or_true true_or false_or Option.map_some Option.map_none mB Nat.reduceMod Nat.reduceDiv
set_option maxRecDepth 100000
def okPattern (q : Pattern) : Bool := inR 1 10 q.Width && (inR 1 10 q.Height && (decide ((q.Cells.length : Int) = q.Width * q.Height) && q.Cells.all (inR 0 5)))
def code_spec_l24Ok : VCode := (.seq (.ops [
  ⟨(some 2), none, (.asg (.const (.bool false)))⟩]) (.seq (.seq (.draw (mB 33 8589934576) [] [⟨0, (mB 33 8589934576), [], ⟨(some 4), none, (.mv (.tmp 0))⟩⟩, ⟨1, (mB 33 8589934560), [], ⟨(some 5), none, (.nilc (.tmp 4))⟩⟩, ⟨2, (mB 33 8589934528), [], ⟨(some 6), none, (.fa 0 (.tmp 5))⟩⟩, ⟨3, (mB 33 8589934464), [], ⟨(some 7), none, (.load 1 false (.tmp 6))⟩⟩, ⟨4, (mB 33 8589934336), [], ⟨(some 8), none, (.call 16 [(.tmp 7), (.const (.int .i64 1)), (.const (.int .i64 10))])⟩⟩, ⟨5, (mB 33 8589934080), [], ⟨(some 9), none, (.un .not (.tmp 8))⟩⟩, ⟨6, (mB 33 8589933568), [], ⟨(some 10), none, (.mv (.tmp 9))⟩⟩, ⟨7, (mB 33 8589932544), [], ⟨(some 11), (some (10, false)), (.mv (.tmp 0))⟩⟩, ⟨8, (mB 33 8589930496), [], ⟨(some 12), (some (10, false)), (.nilc (.tmp 11))⟩⟩, ⟨9, (mB 33 8589926400), [], ⟨(some 13), (some (10, false)), (.fa 1 (.tmp 12))⟩⟩, ⟨10, (mB 33 8589918208), [], ⟨(some 14), (some (10, false)), (.load 1 false (.tmp 13))⟩⟩, ⟨11, (mB 33 8589901824), [], ⟨(some 15), (some (10, false)), (.call 16 [(.tmp 14), (.const (.int .i64 1)), (.const (.int .i64 10))])⟩⟩, ⟨12, (mB 33 8589869056), [], ⟨(some 16), (some (10, false)), (.un .not (.tmp 15))⟩⟩, ⟨13, (mB 33 8589803520), [], ⟨(some 17), none, (.pick (.tmp 10) (.const (.bool true)) (.tmp 16))⟩⟩, ⟨14, (mB 33 8589672448), [], ⟨(some 18), none, (.mv (.tmp 17))⟩⟩, ⟨15, (mB 33 8589410304), [], ⟨(some 19), (some (18, false)), (.mv (.tmp 0))⟩⟩, ⟨16, (mB 33 8588886016), [], ⟨(some 20), (some (18, false)), (.nilc (.tmp 19))⟩⟩, ⟨17, (mB 33 8587837440), [], ⟨(some 21), (some (18, false)), (.fa 2 (.tmp 20))⟩⟩, ⟨18, (mB 33 8585740288), [], ⟨(some 22), (some (18, false)), (.load 1 false (.tmp 21))⟩⟩, ⟨19, (mB 33 8581545984), [], ⟨(some 23), (some (18, false)), (.len (.tmp 22))⟩⟩, ⟨20, (mB 33 8589410304), [], ⟨(some 24), (some (18, false)), (.mv (.tmp 0))⟩⟩, ⟨21, (mB 33 8572633088), [], ⟨(some 25), (some (18, false)), (.nilc (.tmp 24))⟩⟩, ⟨22, (mB 33 8539078656), [], ⟨(some 26), (some (18, false)), (.fa 0 (.tmp 25))⟩⟩, ⟨23, (mB 33 8471969792), [], ⟨(some 27), (some (18, false)), (.load 1 false (.tmp 26))⟩⟩, ⟨24, (mB 33 8589410304), [], ⟨(some 28), (some (18, false)), (.mv (.tmp 0))⟩⟩, ⟨25, (mB 33 8320974848), [], ⟨(some 29), (some (18, false)), (.nilc (.tmp 28))⟩⟩, ⟨26, (mB 33 7784103936), [], ⟨(some 30), (some (18, false)), (.fa 1 (.tmp 29))⟩⟩, ⟨27, (mB 33 6710362112), [], ⟨(some 31), (some (18, false)), (.load 1 false (.tmp 30))⟩⟩, ⟨28, (mB 33 4311220224), [], ⟨(some 32), (some (18, false)), (.bin .mul (.tmp 27) (.tmp 31))⟩⟩] [⟨(some 33), (some (18, false)), (.bin .neq (.tmp 23) (.tmp 32))⟩, ⟨(some 34), none, (.pick (.tmp 18) (.const (.bool true)) (.tmp 33))⟩]) (.cond (.tmp 34) (.seq (.ops [
  ⟨(some 2), none, (.asg (.const (.bool false)))⟩]) .ret) .skip)) (.seq (.seq (.ops [
  ⟨(some 3), none, (.asg (.const (.int .i64 0)))⟩]) (.block 0 (.loop (mB 53 9007199254740982) (.seq (.seq (.ops [
  ⟨(some 35), none, (.mv (.tmp 3))⟩,
  ⟨(some 36), none, (.mv (.tmp 0))⟩,
  ⟨(some 37), none, (.nilc (.tmp 36))⟩,
  ⟨(some 38), none, (.fa 2 (.tmp 37))⟩,
  ⟨(some 39), none, (.load 1 false (.tmp 38))⟩,
  ⟨(some 40), none, (.len (.tmp 39))⟩,
  ⟨(some 41), none, (.bin .lss (.tmp 35) (.tmp 40))⟩]) (.cond (.tmp 41) .skip (.exit 0))) (.seq (.block 1 (.seq (.ops [
  ⟨(some 44), none, (.mv (.tmp 0))⟩,
  ⟨(some 45), none, (.nilc (.tmp 44))⟩,
  ⟨(some 46), none, (.fa 2 (.tmp 45))⟩,
  ⟨(some 47), none, (.load 1 false (.tmp 46))⟩,
  ⟨(some 48), none, (.mv (.tmp 3))⟩,
  ⟨(some 49), none, (.ia 1 (.tmp 47) (.tmp 48))⟩,
  ⟨(some 50), none, (.load 1 false (.tmp 49))⟩,
  ⟨(some 51), none, (.callX 16 [(.tmp 50), (.const (.int .i64 0)), (.const (.int .i64 5))])⟩,
  ⟨(some 52), none, (.un .not (.tmp 51))⟩]) (.cond (.tmp 52) (.seq (.ops [
  ⟨(some 2), none, (.asg (.const (.bool false)))⟩]) .ret) .skip))) (.ops [
  ⟨(some 42), none, (.mv (.tmp 3))⟩,
  ⟨(some 43), none, (.bin .add (.tmp 42) (.const (.int .i64 1)))⟩,
  ⟨(some 3), none, (.asg (.tmp 43))⟩])))))) (.seq (.ops [
  ⟨(some 2), none, (.asg (.const (.bool true)))⟩]) .ret))))
theorem law_spec_l24Ok {a0 d : D} (h : code_spec_l24Ok.wp (CT Try.prog NoG) (endQ [(.t 2)] d) [a0, .undef, .undef, .undef, .undef, .undef, .undef, .undef, .undef, .undef, .undef, .undef, .undef, .undef, .undef, .undef, .undef, .undef, .undef, .undef, .undef, .undef, .undef, .undef, .undef, .undef, .undef, .undef, .undef, .undef, .undef, .undef, .undef, .undef, .undef, .undef, .undef, .undef, .undef, .undef, .undef, .undef, .undef, .undef, .undef, .undef, .undef, .undef, .undef, .undef, .undef, .undef, .undef]) : Contract Try.prog NoG 10 [a0] d :=
  contract_of (pt := 0) noG Try.func10 (fun us W => by kernel_rfl) (c := Try.f10.body.getD .skip) (ms := [(mB 53 9007199254740982)]) (ms' := []) (by kernel_rfl) (by kernel_rfl) (by kernel_rfl) h
theorem v_l24Ok (q : Pattern) (hn : q.Cells.length ≤ 1048576) : Contract Try.prog NoG 10 [.iptr (Pattern.td.d false q) 0] (.v (.bool (okPattern q))) := by
  rw [Pattern.td_d]; unfold okPattern; refine law_spec_l24Ok ?_; unfold code_spec_l24Ok; simp -implicitDefEqProofs (disch := omega) only [go_sem, ↓reduceIte]; refine call_NB (v_l00In _ _ _) (by simp -implicitDefEqProofs (disch := omega) only [go_sem, ↓reduceIte, deep, TD.rows, immLL_rI, immLL_rB8, immLL_rS, immLL_rBo, immLL_rII, immLL_rIIt]; exact rfl) ?_; simp -implicitDefEqProofs (disch := omega) only [go_sem, ↓reduceIte]; refine gd_split ?_ ?_ <;> intro h1
  · simp -implicitDefEqProofs (disch := omega) only [go_sem, ↓reduceIte , h1]; simp only [Bool.not_eq_true'] at h1; simp [h1]
  · simp -implicitDefEqProofs (disch := omega) only [go_sem, ↓reduceIte , h1]; simp only [Bool.not_eq_false'] at h1; refine call_NB (v_l00In _ _ _) (by simp -implicitDefEqProofs (disch := omega) only [go_sem, ↓reduceIte, deep, TD.rows, immLL_rI, immLL_rB8, immLL_rS, immLL_rBo, immLL_rII, immLL_rIIt]; exact rfl) ?_; simp -implicitDefEqProofs (disch := omega) only [go_sem, ↓reduceIte]; refine gd_split ?_ ?_ <;> intro h2
    · simp -implicitDefEqProofs (disch := omega) only [go_sem, ↓reduceIte , h1, h2]; simp only [Bool.not_eq_true'] at h2; simp [h2]
    · have hw := inR_iff.1 h1; simp -implicitDefEqProofs (disch := omega) only [go_sem, ↓reduceIte , h1, h2]; simp only [Bool.not_eq_false'] at h2; have hh := inR_iff.1 h2; have hm : IntKind.i64.wrap (q.Width * q.Height) = q.Width * q.Height := (by have h3 : q.Width * q.Height ≤ 10 * 10 := Int.mul_le_mul hw.2 hh.2 (by omega) (by omega); have h4 : 0 ≤ q.Width * q.Height := Int.mul_nonneg (by omega) (by omega); exact wrI (by omega) (by omega)); rw [hm]; refine cond_split ?_ ?_ <;> intro h3 <;> simp only [List.length_map] at h3
      · simp -implicitDefEqProofs (disch := omega) only [go_sem, ↓reduceIte]; simp only [Bool.not_eq_true', decide_eq_false_iff_not] at h3; simp [h3]
      · simp -implicitDefEqProofs (disch := omega) only [go_sem, ↓reduceIte]; simp only [Bool.not_eq_false', decide_eq_true_eq] at h3; refine loop_st (fun i : Nat => [.iptr [.v (.int .i64 q.Width), .v (.int .i64 q.Height), .sl false 1 (q.Cells.map rI)] 0, .undef, .undef, .v (.int .i64 i), .undef, .undef, .undef, .undef, .undef, .undef, .undef, .undef, .undef, .undef, .undef, .undef, .undef, .undef, .undef, .undef, .undef, .undef, .undef, .undef, .undef, .undef, .undef, .undef, .undef, .undef, .undef, .undef, .undef, .undef, .undef, .undef, .undef, .undef, .undef, .undef, .undef, .undef, .undef, .undef, .undef, .undef, .undef, .undef, .undef, .undef, .undef, .undef, .undef]) (fun i => i ≤ q.Cells.length ∧ (q.Cells.take i).all (inR 0 5) = true) (fun i => q.Cells.length - i) 0 (nleA) ⟨Nat.zero_le _, by simp⟩ ?_; rintro i ⟨hi, ha⟩; simp -implicitDefEqProofs (disch := omega) only [go_sem, ↓reduceIte , List.length_map, Int.toNat_natCast, Int.ofNat_lt, Int.natCast_nonneg, List.getElem?_map, Option.map_some]; refine cond_split ?_ ?_ <;> intro hlt
        · have hlt : i < q.Cells.length := (by simpa using hlt); have hx := List.getElem?_eq_getElem hlt; simp -implicitDefEqProofs (disch := omega) only [go_sem, ↓reduceIte , List.length_map, Int.toNat_natCast, Int.ofNat_lt, Int.natCast_nonneg, List.getElem?_map, Option.map_some, hlt, hx]; refine call_B (v_l00In _ _ _) (by simp -implicitDefEqProofs (disch := omega) only [go_sem, ↓reduceIte, deep, TD.rows, immLL_rI, immLL_rB8, immLL_rS, immLL_rBo, immLL_rII, immLL_rIIt]; exact rfl) ?_; simp -implicitDefEqProofs (disch := omega) only [go_sem, ↓reduceIte]; refine cond_split ?_ ?_ <;> intro hc
          · simp -implicitDefEqProofs (disch := omega) only [go_sem, ↓reduceIte]; have hc : inR 0 5 q.Cells[i] = false := by simpa using hc
            have : q.Cells.all (inR 0 5) = false := (by rw [List.all_eq_false]; exact ⟨_, List.getElem_mem hlt, by simp [hc]⟩); simp [this]
          · simp -implicitDefEqProofs (disch := omega) only [go_sem, ↓reduceIte , wrN]; have hc : inR 0 5 q.Cells[i] = true := by simpa using hc
            refine ⟨i + 1, by omega, ⟨hlt, ?_⟩, nleA⟩; rw [List.take_succ_eq_append_getElem hlt, List.all_append, ha]; simp [hc]
        · have hlt : ¬ i < q.Cells.length := (by simpa using hlt); simp -implicitDefEqProofs (disch := omega) only [go_sem, ↓reduceIte]; rw [List.take_of_length_le (by omega)] at ha; simp [h1, h2, h3, ha]
def code_impl_below_1 : VCode := (.seq (.ops [
  ⟨(some 3), none, (.asg (.const (.bool false)))⟩]) (.seq (.ops [
  ⟨(some 4), none, (.mv (.tmp 0))⟩,
  ⟨(some 5), none, (.load 1 false (.tmp 1))⟩,
  ⟨(some 6), none, (.bin .sub (.tmp 5) (.const (.int .i64 1)))⟩,
  ⟨(some 7), none, (.callX 18 [(.tmp 4), (.const (.int .i64 0)), (.tmp 6)])⟩,
  ⟨(some 8), none, (.un .not (.tmp 7))⟩,
  ⟨(some 3), none, (.asg (.tmp 8))⟩]) .ret))
theorem law_impl_below_1 {a0 a1 d : D} (h : code_impl_below_1.wp (CT Try.prog NoG) (endQ [(.t 3)] d) [a0, a1, .undef, .undef, .undef, .undef, .undef, .undef, .undef]) : Contract Try.prog NoG 24 [a0, a1] d :=
  contract_of (pt := 0) noG Try.func24 (fun us W => by kernel_rfl) (c := Try.f24.body.getD .skip) (ms := []) (ms' := []) (by kernel_rfl) (by kernel_rfl) (by kernel_rfl) h
def code_impl_below : VCode := (.seq (.ops [
  ⟨(some 3), none, (.box (.tmp 1))⟩,
  ⟨(some 4), none, (.asg (.const (.bool false)))⟩]) (.seq (.ops [
  ⟨(some 5), none, (.mv (.tmp 0))⟩,
  ⟨(some 6), none, (.mkf 24 [] [(.tmp 3)])⟩,
  ⟨(some 7), none, (.callX 23 [(.tmp 5), (.tmp 6)])⟩,
  ⟨(some 8), none, (.un .not (.tmp 7))⟩,
  ⟨(some 4), none, (.asg (.tmp 8))⟩]) .ret))
theorem law_impl_below {a0 a1 d : D} (h : code_impl_below.wp (CT Try.prog NoG) (endQ [(.t 4)] d) [a0, a1, .undef, .undef, .undef, .undef, .undef, .undef, .undef]) : Contract Try.prog NoG 19 [a0, a1] d :=
  contract_of (pt := 0) noG Try.func19 (fun us W => by kernel_rfl) (c := Try.f19.body.getD .skip) (ms := []) (ms' := []) (by kernel_rfl) (by kernel_rfl) (by kernel_rfl) h
def code_impl_ValidPattern : VCode := (.seq (.ops [
  ⟨(some 1), none, (.box (.tmp 0))⟩,
  ⟨(some 2), none, (.asg (.const (.bool false)))⟩]) (.seq (.ops [
  ⟨(some 3), none, (.fa 0 (.tmp 1))⟩,
  ⟨(some 4), none, (.load 1 false (.tmp 3))⟩,
  ⟨(some 5), none, (.callX 18 [(.tmp 4), (.const (.int .i64 1)), (.const (.int .i64 10))])⟩,
  ⟨(some 6), none, (.mv (.tmp 5))⟩,
  ⟨(some 7), (some (6, true)), (.fa 1 (.tmp 1))⟩,
  ⟨(some 8), (some (6, true)), (.load 1 false (.tmp 7))⟩,
  ⟨(some 9), (some (6, true)), (.callX 18 [(.tmp 8), (.const (.int .i64 1)), (.const (.int .i64 10))])⟩,
  ⟨(some 10), none, (.pick (.tmp 6) (.tmp 9) (.const (.bool false)))⟩,
  ⟨(some 11), none, (.mv (.tmp 10))⟩,
  ⟨(some 12), (some (11, true)), (.fa 2 (.tmp 1))⟩,
  ⟨(some 13), (some (11, true)), (.load 1 false (.tmp 12))⟩,
  ⟨(some 14), (some (11, true)), (.len (.tmp 13))⟩,
  ⟨(some 15), (some (11, true)), (.fa 0 (.tmp 1))⟩,
  ⟨(some 16), (some (11, true)), (.load 1 false (.tmp 15))⟩,
  ⟨(some 17), (some (11, true)), (.fa 1 (.tmp 1))⟩,
  ⟨(some 18), (some (11, true)), (.load 1 false (.tmp 17))⟩,
  ⟨(some 19), (some (11, true)), (.bin .mul (.tmp 16) (.tmp 18))⟩,
  ⟨(some 20), (some (11, true)), (.bin .eql (.tmp 14) (.tmp 19))⟩,
  ⟨(some 21), none, (.pick (.tmp 11) (.tmp 20) (.const (.bool false)))⟩,
  ⟨(some 22), none, (.mv (.tmp 21))⟩,
  ⟨(some 23), (some (22, true)), (.fa 2 (.tmp 1))⟩,
  ⟨(some 24), (some (22, true)), (.load 1 false (.tmp 23))⟩,
  ⟨(some 25), (some (22, true)), (.callX 19 [(.tmp 24), (.const (.int .i64 6))])⟩,
  ⟨(some 26), none, (.pick (.tmp 22) (.tmp 25) (.const (.bool false)))⟩,
  ⟨(some 2), none, (.asg (.tmp 26))⟩]) .ret))
theorem law_impl_ValidPattern {a0 d : D} (h : code_impl_ValidPattern.wp (CT Try.prog NoG) (endQ [(.t 2)] d) [a0, .undef, .undef, .undef, .undef, .undef, .undef, .undef, .undef, .undef, .undef, .undef, .undef, .undef, .undef, .undef, .undef, .undef, .undef, .undef, .undef, .undef, .undef, .undef, .undef, .undef, .undef]) : Contract Try.prog NoG 13 [a0] d :=
  contract_of (pt := 0) noG Try.func13 (fun us W => by kernel_rfl) (c := Try.f13.body.getD .skip) (ms := []) (ms' := []) (by kernel_rfl) (by kernel_rfl) (by kernel_rfl) h
theorem v_below1 (n l : Int) (hl : 0 ≤ l ∧ l ≤ 1000000) : Contract Try.prog NoG 24 [.v (.int .i64 n), .iptr [.v (.int .i64 l)] 0] (.v (.bool (!inR 0 (l - 1) n))) := by refine law_impl_below_1 ?_; unfold code_impl_below_1; simp -implicitDefEqProofs (disch := omega) only [go_sem, ↓reduceIte , wrI]; refine call_B (v_within _ _ _) (by simp -implicitDefEqProofs (disch := omega) only [go_sem, ↓reduceIte, deep, TD.rows, immLL_rI, immLL_rB8, immLL_rS, immLL_rBo, immLL_rII, immLL_rIIt]; exact rfl) ?_; simp -implicitDefEqProofs (disch := omega) only [go_sem, ↓reduceIte]
theorem v_below (xs : List Int) (l : Int) (hl : 0 ≤ l ∧ l ≤ 1000000) (hn : xs.length ≤ 1099511627776) : Contract Try.prog NoG 19 [.sl false 1 (xs.map rI), .v (.int .i64 l)] (.v (.bool (xs.all (inR 0 (l - 1))))) := by refine law_impl_below ?_; unfold code_impl_below; simp -implicitDefEqProofs (disch := omega) only [go_sem, ↓reduceIte]; refine call_B (v_ContainsFunc_Int64 _ [.iptr [.v (.int .i64 l)] 0] ⟨rfl, fun _ => rfl, fun _ => rfl, fun _ => rfl⟩ xs (fun n => !inR 0 (l - 1) n) (fun x _ => v_below1 x l hl) hn) (by simp -implicitDefEqProofs (disch := omega) only [go_sem, ↓reduceIte, deep, TD.rows, immLL_rI, immLL_rB8, immLL_rS, immLL_rBo, immLL_rII, immLL_rIIt]; exact rfl) ?_; simp -implicitDefEqProofs (disch := omega) only [go_sem, ↓reduceIte]; rw [List.all_eq_not_any_not]
theorem v_ValidPattern (q : Pattern) (hn : q.Cells.length ≤ 1048576) : Contract Try.prog NoG 13 [.agg (Pattern.td.d false q)] (.v (.bool (okPattern q))) := by
  rw [Pattern.td_d]; unfold okPattern; refine law_impl_ValidPattern ?_; unfold code_impl_ValidPattern; simp -implicitDefEqProofs (disch := omega) only [go_sem, ↓reduceIte]; refine call_B (v_within _ _ _) (by simp -implicitDefEqProofs (disch := omega) only [go_sem, ↓reduceIte, deep, TD.rows, immLL_rI, immLL_rB8, immLL_rS, immLL_rBo, immLL_rII, immLL_rIIt]; exact rfl) ?_; simp -implicitDefEqProofs (disch := omega) only [go_sem, ↓reduceIte]; refine guard_split ?_ ?_ <;> intro h1
  · simp -implicitDefEqProofs (disch := omega) only [go_sem, ↓reduceIte , h1]; refine call_B (v_within _ _ _) (by simp -implicitDefEqProofs (disch := omega) only [go_sem, ↓reduceIte, deep, TD.rows, immLL_rI, immLL_rB8, immLL_rS, immLL_rBo, immLL_rII, immLL_rIIt]; exact rfl) ?_; simp -implicitDefEqProofs (disch := omega) only [go_sem, ↓reduceIte]; refine guard_split ?_ ?_ <;> intro h2
    · have hw := inR_iff.1 h1; have hh := inR_iff.1 h2; have hm : IntKind.i64.wrap (q.Width * q.Height) = q.Width * q.Height := (by have h3 : q.Width * q.Height ≤ 10 * 10 := Int.mul_le_mul hw.2 hh.2 (by omega) (by omega); have h4 : 0 ≤ q.Width * q.Height := Int.mul_nonneg (by omega) (by omega); exact wrI (by omega) (by omega)); simp -implicitDefEqProofs (disch := omega) only [go_sem, ↓reduceIte , h1, h2, hm, List.length_map]; refine guard_split ?_ ?_ <;> intro h3
      · simp -implicitDefEqProofs (disch := omega) only [go_sem, ↓reduceIte , h1, h2, h3]; refine call_B (v_below q.Cells 6 ⟨by omega, by omega⟩ (by omega)) (by simp -implicitDefEqProofs (disch := omega) only [go_sem, ↓reduceIte, deep, TD.rows, immLL_rI, immLL_rB8, immLL_rS, immLL_rBo, immLL_rII, immLL_rIIt]; exact rfl) ?_; simp -implicitDefEqProofs (disch := omega) only [go_sem, ↓reduceIte]; rfl
      · simp -implicitDefEqProofs (disch := omega) only [go_sem, ↓reduceIte , h1, h2, h3]
    · simp -implicitDefEqProofs (disch := omega) only [go_sem, ↓reduceIte , h1, h2]
  · simp -implicitDefEqProofs (disch := omega) only [go_sem, ↓reduceIte , h1]
def code_laws_toPattern : VCode := (.seq (.ops [
  ⟨(some 1), none, (.box (.tmp 0))⟩,
  ⟨(some 2), none, (.alloc [(.int .i64 0), (.int .i64 0), (.slice none 0 0)])⟩]) (.seq (.ops [
  ⟨(some 3), none, (.alloc [(.int .i64 0), (.int .i64 0), (.slice none 0 0)])⟩]) (.seq (.ops [
  ⟨(some 4), none, (.fa 0 (.tmp 1))⟩,
  ⟨(some 5), none, (.load 1 false (.tmp 4))⟩,
  ⟨(some 6), none, (.fa 0 (.tmp 3))⟩,
  ⟨none, none, (.store 1 (.tmp 6) (.tmp 5))⟩]) (.seq (.ops [
  ⟨(some 7), none, (.fa 1 (.tmp 1))⟩,
  ⟨(some 8), none, (.load 1 false (.tmp 7))⟩,
  ⟨(some 9), none, (.fa 1 (.tmp 3))⟩,
  ⟨none, none, (.store 1 (.tmp 9) (.tmp 8))⟩]) (.seq (.ops [
  ⟨(some 10), none, (.fa 2 (.tmp 1))⟩,
  ⟨(some 11), none, (.load 1 false (.tmp 10))⟩,
  ⟨(some 12), none, (.callX 12 [(.tmp 11)])⟩,
  ⟨(some 13), none, (.fa 2 (.tmp 3))⟩,
  ⟨none, none, (.store 1 (.tmp 13) (.tmp 12))⟩]) (.seq (.ops [
  ⟨(some 14), none, (.load 3 true (.tmp 3))⟩,
  ⟨none, none, (.store 3 (.tmp 2) (.tmp 14))⟩]) .ret))))))
theorem law_laws_toPattern {a0 d : D} (h : code_laws_toPattern.wp (CT Try.prog NoG) (endQ [(.c 2 3 true)] d) [a0, .undef, .undef, .undef, .undef, .undef, .undef, .undef, .undef, .undef, .undef, .undef, .undef, .undef, .undef]) : Contract Try.prog NoG 6 [a0] d :=
  contract_of (pt := 0) noG Try.func6 (fun us W => by kernel_rfl) (c := Try.f6.body.getD .skip) (ms := []) (ms' := []) (by kernel_rfl) (by kernel_rfl) (by kernel_rfl) h
set_option maxHeartbeats 2000000 in
theorem v_toPattern (q : Pattern) (hn : Pattern.cnt q ≤ 1048576) : Contract Try.prog NoG 6 [.agg (Pattern.td.d false q)] (.agg (Pattern.td.d true q)) := by rw [Pattern.td_d, Pattern.td_d]; refine law_laws_toPattern ?_; unfold code_laws_toPattern; have hn0 := hn; unfold Pattern.cnt at hn; simp -implicitDefEqProofs (disch := omega) only [go_sem, ↓reduceIte]; refine call_B (v_toInt64S q.Cells (by omega)) (by simp -implicitDefEqProofs (disch := omega) only [go_sem, ↓reduceIte, deep, TD.rows, immLL_rI, immLL_rB8, immLL_rS, immLL_rBo, immLL_rII, immLL_rIIt]; exact rfl) ?_; simp -implicitDefEqProofs (disch := omega) only [go_sem, ↓reduceIte]
end Go.Proofs.Ytjcmijfompcphaa
