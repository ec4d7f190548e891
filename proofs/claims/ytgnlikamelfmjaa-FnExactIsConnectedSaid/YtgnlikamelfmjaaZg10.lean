/- Laws that the proof stands on. -/
import Derived.Test.YtgnlikamelfmjaaZVB
import Derived.Test.YtgnlikamelfmjaaProg
import Derived.Test.YtgnlikamelfmjaaZg9
set_option linter.all false
namespace Go.Proofs.Ytgnlikamelfmjaa
open Go.RowKit Go.V
attribute [local go_sem] List.getElem?_cons_succ List.getElem?_cons_zero List.set_cons_succ List.set_cons_zero List.map_cons List.map_nil List.length_cons List.length_nil List.all_cons List.all_nil List.drop_succ_cons List.drop_zero List.take_succ_cons List.take_zero List.flatMap_cons List.flatMap_nil List.cons_append List.nil_append List.append_nil List.headD_cons Value.oneCell' Bool.and_true Bool.true_and Bool.or_false Bool.false_or Bool.and_self Bool.not_true Bool.not_false and_true true_and beq_self_eq_true Bool.false_eq_true if_true if_false Nat.zero_add Nat.reduceAdd Nat.reduceMul Nat.reduceLeDiff Nat.le_refl Option.isSome_some Option.isSome_none not_true_eq_false not_false_eq_true ne_eq reduceCtorEq List.reverse_nil bne_self_eq_false Nat.reduceEqDiff List.isPrefixOf Bool.not_eq_true Bool.and_false Bool.false_and Bool.true_or Bool.or_true decide_true decide_false Nat.reduceBEq Nat.reduceBNe List.replicate_succ List.replicate_zero exists_eq_left' exists_eq_left Option.some.injEq or_false or_true true_or false_or Option.map_some Option.map_none mB Nat.reduceMod Nat.reduceDiv
set_option maxRecDepth 100000
def inR (lo hi n : Int) : Bool := decide (lo ≤ n) && decide (n ≤ hi)
def code_spec_l00In : VCode := (.seq (.ops [
  ⟨(some 6), none, (.asg (.const (.bool false)))⟩]) (.seq (.ops [
  ⟨(some 7), none, (.mv (.tmp 0))⟩,
  ⟨(some 8), none, (.mv (.tmp 1))⟩,
  ⟨(some 9), none, (.bin .geq (.tmp 7) (.tmp 8))⟩,
  ⟨(some 10), none, (.mv (.tmp 9))⟩,
  ⟨(some 11), (some (10, true)), (.mv (.tmp 0))⟩,
  ⟨(some 12), (some (10, true)), (.mv (.tmp 2))⟩,
  ⟨(some 13), (some (10, true)), (.bin .leq (.tmp 11) (.tmp 12))⟩,
  ⟨(some 14), none, (.pick (.tmp 10) (.tmp 13) (.const (.bool false)))⟩,
  ⟨(some 6), none, (.asg (.tmp 14))⟩]) .ret))
theorem law_spec_l00In {a0 a1 a2 d : D} (h : code_spec_l00In.wp (CT Try.prog NoG) (endQ [(.t 6)] d) [a0, a1, a2, .undef, .undef, .undef, .undef, .undef, .undef, .undef, .undef, .undef, .undef, .undef, .undef]) : Contract Try.prog NoG 86 [a0, a1, a2] d :=
  contract_of (pt := 0) noG Try.func86 (fun us W => by kernel_rfl) (c := Try.f86.body.getD .skip) (ms := []) (ms' := []) (by kernel_rfl) (by kernel_rfl) (by kernel_rfl) h
theorem v_l00In (a b c : Int) : Contract Try.prog NoG 86 [.v (.int .i64 a), .v (.int .i64 b), .v (.int .i64 c)] (.v (.bool (inR b c a))) := by
  refine law_spec_l00In ?_; unfold code_spec_l00In inR; simp -implicitDefEqProofs (disch := omega) only [go_sem, ↓reduceIte]; refine guard_split ?_ ?_ <;> intro h
  · simp -implicitDefEqProofs (disch := omega) only [go_sem, ↓reduceIte , h]
  · simp -implicitDefEqProofs (disch := omega) only [go_sem, ↓reduceIte , h]
def code_impl_within : VCode := (.seq (.ops [
  ⟨(some 6), none, (.asg (.const (.bool false)))⟩]) (.seq (.ops [
  ⟨(some 7), none, (.mv (.tmp 0))⟩,
  ⟨(some 8), none, (.mv (.tmp 1))⟩,
  ⟨(some 9), none, (.bin .geq (.tmp 7) (.tmp 8))⟩,
  ⟨(some 10), none, (.mv (.tmp 9))⟩,
  ⟨(some 11), (some (10, true)), (.mv (.tmp 0))⟩,
  ⟨(some 12), (some (10, true)), (.mv (.tmp 2))⟩,
  ⟨(some 13), (some (10, true)), (.bin .leq (.tmp 11) (.tmp 12))⟩,
  ⟨(some 14), none, (.pick (.tmp 10) (.tmp 13) (.const (.bool false)))⟩,
  ⟨(some 6), none, (.asg (.tmp 14))⟩]) .ret))
theorem law_impl_within {a0 a1 a2 d : D} (h : code_impl_within.wp (CT Try.prog NoG) (endQ [(.t 6)] d) [a0, a1, a2, .undef, .undef, .undef, .undef, .undef, .undef, .undef, .undef, .undef, .undef, .undef, .undef]) : Contract Try.prog NoG 67 [a0, a1, a2] d :=
  contract_of (pt := 0) noG Try.func67 (fun us W => by kernel_rfl) (c := Try.f67.body.getD .skip) (ms := []) (ms' := []) (by kernel_rfl) (by kernel_rfl) (by kernel_rfl) h
theorem v_within (a b c : Int) : Contract Try.prog NoG 67 [.v (.int .i64 a), .v (.int .i64 b), .v (.int .i64 c)] (.v (.bool (inR b c a))) := by
  refine law_impl_within ?_; unfold code_impl_within inR; simp -implicitDefEqProofs (disch := omega) only [go_sem, ↓reduceIte]; refine guard_split ?_ ?_ <;> intro h
  · simp -implicitDefEqProofs (disch := omega) only [go_sem, ↓reduceIte , h]
  · simp -implicitDefEqProofs (disch := omega) only [go_sem, ↓reduceIte , h]
theorem all_next {f : Nat → Bool} {i : Nat} (h : (List.range i).all f = true) (hi : f i = true) : (List.range (i + 1)).all f = true := by rw [List.range_succ, List.all_append, h]; simp [hi]
def cmpI (a b : Int) : Int := if a < b then -1 else if b < a then 1 else 0
def cmpP (a b : Point) : Int := if cmpI a.Y b.Y = 0 then cmpI a.X b.X else cmpI a.Y b.Y
def lessP (a b : Point) : Bool := decide (a.Y < b.Y) || (decide (a.Y = b.Y) && decide (a.X < b.X))
theorem cmpP_lt (a b : Point) : decide (cmpP a b < 0) = lessP a b := by rw [Bool.eq_iff_iff]; simp only [cmpP, cmpI, lessP, Bool.or_eq_true, Bool.and_eq_true, decide_eq_true_eq]; by_cases h1 : a.Y < b.Y <;> by_cases h2 : b.Y < a.Y <;> by_cases h3 : a.X < b.X <;> by_cases h4 : b.X < a.X <;> simp [h1, h2, h3, h4] <;> omega
def bsF (f : Nat → Bool) : Nat → Nat → Nat → Nat
  | 0, i, _ => i
  | n + 1, i, j => if i < j then (if f ((i + j) / 2) then bsF f n ((i + j) / 2 + 1) j else bsF f n i ((i + j) / 2)) else i
theorem bsF_end {f : Nat → Bool} {n i j : Nat} (h : ¬ i < j) : bsF f n i j = i := by
  cases n with
  | zero => rfl
  | succ n => simp [bsF, h]
def lessAt (xs : List Point) (p : Point) (k : Nat) : Bool := match xs[k]? with
  | some x => lessP x p
  | none => false
def bsP (xs : List Point) (p : Point) : Nat := bsF (lessAt xs p) xs.length 0 xs.length
def code_cmp_isNaN_int64 : VCode := (.seq (.ops [
  ⟨(some 2), none, (.asg (.const (.bool false)))⟩]) (.seq (.ops [
  ⟨(some 3), none, (.mv (.tmp 0))⟩,
  ⟨(some 4), none, (.mv (.tmp 0))⟩,
  ⟨(some 5), none, (.bin .neq (.tmp 3) (.tmp 4))⟩,
  ⟨(some 2), none, (.asg (.tmp 5))⟩]) .ret))
theorem law_cmp_isNaN_int64 {a0 d : D} (h : code_cmp_isNaN_int64.wp (CT Try.prog NoG) (endQ [(.t 2)] d) [a0, .undef, .undef, .undef, .undef, .undef]) : Contract Try.prog NoG 135 [a0] d :=
  contract_of (pt := 0) noG Try.func135 (fun us W => by kernel_rfl) (c := Try.f135.body.getD .skip) (ms := []) (ms' := []) (by kernel_rfl) (by kernel_rfl) (by kernel_rfl) h
theorem v_isNaN (a : Int) : Contract Try.prog NoG 135 [.v (.int .i64 a)] (.v (.bool false)) := by refine law_cmp_isNaN_int64 ?_; unfold code_cmp_isNaN_int64; simp -implicitDefEqProofs (disch := omega) only [go_sem, ↓reduceIte]
def code_cmp_Compare_int64 : VCode := (.seq (.ops [
  ⟨(some 4), none, (.asg (.const (.int .i64 0)))⟩]) (.seq (.ops [
  ⟨(some 7), none, (.mv (.tmp 0))⟩,
  ⟨(some 8), none, (.callX 135 [(.tmp 7)])⟩,
  ⟨(some 5), none, (.asg (.tmp 8))⟩]) (.seq (.ops [
  ⟨(some 9), none, (.mv (.tmp 1))⟩,
  ⟨(some 10), none, (.callX 135 [(.tmp 9)])⟩,
  ⟨(some 6), none, (.asg (.tmp 10))⟩]) (.seq (.seq (.ops [
  ⟨(some 11), none, (.mv (.tmp 5))⟩]) (.cond (.tmp 11) (.seq (.seq (.ops [
  ⟨(some 12), none, (.mv (.tmp 6))⟩]) (.cond (.tmp 12) (.seq (.ops [
  ⟨(some 4), none, (.asg (.const (.int .i64 0)))⟩]) .ret) .skip)) (.seq (.ops [
  ⟨(some 4), none, (.asg (.const (.int .i64 (-1))))⟩]) .ret)) .skip)) (.seq (.seq (.ops [
  ⟨(some 13), none, (.mv (.tmp 6))⟩]) (.cond (.tmp 13) (.seq (.ops [
  ⟨(some 4), none, (.asg (.const (.int .i64 1)))⟩]) .ret) .skip)) (.seq (.seq (.ops [
  ⟨(some 14), none, (.mv (.tmp 0))⟩,
  ⟨(some 15), none, (.mv (.tmp 1))⟩,
  ⟨(some 16), none, (.bin .lss (.tmp 14) (.tmp 15))⟩]) (.cond (.tmp 16) (.seq (.ops [
  ⟨(some 4), none, (.asg (.const (.int .i64 (-1))))⟩]) .ret) .skip)) (.seq (.seq (.ops [
  ⟨(some 17), none, (.mv (.tmp 0))⟩,
  ⟨(some 18), none, (.mv (.tmp 1))⟩,
  ⟨(some 19), none, (.bin .gtr (.tmp 17) (.tmp 18))⟩]) (.cond (.tmp 19) (.seq (.ops [
  ⟨(some 4), none, (.asg (.const (.int .i64 1)))⟩]) .ret) .skip)) (.seq (.ops [
  ⟨(some 4), none, (.asg (.const (.int .i64 0)))⟩]) .ret))))))))
theorem law_cmp_Compare_int64 {a0 a1 d : D} (h : code_cmp_Compare_int64.wp (CT Try.prog NoG) (endQ [(.t 4)] d) [a0, a1, .undef, .undef, .undef, .undef, .undef, .undef, .undef, .undef, .undef, .undef, .undef, .undef, .undef, .undef, .undef, .undef, .undef, .undef]) : Contract Try.prog NoG 124 [a0, a1] d :=
  contract_of (pt := 0) noG Try.func124 (fun us W => by kernel_rfl) (c := Try.f124.body.getD .skip) (ms := []) (ms' := []) (by kernel_rfl) (by kernel_rfl) (by kernel_rfl) h
theorem v_Compare (a b : Int) : Contract Try.prog NoG 124 [.v (.int .i64 a), .v (.int .i64 b)] (.v (.int .i64 (cmpI a b))) := by
  refine law_cmp_Compare_int64 ?_; unfold code_cmp_Compare_int64 cmpI; simp -implicitDefEqProofs (disch := omega) only [go_sem, ↓reduceIte]; refine call_B (v_isNaN a) (by simp -implicitDefEqProofs (disch := omega) only [go_sem, ↓reduceIte, deep, TD.rows, immLL_rI, immLL_rB8, immLL_rS, immLL_rBo, immLL_rII, immLL_rIIt]; exact rfl) ?_; simp -implicitDefEqProofs (disch := omega) only [go_sem, ↓reduceIte]; refine call_B (v_isNaN b) (by simp -implicitDefEqProofs (disch := omega) only [go_sem, ↓reduceIte, deep, TD.rows, immLL_rI, immLL_rB8, immLL_rS, immLL_rBo, immLL_rII, immLL_rIIt]; exact rfl) ?_; simp -implicitDefEqProofs (disch := omega) only [go_sem, ↓reduceIte]; refine cond_split ?_ ?_ <;> intro h
  · have := of_decide_eq_true h; simp -implicitDefEqProofs (disch := omega) only [go_sem, ↓reduceIte]; simp [this]
  · have h1 := of_decide_eq_false h; simp -implicitDefEqProofs (disch := omega) only [go_sem, ↓reduceIte]; refine cond_split ?_ ?_ <;> intro h
    · have := of_decide_eq_true h; simp -implicitDefEqProofs (disch := omega) only [go_sem, ↓reduceIte]; simp [h1, this]
    · have := of_decide_eq_false h; simp -implicitDefEqProofs (disch := omega) only [go_sem, ↓reduceIte]; simp [h1, this]
def code_cmp_Or_int : VCode := (.seq (.ops [
  ⟨(some 2), none, (.asg (.const (.int .i64 0)))⟩]) (.seq (.ops [
  ⟨(some 3), none, (.asg (.const (.int .i64 0)))⟩]) (.seq (.seq (.ops [
  ⟨(some 6), none, (.mv (.tmp 0))⟩,
  ⟨(some 7), none, (.len (.tmp 6))⟩,
  ⟨(some 8), none, (.mv (.const (.int .i64 0)))⟩]) (.block 0 (.loop (mB 18 261687) (.seq (.ops [
  ⟨(some 9), none, (.bin .lss (.tmp 8) (.tmp 7))⟩]) (.seq (.cond (.tmp 9) .skip (.exit 0)) (.seq (.block 1 (.seq (.ops [
  ⟨(some 10), none, (.ia 1 (.tmp 6) (.tmp 8))⟩,
  ⟨(some 11), none, (.load 1 false (.tmp 10))⟩,
  ⟨(some 5), none, (.asg (.tmp 11))⟩]) (.seq (.ops [
  ⟨(some 12), none, (.mv (.tmp 5))⟩,
  ⟨(some 13), none, (.mv (.tmp 3))⟩,
  ⟨(some 14), none, (.bin .neq (.tmp 12) (.tmp 13))⟩]) (.cond (.tmp 14) (.seq (.ops [
  ⟨(some 15), none, (.mv (.tmp 5))⟩,
  ⟨(some 2), none, (.asg (.tmp 15))⟩]) .ret) .skip)))) (.ops [
  ⟨(some 16), none, (.bin .add (.tmp 8) (.const (.int .i64 1)))⟩,
  ⟨(some 8), none, (.mv (.tmp 16))⟩]))))))) (.seq (.ops [
  ⟨(some 17), none, (.mv (.tmp 3))⟩,
  ⟨(some 2), none, (.asg (.tmp 17))⟩]) .ret))))
theorem law_cmp_Or_int {a0 d : D} (h : code_cmp_Or_int.wp (CT Try.prog NoG) (endQ [(.t 2)] d) [a0, .undef, .undef, .undef, .undef, .undef, .undef, .undef, .undef, .undef, .undef, .undef, .undef, .undef, .undef, .undef, .undef, .undef]) : Contract Try.prog NoG 123 [a0] d :=
  contract_of (pt := 0) noG Try.func123 (fun us W => by kernel_rfl) (c := Try.f123.body.getD .skip) (ms := [(mB 18 261687)]) (ms' := []) (by kernel_rfl) (by kernel_rfl) (by kernel_rfl) h
theorem v_Or2 (a b : Int) : Contract Try.prog NoG 123 [.sl false 1 [[.v (.int .i64 a)], [.v (.int .i64 b)]]] (.v (.int .i64 (if a = 0 then b else a))) := by
  refine law_cmp_Or_int ?_; unfold code_cmp_Or_int; simp -implicitDefEqProofs (disch := omega) only [go_sem, ↓reduceIte]; refine loop_st (fun i : Nat => [.undef, .undef, .undef, .v (.int .i64 0), .undef, .undef, .sl false 1 [[.v (.int .i64 a)], [.v (.int .i64 b)]], .v (.int .i64 2), .v (.int .i64 i), .undef, .undef, .undef, .undef, .undef, .undef, .undef, .undef, .undef]) (fun i => i = 0 ∨ (i = 1 ∧ a = 0) ∨ (i = 2 ∧ a = 0 ∧ b = 0)) (fun i => 2 - i) 0 (nleA) (.inl rfl) ?_; rintro i (rfl | ⟨rfl, h0⟩ | ⟨rfl, h0, h1⟩)
  · simp -implicitDefEqProofs (disch := omega) only [go_sem, ↓reduceIte , Int.natCast_zero, Int.natCast_one, Int.cast_ofNat_Int, Int.ofNat_le, Int.toNat_zero, Nat.sub_zero, Int.le_refl, Int.reduceLT, Int.reduceLE, Int.reduceEq, Int.reduceAdd, Int.reduceSub, Int.reduceMul, Int.reduceToNat, Int.reduceNeg]; refine cond_split ?_ ?_ <;> intro h
    · simp -implicitDefEqProofs (disch := omega) only [go_sem, ↓reduceIte]; simp at h; simp [h]
    · simp -implicitDefEqProofs (disch := omega) only [go_sem, ↓reduceIte , Int.natCast_zero, Int.natCast_one, Int.cast_ofNat_Int, Int.ofNat_le, Int.toNat_zero, Nat.sub_zero, Int.le_refl, Int.reduceLT, Int.reduceLE, Int.reduceEq, Int.reduceAdd, Int.reduceSub, Int.reduceMul, Int.reduceToNat, Int.reduceNeg, IntWalk.i64_in]; simp at h; exact ⟨1, by omega, .inr (.inl ⟨rfl, h⟩), nleA⟩
  · simp -implicitDefEqProofs (disch := omega) only [go_sem, ↓reduceIte , Int.natCast_zero, Int.natCast_one, Int.cast_ofNat_Int, Int.ofNat_le, Int.toNat_zero, Nat.sub_zero, Int.le_refl, Int.reduceLT, Int.reduceLE, Int.reduceEq, Int.reduceAdd, Int.reduceSub, Int.reduceMul, Int.reduceToNat, Int.reduceNeg]; refine cond_split ?_ ?_ <;> intro h
    · simp -implicitDefEqProofs (disch := omega) only [go_sem, ↓reduceIte]; simp [h0]
    · simp -implicitDefEqProofs (disch := omega) only [go_sem, ↓reduceIte , Int.natCast_zero, Int.natCast_one, Int.cast_ofNat_Int, Int.ofNat_le, Int.toNat_zero, Nat.sub_zero, Int.le_refl, Int.reduceLT, Int.reduceLE, Int.reduceEq, Int.reduceAdd, Int.reduceSub, Int.reduceMul, Int.reduceToNat, Int.reduceNeg]; simp at h; exact ⟨2, by omega, .inr (.inr ⟨rfl, h0, h⟩), nleA⟩
  · simp -implicitDefEqProofs (disch := omega) only [go_sem, ↓reduceIte , Int.natCast_zero, Int.natCast_one, Int.cast_ofNat_Int, Int.ofNat_le, Int.toNat_zero, Nat.sub_zero, Int.le_refl, Int.reduceLT, Int.reduceLE, Int.reduceEq, Int.reduceAdd, Int.reduceSub, Int.reduceMul, Int.reduceToNat, Int.reduceNeg]; simp [h0, h1]
def code_impl_comparePoints : VCode := (.seq (.ops [
  ⟨(some 2), none, (.box (.tmp 0))⟩,
  ⟨(some 3), none, (.box (.tmp 1))⟩,
  ⟨(some 4), none, (.asg (.const (.int .i64 0)))⟩]) (.seq (.draw (mB 14 16352) [] [⟨0, (mB 14 16352), [], ⟨(some 5), none, (.fa 1 (.tmp 2))⟩⟩, ⟨1, (mB 14 16320), [], ⟨(some 6), none, (.load 1 false (.tmp 5))⟩⟩, ⟨2, (mB 14 16352), [], ⟨(some 7), none, (.fa 1 (.tmp 3))⟩⟩, ⟨3, (mB 14 16224), [], ⟨(some 8), none, (.load 1 false (.tmp 7))⟩⟩, ⟨4, (mB 14 15872), [], ⟨(some 9), none, (.call 124 [(.tmp 6), (.tmp 8)])⟩⟩, ⟨5, (mB 14 16352), [], ⟨(some 10), none, (.fa 0 (.tmp 2))⟩⟩, ⟨6, (mB 14 15328), [], ⟨(some 11), none, (.load 1 false (.tmp 10))⟩⟩, ⟨7, (mB 14 16352), [], ⟨(some 12), none, (.fa 0 (.tmp 3))⟩⟩, ⟨8, (mB 14 12256), [], ⟨(some 13), none, (.load 1 false (.tmp 12))⟩⟩] [⟨(some 14), none, (.callX 124 [(.tmp 11), (.tmp 13)])⟩, ⟨(some 15), none, (.bsl 1 [(.tmp 9), (.tmp 14)])⟩, ⟨(some 16), none, (.callX 123 [(.tmp 15)])⟩, ⟨(some 4), none, (.asg (.tmp 16))⟩]) .ret))
theorem law_impl_comparePoints {a0 a1 d : D} (h : code_impl_comparePoints.wp (CT Try.prog NoG) (endQ [(.t 4)] d) [a0, a1, .undef, .undef, .undef, .undef, .undef, .undef, .undef, .undef, .undef, .undef, .undef, .undef, .undef, .undef, .undef]) : Contract Try.prog NoG 98 [a0, a1] d :=
  contract_of (pt := 0) noG Try.func98 (fun us W => by kernel_rfl) (c := Try.f98.body.getD .skip) (ms := []) (ms' := []) (by kernel_rfl) (by kernel_rfl) (by kernel_rfl) h
theorem v_comparePoints (a b : Point) : Contract Try.prog NoG 98 [.agg (Point.td.d false a), .agg (Point.td.d false b)] (.v (.int .i64 (cmpP a b))) := by rw [Point.td_d, Point.td_d]; refine law_impl_comparePoints ?_; unfold code_impl_comparePoints cmpP; simp -implicitDefEqProofs (disch := omega) only [go_sem, ↓reduceIte]; refine call_NB (v_Compare a.Y b.Y) (by simp -implicitDefEqProofs (disch := omega) only [go_sem, ↓reduceIte, deep, TD.rows, immLL_rI, immLL_rB8, immLL_rS, immLL_rBo, immLL_rII, immLL_rIIt]; exact rfl) ?_; simp -implicitDefEqProofs (disch := omega) only [go_sem, ↓reduceIte]; refine call_B (v_Compare a.X b.X) (by simp -implicitDefEqProofs (disch := omega) only [go_sem, ↓reduceIte, deep, TD.rows, immLL_rI, immLL_rB8, immLL_rS, immLL_rBo, immLL_rII, immLL_rIIt]; exact rfl) ?_; simp -implicitDefEqProofs (disch := omega) only [go_sem, ↓reduceIte]; refine call_le (v_Or2 (cmpI a.Y b.Y) (cmpI a.X b.X)) (by repeat (first | exact leL_nil | refine leL_cons ?_ ?_ | exact le_of_eq rfl | exact le_iptrN (leL_of_eq rfl) | refine le_agg ?_ | exact le_slf rfl (TD.rows ..) | refine le_iptr ?_ | refine le_fn ?_ ?_ | exact le_nilsl_)) (.inl rfl) ?_; simp -implicitDefEqProofs (disch := omega) only [go_sem, ↓reduceIte]
def code_impl_LessPoint : VCode := (.seq (.ops [
  ⟨(some 2), none, (.box (.tmp 0))⟩,
  ⟨(some 3), none, (.box (.tmp 1))⟩,
  ⟨(some 4), none, (.asg (.const (.bool false)))⟩]) (.seq (.ops [
  ⟨(some 5), none, (.load 2 true (.tmp 2))⟩,
  ⟨(some 6), none, (.load 2 true (.tmp 3))⟩,
  ⟨(some 7), none, (.callX 98 [(.tmp 5), (.tmp 6)])⟩,
  ⟨(some 8), none, (.bin .lss (.tmp 7) (.const (.int .i64 0)))⟩,
  ⟨(some 4), none, (.asg (.tmp 8))⟩]) .ret))
theorem law_impl_LessPoint {a0 a1 d : D} (h : code_impl_LessPoint.wp (CT Try.prog NoG) (endQ [(.t 4)] d) [a0, a1, .undef, .undef, .undef, .undef, .undef, .undef, .undef]) : Contract Try.prog NoG 66 [a0, a1] d :=
  contract_of (pt := 0) noG Try.func66 (fun us W => by kernel_rfl) (c := Try.f66.body.getD .skip) (ms := []) (ms' := []) (by kernel_rfl) (by kernel_rfl) (by kernel_rfl) h
theorem v_LessPoint (a b : Point) : Contract Try.prog NoG 66 [.agg (Point.td.d false a), .agg (Point.td.d false b)] (.v (.bool (lessP a b))) := by rw [Point.td_d, Point.td_d]; refine law_impl_LessPoint ?_; unfold code_impl_LessPoint; simp -implicitDefEqProofs (disch := omega) only [go_sem, ↓reduceIte]; refine call_B (v_comparePoints a b) (by simp -implicitDefEqProofs (disch := omega) only [go_sem, ↓reduceIte, deep, TD.rows, immLL_rI, immLL_rB8, immLL_rS, immLL_rBo, immLL_rII, immLL_rIIt]; exact rfl) ?_; simp -implicitDefEqProofs (disch := omega) only [go_sem, ↓reduceIte]; rw [cmpP_lt]
def code_spec_LessPoint : VCode := (.seq (.ops [
  ⟨(some 2), none, (.box (.tmp 0))⟩,
  ⟨(some 3), none, (.box (.tmp 1))⟩,
  ⟨(some 4), none, (.asg (.const (.bool false)))⟩]) (.seq (.ops [
  ⟨(some 5), none, (.fa 1 (.tmp 2))⟩,
  ⟨(some 6), none, (.load 1 false (.tmp 5))⟩,
  ⟨(some 7), none, (.fa 1 (.tmp 3))⟩,
  ⟨(some 8), none, (.load 1 false (.tmp 7))⟩,
  ⟨(some 9), none, (.bin .lss (.tmp 6) (.tmp 8))⟩,
  ⟨(some 10), none, (.mv (.tmp 9))⟩,
  ⟨(some 11), (some (10, false)), (.fa 1 (.tmp 2))⟩,
  ⟨(some 12), (some (10, false)), (.load 1 false (.tmp 11))⟩,
  ⟨(some 13), (some (10, false)), (.fa 1 (.tmp 3))⟩,
  ⟨(some 14), (some (10, false)), (.load 1 false (.tmp 13))⟩,
  ⟨(some 15), (some (10, false)), (.bin .eql (.tmp 12) (.tmp 14))⟩,
  ⟨(some 16), (some (10, false)), (.mv (.tmp 15))⟩,
  ⟨(some 17), (some (16, true)), (.fa 0 (.tmp 2))⟩,
  ⟨(some 18), (some (16, true)), (.load 1 false (.tmp 17))⟩,
  ⟨(some 19), (some (16, true)), (.fa 0 (.tmp 3))⟩,
  ⟨(some 20), (some (16, true)), (.load 1 false (.tmp 19))⟩,
  ⟨(some 21), (some (16, true)), (.bin .lss (.tmp 18) (.tmp 20))⟩,
  ⟨(some 22), (some (10, false)), (.pick (.tmp 16) (.tmp 21) (.const (.bool false)))⟩,
  ⟨(some 23), none, (.pick (.tmp 10) (.const (.bool true)) (.tmp 22))⟩,
  ⟨(some 4), none, (.asg (.tmp 23))⟩]) .ret))
theorem law_spec_LessPoint {a0 a1 d : D} (h : code_spec_LessPoint.wp (CT Try.prog NoG) (endQ [(.t 4)] d) [a0, a1, .undef, .undef, .undef, .undef, .undef, .undef, .undef, .undef, .undef, .undef, .undef, .undef, .undef, .undef, .undef, .undef, .undef, .undef, .undef, .undef, .undef, .undef]) : Contract Try.prog NoG 63 [a0, a1] d :=
  contract_of (pt := 0) noG Try.func63 (fun us W => by kernel_rfl) (c := Try.f63.body.getD .skip) (ms := []) (ms' := []) (by kernel_rfl) (by kernel_rfl) (by kernel_rfl) h
theorem v_LessPoint_spec (a b : Point) : Contract Try.prog NoG 63 [.agg (Point.td.d false a), .agg (Point.td.d false b)] (.v (.bool (lessP a b))) := by
  rw [Point.td_d, Point.td_d]; refine law_spec_LessPoint ?_; unfold code_spec_LessPoint lessP; simp -implicitDefEqProofs (disch := omega) only [go_sem, ↓reduceIte]
  repeat' (first | (refine guard_split ?_ ?_ <;> intro h <;> try (simp -implicitDefEqProofs (disch := omega) only [go_sem, ↓reduceIte, h])) | (refine gd_split ?_ ?_ <;> intro h <;> try (simp -implicitDefEqProofs (disch := omega) only [go_sem, ↓reduceIte, h])) | (refine cond_split ?_ ?_ <;> intro h <;> try (simp -implicitDefEqProofs (disch := omega) only [go_sem, ↓reduceIte, h])))
  all_goals simp_all
def ptOK (p : Point) : Bool := inR (-60) 60 p.X && inR (-60) 60 p.Y
def code_impl_ValidPoint : VCode := (.seq (.ops [
  ⟨(some 1), none, (.box (.tmp 0))⟩,
  ⟨(some 2), none, (.asg (.const (.bool false)))⟩]) (.seq (.ops [
  ⟨(some 3), none, (.fa 0 (.tmp 1))⟩,
  ⟨(some 4), none, (.load 1 false (.tmp 3))⟩,
  ⟨(some 5), none, (.callX 67 [(.tmp 4), (.const (.int .i64 (-60))), (.const (.int .i64 60))])⟩,
  ⟨(some 6), none, (.mv (.tmp 5))⟩,
  ⟨(some 7), (some (6, true)), (.fa 1 (.tmp 1))⟩,
  ⟨(some 8), (some (6, true)), (.load 1 false (.tmp 7))⟩,
  ⟨(some 9), (some (6, true)), (.callX 67 [(.tmp 8), (.const (.int .i64 (-60))), (.const (.int .i64 60))])⟩,
  ⟨(some 10), none, (.pick (.tmp 6) (.tmp 9) (.const (.bool false)))⟩,
  ⟨(some 2), none, (.asg (.tmp 10))⟩]) .ret))
theorem law_impl_ValidPoint {a0 d : D} (h : code_impl_ValidPoint.wp (CT Try.prog NoG) (endQ [(.t 2)] d) [a0, .undef, .undef, .undef, .undef, .undef, .undef, .undef, .undef, .undef, .undef]) : Contract Try.prog NoG 65 [a0] d :=
  contract_of (pt := 0) noG Try.func65 (fun us W => by kernel_rfl) (c := Try.f65.body.getD .skip) (ms := []) (ms' := []) (by kernel_rfl) (by kernel_rfl) (by kernel_rfl) h
theorem v_ValidPoint (p : Point) : Contract Try.prog NoG 65 [.agg (Point.td.d false p)] (.v (.bool (ptOK p))) := by
  rw [Point.td_d]; refine law_impl_ValidPoint ?_; unfold code_impl_ValidPoint ptOK; simp -implicitDefEqProofs (disch := omega) only [go_sem, ↓reduceIte]; refine call_B (v_within _ _ _) (by simp -implicitDefEqProofs (disch := omega) only [go_sem, ↓reduceIte, deep, TD.rows, immLL_rI, immLL_rB8, immLL_rS, immLL_rBo, immLL_rII, immLL_rIIt]; exact rfl) ?_; simp -implicitDefEqProofs (disch := omega) only [go_sem, ↓reduceIte]; refine guard_split ?_ ?_ <;> intro h
  · simp -implicitDefEqProofs (disch := omega) only [go_sem, ↓reduceIte , h]; refine call_B (v_within _ _ _) (by simp -implicitDefEqProofs (disch := omega) only [go_sem, ↓reduceIte, deep, TD.rows, immLL_rI, immLL_rB8, immLL_rS, immLL_rBo, immLL_rII, immLL_rIIt, h]; exact rfl) ?_; simp -implicitDefEqProofs (disch := omega) only [go_sem, ↓reduceIte , h]
  · simp -implicitDefEqProofs (disch := omega) only [go_sem, ↓reduceIte , h]
def code_spec_l01Point : VCode := (.seq (.ops [
  ⟨(some 1), none, (.box (.tmp 0))⟩,
  ⟨(some 2), none, (.asg (.const (.bool false)))⟩]) (.seq (.ops [
  ⟨(some 3), none, (.fa 0 (.tmp 1))⟩,
  ⟨(some 4), none, (.load 1 false (.tmp 3))⟩,
  ⟨(some 5), none, (.callX 86 [(.tmp 4), (.const (.int .i64 (-60))), (.const (.int .i64 60))])⟩,
  ⟨(some 6), none, (.mv (.tmp 5))⟩,
  ⟨(some 7), (some (6, true)), (.fa 1 (.tmp 1))⟩,
  ⟨(some 8), (some (6, true)), (.load 1 false (.tmp 7))⟩,
  ⟨(some 9), (some (6, true)), (.callX 86 [(.tmp 8), (.const (.int .i64 (-60))), (.const (.int .i64 60))])⟩,
  ⟨(some 10), none, (.pick (.tmp 6) (.tmp 9) (.const (.bool false)))⟩,
  ⟨(some 2), none, (.asg (.tmp 10))⟩]) .ret))
theorem law_spec_l01Point {a0 d : D} (h : code_spec_l01Point.wp (CT Try.prog NoG) (endQ [(.t 2)] d) [a0, .undef, .undef, .undef, .undef, .undef, .undef, .undef, .undef, .undef, .undef]) : Contract Try.prog NoG 62 [a0] d :=
  contract_of (pt := 0) noG Try.func62 (fun us W => by kernel_rfl) (c := Try.f62.body.getD .skip) (ms := []) (ms' := []) (by kernel_rfl) (by kernel_rfl) (by kernel_rfl) h
theorem v_l01Point (p : Point) : Contract Try.prog NoG 62 [.agg (Point.td.d false p)] (.v (.bool (ptOK p))) := by
  rw [Point.td_d]; refine law_spec_l01Point ?_; unfold code_spec_l01Point ptOK; simp -implicitDefEqProofs (disch := omega) only [go_sem, ↓reduceIte]; refine call_B (v_l00In _ _ _) (by simp -implicitDefEqProofs (disch := omega) only [go_sem, ↓reduceIte, deep, TD.rows, immLL_rI, immLL_rB8, immLL_rS, immLL_rBo, immLL_rII, immLL_rIIt]; exact rfl) ?_; simp -implicitDefEqProofs (disch := omega) only [go_sem, ↓reduceIte]; refine guard_split ?_ ?_ <;> intro h
  · simp -implicitDefEqProofs (disch := omega) only [go_sem, ↓reduceIte , h]; refine call_B (v_l00In _ _ _) (by simp -implicitDefEqProofs (disch := omega) only [go_sem, ↓reduceIte, deep, TD.rows, immLL_rI, immLL_rB8, immLL_rS, immLL_rBo, immLL_rII, immLL_rIIt, h]; exact rfl) ?_; simp -implicitDefEqProofs (disch := omega) only [go_sem, ↓reduceIte , h]
  · simp -implicitDefEqProofs (disch := omega) only [go_sem, ↓reduceIte , h]
theorem quo_half {i j : Nat} (hi : i ≤ 1048576) (hj : j ≤ 1048576) : IntKind.i64.wrap ((IntKind.i64.wrap ((i : Int) + (j : Int))).tdiv 2) = (((i + j) / 2 : Nat) : Int) := by
  rw [wrI (a := (i : Int) + (j : Int)) (by omega) (by omega)]; have h2 : ((i : Int) + (j : Int)).tdiv 2 = (((i + j) / 2 : Nat) : Int) := by rw [Int.tdiv_eq_ediv_of_nonneg (by omega)]; omega
  rw [h2]; exact wrI (by omega) (by omega)
def stepP (p : Point) (d : Nat) : Point := match d with
  | 0 => ⟨p.X, IntKind.i64.wrap (p.Y + 1)⟩
  | 1 => ⟨IntKind.i64.wrap (p.X + 1), p.Y⟩
  | 2 => ⟨p.X, IntKind.i64.wrap (p.Y - 1)⟩
  | 3 => ⟨IntKind.i64.wrap (p.X - 1), p.Y⟩
  | _ => p
def code_impl_Point_plus : VCode := (.seq (.ops [
  ⟨(some 2), none, (.box (.tmp 0))⟩,
  ⟨(some 3), none, (.box (.tmp 1))⟩,
  ⟨(some 4), none, (.alloc [(.int .i64 0), (.int .i64 0)])⟩]) (.seq (.ops [
  ⟨(some 5), none, (.fa 0 (.tmp 2))⟩,
  ⟨(some 6), none, (.load 1 false (.tmp 5))⟩,
  ⟨(some 7), none, (.fa 0 (.tmp 3))⟩,
  ⟨(some 8), none, (.load 1 false (.tmp 7))⟩,
  ⟨(some 9), none, (.bin .add (.tmp 6) (.tmp 8))⟩,
  ⟨(some 10), none, (.fa 1 (.tmp 2))⟩,
  ⟨(some 11), none, (.load 1 false (.tmp 10))⟩,
  ⟨(some 12), none, (.fa 1 (.tmp 3))⟩,
  ⟨(some 13), none, (.load 1 false (.tmp 12))⟩,
  ⟨(some 14), none, (.bin .add (.tmp 11) (.tmp 13))⟩,
  ⟨(some 15), none, (.build [(.int .i64 0), (.int .i64 0)] [(0, 1, (.tmp 9)), (1, 1, (.tmp 14))])⟩,
  ⟨none, none, (.store 2 (.tmp 4) (.tmp 15))⟩]) .ret))
theorem law_impl_Point_plus {a0 a1 d : D} (h : code_impl_Point_plus.wp (CT Try.prog NoG) (endQ [(.c 4 2 true)] d) [a0, a1, .undef, .undef, .undef, .undef, .undef, .undef, .undef, .undef, .undef, .undef, .undef, .undef, .undef, .undef]) : Contract Try.prog NoG 125 [a0, a1] d :=
  contract_of (pt := 0) noG Try.func125 (fun us W => by kernel_rfl) (c := Try.f125.body.getD .skip) (ms := []) (ms' := []) (by kernel_rfl) (by kernel_rfl) (by kernel_rfl) h
theorem v_plus (a b : Point) : Contract Try.prog NoG 125 [.agg (Point.td.d false a), .agg (Point.td.d false b)] (.agg (Point.td.d false ⟨IntKind.i64.wrap (a.X + b.X), IntKind.i64.wrap (a.Y + b.Y)⟩)) := by rw [Point.td_d, Point.td_d, Point.td_d]; refine law_impl_Point_plus ?_; unfold code_impl_Point_plus; simp -implicitDefEqProofs (disch := omega) only [go_sem, ↓reduceIte]
theorem wrap_id {a : Int} (h : InK .i64 a) : IntKind.i64.wrap a = a := wrI h.1 h.2
def code_impl_Point_step : VCode := (.seq (.ops [
  ⟨(some 2), none, (.box (.tmp 0))⟩,
  ⟨(some 4), none, (.alloc [(.int .i64 0), (.int .i64 0)])⟩]) (.seq (.ops [
  ⟨(some 6), none, (.build [(.int .i64 0), (.int .i64 0)] [(0, 1, (.const (.int .i64 0))), (1, 1, (.const (.int .i64 1)))])⟩,
  ⟨(some 7), none, (.build [(.int .i64 0), (.int .i64 0)] [(0, 1, (.const (.int .i64 1))), (1, 1, (.const (.int .i64 0)))])⟩,
  ⟨(some 8), none, (.build [(.int .i64 0), (.int .i64 0)] [(0, 1, (.const (.int .i64 0))), (1, 1, (.const (.int .i64 (-1))))])⟩,
  ⟨(some 9), none, (.build [(.int .i64 0), (.int .i64 0)] [(0, 1, (.const (.int .i64 (-1)))), (1, 1, (.const (.int .i64 0)))])⟩,
  ⟨(some 10), none, (.build [(.int .i64 0), (.int .i64 0), (.int .i64 0), (.int .i64 0), (.int .i64 0), (.int .i64 0), (.int .i64 0), (.int .i64 0)] [(0, 2, (.tmp 6)), (2, 2, (.tmp 7)), (4, 2, (.tmp 8)), (6, 2, (.tmp 9))])⟩,
  ⟨(some 11), none, (.mv (.tmp 1))⟩,
  ⟨(some 12), none, (.ixa 4 2 true (.tmp 10) (.tmp 11))⟩,
  ⟨(some 5), none, (.alloc [(.int .i64 0), (.int .i64 0)])⟩,
  ⟨none, none, (.store 2 (.tmp 5) (.tmp 12))⟩]) (.seq (.ops [
  ⟨(some 13), none, (.load 2 true (.tmp 2))⟩,
  ⟨(some 14), none, (.load 2 true (.tmp 5))⟩,
  ⟨(some 15), none, (.callX 125 [(.tmp 13), (.tmp 14)])⟩,
  ⟨none, none, (.store 2 (.tmp 4) (.tmp 15))⟩]) .ret)))
theorem law_impl_Point_step {a0 a1 d : D} (h : code_impl_Point_step.wp (CT Try.prog NoG) (endQ [(.c 4 2 true)] d) [a0, a1, .undef, .undef, .undef, .undef, .undef, .undef, .undef, .undef, .undef, .undef, .undef, .undef, .undef, .undef]) : Contract Try.prog NoG 99 [a0, a1] d :=
  contract_of (pt := 0) noG Try.func99 (fun us W => by kernel_rfl) (c := Try.f99.body.getD .skip) (ms := []) (ms' := []) (by kernel_rfl) (by kernel_rfl) (by kernel_rfl) h
theorem v_step (p : Point) (d : Nat) (hd : d < 4) (hp : Point.td.ok p) : Contract Try.prog NoG 99 [.agg (Point.td.d false p), .v (.int .i64 (d : Int))] (.agg (Point.td.d false (stepP p d))) := by
  rw [Point.td_d, Point.td_d]; refine law_impl_Point_step ?_; unfold code_impl_Point_step; have hx : IntKind.i64.wrap p.X = p.X := wrap_id hp.1; have hy : IntKind.i64.wrap p.Y = p.Y := wrap_id hp.2; have h5 : p.Y + -1 = p.Y - 1 := by omega
  have h6 : p.X + -1 = p.X - 1 := (by omega); have mul2 : ((4 : Nat) : Int) = 4 := rfl; have h4 : d = 0 ∨ d = 1 ∨ d = 2 ∨ d = 3 := (by omega); rcases h4 with rfl | rfl | rfl | rfl
  · simp -implicitDefEqProofs (disch := omega) only [go_sem, ↓reduceIte , Int.natCast_zero, Int.natCast_one, Int.cast_ofNat_Int, Int.ofNat_le, Int.toNat_zero, Nat.sub_zero, Int.le_refl, Int.reduceLT, Int.reduceLE, Int.reduceEq, Int.reduceAdd, Int.reduceSub, Int.reduceMul, Int.reduceToNat, Int.reduceNeg, mul2]; refine call_B (v_plus p ⟨0, 1⟩) (by simp -implicitDefEqProofs (disch := omega) only [go_sem, ↓reduceIte, deep, TD.rows, immLL_rI, immLL_rB8, immLL_rS, immLL_rBo, immLL_rII, immLL_rIIt, Point.td_d, stepP, Int.add_zero, hx, hy, h5, h6]; exact rfl) ?_; simp -implicitDefEqProofs (disch := omega) only [go_sem, ↓reduceIte , Point.td_d, stepP, Int.add_zero, hx, hy, h5, h6]
  · simp -implicitDefEqProofs (disch := omega) only [go_sem, ↓reduceIte , Int.natCast_zero, Int.natCast_one, Int.cast_ofNat_Int, Int.ofNat_le, Int.toNat_zero, Nat.sub_zero, Int.le_refl, Int.reduceLT, Int.reduceLE, Int.reduceEq, Int.reduceAdd, Int.reduceSub, Int.reduceMul, Int.reduceToNat, Int.reduceNeg, mul2]; refine call_B (v_plus p ⟨1, 0⟩) (by simp -implicitDefEqProofs (disch := omega) only [go_sem, ↓reduceIte, deep, TD.rows, immLL_rI, immLL_rB8, immLL_rS, immLL_rBo, immLL_rII, immLL_rIIt, Point.td_d, stepP, Int.add_zero, hx, hy, h5, h6]; exact rfl) ?_; simp -implicitDefEqProofs (disch := omega) only [go_sem, ↓reduceIte , Point.td_d, stepP, Int.add_zero, hx, hy, h5, h6]
  · simp -implicitDefEqProofs (disch := omega) only [go_sem, ↓reduceIte , Int.natCast_zero, Int.natCast_one, Int.cast_ofNat_Int, Int.ofNat_le, Int.toNat_zero, Nat.sub_zero, Int.le_refl, Int.reduceLT, Int.reduceLE, Int.reduceEq, Int.reduceAdd, Int.reduceSub, Int.reduceMul, Int.reduceToNat, Int.reduceNeg, mul2]; refine call_B (v_plus p ⟨0, -1⟩) (by simp -implicitDefEqProofs (disch := omega) only [go_sem, ↓reduceIte, deep, TD.rows, immLL_rI, immLL_rB8, immLL_rS, immLL_rBo, immLL_rII, immLL_rIIt, Point.td_d, stepP, Int.add_zero, hx, hy, h5, h6]; exact rfl) ?_; simp -implicitDefEqProofs (disch := omega) only [go_sem, ↓reduceIte , Point.td_d, stepP, Int.add_zero, hx, hy, h5, h6]
  · simp -implicitDefEqProofs (disch := omega) only [go_sem, ↓reduceIte , Int.natCast_zero, Int.natCast_one, Int.cast_ofNat_Int, Int.ofNat_le, Int.toNat_zero, Nat.sub_zero, Int.le_refl, Int.reduceLT, Int.reduceLE, Int.reduceEq, Int.reduceAdd, Int.reduceSub, Int.reduceMul, Int.reduceToNat, Int.reduceNeg, mul2]; refine call_B (v_plus p ⟨-1, 0⟩) (by simp -implicitDefEqProofs (disch := omega) only [go_sem, ↓reduceIte, deep, TD.rows, immLL_rI, immLL_rB8, immLL_rS, immLL_rBo, immLL_rII, immLL_rIIt, Point.td_d, stepP, Int.add_zero, hx, hy, h5, h6]; exact rfl) ?_; simp -implicitDefEqProofs (disch := omega) only [go_sem, ↓reduceIte , Point.td_d, stepP, Int.add_zero, hx, hy, h5, h6]
def code_spec_l01Step : VCode := (.seq (.ops [
  ⟨(some 2), none, (.box (.tmp 0))⟩,
  ⟨(some 4), none, (.alloc [(.int .i64 0), (.int .i64 0)])⟩]) (.seq (.seq (.ops [
  ⟨(some 5), none, (.mv (.tmp 1))⟩]) (.block 0 (.seq (.ops [
  ⟨(some 7), none, (.bin .eql (.tmp 5) (.const (.int .i64 0)))⟩,
  ⟨(some 6), none, (.asg (.tmp 7))⟩]) (.cond (.tmp 6) (.ops [
  ⟨(some 8), none, (.fa 1 (.tmp 2))⟩,
  ⟨(some 9), none, (.load 1 false (.tmp 8))⟩,
  ⟨(some 10), none, (.bin .add (.tmp 9) (.const (.int .i64 1)))⟩,
  ⟨(some 11), none, (.fa 1 (.tmp 2))⟩,
  ⟨none, none, (.store 1 (.tmp 11) (.tmp 10))⟩]) (.seq (.ops [
  ⟨(some 13), none, (.bin .eql (.tmp 5) (.const (.int .i64 1)))⟩,
  ⟨(some 12), none, (.asg (.tmp 13))⟩]) (.cond (.tmp 12) (.ops [
  ⟨(some 14), none, (.fa 0 (.tmp 2))⟩,
  ⟨(some 15), none, (.load 1 false (.tmp 14))⟩,
  ⟨(some 16), none, (.bin .add (.tmp 15) (.const (.int .i64 1)))⟩,
  ⟨(some 17), none, (.fa 0 (.tmp 2))⟩,
  ⟨none, none, (.store 1 (.tmp 17) (.tmp 16))⟩]) (.seq (.ops [
  ⟨(some 19), none, (.bin .eql (.tmp 5) (.const (.int .i64 2)))⟩,
  ⟨(some 18), none, (.asg (.tmp 19))⟩]) (.cond (.tmp 18) (.ops [
  ⟨(some 20), none, (.fa 1 (.tmp 2))⟩,
  ⟨(some 21), none, (.load 1 false (.tmp 20))⟩,
  ⟨(some 22), none, (.bin .sub (.tmp 21) (.const (.int .i64 1)))⟩,
  ⟨(some 23), none, (.fa 1 (.tmp 2))⟩,
  ⟨none, none, (.store 1 (.tmp 23) (.tmp 22))⟩]) (.seq (.ops [
  ⟨(some 25), none, (.bin .eql (.tmp 5) (.const (.int .i64 3)))⟩,
  ⟨(some 24), none, (.asg (.tmp 25))⟩]) (.cond (.tmp 24) (.ops [
  ⟨(some 26), none, (.fa 0 (.tmp 2))⟩,
  ⟨(some 27), none, (.load 1 false (.tmp 26))⟩,
  ⟨(some 28), none, (.bin .sub (.tmp 27) (.const (.int .i64 1)))⟩,
  ⟨(some 29), none, (.fa 0 (.tmp 2))⟩,
  ⟨none, none, (.store 1 (.tmp 29) (.tmp 28))⟩]) .skip)))))))))) (.seq (.ops [
  ⟨(some 30), none, (.load 2 true (.tmp 2))⟩,
  ⟨none, none, (.store 2 (.tmp 4) (.tmp 30))⟩]) .ret)))
theorem law_spec_l01Step {a0 a1 d : D} (h : code_spec_l01Step.wp (CT Try.prog NoG) (endQ [(.c 4 2 true)] d) [a0, a1, .undef, .undef, .undef, .undef, .undef, .undef, .undef, .undef, .undef, .undef, .undef, .undef, .undef, .undef, .undef, .undef, .undef, .undef, .undef, .undef, .undef, .undef, .undef, .undef, .undef, .undef, .undef, .undef, .undef]) : Contract Try.prog NoG 97 [a0, a1] d :=
  contract_of (pt := 0) noG Try.func97 (fun us W => by kernel_rfl) (c := Try.f97.body.getD .skip) (ms := []) (ms' := []) (by kernel_rfl) (by kernel_rfl) (by kernel_rfl) h
theorem v_l01Step (p : Point) (d : Nat) (hd : d < 4) : Contract Try.prog NoG 97 [.agg (Point.td.d false p), .v (.int .i64 (d : Int))] (.agg (Point.td.d false (stepP p d))) := by
  rw [Point.td_d, Point.td_d]; refine law_spec_l01Step ?_; unfold code_spec_l01Step; have h4 : d = 0 ∨ d = 1 ∨ d = 2 ∨ d = 3 := by omega
  rcases h4 with rfl | rfl | rfl | rfl
  · simp -implicitDefEqProofs (disch := omega) only [go_sem, ↓reduceIte , Int.natCast_zero, Int.natCast_one, Int.cast_ofNat_Int, Int.ofNat_le, Int.toNat_zero, Nat.sub_zero, Int.le_refl, Int.reduceLT, Int.reduceLE, Int.reduceEq, Int.reduceAdd, Int.reduceSub, Int.reduceMul, Int.reduceToNat, Int.reduceNeg, stepP]
  · simp -implicitDefEqProofs (disch := omega) only [go_sem, ↓reduceIte , Int.natCast_zero, Int.natCast_one, Int.cast_ofNat_Int, Int.ofNat_le, Int.toNat_zero, Nat.sub_zero, Int.le_refl, Int.reduceLT, Int.reduceLE, Int.reduceEq, Int.reduceAdd, Int.reduceSub, Int.reduceMul, Int.reduceToNat, Int.reduceNeg, stepP]
  · simp -implicitDefEqProofs (disch := omega) only [go_sem, ↓reduceIte , Int.natCast_zero, Int.natCast_one, Int.cast_ofNat_Int, Int.ofNat_le, Int.toNat_zero, Nat.sub_zero, Int.le_refl, Int.reduceLT, Int.reduceLE, Int.reduceEq, Int.reduceAdd, Int.reduceSub, Int.reduceMul, Int.reduceToNat, Int.reduceNeg, stepP]
  · simp -implicitDefEqProofs (disch := omega) only [go_sem, ↓reduceIte , Int.natCast_zero, Int.natCast_one, Int.cast_ofNat_Int, Int.ofNat_le, Int.toNat_zero, Nat.sub_zero, Int.le_refl, Int.reduceLT, Int.reduceLE, Int.reduceEq, Int.reduceAdd, Int.reduceSub, Int.reduceMul, Int.reduceToNat, Int.reduceNeg, stepP]
def bsA (ps : List Placed) (p : Point) : Nat := bsP (ps.map (·.At)) p
def atP (ps : List Placed) (p : Point) : Bool := match ps[bsA ps p]? with
  | some x => decide (x.At = p)
  | none => false
def idxA (ps : List Placed) (p : Point) : Int := if atP ps p then (bsA ps p : Nat) else -1
def tileA (ps : List Placed) (p : Point) : Int := if atP ps p then (match ps[bsA ps p]? with | some x => x.Tile | none => -1) else -1
theorem lessAt_pl {ps : List Placed} {p : Point} {k : Nat} (hk : k < ps.length) : lessAt (ps.map (·.At)) p k = lessP ps[k].At p := by unfold lessAt; rw [List.getElem?_map, List.getElem?_eq_getElem hk]; rfl
theorem atP_lt {ps : List Placed} {p : Point} (h : atP ps p = true) : ∃ hb : bsA ps p < ps.length, ps[bsA ps p].At = p := by
  unfold atP at h; split at h
  · rename_i x hx; obtain ⟨h1, h2⟩ := List.getElem?_eq_some_iff.1 hx; exact ⟨h1, by rw [h2]; exact of_decide_eq_true h⟩
  · cases h
def code_spec_l03Index : VCode := (.seq (.ops [
  ⟨(some 3), none, (.box (.tmp 1))⟩,
  ⟨(some 4), none, (.asg (.const (.int .i64 0)))⟩]) (.seq (.ops [
  ⟨(some 5), none, (.asg (.const (.int .i64 0)))⟩]) (.seq (.ops [
  ⟨(some 8), none, (.mv (.tmp 0))⟩,
  ⟨(some 9), none, (.nilc (.tmp 8))⟩,
  ⟨(some 10), none, (.fa 0 (.tmp 9))⟩,
  ⟨(some 11), none, (.load 1 false (.tmp 10))⟩,
  ⟨(some 12), none, (.len (.tmp 11))⟩,
  ⟨(some 6), none, (.asg (.tmp 12))⟩]) (.seq (.block 0 (.loop (mB 53 9007199254740886) (.seq (.seq (.ops [
  ⟨(some 13), none, (.mv (.tmp 5))⟩,
  ⟨(some 14), none, (.mv (.tmp 6))⟩,
  ⟨(some 15), none, (.bin .lss (.tmp 13) (.tmp 14))⟩]) (.cond (.tmp 15) .skip (.exit 0))) (.block 1 (.seq (.ops [
  ⟨(some 16), none, (.mv (.tmp 5))⟩,
  ⟨(some 17), none, (.mv (.tmp 6))⟩,
  ⟨(some 18), none, (.bin .add (.tmp 16) (.tmp 17))⟩,
  ⟨(some 19), none, (.bin .quo (.tmp 18) (.const (.int .i64 2)))⟩,
  ⟨(some 7), none, (.asg (.tmp 19))⟩]) (.seq (.draw (mB 29 535822336) [] [⟨0, (mB 29 535822336), [], ⟨(some 20), none, (.mv (.tmp 0))⟩⟩, ⟨1, (mB 29 534773760), [], ⟨(some 21), none, (.nilc (.tmp 20))⟩⟩, ⟨2, (mB 29 532676608), [], ⟨(some 22), none, (.fa 0 (.tmp 21))⟩⟩, ⟨3, (mB 29 528482304), [], ⟨(some 23), none, (.load 1 false (.tmp 22))⟩⟩, ⟨4, (mB 29 535822336), [], ⟨(some 24), none, (.mv (.tmp 7))⟩⟩, ⟨5, (mB 29 503316480), [], ⟨(some 25), none, (.ia 3 (.tmp 23) (.tmp 24))⟩⟩, ⟨6, (mB 29 469762048), [], ⟨(some 26), none, (.fa 0 (.tmp 25))⟩⟩, ⟨7, (mB 29 402653184), [], ⟨(some 27), none, (.load 2 true (.tmp 26))⟩⟩, ⟨8, (mB 29 535822336), [], ⟨(some 28), none, (.load 2 true (.tmp 3))⟩⟩] [⟨(some 29), none, (.callX 63 [(.tmp 27), (.tmp 28)])⟩]) (.cond (.tmp 29) (.ops [
  ⟨(some 30), none, (.mv (.tmp 7))⟩,
  ⟨(some 31), none, (.bin .add (.tmp 30) (.const (.int .i64 1)))⟩,
  ⟨(some 5), none, (.asg (.tmp 31))⟩]) (.ops [
  ⟨(some 32), none, (.mv (.tmp 7))⟩,
  ⟨(some 6), none, (.asg (.tmp 32))⟩])))))))) (.seq (.seq (.draw (mB 50 1125891316908032) [] [⟨0, (mB 50 1125891316908032), [], ⟨(some 33), none, (.mv (.tmp 5))⟩⟩, ⟨1, (mB 50 1125891316908032), [], ⟨(some 34), none, (.mv (.tmp 0))⟩⟩, ⟨2, (mB 50 1125874137038848), [], ⟨(some 35), none, (.nilc (.tmp 34))⟩⟩, ⟨3, (mB 50 1125839777300480), [], ⟨(some 36), none, (.fa 0 (.tmp 35))⟩⟩, ⟨4, (mB 50 1125771057823744), [], ⟨(some 37), none, (.load 1 false (.tmp 36))⟩⟩, ⟨5, (mB 50 1125633618870272), [], ⟨(some 38), none, (.len (.tmp 37))⟩⟩, ⟨6, (mB 50 1125350151028736), [], ⟨(some 39), none, (.bin .lss (.tmp 33) (.tmp 38))⟩⟩, ⟨7, (mB 50 1124800395214848), [], ⟨(some 40), none, (.mv (.tmp 39))⟩⟩, ⟨8, (mB 50 1123700883587072), [], ⟨(some 41), (some (40, true)), (.mv (.tmp 0))⟩⟩, ⟨9, (mB 50 1121501860331520), [], ⟨(some 42), (some (40, true)), (.nilc (.tmp 41))⟩⟩, ⟨10, (mB 50 1117103813820416), [], ⟨(some 43), (some (40, true)), (.fa 0 (.tmp 42))⟩⟩, ⟨11, (mB 50 1108307720798208), [], ⟨(some 44), (some (40, true)), (.load 1 false (.tmp 43))⟩⟩, ⟨12, (mB 50 1123700883587072), [], ⟨(some 45), (some (40, true)), (.mv (.tmp 5))⟩⟩, ⟨13, (mB 50 1055531162664960), [], ⟨(some 46), (some (40, true)), (.ia 3 (.tmp 44) (.tmp 45))⟩⟩, ⟨14, (mB 50 985162418487296), [], ⟨(some 47), (some (40, true)), (.fa 0 (.tmp 46))⟩⟩, ⟨15, (mB 50 844424930131968), [], ⟨(some 48), (some (40, true)), (.load 2 true (.tmp 47))⟩⟩, ⟨16, (mB 50 1123700883587072), [], ⟨(some 49), (some (40, true)), (.load 2 true (.tmp 3))⟩⟩] [⟨(some 50), (some (40, true)), (.eqs false [1, 1] (.tmp 48) (.tmp 49))⟩, ⟨(some 51), none, (.pick (.tmp 40) (.tmp 50) (.const (.bool false)))⟩]) (.cond (.tmp 51) (.seq (.ops [
  ⟨(some 52), none, (.mv (.tmp 5))⟩,
  ⟨(some 4), none, (.asg (.tmp 52))⟩]) .ret) .skip)) (.seq (.ops [
  ⟨(some 4), none, (.asg (.const (.int .i64 (-1))))⟩]) .ret))))))
theorem law_spec_l03Index {a0 a1 d : D} (h : code_spec_l03Index.wp (CT Try.prog NoG) (endQ [(.t 4)] d) [a0, a1, .undef, .undef, .undef, .undef, .undef, .undef, .undef, .undef, .undef, .undef, .undef, .undef, .undef, .undef, .undef, .undef, .undef, .undef, .undef, .undef, .undef, .undef, .undef, .undef, .undef, .undef, .undef, .undef, .undef, .undef, .undef, .undef, .undef, .undef, .undef, .undef, .undef, .undef, .undef, .undef, .undef, .undef, .undef, .undef, .undef, .undef, .undef, .undef, .undef, .undef, .undef]) : Contract Try.prog NoG 96 [a0, a1] d :=
  contract_of (pt := 0) noG Try.func96 (fun us W => by kernel_rfl) (c := Try.f96.body.getD .skip) (ms := [(mB 53 9007199254740886)]) (ms' := []) (by kernel_rfl) (by kernel_rfl) (by kernel_rfl) h
set_option maxHeartbeats 2000000 in
theorem v_l03Index (b : Assembly) (p : Point) (hn : b.Tiles.length ≤ 1048576) : Contract Try.prog NoG 96 [.iptr (Assembly.td.d false b) 0, .agg (Point.td.d false p)] (.v (.int .i64 (idxA b.Tiles p))) := by
  rw [Assembly.td_d, Point.td_d]; refine law_spec_l03Index ?_; unfold code_spec_l03Index; simp -implicitDefEqProofs (disch := omega) only [go_sem, ↓reduceIte , List.length_map]; refine loop_ov (by simp -implicitDefEqProofs (disch := omega) only [go_sem, ↓reduceIte]; exact rfl) (fun z : Nat × Nat => [(5, .v (.int .i64 z.1)), (6, .v (.int .i64 z.2))]) (fun _ => by simp only [ovr_nil, ovr_cons, List.set_cons_zero, List.set_cons_succ]; exact rfl) (fun z : Nat × Nat => z.1 ≤ z.2 ∧ z.2 ≤ b.Tiles.length ∧ ∃ n, z.2 - z.1 ≤ n ∧ bsF (lessAt (b.Tiles.map (·.At)) p) n z.1 z.2 = bsA b.Tiles p) (fun z : Nat × Nat => z.2 - z.1) ((0, b.Tiles.length)) (nleA) (?_) ?_
  · exact ⟨Nat.zero_le _, Nat.le_refl _, (b.Tiles.map (·.At)).length, by rw [List.length_map]; omega, by unfold bsA bsP; rw [List.length_map]⟩
  rintro ⟨i, j⟩ ⟨h1, h2, n, h3, h4⟩; simp only at h1 h2 h3 h4; simp -implicitDefEqProofs (disch := omega) only [go_sem, ↓reduceIte , List.length_map, Int.toNat_natCast, Int.ofNat_lt, Int.natCast_nonneg, List.getElem?_map, Option.map_some]; refine cond_split ?_ ?_ <;> intro hlt
  · have hlt : i < j := (by simpa using hlt); have hm : (i + j) / 2 < b.Tiles.length := (by omega); have e1 := List.getElem?_eq_getElem hm; have hs := quo_half (i := i) (j := j) (by omega) (by omega); have hl := lessAt_pl (p := p) hm; obtain ⟨n, rfl⟩ : ∃ m, n = m + 1 := ⟨n - 1, by omega⟩
    rw [bsF, if_pos hlt] at h4; simp -implicitDefEqProofs (disch := omega) only [go_sem, ↓reduceIte , List.length_map, Int.toNat_natCast, Int.ofNat_lt, Int.natCast_nonneg, List.getElem?_map, Option.map_some, hs, hm, e1, Placed.td_d, Int.reduceEq]; refine call_B (v_LessPoint_spec b.Tiles[(i + j) / 2].At p) (by simp -implicitDefEqProofs (disch := omega) only [go_sem, ↓reduceIte, deep, TD.rows, immLL_rI, immLL_rB8, immLL_rS, immLL_rBo, immLL_rII, immLL_rIIt]; exact rfl) ?_; simp -implicitDefEqProofs (disch := omega) only [go_sem, ↓reduceIte]; refine cond_split ?_ ?_ <;> intro hc
    · simp -implicitDefEqProofs (disch := omega) only [go_sem, ↓reduceIte , wrN]; rw [hl, hc, if_pos rfl] at h4; exact ⟨((i + j) / 2 + 1, j), by simp only; omega, ⟨by simp only; omega, h2, n, by simp only; omega, h4⟩, nleA⟩
    · simp -implicitDefEqProofs (disch := omega) only [go_sem, ↓reduceIte]; rw [hl, hc, if_neg (by decide)] at h4; exact ⟨(i, (i + j) / 2), by simp only; omega, ⟨by simp only; omega, by simp only; omega, n, by simp only; omega, h4⟩, nleA⟩
  · have hge : ¬ i < j := (by simpa using hlt); have hb : bsA b.Tiles p = i := (by rw [← h4, bsF_end hge]); simp -implicitDefEqProofs (disch := omega) only [go_sem, ↓reduceIte , List.length_map, Int.toNat_natCast, Int.ofNat_lt, Int.natCast_nonneg, List.getElem?_map, Option.map_some]; refine gd_split ?_ ?_ <;> intro hi
    · have hi : i < b.Tiles.length := (by simpa using hi); have e1 := List.getElem?_eq_getElem hi; have hh : atP b.Tiles p = decide (b.Tiles[i].At = p) := (by unfold atP; rw [hb, e1]); have hd : (decide (b.Tiles[i].At.X = p.X) && decide (b.Tiles[i].At.Y = p.Y)) = decide (b.Tiles[i].At = p) := Point.eq_dec _ _; cases hc : decide (b.Tiles[i].At = p) with
      | false => rw [hc] at hd hh; simp -implicitDefEqProofs (disch := omega) only [go_sem, ↓reduceIte , List.length_map, Int.toNat_natCast, Int.ofNat_lt, Int.natCast_nonneg, List.getElem?_map, Option.map_some, hi, e1, Placed.td_d, hd, idxA, hh]
      | true => rw [hc] at hd hh; simp -implicitDefEqProofs (disch := omega) only [go_sem, ↓reduceIte , List.length_map, Int.toNat_natCast, Int.ofNat_lt, Int.natCast_nonneg, List.getElem?_map, Option.map_some, hi, e1, Placed.td_d, hd, idxA, hh, hb]
    · have hi : ¬ i < b.Tiles.length := (by simpa using hi); have hh : atP b.Tiles p = false := (by unfold atP; rw [hb, List.getElem?_eq_none (Nat.le_of_not_lt hi)]); simp -implicitDefEqProofs (disch := omega) only [go_sem, ↓reduceIte , hi, idxA, hh]
def shapeAt (xs : List Point) : Nat → Bool
  | 0 => match xs[0]? with
    | some p => ptOK p
    | none => true
  | k + 1 => match xs[k]?, xs[k + 1]? with
    | some q, some p => ptOK p && lessP q p
    | _, _ => true
def okShape (xs : List Point) : Bool := inR 1 500 xs.length && (List.range xs.length).all (shapeAt xs)
theorem shape_bad {xs : List Point} {i : Nat} (hi : i < xs.length) (h : shapeAt xs i = false) : (List.range xs.length).all (shapeAt xs) = false := by rw [List.all_eq_false]; exact ⟨i, by simp [hi], by simp [h]⟩
def code_impl_ValidShape : VCode := (.seq (.ops [
  ⟨(some 2), none, (.asg (.const (.bool false)))⟩]) (.seq (.seq (.ops [
  ⟨(some 5), none, (.mv (.tmp 0))⟩,
  ⟨(some 6), none, (.len (.tmp 5))⟩,
  ⟨(some 7), none, (.mv (.const (.int .i64 0)))⟩]) (.block 0 (.loop (mB 33 8589934366) (.seq (.ops [
  ⟨(some 8), none, (.bin .lss (.tmp 7) (.tmp 6))⟩]) (.seq (.cond (.tmp 8) .skip (.exit 0)) (.seq (.block 1 (.seq (.ops [
  ⟨(some 9), none, (.mv (.tmp 7))⟩,
  ⟨(some 10), none, (.ia 2 (.tmp 5) (.tmp 7))⟩,
  ⟨(some 11), none, (.load 2 true (.tmp 10))⟩,
  ⟨(some 4), none, (.alloc [(.int .i64 0), (.int .i64 0)])⟩,
  ⟨(some 3), none, (.asg (.tmp 9))⟩,
  ⟨none, none, (.store 2 (.tmp 4) (.tmp 11))⟩]) (.seq (.draw (mB 25 33550336) [] [⟨0, (mB 25 33550336), [], ⟨(some 12), none, (.load 2 true (.tmp 4))⟩⟩, ⟨1, (mB 25 33546240), [], ⟨(some 13), none, (.call 65 [(.tmp 12)])⟩⟩, ⟨2, (mB 25 33538048), [], ⟨(some 14), none, (.un .not (.tmp 13))⟩⟩, ⟨3, (mB 25 33521664), [], ⟨(some 15), none, (.mv (.tmp 14))⟩⟩, ⟨4, (mB 25 33488896), [], ⟨(some 16), (some (15, false)), (.mv (.tmp 3))⟩⟩, ⟨5, (mB 25 33423360), [], ⟨(some 17), (some (15, false)), (.bin .gtr (.tmp 16) (.const (.int .i64 0)))⟩⟩, ⟨6, (mB 25 33292288), [], ⟨(some 18), (some (15, false)), (.mv (.tmp 17))⟩⟩, ⟨7, (mB 25 33030144), [], ⟨(some 19), (some (18, true)), (.mv (.tmp 0))⟩⟩, ⟨8, (mB 25 33030144), [], ⟨(some 20), (some (18, true)), (.mv (.tmp 3))⟩⟩, ⟨9, (mB 25 31981568), [], ⟨(some 21), (some (18, true)), (.bin .sub (.tmp 20) (.const (.int .i64 1)))⟩⟩, ⟨10, (mB 25 29360128), [], ⟨(some 22), (some (18, true)), (.ia 2 (.tmp 19) (.tmp 21))⟩⟩, ⟨11, (mB 25 25165824), [], ⟨(some 23), (some (18, true)), (.load 2 true (.tmp 22))⟩⟩, ⟨12, (mB 25 33030144), [], ⟨(some 24), (some (18, true)), (.load 2 true (.tmp 4))⟩⟩] [⟨(some 25), (some (18, true)), (.callX 66 [(.tmp 23), (.tmp 24)])⟩, ⟨(some 26), (some (18, true)), (.un .not (.tmp 25))⟩, ⟨(some 27), (some (15, false)), (.pick (.tmp 18) (.tmp 26) (.const (.bool false)))⟩, ⟨(some 28), none, (.pick (.tmp 15) (.const (.bool true)) (.tmp 27))⟩]) (.cond (.tmp 28) (.seq (.ops [
  ⟨(some 2), none, (.asg (.const (.bool false)))⟩]) .ret) .skip)))) (.ops [
  ⟨(some 29), none, (.bin .add (.tmp 7) (.const (.int .i64 1)))⟩,
  ⟨(some 7), none, (.mv (.tmp 29))⟩]))))))) (.seq (.ops [
  ⟨(some 30), none, (.mv (.tmp 0))⟩,
  ⟨(some 31), none, (.len (.tmp 30))⟩,
  ⟨(some 32), none, (.callX 67 [(.tmp 31), (.const (.int .i64 1)), (.const (.int .i64 500))])⟩,
  ⟨(some 2), none, (.asg (.tmp 32))⟩]) .ret)))
theorem law_impl_ValidShape {a0 d : D} (h : code_impl_ValidShape.wp (CT Try.prog NoG) (endQ [(.t 2)] d) [a0, .undef, .undef, .undef, .undef, .undef, .undef, .undef, .undef, .undef, .undef, .undef, .undef, .undef, .undef, .undef, .undef, .undef, .undef, .undef, .undef, .undef, .undef, .undef, .undef, .undef, .undef, .undef, .undef, .undef, .undef, .undef, .undef]) : Contract Try.prog NoG 33 [a0] d :=
  contract_of (pt := 0) noG Try.func33 (fun us W => by kernel_rfl) (c := Try.f33.body.getD .skip) (ms := [(mB 33 8589934366)]) (ms' := []) (by kernel_rfl) (by kernel_rfl) (by kernel_rfl) h
set_option maxHeartbeats 2000000 in
theorem v_ValidShape (xs : List Point) (hn : xs.length ≤ 1048576) : Contract Try.prog NoG 33 [.sl false 2 (xs.map (Point.td.d false))] (.v (.bool (okShape xs))) := by
  unfold okShape; refine law_impl_ValidShape ?_; unfold code_impl_ValidShape; simp -implicitDefEqProofs (disch := omega) only [go_sem, ↓reduceIte]; refine loop_st (fun i : Nat => [.sl false 2 (xs.map (Point.td.d false)), .undef, .undef, .undef, .undef, .sl false 2 (xs.map (Point.td.d false)), .v (.int .i64 xs.length), .v (.int .i64 i), .undef, .undef, .undef, .undef, .undef, .undef, .undef, .undef, .undef, .undef, .undef, .undef, .undef, .undef, .undef, .undef, .undef, .undef, .undef, .undef, .undef, .undef, .undef, .undef, .undef]) (fun i => i ≤ xs.length ∧ (List.range i).all (shapeAt xs) = true) (fun i => xs.length - i) 0 ?_ ⟨Nat.zero_le _, rfl⟩ ?_
  · simp -implicitDefEqProofs (disch := omega) only [go_sem, ↓reduceIte , List.length_map]
    (try simp -implicitDefEqProofs only [nleL_cc, nleL_nn, nle_self, nle_boxs, nle_aggs, nle_nils, and_self, and_true, true_and]) <;> repeat' (first | exact nle_of_eq rfl | exact nle_nil | apply And.intro | apply nle_sl | apply nleLL_cons | apply nleL_cons | exact nleL_nil | exact nleLL_nil | apply nle_box | apply nle_agg)
  rintro i ⟨hi, ha⟩; simp -implicitDefEqProofs (disch := omega) only [go_sem, ↓reduceIte , List.length_map, Int.toNat_natCast, Int.ofNat_lt, Int.natCast_nonneg, List.getElem?_map, Option.map_some]; refine cond_split ?_ ?_ <;> intro hlt
  · have hlt : i < xs.length := (by simpa using hlt); have e1 := List.getElem?_eq_getElem hlt; simp -implicitDefEqProofs (disch := omega) only [go_sem, ↓reduceIte , List.length_map, Int.toNat_natCast, Int.ofNat_lt, Int.natCast_nonneg, List.getElem?_map, Option.map_some, hlt, e1, Point.td_d]; refine call_NB (v_ValidPoint xs[i]) (by simp -implicitDefEqProofs (disch := omega) only [go_sem, ↓reduceIte, deep, TD.rows, immLL_rI, immLL_rB8, immLL_rS, immLL_rBo, immLL_rII, immLL_rIIt, Point.td_d]; exact rfl) ?_; simp -implicitDefEqProofs (disch := omega) only [go_sem, ↓reduceIte , Point.td_d]; refine gd_split ?_ ?_ <;> intro hv
    · simp -implicitDefEqProofs (disch := omega) only [go_sem, ↓reduceIte , hv]; have hv : ptOK xs[i] = false := by simpa using hv
      have hb : shapeAt xs i = false := by
        cases i with
        | zero => simp [shapeAt, e1, hv]
        | succ k => have e2 := List.getElem?_eq_getElem (show k < xs.length by omega); simp [shapeAt, e1, e2, hv]
      simp [shape_bad hlt hb]
    · have hv' : ptOK xs[i] = true := (by simpa using hv); cases i with
      | zero => simp -implicitDefEqProofs (disch := omega) only [go_sem, ↓reduceIte , hv, Int.natCast_zero, Int.natCast_one, Int.cast_ofNat_Int, Int.ofNat_le, Int.toNat_zero, Nat.sub_zero, Int.le_refl, Int.reduceLT, Int.reduceLE, Int.reduceEq, Int.reduceAdd, Int.reduceSub, Int.reduceMul, Int.reduceToNat, Int.reduceNeg, IntWalk.i64_in]; exact ⟨1, by omega, ⟨by omega, by simp [shapeAt, e1, hv']⟩, nleA⟩
      | succ k =>
        have hk : k < xs.length := (by omega); have e2 := List.getElem?_eq_getElem hk; have hp : (0 : Int) < ((k + 1 : Nat) : Int) := (by omega); have hw : IntKind.i64.wrap (((k + 1 : Nat) : Int) - 1) = (k : Int) := (by rw [wrI (by omega) (by omega)]; omega); simp -implicitDefEqProofs (disch := omega) only [go_sem, ↓reduceIte , hv, List.length_map, Int.toNat_natCast, Int.ofNat_lt, Int.natCast_nonneg, List.getElem?_map, Option.map_some, hp, hw, hk, e2, hlt, e1, Point.td_d]; refine call_B (v_LessPoint xs[k] xs[k + 1]) (by simp -implicitDefEqProofs (disch := omega) only [go_sem, ↓reduceIte, deep, TD.rows, immLL_rI, immLL_rB8, immLL_rS, immLL_rBo, immLL_rII, immLL_rIIt, hv]; exact rfl) ?_; simp -implicitDefEqProofs (disch := omega) only [go_sem, ↓reduceIte , hv]; refine cond_split ?_ ?_ <;> intro hc
        · simp -implicitDefEqProofs (disch := omega) only [go_sem, ↓reduceIte]; have hc : lessP xs[k] xs[k + 1] = false := by simpa using hc
          have hb : shapeAt xs (k + 1) = false := (by simp [shapeAt, e1, e2, hc]); simp [shape_bad hlt hb]
        · simp -implicitDefEqProofs (disch := omega) only [go_sem, ↓reduceIte , wrN]; have hc : lessP xs[k] xs[k + 1] = true := by simpa using hc
          exact ⟨k + 2, by omega, ⟨by omega, all_next ha (by simp [shapeAt, e1, e2, hc, hv'])⟩, nleA⟩
  · have hge : i = xs.length := (by have : ¬ i < xs.length := (by simpa using hlt); omega); subst hge; simp -implicitDefEqProofs (disch := omega) only [go_sem, ↓reduceIte , List.length_map]; refine call_B (v_within _ _ _) (by simp -implicitDefEqProofs (disch := omega) only [go_sem, ↓reduceIte, deep, TD.rows, immLL_rI, immLL_rB8, immLL_rS, immLL_rBo, immLL_rII, immLL_rIIt]; exact rfl) ?_; simp -implicitDefEqProofs (disch := omega) only [go_sem, ↓reduceIte]; simp [ha]
def code_spec_l04Ok : VCode := (.seq (.ops [
  ⟨(some 2), none, (.asg (.const (.bool false)))⟩]) (.seq (.seq (.ops [
  ⟨(some 4), none, (.mv (.tmp 0))⟩,
  ⟨(some 5), none, (.len (.tmp 4))⟩,
  ⟨(some 6), none, (.bin .lss (.tmp 5) (.const (.int .i64 1)))⟩,
  ⟨(some 7), none, (.mv (.tmp 6))⟩,
  ⟨(some 8), (some (7, false)), (.mv (.tmp 0))⟩,
  ⟨(some 9), (some (7, false)), (.len (.tmp 8))⟩,
  ⟨(some 10), (some (7, false)), (.bin .gtr (.tmp 9) (.const (.int .i64 500)))⟩,
  ⟨(some 11), none, (.pick (.tmp 7) (.const (.bool true)) (.tmp 10))⟩]) (.cond (.tmp 11) (.seq (.ops [
  ⟨(some 2), none, (.asg (.const (.bool false)))⟩]) .ret) .skip)) (.seq (.seq (.ops [
  ⟨(some 3), none, (.asg (.const (.int .i64 0)))⟩]) (.block 0 (.loop (mB 41 2199023255542) (.seq (.seq (.ops [
  ⟨(some 12), none, (.mv (.tmp 3))⟩,
  ⟨(some 13), none, (.mv (.tmp 0))⟩,
  ⟨(some 14), none, (.len (.tmp 13))⟩,
  ⟨(some 15), none, (.bin .lss (.tmp 12) (.tmp 14))⟩]) (.cond (.tmp 15) .skip (.exit 0))) (.seq (.block 1 (.seq (.draw (mB 37 137438691328) [] [⟨0, (mB 37 137438691328), [], ⟨(some 18), none, (.mv (.tmp 0))⟩⟩, ⟨1, (mB 37 137438691328), [], ⟨(some 19), none, (.mv (.tmp 3))⟩⟩, ⟨2, (mB 37 137437904896), [], ⟨(some 20), none, (.ia 2 (.tmp 18) (.tmp 19))⟩⟩, ⟨3, (mB 37 137436856320), [], ⟨(some 21), none, (.load 2 true (.tmp 20))⟩⟩, ⟨4, (mB 37 137434759168), [], ⟨(some 22), none, (.call 62 [(.tmp 21)])⟩⟩, ⟨5, (mB 37 137430564864), [], ⟨(some 23), none, (.un .not (.tmp 22))⟩⟩, ⟨6, (mB 37 137422176256), [], ⟨(some 24), none, (.mv (.tmp 23))⟩⟩, ⟨7, (mB 37 137405399040), [], ⟨(some 25), (some (24, false)), (.mv (.tmp 3))⟩⟩, ⟨8, (mB 37 137371844608), [], ⟨(some 26), (some (24, false)), (.bin .gtr (.tmp 25) (.const (.int .i64 0)))⟩⟩, ⟨9, (mB 37 137304735744), [], ⟨(some 27), (some (24, false)), (.mv (.tmp 26))⟩⟩, ⟨10, (mB 37 137170518016), [], ⟨(some 28), (some (27, true)), (.mv (.tmp 0))⟩⟩, ⟨11, (mB 37 137170518016), [], ⟨(some 29), (some (27, true)), (.mv (.tmp 3))⟩⟩, ⟨12, (mB 37 136633647104), [], ⟨(some 30), (some (27, true)), (.bin .sub (.tmp 29) (.const (.int .i64 1)))⟩⟩, ⟨13, (mB 37 135291469824), [], ⟨(some 31), (some (27, true)), (.ia 2 (.tmp 28) (.tmp 30))⟩⟩, ⟨14, (mB 37 133143986176), [], ⟨(some 32), (some (27, true)), (.load 2 true (.tmp 31))⟩⟩, ⟨15, (mB 37 137170518016), [], ⟨(some 33), (some (27, true)), (.mv (.tmp 0))⟩⟩, ⟨16, (mB 37 137170518016), [], ⟨(some 34), (some (27, true)), (.mv (.tmp 3))⟩⟩, ⟨17, (mB 37 111400714240), [], ⟨(some 35), (some (27, true)), (.ia 2 (.tmp 33) (.tmp 34))⟩⟩, ⟨18, (mB 37 77040975872), [], ⟨(some 36), (some (27, true)), (.load 2 true (.tmp 35))⟩⟩] [⟨(some 37), (some (27, true)), (.callX 63 [(.tmp 32), (.tmp 36)])⟩, ⟨(some 38), (some (27, true)), (.un .not (.tmp 37))⟩, ⟨(some 39), (some (24, false)), (.pick (.tmp 27) (.tmp 38) (.const (.bool false)))⟩, ⟨(some 40), none, (.pick (.tmp 24) (.const (.bool true)) (.tmp 39))⟩]) (.cond (.tmp 40) (.seq (.ops [
  ⟨(some 2), none, (.asg (.const (.bool false)))⟩]) .ret) .skip))) (.ops [
  ⟨(some 16), none, (.mv (.tmp 3))⟩,
  ⟨(some 17), none, (.bin .add (.tmp 16) (.const (.int .i64 1)))⟩,
  ⟨(some 3), none, (.asg (.tmp 17))⟩])))))) (.seq (.ops [
  ⟨(some 2), none, (.asg (.const (.bool true)))⟩]) .ret))))
theorem law_spec_l04Ok {a0 d : D} (h : code_spec_l04Ok.wp (CT Try.prog NoG) (endQ [(.t 2)] d) [a0, .undef, .undef, .undef, .undef, .undef, .undef, .undef, .undef, .undef, .undef, .undef, .undef, .undef, .undef, .undef, .undef, .undef, .undef, .undef, .undef, .undef, .undef, .undef, .undef, .undef, .undef, .undef, .undef, .undef, .undef, .undef, .undef, .undef, .undef, .undef, .undef, .undef, .undef, .undef, .undef]) : Contract Try.prog NoG 30 [a0] d :=
  contract_of (pt := 0) noG Try.func30 (fun us W => by kernel_rfl) (c := Try.f30.body.getD .skip) (ms := [(mB 41 2199023255542)]) (ms' := []) (by kernel_rfl) (by kernel_rfl) (by kernel_rfl) h
set_option maxHeartbeats 2000000 in
theorem v_l04Ok (xs : List Point) (hn : xs.length ≤ 1048576) : Contract Try.prog NoG 30 [.sl false 2 (xs.map (Point.td.d false))] (.v (.bool (okShape xs))) := by
  unfold okShape; refine law_spec_l04Ok ?_; unfold code_spec_l04Ok; simp -implicitDefEqProofs (disch := omega) only [go_sem, ↓reduceIte , List.length_map]; refine guard_split ?_ ?_ <;> intro h1
  · simp -implicitDefEqProofs (disch := omega) only [go_sem, ↓reduceIte , h1]; have : inR 1 500 xs.length = false := by simp [inR] at h1 ⊢; omega
    simp [this]
  simp -implicitDefEqProofs (disch := omega) only [go_sem, ↓reduceIte , h1, List.length_map]; refine cond_split ?_ ?_ <;> intro h2
  · simp -implicitDefEqProofs (disch := omega) only [go_sem, ↓reduceIte , h2]; have : inR 1 500 xs.length = false := by simp [inR] at h2 ⊢; omega
    simp [this]
  have hr : inR 1 500 xs.length = true := (by simp [inR] at h1 h2 ⊢; omega); simp -implicitDefEqProofs (disch := omega) only [go_sem, ↓reduceIte , h2]; refine loop_st (fun i : Nat => [.sl false 2 (xs.map (Point.td.d false)), .undef, .undef, .v (.int .i64 i), .undef, .undef, .undef, .undef, .undef, .undef, .undef, .undef, .undef, .undef, .undef, .undef, .undef, .undef, .undef, .undef, .undef, .undef, .undef, .undef, .undef, .undef, .undef, .undef, .undef, .undef, .undef, .undef, .undef, .undef, .undef, .undef, .undef, .undef, .undef, .undef, .undef]) (fun i => i ≤ xs.length ∧ (List.range i).all (shapeAt xs) = true) (fun i => xs.length - i) 0 ?_ ⟨Nat.zero_le _, rfl⟩ ?_
  · simp -implicitDefEqProofs (disch := omega) only [go_sem, ↓reduceIte , List.length_map]
    (try simp -implicitDefEqProofs only [nleL_cc, nleL_nn, nle_self, nle_boxs, nle_aggs, nle_nils, and_self, and_true, true_and]) <;> repeat' (first | exact nle_of_eq rfl | exact nle_nil | apply And.intro | apply nle_sl | apply nleLL_cons | apply nleL_cons | exact nleL_nil | exact nleLL_nil | apply nle_box | apply nle_agg)
  rintro i ⟨hi, ha⟩; simp -implicitDefEqProofs (disch := omega) only [go_sem, ↓reduceIte , List.length_map, Int.toNat_natCast, Int.ofNat_lt, Int.natCast_nonneg, List.getElem?_map, Option.map_some]; refine cond_split ?_ ?_ <;> intro hlt
  · have hlt : i < xs.length := (by simpa using hlt); have e1 := List.getElem?_eq_getElem hlt; simp -implicitDefEqProofs (disch := omega) only [go_sem, ↓reduceIte , List.length_map, Int.toNat_natCast, Int.ofNat_lt, Int.natCast_nonneg, List.getElem?_map, Option.map_some, hlt, e1, Point.td_d]; refine call_NB (v_l01Point xs[i]) (by simp -implicitDefEqProofs (disch := omega) only [go_sem, ↓reduceIte, deep, TD.rows, immLL_rI, immLL_rB8, immLL_rS, immLL_rBo, immLL_rII, immLL_rIIt, Point.td_d]; exact rfl) ?_; simp -implicitDefEqProofs (disch := omega) only [go_sem, ↓reduceIte , Point.td_d]; refine gd_split ?_ ?_ <;> intro hv
    · simp -implicitDefEqProofs (disch := omega) only [go_sem, ↓reduceIte , hv]; have hv : ptOK xs[i] = false := by simpa using hv
      have hb : shapeAt xs i = false := by
        cases i with
        | zero => simp [shapeAt, e1, hv]
        | succ k => have e2 := List.getElem?_eq_getElem (show k < xs.length by omega); simp [shapeAt, e1, e2, hv]
      simp [shape_bad hlt hb]
    · have hv' : ptOK xs[i] = true := (by simpa using hv); cases i with
      | zero => simp -implicitDefEqProofs (disch := omega) only [go_sem, ↓reduceIte , hv, Int.natCast_zero, Int.natCast_one, Int.cast_ofNat_Int, Int.ofNat_le, Int.toNat_zero, Nat.sub_zero, Int.le_refl, Int.reduceLT, Int.reduceLE, Int.reduceEq, Int.reduceAdd, Int.reduceSub, Int.reduceMul, Int.reduceToNat, Int.reduceNeg, IntWalk.i64_in]; exact ⟨1, by omega, ⟨by omega, by simp [shapeAt, e1, hv']⟩, nleA⟩
      | succ k =>
        have hk : k < xs.length := (by omega); have e2 := List.getElem?_eq_getElem hk; have hp : (0 : Int) < ((k + 1 : Nat) : Int) := (by omega); have hw : IntKind.i64.wrap (((k + 1 : Nat) : Int) - 1) = (k : Int) := (by rw [wrI (by omega) (by omega)]; omega); simp -implicitDefEqProofs (disch := omega) only [go_sem, ↓reduceIte , hv, List.length_map, Int.toNat_natCast, Int.ofNat_lt, Int.natCast_nonneg, List.getElem?_map, Option.map_some, hp, hw, hk, e2, hlt, e1, Point.td_d]; refine call_B (v_LessPoint_spec xs[k] xs[k + 1]) (by simp -implicitDefEqProofs (disch := omega) only [go_sem, ↓reduceIte, deep, TD.rows, immLL_rI, immLL_rB8, immLL_rS, immLL_rBo, immLL_rII, immLL_rIIt, hv]; exact rfl) ?_; simp -implicitDefEqProofs (disch := omega) only [go_sem, ↓reduceIte , hv]; refine cond_split ?_ ?_ <;> intro hc
        · simp -implicitDefEqProofs (disch := omega) only [go_sem, ↓reduceIte]; have hc : lessP xs[k] xs[k + 1] = false := by simpa using hc
          have hb : shapeAt xs (k + 1) = false := (by simp [shapeAt, e1, e2, hc]); simp [shape_bad hlt hb]
        · simp -implicitDefEqProofs (disch := omega) only [go_sem, ↓reduceIte , wrN]; have hc : lessP xs[k] xs[k + 1] = true := by simpa using hc
          exact ⟨k + 2, by omega, ⟨by omega, all_next ha (by simp [shapeAt, e1, e2, hc, hv'])⟩, nleA⟩
  · have hge : i = xs.length := (by have : ¬ i < xs.length := (by simpa using hlt); omega); subst hge; simp -implicitDefEqProofs (disch := omega) only [go_sem, ↓reduceIte]; simp [ha, hr]
def code_laws_toPoint : VCode := (.seq (.ops [
  ⟨(some 1), none, (.box (.tmp 0))⟩,
  ⟨(some 2), none, (.alloc [(.int .i64 0), (.int .i64 0)])⟩]) (.seq (.ops [
  ⟨(some 3), none, (.alloc [(.int .i64 0), (.int .i64 0)])⟩]) (.seq (.ops [
  ⟨(some 4), none, (.fa 0 (.tmp 1))⟩,
  ⟨(some 5), none, (.load 1 false (.tmp 4))⟩,
  ⟨(some 6), none, (.fa 0 (.tmp 3))⟩,
  ⟨none, none, (.store 1 (.tmp 6) (.tmp 5))⟩]) (.seq (.ops [
  ⟨(some 7), none, (.fa 1 (.tmp 1))⟩,
  ⟨(some 8), none, (.load 1 false (.tmp 7))⟩,
  ⟨(some 9), none, (.fa 1 (.tmp 3))⟩,
  ⟨none, none, (.store 1 (.tmp 9) (.tmp 8))⟩]) (.seq (.ops [
  ⟨(some 10), none, (.load 2 true (.tmp 3))⟩,
  ⟨none, none, (.store 2 (.tmp 2) (.tmp 10))⟩]) .ret)))))
theorem law_laws_toPoint {a0 d : D} (h : code_laws_toPoint.wp (CT Try.prog NoG) (endQ [(.c 2 2 true)] d) [a0, .undef, .undef, .undef, .undef, .undef, .undef, .undef, .undef, .undef, .undef]) : Contract Try.prog NoG 32 [a0] d :=
  contract_of (pt := 0) noG Try.func32 (fun us W => by kernel_rfl) (c := Try.f32.body.getD .skip) (ms := []) (ms' := []) (by kernel_rfl) (by kernel_rfl) (by kernel_rfl) h
set_option maxHeartbeats 2000000 in
theorem v_toPoint (q : Point) : Contract Try.prog NoG 32 [.agg (Point.td.d false q)] (.agg (Point.td.d true q)) := by rw [Point.td_d, Point.td_d]; refine law_laws_toPoint ?_; unfold code_laws_toPoint; simp -implicitDefEqProofs (disch := omega) only [go_sem, ↓reduceIte]
def code_laws_toPointS : VCode := (.seq (.ops [
  ⟨(some 2), none, (.asg (.const (.slice none 0 0)))⟩]) (.seq (.ops [
  ⟨(some 5), none, (.mv (.tmp 0))⟩,
  ⟨(some 6), none, (.len (.tmp 5))⟩,
  ⟨(some 7), none, (.mks 2 16 [(.int .i64 0), (.int .i64 0)] (.tmp 6) (.tmp 6))⟩,
  ⟨(some 3), none, (.asg (.tmp 7))⟩]) (.seq (.seq (.ops [
  ⟨(some 4), none, (.asg (.const (.int .i64 0)))⟩]) (.block 0 (.loop (mB 23 8388454) (.seq (.seq (.ops [
  ⟨(some 8), none, (.mv (.tmp 4))⟩,
  ⟨(some 9), none, (.mv (.tmp 0))⟩,
  ⟨(some 10), none, (.len (.tmp 9))⟩,
  ⟨(some 11), none, (.bin .lss (.tmp 8) (.tmp 10))⟩]) (.cond (.tmp 11) .skip (.exit 0))) (.seq (.block 1 (.ops [
  ⟨(some 14), none, (.mv (.tmp 3))⟩,
  ⟨(some 15), none, (.mv (.tmp 4))⟩,
  ⟨(some 16), none, (.mv (.tmp 0))⟩,
  ⟨(some 17), none, (.mv (.tmp 4))⟩,
  ⟨(some 18), none, (.ia 2 (.tmp 16) (.tmp 17))⟩,
  ⟨(some 19), none, (.load 2 true (.tmp 18))⟩,
  ⟨(some 20), none, (.callX 32 [(.tmp 19)])⟩,
  ⟨(some 21), none, (.ia 2 (.tmp 14) (.tmp 15))⟩,
  ⟨none, none, (.store 2 (.tmp 21) (.tmp 20))⟩])) (.ops [
  ⟨(some 12), none, (.mv (.tmp 4))⟩,
  ⟨(some 13), none, (.bin .add (.tmp 12) (.const (.int .i64 1)))⟩,
  ⟨(some 4), none, (.asg (.tmp 13))⟩])))))) (.seq (.ops [
  ⟨(some 22), none, (.mv (.tmp 3))⟩,
  ⟨(some 2), none, (.asg (.tmp 22))⟩]) .ret))))
theorem law_laws_toPointS {a0 d : D} (h : code_laws_toPointS.wp (CT Try.prog NoG) (endQ [(.t 2)] d) [a0, .undef, .undef, .undef, .undef, .undef, .undef, .undef, .undef, .undef, .undef, .undef, .undef, .undef, .undef, .undef, .undef, .undef, .undef, .undef, .undef, .undef, .undef]) : Contract Try.prog NoG 9 [a0] d :=
  contract_of (pt := 0) noG Try.func9 (fun us W => by kernel_rfl) (c := Try.f9.body.getD .skip) (ms := [(mB 23 8388454)]) (ms' := []) (by kernel_rfl) (by kernel_rfl) (by kernel_rfl) h
set_option maxHeartbeats 2000000 in
theorem v_toPointS (xs : List Point) (hn : xs.length ≤ 1048576) : Contract Try.prog NoG 9 [.sl false 2 (xs.map (Point.td.d false))] (.sl true 2 (xs.map (Point.td.d true))) := by
  have hl : xs.length ≤ 1048576 := (by exact hn); refine law_laws_toPointS ?_; unfold code_laws_toPointS; simp -implicitDefEqProofs (disch := omega) only [go_sem, ↓reduceIte , List.length_map, Int.toNat_natCast]; refine ⟨by omega, by omega, by omega, ?_⟩; refine loop_st (fun k : Nat => [.sl false 2 (xs.map (Point.td.d false)), .undef, .undef, .sl true 2 ((xs.take k).map (Point.td.d true) ++ List.replicate (xs.length - k) [D.v (.int .i64 0), D.v (.int .i64 0)]), .v (.int .i64 k), .undef, .undef, .undef, .undef, .undef, .undef, .undef, .undef, .undef, .undef, .undef, .undef, .undef, .undef, .undef, .undef, .undef, .undef]) (fun k => k ≤ xs.length) (fun k => xs.length - k) 0 (nleA) (Nat.zero_le _) ?_; intro k hk; simp -implicitDefEqProofs (disch := omega) only [go_sem, ↓reduceIte , List.length_map, Int.toNat_natCast, Int.ofNat_lt, Int.natCast_nonneg, List.getElem?_map, Option.map_some]; refine cond_split ?_ ?_ <;> intro hlt
  · have hlt : k < xs.length := (by simpa using hlt); have e1 := List.getElem?_eq_getElem hlt; have g1 := fill_len xs (Point.td.d true) [D.v (.int .i64 0), D.v (.int .i64 0)] k; have g2 := fill_at xs (Point.td.d true) [D.v (.int .i64 0), D.v (.int .i64 0)] k hlt; have g3 := fill_next xs (Point.td.d true) [D.v (.int .i64 0), D.v (.int .i64 0)] k hlt; have g4 : k < ((xs.take k).map (Point.td.d true) ++ List.replicate (xs.length - k) [D.v (.int .i64 0), D.v (.int .i64 0)]).length := (by rw [g1]; exact hlt); simp -implicitDefEqProofs (disch := omega) only [go_sem, ↓reduceIte , List.length_map, Int.toNat_natCast, Int.ofNat_lt, Int.natCast_nonneg, List.getElem?_map, Option.map_some, hlt, e1, g1, g2, List.set_set, List.getElem?_set_self g4, wrN, Point.td_d]; refine call_B (v_toPoint xs[k]) (by simp -implicitDefEqProofs (disch := omega) only [go_sem, ↓reduceIte, deep, TD.rows, immLL_rI, immLL_rB8, immLL_rS, immLL_rBo, immLL_rII, immLL_rIIt, List.length_map, Int.toNat_natCast, Int.ofNat_lt, Int.natCast_nonneg, List.getElem?_map, Option.map_some, hlt, e1, g1, g2, List.set_set, List.getElem?_set_self g4, wrN, Point.td_d]; exact rfl) ?_; simp -implicitDefEqProofs (disch := omega) only [go_sem, ↓reduceIte , List.length_map, Int.toNat_natCast, Int.ofNat_lt, Int.natCast_nonneg, List.getElem?_map, Option.map_some, hlt, e1, g1, g2, List.set_set, List.getElem?_set_self g4, wrN, Point.td_d]; refine ⟨k + 1, by omega, hlt, ?_⟩; rw [← g3]; rw [Point.td_d]
    (try simp -implicitDefEqProofs only [nleL_cc, nleL_nn, nle_self, nle_boxs, nle_aggs, nle_nils, and_self, and_true, true_and]) <;> repeat' (first | exact nle_of_eq rfl | exact nle_nil | apply And.intro | apply nle_sl | apply nleLL_cons | apply nleL_cons | exact nleL_nil | exact nleLL_nil | apply nle_box | apply nle_agg)
  · have hge : k = xs.length := (by have : ¬ k < xs.length := (by simpa using hlt); omega); subst hge; simp -implicitDefEqProofs (disch := omega) only [go_sem, ↓reduceIte , fill_end]
end Go.Proofs.Ytgnlikamelfmjaa
