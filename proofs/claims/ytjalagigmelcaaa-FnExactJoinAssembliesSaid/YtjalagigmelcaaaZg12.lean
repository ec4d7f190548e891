/- Laws that the proof stands on. -/
import Derived.Test.YtjalagigmelcaaaZVB
import Derived.Test.YtjalagigmelcaaaProg
import Derived.Test.YtjalagigmelcaaaZg11
import Derived.Test.YtjalagigmelcaaaZg10
set_option linter.all false
namespace Go.Proofs.Ytjalagigmelcaaa
open Go.RowKit Go.V
attribute [local go_sem] List.getElem?_cons_succ List.getElem?_cons_zero List.set_cons_succ List.set_cons_zero List.map_cons List.map_nil List.length_cons List.length_nil List.all_cons List.all_nil List.drop_succ_cons List.drop_zero List.take_succ_cons List.take_zero List.flatMap_cons List.flatMap_nil List.cons_append List.nil_append List.append_nil List.headD_cons Value.oneCell' Bool.and_true Bool.true_and Bool.or_false Bool.false_or Bool.and_self Bool.not_true Bool.not_false and_true true_and beq_self_eq_true Bool.false_eq_true if_true if_false Nat.zero_add Nat.reduceAdd Nat.reduceMul Nat.reduceLeDiff Nat.le_refl Option.isSome_some Option.isSome_none not_true_eq_false not_false_eq_true ne_eq reduceCtorEq List.reverse_nil bne_self_eq_false Nat.reduceEqDiff List.isPrefixOf Bool.not_eq_true Bool.and_false Bool.false_and Bool.true_or Bool.or_true decide_true decide_false Nat.reduceBEq Nat.reduceBNe List.replicate_succ List.replicate_zero exists_eq_left' exists_eq_left Option.some.injEq or_false or_true true_or false_or Option.map_some Option.map_none mB Nat.reduceMod Nat.reduceDiv
set_option maxRecDepth 100000
def inR (lo hi n : Int) : Bool := decide (lo ≤ n) && decide (n ≤ hi)
def code_spec_l00In : VCode := (.seq (.ops [
  ⟨(some 6), none, (.asg (.const (.bool false)))⟩]) (.seq (.ops [
  ⟨(some 7), none, (.mv (.tmp 0))⟩,
  ⟨(some 8), none, (.mv (.tmp 1))⟩,
  ⟨(some 9), none, (.bin .geq (.tmp 7) (.tmp 8))⟩,
  ⟨(some 10), none, (.mv (.tmp 9))⟩,
  ⟨(some 11), (some (10, true)), (.mv (.tmp 0))⟩,
  ⟨(some 12), (some (10, true)), (.mv (.tmp 2))⟩,
  ⟨(some 13), (some (10, true)), (.bin .leq (.tmp 11) (.tmp 12))⟩,
  ⟨(some 14), none, (.pick (.tmp 10) (.tmp 13) (.const (.bool false)))⟩,
  ⟨(some 6), none, (.asg (.tmp 14))⟩]) .ret))
theorem law_spec_l00In {a0 a1 a2 d : D} (h : code_spec_l00In.wp (CT Try.prog NoG) (endQ [(.t 6)] d) [a0, a1, a2, .undef, .undef, .undef, .undef, .undef, .undef, .undef, .undef, .undef, .undef, .undef, .undef]) : Contract Try.prog NoG 34 [a0, a1, a2] d :=
  contract_of (pt := 0) noG Try.func34 (fun us W => by kernel_rfl) (c := Try.f34.body.getD .skip) (ms := []) (ms' := []) (by kernel_rfl) (by kernel_rfl) (by kernel_rfl) h
theorem v_l00In (a b c : Int) : Contract Try.prog NoG 34 [.v (.int .i64 a), .v (.int .i64 b), .v (.int .i64 c)] (.v (.bool (inR b c a))) := by
  refine law_spec_l00In ?_; unfold code_spec_l00In inR; simp -implicitDefEqProofs (disch := omega) only [go_sem, ↓reduceIte]; refine guard_split ?_ ?_ <;> intro h
  · simp -implicitDefEqProofs (disch := omega) only [go_sem, ↓reduceIte , h]
  · simp -implicitDefEqProofs (disch := omega) only [go_sem, ↓reduceIte , h]
def code_impl_within : VCode := (.seq (.ops [
  ⟨(some 6), none, (.asg (.const (.bool false)))⟩]) (.seq (.ops [
  ⟨(some 7), none, (.mv (.tmp 0))⟩,
  ⟨(some 8), none, (.mv (.tmp 1))⟩,
  ⟨(some 9), none, (.bin .geq (.tmp 7) (.tmp 8))⟩,
  ⟨(some 10), none, (.mv (.tmp 9))⟩,
  ⟨(some 11), (some (10, true)), (.mv (.tmp 0))⟩,
  ⟨(some 12), (some (10, true)), (.mv (.tmp 2))⟩,
  ⟨(some 13), (some (10, true)), (.bin .leq (.tmp 11) (.tmp 12))⟩,
  ⟨(some 14), none, (.pick (.tmp 10) (.tmp 13) (.const (.bool false)))⟩,
  ⟨(some 6), none, (.asg (.tmp 14))⟩]) .ret))
theorem law_impl_within {a0 a1 a2 d : D} (h : code_impl_within.wp (CT Try.prog NoG) (endQ [(.t 6)] d) [a0, a1, a2, .undef, .undef, .undef, .undef, .undef, .undef, .undef, .undef, .undef, .undef, .undef, .undef]) : Contract Try.prog NoG 50 [a0, a1, a2] d :=
  contract_of (pt := 0) noG Try.func50 (fun us W => by kernel_rfl) (c := Try.f50.body.getD .skip) (ms := []) (ms' := []) (by kernel_rfl) (by kernel_rfl) (by kernel_rfl) h
theorem v_within (a b c : Int) : Contract Try.prog NoG 50 [.v (.int .i64 a), .v (.int .i64 b), .v (.int .i64 c)] (.v (.bool (inR b c a))) := by
  refine law_impl_within ?_; unfold code_impl_within inR; simp -implicitDefEqProofs (disch := omega) only [go_sem, ↓reduceIte]; refine guard_split ?_ ?_ <;> intro h
  · simp -implicitDefEqProofs (disch := omega) only [go_sem, ↓reduceIte , h]
  · simp -implicitDefEqProofs (disch := omega) only [go_sem, ↓reduceIte , h]
def code_impl_isIndex : VCode := (.seq (.ops [
  ⟨(some 4), none, (.asg (.const (.bool false)))⟩]) (.seq (.ops [
  ⟨(some 5), none, (.mv (.tmp 0))⟩,
  ⟨(some 6), none, (.mv (.tmp 1))⟩,
  ⟨(some 7), none, (.bin .sub (.tmp 6) (.const (.int .i64 1)))⟩,
  ⟨(some 8), none, (.callX 50 [(.tmp 5), (.const (.int .i64 0)), (.tmp 7)])⟩,
  ⟨(some 4), none, (.asg (.tmp 8))⟩]) .ret))
theorem law_impl_isIndex {a0 a1 d : D} (h : code_impl_isIndex.wp (CT Try.prog NoG) (endQ [(.t 4)] d) [a0, a1, .undef, .undef, .undef, .undef, .undef, .undef, .undef]) : Contract Try.prog NoG 38 [a0, a1] d :=
  contract_of (pt := 0) noG Try.func38 (fun us W => by kernel_rfl) (c := Try.f38.body.getD .skip) (ms := []) (ms' := []) (by kernel_rfl) (by kernel_rfl) (by kernel_rfl) h
theorem v_isIndex (i n : Int) (h1 : 0 ≤ n) (h2 : n ≤ 1099511627776) : Contract Try.prog NoG 38 [.v (.int .i64 i), .v (.int .i64 n)] (.v (.bool (inR 0 (n - 1) i))) := by refine law_impl_isIndex ?_; unfold code_impl_isIndex; have hw : IntKind.i64.wrap (n - 1) = n - 1 := wrI (by omega) (by omega); simp -implicitDefEqProofs (disch := omega) only [go_sem, ↓reduceIte , hw]; refine call_B (v_within _ _ _) (by simp -implicitDefEqProofs (disch := omega) only [go_sem, ↓reduceIte, deep, TD.rows, immLL_rI, immLL_rB8, immLL_rS, immLL_rBo, immLL_rII, immLL_rIIt]; exact rfl) ?_; simp -implicitDefEqProofs (disch := omega) only [go_sem, ↓reduceIte]
theorem lkF_tup {t : Nat} {cs : List D} : lkF t (some (.tup cs)) = if ownyL cs = true then .undef else .tup cs := rfl
def cmpI (a b : Int) : Int := if a < b then -1 else if b < a then 1 else 0
def cmpP (a b : Point) : Int := if cmpI a.Y b.Y = 0 then cmpI a.X b.X else cmpI a.Y b.Y
def lessP (a b : Point) : Bool := decide (a.Y < b.Y) || (decide (a.Y = b.Y) && decide (a.X < b.X))
theorem cmpP_lt (a b : Point) : decide (cmpP a b < 0) = lessP a b := by rw [Bool.eq_iff_iff]; simp only [cmpP, cmpI, lessP, Bool.or_eq_true, Bool.and_eq_true, decide_eq_true_eq]; by_cases h1 : a.Y < b.Y <;> by_cases h2 : b.Y < a.Y <;> by_cases h3 : a.X < b.X <;> by_cases h4 : b.X < a.X <;> simp [h1, h2, h3, h4] <;> omega
theorem cmpP_eq (a b : Point) : decide (cmpP a b = 0) = decide (a = b) := by obtain ⟨ax, ay⟩ := a; obtain ⟨bx, bY⟩ := b; rw [Bool.eq_iff_iff]; simp only [cmpP, cmpI, decide_eq_true_eq, Point.mk.injEq]; by_cases h1 : ay < bY <;> by_cases h2 : bY < ay <;> by_cases h3 : ax < bx <;> by_cases h4 : bx < ax <;> simp [h1, h2, h3, h4] <;> omega
def bsF (f : Nat → Bool) : Nat → Nat → Nat → Nat
  | 0, i, _ => i
  | n + 1, i, j => if i < j then (if f ((i + j) / 2) then bsF f n ((i + j) / 2 + 1) j else bsF f n i ((i + j) / 2)) else i
theorem bsF_end {f : Nat → Bool} {n i j : Nat} (h : ¬ i < j) : bsF f n i j = i := by
  cases n with
  | zero => rfl
  | succ n => simp [bsF, h]
def lessAt (xs : List Point) (p : Point) (k : Nat) : Bool := match xs[k]? with
  | some x => lessP x p
  | none => false
def bsP (xs : List Point) (p : Point) : Nat := bsF (lessAt xs p) xs.length 0 xs.length
def code_cmp_isNaN_int64 : VCode := (.seq (.ops [
  ⟨(some 2), none, (.asg (.const (.bool false)))⟩]) (.seq (.ops [
  ⟨(some 3), none, (.mv (.tmp 0))⟩,
  ⟨(some 4), none, (.mv (.tmp 0))⟩,
  ⟨(some 5), none, (.bin .neq (.tmp 3) (.tmp 4))⟩,
  ⟨(some 2), none, (.asg (.tmp 5))⟩]) .ret))
theorem law_cmp_isNaN_int64 {a0 d : D} (h : code_cmp_isNaN_int64.wp (CT Try.prog NoG) (endQ [(.t 2)] d) [a0, .undef, .undef, .undef, .undef, .undef]) : Contract Try.prog NoG 67 [a0] d :=
  contract_of (pt := 0) noG Try.func67 (fun us W => by kernel_rfl) (c := Try.f67.body.getD .skip) (ms := []) (ms' := []) (by kernel_rfl) (by kernel_rfl) (by kernel_rfl) h
theorem v_isNaN (a : Int) : Contract Try.prog NoG 67 [.v (.int .i64 a)] (.v (.bool false)) := by refine law_cmp_isNaN_int64 ?_; unfold code_cmp_isNaN_int64; simp -implicitDefEqProofs (disch := omega) only [go_sem, ↓reduceIte]
def code_cmp_Compare_int64 : VCode := (.seq (.ops [
  ⟨(some 4), none, (.asg (.const (.int .i64 0)))⟩]) (.seq (.ops [
  ⟨(some 7), none, (.mv (.tmp 0))⟩,
  ⟨(some 8), none, (.callX 67 [(.tmp 7)])⟩,
  ⟨(some 5), none, (.asg (.tmp 8))⟩]) (.seq (.ops [
  ⟨(some 9), none, (.mv (.tmp 1))⟩,
  ⟨(some 10), none, (.callX 67 [(.tmp 9)])⟩,
  ⟨(some 6), none, (.asg (.tmp 10))⟩]) (.seq (.seq (.ops [
  ⟨(some 11), none, (.mv (.tmp 5))⟩]) (.cond (.tmp 11) (.seq (.seq (.ops [
  ⟨(some 12), none, (.mv (.tmp 6))⟩]) (.cond (.tmp 12) (.seq (.ops [
  ⟨(some 4), none, (.asg (.const (.int .i64 0)))⟩]) .ret) .skip)) (.seq (.ops [
  ⟨(some 4), none, (.asg (.const (.int .i64 (-1))))⟩]) .ret)) .skip)) (.seq (.seq (.ops [
  ⟨(some 13), none, (.mv (.tmp 6))⟩]) (.cond (.tmp 13) (.seq (.ops [
  ⟨(some 4), none, (.asg (.const (.int .i64 1)))⟩]) .ret) .skip)) (.seq (.seq (.ops [
  ⟨(some 14), none, (.mv (.tmp 0))⟩,
  ⟨(some 15), none, (.mv (.tmp 1))⟩,
  ⟨(some 16), none, (.bin .lss (.tmp 14) (.tmp 15))⟩]) (.cond (.tmp 16) (.seq (.ops [
  ⟨(some 4), none, (.asg (.const (.int .i64 (-1))))⟩]) .ret) .skip)) (.seq (.seq (.ops [
  ⟨(some 17), none, (.mv (.tmp 0))⟩,
  ⟨(some 18), none, (.mv (.tmp 1))⟩,
  ⟨(some 19), none, (.bin .gtr (.tmp 17) (.tmp 18))⟩]) (.cond (.tmp 19) (.seq (.ops [
  ⟨(some 4), none, (.asg (.const (.int .i64 1)))⟩]) .ret) .skip)) (.seq (.ops [
  ⟨(some 4), none, (.asg (.const (.int .i64 0)))⟩]) .ret))))))))
theorem law_cmp_Compare_int64 {a0 a1 d : D} (h : code_cmp_Compare_int64.wp (CT Try.prog NoG) (endQ [(.t 4)] d) [a0, a1, .undef, .undef, .undef, .undef, .undef, .undef, .undef, .undef, .undef, .undef, .undef, .undef, .undef, .undef, .undef, .undef, .undef, .undef]) : Contract Try.prog NoG 60 [a0, a1] d :=
  contract_of (pt := 0) noG Try.func60 (fun us W => by kernel_rfl) (c := Try.f60.body.getD .skip) (ms := []) (ms' := []) (by kernel_rfl) (by kernel_rfl) (by kernel_rfl) h
theorem v_Compare (a b : Int) : Contract Try.prog NoG 60 [.v (.int .i64 a), .v (.int .i64 b)] (.v (.int .i64 (cmpI a b))) := by
  refine law_cmp_Compare_int64 ?_; unfold code_cmp_Compare_int64 cmpI; simp -implicitDefEqProofs (disch := omega) only [go_sem, ↓reduceIte]; refine call_B (v_isNaN a) (by simp -implicitDefEqProofs (disch := omega) only [go_sem, ↓reduceIte, deep, TD.rows, immLL_rI, immLL_rB8, immLL_rS, immLL_rBo, immLL_rII, immLL_rIIt]; exact rfl) ?_; simp -implicitDefEqProofs (disch := omega) only [go_sem, ↓reduceIte]; refine call_B (v_isNaN b) (by simp -implicitDefEqProofs (disch := omega) only [go_sem, ↓reduceIte, deep, TD.rows, immLL_rI, immLL_rB8, immLL_rS, immLL_rBo, immLL_rII, immLL_rIIt]; exact rfl) ?_; simp -implicitDefEqProofs (disch := omega) only [go_sem, ↓reduceIte]; refine cond_split ?_ ?_ <;> intro h
  · have := of_decide_eq_true h; simp -implicitDefEqProofs (disch := omega) only [go_sem, ↓reduceIte]; simp [this]
  · have h1 := of_decide_eq_false h; simp -implicitDefEqProofs (disch := omega) only [go_sem, ↓reduceIte]; refine cond_split ?_ ?_ <;> intro h
    · have := of_decide_eq_true h; simp -implicitDefEqProofs (disch := omega) only [go_sem, ↓reduceIte]; simp [h1, this]
    · have := of_decide_eq_false h; simp -implicitDefEqProofs (disch := omega) only [go_sem, ↓reduceIte]; simp [h1, this]
def code_cmp_Or_int : VCode := (.seq (.ops [
  ⟨(some 2), none, (.asg (.const (.int .i64 0)))⟩]) (.seq (.ops [
  ⟨(some 3), none, (.asg (.const (.int .i64 0)))⟩]) (.seq (.seq (.ops [
  ⟨(some 6), none, (.mv (.tmp 0))⟩,
  ⟨(some 7), none, (.len (.tmp 6))⟩,
  ⟨(some 8), none, (.mv (.const (.int .i64 0)))⟩]) (.block 0 (.loop (mB 18 261687) (.seq (.ops [
  ⟨(some 9), none, (.bin .lss (.tmp 8) (.tmp 7))⟩]) (.seq (.cond (.tmp 9) .skip (.exit 0)) (.seq (.block 1 (.seq (.ops [
  ⟨(some 10), none, (.ia 1 (.tmp 6) (.tmp 8))⟩,
  ⟨(some 11), none, (.load 1 false (.tmp 10))⟩,
  ⟨(some 5), none, (.asg (.tmp 11))⟩]) (.seq (.ops [
  ⟨(some 12), none, (.mv (.tmp 5))⟩,
  ⟨(some 13), none, (.mv (.tmp 3))⟩,
  ⟨(some 14), none, (.bin .neq (.tmp 12) (.tmp 13))⟩]) (.cond (.tmp 14) (.seq (.ops [
  ⟨(some 15), none, (.mv (.tmp 5))⟩,
  ⟨(some 2), none, (.asg (.tmp 15))⟩]) .ret) .skip)))) (.ops [
  ⟨(some 16), none, (.bin .add (.tmp 8) (.const (.int .i64 1)))⟩,
  ⟨(some 8), none, (.mv (.tmp 16))⟩]))))))) (.seq (.ops [
  ⟨(some 17), none, (.mv (.tmp 3))⟩,
  ⟨(some 2), none, (.asg (.tmp 17))⟩]) .ret))))
theorem law_cmp_Or_int {a0 d : D} (h : code_cmp_Or_int.wp (CT Try.prog NoG) (endQ [(.t 2)] d) [a0, .undef, .undef, .undef, .undef, .undef, .undef, .undef, .undef, .undef, .undef, .undef, .undef, .undef, .undef, .undef, .undef, .undef]) : Contract Try.prog NoG 59 [a0] d :=
  contract_of (pt := 0) noG Try.func59 (fun us W => by kernel_rfl) (c := Try.f59.body.getD .skip) (ms := [(mB 18 261687)]) (ms' := []) (by kernel_rfl) (by kernel_rfl) (by kernel_rfl) h
theorem v_Or2 (a b : Int) : Contract Try.prog NoG 59 [.sl false 1 [[.v (.int .i64 a)], [.v (.int .i64 b)]]] (.v (.int .i64 (if a = 0 then b else a))) := by
  refine law_cmp_Or_int ?_; unfold code_cmp_Or_int; simp -implicitDefEqProofs (disch := omega) only [go_sem, ↓reduceIte]; refine loop_st (fun i : Nat => [.undef, .undef, .undef, .v (.int .i64 0), .undef, .undef, .sl false 1 [[.v (.int .i64 a)], [.v (.int .i64 b)]], .v (.int .i64 2), .v (.int .i64 i), .undef, .undef, .undef, .undef, .undef, .undef, .undef, .undef, .undef]) (fun i => i = 0 ∨ (i = 1 ∧ a = 0) ∨ (i = 2 ∧ a = 0 ∧ b = 0)) (fun i => 2 - i) 0 (nleA) (.inl rfl) ?_; rintro i (rfl | ⟨rfl, h0⟩ | ⟨rfl, h0, h1⟩)
  · simp -implicitDefEqProofs (disch := omega) only [go_sem, ↓reduceIte , Int.natCast_zero, Int.natCast_one, Int.cast_ofNat_Int, Int.ofNat_le, Int.toNat_zero, Nat.sub_zero, Int.le_refl, Int.reduceLT, Int.reduceLE, Int.reduceEq, Int.reduceAdd, Int.reduceSub, Int.reduceMul, Int.reduceToNat, Int.reduceNeg]; refine cond_split ?_ ?_ <;> intro h
    · simp -implicitDefEqProofs (disch := omega) only [go_sem, ↓reduceIte]; simp at h; simp [h]
    · simp -implicitDefEqProofs (disch := omega) only [go_sem, ↓reduceIte , Int.natCast_zero, Int.natCast_one, Int.cast_ofNat_Int, Int.ofNat_le, Int.toNat_zero, Nat.sub_zero, Int.le_refl, Int.reduceLT, Int.reduceLE, Int.reduceEq, Int.reduceAdd, Int.reduceSub, Int.reduceMul, Int.reduceToNat, Int.reduceNeg, IntWalk.i64_in]; simp at h; exact ⟨1, by omega, .inr (.inl ⟨rfl, h⟩), nleA⟩
  · simp -implicitDefEqProofs (disch := omega) only [go_sem, ↓reduceIte , Int.natCast_zero, Int.natCast_one, Int.cast_ofNat_Int, Int.ofNat_le, Int.toNat_zero, Nat.sub_zero, Int.le_refl, Int.reduceLT, Int.reduceLE, Int.reduceEq, Int.reduceAdd, Int.reduceSub, Int.reduceMul, Int.reduceToNat, Int.reduceNeg]; refine cond_split ?_ ?_ <;> intro h
    · simp -implicitDefEqProofs (disch := omega) only [go_sem, ↓reduceIte]; simp [h0]
    · simp -implicitDefEqProofs (disch := omega) only [go_sem, ↓reduceIte , Int.natCast_zero, Int.natCast_one, Int.cast_ofNat_Int, Int.ofNat_le, Int.toNat_zero, Nat.sub_zero, Int.le_refl, Int.reduceLT, Int.reduceLE, Int.reduceEq, Int.reduceAdd, Int.reduceSub, Int.reduceMul, Int.reduceToNat, Int.reduceNeg]; simp at h; exact ⟨2, by omega, .inr (.inr ⟨rfl, h0, h⟩), nleA⟩
  · simp -implicitDefEqProofs (disch := omega) only [go_sem, ↓reduceIte , Int.natCast_zero, Int.natCast_one, Int.cast_ofNat_Int, Int.ofNat_le, Int.toNat_zero, Nat.sub_zero, Int.le_refl, Int.reduceLT, Int.reduceLE, Int.reduceEq, Int.reduceAdd, Int.reduceSub, Int.reduceMul, Int.reduceToNat, Int.reduceNeg]; simp [h0, h1]
def code_impl_comparePoints : VCode := (.seq (.ops [
  ⟨(some 2), none, (.box (.tmp 0))⟩,
  ⟨(some 3), none, (.box (.tmp 1))⟩,
  ⟨(some 4), none, (.asg (.const (.int .i64 0)))⟩]) (.seq (.draw (mB 14 16352) [] [⟨0, (mB 14 16352), [], ⟨(some 5), none, (.fa 1 (.tmp 2))⟩⟩, ⟨1, (mB 14 16320), [], ⟨(some 6), none, (.load 1 false (.tmp 5))⟩⟩, ⟨2, (mB 14 16352), [], ⟨(some 7), none, (.fa 1 (.tmp 3))⟩⟩, ⟨3, (mB 14 16224), [], ⟨(some 8), none, (.load 1 false (.tmp 7))⟩⟩, ⟨4, (mB 14 15872), [], ⟨(some 9), none, (.call 60 [(.tmp 6), (.tmp 8)])⟩⟩, ⟨5, (mB 14 16352), [], ⟨(some 10), none, (.fa 0 (.tmp 2))⟩⟩, ⟨6, (mB 14 15328), [], ⟨(some 11), none, (.load 1 false (.tmp 10))⟩⟩, ⟨7, (mB 14 16352), [], ⟨(some 12), none, (.fa 0 (.tmp 3))⟩⟩, ⟨8, (mB 14 12256), [], ⟨(some 13), none, (.load 1 false (.tmp 12))⟩⟩] [⟨(some 14), none, (.callX 60 [(.tmp 11), (.tmp 13)])⟩, ⟨(some 15), none, (.bsl 1 [(.tmp 9), (.tmp 14)])⟩, ⟨(some 16), none, (.callX 59 [(.tmp 15)])⟩, ⟨(some 4), none, (.asg (.tmp 16))⟩]) .ret))
theorem law_impl_comparePoints {a0 a1 d : D} (h : code_impl_comparePoints.wp (CT Try.prog NoG) (endQ [(.t 4)] d) [a0, a1, .undef, .undef, .undef, .undef, .undef, .undef, .undef, .undef, .undef, .undef, .undef, .undef, .undef, .undef, .undef]) : Contract Try.prog NoG 51 [a0, a1] d :=
  contract_of (pt := 0) noG Try.func51 (fun us W => by kernel_rfl) (c := Try.f51.body.getD .skip) (ms := []) (ms' := []) (by kernel_rfl) (by kernel_rfl) (by kernel_rfl) h
theorem v_comparePoints (a b : Point) : Contract Try.prog NoG 51 [.agg (Point.td.d false a), .agg (Point.td.d false b)] (.v (.int .i64 (cmpP a b))) := by rw [Point.td_d, Point.td_d]; refine law_impl_comparePoints ?_; unfold code_impl_comparePoints cmpP; simp -implicitDefEqProofs (disch := omega) only [go_sem, ↓reduceIte]; refine call_NB (v_Compare a.Y b.Y) (by simp -implicitDefEqProofs (disch := omega) only [go_sem, ↓reduceIte, deep, TD.rows, immLL_rI, immLL_rB8, immLL_rS, immLL_rBo, immLL_rII, immLL_rIIt]; exact rfl) ?_; simp -implicitDefEqProofs (disch := omega) only [go_sem, ↓reduceIte]; refine call_B (v_Compare a.X b.X) (by simp -implicitDefEqProofs (disch := omega) only [go_sem, ↓reduceIte, deep, TD.rows, immLL_rI, immLL_rB8, immLL_rS, immLL_rBo, immLL_rII, immLL_rIIt]; exact rfl) ?_; simp -implicitDefEqProofs (disch := omega) only [go_sem, ↓reduceIte]; refine call_le (v_Or2 (cmpI a.Y b.Y) (cmpI a.X b.X)) (by repeat (first | exact leL_nil | refine leL_cons ?_ ?_ | exact le_of_eq rfl | exact le_iptrN (leL_of_eq rfl) | refine le_agg ?_ | exact le_slf rfl (TD.rows ..) | refine le_iptr ?_ | refine le_fn ?_ ?_ | exact le_nilsl_)) (.inl rfl) ?_; simp -implicitDefEqProofs (disch := omega) only [go_sem, ↓reduceIte]
def code_impl_LessPoint : VCode := (.seq (.ops [
  ⟨(some 2), none, (.box (.tmp 0))⟩,
  ⟨(some 3), none, (.box (.tmp 1))⟩,
  ⟨(some 4), none, (.asg (.const (.bool false)))⟩]) (.seq (.ops [
  ⟨(some 5), none, (.load 2 true (.tmp 2))⟩,
  ⟨(some 6), none, (.load 2 true (.tmp 3))⟩,
  ⟨(some 7), none, (.callX 51 [(.tmp 5), (.tmp 6)])⟩,
  ⟨(some 8), none, (.bin .lss (.tmp 7) (.const (.int .i64 0)))⟩,
  ⟨(some 4), none, (.asg (.tmp 8))⟩]) .ret))
theorem law_impl_LessPoint {a0 a1 d : D} (h : code_impl_LessPoint.wp (CT Try.prog NoG) (endQ [(.t 4)] d) [a0, a1, .undef, .undef, .undef, .undef, .undef, .undef, .undef]) : Contract Try.prog NoG 39 [a0, a1] d :=
  contract_of (pt := 0) noG Try.func39 (fun us W => by kernel_rfl) (c := Try.f39.body.getD .skip) (ms := []) (ms' := []) (by kernel_rfl) (by kernel_rfl) (by kernel_rfl) h
theorem v_LessPoint (a b : Point) : Contract Try.prog NoG 39 [.agg (Point.td.d false a), .agg (Point.td.d false b)] (.v (.bool (lessP a b))) := by rw [Point.td_d, Point.td_d]; refine law_impl_LessPoint ?_; unfold code_impl_LessPoint; simp -implicitDefEqProofs (disch := omega) only [go_sem, ↓reduceIte]; refine call_B (v_comparePoints a b) (by simp -implicitDefEqProofs (disch := omega) only [go_sem, ↓reduceIte, deep, TD.rows, immLL_rI, immLL_rB8, immLL_rS, immLL_rBo, immLL_rII, immLL_rIIt]; exact rfl) ?_; simp -implicitDefEqProofs (disch := omega) only [go_sem, ↓reduceIte]; rw [cmpP_lt]
def code_spec_LessPoint : VCode := (.seq (.ops [
  ⟨(some 2), none, (.box (.tmp 0))⟩,
  ⟨(some 3), none, (.box (.tmp 1))⟩,
  ⟨(some 4), none, (.asg (.const (.bool false)))⟩]) (.seq (.ops [
  ⟨(some 5), none, (.fa 1 (.tmp 2))⟩,
  ⟨(some 6), none, (.load 1 false (.tmp 5))⟩,
  ⟨(some 7), none, (.fa 1 (.tmp 3))⟩,
  ⟨(some 8), none, (.load 1 false (.tmp 7))⟩,
  ⟨(some 9), none, (.bin .lss (.tmp 6) (.tmp 8))⟩,
  ⟨(some 10), none, (.mv (.tmp 9))⟩,
  ⟨(some 11), (some (10, false)), (.fa 1 (.tmp 2))⟩,
  ⟨(some 12), (some (10, false)), (.load 1 false (.tmp 11))⟩,
  ⟨(some 13), (some (10, false)), (.fa 1 (.tmp 3))⟩,
  ⟨(some 14), (some (10, false)), (.load 1 false (.tmp 13))⟩,
  ⟨(some 15), (some (10, false)), (.bin .eql (.tmp 12) (.tmp 14))⟩,
  ⟨(some 16), (some (10, false)), (.mv (.tmp 15))⟩,
  ⟨(some 17), (some (16, true)), (.fa 0 (.tmp 2))⟩,
  ⟨(some 18), (some (16, true)), (.load 1 false (.tmp 17))⟩,
  ⟨(some 19), (some (16, true)), (.fa 0 (.tmp 3))⟩,
  ⟨(some 20), (some (16, true)), (.load 1 false (.tmp 19))⟩,
  ⟨(some 21), (some (16, true)), (.bin .lss (.tmp 18) (.tmp 20))⟩,
  ⟨(some 22), (some (10, false)), (.pick (.tmp 16) (.tmp 21) (.const (.bool false)))⟩,
  ⟨(some 23), none, (.pick (.tmp 10) (.const (.bool true)) (.tmp 22))⟩,
  ⟨(some 4), none, (.asg (.tmp 23))⟩]) .ret))
theorem law_spec_LessPoint {a0 a1 d : D} (h : code_spec_LessPoint.wp (CT Try.prog NoG) (endQ [(.t 4)] d) [a0, a1, .undef, .undef, .undef, .undef, .undef, .undef, .undef, .undef, .undef, .undef, .undef, .undef, .undef, .undef, .undef, .undef, .undef, .undef, .undef, .undef, .undef, .undef]) : Contract Try.prog NoG 35 [a0, a1] d :=
  contract_of (pt := 0) noG Try.func35 (fun us W => by kernel_rfl) (c := Try.f35.body.getD .skip) (ms := []) (ms' := []) (by kernel_rfl) (by kernel_rfl) (by kernel_rfl) h
theorem v_LessPoint_spec (a b : Point) : Contract Try.prog NoG 35 [.agg (Point.td.d false a), .agg (Point.td.d false b)] (.v (.bool (lessP a b))) := by
  rw [Point.td_d, Point.td_d]; refine law_spec_LessPoint ?_; unfold code_spec_LessPoint lessP; simp -implicitDefEqProofs (disch := omega) only [go_sem, ↓reduceIte]
  repeat' (first | (refine guard_split ?_ ?_ <;> intro h <;> try (simp -implicitDefEqProofs (disch := omega) only [go_sem, ↓reduceIte, h])) | (refine gd_split ?_ ?_ <;> intro h <;> try (simp -implicitDefEqProofs (disch := omega) only [go_sem, ↓reduceIte, h])) | (refine cond_split ?_ ?_ <;> intro h <;> try (simp -implicitDefEqProofs (disch := omega) only [go_sem, ↓reduceIte, h])))
  all_goals simp_all
theorem shr_half {i j : Nat} (hi : i ≤ 1048576) (hj : j ≤ 1048576) : IntKind.i64.wrap ((IntKind.u64.wrap (IntKind.i64.wrap ((i : Int) + (j : Int)))).fdiv (2 ^ (min (Int.toNat 1) 64))) = (((i + j) / 2 : Nat) : Int) := by
  rw [wrI (a := (i : Int) + (j : Int)) (by omega) (by omega)]; have h1 : IntKind.u64.wrap ((i : Int) + (j : Int)) = (i : Int) + (j : Int) := IntWalk.u64_in _ (by omega); rw [h1]; have h2 : ((i : Int) + (j : Int)).fdiv (2 ^ (min (Int.toNat 1) 64)) = (((i + j) / 2 : Nat) : Int) := by rw [show ((2 : Int) ^ (min (Int.toNat 1) 64)) = 2 by decide, Int.fdiv_eq_ediv_of_nonneg _ (by omega)]; omega
  rw [h2]; exact wrI (by omega) (by omega)
def code_slices_Clone_impl_Placed_impl_Placed : VCode := (.seq (.ops [
  ⟨(some 2), none, (.asg (.const (.slice none 0 0)))⟩]) (.seq (.seq (.ops [
  ⟨(some 3), none, (.mv (.tmp 0))⟩,
  ⟨(some 4), none, (.isnil false (.tmp 3))⟩]) (.cond (.tmp 4) (.seq (.ops [
  ⟨(some 2), none, (.asg (.const (.slice none 0 0)))⟩]) .ret) .skip)) (.seq (.ops [
  ⟨(some 5), none, (.bsl 3 [])⟩,
  ⟨(some 6), none, (.mv (.tmp 0))⟩,
  ⟨(some 7), none, (.app 3 24 (.tmp 5) (.tmp 6))⟩,
  ⟨(some 2), none, (.asg (.tmp 7))⟩]) .ret)))
theorem law_slices_Clone_impl_Placed_impl_Placed {a0 d : D} (h : code_slices_Clone_impl_Placed_impl_Placed.wp (CT Try.prog NoG) (endQ [(.t 2)] d) [a0, .undef, .undef, .undef, .undef, .undef, .undef, .undef]) : Contract Try.prog NoG 40 [a0] d :=
  contract_of (pt := 0) noG Try.func40 (fun us W => by kernel_rfl) (c := Try.f40.body.getD .skip) (ms := []) (ms' := []) (by kernel_rfl) (by kernel_rfl) (by kernel_rfl) h
theorem v_Clone_Placed (xs : List Placed) (hn : xs.length ≤ 1048576) : Contract Try.prog NoG 40 [.sl false 3 (xs.map (Placed.td.d false))] (.sl true 3 (xs.map (Placed.td.d true))) := by
  refine law_slices_Clone_impl_Placed_impl_Placed ?_; unfold code_slices_Clone_impl_Placed_impl_Placed; simp -implicitDefEqProofs (disch := omega) only [go_sem, ↓reduceIte]; refine isnil_intro (fun b hb => ?_); simp -implicitDefEqProofs (disch := omega) only [go_sem, ↓reduceIte]; refine cond_split ?_ ?_ <;> intro h
  · simp -implicitDefEqProofs (disch := omega) only [go_sem, ↓reduceIte]; exact hb (by rw [h]; rfl)
  · simp -implicitDefEqProofs (disch := omega) only [go_sem, ↓reduceIte , List.length_map]
    first | omega | exact ⟨by omega, rfl⟩
end Go.Proofs.Ytjalagigmelcaaa
