/- Laws that the proof stands on. -/
import Derived.Test.YtjalagigmelcaaaZVB
import Derived.Test.YtjalagigmelcaaaProg
import Derived.Test.YtjalagigmelcaaaZg11
set_option linter.all false
namespace Go.Proofs.Ytjalagigmelcaaa
open Go.RowKit Go.V
attribute [local go_sem] List.getElem?_cons_succ List.getElem?_cons_zero List.set_cons_succ List.set_cons_zero List.map_cons List.map_nil List.length_cons List.length_nil List.all_cons List.all_nil List.drop_succ_cons List.drop_zero List.take_succ_cons List.take_zero List.flatMap_cons List.flatMap_nil List.cons_append List.nil_append List.append_nil List.headD_cons Value.oneCell' Bool.and_true Bool.true_and Bool.or_false Bool.false_or Bool.and_self Bool.not_true Bool.not_false and_true true_and beq_self_eq_true Bool.false_eq_true if_true if_false Nat.zero_add Nat.reduceAdd Nat.reduceMul Nat.reduceLeDiff Nat.le_refl Option.isSome_some Option.isSome_none not_true_eq_false not_false_eq_true ne_eq reduceCtorEq List.reverse_nil bne_self_eq_false Nat.reduceEqDiff List.isPrefixOf Bool.not_eq_true Bool.and_false Bool.false_and Bool.true_or Bool.or_true decide_true decide_false Nat.reduceBEq Nat.reduceBNe List.replicate_succ List.replicate_zero exists_eq_left' exists_eq_left Option.some.injEq or_false or_true true_or false_or Option.map_some Option.map_none mB Nat.reduceMod Nat.reduceDiv
set_option maxRecDepth 100000
def inR (lo hi n : Int) : Bool := decide (lo ≤ n) && decide (n ≤ hi)
def code_spec_l00In : VCode := (.seq (.ops [
  ⟨(some 6), none, (.asg (.const (.bool false)))⟩]) (.seq (.ops [
  ⟨(some 7), none, (.mv (.tmp 0))⟩,
  ⟨(some 8), none, (.mv (.tmp 1))⟩,
  ⟨(some 9), none, (.bin .geq (.tmp 7) (.tmp 8))⟩,
  ⟨(some 10), none, (.mv (.tmp 9))⟩,
  ⟨(some 11), (some (10, true)), (.mv (.tmp 0))⟩,
  ⟨(some 12), (some (10, true)), (.mv (.tmp 2))⟩,
  ⟨(some 13), (some (10, true)), (.bin .leq (.tmp 11) (.tmp 12))⟩,
  ⟨(some 14), none, (.pick (.tmp 10) (.tmp 13) (.const (.bool false)))⟩,
  ⟨(some 6), none, (.asg (.tmp 14))⟩]) .ret))
theorem law_spec_l00In {a0 a1 a2 d : D} (h : code_spec_l00In.wp (CT Try.prog NoG) (endQ [(.t 6)] d) [a0, a1, a2, .undef, .undef, .undef, .undef, .undef, .undef, .undef, .undef, .undef, .undef, .undef, .undef]) : Contract Try.prog NoG 34 [a0, a1, a2] d :=
  contract_of (pt := 0) noG Try.func34 (fun us W => by kernel_rfl) (c := Try.f34.body.getD .skip) (ms := []) (ms' := []) (by kernel_rfl) (by kernel_rfl) (by kernel_rfl) h
theorem v_l00In (a b c : Int) : Contract Try.prog NoG 34 [.v (.int .i64 a), .v (.int .i64 b), .v (.int .i64 c)] (.v (.bool (inR b c a))) := by
  refine law_spec_l00In ?_; unfold code_spec_l00In inR; simp -implicitDefEqProofs (disch := omega) only [go_sem, ↓reduceIte]; refine guard_split ?_ ?_ <;> intro h
  · simp -implicitDefEqProofs (disch := omega) only [go_sem, ↓reduceIte , h]
  · simp -implicitDefEqProofs (disch := omega) only [go_sem, ↓reduceIte , h]
def code_impl_within : VCode := (.seq (.ops [
  ⟨(some 6), none, (.asg (.const (.bool false)))⟩]) (.seq (.ops [
  ⟨(some 7), none, (.mv (.tmp 0))⟩,
  ⟨(some 8), none, (.mv (.tmp 1))⟩,
  ⟨(some 9), none, (.bin .geq (.tmp 7) (.tmp 8))⟩,
  ⟨(some 10), none, (.mv (.tmp 9))⟩,
  ⟨(some 11), (some (10, true)), (.mv (.tmp 0))⟩,
  ⟨(some 12), (some (10, true)), (.mv (.tmp 2))⟩,
  ⟨(some 13), (some (10, true)), (.bin .leq (.tmp 11) (.tmp 12))⟩,
  ⟨(some 14), none, (.pick (.tmp 10) (.tmp 13) (.const (.bool false)))⟩,
  ⟨(some 6), none, (.asg (.tmp 14))⟩]) .ret))
theorem law_impl_within {a0 a1 a2 d : D} (h : code_impl_within.wp (CT Try.prog NoG) (endQ [(.t 6)] d) [a0, a1, a2, .undef, .undef, .undef, .undef, .undef, .undef, .undef, .undef, .undef, .undef, .undef, .undef]) : Contract Try.prog NoG 50 [a0, a1, a2] d :=
  contract_of (pt := 0) noG Try.func50 (fun us W => by kernel_rfl) (c := Try.f50.body.getD .skip) (ms := []) (ms' := []) (by kernel_rfl) (by kernel_rfl) (by kernel_rfl) h
theorem v_within (a b c : Int) : Contract Try.prog NoG 50 [.v (.int .i64 a), .v (.int .i64 b), .v (.int .i64 c)] (.v (.bool (inR b c a))) := by
  refine law_impl_within ?_; unfold code_impl_within inR; simp -implicitDefEqProofs (disch := omega) only [go_sem, ↓reduceIte]; refine guard_split ?_ ?_ <;> intro h
  · simp -implicitDefEqProofs (disch := omega) only [go_sem, ↓reduceIte , h]
  · simp -implicitDefEqProofs (disch := omega) only [go_sem, ↓reduceIte , h]
def code_impl_isIndex : VCode := (.seq (.ops [
  ⟨(some 4), none, (.asg (.const (.bool false)))⟩]) (.seq (.ops [
  ⟨(some 5), none, (.mv (.tmp 0))⟩,
  ⟨(some 6), none, (.mv (.tmp 1))⟩,
  ⟨(some 7), none, (.bin .sub (.tmp 6) (.const (.int .i64 1)))⟩,
  ⟨(some 8), none, (.callX 50 [(.tmp 5), (.const (.int .i64 0)), (.tmp 7)])⟩,
  ⟨(some 4), none, (.asg (.tmp 8))⟩]) .ret))
theorem law_impl_isIndex {a0 a1 d : D} (h : code_impl_isIndex.wp (CT Try.prog NoG) (endQ [(.t 4)] d) [a0, a1, .undef, .undef, .undef, .undef, .undef, .undef, .undef]) : Contract Try.prog NoG 38 [a0, a1] d :=
  contract_of (pt := 0) noG Try.func38 (fun us W => by kernel_rfl) (c := Try.f38.body.getD .skip) (ms := []) (ms' := []) (by kernel_rfl) (by kernel_rfl) (by kernel_rfl) h
theorem v_isIndex (i n : Int) (h1 : 0 ≤ n) (h2 : n ≤ 1099511627776) : Contract Try.prog NoG 38 [.v (.int .i64 i), .v (.int .i64 n)] (.v (.bool (inR 0 (n - 1) i))) := by refine law_impl_isIndex ?_; unfold code_impl_isIndex; have hw : IntKind.i64.wrap (n - 1) = n - 1 := wrI (by omega) (by omega); simp -implicitDefEqProofs (disch := omega) only [go_sem, ↓reduceIte , hw]; refine call_B (v_within _ _ _) (by simp -implicitDefEqProofs (disch := omega) only [go_sem, ↓reduceIte, deep, TD.rows, immLL_rI, immLL_rB8, immLL_rS, immLL_rBo, immLL_rII, immLL_rIIt]; exact rfl) ?_; simp -implicitDefEqProofs (disch := omega) only [go_sem, ↓reduceIte]
theorem lkF_tup {t : Nat} {cs : List D} : lkF t (some (.tup cs)) = if ownyL cs = true then .undef else .tup cs := rfl
def cmpI (a b : Int) : Int := if a < b then -1 else if b < a then 1 else 0
def cmpP (a b : Point) : Int := if cmpI a.Y b.Y = 0 then cmpI a.X b.X else cmpI a.Y b.Y
def lessP (a b : Point) : Bool := decide (a.Y < b.Y) || (decide (a.Y = b.Y) && decide (a.X < b.X))
theorem cmpP_lt (a b : Point) : decide (cmpP a b < 0) = lessP a b := by rw [Bool.eq_iff_iff]; simp only [cmpP, cmpI, lessP, Bool.or_eq_true, Bool.and_eq_true, decide_eq_true_eq]; by_cases h1 : a.Y < b.Y <;> by_cases h2 : b.Y < a.Y <;> by_cases h3 : a.X < b.X <;> by_cases h4 : b.X < a.X <;> simp [h1, h2, h3, h4] <;> omega
theorem cmpP_eq (a b : Point) : decide (cmpP a b = 0) = decide (a = b) := by obtain ⟨ax, ay⟩ := a; obtain ⟨bx, bY⟩ := b; rw [Bool.eq_iff_iff]; simp only [cmpP, cmpI, decide_eq_true_eq, Point.mk.injEq]; by_cases h1 : ay < bY <;> by_cases h2 : bY < ay <;> by_cases h3 : ax < bx <;> by_cases h4 : bx < ax <;> simp [h1, h2, h3, h4] <;> omega
def bsF (f : Nat → Bool) : Nat → Nat → Nat → Nat
  | 0, i, _ => i
  | n + 1, i, j => if i < j then (if f ((i + j) / 2) then bsF f n ((i + j) / 2 + 1) j else bsF f n i ((i + j) / 2)) else i
theorem bsF_end {f : Nat → Bool} {n i j : Nat} (h : ¬ i < j) : bsF f n i j = i := by
  cases n with
  | zero => rfl
  | succ n => simp [bsF, h]
def lessAt (xs : List Point) (p : Point) (k : Nat) : Bool := match xs[k]? with
  | some x => lessP x p
  | none => false
def bsP (xs : List Point) (p : Point) : Nat := bsF (lessAt xs p) xs.length 0 xs.length
def code_cmp_isNaN_int64 : VCode := (.seq (.ops [
  ⟨(some 2), none, (.asg (.const (.bool false)))⟩]) (.seq (.ops [
  ⟨(some 3), none, (.mv (.tmp 0))⟩,
  ⟨(some 4), none, (.mv (.tmp 0))⟩,
  ⟨(some 5), none, (.bin .neq (.tmp 3) (.tmp 4))⟩,
  ⟨(some 2), none, (.asg (.tmp 5))⟩]) .ret))
theorem law_cmp_isNaN_int64 {a0 d : D} (h : code_cmp_isNaN_int64.wp (CT Try.prog NoG) (endQ [(.t 2)] d) [a0, .undef, .undef, .undef, .undef, .undef]) : Contract Try.prog NoG 67 [a0] d :=
  contract_of (pt := 0) noG Try.func67 (fun us W => by kernel_rfl) (c := Try.f67.body.getD .skip) (ms := []) (ms' := []) (by kernel_rfl) (by kernel_rfl) (by kernel_rfl) h
theorem v_isNaN (a : Int) : Contract Try.prog NoG 67 [.v (.int .i64 a)] (.v (.bool false)) := by refine law_cmp_isNaN_int64 ?_; unfold code_cmp_isNaN_int64; simp -implicitDefEqProofs (disch := omega) only [go_sem, ↓reduceIte]
def code_cmp_Compare_int64 : VCode := (.seq (.ops [
  ⟨(some 4), none, (.asg (.const (.int .i64 0)))⟩]) (.seq (.ops [
  ⟨(some 7), none, (.mv (.tmp 0))⟩,
  ⟨(some 8), none, (.callX 67 [(.tmp 7)])⟩,
  ⟨(some 5), none, (.asg (.tmp 8))⟩]) (.seq (.ops [
  ⟨(some 9), none, (.mv (.tmp 1))⟩,
  ⟨(some 10), none, (.callX 67 [(.tmp 9)])⟩,
  ⟨(some 6), none, (.asg (.tmp 10))⟩]) (.seq (.seq (.ops [
  ⟨(some 11), none, (.mv (.tmp 5))⟩]) (.cond (.tmp 11) (.seq (.seq (.ops [
  ⟨(some 12), none, (.mv (.tmp 6))⟩]) (.cond (.tmp 12) (.seq (.ops [
  ⟨(some 4), none, (.asg (.const (.int .i64 0)))⟩]) .ret) .skip)) (.seq (.ops [
  ⟨(some 4), none, (.asg (.const (.int .i64 (-1))))⟩]) .ret)) .skip)) (.seq (.seq (.ops [
  ⟨(some 13), none, (.mv (.tmp 6))⟩]) (.cond (.tmp 13) (.seq (.ops [
  ⟨(some 4), none, (.asg (.const (.int .i64 1)))⟩]) .ret) .skip)) (.seq (.seq (.ops [
  ⟨(some 14), none, (.mv (.tmp 0))⟩,
  ⟨(some 15), none, (.mv (.tmp 1))⟩,
  ⟨(some 16), none, (.bin .lss (.tmp 14) (.tmp 15))⟩]) (.cond (.tmp 16) (.seq (.ops [
  ⟨(some 4), none, (.asg (.const (.int .i64 (-1))))⟩]) .ret) .skip)) (.seq (.seq (.ops [
  ⟨(some 17), none, (.mv (.tmp 0))⟩,
  ⟨(some 18), none, (.mv (.tmp 1))⟩,
  ⟨(some 19), none, (.bin .gtr (.tmp 17) (.tmp 18))⟩]) (.cond (.tmp 19) (.seq (.ops [
  ⟨(some 4), none, (.asg (.const (.int .i64 1)))⟩]) .ret) .skip)) (.seq (.ops [
  ⟨(some 4), none, (.asg (.const (.int .i64 0)))⟩]) .ret))))))))
theorem law_cmp_Compare_int64 {a0 a1 d : D} (h : code_cmp_Compare_int64.wp (CT Try.prog NoG) (endQ [(.t 4)] d) [a0, a1, .undef, .undef, .undef, .undef, .undef, .undef, .undef, .undef, .undef, .undef, .undef, .undef, .undef, .undef, .undef, .undef, .undef, .undef]) : Contract Try.prog NoG 60 [a0, a1] d :=
  contract_of (pt := 0) noG Try.func60 (fun us W => by kernel_rfl) (c := Try.f60.body.getD .skip) (ms := []) (ms' := []) (by kernel_rfl) (by kernel_rfl) (by kernel_rfl) h
theorem v_Compare (a b : Int) : Contract Try.prog NoG 60 [.v (.int .i64 a), .v (.int .i64 b)] (.v (.int .i64 (cmpI a b))) := by
  refine law_cmp_Compare_int64 ?_; unfold code_cmp_Compare_int64 cmpI; simp -implicitDefEqProofs (disch := omega) only [go_sem, ↓reduceIte]; refine call_B (v_isNaN a) (by simp -implicitDefEqProofs (disch := omega) only [go_sem, ↓reduceIte, deep, TD.rows, immLL_rI, immLL_rB8, immLL_rS, immLL_rBo, immLL_rII, immLL_rIIt]; exact rfl) ?_; simp -implicitDefEqProofs (disch := omega) only [go_sem, ↓reduceIte]; refine call_B (v_isNaN b) (by simp -implicitDefEqProofs (disch := omega) only [go_sem, ↓reduceIte, deep, TD.rows, immLL_rI, immLL_rB8, immLL_rS, immLL_rBo, immLL_rII, immLL_rIIt]; exact rfl) ?_; simp -implicitDefEqProofs (disch := omega) only [go_sem, ↓reduceIte]; refine cond_split ?_ ?_ <;> intro h
  · have := of_decide_eq_true h; simp -implicitDefEqProofs (disch := omega) only [go_sem, ↓reduceIte]; simp [this]
  · have h1 := of_decide_eq_false h; simp -implicitDefEqProofs (disch := omega) only [go_sem, ↓reduceIte]; refine cond_split ?_ ?_ <;> intro h
    · have := of_decide_eq_true h; simp -implicitDefEqProofs (disch := omega) only [go_sem, ↓reduceIte]; simp [h1, this]
    · have := of_decide_eq_false h; simp -implicitDefEqProofs (disch := omega) only [go_sem, ↓reduceIte]; simp [h1, this]
def code_cmp_Or_int : VCode := (.seq (.ops [
  ⟨(some 2), none, (.asg (.const (.int .i64 0)))⟩]) (.seq (.ops [
  ⟨(some 3), none, (.asg (.const (.int .i64 0)))⟩]) (.seq (.seq (.ops [
  ⟨(some 6), none, (.mv (.tmp 0))⟩,
  ⟨(some 7), none, (.len (.tmp 6))⟩,
  ⟨(some 8), none, (.mv (.const (.int .i64 0)))⟩]) (.block 0 (.loop (mB 18 261687) (.seq (.ops [
  ⟨(some 9), none, (.bin .lss (.tmp 8) (.tmp 7))⟩]) (.seq (.cond (.tmp 9) .skip (.exit 0)) (.seq (.block 1 (.seq (.ops [
  ⟨(some 10), none, (.ia 1 (.tmp 6) (.tmp 8))⟩,
  ⟨(some 11), none, (.load 1 false (.tmp 10))⟩,
  ⟨(some 5), none, (.asg (.tmp 11))⟩]) (.seq (.ops [
  ⟨(some 12), none, (.mv (.tmp 5))⟩,
  ⟨(some 13), none, (.mv (.tmp 3))⟩,
  ⟨(some 14), none, (.bin .neq (.tmp 12) (.tmp 13))⟩]) (.cond (.tmp 14) (.seq (.ops [
  ⟨(some 15), none, (.mv (.tmp 5))⟩,
  ⟨(some 2), none, (.asg (.tmp 15))⟩]) .ret) .skip)))) (.ops [
  ⟨(some 16), none, (.bin .add (.tmp 8) (.const (.int .i64 1)))⟩,
  ⟨(some 8), none, (.mv (.tmp 16))⟩]))))))) (.seq (.ops [
  ⟨(some 17), none, (.mv (.tmp 3))⟩,
  ⟨(some 2), none, (.asg (.tmp 17))⟩]) .ret))))
theorem law_cmp_Or_int {a0 d : D} (h : code_cmp_Or_int.wp (CT Try.prog NoG) (endQ [(.t 2)] d) [a0, .undef, .undef, .undef, .undef, .undef, .undef, .undef, .undef, .undef, .undef, .undef, .undef, .undef, .undef, .undef, .undef, .undef]) : Contract Try.prog NoG 59 [a0] d :=
  contract_of (pt := 0) noG Try.func59 (fun us W => by kernel_rfl) (c := Try.f59.body.getD .skip) (ms := [(mB 18 261687)]) (ms' := []) (by kernel_rfl) (by kernel_rfl) (by kernel_rfl) h
theorem v_Or2 (a b : Int) : Contract Try.prog NoG 59 [.sl false 1 [[.v (.int .i64 a)], [.v (.int .i64 b)]]] (.v (.int .i64 (if a = 0 then b else a))) := by
  refine law_cmp_Or_int ?_; unfold code_cmp_Or_int; simp -implicitDefEqProofs (disch := omega) only [go_sem, ↓reduceIte]; refine loop_st (fun i : Nat => [.undef, .undef, .undef, .v (.int .i64 0), .undef, .undef, .sl false 1 [[.v (.int .i64 a)], [.v (.int .i64 b)]], .v (.int .i64 2), .v (.int .i64 i), .undef, .undef, .undef, .undef, .undef, .undef, .undef, .undef, .undef]) (fun i => i = 0 ∨ (i = 1 ∧ a = 0) ∨ (i = 2 ∧ a = 0 ∧ b = 0)) (fun i => 2 - i) 0 (nleA) (.inl rfl) ?_; rintro i (rfl | ⟨rfl, h0⟩ | ⟨rfl, h0, h1⟩)
  · simp -implicitDefEqProofs (disch := omega) only [go_sem, ↓reduceIte , Int.natCast_zero, Int.natCast_one, Int.cast_ofNat_Int, Int.ofNat_le, Int.toNat_zero, Nat.sub_zero, Int.le_refl, Int.reduceLT, Int.reduceLE, Int.reduceEq, Int.reduceAdd, Int.reduceSub, Int.reduceMul, Int.reduceToNat, Int.reduceNeg]; refine cond_split ?_ ?_ <;> intro h
    · simp -implicitDefEqProofs (disch := omega) only [go_sem, ↓reduceIte]; simp at h; simp [h]
    · simp -implicitDefEqProofs (disch := omega) only [go_sem, ↓reduceIte , Int.natCast_zero, Int.natCast_one, Int.cast_ofNat_Int, Int.ofNat_le, Int.toNat_zero, Nat.sub_zero, Int.le_refl, Int.reduceLT, Int.reduceLE, Int.reduceEq, Int.reduceAdd, Int.reduceSub, Int.reduceMul, Int.reduceToNat, Int.reduceNeg, IntWalk.i64_in]; simp at h; exact ⟨1, by omega, .inr (.inl ⟨rfl, h⟩), nleA⟩
  · simp -implicitDefEqProofs (disch := omega) only [go_sem, ↓reduceIte , Int.natCast_zero, Int.natCast_one, Int.cast_ofNat_Int, Int.ofNat_le, Int.toNat_zero, Nat.sub_zero, Int.le_refl, Int.reduceLT, Int.reduceLE, Int.reduceEq, Int.reduceAdd, Int.reduceSub, Int.reduceMul, Int.reduceToNat, Int.reduceNeg]; refine cond_split ?_ ?_ <;> intro h
    · simp -implicitDefEqProofs (disch := omega) only [go_sem, ↓reduceIte]; simp [h0]
    · simp -implicitDefEqProofs (disch := omega) only [go_sem, ↓reduceIte , Int.natCast_zero, Int.natCast_one, Int.cast_ofNat_Int, Int.ofNat_le, Int.toNat_zero, Nat.sub_zero, Int.le_refl, Int.reduceLT, Int.reduceLE, Int.reduceEq, Int.reduceAdd, Int.reduceSub, Int.reduceMul, Int.reduceToNat, Int.reduceNeg]; simp at h; exact ⟨2, by omega, .inr (.inr ⟨rfl, h0, h⟩), nleA⟩
  · simp -implicitDefEqProofs (disch := omega) only [go_sem, ↓reduceIte , Int.natCast_zero, Int.natCast_one, Int.cast_ofNat_Int, Int.ofNat_le, Int.toNat_zero, Nat.sub_zero, Int.le_refl, Int.reduceLT, Int.reduceLE, Int.reduceEq, Int.reduceAdd, Int.reduceSub, Int.reduceMul, Int.reduceToNat, Int.reduceNeg]; simp [h0, h1]
def code_impl_comparePoints : VCode := (.seq (.ops [
  ⟨(some 2), none, (.box (.tmp 0))⟩,
  ⟨(some 3), none, (.box (.tmp 1))⟩,
  ⟨(some 4), none, (.asg (.const (.int .i64 0)))⟩]) (.seq (.draw (mB 14 16352) [] [⟨0, (mB 14 16352), [], ⟨(some 5), none, (.fa 1 (.tmp 2))⟩⟩, ⟨1, (mB 14 16320), [], ⟨(some 6), none, (.load 1 false (.tmp 5))⟩⟩, ⟨2, (mB 14 16352), [], ⟨(some 7), none, (.fa 1 (.tmp 3))⟩⟩, ⟨3, (mB 14 16224), [], ⟨(some 8), none, (.load 1 false (.tmp 7))⟩⟩, ⟨4, (mB 14 15872), [], ⟨(some 9), none, (.call 60 [(.tmp 6), (.tmp 8)])⟩⟩, ⟨5, (mB 14 16352), [], ⟨(some 10), none, (.fa 0 (.tmp 2))⟩⟩, ⟨6, (mB 14 15328), [], ⟨(some 11), none, (.load 1 false (.tmp 10))⟩⟩, ⟨7, (mB 14 16352), [], ⟨(some 12), none, (.fa 0 (.tmp 3))⟩⟩, ⟨8, (mB 14 12256), [], ⟨(some 13), none, (.load 1 false (.tmp 12))⟩⟩] [⟨(some 14), none, (.callX 60 [(.tmp 11), (.tmp 13)])⟩, ⟨(some 15), none, (.bsl 1 [(.tmp 9), (.tmp 14)])⟩, ⟨(some 16), none, (.callX 59 [(.tmp 15)])⟩, ⟨(some 4), none, (.asg (.tmp 16))⟩]) .ret))
theorem law_impl_comparePoints {a0 a1 d : D} (h : code_impl_comparePoints.wp (CT Try.prog NoG) (endQ [(.t 4)] d) [a0, a1, .undef, .undef, .undef, .undef, .undef, .undef, .undef, .undef, .undef, .undef, .undef, .undef, .undef, .undef, .undef]) : Contract Try.prog NoG 51 [a0, a1] d :=
  contract_of (pt := 0) noG Try.func51 (fun us W => by kernel_rfl) (c := Try.f51.body.getD .skip) (ms := []) (ms' := []) (by kernel_rfl) (by kernel_rfl) (by kernel_rfl) h
theorem v_comparePoints (a b : Point) : Contract Try.prog NoG 51 [.agg (Point.td.d false a), .agg (Point.td.d false b)] (.v (.int .i64 (cmpP a b))) := by rw [Point.td_d, Point.td_d]; refine law_impl_comparePoints ?_; unfold code_impl_comparePoints cmpP; simp -implicitDefEqProofs (disch := omega) only [go_sem, ↓reduceIte]; refine call_NB (v_Compare a.Y b.Y) (by simp -implicitDefEqProofs (disch := omega) only [go_sem, ↓reduceIte, deep, TD.rows, immLL_rI, immLL_rB8, immLL_rS, immLL_rBo, immLL_rII, immLL_rIIt]; exact rfl) ?_; simp -implicitDefEqProofs (disch := omega) only [go_sem, ↓reduceIte]; refine call_B (v_Compare a.X b.X) (by simp -implicitDefEqProofs (disch := omega) only [go_sem, ↓reduceIte, deep, TD.rows, immLL_rI, immLL_rB8, immLL_rS, immLL_rBo, immLL_rII, immLL_rIIt]; exact rfl) ?_; simp -implicitDefEqProofs (disch := omega) only [go_sem, ↓reduceIte]; refine call_le (v_Or2 (cmpI a.Y b.Y) (cmpI a.X b.X)) (by repeat (first | exact leL_nil | refine leL_cons ?_ ?_ | exact le_of_eq rfl | exact le_iptrN (leL_of_eq rfl) | refine le_agg ?_ | exact le_slf rfl (TD.rows ..) | refine le_iptr ?_ | refine le_fn ?_ ?_ | exact le_nilsl_)) (.inl rfl) ?_; simp -implicitDefEqProofs (disch := omega) only [go_sem, ↓reduceIte]
def code_impl_LessPoint : VCode := (.seq (.ops [
  ⟨(some 2), none, (.box (.tmp 0))⟩,
  ⟨(some 3), none, (.box (.tmp 1))⟩,
  ⟨(some 4), none, (.asg (.const (.bool false)))⟩]) (.seq (.ops [
  ⟨(some 5), none, (.load 2 true (.tmp 2))⟩,
  ⟨(some 6), none, (.load 2 true (.tmp 3))⟩,
  ⟨(some 7), none, (.callX 51 [(.tmp 5), (.tmp 6)])⟩,
  ⟨(some 8), none, (.bin .lss (.tmp 7) (.const (.int .i64 0)))⟩,
  ⟨(some 4), none, (.asg (.tmp 8))⟩]) .ret))
theorem law_impl_LessPoint {a0 a1 d : D} (h : code_impl_LessPoint.wp (CT Try.prog NoG) (endQ [(.t 4)] d) [a0, a1, .undef, .undef, .undef, .undef, .undef, .undef, .undef]) : Contract Try.prog NoG 39 [a0, a1] d :=
  contract_of (pt := 0) noG Try.func39 (fun us W => by kernel_rfl) (c := Try.f39.body.getD .skip) (ms := []) (ms' := []) (by kernel_rfl) (by kernel_rfl) (by kernel_rfl) h
theorem v_LessPoint (a b : Point) : Contract Try.prog NoG 39 [.agg (Point.td.d false a), .agg (Point.td.d false b)] (.v (.bool (lessP a b))) := by rw [Point.td_d, Point.td_d]; refine law_impl_LessPoint ?_; unfold code_impl_LessPoint; simp -implicitDefEqProofs (disch := omega) only [go_sem, ↓reduceIte]; refine call_B (v_comparePoints a b) (by simp -implicitDefEqProofs (disch := omega) only [go_sem, ↓reduceIte, deep, TD.rows, immLL_rI, immLL_rB8, immLL_rS, immLL_rBo, immLL_rII, immLL_rIIt]; exact rfl) ?_; simp -implicitDefEqProofs (disch := omega) only [go_sem, ↓reduceIte]; rw [cmpP_lt]
def code_spec_LessPoint : VCode := (.seq (.ops [
  ⟨(some 2), none, (.box (.tmp 0))⟩,
  ⟨(some 3), none, (.box (.tmp 1))⟩,
  ⟨(some 4), none, (.asg (.const (.bool false)))⟩]) (.seq (.ops [
  ⟨(some 5), none, (.fa 1 (.tmp 2))⟩,
  ⟨(some 6), none, (.load 1 false (.tmp 5))⟩,
  ⟨(some 7), none, (.fa 1 (.tmp 3))⟩,
  ⟨(some 8), none, (.load 1 false (.tmp 7))⟩,
  ⟨(some 9), none, (.bin .lss (.tmp 6) (.tmp 8))⟩,
  ⟨(some 10), none, (.mv (.tmp 9))⟩,
  ⟨(some 11), (some (10, false)), (.fa 1 (.tmp 2))⟩,
  ⟨(some 12), (some (10, false)), (.load 1 false (.tmp 11))⟩,
  ⟨(some 13), (some (10, false)), (.fa 1 (.tmp 3))⟩,
  ⟨(some 14), (some (10, false)), (.load 1 false (.tmp 13))⟩,
  ⟨(some 15), (some (10, false)), (.bin .eql (.tmp 12) (.tmp 14))⟩,
  ⟨(some 16), (some (10, false)), (.mv (.tmp 15))⟩,
  ⟨(some 17), (some (16, true)), (.fa 0 (.tmp 2))⟩,
  ⟨(some 18), (some (16, true)), (.load 1 false (.tmp 17))⟩,
  ⟨(some 19), (some (16, true)), (.fa 0 (.tmp 3))⟩,
  ⟨(some 20), (some (16, true)), (.load 1 false (.tmp 19))⟩,
  ⟨(some 21), (some (16, true)), (.bin .lss (.tmp 18) (.tmp 20))⟩,
  ⟨(some 22), (some (10, false)), (.pick (.tmp 16) (.tmp 21) (.const (.bool false)))⟩,
  ⟨(some 23), none, (.pick (.tmp 10) (.const (.bool true)) (.tmp 22))⟩,
  ⟨(some 4), none, (.asg (.tmp 23))⟩]) .ret))
theorem law_spec_LessPoint {a0 a1 d : D} (h : code_spec_LessPoint.wp (CT Try.prog NoG) (endQ [(.t 4)] d) [a0, a1, .undef, .undef, .undef, .undef, .undef, .undef, .undef, .undef, .undef, .undef, .undef, .undef, .undef, .undef, .undef, .undef, .undef, .undef, .undef, .undef, .undef, .undef]) : Contract Try.prog NoG 35 [a0, a1] d :=
  contract_of (pt := 0) noG Try.func35 (fun us W => by kernel_rfl) (c := Try.f35.body.getD .skip) (ms := []) (ms' := []) (by kernel_rfl) (by kernel_rfl) (by kernel_rfl) h
theorem v_LessPoint_spec (a b : Point) : Contract Try.prog NoG 35 [.agg (Point.td.d false a), .agg (Point.td.d false b)] (.v (.bool (lessP a b))) := by
  rw [Point.td_d, Point.td_d]; refine law_spec_LessPoint ?_; unfold code_spec_LessPoint lessP; simp -implicitDefEqProofs (disch := omega) only [go_sem, ↓reduceIte]
  repeat' (first | (refine guard_split ?_ ?_ <;> intro h <;> try (simp -implicitDefEqProofs (disch := omega) only [go_sem, ↓reduceIte, h])) | (refine gd_split ?_ ?_ <;> intro h <;> try (simp -implicitDefEqProofs (disch := omega) only [go_sem, ↓reduceIte, h])) | (refine cond_split ?_ ?_ <;> intro h <;> try (simp -implicitDefEqProofs (disch := omega) only [go_sem, ↓reduceIte, h])))
  all_goals simp_all
def code_slices_IndexFunc_impl_Placed_impl_Placed : VCode := (.seq (.ops [
  ⟨(some 4), none, (.asg (.const (.int .i64 0)))⟩]) (.seq (.seq (.ops [
  ⟨(some 6), none, (.mv (.tmp 0))⟩,
  ⟨(some 7), none, (.len (.tmp 6))⟩,
  ⟨(some 8), none, (.mv (.const (.int .i64 0)))⟩]) (.block 0 (.loop (mB 19 523900) (.seq (.ops [
  ⟨(some 9), none, (.bin .lss (.tmp 8) (.tmp 7))⟩]) (.seq (.cond (.tmp 9) .skip (.exit 0)) (.seq (.block 1 (.seq (.ops [
  ⟨(some 10), none, (.mv (.tmp 8))⟩,
  ⟨(some 5), none, (.asg (.tmp 10))⟩]) (.seq (.ops [
  ⟨(some 11), none, (.mv (.tmp 1))⟩,
  ⟨(some 12), none, (.mv (.tmp 0))⟩,
  ⟨(some 13), none, (.mv (.tmp 5))⟩,
  ⟨(some 14), none, (.ia 3 (.tmp 12) (.tmp 13))⟩,
  ⟨(some 15), none, (.load 3 true (.tmp 14))⟩,
  ⟨(some 16), none, (.callvX (.tmp 11) [(.tmp 15)])⟩]) (.cond (.tmp 16) (.seq (.ops [
  ⟨(some 17), none, (.mv (.tmp 5))⟩,
  ⟨(some 4), none, (.asg (.tmp 17))⟩]) .ret) .skip)))) (.ops [
  ⟨(some 18), none, (.bin .add (.tmp 8) (.const (.int .i64 1)))⟩,
  ⟨(some 8), none, (.mv (.tmp 18))⟩]))))))) (.seq (.ops [
  ⟨(some 4), none, (.asg (.const (.int .i64 (-1))))⟩]) .ret)))
theorem law_slices_IndexFunc_impl_Placed_impl_Placed {a0 a1 d : D} (h : code_slices_IndexFunc_impl_Placed_impl_Placed.wp (CT Try.prog NoG) (endQ [(.t 4)] d) [a0, a1, .undef, .undef, .undef, .undef, .undef, .undef, .undef, .undef, .undef, .undef, .undef, .undef, .undef, .undef, .undef, .undef, .undef]) : Contract Try.prog NoG 48 [a0, a1] d :=
  contract_of (pt := 0) noG Try.func48 (fun us W => by kernel_rfl) (c := Try.f48.body.getD .skip) (ms := [(mB 19 523900)]) (ms' := []) (by kernel_rfl) (by kernel_rfl) (by kernel_rfl) h
theorem v_IndexFunc_Placed (f : FuncId) (caps : List D) (hd : CapsOK caps) (xs : List Placed) (p : Placed → Bool) (hc : ∀ x, x ∈ xs → Contract Try.prog NoG f (.agg (Placed.td.d false x) :: caps) (.v (.bool (p x)))) (hn : xs.length ≤ 1099511627776) :
    Contract Try.prog NoG 48 [.sl false 3 (xs.map (Placed.td.d false)), .fn f [] caps] (.v (.int .i64 (vIdx p xs))) := by
  refine law_slices_IndexFunc_impl_Placed_impl_Placed ?_; unfold code_slices_IndexFunc_impl_Placed_impl_Placed; simp -implicitDefEqProofs (disch := omega) only [go_sem, ↓reduceIte , hd.owny, hd.pr]; refine loop_st (fun i : Nat => [.sl false 3 (xs.map (Placed.td.d false)), .fn f [] caps, .undef, .undef, .undef, .undef, .undef, .v (.int .i64 (xs.map (Placed.td.d false)).length), .v (.int .i64 i), .undef, .undef, .undef, .undef, .undef, .undef, .undef, .undef, .undef, .undef]) (fun i => i ≤ xs.length ∧ ∀ j (hj : j < xs.length), j < i → p xs[j] = false) (fun i => xs.length - i) 0 ?_ ⟨Nat.zero_le _, fun j _ h => absurd h (Nat.not_lt_zero _)⟩ ?_
  · simp -implicitDefEqProofs (disch := omega) only [go_sem, ↓reduceIte , hd.owny, hd.pr]
    (try simp -implicitDefEqProofs only [nleL_cc, nleL_nn, nle_self, nle_boxs, nle_aggs, nle_nils, and_self, and_true, true_and]) <;> repeat' (first | exact nle_of_eq rfl | exact nle_nil | apply And.intro | apply nle_sl | apply nleLL_cons | apply nleL_cons | exact nleL_nil | exact nleLL_nil | apply nle_box | apply nle_agg)
  rintro i ⟨hi, ha⟩; simp -implicitDefEqProofs (disch := omega) only [go_sem, ↓reduceIte , List.length_map, Int.toNat_natCast, Int.ofNat_lt, Int.natCast_nonneg, List.getElem?_map, Option.map_some, hd.owny, hd.pr]; refine cond_split ?_ ?_ <;> intro hlt
  · have hlt : i < xs.length := (by simpa using hlt); have hx := List.getElem?_eq_getElem hlt; simp -implicitDefEqProofs (disch := omega) only [go_sem, ↓reduceIte , List.length_map, Int.toNat_natCast, Int.ofNat_lt, Int.natCast_nonneg, List.getElem?_map, Option.map_some, hlt, hx, Placed.td_d, hd.owny, hd.pr]; have hcx := hc _ (List.getElem_mem hlt); rw [Placed.td_d] at hcx; refine callv_le (f := f) (first := []) (caps := caps) ?_ hcx ?_ (.inl rfl) ?_
    · simp -implicitDefEqProofs (disch := omega) only [go_sem, ↓reduceIte , hd.owny]
    · refine leL_of_eq ?_; simp only [List.nil_append, List.cons_append, List.map_cons, List.map_nil, hd.d8, List.map_append]; simp only [deep, raw, List.getElem?_cons_succ, List.getElem?_cons_zero, List.map_cons, List.map_nil, TD.rows, immLL_rI, immLL_rB8, immLL_rS, immLL_rBo]
    simp -implicitDefEqProofs (disch := omega) only [go_sem, ↓reduceIte , hd.owny, hd.pr]; refine cond_split ?_ ?_ <;> intro hp
    · simp -implicitDefEqProofs (disch := omega) only [go_sem, ↓reduceIte , hd.owny, hd.pr]; rw [vIdx_hit p xs i hlt ha hp]
    · simp -implicitDefEqProofs (disch := omega) only [go_sem, ↓reduceIte , wrN, hd.owny, hd.pr]; refine ⟨i + 1, by omega, ⟨hlt, fun j hj h => ?_⟩, nleA⟩; rcases Nat.lt_or_ge j i with h' | h'
      · exact ha j hj h'
      · have : j = i := (by omega); subst this; exact hp
  · have hlt : ¬ i < xs.length := (by simpa using hlt); simp -implicitDefEqProofs (disch := omega) only [go_sem, ↓reduceIte]; rw [vIdx_miss p xs (fun j hj => ha j hj (by omega))]
def code_slices_ContainsFunc_impl_Placed_impl_Placed : VCode := (.seq (.ops [
  ⟨(some 4), none, (.asg (.const (.bool false)))⟩]) (.seq (.ops [
  ⟨(some 5), none, (.mv (.tmp 0))⟩,
  ⟨(some 6), none, (.mv (.tmp 1))⟩,
  ⟨(some 7), none, (.callX 48 [(.tmp 5), (.tmp 6)])⟩,
  ⟨(some 8), none, (.bin .geq (.tmp 7) (.const (.int .i64 0)))⟩,
  ⟨(some 4), none, (.asg (.tmp 8))⟩]) .ret))
theorem law_slices_ContainsFunc_impl_Placed_impl_Placed {a0 a1 d : D} (h : code_slices_ContainsFunc_impl_Placed_impl_Placed.wp (CT Try.prog NoG) (endQ [(.t 4)] d) [a0, a1, .undef, .undef, .undef, .undef, .undef, .undef, .undef]) : Contract Try.prog NoG 31 [a0, a1] d :=
  contract_of (pt := 0) noG Try.func31 (fun us W => by kernel_rfl) (c := Try.f31.body.getD .skip) (ms := []) (ms' := []) (by kernel_rfl) (by kernel_rfl) (by kernel_rfl) h
theorem v_ContainsFunc_Placed (f : FuncId) (caps : List D) (hd : CapsOK caps) (xs : List Placed) (p : Placed → Bool) (hc : ∀ x, x ∈ xs → Contract Try.prog NoG f (.agg (Placed.td.d false x) :: caps) (.v (.bool (p x)))) (hn : xs.length ≤ 1099511627776) :
    Contract Try.prog NoG 31 [.sl false 3 (xs.map (Placed.td.d false)), .fn f [] caps] (.v (.bool (xs.any p))) := by
  refine law_slices_ContainsFunc_impl_Placed_impl_Placed ?_; unfold code_slices_ContainsFunc_impl_Placed_impl_Placed; simp -implicitDefEqProofs (disch := omega) only [go_sem, ↓reduceIte , hd.owny, hd.pr]; refine call_le (v_IndexFunc_Placed f caps hd xs p hc hn) ?_ (.inl rfl) ?_
  · refine leL_of_eq ?_; simp only [List.map_cons, List.map_nil, deep, raw, List.getElem?_cons_succ, List.getElem?_cons_zero, TD.rows, immLL_rI, immLL_rB8, immLL_rS, immLL_rBo, hd.owny, hd.pr, hd.d7]
    try rfl
  simp -implicitDefEqProofs (disch := omega) only [go_sem, ↓reduceIte]; exact congrArg Value.bool (vIdx_any p xs)
theorem shr_half {i j : Nat} (hi : i ≤ 1048576) (hj : j ≤ 1048576) : IntKind.i64.wrap ((IntKind.u64.wrap (IntKind.i64.wrap ((i : Int) + (j : Int)))).fdiv (2 ^ (min (Int.toNat 1) 64))) = (((i + j) / 2 : Nat) : Int) := by
  rw [wrI (a := (i : Int) + (j : Int)) (by omega) (by omega)]; have h1 : IntKind.u64.wrap ((i : Int) + (j : Int)) = (i : Int) + (j : Int) := IntWalk.u64_in _ (by omega); rw [h1]; have h2 : ((i : Int) + (j : Int)).fdiv (2 ^ (min (Int.toNat 1) 64)) = (((i + j) / 2 : Nat) : Int) := by rw [show ((2 : Int) ^ (min (Int.toNat 1) 64)) = 2 by decide, Int.fdiv_eq_ediv_of_nonneg _ (by omega)]; omega
  rw [h2]; exact wrI (by omega) (by omega)
theorem quo_half {i j : Nat} (hi : i ≤ 1048576) (hj : j ≤ 1048576) : IntKind.i64.wrap ((IntKind.i64.wrap ((i : Int) + (j : Int))).tdiv 2) = (((i + j) / 2 : Nat) : Int) := by
  rw [wrI (a := (i : Int) + (j : Int)) (by omega) (by omega)]; have h2 : ((i : Int) + (j : Int)).tdiv 2 = (((i + j) / 2 : Nat) : Int) := by rw [Int.tdiv_eq_ediv_of_nonneg (by omega)]; omega
  rw [h2]; exact wrI (by omega) (by omega)
def stepP (p : Point) (d : Nat) : Point := match d with
  | 0 => ⟨p.X, IntKind.i64.wrap (p.Y + 1)⟩
  | 1 => ⟨IntKind.i64.wrap (p.X + 1), p.Y⟩
  | 2 => ⟨p.X, IntKind.i64.wrap (p.Y - 1)⟩
  | 3 => ⟨IntKind.i64.wrap (p.X - 1), p.Y⟩
  | _ => p
def code_spec_l01Step : VCode := (.seq (.ops [
  ⟨(some 2), none, (.box (.tmp 0))⟩,
  ⟨(some 4), none, (.alloc [(.int .i64 0), (.int .i64 0)])⟩]) (.seq (.seq (.ops [
  ⟨(some 5), none, (.mv (.tmp 1))⟩]) (.block 0 (.seq (.ops [
  ⟨(some 7), none, (.bin .eql (.tmp 5) (.const (.int .i64 0)))⟩,
  ⟨(some 6), none, (.asg (.tmp 7))⟩]) (.cond (.tmp 6) (.ops [
  ⟨(some 8), none, (.fa 1 (.tmp 2))⟩,
  ⟨(some 9), none, (.load 1 false (.tmp 8))⟩,
  ⟨(some 10), none, (.bin .add (.tmp 9) (.const (.int .i64 1)))⟩,
  ⟨(some 11), none, (.fa 1 (.tmp 2))⟩,
  ⟨none, none, (.store 1 (.tmp 11) (.tmp 10))⟩]) (.seq (.ops [
  ⟨(some 13), none, (.bin .eql (.tmp 5) (.const (.int .i64 1)))⟩,
  ⟨(some 12), none, (.asg (.tmp 13))⟩]) (.cond (.tmp 12) (.ops [
  ⟨(some 14), none, (.fa 0 (.tmp 2))⟩,
  ⟨(some 15), none, (.load 1 false (.tmp 14))⟩,
  ⟨(some 16), none, (.bin .add (.tmp 15) (.const (.int .i64 1)))⟩,
  ⟨(some 17), none, (.fa 0 (.tmp 2))⟩,
  ⟨none, none, (.store 1 (.tmp 17) (.tmp 16))⟩]) (.seq (.ops [
  ⟨(some 19), none, (.bin .eql (.tmp 5) (.const (.int .i64 2)))⟩,
  ⟨(some 18), none, (.asg (.tmp 19))⟩]) (.cond (.tmp 18) (.ops [
  ⟨(some 20), none, (.fa 1 (.tmp 2))⟩,
  ⟨(some 21), none, (.load 1 false (.tmp 20))⟩,
  ⟨(some 22), none, (.bin .sub (.tmp 21) (.const (.int .i64 1)))⟩,
  ⟨(some 23), none, (.fa 1 (.tmp 2))⟩,
  ⟨none, none, (.store 1 (.tmp 23) (.tmp 22))⟩]) (.seq (.ops [
  ⟨(some 25), none, (.bin .eql (.tmp 5) (.const (.int .i64 3)))⟩,
  ⟨(some 24), none, (.asg (.tmp 25))⟩]) (.cond (.tmp 24) (.ops [
  ⟨(some 26), none, (.fa 0 (.tmp 2))⟩,
  ⟨(some 27), none, (.load 1 false (.tmp 26))⟩,
  ⟨(some 28), none, (.bin .sub (.tmp 27) (.const (.int .i64 1)))⟩,
  ⟨(some 29), none, (.fa 0 (.tmp 2))⟩,
  ⟨none, none, (.store 1 (.tmp 29) (.tmp 28))⟩]) .skip)))))))))) (.seq (.ops [
  ⟨(some 30), none, (.load 2 true (.tmp 2))⟩,
  ⟨none, none, (.store 2 (.tmp 4) (.tmp 30))⟩]) .ret)))
theorem law_spec_l01Step {a0 a1 d : D} (h : code_spec_l01Step.wp (CT Try.prog NoG) (endQ [(.c 4 2 true)] d) [a0, a1, .undef, .undef, .undef, .undef, .undef, .undef, .undef, .undef, .undef, .undef, .undef, .undef, .undef, .undef, .undef, .undef, .undef, .undef, .undef, .undef, .undef, .undef, .undef, .undef, .undef, .undef, .undef, .undef, .undef]) : Contract Try.prog NoG 65 [a0, a1] d :=
  contract_of (pt := 0) noG Try.func65 (fun us W => by kernel_rfl) (c := Try.f65.body.getD .skip) (ms := []) (ms' := []) (by kernel_rfl) (by kernel_rfl) (by kernel_rfl) h
theorem v_l01Step (p : Point) (d : Nat) (hd : d < 4) : Contract Try.prog NoG 65 [.agg (Point.td.d false p), .v (.int .i64 (d : Int))] (.agg (Point.td.d false (stepP p d))) := by
  rw [Point.td_d, Point.td_d]; refine law_spec_l01Step ?_; unfold code_spec_l01Step; have h4 : d = 0 ∨ d = 1 ∨ d = 2 ∨ d = 3 := by omega
  rcases h4 with rfl | rfl | rfl | rfl
  · simp -implicitDefEqProofs (disch := omega) only [go_sem, ↓reduceIte , Int.natCast_zero, Int.natCast_one, Int.cast_ofNat_Int, Int.ofNat_le, Int.toNat_zero, Nat.sub_zero, Int.le_refl, Int.reduceLT, Int.reduceLE, Int.reduceEq, Int.reduceAdd, Int.reduceSub, Int.reduceMul, Int.reduceToNat, Int.reduceNeg, stepP]
  · simp -implicitDefEqProofs (disch := omega) only [go_sem, ↓reduceIte , Int.natCast_zero, Int.natCast_one, Int.cast_ofNat_Int, Int.ofNat_le, Int.toNat_zero, Nat.sub_zero, Int.le_refl, Int.reduceLT, Int.reduceLE, Int.reduceEq, Int.reduceAdd, Int.reduceSub, Int.reduceMul, Int.reduceToNat, Int.reduceNeg, stepP]
  · simp -implicitDefEqProofs (disch := omega) only [go_sem, ↓reduceIte , Int.natCast_zero, Int.natCast_one, Int.cast_ofNat_Int, Int.ofNat_le, Int.toNat_zero, Nat.sub_zero, Int.le_refl, Int.reduceLT, Int.reduceLE, Int.reduceEq, Int.reduceAdd, Int.reduceSub, Int.reduceMul, Int.reduceToNat, Int.reduceNeg, stepP]
  · simp -implicitDefEqProofs (disch := omega) only [go_sem, ↓reduceIte , Int.natCast_zero, Int.natCast_one, Int.cast_ofNat_Int, Int.ofNat_le, Int.toNat_zero, Nat.sub_zero, Int.le_refl, Int.reduceLT, Int.reduceLE, Int.reduceEq, Int.reduceAdd, Int.reduceSub, Int.reduceMul, Int.reduceToNat, Int.reduceNeg, stepP]
def code_slices_Clone_impl_Placed_impl_Placed : VCode := (.seq (.ops [
  ⟨(some 2), none, (.asg (.const (.slice none 0 0)))⟩]) (.seq (.seq (.ops [
  ⟨(some 3), none, (.mv (.tmp 0))⟩,
  ⟨(some 4), none, (.isnil false (.tmp 3))⟩]) (.cond (.tmp 4) (.seq (.ops [
  ⟨(some 2), none, (.asg (.const (.slice none 0 0)))⟩]) .ret) .skip)) (.seq (.ops [
  ⟨(some 5), none, (.bsl 3 [])⟩,
  ⟨(some 6), none, (.mv (.tmp 0))⟩,
  ⟨(some 7), none, (.app 3 24 (.tmp 5) (.tmp 6))⟩,
  ⟨(some 2), none, (.asg (.tmp 7))⟩]) .ret)))
theorem law_slices_Clone_impl_Placed_impl_Placed {a0 d : D} (h : code_slices_Clone_impl_Placed_impl_Placed.wp (CT Try.prog NoG) (endQ [(.t 2)] d) [a0, .undef, .undef, .undef, .undef, .undef, .undef, .undef]) : Contract Try.prog NoG 40 [a0] d :=
  contract_of (pt := 0) noG Try.func40 (fun us W => by kernel_rfl) (c := Try.f40.body.getD .skip) (ms := []) (ms' := []) (by kernel_rfl) (by kernel_rfl) (by kernel_rfl) h
theorem v_Clone_Placed (xs : List Placed) (hn : xs.length ≤ 1048576) : Contract Try.prog NoG 40 [.sl false 3 (xs.map (Placed.td.d false))] (.sl true 3 (xs.map (Placed.td.d true))) := by
  refine law_slices_Clone_impl_Placed_impl_Placed ?_; unfold code_slices_Clone_impl_Placed_impl_Placed; simp -implicitDefEqProofs (disch := omega) only [go_sem, ↓reduceIte]; refine isnil_intro (fun b hb => ?_); simp -implicitDefEqProofs (disch := omega) only [go_sem, ↓reduceIte]; refine cond_split ?_ ?_ <;> intro h
  · simp -implicitDefEqProofs (disch := omega) only [go_sem, ↓reduceIte]; exact hb (by rw [h]; rfl)
  · simp -implicitDefEqProofs (disch := omega) only [go_sem, ↓reduceIte , List.length_map]
    first | omega | exact ⟨by omega, rfl⟩
theorem isCall {C : CtrT} {s : List D} {f : FuncId} {l : List Operand} {K : D → List D → Prop} (h : evalK C s (.callX f l) K) : evalK C s (.callX f l) K := h
structure Src where
  code : List Int
  pos : Nat
  seed : Int
def Src.d (s : Src) : List D := [.sl false 1 (s.code.map rB8), .v (.int .i64 (s.pos : Nat)), .v (.int .u64 s.seed)]
def srcB (s : Src) : Int := if s.pos < s.code.length then IntKind.i64.wrap (s.code.getD s.pos 0) else 0
def srcSeed (s : Src) : Int := IntKind.u64.wrap (IntKind.u64.wrap (IntKind.u64.wrap (s.seed * 6364136223846793005) + IntKind.u64.wrap (srcB s)) + 1442695040888963407)
def lowB (x : Int) : Int := IntKind.i64.wrap (IntKind.u64.wrap ((BitVec.ofInt IntKind.u64.bits (x.fdiv (2 ^ min (Int.toNat 40) IntKind.u64.bits)) &&& BitVec.ofInt IntKind.u64.bits 255).toNat))
def srcV (s : Src) : Int := if s.pos < s.code.length then srcB s else lowB (srcSeed s)
def srcN (s : Src) : Src := ⟨s.code, s.pos + 1, srcSeed s⟩
structure SrcB (k : Nat) (s : Src) : Prop where
  code : ∀ x, x ∈ s.code → 0 ≤ x ∧ x ≤ 255
  len : s.code.length ≤ 1048576
  pos : s.pos + k ≤ 4611686018427387904
theorem SrcB.mono {k l : Nat} {s : Src} (h : SrcB k s) (hl : l ≤ k) : SrcB l s := ⟨h.code, h.len, by have := h.pos; omega⟩
theorem SrcB.next {k : Nat} {s : Src} (h : SrcB (k + 1) s) : SrcB k (srcN s) := ⟨h.code, h.len, by have := h.pos; simp only [srcN]; omega⟩
theorem srcB_in {k : Nat} {s : Src} (h : SrcB k s) : 0 ≤ srcB s ∧ srcB s ≤ 255 := by
  unfold srcB; split
  · rename_i hl; have := h.code (s.code.getD s.pos 0) (by rw [List.getD_eq_getElem?_getD, List.getElem?_eq_getElem hl]; exact List.getElem_mem hl); rw [wrI (by omega) (by omega)]; exact this
  · omega
theorem lowB_in (x : Int) : 0 ≤ lowB x ∧ lowB x ≤ 255 := by
  unfold lowB; have h1 : (BitVec.ofInt IntKind.u64.bits (x.fdiv (2 ^ min (Int.toNat 40) IntKind.u64.bits)) &&& BitVec.ofInt IntKind.u64.bits 255).toNat ≤ 255 := by rw [BitVec.toNat_and]; exact Nat.and_le_right
  generalize (BitVec.ofInt IntKind.u64.bits (x.fdiv (2 ^ min (Int.toNat 40) IntKind.u64.bits)) &&& BitVec.ofInt IntKind.u64.bits 255).toNat = n at h1; have h2 : IntKind.u64.wrap (n : Int) = (n : Int) := by simp only [IntKind.wrap, IntKind.bits, IntKind.signed]; simp; omega
  rw [h2, wrI (by omega) (by omega)]; omega
theorem srcV_in {k : Nat} {s : Src} (h : SrcB k s) : 0 ≤ srcV s ∧ srcV s ≤ 255 := by
  unfold srcV; split
  · exact srcB_in h
  · exact lowB_in _
def code_spec_l00Src_next : VCode := (.seq (.ops [
  ⟨(some 2), none, (.asg (.const (.int .i64 0)))⟩]) (.seq (.ops [
  ⟨(some 3), none, (.asg (.const (.int .i64 0)))⟩]) (.seq (.seq (.draw (mB 13 8176) [] [⟨0, (mB 13 8176), [], ⟨(some 4), none, (.mv (.tmp 0))⟩⟩, ⟨1, (mB 13 8160), [], ⟨(some 5), none, (.nilc (.tmp 4))⟩⟩, ⟨2, (mB 13 8128), [], ⟨(some 6), none, (.fa 1 (.tmp 5))⟩⟩, ⟨3, (mB 13 8064), [], ⟨(some 7), none, (.load 1 false (.tmp 6))⟩⟩, ⟨4, (mB 13 8176), [], ⟨(some 8), none, (.mv (.tmp 0))⟩⟩, ⟨5, (mB 13 7920), [], ⟨(some 9), none, (.nilc (.tmp 8))⟩⟩, ⟨6, (mB 13 7408), [], ⟨(some 10), none, (.fa 0 (.tmp 9))⟩⟩, ⟨7, (mB 13 6384), [], ⟨(some 11), none, (.load 1 false (.tmp 10))⟩⟩, ⟨8, (mB 13 4336), [], ⟨(some 12), none, (.len (.tmp 11))⟩⟩] [⟨(some 13), none, (.bin .lss (.tmp 7) (.tmp 12))⟩]) (.cond (.tmp 13) (.draw (mB 22 4177920) [] [⟨0, (mB 22 4177920), [], ⟨(some 14), none, (.mv (.tmp 0))⟩⟩, ⟨1, (mB 22 4161536), [], ⟨(some 15), none, (.nilc (.tmp 14))⟩⟩, ⟨2, (mB 22 4128768), [], ⟨(some 16), none, (.fa 0 (.tmp 15))⟩⟩, ⟨3, (mB 22 4063232), [], ⟨(some 17), none, (.load 1 false (.tmp 16))⟩⟩, ⟨4, (mB 22 4177920), [], ⟨(some 18), none, (.mv (.tmp 0))⟩⟩, ⟨5, (mB 22 3915776), [], ⟨(some 19), none, (.nilc (.tmp 18))⟩⟩, ⟨6, (mB 22 3391488), [], ⟨(some 20), none, (.fa 1 (.tmp 19))⟩⟩, ⟨7, (mB 22 2342912), [], ⟨(some 21), none, (.load 1 false (.tmp 20))⟩⟩] [⟨(some 22), none, (.ia 1 (.tmp 17) (.tmp 21))⟩, ⟨(some 23), none, (.load 1 false (.tmp 22))⟩, ⟨(some 24), none, (.conv .i64 (.tmp 23))⟩, ⟨(some 3), none, (.asg (.tmp 24))⟩]) .skip)) (.seq (.ops [
  ⟨(some 25), none, (.mv (.tmp 0))⟩,
  ⟨(some 26), none, (.nilc (.tmp 25))⟩,
  ⟨(some 27), none, (.fa 1 (.tmp 26))⟩,
  ⟨(some 28), none, (.load 1 false (.tmp 27))⟩,
  ⟨(some 29), none, (.bin .add (.tmp 28) (.const (.int .i64 1)))⟩,
  ⟨(some 30), none, (.nilc (.tmp 25))⟩,
  ⟨(some 31), none, (.fa 1 (.tmp 30))⟩,
  ⟨none, none, (.store 1 (.tmp 31) (.tmp 29))⟩]) (.seq (.ops [
  ⟨(some 32), none, (.mv (.tmp 0))⟩,
  ⟨(some 33), none, (.mv (.tmp 0))⟩,
  ⟨(some 34), none, (.nilc (.tmp 33))⟩,
  ⟨(some 35), none, (.fa 2 (.tmp 34))⟩,
  ⟨(some 36), none, (.load 1 false (.tmp 35))⟩,
  ⟨(some 37), none, (.bin .mul (.tmp 36) (.const (.int .u64 6364136223846793005)))⟩,
  ⟨(some 38), none, (.mv (.tmp 3))⟩,
  ⟨(some 39), none, (.conv .u64 (.tmp 38))⟩,
  ⟨(some 40), none, (.bin .add (.tmp 37) (.tmp 39))⟩,
  ⟨(some 41), none, (.bin .add (.tmp 40) (.const (.int .u64 1442695040888963407)))⟩,
  ⟨(some 42), none, (.nilc (.tmp 32))⟩,
  ⟨(some 43), none, (.fa 2 (.tmp 42))⟩,
  ⟨none, none, (.store 1 (.tmp 43) (.tmp 41))⟩]) (.seq (.seq (.draw (mB 53 8989607068696576) [] [⟨0, (mB 53 8989607068696576), [], ⟨(some 44), none, (.mv (.tmp 0))⟩⟩, ⟨1, (mB 53 8972014882652160), [], ⟨(some 45), none, (.nilc (.tmp 44))⟩⟩, ⟨2, (mB 53 8936830510563328), [], ⟨(some 46), none, (.fa 1 (.tmp 45))⟩⟩, ⟨3, (mB 53 8866461766385664), [], ⟨(some 47), none, (.load 1 false (.tmp 46))⟩⟩, ⟨4, (mB 53 8989607068696576), [], ⟨(some 48), none, (.mv (.tmp 0))⟩⟩, ⟨5, (mB 53 8708132091985920), [], ⟨(some 49), none, (.nilc (.tmp 48))⟩⟩, ⟨6, (mB 53 8145182138564608), [], ⟨(some 50), none, (.fa 0 (.tmp 49))⟩⟩, ⟨7, (mB 53 7019282231721984), [], ⟨(some 51), none, (.load 1 false (.tmp 50))⟩⟩, ⟨8, (mB 53 4767482418036736), [], ⟨(some 52), none, (.len (.tmp 51))⟩⟩] [⟨(some 53), none, (.bin .leq (.tmp 47) (.tmp 52))⟩]) (.cond (.tmp 53) (.seq (.ops [
  ⟨(some 54), none, (.mv (.tmp 3))⟩,
  ⟨(some 2), none, (.asg (.tmp 54))⟩]) .ret) .skip)) (.seq (.ops [
  ⟨(some 55), none, (.mv (.tmp 0))⟩,
  ⟨(some 56), none, (.nilc (.tmp 55))⟩,
  ⟨(some 57), none, (.fa 2 (.tmp 56))⟩,
  ⟨(some 58), none, (.load 1 false (.tmp 57))⟩,
  ⟨(some 59), none, (.bin .shr (.tmp 58) (.const (.int .u64 40)))⟩,
  ⟨(some 60), none, (.bin .and (.tmp 59) (.const (.int .u64 255)))⟩,
  ⟨(some 61), none, (.conv .i64 (.tmp 60))⟩,
  ⟨(some 2), none, (.asg (.tmp 61))⟩]) .ret)))))))
theorem law_spec_l00Src_next {a0 d : D} {cells cells' : List D} (h : ∀ b, code_spec_l00Src_next.wp (CT Try.prog NoG) (endX [(.t 2)] d 0 b cells') [.box (some b) cells, .undef, .undef, .undef, .undef, .undef, .undef, .undef, .undef, .undef, .undef, .undef, .undef, .undef, .undef, .undef, .undef, .undef, .undef, .undef, .undef, .undef, .undef, .undef, .undef, .undef, .undef, .undef, .undef, .undef, .undef, .undef, .undef, .undef, .undef, .undef, .undef, .undef, .undef, .undef, .undef, .undef, .undef, .undef, .undef, .undef, .undef, .undef, .undef, .undef, .undef, .undef, .undef, .undef, .undef, .undef, .undef, .undef, .undef, .undef, .undef, .undef]) : ContractX Try.prog NoG 58 0 [a0] cells d cells' :=
  contract_ofX (pt := 0) noG Try.func58 (fun us W => by kernel_rfl) (c := Try.f58.body.getD .skip) (ms := []) (ms' := []) (by kernel_rfl) (by kernel_rfl) (by kernel_rfl) (by simp) h
def code_spec_l00From : VCode := (.seq (.ops [
  ⟨(some 2), none, (.asg (.const (.pointer none)))⟩]) (.seq (.ops [
  ⟨(some 3), none, (.mv (.tmp 0))⟩,
  ⟨(some 4), none, (.build [(.slice none 0 0), (.int .i64 0), (.int .u64 0)] [(0, 1, (.tmp 3))])⟩,
  ⟨(some 5), none, (.box (.tmp 4))⟩,
  ⟨(some 2), none, (.asg (.tmp 5))⟩]) .ret))
theorem law_spec_l00From {a0 d : D} (h : code_spec_l00From.wp (CT Try.prog NoG) (endQ [(.t 2)] d) [a0, .undef, .undef, .undef, .undef, .undef]) : Contract Try.prog NoG 28 [a0] d :=
  contract_of (pt := 0) noG Try.func28 (fun us W => by kernel_rfl) (c := Try.f28.body.getD .skip) (ms := []) (ms' := []) (by kernel_rfl) (by kernel_rfl) (by kernel_rfl) h
set_option maxHeartbeats 1000000 in
theorem v_next (s : Src) (hs : SrcB 1 s) : ContractX Try.prog NoG 58 0 [.undef] s.d (.v (.int .i64 (srcV s))) (srcN s).d := by
  refine law_spec_l00Src_next ?_; intro b; unfold code_spec_l00Src_next Src.d; have hp := hs.pos; have hl := hs.len; have w1 : IntKind.i64.wrap ((s.pos : Int) + 1) = ((s.pos + 1 : Nat) : Int) := by rw [wrI (by omega) (by omega)]; omega
  by_cases h : s.pos < s.code.length
  · have d1 : decide ((s.pos : Int) < (s.code.length : Int)) = true := (by rw [decide_eq_true_eq]; omega); have d2 : decide (((s.pos + 1 : Nat) : Int) ≤ (s.code.length : Int)) = true := (by rw [decide_eq_true_eq]; omega); have e1 := List.getElem?_eq_getElem h; have hb : srcB s = IntKind.i64.wrap s.code[s.pos] := (by unfold srcB; rw [if_pos h, List.getD_eq_getElem?_getD, e1]; rfl); have hv : srcV s = IntKind.i64.wrap s.code[s.pos] := (by unfold srcV; rw [if_pos h, hb]); have hn : srcN s = ⟨s.code, s.pos + 1, IntKind.u64.wrap (IntKind.u64.wrap (IntKind.u64.wrap (s.seed * 6364136223846793005) + IntKind.u64.wrap (IntKind.i64.wrap s.code[s.pos])) + 1442695040888963407)⟩ := (by unfold srcN srcSeed; rw [hb]); rw [hv, hn]; simp -implicitDefEqProofs (disch := omega) only [go_sem, ↓reduceIte , List.length_map, d1, List.length_map, Int.toNat_natCast, Int.ofNat_lt, Int.natCast_nonneg, List.getElem?_map, Option.map_some, h, e1, w1, d2]
  · have d1 : decide ((s.pos : Int) < (s.code.length : Int)) = false := (by rw [decide_eq_false_iff_not]; omega); have d2 : decide (((s.pos + 1 : Nat) : Int) ≤ (s.code.length : Int)) = false := (by rw [decide_eq_false_iff_not]; omega); have hb : srcB s = 0 := (by unfold srcB; rw [if_neg h]); have hv : srcV s = lowB (srcSeed s) := (by unfold srcV; rw [if_neg h]); have hn : srcN s = ⟨s.code, s.pos + 1, IntKind.u64.wrap (IntKind.u64.wrap (IntKind.u64.wrap (s.seed * 6364136223846793005) + IntKind.u64.wrap 0) + 1442695040888963407)⟩ := (by unfold srcN srcSeed; rw [hb]); have hq : srcSeed s = IntKind.u64.wrap (IntKind.u64.wrap (IntKind.u64.wrap (s.seed * 6364136223846793005) + IntKind.u64.wrap 0) + 1442695040888963407) := (by unfold srcSeed; rw [hb]); rw [hv, hn, hq]; unfold lowB; simp -implicitDefEqProofs (disch := omega) only [go_sem, ↓reduceIte , List.length_map, d1, w1, d2]; omega
theorem v_l00From (code : List Int) : Contract Try.prog NoG 28 [.sl false 1 (code.map rB8)] (.box none (Src.d ⟨code, 0, 0⟩)) := by refine law_spec_l00From ?_; unfold code_spec_l00From Src.d; simp -implicitDefEqProofs (disch := omega) only [go_sem, ↓reduceIte]; rfl
def pickV (s : Src) (n : Int) : Int := if n ≤ 1 then 0 else if 200 < n then (srcV s * 256 + srcV (srcN s)).tmod n else (srcV s).tmod n
def pickN (s : Src) (n : Int) : Src := if n ≤ 1 then s else if 200 < n then srcN (srcN s) else srcN s
theorem SrcB.pick {k : Nat} {s : Src} (h : SrcB (k + 2) s) (n : Int) : SrcB k (pickN s n) := by
  unfold pickN; split
  · exact h.mono (by omega)
  · split
    · exact h.next.next
    · exact h.next.mono (by omega)
theorem pickV_in {k : Nat} {s : Src} (h : SrcB (k + 2) s) {n : Int} (hn : 1 ≤ n) : 0 ≤ pickV s n ∧ pickV s n < n := by
  have h1 := srcV_in h; have h2 := srcV_in h.next; have key : ∀ x : Int, 0 ≤ x → 0 ≤ x.tmod n ∧ x.tmod n < n := fun x hx => by rw [Int.tmod_eq_emod_of_nonneg hx]; exact ⟨Int.emod_nonneg _ (by omega), Int.emod_lt_of_pos _ (by omega)⟩
  unfold pickV; split
  · omega
  · split
    · exact key _ (by omega)
    · exact key _ h1.1
def code_spec_l00Src_pick : VCode := (.seq (.ops [
  ⟨(some 4), none, (.asg (.const (.int .i64 0)))⟩]) (.seq (.seq (.ops [
  ⟨(some 6), none, (.mv (.tmp 1))⟩,
  ⟨(some 7), none, (.bin .leq (.tmp 6) (.const (.int .i64 1)))⟩]) (.cond (.tmp 7) (.seq (.ops [
  ⟨(some 4), none, (.asg (.const (.int .i64 0)))⟩]) .ret) .skip)) (.seq (.ops [
  ⟨(some 8), none, (.mv (.tmp 0))⟩,
  ⟨(some 9), none, (.callX 58 [(.tmp 8)])⟩,
  ⟨(some 5), none, (.asg (.tmp 9))⟩]) (.seq (.seq (.ops [
  ⟨(some 10), none, (.mv (.tmp 1))⟩,
  ⟨(some 11), none, (.bin .gtr (.tmp 10) (.const (.int .i64 200)))⟩]) (.cond (.tmp 11) (.ops [
  ⟨(some 12), none, (.mv (.tmp 5))⟩,
  ⟨(some 13), none, (.bin .mul (.tmp 12) (.const (.int .i64 256)))⟩,
  ⟨(some 14), none, (.mv (.tmp 0))⟩,
  ⟨(some 15), none, (.callX 58 [(.tmp 14)])⟩,
  ⟨(some 16), none, (.bin .add (.tmp 13) (.tmp 15))⟩,
  ⟨(some 5), none, (.asg (.tmp 16))⟩]) .skip)) (.seq (.ops [
  ⟨(some 17), none, (.mv (.tmp 5))⟩,
  ⟨(some 18), none, (.mv (.tmp 1))⟩,
  ⟨(some 19), none, (.bin .rem (.tmp 17) (.tmp 18))⟩,
  ⟨(some 4), none, (.asg (.tmp 19))⟩]) .ret)))))
theorem law_spec_l00Src_pick {a0 a1 d : D} {cells cells' : List D} (h : ∀ b, code_spec_l00Src_pick.wp (CT Try.prog NoG) (endX [(.t 4)] d 0 b cells') [.box (some b) cells, a1, .undef, .undef, .undef, .undef, .undef, .undef, .undef, .undef, .undef, .undef, .undef, .undef, .undef, .undef, .undef, .undef, .undef, .undef]) : ContractX Try.prog NoG 45 0 [a0, a1] cells d cells' :=
  contract_ofX (pt := 0) noG Try.func45 (fun us W => by kernel_rfl) (c := Try.f45.body.getD .skip) (ms := []) (ms' := []) (by kernel_rfl) (by kernel_rfl) (by kernel_rfl) (by simp) h
set_option maxHeartbeats 1000000 in
theorem v_pick (s : Src) (n : Int) (hs : SrcB 2 s) : ContractX Try.prog NoG 45 0 [.undef, .v (.int .i64 n)] s.d (.v (.int .i64 (pickV s n))) (pickN s n).d := by
  refine law_spec_l00Src_pick ?_; intro b; unfold code_spec_l00Src_pick; have h1 := srcV_in hs; have h2 := srcV_in hs.next; by_cases hn : n ≤ 1
  · have d1 : decide (n ≤ 1) = true := decide_eq_true hn; have e1 : pickV s n = 0 := (by unfold pickV; rw [if_pos hn]); have e2 : pickN s n = s := (by unfold pickN; rw [if_pos hn]); rw [e1, e2]; unfold Src.d; simp -implicitDefEqProofs (disch := omega) only [go_sem, ↓reduceIte , d1]
  · have d1 : decide (n ≤ 1) = false := decide_eq_false hn; have d0 : n ≠ 0 := (by omega); by_cases h200 : 200 < n
    · have d2 : decide (200 < n) = true := decide_eq_true h200; have e1 : pickV s n = (srcV s * 256 + srcV (srcN s)).tmod n := (by unfold pickV; rw [if_neg hn, if_pos h200]); have e2 : pickN s n = srcN (srcN s) := (by unfold pickN; rw [if_neg hn, if_pos h200]); have w1 : IntKind.i64.wrap (srcV s * 256) = srcV s * 256 := wrI (by omega) (by omega); have w2 : IntKind.i64.wrap (srcV s * 256 + srcV (srcN s)) = srcV s * 256 + srcV (srcN s) := wrI (by omega) (by omega); rw [e1, e2]; simp only [Src.d]; simp -implicitDefEqProofs (disch := omega) only [go_sem, ↓reduceIte , d1]; refine call_ioA (i := 0) (r := 0) (v_next s (hs.mono (by omega))) rfl rfl (by simp -implicitDefEqProofs (disch := omega) only [go_sem, ↓reduceIte, deep, TD.rows, immLL_rI, immLL_rB8, immLL_rS, immLL_rBo, immLL_rII, immLL_rIIt, Src.d, d2, w1]; exact rfl) (by repeat (first | exact leL_nil | refine leL_cons ?_ ?_ | exact le_of_eq rfl | exact le_iptrN (leL_of_eq rfl) | refine le_agg ?_ | exact le_slf rfl (TD.rows ..) | refine le_iptr ?_ | refine le_fn ?_ ?_ | exact le_nilsl_)) (by repeat (first | exact leL_nil | refine leL_cons ?_ ?_ | exact le_of_eq rfl | exact le_iptrN (leL_of_eq rfl) | refine le_agg ?_ | exact le_slf rfl (TD.rows ..) | refine le_iptr ?_ | refine le_fn ?_ ?_ | exact le_nilsl_)) (by first | exact .inr rfl | exact .inl ⟨rfl, rfl⟩ | exact .inl ⟨by simp only [D.noImm, noImmL, go_sem, TD.nims, TD.nim], by simp only [D.noImm, noImmL, go_sem, TD.nims, TD.nim, nim_rI, nim_rB8, nim_rBo, nim_rS]⟩) ?_; simp -implicitDefEqProofs (disch := omega) only [go_sem, ↓reduceIte , Src.d, d2, w1]; refine call_ioA (i := 0) (r := 0) (v_next (srcN s) hs.next) rfl rfl (by simp -implicitDefEqProofs (disch := omega) only [go_sem, ↓reduceIte, deep, TD.rows, immLL_rI, immLL_rB8, immLL_rS, immLL_rBo, immLL_rII, immLL_rIIt, Src.d, w2, d0]; exact rfl) (by repeat (first | exact leL_nil | refine leL_cons ?_ ?_ | exact le_of_eq rfl | exact le_iptrN (leL_of_eq rfl) | refine le_agg ?_ | exact le_slf rfl (TD.rows ..) | refine le_iptr ?_ | refine le_fn ?_ ?_ | exact le_nilsl_)) (by repeat (first | exact leL_nil | refine leL_cons ?_ ?_ | exact le_of_eq rfl | exact le_iptrN (leL_of_eq rfl) | refine le_agg ?_ | exact le_slf rfl (TD.rows ..) | refine le_iptr ?_ | refine le_fn ?_ ?_ | exact le_nilsl_)) (by first | exact .inr rfl | exact .inl ⟨rfl, rfl⟩ | exact .inl ⟨by simp only [D.noImm, noImmL, go_sem, TD.nims, TD.nim], by simp only [D.noImm, noImmL, go_sem, TD.nims, TD.nim, nim_rI, nim_rB8, nim_rBo, nim_rS]⟩) ?_; simp -implicitDefEqProofs (disch := omega) only [go_sem, ↓reduceIte , Src.d, w2, d0]
    · have d2 : decide (200 < n) = false := decide_eq_false h200; have e1 : pickV s n = (srcV s).tmod n := (by unfold pickV; rw [if_neg hn, if_neg h200]); have e2 : pickN s n = srcN s := (by unfold pickN; rw [if_neg hn, if_neg h200]); rw [e1, e2]; simp only [Src.d]; simp -implicitDefEqProofs (disch := omega) only [go_sem, ↓reduceIte , d1]; refine call_ioA (i := 0) (r := 0) (v_next s (hs.mono (by omega))) rfl rfl (by simp -implicitDefEqProofs (disch := omega) only [go_sem, ↓reduceIte, deep, TD.rows, immLL_rI, immLL_rB8, immLL_rS, immLL_rBo, immLL_rII, immLL_rIIt, Src.d, d2, d0]; exact rfl) (by repeat (first | exact leL_nil | refine leL_cons ?_ ?_ | exact le_of_eq rfl | exact le_iptrN (leL_of_eq rfl) | refine le_agg ?_ | exact le_slf rfl (TD.rows ..) | refine le_iptr ?_ | refine le_fn ?_ ?_ | exact le_nilsl_)) (by repeat (first | exact leL_nil | refine leL_cons ?_ ?_ | exact le_of_eq rfl | exact le_iptrN (leL_of_eq rfl) | refine le_agg ?_ | exact le_slf rfl (TD.rows ..) | refine le_iptr ?_ | refine le_fn ?_ ?_ | exact le_nilsl_)) (by first | exact .inr rfl | exact .inl ⟨rfl, rfl⟩ | exact .inl ⟨by simp only [D.noImm, noImmL, go_sem, TD.nims, TD.nim], by simp only [D.noImm, noImmL, go_sem, TD.nims, TD.nim, nim_rI, nim_rB8, nim_rBo, nim_rS]⟩) ?_; simp -implicitDefEqProofs (disch := omega) only [go_sem, ↓reduceIte , Src.d, d2, d0]
def oneV (s : Src) (n : Int) : Bool := decide (pickV s n = 0)
def code_spec_l00Src_one : VCode := (.seq (.ops [
  ⟨(some 4), none, (.asg (.const (.bool false)))⟩]) (.seq (.ops [
  ⟨(some 5), none, (.mv (.tmp 0))⟩,
  ⟨(some 6), none, (.mv (.tmp 1))⟩,
  ⟨(some 7), none, (.callX 45 [(.tmp 5), (.tmp 6)])⟩,
  ⟨(some 8), none, (.bin .eql (.tmp 7) (.const (.int .i64 0)))⟩,
  ⟨(some 4), none, (.asg (.tmp 8))⟩]) .ret))
theorem law_spec_l00Src_one {a0 a1 d : D} {cells cells' : List D} (h : ∀ b, code_spec_l00Src_one.wp (CT Try.prog NoG) (endX [(.t 4)] d 0 b cells') [.box (some b) cells, a1, .undef, .undef, .undef, .undef, .undef, .undef, .undef]) : ContractX Try.prog NoG 66 0 [a0, a1] cells d cells' :=
  contract_ofX (pt := 0) noG Try.func66 (fun us W => by kernel_rfl) (c := Try.f66.body.getD .skip) (ms := []) (ms' := []) (by kernel_rfl) (by kernel_rfl) (by kernel_rfl) (by simp) h
theorem v_one (s : Src) (n : Int) (hs : SrcB 2 s) : ContractX Try.prog NoG 66 0 [.undef, .v (.int .i64 n)] s.d (.v (.bool (oneV s n))) (pickN s n).d := by refine law_spec_l00Src_one ?_; intro b; unfold code_spec_l00Src_one oneV; simp only [Src.d]; simp -implicitDefEqProofs (disch := omega) only [go_sem, ↓reduceIte]; refine call_ioA (i := 0) (r := 0) (v_pick s n hs) rfl rfl (by simp -implicitDefEqProofs (disch := omega) only [go_sem, ↓reduceIte, deep, TD.rows, immLL_rI, immLL_rB8, immLL_rS, immLL_rBo, immLL_rII, immLL_rIIt, Src.d]; exact rfl) (by repeat (first | exact leL_nil | refine leL_cons ?_ ?_ | exact le_of_eq rfl | exact le_iptrN (leL_of_eq rfl) | refine le_agg ?_ | exact le_slf rfl (TD.rows ..) | refine le_iptr ?_ | refine le_fn ?_ ?_ | exact le_nilsl_)) (by repeat (first | exact leL_nil | refine leL_cons ?_ ?_ | exact le_of_eq rfl | exact le_iptrN (leL_of_eq rfl) | refine le_agg ?_ | exact le_slf rfl (TD.rows ..) | refine le_iptr ?_ | refine le_fn ?_ ?_ | exact le_nilsl_)) (by first | exact .inr rfl | exact .inl ⟨rfl, rfl⟩ | exact .inl ⟨by simp only [D.noImm, noImmL, go_sem, TD.nims, TD.nim], by simp only [D.noImm, noImmL, go_sem, TD.nims, TD.nim, nim_rI, nim_rB8, nim_rBo, nim_rS]⟩) ?_; simp -implicitDefEqProofs (disch := omega) only [go_sem, ↓reduceIte , Src.d]
def code_spec_l00Src_among : VCode := (.seq (.ops [
  ⟨(some 4), none, (.asg (.const (.int .i64 0)))⟩]) (.seq (.ops [
  ⟨(some 5), none, (.mv (.tmp 1))⟩,
  ⟨(some 6), none, (.mv (.tmp 0))⟩,
  ⟨(some 7), none, (.mv (.tmp 1))⟩,
  ⟨(some 8), none, (.len (.tmp 7))⟩,
  ⟨(some 9), none, (.callX 45 [(.tmp 6), (.tmp 8)])⟩,
  ⟨(some 10), none, (.ia 1 (.tmp 5) (.tmp 9))⟩,
  ⟨(some 11), none, (.load 1 false (.tmp 10))⟩,
  ⟨(some 4), none, (.asg (.tmp 11))⟩]) .ret))
theorem law_spec_l00Src_among {a0 a1 d : D} {cells cells' : List D} (h : ∀ b, code_spec_l00Src_among.wp (CT Try.prog NoG) (endX [(.t 4)] d 0 b cells') [.box (some b) cells, a1, .undef, .undef, .undef, .undef, .undef, .undef, .undef, .undef, .undef, .undef]) : ContractX Try.prog NoG 56 0 [a0, a1] cells d cells' :=
  contract_ofX (pt := 0) noG Try.func56 (fun us W => by kernel_rfl) (c := Try.f56.body.getD .skip) (ms := []) (ms' := []) (by kernel_rfl) (by kernel_rfl) (by kernel_rfl) (by simp) h
theorem v_among (s : Src) (xs : List Int) (hs : SrcB 2 s) (h0 : 0 < xs.length) (hl : xs.length ≤ 1048576) : ContractX Try.prog NoG 56 0 [.undef, .sl false 1 (xs.map rI)] s.d (.v (.int .i64 (xs.getD (pickV s xs.length).toNat 0))) (pickN s xs.length).d := by
  refine law_spec_l00Src_among ?_; intro b; unfold code_spec_l00Src_among; have hp := pickV_in (k := 0) hs (n := xs.length) (by omega); obtain ⟨k, hk⟩ : ∃ k : Nat, pickV s xs.length = (k : Int) := ⟨(pickV s xs.length).toNat, by omega⟩
  have hlt : k < xs.length := (by omega); have e1 := List.getElem?_eq_getElem hlt; have e2 : xs.getD k 0 = xs[k] := (by rw [List.getD_eq_getElem?_getD, e1]; rfl); rw [hk, Int.toNat_natCast, e2]; simp only [Src.d]; simp -implicitDefEqProofs (disch := omega) only [go_sem, ↓reduceIte , List.length_map]; refine call_ioA (i := 0) (r := 0) (v_pick s xs.length hs) rfl rfl (by simp -implicitDefEqProofs (disch := omega) only [go_sem, ↓reduceIte, deep, TD.rows, immLL_rI, immLL_rB8, immLL_rS, immLL_rBo, immLL_rII, immLL_rIIt, Src.d, hk, List.length_map, Int.toNat_natCast, Int.ofNat_lt, Int.natCast_nonneg, List.getElem?_map, Option.map_some, hlt, e1]; exact rfl) (by repeat (first | exact leL_nil | refine leL_cons ?_ ?_ | exact le_of_eq rfl | exact le_iptrN (leL_of_eq rfl) | refine le_agg ?_ | exact le_slf rfl (TD.rows ..) | refine le_iptr ?_ | refine le_fn ?_ ?_ | exact le_nilsl_)) (by repeat (first | exact leL_nil | refine leL_cons ?_ ?_ | exact le_of_eq rfl | exact le_iptrN (leL_of_eq rfl) | refine le_agg ?_ | exact le_slf rfl (TD.rows ..) | refine le_iptr ?_ | refine le_fn ?_ ?_ | exact le_nilsl_)) (by first | exact .inr rfl | exact .inl ⟨rfl, rfl⟩ | exact .inl ⟨by simp only [D.noImm, noImmL, go_sem, TD.nims, TD.nim], by simp only [D.noImm, noImmL, go_sem, TD.nims, TD.nim, nim_rI, nim_rB8, nim_rBo, nim_rS]⟩) ?_; simp -implicitDefEqProofs (disch := omega) only [go_sem, ↓reduceIte , Src.d, hk, List.length_map, Int.toNat_natCast, Int.ofNat_lt, Int.natCast_nonneg, List.getElem?_map, Option.map_some, hlt, e1]
end Go.Proofs.Ytjalagigmelcaaa
