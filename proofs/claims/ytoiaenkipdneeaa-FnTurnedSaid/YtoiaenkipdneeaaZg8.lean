/- Laws that the proof stands on. -/
import Derived.Test.YtoiaenkipdneeaaZVB
import Derived.Test.YtoiaenkipdneeaaProg
import Derived.Lib.ItoaNum
set_option linter.all false
namespace Go.Proofs.Ytoiaenkipdneeaa
open Go.RowKit Go.V
attribute [local go_sem] List.getElem?_cons_succ List.getElem?_cons_zero List.set_cons_succ List.set_cons_zero List.map_cons List.map_nil List.length_cons List.length_nil List.all_cons List.all_nil List.drop_succ_cons List.drop_zero List.take_succ_cons List.take_zero List.flatMap_cons List.flatMap_nil List.cons_append List.nil_append List.append_nil List.headD_cons Value.oneCell' Bool.and_true Bool.true_and Bool.or_false Bool.false_or Bool.and_self Bool.not_true Bool.not_false and_true true_and beq_self_eq_true Bool.false_eq_true if_true if_false Nat.zero_add Nat.reduceAdd Nat.reduceMul Nat.reduceLeDiff Nat.le_refl Option.isSome_some Option.isSome_none not_true_eq_false not_false_eq_true ne_eq reduceCtorEq List.reverse_nil bne_self_eq_false Nat.reduceEqDiff List.isPrefixOf Bool.not_eq_true Bool.and_false Bool.false_and Bool.true_or Bool.or_true decide_true decide_false Nat.reduceBEq Nat.reduceBNe List.replicate_succ List.replicate_zero exists_eq_left' exists_eq_left Option.some.injEq or_false or_true true_or false_or Option.map_some Option.map_none mB Nat.reduceMod Nat.reduceDiv
set_option maxRecDepth 100000
def inR (lo hi n : Int) : Bool := decide (lo ≤ n) && decide (n ≤ hi)
theorem inR_iff {lo hi n : Int} : inR lo hi n = true ↔ lo ≤ n ∧ n ≤ hi := by simp [inR]
def code_spec_l00In : VCode := (.seq (.ops [
  ⟨(some 6), none, (.asg (.const (.bool false)))⟩]) (.seq (.ops [
  ⟨(some 7), none, (.mv (.tmp 0))⟩,
  ⟨(some 8), none, (.mv (.tmp 1))⟩,
  ⟨(some 9), none, (.bin .geq (.tmp 7) (.tmp 8))⟩,
  ⟨(some 10), none, (.mv (.tmp 9))⟩,
  ⟨(some 11), (some (10, true)), (.mv (.tmp 0))⟩,
  ⟨(some 12), (some (10, true)), (.mv (.tmp 2))⟩,
  ⟨(some 13), (some (10, true)), (.bin .leq (.tmp 11) (.tmp 12))⟩,
  ⟨(some 14), none, (.pick (.tmp 10) (.tmp 13) (.const (.bool false)))⟩,
  ⟨(some 6), none, (.asg (.tmp 14))⟩]) .ret))
theorem law_spec_l00In {a0 a1 a2 d : D} (h : code_spec_l00In.wp (CT Try.prog NoG) (endQ [(.t 6)] d) [a0, a1, a2, .undef, .undef, .undef, .undef, .undef, .undef, .undef, .undef, .undef, .undef, .undef, .undef]) : Contract Try.prog NoG 35 [a0, a1, a2] d :=
  contract_of (pt := 0) noG Try.func35 (fun us W => by kernel_rfl) (c := Try.f35.body.getD .skip) (ms := []) (ms' := []) (by kernel_rfl) (by kernel_rfl) (by kernel_rfl) h
theorem v_l00In (a b c : Int) : Contract Try.prog NoG 35 [.v (.int .i64 a), .v (.int .i64 b), .v (.int .i64 c)] (.v (.bool (inR b c a))) := by
  refine law_spec_l00In ?_; unfold code_spec_l00In inR; simp -implicitDefEqProofs (disch := omega) only [go_sem, ↓reduceIte]; refine guard_split ?_ ?_ <;> intro h
  · simp -implicitDefEqProofs (disch := omega) only [go_sem, ↓reduceIte , h]
  · simp -implicitDefEqProofs (disch := omega) only [go_sem, ↓reduceIte , h]
def code_impl_within : VCode := (.seq (.ops [
  ⟨(some 6), none, (.asg (.const (.bool false)))⟩]) (.seq (.ops [
  ⟨(some 7), none, (.mv (.tmp 0))⟩,
  ⟨(some 8), none, (.mv (.tmp 1))⟩,
  ⟨(some 9), none, (.bin .geq (.tmp 7) (.tmp 8))⟩,
  ⟨(some 10), none, (.mv (.tmp 9))⟩,
  ⟨(some 11), (some (10, true)), (.mv (.tmp 0))⟩,
  ⟨(some 12), (some (10, true)), (.mv (.tmp 2))⟩,
  ⟨(some 13), (some (10, true)), (.bin .leq (.tmp 11) (.tmp 12))⟩,
  ⟨(some 14), none, (.pick (.tmp 10) (.tmp 13) (.const (.bool false)))⟩,
  ⟨(some 6), none, (.asg (.tmp 14))⟩]) .ret))
theorem law_impl_within {a0 a1 a2 d : D} (h : code_impl_within.wp (CT Try.prog NoG) (endQ [(.t 6)] d) [a0, a1, a2, .undef, .undef, .undef, .undef, .undef, .undef, .undef, .undef, .undef, .undef, .undef, .undef]) : Contract Try.prog NoG 32 [a0, a1, a2] d :=
  contract_of (pt := 0) noG Try.func32 (fun us W => by kernel_rfl) (c := Try.f32.body.getD .skip) (ms := []) (ms' := []) (by kernel_rfl) (by kernel_rfl) (by kernel_rfl) h
theorem v_within (a b c : Int) : Contract Try.prog NoG 32 [.v (.int .i64 a), .v (.int .i64 b), .v (.int .i64 c)] (.v (.bool (inR b c a))) := by
  refine law_impl_within ?_; unfold code_impl_within inR; simp -implicitDefEqProofs (disch := omega) only [go_sem, ↓reduceIte]; refine guard_split ?_ ?_ <;> intro h
  · simp -implicitDefEqProofs (disch := omega) only [go_sem, ↓reduceIte , h]
  · simp -implicitDefEqProofs (disch := omega) only [go_sem, ↓reduceIte , h]
def code_impl_isIndex : VCode := (.seq (.ops [
  ⟨(some 4), none, (.asg (.const (.bool false)))⟩]) (.seq (.ops [
  ⟨(some 5), none, (.mv (.tmp 0))⟩,
  ⟨(some 6), none, (.mv (.tmp 1))⟩,
  ⟨(some 7), none, (.bin .sub (.tmp 6) (.const (.int .i64 1)))⟩,
  ⟨(some 8), none, (.callX 32 [(.tmp 5), (.const (.int .i64 0)), (.tmp 7)])⟩,
  ⟨(some 4), none, (.asg (.tmp 8))⟩]) .ret))
theorem law_impl_isIndex {a0 a1 d : D} (h : code_impl_isIndex.wp (CT Try.prog NoG) (endQ [(.t 4)] d) [a0, a1, .undef, .undef, .undef, .undef, .undef, .undef, .undef]) : Contract Try.prog NoG 82 [a0, a1] d :=
  contract_of (pt := 0) noG Try.func82 (fun us W => by kernel_rfl) (c := Try.f82.body.getD .skip) (ms := []) (ms' := []) (by kernel_rfl) (by kernel_rfl) (by kernel_rfl) h
theorem v_isIndex (i n : Int) (h1 : 0 ≤ n) (h2 : n ≤ 1099511627776) : Contract Try.prog NoG 82 [.v (.int .i64 i), .v (.int .i64 n)] (.v (.bool (inR 0 (n - 1) i))) := by refine law_impl_isIndex ?_; unfold code_impl_isIndex; have hw : IntKind.i64.wrap (n - 1) = n - 1 := wrI (by omega) (by omega); simp -implicitDefEqProofs (disch := omega) only [go_sem, ↓reduceIte , hw]; refine call_B (v_within _ _ _) (by simp -implicitDefEqProofs (disch := omega) only [go_sem, ↓reduceIte, deep, TD.rows, immLL_rI, immLL_rB8, immLL_rS, immLL_rBo, immLL_rII, immLL_rIIt]; exact rfl) ?_; simp -implicitDefEqProofs (disch := omega) only [go_sem, ↓reduceIte]
def isLet (c : Int) : Bool := (decide (97 ≤ c) && decide (c ≤ 122)) || (decide (65 ≤ c) && decide (c ≤ 90))
def isDig (c : Int) : Bool := decide (48 ≤ c) && decide (c ≤ 57)
def chOK (i : Nat) (c : Int) : Bool := isLet c || (decide (i ≠ 0) && (isDig c || decide (c = 95)))
def chAt (s : ByteArray) (i : Nat) : Int := match s[i]? with
  | some c => (c.toNat : Int)
  | none => 0
def isNameB (s : ByteArray) : Bool := (decide (1 ≤ s.size) && decide (s.size ≤ 12)) && (List.range s.size).all (fun i => chOK i (chAt s i))
theorem name_no {s : ByteArray} {i : Nat} (hi : i < s.size) (h : chOK i (chAt s i) = false) : isNameB s = false := by
  unfold isNameB; have : (List.range s.size).all (fun i => chOK i (chAt s i)) = false := by rw [List.all_eq_false]; exact ⟨i, by simpa using hi, by simp [h]⟩
  rw [this, Bool.and_false]
theorem all_next {f : Nat → Bool} {i : Nat} (h : (List.range i).all f = true) (hi : f i = true) : (List.range (i + 1)).all f = true := by rw [List.range_succ, List.all_append, h]; simp [hi]
theorem byte_at {s : ByteArray} {i : Nat} (hi : i < s.size) : s[i]? = some s[i] := by simp [hi]
theorem chAt_some {s : ByteArray} {i : Nat} {c : UInt8} (h : s[i]? = some c) : chAt s i = (c.toNat : Int) := by unfold chAt; rw [h]
theorem chOK_let {i : Nat} {c : Int} (h : isLet c = true) : chOK i c = true := by unfold chOK; rw [h]; rfl
def code_spec_l01Letter : VCode := (.seq (.ops [
  ⟨(some 2), none, (.asg (.const (.bool false)))⟩]) (.seq (.ops [
  ⟨(some 3), none, (.mv (.tmp 0))⟩,
  ⟨(some 4), none, (.bin .geq (.tmp 3) (.const (.int .u8 97)))⟩,
  ⟨(some 5), none, (.mv (.tmp 4))⟩,
  ⟨(some 6), (some (5, true)), (.mv (.tmp 0))⟩,
  ⟨(some 7), (some (5, true)), (.bin .leq (.tmp 6) (.const (.int .u8 122)))⟩,
  ⟨(some 8), none, (.pick (.tmp 5) (.tmp 7) (.const (.bool false)))⟩,
  ⟨(some 9), none, (.mv (.tmp 8))⟩,
  ⟨(some 10), (some (9, false)), (.mv (.tmp 0))⟩,
  ⟨(some 11), (some (9, false)), (.bin .geq (.tmp 10) (.const (.int .u8 65)))⟩,
  ⟨(some 12), (some (9, false)), (.mv (.tmp 11))⟩,
  ⟨(some 13), (some (12, true)), (.mv (.tmp 0))⟩,
  ⟨(some 14), (some (12, true)), (.bin .leq (.tmp 13) (.const (.int .u8 90)))⟩,
  ⟨(some 15), (some (9, false)), (.pick (.tmp 12) (.tmp 14) (.const (.bool false)))⟩,
  ⟨(some 16), none, (.pick (.tmp 9) (.const (.bool true)) (.tmp 15))⟩,
  ⟨(some 2), none, (.asg (.tmp 16))⟩]) .ret))
theorem law_spec_l01Letter {a0 d : D} (h : code_spec_l01Letter.wp (CT Try.prog NoG) (endQ [(.t 2)] d) [a0, .undef, .undef, .undef, .undef, .undef, .undef, .undef, .undef, .undef, .undef, .undef, .undef, .undef, .undef, .undef, .undef]) : Contract Try.prog NoG 100 [a0] d :=
  contract_of (pt := 0) noG Try.func100 (fun us W => by kernel_rfl) (c := Try.f100.body.getD .skip) (ms := []) (ms' := []) (by kernel_rfl) (by kernel_rfl) (by kernel_rfl) h
def code_spec_l01Digit : VCode := (.seq (.ops [
  ⟨(some 2), none, (.asg (.const (.bool false)))⟩]) (.seq (.ops [
  ⟨(some 3), none, (.mv (.tmp 0))⟩,
  ⟨(some 4), none, (.bin .geq (.tmp 3) (.const (.int .u8 48)))⟩,
  ⟨(some 5), none, (.mv (.tmp 4))⟩,
  ⟨(some 6), (some (5, true)), (.mv (.tmp 0))⟩,
  ⟨(some 7), (some (5, true)), (.bin .leq (.tmp 6) (.const (.int .u8 57)))⟩,
  ⟨(some 8), none, (.pick (.tmp 5) (.tmp 7) (.const (.bool false)))⟩,
  ⟨(some 2), none, (.asg (.tmp 8))⟩]) .ret))
theorem law_spec_l01Digit {a0 d : D} (h : code_spec_l01Digit.wp (CT Try.prog NoG) (endQ [(.t 2)] d) [a0, .undef, .undef, .undef, .undef, .undef, .undef, .undef, .undef]) : Contract Try.prog NoG 101 [a0] d :=
  contract_of (pt := 0) noG Try.func101 (fun us W => by kernel_rfl) (c := Try.f101.body.getD .skip) (ms := []) (ms' := []) (by kernel_rfl) (by kernel_rfl) (by kernel_rfl) h
theorem v_l01Letter (c : Int) : Contract Try.prog NoG 100 [.v (.int .u8 c)] (.v (.bool (isLet c))) := by
  refine law_spec_l01Letter ?_; unfold code_spec_l01Letter isLet; simp -implicitDefEqProofs (disch := omega) only [go_sem, ↓reduceIte]
  repeat' (first | (refine guard_split ?_ ?_ <;> intro h <;> try (simp -implicitDefEqProofs (disch := omega) only [go_sem, ↓reduceIte, h])) | (refine gd_split ?_ ?_ <;> intro h <;> try (simp -implicitDefEqProofs (disch := omega) only [go_sem, ↓reduceIte, h])) | (refine cond_split ?_ ?_ <;> intro h <;> try (simp -implicitDefEqProofs (disch := omega) only [go_sem, ↓reduceIte, h])))
theorem v_l01Digit (c : Int) : Contract Try.prog NoG 101 [.v (.int .u8 c)] (.v (.bool (isDig c))) := by
  refine law_spec_l01Digit ?_; unfold code_spec_l01Digit isDig; simp -implicitDefEqProofs (disch := omega) only [go_sem, ↓reduceIte]
  repeat' (first | (refine guard_split ?_ ?_ <;> intro h <;> try (simp -implicitDefEqProofs (disch := omega) only [go_sem, ↓reduceIte, h])) | (refine gd_split ?_ ?_ <;> intro h <;> try (simp -implicitDefEqProofs (disch := omega) only [go_sem, ↓reduceIte, h])) | (refine cond_split ?_ ?_ <;> intro h <;> try (simp -implicitDefEqProofs (disch := omega) only [go_sem, ↓reduceIte, h])))
def code_spec_IsName : VCode := (.seq (.ops [
  ⟨(some 2), none, (.asg (.const (.bool false)))⟩]) (.seq (.seq (.ops [
  ⟨(some 4), none, (.mv (.tmp 0))⟩,
  ⟨(some 5), none, (.lenS (.tmp 4))⟩,
  ⟨(some 6), none, (.bin .lss (.tmp 5) (.const (.int .i64 1)))⟩,
  ⟨(some 7), none, (.mv (.tmp 6))⟩,
  ⟨(some 8), (some (7, false)), (.mv (.tmp 0))⟩,
  ⟨(some 9), (some (7, false)), (.lenS (.tmp 8))⟩,
  ⟨(some 10), (some (7, false)), (.bin .gtr (.tmp 9) (.const (.int .i64 12)))⟩,
  ⟨(some 11), none, (.pick (.tmp 7) (.const (.bool true)) (.tmp 10))⟩,
  ⟨(some 12), none, (.mv (.tmp 11))⟩,
  ⟨(some 13), (some (12, false)), (.mv (.tmp 0))⟩,
  ⟨(some 14), (some (12, false)), (.ixs (.tmp 13) (.const (.int .i64 0)))⟩,
  ⟨(some 15), (some (12, false)), (.callX 100 [(.tmp 14)])⟩,
  ⟨(some 16), (some (12, false)), (.un .not (.tmp 15))⟩,
  ⟨(some 17), none, (.pick (.tmp 12) (.const (.bool true)) (.tmp 16))⟩]) (.cond (.tmp 17) (.seq (.ops [
  ⟨(some 2), none, (.asg (.const (.bool false)))⟩]) .ret) .skip)) (.seq (.seq (.ops [
  ⟨(some 3), none, (.asg (.const (.int .i64 1)))⟩]) (.block 0 (.loop (mB 42 4398046511094) (.seq (.seq (.ops [
  ⟨(some 18), none, (.mv (.tmp 3))⟩,
  ⟨(some 19), none, (.mv (.tmp 0))⟩,
  ⟨(some 20), none, (.lenS (.tmp 19))⟩,
  ⟨(some 21), none, (.bin .lss (.tmp 18) (.tmp 20))⟩]) (.cond (.tmp 21) .skip (.exit 0))) (.seq (.block 1 (.seq (.ops [
  ⟨(some 24), none, (.mv (.tmp 0))⟩,
  ⟨(some 25), none, (.mv (.tmp 3))⟩,
  ⟨(some 26), none, (.ixs (.tmp 24) (.tmp 25))⟩,
  ⟨(some 27), none, (.callX 100 [(.tmp 26)])⟩,
  ⟨(some 28), none, (.un .not (.tmp 27))⟩,
  ⟨(some 29), none, (.mv (.tmp 28))⟩,
  ⟨(some 30), (some (29, true)), (.mv (.tmp 0))⟩,
  ⟨(some 31), (some (29, true)), (.mv (.tmp 3))⟩,
  ⟨(some 32), (some (29, true)), (.ixs (.tmp 30) (.tmp 31))⟩,
  ⟨(some 33), (some (29, true)), (.callX 101 [(.tmp 32)])⟩,
  ⟨(some 34), (some (29, true)), (.un .not (.tmp 33))⟩,
  ⟨(some 35), none, (.pick (.tmp 29) (.tmp 34) (.const (.bool false)))⟩,
  ⟨(some 36), none, (.mv (.tmp 35))⟩,
  ⟨(some 37), (some (36, true)), (.mv (.tmp 0))⟩,
  ⟨(some 38), (some (36, true)), (.mv (.tmp 3))⟩,
  ⟨(some 39), (some (36, true)), (.ixs (.tmp 37) (.tmp 38))⟩,
  ⟨(some 40), (some (36, true)), (.bin .neq (.tmp 39) (.const (.int .u8 95)))⟩,
  ⟨(some 41), none, (.pick (.tmp 36) (.tmp 40) (.const (.bool false)))⟩]) (.cond (.tmp 41) (.seq (.ops [
  ⟨(some 2), none, (.asg (.const (.bool false)))⟩]) .ret) .skip))) (.ops [
  ⟨(some 22), none, (.mv (.tmp 3))⟩,
  ⟨(some 23), none, (.bin .add (.tmp 22) (.const (.int .i64 1)))⟩,
  ⟨(some 3), none, (.asg (.tmp 23))⟩])))))) (.seq (.ops [
  ⟨(some 2), none, (.asg (.const (.bool true)))⟩]) .ret))))
theorem law_spec_IsName {a0 d : D} (h : code_spec_IsName.wp (CT Try.prog NoG) (endQ [(.t 2)] d) [a0, .undef, .undef, .undef, .undef, .undef, .undef, .undef, .undef, .undef, .undef, .undef, .undef, .undef, .undef, .undef, .undef, .undef, .undef, .undef, .undef, .undef, .undef, .undef, .undef, .undef, .undef, .undef, .undef, .undef, .undef, .undef, .undef, .undef, .undef, .undef, .undef, .undef, .undef, .undef, .undef, .undef]) : Contract Try.prog NoG 77 [a0] d :=
  contract_of (pt := 0) noG Try.func77 (fun us W => by kernel_rfl) (c := Try.f77.body.getD .skip) (ms := [(mB 42 4398046511094)]) (ms' := []) (by kernel_rfl) (by kernel_rfl) (by kernel_rfl) h
theorem vIsName_spec (s : ByteArray) (hs : s.size ≤ 1048576) : Contract Try.prog NoG 77 [.v (.string s)] (.v (.bool (isNameB s))) := by
  refine law_spec_IsName ?_; unfold code_spec_IsName; have bad : ¬ (1 ≤ s.size ∧ s.size ≤ 12) → isNameB s = false := fun h => by
    unfold isNameB; have : (decide (1 ≤ s.size) && decide (s.size ≤ 12)) = false := by rw [Bool.and_eq_false_iff, decide_eq_false_iff_not, decide_eq_false_iff_not]; omega
    rw [this, Bool.false_and]
  simp -implicitDefEqProofs (disch := omega) only [go_sem, ↓reduceIte]; refine guard_split ?_ ?_ <;> intro h1
  · simp -implicitDefEqProofs (disch := omega) only [go_sem, ↓reduceIte , h1]; rw [bad (by have := of_decide_eq_true h1; omega)]
  · have h1' : 1 ≤ s.size := (by have := of_decide_eq_false h1; omega); simp -implicitDefEqProofs (disch := omega) only [go_sem, ↓reduceIte , h1]; refine guard_split ?_ ?_ <;> intro h2
    · simp -implicitDefEqProofs (disch := omega) only [go_sem, ↓reduceIte , h2]; rw [bad (by have := of_decide_eq_true h2; omega)]
    · have h2' : s.size ≤ 12 := (by have := of_decide_eq_false h2; omega); have hb0 : s[0]? = some s[0] := byte_at (by omega)
      simp -implicitDefEqProofs (disch := omega) only [go_sem, ↓reduceIte , h2, hb0, Int.natCast_zero, Int.natCast_one, Int.cast_ofNat_Int, Int.ofNat_le, Int.toNat_zero, Nat.sub_zero, Int.le_refl, Int.reduceLT, Int.reduceLE, Int.reduceEq, Int.reduceAdd, Int.reduceSub, Int.reduceMul, Int.reduceToNat, Int.reduceNeg]; refine call_B (v_l01Letter _) (by simp -implicitDefEqProofs (disch := omega) only [go_sem, ↓reduceIte, deep, TD.rows, immLL_rI, immLL_rB8, immLL_rS, immLL_rBo, immLL_rII, immLL_rIIt, Int.natCast_zero, Int.natCast_one, Int.cast_ofNat_Int, Int.ofNat_le, Int.toNat_zero, Nat.sub_zero, Int.le_refl, Int.reduceLT, Int.reduceLE, Int.reduceEq, Int.reduceAdd, Int.reduceSub, Int.reduceMul, Int.reduceToNat, Int.reduceNeg]; exact rfl) ?_; simp -implicitDefEqProofs (disch := omega) only [go_sem, ↓reduceIte , Int.natCast_zero, Int.natCast_one, Int.cast_ofNat_Int, Int.ofNat_le, Int.toNat_zero, Nat.sub_zero, Int.le_refl, Int.reduceLT, Int.reduceLE, Int.reduceEq, Int.reduceAdd, Int.reduceSub, Int.reduceMul, Int.reduceToNat, Int.reduceNeg]; refine cond_split ?_ ?_ <;> intro h3
      · simp -implicitDefEqProofs (disch := omega) only [go_sem, ↓reduceIte]; simp only [Bool.not_eq_true'] at h3; rw [name_no (s := s) (i := 0) (by omega) (by rw [chAt_some hb0]; unfold chOK; rw [h3]; rfl)]
      · simp only [Bool.not_eq_false'] at h3; simp -implicitDefEqProofs (disch := omega) only [go_sem, ↓reduceIte]; refine loop_st (fun i : Nat => [.v (.string s), .undef, .undef, .v (.int .i64 i), .undef, .undef, .undef, .undef, .undef, .undef, .undef, .undef, .undef, .undef, .undef, .undef, .undef, .undef, .undef, .undef, .undef, .undef, .undef, .undef, .undef, .undef, .undef, .undef, .undef, .undef, .undef, .undef, .undef, .undef, .undef, .undef, .undef, .undef, .undef, .undef, .undef, .undef]) (fun i => 1 ≤ i ∧ i ≤ s.size ∧ (List.range i).all (fun i => chOK i (chAt s i)) = true) (fun i => s.size - i) 1 (nleA) ⟨by omega, h1', by simp [chAt_some hb0, chOK_let h3]⟩ ?_; rintro i ⟨hi0, hi, ha⟩; simp -implicitDefEqProofs (disch := omega) only [go_sem, ↓reduceIte , Int.ofNat_lt]; refine cond_split ?_ ?_ <;> intro hlt
        · have hlt : i < s.size := of_decide_eq_true hlt; have hb := byte_at hlt; have hc := chAt_some hb; have next : chOK i (s[i].toNat : Int) = true → ∃ b, s.size - b < s.size - i ∧ (1 ≤ b ∧ b ≤ s.size ∧ (List.range b).all (fun i => chOK i (chAt s i)) = true) ∧ b = i + 1 := fun h => ⟨i + 1, by omega, ⟨by omega, hlt, all_next ha (by rw [hc]; exact h)⟩, rfl⟩
          simp -implicitDefEqProofs (disch := omega) only [go_sem, ↓reduceIte , Int.toNat_natCast, hb, Int.natCast_nonneg]; refine call_B (v_l01Letter _) (by simp -implicitDefEqProofs (disch := omega) only [go_sem, ↓reduceIte, deep, TD.rows, immLL_rI, immLL_rB8, immLL_rS, immLL_rBo, immLL_rII, immLL_rIIt]; exact rfl) ?_; simp -implicitDefEqProofs (disch := omega) only [go_sem, ↓reduceIte]; refine guard_split ?_ ?_ <;> intro g1
          · simp only [Bool.not_eq_true'] at g1; simp -implicitDefEqProofs (disch := omega) only [go_sem, ↓reduceIte , g1, Int.toNat_natCast, hb, Int.natCast_nonneg]; refine call_B (v_l01Digit _) (by simp -implicitDefEqProofs (disch := omega) only [go_sem, ↓reduceIte, deep, TD.rows, immLL_rI, immLL_rB8, immLL_rS, immLL_rBo, immLL_rII, immLL_rIIt, g1]; exact rfl) ?_; simp -implicitDefEqProofs (disch := omega) only [go_sem, ↓reduceIte , g1]; refine guard_split ?_ ?_ <;> intro g2
            · simp only [Bool.not_eq_true'] at g2; simp -implicitDefEqProofs (disch := omega) only [go_sem, ↓reduceIte , g2, Int.toNat_natCast, hb, Int.natCast_nonneg]; refine cond_split ?_ ?_ <;> intro g3
              · simp -implicitDefEqProofs (disch := omega) only [go_sem, ↓reduceIte]; simp only [Bool.not_eq_true'] at g3; rw [name_no hlt (by rw [hc]; unfold chOK; rw [g1, g2, g3]; simp)]
              · simp only [Bool.not_eq_false'] at g3; simp -implicitDefEqProofs (disch := omega) only [go_sem, ↓reduceIte , wrN]; obtain ⟨b, k1, k2, rfl⟩ := next (by unfold chOK; rw [g1, g2, g3]; simp; omega)
                exact ⟨_, k1, k2, nleA⟩
            · simp only [Bool.not_eq_false'] at g2; simp -implicitDefEqProofs (disch := omega) only [go_sem, ↓reduceIte , g2, wrN]; obtain ⟨b, k1, k2, rfl⟩ := next (by unfold chOK; rw [g1, g2]; simp; omega)
              exact ⟨_, k1, k2, nleA⟩
          · simp only [Bool.not_eq_false'] at g1; simp -implicitDefEqProofs (disch := omega) only [go_sem, ↓reduceIte , g1, wrN]; obtain ⟨b, k1, k2, rfl⟩ := next (chOK_let g1)
            exact ⟨_, k1, k2, nleA⟩
        · have hlt : i = s.size := (by have : ¬ i < s.size := of_decide_eq_false hlt; omega); subst hlt; simp -implicitDefEqProofs (disch := omega) only [go_sem, ↓reduceIte]; unfold isNameB; rw [ha, Bool.and_true, decide_eq_true h1', decide_eq_true h2']; rfl
def code_impl_IsName : VCode := (.seq (.ops [
  ⟨(some 2), none, (.asg (.const (.bool false)))⟩]) (.seq (.seq (.ops [
  ⟨(some 6), none, (.mv (.tmp 0))⟩,
  ⟨(some 7), none, (.lenS (.tmp 6))⟩,
  ⟨(some 8), none, (.mv (.const (.int .i64 0)))⟩]) (.block 0 (.loop (mB 55 36028797018963582) (.seq (.ops [
  ⟨(some 9), none, (.bin .lss (.tmp 8) (.tmp 7))⟩]) (.seq (.cond (.tmp 9) .skip (.exit 0)) (.seq (.block 1 (.seq (.ops [
  ⟨(some 10), none, (.mv (.tmp 8))⟩,
  ⟨(some 3), none, (.asg (.tmp 10))⟩]) (.seq (.ops [
  ⟨(some 11), none, (.mv (.tmp 0))⟩,
  ⟨(some 12), none, (.mv (.tmp 3))⟩,
  ⟨(some 13), none, (.ixs (.tmp 11) (.tmp 12))⟩,
  ⟨(some 4), none, (.asg (.tmp 13))⟩]) (.seq (.ops [
  ⟨(some 14), none, (.mv (.tmp 4))⟩,
  ⟨(some 15), none, (.bin .geq (.tmp 14) (.const (.int .u8 97)))⟩,
  ⟨(some 16), none, (.mv (.tmp 15))⟩,
  ⟨(some 17), (some (16, true)), (.mv (.tmp 4))⟩,
  ⟨(some 18), (some (16, true)), (.bin .leq (.tmp 17) (.const (.int .u8 122)))⟩,
  ⟨(some 19), none, (.pick (.tmp 16) (.tmp 18) (.const (.bool false)))⟩,
  ⟨(some 20), none, (.mv (.tmp 19))⟩,
  ⟨(some 21), (some (20, false)), (.mv (.tmp 4))⟩,
  ⟨(some 22), (some (20, false)), (.bin .geq (.tmp 21) (.const (.int .u8 65)))⟩,
  ⟨(some 23), (some (20, false)), (.mv (.tmp 22))⟩,
  ⟨(some 24), (some (23, true)), (.mv (.tmp 4))⟩,
  ⟨(some 25), (some (23, true)), (.bin .leq (.tmp 24) (.const (.int .u8 90)))⟩,
  ⟨(some 26), (some (20, false)), (.pick (.tmp 23) (.tmp 25) (.const (.bool false)))⟩,
  ⟨(some 27), none, (.pick (.tmp 20) (.const (.bool true)) (.tmp 26))⟩,
  ⟨(some 5), none, (.asg (.tmp 27))⟩]) (.seq (.ops [
  ⟨(some 28), none, (.mv (.tmp 5))⟩,
  ⟨(some 29), none, (.un .not (.tmp 28))⟩,
  ⟨(some 30), none, (.mv (.tmp 29))⟩,
  ⟨(some 31), (some (30, true)), (.mv (.tmp 3))⟩,
  ⟨(some 32), (some (30, true)), (.bin .eql (.tmp 31) (.const (.int .i64 0)))⟩,
  ⟨(some 33), (some (30, true)), (.mv (.tmp 32))⟩,
  ⟨(some 34), (some (33, false)), (.mv (.tmp 4))⟩,
  ⟨(some 35), (some (33, false)), (.bin .lss (.tmp 34) (.const (.int .u8 48)))⟩,
  ⟨(some 36), (some (33, false)), (.mv (.tmp 35))⟩,
  ⟨(some 37), (some (36, false)), (.mv (.tmp 4))⟩,
  ⟨(some 38), (some (36, false)), (.bin .gtr (.tmp 37) (.const (.int .u8 57)))⟩,
  ⟨(some 39), (some (33, false)), (.pick (.tmp 36) (.const (.bool true)) (.tmp 38))⟩,
  ⟨(some 40), (some (33, false)), (.mv (.tmp 39))⟩,
  ⟨(some 41), (some (40, true)), (.mv (.tmp 4))⟩,
  ⟨(some 42), (some (40, true)), (.bin .neq (.tmp 41) (.const (.int .u8 95)))⟩,
  ⟨(some 43), (some (33, false)), (.pick (.tmp 40) (.tmp 42) (.const (.bool false)))⟩,
  ⟨(some 44), (some (30, true)), (.pick (.tmp 33) (.const (.bool true)) (.tmp 43))⟩,
  ⟨(some 45), none, (.pick (.tmp 30) (.tmp 44) (.const (.bool false)))⟩]) (.cond (.tmp 45) (.seq (.ops [
  ⟨(some 2), none, (.asg (.const (.bool false)))⟩]) .ret) .skip)))))) (.ops [
  ⟨(some 46), none, (.bin .add (.tmp 8) (.const (.int .i64 1)))⟩,
  ⟨(some 8), none, (.mv (.tmp 46))⟩]))))))) (.seq (.ops [
  ⟨(some 47), none, (.mv (.tmp 0))⟩,
  ⟨(some 48), none, (.lenS (.tmp 47))⟩,
  ⟨(some 49), none, (.bin .geq (.tmp 48) (.const (.int .i64 1)))⟩,
  ⟨(some 50), none, (.mv (.tmp 49))⟩,
  ⟨(some 51), (some (50, true)), (.mv (.tmp 0))⟩,
  ⟨(some 52), (some (50, true)), (.lenS (.tmp 51))⟩,
  ⟨(some 53), (some (50, true)), (.bin .leq (.tmp 52) (.const (.int .i64 12)))⟩,
  ⟨(some 54), none, (.pick (.tmp 50) (.tmp 53) (.const (.bool false)))⟩,
  ⟨(some 2), none, (.asg (.tmp 54))⟩]) .ret)))
theorem law_impl_IsName {a0 d : D} (h : code_impl_IsName.wp (CT Try.prog NoG) (endQ [(.t 2)] d) [a0, .undef, .undef, .undef, .undef, .undef, .undef, .undef, .undef, .undef, .undef, .undef, .undef, .undef, .undef, .undef, .undef, .undef, .undef, .undef, .undef, .undef, .undef, .undef, .undef, .undef, .undef, .undef, .undef, .undef, .undef, .undef, .undef, .undef, .undef, .undef, .undef, .undef, .undef, .undef, .undef, .undef, .undef, .undef, .undef, .undef, .undef, .undef, .undef, .undef, .undef, .undef, .undef, .undef, .undef]) : Contract Try.prog NoG 72 [a0] d :=
  contract_of (pt := 0) noG Try.func72 (fun us W => by kernel_rfl) (c := Try.f72.body.getD .skip) (ms := [(mB 55 36028797018963582)]) (ms' := []) (by kernel_rfl) (by kernel_rfl) (by kernel_rfl) h
set_option maxHeartbeats 2000000 in
theorem vIsName_impl (s : ByteArray) (hs : s.size ≤ 1048576) : Contract Try.prog NoG 72 [.v (.string s)] (.v (.bool (isNameB s))) := by
  refine law_impl_IsName ?_; unfold code_impl_IsName; simp -implicitDefEqProofs (disch := omega) only [go_sem, ↓reduceIte , Int.natCast_zero, Int.natCast_one, Int.cast_ofNat_Int, Int.ofNat_le, Int.toNat_zero, Nat.sub_zero, Int.le_refl, Int.reduceLT, Int.reduceLE, Int.reduceEq, Int.reduceAdd, Int.reduceSub, Int.reduceMul, Int.reduceToNat, Int.reduceNeg]; refine loop_st (fun i : Nat => [.v (.string s), .undef, .undef, .undef, .undef, .undef, .undef, .v (.int .i64 s.size), .v (.int .i64 i), .undef, .undef, .undef, .undef, .undef, .undef, .undef, .undef, .undef, .undef, .undef, .undef, .undef, .undef, .undef, .undef, .undef, .undef, .undef, .undef, .undef, .undef, .undef, .undef, .undef, .undef, .undef, .undef, .undef, .undef, .undef, .undef, .undef, .undef, .undef, .undef, .undef, .undef, .undef, .undef, .undef, .undef, .undef, .undef, .undef, .undef]) (fun i => i ≤ s.size ∧ (List.range i).all (fun i => chOK i (chAt s i)) = true) (fun i => s.size - i) 0 (nleA) ⟨by omega, by simp⟩ ?_; rintro i ⟨hi, ha⟩; simp -implicitDefEqProofs (disch := omega) only [go_sem, ↓reduceIte , Int.ofNat_lt]; refine cond_split ?_ ?_ <;> intro hlt
  · have hlt : i < s.size := of_decide_eq_true hlt; have hb := byte_at hlt; have hc := chAt_some hb; have next : chOK i (s[i].toNat : Int) = true → ∃ b, s.size - b < s.size - i ∧ (b ≤ s.size ∧ (List.range b).all (fun i => chOK i (chAt s i)) = true) ∧ b = i + 1 := fun h => ⟨i + 1, by omega, ⟨hlt, all_next ha (by rw [hc]; exact h)⟩, rfl⟩
    have bad : chOK i (s[i].toNat : Int) = false → isNameB s = false := fun h => name_no hlt (by rw [hc]; exact h); generalize hcc : (s[i].toNat : Int) = c at next bad
    by_cases gA : 97 ≤ c
    · by_cases gB : c ≤ 122
      · skip
        have eA : decide (97 ≤ c) = true := decide_eq_true (by omega); have eB : decide (c ≤ 122) = true := decide_eq_true (by omega); simp -implicitDefEqProofs (disch := omega) only [go_sem, ↓reduceIte , Int.toNat_natCast, hb, Int.natCast_nonneg, hcc, wrN, eA, eB]; obtain ⟨b, k1, k2, rfl⟩ := next (by simp only [chOK, isLet, isDig, Bool.or_eq_true, Bool.and_eq_true, decide_eq_true_eq]; omega)
        exact ⟨_, k1, k2, nleA⟩
      · by_cases gE : i = 0
        · skip
          have eA : decide (97 ≤ c) = true := decide_eq_true (by omega); have eB : decide (c ≤ 122) = false := decide_eq_false (by omega); have eC : decide (65 ≤ c) = true := decide_eq_true (by omega); have eD : decide (c ≤ 90) = false := decide_eq_false (by omega); have eE : decide ((i : Int) = 0) = true := decide_eq_true (by omega); simp -implicitDefEqProofs (disch := omega) only [go_sem, ↓reduceIte , Int.toNat_natCast, hb, Int.natCast_nonneg, hcc, wrN, eA, eB, eC, eD, eE]; rw [bad (by simp only [chOK, isLet, isDig, Bool.or_eq_false_iff, Bool.and_eq_false_iff, decide_eq_false_iff_not]; omega)]
        · skip
          have eA : decide (97 ≤ c) = true := decide_eq_true (by omega); have eB : decide (c ≤ 122) = false := decide_eq_false (by omega); have eC : decide (65 ≤ c) = true := decide_eq_true (by omega); have eD : decide (c ≤ 90) = false := decide_eq_false (by omega); have eE : decide ((i : Int) = 0) = false := decide_eq_false (by omega); have eF : decide (c < 48) = false := decide_eq_false (by omega); have eG : decide (57 < c) = true := decide_eq_true (by omega); have eH : decide (c = 95) = false := decide_eq_false (by omega); simp -implicitDefEqProofs (disch := omega) only [go_sem, ↓reduceIte , Int.toNat_natCast, hb, Int.natCast_nonneg, hcc, wrN, eA, eB, eC, eD, eE, eF, eG, eH]; rw [bad (by simp only [chOK, isLet, isDig, Bool.or_eq_false_iff, Bool.and_eq_false_iff, decide_eq_false_iff_not]; omega)]
    · by_cases gC : 65 ≤ c
      · by_cases gD : c ≤ 90
        · skip
          have eA : decide (97 ≤ c) = false := decide_eq_false (by omega); have eC : decide (65 ≤ c) = true := decide_eq_true (by omega); have eD : decide (c ≤ 90) = true := decide_eq_true (by omega); simp -implicitDefEqProofs (disch := omega) only [go_sem, ↓reduceIte , Int.toNat_natCast, hb, Int.natCast_nonneg, hcc, wrN, eA, eC, eD]; obtain ⟨b, k1, k2, rfl⟩ := next (by simp only [chOK, isLet, isDig, Bool.or_eq_true, Bool.and_eq_true, decide_eq_true_eq]; omega)
          exact ⟨_, k1, k2, nleA⟩
        · by_cases gE : i = 0
          · skip
            have eA : decide (97 ≤ c) = false := decide_eq_false (by omega); have eC : decide (65 ≤ c) = true := decide_eq_true (by omega); have eD : decide (c ≤ 90) = false := decide_eq_false (by omega); have eE : decide ((i : Int) = 0) = true := decide_eq_true (by omega); simp -implicitDefEqProofs (disch := omega) only [go_sem, ↓reduceIte , Int.toNat_natCast, hb, Int.natCast_nonneg, hcc, wrN, eA, eC, eD, eE]; rw [bad (by simp only [chOK, isLet, isDig, Bool.or_eq_false_iff, Bool.and_eq_false_iff, decide_eq_false_iff_not]; omega)]
          · by_cases gH : c = 95
            · skip
              have eA : decide (97 ≤ c) = false := decide_eq_false (by omega); have eC : decide (65 ≤ c) = true := decide_eq_true (by omega); have eD : decide (c ≤ 90) = false := decide_eq_false (by omega); have eE : decide ((i : Int) = 0) = false := decide_eq_false (by omega); have eF : decide (c < 48) = false := decide_eq_false (by omega); have eG : decide (57 < c) = true := decide_eq_true (by omega); have eH : decide (c = 95) = true := decide_eq_true (by omega); simp -implicitDefEqProofs (disch := omega) only [go_sem, ↓reduceIte , Int.toNat_natCast, hb, Int.natCast_nonneg, hcc, wrN, eA, eC, eD, eE, eF, eG, eH]; obtain ⟨b, k1, k2, rfl⟩ := next (by simp only [chOK, isLet, isDig, Bool.or_eq_true, Bool.and_eq_true, decide_eq_true_eq]; omega)
              exact ⟨_, k1, k2, nleA⟩
            · skip
              have eA : decide (97 ≤ c) = false := decide_eq_false (by omega); have eC : decide (65 ≤ c) = true := decide_eq_true (by omega); have eD : decide (c ≤ 90) = false := decide_eq_false (by omega); have eE : decide ((i : Int) = 0) = false := decide_eq_false (by omega); have eF : decide (c < 48) = false := decide_eq_false (by omega); have eG : decide (57 < c) = true := decide_eq_true (by omega); have eH : decide (c = 95) = false := decide_eq_false (by omega); simp -implicitDefEqProofs (disch := omega) only [go_sem, ↓reduceIte , Int.toNat_natCast, hb, Int.natCast_nonneg, hcc, wrN, eA, eC, eD, eE, eF, eG, eH]; rw [bad (by simp only [chOK, isLet, isDig, Bool.or_eq_false_iff, Bool.and_eq_false_iff, decide_eq_false_iff_not]; omega)]
      · by_cases gE : i = 0
        · skip
          have eA : decide (97 ≤ c) = false := decide_eq_false (by omega); have eC : decide (65 ≤ c) = false := decide_eq_false (by omega); have eE : decide ((i : Int) = 0) = true := decide_eq_true (by omega); simp -implicitDefEqProofs (disch := omega) only [go_sem, ↓reduceIte , Int.toNat_natCast, hb, Int.natCast_nonneg, hcc, wrN, eA, eC, eE]; rw [bad (by simp only [chOK, isLet, isDig, Bool.or_eq_false_iff, Bool.and_eq_false_iff, decide_eq_false_iff_not]; omega)]
        · by_cases gF : c < 48
          · skip
            have eA : decide (97 ≤ c) = false := decide_eq_false (by omega); have eC : decide (65 ≤ c) = false := decide_eq_false (by omega); have eE : decide ((i : Int) = 0) = false := decide_eq_false (by omega); have eF : decide (c < 48) = true := decide_eq_true (by omega); have eH : decide (c = 95) = false := decide_eq_false (by omega); simp -implicitDefEqProofs (disch := omega) only [go_sem, ↓reduceIte , Int.toNat_natCast, hb, Int.natCast_nonneg, hcc, wrN, eA, eC, eE, eF, eH]; rw [bad (by simp only [chOK, isLet, isDig, Bool.or_eq_false_iff, Bool.and_eq_false_iff, decide_eq_false_iff_not]; omega)]
          · by_cases gG : 57 < c
            · skip
              have eA : decide (97 ≤ c) = false := decide_eq_false (by omega); have eC : decide (65 ≤ c) = false := decide_eq_false (by omega); have eE : decide ((i : Int) = 0) = false := decide_eq_false (by omega); have eF : decide (c < 48) = false := decide_eq_false (by omega); have eG : decide (57 < c) = true := decide_eq_true (by omega); have eH : decide (c = 95) = false := decide_eq_false (by omega); simp -implicitDefEqProofs (disch := omega) only [go_sem, ↓reduceIte , Int.toNat_natCast, hb, Int.natCast_nonneg, hcc, wrN, eA, eC, eE, eF, eG, eH]; rw [bad (by simp only [chOK, isLet, isDig, Bool.or_eq_false_iff, Bool.and_eq_false_iff, decide_eq_false_iff_not]; omega)]
            · skip
              have eA : decide (97 ≤ c) = false := decide_eq_false (by omega); have eC : decide (65 ≤ c) = false := decide_eq_false (by omega); have eE : decide ((i : Int) = 0) = false := decide_eq_false (by omega); have eF : decide (c < 48) = false := decide_eq_false (by omega); have eG : decide (57 < c) = false := decide_eq_false (by omega); simp -implicitDefEqProofs (disch := omega) only [go_sem, ↓reduceIte , Int.toNat_natCast, hb, Int.natCast_nonneg, hcc, wrN, eA, eC, eE, eF, eG]; obtain ⟨b, k1, k2, rfl⟩ := next (by simp only [chOK, isLet, isDig, Bool.or_eq_true, Bool.and_eq_true, decide_eq_true_eq]; omega)
              exact ⟨_, k1, k2, nleA⟩
  · have hlt : i = s.size := (by have : ¬ i < s.size := of_decide_eq_false hlt; omega); subst hlt; simp -implicitDefEqProofs (disch := omega) only [go_sem, ↓reduceIte]; unfold isNameB; rw [ha, Bool.and_true]; refine guard_split ?_ ?_ <;> intro h1
    · have h1' : decide (1 ≤ s.size) = true := decide_eq_true (by have := of_decide_eq_true h1; omega); simp -implicitDefEqProofs (disch := omega) only [go_sem, ↓reduceIte , h1, h1']; have e : decide ((s.size : Int) ≤ 12) = decide (s.size ≤ 12) := (by rw [decide_eq_decide]; omega); rw [e]
    · have h1' : decide (1 ≤ s.size) = false := decide_eq_false (by have := of_decide_eq_false h1; omega); simp -implicitDefEqProofs (disch := omega) only [go_sem, ↓reduceIte , h1, h1']
def code_slices_IndexFunc_int64_int64 : VCode := (.seq (.ops [
  ⟨(some 4), none, (.asg (.const (.int .i64 0)))⟩]) (.seq (.seq (.ops [
  ⟨(some 6), none, (.mv (.tmp 0))⟩,
  ⟨(some 7), none, (.len (.tmp 6))⟩,
  ⟨(some 8), none, (.mv (.const (.int .i64 0)))⟩]) (.block 0 (.loop (mB 19 523900) (.seq (.ops [
  ⟨(some 9), none, (.bin .lss (.tmp 8) (.tmp 7))⟩]) (.seq (.cond (.tmp 9) .skip (.exit 0)) (.seq (.block 1 (.seq (.ops [
  ⟨(some 10), none, (.mv (.tmp 8))⟩,
  ⟨(some 5), none, (.asg (.tmp 10))⟩]) (.seq (.ops [
  ⟨(some 11), none, (.mv (.tmp 1))⟩,
  ⟨(some 12), none, (.mv (.tmp 0))⟩,
  ⟨(some 13), none, (.mv (.tmp 5))⟩,
  ⟨(some 14), none, (.ia 1 (.tmp 12) (.tmp 13))⟩,
  ⟨(some 15), none, (.load 1 false (.tmp 14))⟩,
  ⟨(some 16), none, (.callvX (.tmp 11) [(.tmp 15)])⟩]) (.cond (.tmp 16) (.seq (.ops [
  ⟨(some 17), none, (.mv (.tmp 5))⟩,
  ⟨(some 4), none, (.asg (.tmp 17))⟩]) .ret) .skip)))) (.ops [
  ⟨(some 18), none, (.bin .add (.tmp 8) (.const (.int .i64 1)))⟩,
  ⟨(some 8), none, (.mv (.tmp 18))⟩]))))))) (.seq (.ops [
  ⟨(some 4), none, (.asg (.const (.int .i64 (-1))))⟩]) .ret)))
theorem law_slices_IndexFunc_int64_int64 {a0 a1 d : D} (h : code_slices_IndexFunc_int64_int64.wp (CT Try.prog NoG) (endQ [(.t 4)] d) [a0, a1, .undef, .undef, .undef, .undef, .undef, .undef, .undef, .undef, .undef, .undef, .undef, .undef, .undef, .undef, .undef, .undef, .undef]) : Contract Try.prog NoG 99 [a0, a1] d :=
  contract_of (pt := 0) noG Try.func99 (fun us W => by kernel_rfl) (c := Try.f99.body.getD .skip) (ms := [(mB 19 523900)]) (ms' := []) (by kernel_rfl) (by kernel_rfl) (by kernel_rfl) h
theorem v_IndexFunc_Int64 (f : FuncId) (caps : List D) (hd : CapsOK caps) (xs : List Int) (p : Int → Bool) (hc : ∀ x, x ∈ xs → Contract Try.prog NoG f (.v (.int .i64 x) :: caps) (.v (.bool (p x)))) (hn : xs.length ≤ 1099511627776) :
    Contract Try.prog NoG 99 [.sl false 1 (xs.map (rI)), .fn f [] caps] (.v (.int .i64 (vIdx p xs))) := by
  refine law_slices_IndexFunc_int64_int64 ?_; unfold code_slices_IndexFunc_int64_int64; simp -implicitDefEqProofs (disch := omega) only [go_sem, ↓reduceIte , hd.owny, hd.pr]; refine loop_st (fun i : Nat => [.sl false 1 (xs.map (rI)), .fn f [] caps, .undef, .undef, .undef, .undef, .undef, .v (.int .i64 (xs.map (rI)).length), .v (.int .i64 i), .undef, .undef, .undef, .undef, .undef, .undef, .undef, .undef, .undef, .undef]) (fun i => i ≤ xs.length ∧ ∀ j (hj : j < xs.length), j < i → p xs[j] = false) (fun i => xs.length - i) 0 ?_ ⟨Nat.zero_le _, fun j _ h => absurd h (Nat.not_lt_zero _)⟩ ?_
  · simp -implicitDefEqProofs (disch := omega) only [go_sem, ↓reduceIte , hd.owny, hd.pr]
    (try simp -implicitDefEqProofs only [nleL_cc, nleL_nn, nle_self, nle_boxs, nle_aggs, nle_nils, and_self, and_true, true_and]) <;> repeat' (first | exact nle_of_eq rfl | exact nle_nil | apply And.intro | apply nle_sl | apply nleLL_cons | apply nleL_cons | exact nleL_nil | exact nleLL_nil | apply nle_box | apply nle_agg)
  rintro i ⟨hi, ha⟩; simp -implicitDefEqProofs (disch := omega) only [go_sem, ↓reduceIte , List.length_map, Int.toNat_natCast, Int.ofNat_lt, Int.natCast_nonneg, List.getElem?_map, Option.map_some, hd.owny, hd.pr]; refine cond_split ?_ ?_ <;> intro hlt
  · have hlt : i < xs.length := (by simpa using hlt); have hx := List.getElem?_eq_getElem hlt; simp -implicitDefEqProofs (disch := omega) only [go_sem, ↓reduceIte , List.length_map, Int.toNat_natCast, Int.ofNat_lt, Int.natCast_nonneg, List.getElem?_map, Option.map_some, hlt, hx, hd.owny, hd.pr]; have hcx := hc _ (List.getElem_mem hlt); refine callv_le (f := f) (first := []) (caps := caps) ?_ hcx ?_ (.inl rfl) ?_
    · simp -implicitDefEqProofs (disch := omega) only [go_sem, ↓reduceIte , hd.owny]
    · refine leL_of_eq ?_; simp only [List.nil_append, List.cons_append, List.map_cons, List.map_nil, hd.d8, List.map_append]; simp only [deep, raw, List.getElem?_cons_succ, List.getElem?_cons_zero, List.map_cons, List.map_nil, TD.rows, immLL_rI, immLL_rB8, immLL_rS, immLL_rBo]
    simp -implicitDefEqProofs (disch := omega) only [go_sem, ↓reduceIte , hd.owny, hd.pr]; refine cond_split ?_ ?_ <;> intro hp
    · simp -implicitDefEqProofs (disch := omega) only [go_sem, ↓reduceIte , hd.owny, hd.pr]; rw [vIdx_hit p xs i hlt ha hp]
    · simp -implicitDefEqProofs (disch := omega) only [go_sem, ↓reduceIte , wrN, hd.owny, hd.pr]; refine ⟨i + 1, by omega, ⟨hlt, fun j hj h => ?_⟩, nleA⟩; rcases Nat.lt_or_ge j i with h' | h'
      · exact ha j hj h'
      · have : j = i := (by omega); subst this; exact hp
  · have hlt : ¬ i < xs.length := (by simpa using hlt); simp -implicitDefEqProofs (disch := omega) only [go_sem, ↓reduceIte]; rw [vIdx_miss p xs (fun j hj => ha j hj (by omega))]
def code_slices_ContainsFunc_int64_int64 : VCode := (.seq (.ops [
  ⟨(some 4), none, (.asg (.const (.bool false)))⟩]) (.seq (.ops [
  ⟨(some 5), none, (.mv (.tmp 0))⟩,
  ⟨(some 6), none, (.mv (.tmp 1))⟩,
  ⟨(some 7), none, (.callX 99 [(.tmp 5), (.tmp 6)])⟩,
  ⟨(some 8), none, (.bin .geq (.tmp 7) (.const (.int .i64 0)))⟩,
  ⟨(some 4), none, (.asg (.tmp 8))⟩]) .ret))
theorem law_slices_ContainsFunc_int64_int64 {a0 a1 d : D} (h : code_slices_ContainsFunc_int64_int64.wp (CT Try.prog NoG) (endQ [(.t 4)] d) [a0, a1, .undef, .undef, .undef, .undef, .undef, .undef, .undef]) : Contract Try.prog NoG 73 [a0, a1] d :=
  contract_of (pt := 0) noG Try.func73 (fun us W => by kernel_rfl) (c := Try.f73.body.getD .skip) (ms := []) (ms' := []) (by kernel_rfl) (by kernel_rfl) (by kernel_rfl) h
theorem v_ContainsFunc_Int64 (f : FuncId) (caps : List D) (hd : CapsOK caps) (xs : List Int) (p : Int → Bool) (hc : ∀ x, x ∈ xs → Contract Try.prog NoG f (.v (.int .i64 x) :: caps) (.v (.bool (p x)))) (hn : xs.length ≤ 1099511627776) :
    Contract Try.prog NoG 73 [.sl false 1 (xs.map (rI)), .fn f [] caps] (.v (.bool (xs.any p))) := by
  refine law_slices_ContainsFunc_int64_int64 ?_; unfold code_slices_ContainsFunc_int64_int64; simp -implicitDefEqProofs (disch := omega) only [go_sem, ↓reduceIte , hd.owny, hd.pr]; refine call_le (v_IndexFunc_Int64 f caps hd xs p hc hn) ?_ (.inl rfl) ?_
  · refine leL_of_eq ?_; simp only [List.map_cons, List.map_nil, deep, raw, List.getElem?_cons_succ, List.getElem?_cons_zero, TD.rows, immLL_rI, immLL_rB8, immLL_rS, immLL_rBo, hd.owny, hd.pr, hd.d7]
    try rfl
  simp -implicitDefEqProofs (disch := omega) only [go_sem, ↓reduceIte]; exact congrArg Value.bool (vIdx_any p xs)
def code_slices_Clone_int64_int64 : VCode := (.seq (.ops [
  ⟨(some 2), none, (.asg (.const (.slice none 0 0)))⟩]) (.seq (.seq (.ops [
  ⟨(some 3), none, (.mv (.tmp 0))⟩,
  ⟨(some 4), none, (.isnil false (.tmp 3))⟩]) (.cond (.tmp 4) (.seq (.ops [
  ⟨(some 2), none, (.asg (.const (.slice none 0 0)))⟩]) .ret) .skip)) (.seq (.ops [
  ⟨(some 5), none, (.bsl 1 [])⟩,
  ⟨(some 6), none, (.mv (.tmp 0))⟩,
  ⟨(some 7), none, (.app 1 8 (.tmp 5) (.tmp 6))⟩,
  ⟨(some 2), none, (.asg (.tmp 7))⟩]) .ret)))
theorem law_slices_Clone_int64_int64 {a0 d : D} (h : code_slices_Clone_int64_int64.wp (CT Try.prog NoG) (endQ [(.t 2)] d) [a0, .undef, .undef, .undef, .undef, .undef, .undef, .undef]) : Contract Try.prog NoG 76 [a0] d :=
  contract_of (pt := 0) noG Try.func76 (fun us W => by kernel_rfl) (c := Try.f76.body.getD .skip) (ms := []) (ms' := []) (by kernel_rfl) (by kernel_rfl) (by kernel_rfl) h
theorem v_Clone_Int64 (xs : List Int) (hn : xs.length ≤ 1048576) : Contract Try.prog NoG 76 [.sl false 1 (xs.map rI)] (.sl true 1 (xs.map rI)) := by
  refine law_slices_Clone_int64_int64 ?_; unfold code_slices_Clone_int64_int64; simp -implicitDefEqProofs (disch := omega) only [go_sem, ↓reduceIte]; refine isnil_intro (fun b hb => ?_); simp -implicitDefEqProofs (disch := omega) only [go_sem, ↓reduceIte]; refine cond_split ?_ ?_ <;> intro h
  · simp -implicitDefEqProofs (disch := omega) only [go_sem, ↓reduceIte]; exact hb (by rw [h]; rfl)
  · simp -implicitDefEqProofs (disch := omega) only [go_sem, ↓reduceIte , List.length_map]
    first | omega | exact ⟨by omega, rfl⟩
def code_spec_l00Own : VCode := (.seq (.ops [
  ⟨(some 2), none, (.asg (.const (.slice none 0 0)))⟩]) (.seq (.ops [
  ⟨(some 3), none, (.bsl 1 [])⟩,
  ⟨(some 4), none, (.mv (.tmp 0))⟩,
  ⟨(some 5), none, (.app 1 8 (.tmp 3) (.tmp 4))⟩,
  ⟨(some 2), none, (.asg (.tmp 5))⟩]) .ret))
theorem law_spec_l00Own {a0 d : D} (h : code_spec_l00Own.wp (CT Try.prog NoG) (endQ [(.t 2)] d) [a0, .undef, .undef, .undef, .undef, .undef]) : Contract Try.prog NoG 58 [a0] d :=
  contract_of (pt := 0) noG Try.func58 (fun us W => by kernel_rfl) (c := Try.f58.body.getD .skip) (ms := []) (ms' := []) (by kernel_rfl) (by kernel_rfl) (by kernel_rfl) h
theorem v_l00Own (xs : List Int) (hn : xs.length ≤ 1048576) : Contract Try.prog NoG 58 [.sl false 1 (xs.map rI)] (.sl true 1 (xs.map rI)) := by refine law_spec_l00Own ?_; unfold code_spec_l00Own; simp -implicitDefEqProofs (disch := omega) only [go_sem, ↓reduceIte , List.length_map]; omega
theorem isCall {C : CtrT} {s : List D} {f : FuncId} {l : List Operand} {K : D → List D → Prop} (h : evalK C s (.callX f l) K) : evalK C s (.callX f l) K := h
structure Src where
  code : List Int
  pos : Nat
  seed : Int
def Src.d (s : Src) : List D := [.sl false 1 (s.code.map rB8), .v (.int .i64 (s.pos : Nat)), .v (.int .u64 s.seed)]
def srcB (s : Src) : Int := if s.pos < s.code.length then IntKind.i64.wrap (s.code.getD s.pos 0) else 0
def srcSeed (s : Src) : Int := IntKind.u64.wrap (IntKind.u64.wrap (IntKind.u64.wrap (s.seed * 6364136223846793005) + IntKind.u64.wrap (srcB s)) + 1442695040888963407)
def lowB (x : Int) : Int := IntKind.i64.wrap (IntKind.u64.wrap ((BitVec.ofInt IntKind.u64.bits (x.fdiv (2 ^ min (Int.toNat 40) IntKind.u64.bits)) &&& BitVec.ofInt IntKind.u64.bits 255).toNat))
def srcV (s : Src) : Int := if s.pos < s.code.length then srcB s else lowB (srcSeed s)
def srcN (s : Src) : Src := ⟨s.code, s.pos + 1, srcSeed s⟩
structure SrcB (k : Nat) (s : Src) : Prop where
  code : ∀ x, x ∈ s.code → 0 ≤ x ∧ x ≤ 255
  len : s.code.length ≤ 1048576
  pos : s.pos + k ≤ 4611686018427387904
theorem SrcB.mono {k l : Nat} {s : Src} (h : SrcB k s) (hl : l ≤ k) : SrcB l s := ⟨h.code, h.len, by have := h.pos; omega⟩
theorem SrcB.next {k : Nat} {s : Src} (h : SrcB (k + 1) s) : SrcB k (srcN s) := ⟨h.code, h.len, by have := h.pos; simp only [srcN]; omega⟩
theorem srcB_in {k : Nat} {s : Src} (h : SrcB k s) : 0 ≤ srcB s ∧ srcB s ≤ 255 := by
  unfold srcB; split
  · rename_i hl; have := h.code (s.code.getD s.pos 0) (by rw [List.getD_eq_getElem?_getD, List.getElem?_eq_getElem hl]; exact List.getElem_mem hl); rw [wrI (by omega) (by omega)]; exact this
  · omega
theorem lowB_in (x : Int) : 0 ≤ lowB x ∧ lowB x ≤ 255 := by
  unfold lowB; have h1 : (BitVec.ofInt IntKind.u64.bits (x.fdiv (2 ^ min (Int.toNat 40) IntKind.u64.bits)) &&& BitVec.ofInt IntKind.u64.bits 255).toNat ≤ 255 := by rw [BitVec.toNat_and]; exact Nat.and_le_right
  generalize (BitVec.ofInt IntKind.u64.bits (x.fdiv (2 ^ min (Int.toNat 40) IntKind.u64.bits)) &&& BitVec.ofInt IntKind.u64.bits 255).toNat = n at h1; have h2 : IntKind.u64.wrap (n : Int) = (n : Int) := by simp only [IntKind.wrap, IntKind.bits, IntKind.signed]; simp; omega
  rw [h2, wrI (by omega) (by omega)]; omega
theorem srcV_in {k : Nat} {s : Src} (h : SrcB k s) : 0 ≤ srcV s ∧ srcV s ≤ 255 := by
  unfold srcV; split
  · exact srcB_in h
  · exact lowB_in _
def code_spec_l00Src_next : VCode := (.seq (.ops [
  ⟨(some 2), none, (.asg (.const (.int .i64 0)))⟩]) (.seq (.ops [
  ⟨(some 3), none, (.asg (.const (.int .i64 0)))⟩]) (.seq (.seq (.draw (mB 13 8176) [] [⟨0, (mB 13 8176), [], ⟨(some 4), none, (.mv (.tmp 0))⟩⟩, ⟨1, (mB 13 8160), [], ⟨(some 5), none, (.nilc (.tmp 4))⟩⟩, ⟨2, (mB 13 8128), [], ⟨(some 6), none, (.fa 1 (.tmp 5))⟩⟩, ⟨3, (mB 13 8064), [], ⟨(some 7), none, (.load 1 false (.tmp 6))⟩⟩, ⟨4, (mB 13 8176), [], ⟨(some 8), none, (.mv (.tmp 0))⟩⟩, ⟨5, (mB 13 7920), [], ⟨(some 9), none, (.nilc (.tmp 8))⟩⟩, ⟨6, (mB 13 7408), [], ⟨(some 10), none, (.fa 0 (.tmp 9))⟩⟩, ⟨7, (mB 13 6384), [], ⟨(some 11), none, (.load 1 false (.tmp 10))⟩⟩, ⟨8, (mB 13 4336), [], ⟨(some 12), none, (.len (.tmp 11))⟩⟩] [⟨(some 13), none, (.bin .lss (.tmp 7) (.tmp 12))⟩]) (.cond (.tmp 13) (.draw (mB 22 4177920) [] [⟨0, (mB 22 4177920), [], ⟨(some 14), none, (.mv (.tmp 0))⟩⟩, ⟨1, (mB 22 4161536), [], ⟨(some 15), none, (.nilc (.tmp 14))⟩⟩, ⟨2, (mB 22 4128768), [], ⟨(some 16), none, (.fa 0 (.tmp 15))⟩⟩, ⟨3, (mB 22 4063232), [], ⟨(some 17), none, (.load 1 false (.tmp 16))⟩⟩, ⟨4, (mB 22 4177920), [], ⟨(some 18), none, (.mv (.tmp 0))⟩⟩, ⟨5, (mB 22 3915776), [], ⟨(some 19), none, (.nilc (.tmp 18))⟩⟩, ⟨6, (mB 22 3391488), [], ⟨(some 20), none, (.fa 1 (.tmp 19))⟩⟩, ⟨7, (mB 22 2342912), [], ⟨(some 21), none, (.load 1 false (.tmp 20))⟩⟩] [⟨(some 22), none, (.ia 1 (.tmp 17) (.tmp 21))⟩, ⟨(some 23), none, (.load 1 false (.tmp 22))⟩, ⟨(some 24), none, (.conv .i64 (.tmp 23))⟩, ⟨(some 3), none, (.asg (.tmp 24))⟩]) .skip)) (.seq (.ops [
  ⟨(some 25), none, (.mv (.tmp 0))⟩,
  ⟨(some 26), none, (.nilc (.tmp 25))⟩,
  ⟨(some 27), none, (.fa 1 (.tmp 26))⟩,
  ⟨(some 28), none, (.load 1 false (.tmp 27))⟩,
  ⟨(some 29), none, (.bin .add (.tmp 28) (.const (.int .i64 1)))⟩,
  ⟨(some 30), none, (.nilc (.tmp 25))⟩,
  ⟨(some 31), none, (.fa 1 (.tmp 30))⟩,
  ⟨none, none, (.store 1 (.tmp 31) (.tmp 29))⟩]) (.seq (.ops [
  ⟨(some 32), none, (.mv (.tmp 0))⟩,
  ⟨(some 33), none, (.mv (.tmp 0))⟩,
  ⟨(some 34), none, (.nilc (.tmp 33))⟩,
  ⟨(some 35), none, (.fa 2 (.tmp 34))⟩,
  ⟨(some 36), none, (.load 1 false (.tmp 35))⟩,
  ⟨(some 37), none, (.bin .mul (.tmp 36) (.const (.int .u64 6364136223846793005)))⟩,
  ⟨(some 38), none, (.mv (.tmp 3))⟩,
  ⟨(some 39), none, (.conv .u64 (.tmp 38))⟩,
  ⟨(some 40), none, (.bin .add (.tmp 37) (.tmp 39))⟩,
  ⟨(some 41), none, (.bin .add (.tmp 40) (.const (.int .u64 1442695040888963407)))⟩,
  ⟨(some 42), none, (.nilc (.tmp 32))⟩,
  ⟨(some 43), none, (.fa 2 (.tmp 42))⟩,
  ⟨none, none, (.store 1 (.tmp 43) (.tmp 41))⟩]) (.seq (.seq (.draw (mB 53 8989607068696576) [] [⟨0, (mB 53 8989607068696576), [], ⟨(some 44), none, (.mv (.tmp 0))⟩⟩, ⟨1, (mB 53 8972014882652160), [], ⟨(some 45), none, (.nilc (.tmp 44))⟩⟩, ⟨2, (mB 53 8936830510563328), [], ⟨(some 46), none, (.fa 1 (.tmp 45))⟩⟩, ⟨3, (mB 53 8866461766385664), [], ⟨(some 47), none, (.load 1 false (.tmp 46))⟩⟩, ⟨4, (mB 53 8989607068696576), [], ⟨(some 48), none, (.mv (.tmp 0))⟩⟩, ⟨5, (mB 53 8708132091985920), [], ⟨(some 49), none, (.nilc (.tmp 48))⟩⟩, ⟨6, (mB 53 8145182138564608), [], ⟨(some 50), none, (.fa 0 (.tmp 49))⟩⟩, ⟨7, (mB 53 7019282231721984), [], ⟨(some 51), none, (.load 1 false (.tmp 50))⟩⟩, ⟨8, (mB 53 4767482418036736), [], ⟨(some 52), none, (.len (.tmp 51))⟩⟩] [⟨(some 53), none, (.bin .leq (.tmp 47) (.tmp 52))⟩]) (.cond (.tmp 53) (.seq (.ops [
  ⟨(some 54), none, (.mv (.tmp 3))⟩,
  ⟨(some 2), none, (.asg (.tmp 54))⟩]) .ret) .skip)) (.seq (.ops [
  ⟨(some 55), none, (.mv (.tmp 0))⟩,
  ⟨(some 56), none, (.nilc (.tmp 55))⟩,
  ⟨(some 57), none, (.fa 2 (.tmp 56))⟩,
  ⟨(some 58), none, (.load 1 false (.tmp 57))⟩,
  ⟨(some 59), none, (.bin .shr (.tmp 58) (.const (.int .u64 40)))⟩,
  ⟨(some 60), none, (.bin .and (.tmp 59) (.const (.int .u64 255)))⟩,
  ⟨(some 61), none, (.conv .i64 (.tmp 60))⟩,
  ⟨(some 2), none, (.asg (.tmp 61))⟩]) .ret)))))))
theorem law_spec_l00Src_next {a0 d : D} {cells cells' : List D} (h : ∀ b, code_spec_l00Src_next.wp (CT Try.prog NoG) (endX [(.t 2)] d 0 b cells') [.box (some b) cells, .undef, .undef, .undef, .undef, .undef, .undef, .undef, .undef, .undef, .undef, .undef, .undef, .undef, .undef, .undef, .undef, .undef, .undef, .undef, .undef, .undef, .undef, .undef, .undef, .undef, .undef, .undef, .undef, .undef, .undef, .undef, .undef, .undef, .undef, .undef, .undef, .undef, .undef, .undef, .undef, .undef, .undef, .undef, .undef, .undef, .undef, .undef, .undef, .undef, .undef, .undef, .undef, .undef, .undef, .undef, .undef, .undef, .undef, .undef, .undef, .undef]) : ContractX Try.prog NoG 71 0 [a0] cells d cells' :=
  contract_ofX (pt := 0) noG Try.func71 (fun us W => by kernel_rfl) (c := Try.f71.body.getD .skip) (ms := []) (ms' := []) (by kernel_rfl) (by kernel_rfl) (by kernel_rfl) (by simp) h
def code_spec_l00From : VCode := (.seq (.ops [
  ⟨(some 2), none, (.asg (.const (.pointer none)))⟩]) (.seq (.ops [
  ⟨(some 3), none, (.mv (.tmp 0))⟩,
  ⟨(some 4), none, (.build [(.slice none 0 0), (.int .i64 0), (.int .u64 0)] [(0, 1, (.tmp 3))])⟩,
  ⟨(some 5), none, (.box (.tmp 4))⟩,
  ⟨(some 2), none, (.asg (.tmp 5))⟩]) .ret))
theorem law_spec_l00From {a0 d : D} (h : code_spec_l00From.wp (CT Try.prog NoG) (endQ [(.t 2)] d) [a0, .undef, .undef, .undef, .undef, .undef]) : Contract Try.prog NoG 28 [a0] d :=
  contract_of (pt := 0) noG Try.func28 (fun us W => by kernel_rfl) (c := Try.f28.body.getD .skip) (ms := []) (ms' := []) (by kernel_rfl) (by kernel_rfl) (by kernel_rfl) h
set_option maxHeartbeats 1000000 in
theorem v_next (s : Src) (hs : SrcB 1 s) : ContractX Try.prog NoG 71 0 [.undef] s.d (.v (.int .i64 (srcV s))) (srcN s).d := by
  refine law_spec_l00Src_next ?_; intro b; unfold code_spec_l00Src_next Src.d; have hp := hs.pos; have hl := hs.len; have w1 : IntKind.i64.wrap ((s.pos : Int) + 1) = ((s.pos + 1 : Nat) : Int) := by rw [wrI (by omega) (by omega)]; omega
  by_cases h : s.pos < s.code.length
  · have d1 : decide ((s.pos : Int) < (s.code.length : Int)) = true := (by rw [decide_eq_true_eq]; omega); have d2 : decide (((s.pos + 1 : Nat) : Int) ≤ (s.code.length : Int)) = true := (by rw [decide_eq_true_eq]; omega); have e1 := List.getElem?_eq_getElem h; have hb : srcB s = IntKind.i64.wrap s.code[s.pos] := (by unfold srcB; rw [if_pos h, List.getD_eq_getElem?_getD, e1]; rfl); have hv : srcV s = IntKind.i64.wrap s.code[s.pos] := (by unfold srcV; rw [if_pos h, hb]); have hn : srcN s = ⟨s.code, s.pos + 1, IntKind.u64.wrap (IntKind.u64.wrap (IntKind.u64.wrap (s.seed * 6364136223846793005) + IntKind.u64.wrap (IntKind.i64.wrap s.code[s.pos])) + 1442695040888963407)⟩ := (by unfold srcN srcSeed; rw [hb]); rw [hv, hn]; simp -implicitDefEqProofs (disch := omega) only [go_sem, ↓reduceIte , List.length_map, d1, List.length_map, Int.toNat_natCast, Int.ofNat_lt, Int.natCast_nonneg, List.getElem?_map, Option.map_some, h, e1, w1, d2]
  · have d1 : decide ((s.pos : Int) < (s.code.length : Int)) = false := (by rw [decide_eq_false_iff_not]; omega); have d2 : decide (((s.pos + 1 : Nat) : Int) ≤ (s.code.length : Int)) = false := (by rw [decide_eq_false_iff_not]; omega); have hb : srcB s = 0 := (by unfold srcB; rw [if_neg h]); have hv : srcV s = lowB (srcSeed s) := (by unfold srcV; rw [if_neg h]); have hn : srcN s = ⟨s.code, s.pos + 1, IntKind.u64.wrap (IntKind.u64.wrap (IntKind.u64.wrap (s.seed * 6364136223846793005) + IntKind.u64.wrap 0) + 1442695040888963407)⟩ := (by unfold srcN srcSeed; rw [hb]); have hq : srcSeed s = IntKind.u64.wrap (IntKind.u64.wrap (IntKind.u64.wrap (s.seed * 6364136223846793005) + IntKind.u64.wrap 0) + 1442695040888963407) := (by unfold srcSeed; rw [hb]); rw [hv, hn, hq]; unfold lowB; simp -implicitDefEqProofs (disch := omega) only [go_sem, ↓reduceIte , List.length_map, d1, w1, d2]; omega
theorem v_l00From (code : List Int) : Contract Try.prog NoG 28 [.sl false 1 (code.map rB8)] (.box none (Src.d ⟨code, 0, 0⟩)) := by refine law_spec_l00From ?_; unfold code_spec_l00From Src.d; simp -implicitDefEqProofs (disch := omega) only [go_sem, ↓reduceIte]; rfl
def pickV (s : Src) (n : Int) : Int := if n ≤ 1 then 0 else if 200 < n then (srcV s * 256 + srcV (srcN s)).tmod n else (srcV s).tmod n
def pickN (s : Src) (n : Int) : Src := if n ≤ 1 then s else if 200 < n then srcN (srcN s) else srcN s
theorem SrcB.pick {k : Nat} {s : Src} (h : SrcB (k + 2) s) (n : Int) : SrcB k (pickN s n) := by
  unfold pickN; split
  · exact h.mono (by omega)
  · split
    · exact h.next.next
    · exact h.next.mono (by omega)
theorem pickV_in {k : Nat} {s : Src} (h : SrcB (k + 2) s) {n : Int} (hn : 1 ≤ n) : 0 ≤ pickV s n ∧ pickV s n < n := by
  have h1 := srcV_in h; have h2 := srcV_in h.next; have key : ∀ x : Int, 0 ≤ x → 0 ≤ x.tmod n ∧ x.tmod n < n := fun x hx => by rw [Int.tmod_eq_emod_of_nonneg hx]; exact ⟨Int.emod_nonneg _ (by omega), Int.emod_lt_of_pos _ (by omega)⟩
  unfold pickV; split
  · omega
  · split
    · exact key _ (by omega)
    · exact key _ h1.1
def code_spec_l00Src_pick : VCode := (.seq (.ops [
  ⟨(some 4), none, (.asg (.const (.int .i64 0)))⟩]) (.seq (.seq (.ops [
  ⟨(some 6), none, (.mv (.tmp 1))⟩,
  ⟨(some 7), none, (.bin .leq (.tmp 6) (.const (.int .i64 1)))⟩]) (.cond (.tmp 7) (.seq (.ops [
  ⟨(some 4), none, (.asg (.const (.int .i64 0)))⟩]) .ret) .skip)) (.seq (.ops [
  ⟨(some 8), none, (.mv (.tmp 0))⟩,
  ⟨(some 9), none, (.callX 71 [(.tmp 8)])⟩,
  ⟨(some 5), none, (.asg (.tmp 9))⟩]) (.seq (.seq (.ops [
  ⟨(some 10), none, (.mv (.tmp 1))⟩,
  ⟨(some 11), none, (.bin .gtr (.tmp 10) (.const (.int .i64 200)))⟩]) (.cond (.tmp 11) (.ops [
  ⟨(some 12), none, (.mv (.tmp 5))⟩,
  ⟨(some 13), none, (.bin .mul (.tmp 12) (.const (.int .i64 256)))⟩,
  ⟨(some 14), none, (.mv (.tmp 0))⟩,
  ⟨(some 15), none, (.callX 71 [(.tmp 14)])⟩,
  ⟨(some 16), none, (.bin .add (.tmp 13) (.tmp 15))⟩,
  ⟨(some 5), none, (.asg (.tmp 16))⟩]) .skip)) (.seq (.ops [
  ⟨(some 17), none, (.mv (.tmp 5))⟩,
  ⟨(some 18), none, (.mv (.tmp 1))⟩,
  ⟨(some 19), none, (.bin .rem (.tmp 17) (.tmp 18))⟩,
  ⟨(some 4), none, (.asg (.tmp 19))⟩]) .ret)))))
theorem law_spec_l00Src_pick {a0 a1 d : D} {cells cells' : List D} (h : ∀ b, code_spec_l00Src_pick.wp (CT Try.prog NoG) (endX [(.t 4)] d 0 b cells') [.box (some b) cells, a1, .undef, .undef, .undef, .undef, .undef, .undef, .undef, .undef, .undef, .undef, .undef, .undef, .undef, .undef, .undef, .undef, .undef, .undef]) : ContractX Try.prog NoG 30 0 [a0, a1] cells d cells' :=
  contract_ofX (pt := 0) noG Try.func30 (fun us W => by kernel_rfl) (c := Try.f30.body.getD .skip) (ms := []) (ms' := []) (by kernel_rfl) (by kernel_rfl) (by kernel_rfl) (by simp) h
set_option maxHeartbeats 1000000 in
theorem v_pick (s : Src) (n : Int) (hs : SrcB 2 s) : ContractX Try.prog NoG 30 0 [.undef, .v (.int .i64 n)] s.d (.v (.int .i64 (pickV s n))) (pickN s n).d := by
  refine law_spec_l00Src_pick ?_; intro b; unfold code_spec_l00Src_pick; have h1 := srcV_in hs; have h2 := srcV_in hs.next; by_cases hn : n ≤ 1
  · have d1 : decide (n ≤ 1) = true := decide_eq_true hn; have e1 : pickV s n = 0 := (by unfold pickV; rw [if_pos hn]); have e2 : pickN s n = s := (by unfold pickN; rw [if_pos hn]); rw [e1, e2]; unfold Src.d; simp -implicitDefEqProofs (disch := omega) only [go_sem, ↓reduceIte , d1]
  · have d1 : decide (n ≤ 1) = false := decide_eq_false hn; have d0 : n ≠ 0 := (by omega); by_cases h200 : 200 < n
    · have d2 : decide (200 < n) = true := decide_eq_true h200; have e1 : pickV s n = (srcV s * 256 + srcV (srcN s)).tmod n := (by unfold pickV; rw [if_neg hn, if_pos h200]); have e2 : pickN s n = srcN (srcN s) := (by unfold pickN; rw [if_neg hn, if_pos h200]); have w1 : IntKind.i64.wrap (srcV s * 256) = srcV s * 256 := wrI (by omega) (by omega); have w2 : IntKind.i64.wrap (srcV s * 256 + srcV (srcN s)) = srcV s * 256 + srcV (srcN s) := wrI (by omega) (by omega); rw [e1, e2]; simp only [Src.d]; simp -implicitDefEqProofs (disch := omega) only [go_sem, ↓reduceIte , d1]; refine call_ioA (i := 0) (r := 0) (v_next s (hs.mono (by omega))) rfl rfl (by simp -implicitDefEqProofs (disch := omega) only [go_sem, ↓reduceIte, deep, TD.rows, immLL_rI, immLL_rB8, immLL_rS, immLL_rBo, immLL_rII, immLL_rIIt, Src.d, d2, w1]; exact rfl) (by repeat (first | exact leL_nil | refine leL_cons ?_ ?_ | exact le_of_eq rfl | exact le_iptrN (leL_of_eq rfl) | refine le_agg ?_ | exact le_slf rfl (TD.rows ..) | refine le_iptr ?_ | refine le_fn ?_ ?_ | exact le_nilsl_)) (by repeat (first | exact leL_nil | refine leL_cons ?_ ?_ | exact le_of_eq rfl | exact le_iptrN (leL_of_eq rfl) | refine le_agg ?_ | exact le_slf rfl (TD.rows ..) | refine le_iptr ?_ | refine le_fn ?_ ?_ | exact le_nilsl_)) (by first | exact .inr rfl | exact .inl ⟨rfl, rfl⟩ | exact .inl ⟨by simp only [D.noImm, noImmL, go_sem, TD.nims, TD.nim], by simp only [D.noImm, noImmL, go_sem, TD.nims, TD.nim, nim_rI, nim_rB8, nim_rBo, nim_rS]⟩) ?_; simp -implicitDefEqProofs (disch := omega) only [go_sem, ↓reduceIte , Src.d, d2, w1]; refine call_ioA (i := 0) (r := 0) (v_next (srcN s) hs.next) rfl rfl (by simp -implicitDefEqProofs (disch := omega) only [go_sem, ↓reduceIte, deep, TD.rows, immLL_rI, immLL_rB8, immLL_rS, immLL_rBo, immLL_rII, immLL_rIIt, Src.d, w2, d0]; exact rfl) (by repeat (first | exact leL_nil | refine leL_cons ?_ ?_ | exact le_of_eq rfl | exact le_iptrN (leL_of_eq rfl) | refine le_agg ?_ | exact le_slf rfl (TD.rows ..) | refine le_iptr ?_ | refine le_fn ?_ ?_ | exact le_nilsl_)) (by repeat (first | exact leL_nil | refine leL_cons ?_ ?_ | exact le_of_eq rfl | exact le_iptrN (leL_of_eq rfl) | refine le_agg ?_ | exact le_slf rfl (TD.rows ..) | refine le_iptr ?_ | refine le_fn ?_ ?_ | exact le_nilsl_)) (by first | exact .inr rfl | exact .inl ⟨rfl, rfl⟩ | exact .inl ⟨by simp only [D.noImm, noImmL, go_sem, TD.nims, TD.nim], by simp only [D.noImm, noImmL, go_sem, TD.nims, TD.nim, nim_rI, nim_rB8, nim_rBo, nim_rS]⟩) ?_; simp -implicitDefEqProofs (disch := omega) only [go_sem, ↓reduceIte , Src.d, w2, d0]
    · have d2 : decide (200 < n) = false := decide_eq_false h200; have e1 : pickV s n = (srcV s).tmod n := (by unfold pickV; rw [if_neg hn, if_neg h200]); have e2 : pickN s n = srcN s := (by unfold pickN; rw [if_neg hn, if_neg h200]); rw [e1, e2]; simp only [Src.d]; simp -implicitDefEqProofs (disch := omega) only [go_sem, ↓reduceIte , d1]; refine call_ioA (i := 0) (r := 0) (v_next s (hs.mono (by omega))) rfl rfl (by simp -implicitDefEqProofs (disch := omega) only [go_sem, ↓reduceIte, deep, TD.rows, immLL_rI, immLL_rB8, immLL_rS, immLL_rBo, immLL_rII, immLL_rIIt, Src.d, d2, d0]; exact rfl) (by repeat (first | exact leL_nil | refine leL_cons ?_ ?_ | exact le_of_eq rfl | exact le_iptrN (leL_of_eq rfl) | refine le_agg ?_ | exact le_slf rfl (TD.rows ..) | refine le_iptr ?_ | refine le_fn ?_ ?_ | exact le_nilsl_)) (by repeat (first | exact leL_nil | refine leL_cons ?_ ?_ | exact le_of_eq rfl | exact le_iptrN (leL_of_eq rfl) | refine le_agg ?_ | exact le_slf rfl (TD.rows ..) | refine le_iptr ?_ | refine le_fn ?_ ?_ | exact le_nilsl_)) (by first | exact .inr rfl | exact .inl ⟨rfl, rfl⟩ | exact .inl ⟨by simp only [D.noImm, noImmL, go_sem, TD.nims, TD.nim], by simp only [D.noImm, noImmL, go_sem, TD.nims, TD.nim, nim_rI, nim_rB8, nim_rBo, nim_rS]⟩) ?_; simp -implicitDefEqProofs (disch := omega) only [go_sem, ↓reduceIte , Src.d, d2, d0]
def oneV (s : Src) (n : Int) : Bool := decide (pickV s n = 0)
def code_spec_l00Src_one : VCode := (.seq (.ops [
  ⟨(some 4), none, (.asg (.const (.bool false)))⟩]) (.seq (.ops [
  ⟨(some 5), none, (.mv (.tmp 0))⟩,
  ⟨(some 6), none, (.mv (.tmp 1))⟩,
  ⟨(some 7), none, (.callX 30 [(.tmp 5), (.tmp 6)])⟩,
  ⟨(some 8), none, (.bin .eql (.tmp 7) (.const (.int .i64 0)))⟩,
  ⟨(some 4), none, (.asg (.tmp 8))⟩]) .ret))
theorem law_spec_l00Src_one {a0 a1 d : D} {cells cells' : List D} (h : ∀ b, code_spec_l00Src_one.wp (CT Try.prog NoG) (endX [(.t 4)] d 0 b cells') [.box (some b) cells, a1, .undef, .undef, .undef, .undef, .undef, .undef, .undef]) : ContractX Try.prog NoG 57 0 [a0, a1] cells d cells' :=
  contract_ofX (pt := 0) noG Try.func57 (fun us W => by kernel_rfl) (c := Try.f57.body.getD .skip) (ms := []) (ms' := []) (by kernel_rfl) (by kernel_rfl) (by kernel_rfl) (by simp) h
theorem v_one (s : Src) (n : Int) (hs : SrcB 2 s) : ContractX Try.prog NoG 57 0 [.undef, .v (.int .i64 n)] s.d (.v (.bool (oneV s n))) (pickN s n).d := by refine law_spec_l00Src_one ?_; intro b; unfold code_spec_l00Src_one oneV; simp only [Src.d]; simp -implicitDefEqProofs (disch := omega) only [go_sem, ↓reduceIte]; refine call_ioA (i := 0) (r := 0) (v_pick s n hs) rfl rfl (by simp -implicitDefEqProofs (disch := omega) only [go_sem, ↓reduceIte, deep, TD.rows, immLL_rI, immLL_rB8, immLL_rS, immLL_rBo, immLL_rII, immLL_rIIt, Src.d]; exact rfl) (by repeat (first | exact leL_nil | refine leL_cons ?_ ?_ | exact le_of_eq rfl | exact le_iptrN (leL_of_eq rfl) | refine le_agg ?_ | exact le_slf rfl (TD.rows ..) | refine le_iptr ?_ | refine le_fn ?_ ?_ | exact le_nilsl_)) (by repeat (first | exact leL_nil | refine leL_cons ?_ ?_ | exact le_of_eq rfl | exact le_iptrN (leL_of_eq rfl) | refine le_agg ?_ | exact le_slf rfl (TD.rows ..) | refine le_iptr ?_ | refine le_fn ?_ ?_ | exact le_nilsl_)) (by first | exact .inr rfl | exact .inl ⟨rfl, rfl⟩ | exact .inl ⟨by simp only [D.noImm, noImmL, go_sem, TD.nims, TD.nim], by simp only [D.noImm, noImmL, go_sem, TD.nims, TD.nim, nim_rI, nim_rB8, nim_rBo, nim_rS]⟩) ?_; simp -implicitDefEqProofs (disch := omega) only [go_sem, ↓reduceIte , Src.d]
def itoaS (n : Int) : List UInt8 := Lib.itoa n
def bytS (l : List UInt8) : ByteArray := ⟨l.toArray⟩
def decS (n : Int) : ByteArray := ⟨(itoaS n).toArray⟩
def digs (u : Nat) : List UInt8 := if u = 0 then [] else Lib.decDigits u
theorem digs_step {u : Nat} (h : u ≠ 0) : digs u = digs (u / 10) ++ [UInt8.ofNat (48 + u % 10)] := by
  unfold digs; rw [if_neg h, Lib.decDigits]; by_cases h9 : u < 10
  · rw [dif_pos h9, if_pos (by omega), Nat.mod_eq_of_lt h9]; rfl
  · rw [dif_neg h9, if_neg (by omega)]
theorem digs_len {u k : Nat} (h : u < 10 ^ k) : (digs u).length ≤ k := by
  induction k generalizing u with
  | zero => have : u = 0 := by omega
            subst this; simp [digs]
  | succ k ih =>
    by_cases h0 : u = 0
    · subst h0; simp [digs]
    · rw [digs_step h0, List.length_append]; have := ih (u := u / 10) (by rw [Nat.pow_succ] at h; omega); simp only [List.length_cons, List.length_nil]; omega
theorem decS_size (n : Int) (hn : InK .i64 n) : (decS n).size ≤ 20 := by
  have hn' : -9223372036854775808 ≤ n ∧ n ≤ 9223372036854775807 := (by have := hn; unfold InK at this; omega); have h1 : (decS n).size = (itoaS n).length := rfl; have h2 : ∀ u : Nat, u < 10 ^ 19 → (Lib.decDigits u).length ≤ 19 := by
    intro u hu; by_cases h0 : u = 0
    · subst h0; rw [Lib.decDigits]; simp
    · have := digs_len hu; unfold digs at this; rwa [if_neg h0] at this
  rw [h1]; unfold itoaS Lib.itoa; by_cases h : n < 0
  · rw [if_pos h, List.length_cons]; have := h2 n.natAbs (by omega); omega
  · rw [if_neg h]; have := h2 n.toNat (by omega)
    omega
def code_spec_Decimal : VCode := (.seq (.ops [
  ⟨(some 2), none, (.asg (.const (.string ⟨⟨[]⟩⟩)))⟩]) (.seq (.ops [
  ⟨(some 3), none, (.asg (.const (.string ⟨⟨[]⟩⟩)))⟩]) (.seq (.ops [
  ⟨(some 6), none, (.mv (.tmp 0))⟩,
  ⟨(some 4), none, (.asg (.tmp 6))⟩]) (.seq (.block 0 (.loop (mB 31 2147483622) (.seq (.seq (.ops [
  ⟨(some 7), none, (.mv (.tmp 4))⟩,
  ⟨(some 8), none, (.bin .neq (.tmp 7) (.const (.int .i64 0)))⟩]) (.cond (.tmp 8) .skip (.exit 0))) (.block 1 (.seq (.ops [
  ⟨(some 9), none, (.mv (.tmp 4))⟩,
  ⟨(some 10), none, (.bin .rem (.tmp 9) (.const (.int .i64 10)))⟩,
  ⟨(some 5), none, (.asg (.tmp 10))⟩]) (.seq (.seq (.ops [
  ⟨(some 11), none, (.mv (.tmp 5))⟩,
  ⟨(some 12), none, (.bin .lss (.tmp 11) (.const (.int .i64 0)))⟩]) (.cond (.tmp 12) (.ops [
  ⟨(some 13), none, (.mv (.tmp 5))⟩,
  ⟨(some 14), none, (.un .neg (.tmp 13))⟩,
  ⟨(some 5), none, (.asg (.tmp 14))⟩]) .skip)) (.seq (.ops [
  ⟨(some 15), none, (.mv (.tmp 5))⟩,
  ⟨(some 16), none, (.bin .add (.const (.int .i64 48)) (.tmp 15))⟩,
  ⟨(some 17), none, (.conv .u8 (.tmp 16))⟩,
  ⟨(some 18), none, (.bsl 1 [(.tmp 17)])⟩,
  ⟨(some 19), none, (.b2s (.tmp 18))⟩,
  ⟨(some 20), none, (.mv (.tmp 3))⟩,
  ⟨(some 21), none, (.bin .add (.tmp 19) (.tmp 20))⟩,
  ⟨(some 3), none, (.asg (.tmp 21))⟩]) (.ops [
  ⟨(some 22), none, (.mv (.tmp 4))⟩,
  ⟨(some 23), none, (.bin .quo (.tmp 22) (.const (.int .i64 10)))⟩,
  ⟨(some 4), none, (.asg (.tmp 23))⟩])))))))) (.seq (.seq (.ops [
  ⟨(some 24), none, (.mv (.tmp 0))⟩,
  ⟨(some 25), none, (.bin .eql (.tmp 24) (.const (.int .i64 0)))⟩]) (.cond (.tmp 25) (.seq (.ops [
  ⟨(some 2), none, (.asg (.const (.string ⟨⟨[48]⟩⟩)))⟩]) .ret) .skip)) (.seq (.seq (.ops [
  ⟨(some 26), none, (.mv (.tmp 0))⟩,
  ⟨(some 27), none, (.bin .lss (.tmp 26) (.const (.int .i64 0)))⟩]) (.cond (.tmp 27) (.seq (.ops [
  ⟨(some 28), none, (.mv (.tmp 3))⟩,
  ⟨(some 29), none, (.bin .add (.const (.string ⟨⟨[45]⟩⟩)) (.tmp 28))⟩,
  ⟨(some 2), none, (.asg (.tmp 29))⟩]) .ret) .skip)) (.seq (.ops [
  ⟨(some 30), none, (.mv (.tmp 3))⟩,
  ⟨(some 2), none, (.asg (.tmp 30))⟩]) .ret)))))))
theorem law_spec_Decimal {a0 d : D} (h : code_spec_Decimal.wp (CT Try.prog NoG) (endQ [(.t 2)] d) [a0, .undef, .undef, .undef, .undef, .undef, .undef, .undef, .undef, .undef, .undef, .undef, .undef, .undef, .undef, .undef, .undef, .undef, .undef, .undef, .undef, .undef, .undef, .undef, .undef, .undef, .undef, .undef, .undef, .undef, .undef]) : Contract Try.prog NoG 70 [a0] d :=
  contract_of (pt := 0) noG Try.func70 (fun us W => by kernel_rfl) (c := Try.f70.body.getD .skip) (ms := [(mB 31 2147483622)]) (ms' := []) (by kernel_rfl) (by kernel_rfl) (by kernel_rfl) h
theorem v_Decimal_spec (n : Int) (hn : InK .i64 n) : Contract Try.prog NoG 70 [.v (.int .i64 n)] (.v (.string (decS n))) := by
  refine law_spec_Decimal ?_; unfold code_spec_Decimal; have hn' : -9223372036854775808 ≤ n ∧ n ≤ 9223372036854775807 := by have := hn; unfold InK at this; omega
  simp -implicitDefEqProofs (disch := omega) only [go_sem, ↓reduceIte]; refine loop_ov (by simp -implicitDefEqProofs (disch := omega) only [go_sem, ↓reduceIte]; exact rfl) (fun z : Int × List UInt8 => [(3, .v (.string (bytS z.2))), (4, .v (.int .i64 z.1))]) (fun _ => by simp only [ovr_nil, ovr_cons, List.set_cons_zero, List.set_cons_succ]; exact rfl) (fun z : Int × List UInt8 => (-9223372036854775808 ≤ z.1 ∧ z.1 ≤ 9223372036854775807) ∧ digs z.1.natAbs ++ z.2 = digs n.natAbs) (fun z : Int × List UInt8 => z.1.natAbs) ((n, [])) (nleA) (?_) ?_
  · exact ⟨hn', by simp⟩
  rintro ⟨m, l⟩ ⟨h1, h2⟩; simp only at h1 h2; have hlen : (digs n.natAbs).length ≤ 20 := digs_len (k := 20) (by omega); have hl : l.length ≤ 20 := by rw [← h2, List.length_append] at hlen; omega
  have hsz : (bytS l).size = l.length := rfl; by_cases hm : m = 0
  · subst hm; have e2 : l = digs n.natAbs := h2; by_cases h0 : n = 0
    · subst h0; simp -implicitDefEqProofs (disch := omega) only [go_sem, ↓reduceIte , decide_true]; have e : itoaS 0 = [48] := by simp [itoaS, Lib.itoa, Lib.decDigits]
      unfold decS; rw [e]
    · have hd : digs n.natAbs = Lib.decDigits n.natAbs := (by unfold digs; rw [if_neg (by omega)]); by_cases h3 : n < 0
      · simp -implicitDefEqProofs (disch := omega) only [go_sem, ↓reduceIte , h0, h3, decide_true, decide_false]; refine ⟨by rw [hsz]; unfold maxLen; show 1 + l.length ≤ _; omega, ?_⟩; have e : itoaS n = 45 :: l := by unfold itoaS Lib.itoa; rw [if_pos h3, e2, hd]
        unfold decS bytS; rw [e]; exact congrArg Value.string (by apply ByteArray.ext; simp)
      · simp -implicitDefEqProofs (disch := omega) only [go_sem, ↓reduceIte , h0, h3, decide_true, decide_false]; have e : itoaS n = l := by unfold itoaS Lib.itoa; rw [if_neg h3, e2, hd]; congr 1; omega
        unfold decS bytS; rw [e]
  · obtain ⟨k, hk⟩ : ∃ k, k = m.natAbs % 10 := ⟨_, rfl⟩
    have hk9 : k ≤ 9 := (by omega); have hm0 : m.natAbs ≠ 0 := (by omega); have hS : strI [((48 + k : Nat) : Int)] ++ bytS l = bytS (UInt8.ofNat (48 + k) :: l) := (by apply ByteArray.ext; simp only [strI, bytS, List.map_cons, List.map_nil, Int.toNat_natCast]; simp); have hq : (m.tdiv 10).natAbs = m.natAbs / 10 := (by rw [Int.natAbs_tdiv]; rfl); have hnext : digs (m.natAbs / 10) ++ UInt8.ofNat (48 + k) :: l = digs n.natAbs := (by rw [← h2, digs_step hm0, ← hk, List.append_assoc]; rfl); have hb10 : -9223372036854775808 ≤ m.tdiv 10 ∧ m.tdiv 10 ≤ 9223372036854775807 := (by have : (m.tdiv 10).natAbs ≤ 922337203685477580 := (by rw [hq]; omega); omega); have hsz1 : (strI [((48 + k : Nat) : Int)]).size = 1 := rfl; have w1 : IntKind.i64.wrap (48 + (k : Int)) = ((48 + k : Nat) : Int) := (by rw [wrI (by omega) (by omega)]; omega); have w2 : IntKind.u8.wrap ((48 + k : Nat) : Int) = ((48 + k : Nat) : Int) := (by simp [IntKind.wrap, IntKind.signed, IntKind.bits]; omega); by_cases h3 : m < 0
    · have hd : m.tmod 10 = -(k : Int) := by
        obtain ⟨u, rfl⟩ : ∃ u : Nat, m = -(u : Int) := ⟨m.natAbs, by omega⟩
        rw [Int.neg_tmod]; have : ((u : Int)).tmod 10 = ((u % 10 : Nat) : Int) := rfl; rw [this, hk]; congr 2; omega
      have w3 : IntKind.i64.wrap (-(-(k : Int))) = (k : Int) := (by rw [wrI (by omega) (by omega)]; omega); have w4 : IntKind.i64.wrap (0 - (-(k : Int))) = (k : Int) := (by rw [wrI (by omega) (by omega)]; omega); simp -implicitDefEqProofs (disch := omega) only [go_sem, ↓reduceIte , hm, hd]; refine ⟨by omega, cond_split ?_ ?_⟩ <;> intro hlt
      · simp -implicitDefEqProofs (disch := omega) only [go_sem, ↓reduceIte , hm, hd, w1, w2, w3, w4]; refine ⟨[((48 + k : Nat) : Int)], rfl, ?_, by omega, (m.tdiv 10, UInt8.ofNat (48 + k) :: l), ?_, ⟨hb10, ?_⟩, ?_⟩
        · rw [hsz1, hsz]; unfold maxLen; omega
        · simp only; rw [hq]; omega
        · simp only; rw [hq]; exact hnext
        · rw [hS, wrI hb10.1 hb10.2]; (try simp -implicitDefEqProofs only [nleL_cc, nleL_nn, nle_self, nle_boxs, nle_aggs, nle_nils, and_self, and_true, true_and]) <;> repeat' (first | exact nle_of_eq rfl | exact nle_nil | apply And.intro | apply nle_sl | apply nleLL_cons | apply nleL_cons | exact nleL_nil | exact nleLL_nil | apply nle_box | apply nle_agg)
      · have e0 : -(k : Int) = (k : Int) := (by have := hlt; simp at this; omega); simp -implicitDefEqProofs (disch := omega) only [go_sem, ↓reduceIte , hm, hd, e0, w1, w2]; refine ⟨[((48 + k : Nat) : Int)], rfl, ?_, by omega, (m.tdiv 10, UInt8.ofNat (48 + k) :: l), ?_, ⟨hb10, ?_⟩, ?_⟩
        · rw [hsz1, hsz]; unfold maxLen; omega
        · simp only; rw [hq]; omega
        · simp only; rw [hq]; exact hnext
        · rw [hS, wrI hb10.1 hb10.2]; (try simp -implicitDefEqProofs only [nleL_cc, nleL_nn, nle_self, nle_boxs, nle_aggs, nle_nils, and_self, and_true, true_and]) <;> repeat' (first | exact nle_of_eq rfl | exact nle_nil | apply And.intro | apply nle_sl | apply nleLL_cons | apply nleL_cons | exact nleL_nil | exact nleLL_nil | apply nle_box | apply nle_agg)
    · have hd : m.tmod 10 = (k : Int) := by
        obtain ⟨u, rfl⟩ : ∃ u : Nat, m = (u : Int) := ⟨m.natAbs, by omega⟩
        have : ((u : Int)).tmod 10 = ((u % 10 : Nat) : Int) := rfl; rw [this, hk]; congr 2
      have hk0 : decide ((k : Int) < 0) = false := (by rw [decide_eq_false_iff_not]; omega); simp -implicitDefEqProofs (disch := omega) only [go_sem, ↓reduceIte , hm, hd, hk0]; refine ⟨by omega, ?_⟩; simp -implicitDefEqProofs (disch := omega) only [go_sem, ↓reduceIte , hm, hd, w1, w2]; refine ⟨[((48 + k : Nat) : Int)], rfl, ?_, by omega, (m.tdiv 10, UInt8.ofNat (48 + k) :: l), ?_, ⟨hb10, ?_⟩, ?_⟩
      · rw [hsz1, hsz]; unfold maxLen; omega
      · simp only; rw [hq]; omega
      · simp only; rw [hq]; exact hnext
      · rw [hS, wrI hb10.1 hb10.2]; (try simp -implicitDefEqProofs only [nleL_cc, nleL_nn, nle_self, nle_boxs, nle_aggs, nle_nils, and_self, and_true, true_and]) <;> repeat' (first | exact nle_of_eq rfl | exact nle_nil | apply And.intro | apply nle_sl | apply nleLL_cons | apply nleL_cons | exact nleL_nil | exact nleLL_nil | apply nle_box | apply nle_agg)
end Go.Proofs.Ytoiaenkipdneeaa
