/- Laws that the proof stands on. -/
import Derived.Test.YtgnlikamelfmjaaZVB
import Derived.Test.YtgnlikamelfmjaaProg
set_option linter.all false
namespace Go.Proofs.Ytgnlikamelfmjaa
open Go.RowKit Go.V
attribute [local go_sem] List.getElem?_cons_succ List.getElem?_cons_zero List.set_cons_succ List.set_cons_zero List.map_cons List.map_nil List.length_cons List.length_nil List.all_cons List.all_nil List.drop_succ_cons List.drop_zero List.take_succ_cons List.take_zero List.flatMap_cons List.flatMap_nil List.cons_append List.nil_append List.append_nil List.headD_cons Value.oneCell' Bool.and_true Bool.true_and Bool.or_false Bool.false_or Bool.and_self Bool.not_true Bool.not_false and_true true_and beq_self_eq_true Bool.false_eq_true if_true if_false Nat.zero_add Nat.reduceAdd Nat.reduceMul Nat.reduceLeDiff Nat.le_refl Option.isSome_some Option.isSome_none not_true_eq_false not_false_eq_true ne_eq reduceCtorEq List.reverse_nil bne_self_eq_false Nat.reduceEqDiff List.isPrefixOf Bool.not_eq_true Bool.and_false Bool.false_and Bool.true_or Bool.or_true decide_true decide_false Nat.reduceBEq Nat.reduceBNe List.replicate_succ List.replicate_zero exists_eq_left' exists_eq_left Option.some.injEq or_false or_true true_or false_or Option.map_some Option.map_none mB Nat.reduceMod Nat.reduceDiv
set_option maxRecDepth 100000
def inR (lo hi n : Int) : Bool := decide (lo ≤ n) && decide (n ≤ hi)
theorem inR_iff {lo hi n : Int} : inR lo hi n = true ↔ lo ≤ n ∧ n ≤ hi := by simp [inR]
def code_spec_l00In : VCode := (.seq (.ops [
  ⟨(some 6), none, (.asg (.const (.bool false)))⟩]) (.seq (.ops [
  ⟨(some 7), none, (.mv (.tmp 0))⟩,
  ⟨(some 8), none, (.mv (.tmp 1))⟩,
  ⟨(some 9), none, (.bin .geq (.tmp 7) (.tmp 8))⟩,
  ⟨(some 10), none, (.mv (.tmp 9))⟩,
  ⟨(some 11), (some (10, true)), (.mv (.tmp 0))⟩,
  ⟨(some 12), (some (10, true)), (.mv (.tmp 2))⟩,
  ⟨(some 13), (some (10, true)), (.bin .leq (.tmp 11) (.tmp 12))⟩,
  ⟨(some 14), none, (.pick (.tmp 10) (.tmp 13) (.const (.bool false)))⟩,
  ⟨(some 6), none, (.asg (.tmp 14))⟩]) .ret))
theorem law_spec_l00In {a0 a1 a2 d : D} (h : code_spec_l00In.wp (CT Try.prog NoG) (endQ [(.t 6)] d) [a0, a1, a2, .undef, .undef, .undef, .undef, .undef, .undef, .undef, .undef, .undef, .undef, .undef, .undef]) : Contract Try.prog NoG 86 [a0, a1, a2] d :=
  contract_of (pt := 0) noG Try.func86 (fun us W => by kernel_rfl) (c := Try.f86.body.getD .skip) (ms := []) (ms' := []) (by kernel_rfl) (by kernel_rfl) (by kernel_rfl) h
theorem v_l00In (a b c : Int) : Contract Try.prog NoG 86 [.v (.int .i64 a), .v (.int .i64 b), .v (.int .i64 c)] (.v (.bool (inR b c a))) := by
  refine law_spec_l00In ?_; unfold code_spec_l00In inR; simp -implicitDefEqProofs (disch := omega) only [go_sem, ↓reduceIte]; refine guard_split ?_ ?_ <;> intro h
  · simp -implicitDefEqProofs (disch := omega) only [go_sem, ↓reduceIte , h]
  · simp -implicitDefEqProofs (disch := omega) only [go_sem, ↓reduceIte , h]
def code_impl_within : VCode := (.seq (.ops [
  ⟨(some 6), none, (.asg (.const (.bool false)))⟩]) (.seq (.ops [
  ⟨(some 7), none, (.mv (.tmp 0))⟩,
  ⟨(some 8), none, (.mv (.tmp 1))⟩,
  ⟨(some 9), none, (.bin .geq (.tmp 7) (.tmp 8))⟩,
  ⟨(some 10), none, (.mv (.tmp 9))⟩,
  ⟨(some 11), (some (10, true)), (.mv (.tmp 0))⟩,
  ⟨(some 12), (some (10, true)), (.mv (.tmp 2))⟩,
  ⟨(some 13), (some (10, true)), (.bin .leq (.tmp 11) (.tmp 12))⟩,
  ⟨(some 14), none, (.pick (.tmp 10) (.tmp 13) (.const (.bool false)))⟩,
  ⟨(some 6), none, (.asg (.tmp 14))⟩]) .ret))
theorem law_impl_within {a0 a1 a2 d : D} (h : code_impl_within.wp (CT Try.prog NoG) (endQ [(.t 6)] d) [a0, a1, a2, .undef, .undef, .undef, .undef, .undef, .undef, .undef, .undef, .undef, .undef, .undef, .undef]) : Contract Try.prog NoG 67 [a0, a1, a2] d :=
  contract_of (pt := 0) noG Try.func67 (fun us W => by kernel_rfl) (c := Try.f67.body.getD .skip) (ms := []) (ms' := []) (by kernel_rfl) (by kernel_rfl) (by kernel_rfl) h
theorem v_within (a b c : Int) : Contract Try.prog NoG 67 [.v (.int .i64 a), .v (.int .i64 b), .v (.int .i64 c)] (.v (.bool (inR b c a))) := by
  refine law_impl_within ?_; unfold code_impl_within inR; simp -implicitDefEqProofs (disch := omega) only [go_sem, ↓reduceIte]; refine guard_split ?_ ?_ <;> intro h
  · simp -implicitDefEqProofs (disch := omega) only [go_sem, ↓reduceIte , h]
  · simp -implicitDefEqProofs (disch := omega) only [go_sem, ↓reduceIte , h]
def code_impl_isIndex : VCode := (.seq (.ops [
  ⟨(some 4), none, (.asg (.const (.bool false)))⟩]) (.seq (.ops [
  ⟨(some 5), none, (.mv (.tmp 0))⟩,
  ⟨(some 6), none, (.mv (.tmp 1))⟩,
  ⟨(some 7), none, (.bin .sub (.tmp 6) (.const (.int .i64 1)))⟩,
  ⟨(some 8), none, (.callX 67 [(.tmp 5), (.const (.int .i64 0)), (.tmp 7)])⟩,
  ⟨(some 4), none, (.asg (.tmp 8))⟩]) .ret))
theorem law_impl_isIndex {a0 a1 d : D} (h : code_impl_isIndex.wp (CT Try.prog NoG) (endQ [(.t 4)] d) [a0, a1, .undef, .undef, .undef, .undef, .undef, .undef, .undef]) : Contract Try.prog NoG 87 [a0, a1] d :=
  contract_of (pt := 0) noG Try.func87 (fun us W => by kernel_rfl) (c := Try.f87.body.getD .skip) (ms := []) (ms' := []) (by kernel_rfl) (by kernel_rfl) (by kernel_rfl) h
theorem v_isIndex (i n : Int) (h1 : 0 ≤ n) (h2 : n ≤ 1099511627776) : Contract Try.prog NoG 87 [.v (.int .i64 i), .v (.int .i64 n)] (.v (.bool (inR 0 (n - 1) i))) := by refine law_impl_isIndex ?_; unfold code_impl_isIndex; have hw : IntKind.i64.wrap (n - 1) = n - 1 := wrI (by omega) (by omega); simp -implicitDefEqProofs (disch := omega) only [go_sem, ↓reduceIte , hw]; refine call_B (v_within _ _ _) (by simp -implicitDefEqProofs (disch := omega) only [go_sem, ↓reduceIte, deep, TD.rows, immLL_rI, immLL_rB8, immLL_rS, immLL_rBo, immLL_rII, immLL_rIIt]; exact rfl) ?_; simp -implicitDefEqProofs (disch := omega) only [go_sem, ↓reduceIte]
def isLet (c : Int) : Bool := (decide (97 ≤ c) && decide (c ≤ 122)) || (decide (65 ≤ c) && decide (c ≤ 90))
def isDig (c : Int) : Bool := decide (48 ≤ c) && decide (c ≤ 57)
def chOK (i : Nat) (c : Int) : Bool := isLet c || (decide (i ≠ 0) && (isDig c || decide (c = 95)))
def chAt (s : ByteArray) (i : Nat) : Int := match s[i]? with
  | some c => (c.toNat : Int)
  | none => 0
def isNameB (s : ByteArray) : Bool := (decide (1 ≤ s.size) && decide (s.size ≤ 12)) && (List.range s.size).all (fun i => chOK i (chAt s i))
theorem name_no {s : ByteArray} {i : Nat} (hi : i < s.size) (h : chOK i (chAt s i) = false) : isNameB s = false := by
  unfold isNameB; have : (List.range s.size).all (fun i => chOK i (chAt s i)) = false := by rw [List.all_eq_false]; exact ⟨i, by simpa using hi, by simp [h]⟩
  rw [this, Bool.and_false]
theorem all_next {f : Nat → Bool} {i : Nat} (h : (List.range i).all f = true) (hi : f i = true) : (List.range (i + 1)).all f = true := by rw [List.range_succ, List.all_append, h]; simp [hi]
theorem byte_at {s : ByteArray} {i : Nat} (hi : i < s.size) : s[i]? = some s[i] := by simp [hi]
theorem chAt_some {s : ByteArray} {i : Nat} {c : UInt8} (h : s[i]? = some c) : chAt s i = (c.toNat : Int) := by unfold chAt; rw [h]
theorem chOK_let {i : Nat} {c : Int} (h : isLet c = true) : chOK i c = true := by unfold chOK; rw [h]; rfl
def code_spec_l01Letter : VCode := (.seq (.ops [
  ⟨(some 2), none, (.asg (.const (.bool false)))⟩]) (.seq (.ops [
  ⟨(some 3), none, (.mv (.tmp 0))⟩,
  ⟨(some 4), none, (.bin .geq (.tmp 3) (.const (.int .u8 97)))⟩,
  ⟨(some 5), none, (.mv (.tmp 4))⟩,
  ⟨(some 6), (some (5, true)), (.mv (.tmp 0))⟩,
  ⟨(some 7), (some (5, true)), (.bin .leq (.tmp 6) (.const (.int .u8 122)))⟩,
  ⟨(some 8), none, (.pick (.tmp 5) (.tmp 7) (.const (.bool false)))⟩,
  ⟨(some 9), none, (.mv (.tmp 8))⟩,
  ⟨(some 10), (some (9, false)), (.mv (.tmp 0))⟩,
  ⟨(some 11), (some (9, false)), (.bin .geq (.tmp 10) (.const (.int .u8 65)))⟩,
  ⟨(some 12), (some (9, false)), (.mv (.tmp 11))⟩,
  ⟨(some 13), (some (12, true)), (.mv (.tmp 0))⟩,
  ⟨(some 14), (some (12, true)), (.bin .leq (.tmp 13) (.const (.int .u8 90)))⟩,
  ⟨(some 15), (some (9, false)), (.pick (.tmp 12) (.tmp 14) (.const (.bool false)))⟩,
  ⟨(some 16), none, (.pick (.tmp 9) (.const (.bool true)) (.tmp 15))⟩,
  ⟨(some 2), none, (.asg (.tmp 16))⟩]) .ret))
theorem law_spec_l01Letter {a0 d : D} (h : code_spec_l01Letter.wp (CT Try.prog NoG) (endQ [(.t 2)] d) [a0, .undef, .undef, .undef, .undef, .undef, .undef, .undef, .undef, .undef, .undef, .undef, .undef, .undef, .undef, .undef, .undef]) : Contract Try.prog NoG 128 [a0] d :=
  contract_of (pt := 0) noG Try.func128 (fun us W => by kernel_rfl) (c := Try.f128.body.getD .skip) (ms := []) (ms' := []) (by kernel_rfl) (by kernel_rfl) (by kernel_rfl) h
def code_spec_l01Digit : VCode := (.seq (.ops [
  ⟨(some 2), none, (.asg (.const (.bool false)))⟩]) (.seq (.ops [
  ⟨(some 3), none, (.mv (.tmp 0))⟩,
  ⟨(some 4), none, (.bin .geq (.tmp 3) (.const (.int .u8 48)))⟩,
  ⟨(some 5), none, (.mv (.tmp 4))⟩,
  ⟨(some 6), (some (5, true)), (.mv (.tmp 0))⟩,
  ⟨(some 7), (some (5, true)), (.bin .leq (.tmp 6) (.const (.int .u8 57)))⟩,
  ⟨(some 8), none, (.pick (.tmp 5) (.tmp 7) (.const (.bool false)))⟩,
  ⟨(some 2), none, (.asg (.tmp 8))⟩]) .ret))
theorem law_spec_l01Digit {a0 d : D} (h : code_spec_l01Digit.wp (CT Try.prog NoG) (endQ [(.t 2)] d) [a0, .undef, .undef, .undef, .undef, .undef, .undef, .undef, .undef]) : Contract Try.prog NoG 129 [a0] d :=
  contract_of (pt := 0) noG Try.func129 (fun us W => by kernel_rfl) (c := Try.f129.body.getD .skip) (ms := []) (ms' := []) (by kernel_rfl) (by kernel_rfl) (by kernel_rfl) h
theorem v_l01Letter (c : Int) : Contract Try.prog NoG 128 [.v (.int .u8 c)] (.v (.bool (isLet c))) := by
  refine law_spec_l01Letter ?_; unfold code_spec_l01Letter isLet; simp -implicitDefEqProofs (disch := omega) only [go_sem, ↓reduceIte]
  repeat' (first | (refine guard_split ?_ ?_ <;> intro h <;> try (simp -implicitDefEqProofs (disch := omega) only [go_sem, ↓reduceIte, h])) | (refine gd_split ?_ ?_ <;> intro h <;> try (simp -implicitDefEqProofs (disch := omega) only [go_sem, ↓reduceIte, h])) | (refine cond_split ?_ ?_ <;> intro h <;> try (simp -implicitDefEqProofs (disch := omega) only [go_sem, ↓reduceIte, h])))
theorem v_l01Digit (c : Int) : Contract Try.prog NoG 129 [.v (.int .u8 c)] (.v (.bool (isDig c))) := by
  refine law_spec_l01Digit ?_; unfold code_spec_l01Digit isDig; simp -implicitDefEqProofs (disch := omega) only [go_sem, ↓reduceIte]
  repeat' (first | (refine guard_split ?_ ?_ <;> intro h <;> try (simp -implicitDefEqProofs (disch := omega) only [go_sem, ↓reduceIte, h])) | (refine gd_split ?_ ?_ <;> intro h <;> try (simp -implicitDefEqProofs (disch := omega) only [go_sem, ↓reduceIte, h])) | (refine cond_split ?_ ?_ <;> intro h <;> try (simp -implicitDefEqProofs (disch := omega) only [go_sem, ↓reduceIte, h])))
def code_spec_IsName : VCode := (.seq (.ops [
  ⟨(some 2), none, (.asg (.const (.bool false)))⟩]) (.seq (.seq (.ops [
  ⟨(some 4), none, (.mv (.tmp 0))⟩,
  ⟨(some 5), none, (.lenS (.tmp 4))⟩,
  ⟨(some 6), none, (.bin .lss (.tmp 5) (.const (.int .i64 1)))⟩,
  ⟨(some 7), none, (.mv (.tmp 6))⟩,
  ⟨(some 8), (some (7, false)), (.mv (.tmp 0))⟩,
  ⟨(some 9), (some (7, false)), (.lenS (.tmp 8))⟩,
  ⟨(some 10), (some (7, false)), (.bin .gtr (.tmp 9) (.const (.int .i64 12)))⟩,
  ⟨(some 11), none, (.pick (.tmp 7) (.const (.bool true)) (.tmp 10))⟩,
  ⟨(some 12), none, (.mv (.tmp 11))⟩,
  ⟨(some 13), (some (12, false)), (.mv (.tmp 0))⟩,
  ⟨(some 14), (some (12, false)), (.ixs (.tmp 13) (.const (.int .i64 0)))⟩,
  ⟨(some 15), (some (12, false)), (.callX 128 [(.tmp 14)])⟩,
  ⟨(some 16), (some (12, false)), (.un .not (.tmp 15))⟩,
  ⟨(some 17), none, (.pick (.tmp 12) (.const (.bool true)) (.tmp 16))⟩]) (.cond (.tmp 17) (.seq (.ops [
  ⟨(some 2), none, (.asg (.const (.bool false)))⟩]) .ret) .skip)) (.seq (.seq (.ops [
  ⟨(some 3), none, (.asg (.const (.int .i64 1)))⟩]) (.block 0 (.loop (mB 42 4398046511094) (.seq (.seq (.ops [
  ⟨(some 18), none, (.mv (.tmp 3))⟩,
  ⟨(some 19), none, (.mv (.tmp 0))⟩,
  ⟨(some 20), none, (.lenS (.tmp 19))⟩,
  ⟨(some 21), none, (.bin .lss (.tmp 18) (.tmp 20))⟩]) (.cond (.tmp 21) .skip (.exit 0))) (.seq (.block 1 (.seq (.ops [
  ⟨(some 24), none, (.mv (.tmp 0))⟩,
  ⟨(some 25), none, (.mv (.tmp 3))⟩,
  ⟨(some 26), none, (.ixs (.tmp 24) (.tmp 25))⟩,
  ⟨(some 27), none, (.callX 128 [(.tmp 26)])⟩,
  ⟨(some 28), none, (.un .not (.tmp 27))⟩,
  ⟨(some 29), none, (.mv (.tmp 28))⟩,
  ⟨(some 30), (some (29, true)), (.mv (.tmp 0))⟩,
  ⟨(some 31), (some (29, true)), (.mv (.tmp 3))⟩,
  ⟨(some 32), (some (29, true)), (.ixs (.tmp 30) (.tmp 31))⟩,
  ⟨(some 33), (some (29, true)), (.callX 129 [(.tmp 32)])⟩,
  ⟨(some 34), (some (29, true)), (.un .not (.tmp 33))⟩,
  ⟨(some 35), none, (.pick (.tmp 29) (.tmp 34) (.const (.bool false)))⟩,
  ⟨(some 36), none, (.mv (.tmp 35))⟩,
  ⟨(some 37), (some (36, true)), (.mv (.tmp 0))⟩,
  ⟨(some 38), (some (36, true)), (.mv (.tmp 3))⟩,
  ⟨(some 39), (some (36, true)), (.ixs (.tmp 37) (.tmp 38))⟩,
  ⟨(some 40), (some (36, true)), (.bin .neq (.tmp 39) (.const (.int .u8 95)))⟩,
  ⟨(some 41), none, (.pick (.tmp 36) (.tmp 40) (.const (.bool false)))⟩]) (.cond (.tmp 41) (.seq (.ops [
  ⟨(some 2), none, (.asg (.const (.bool false)))⟩]) .ret) .skip))) (.ops [
  ⟨(some 22), none, (.mv (.tmp 3))⟩,
  ⟨(some 23), none, (.bin .add (.tmp 22) (.const (.int .i64 1)))⟩,
  ⟨(some 3), none, (.asg (.tmp 23))⟩])))))) (.seq (.ops [
  ⟨(some 2), none, (.asg (.const (.bool true)))⟩]) .ret))))
theorem law_spec_IsName {a0 d : D} (h : code_spec_IsName.wp (CT Try.prog NoG) (endQ [(.t 2)] d) [a0, .undef, .undef, .undef, .undef, .undef, .undef, .undef, .undef, .undef, .undef, .undef, .undef, .undef, .undef, .undef, .undef, .undef, .undef, .undef, .undef, .undef, .undef, .undef, .undef, .undef, .undef, .undef, .undef, .undef, .undef, .undef, .undef, .undef, .undef, .undef, .undef, .undef, .undef, .undef, .undef, .undef]) : Contract Try.prog NoG 102 [a0] d :=
  contract_of (pt := 0) noG Try.func102 (fun us W => by kernel_rfl) (c := Try.f102.body.getD .skip) (ms := [(mB 42 4398046511094)]) (ms' := []) (by kernel_rfl) (by kernel_rfl) (by kernel_rfl) h
theorem vIsName_spec (s : ByteArray) (hs : s.size ≤ 1048576) : Contract Try.prog NoG 102 [.v (.string s)] (.v (.bool (isNameB s))) := by
  refine law_spec_IsName ?_; unfold code_spec_IsName; have bad : ¬ (1 ≤ s.size ∧ s.size ≤ 12) → isNameB s = false := fun h => by
    unfold isNameB; have : (decide (1 ≤ s.size) && decide (s.size ≤ 12)) = false := by rw [Bool.and_eq_false_iff, decide_eq_false_iff_not, decide_eq_false_iff_not]; omega
    rw [this, Bool.false_and]
  simp -implicitDefEqProofs (disch := omega) only [go_sem, ↓reduceIte]; refine guard_split ?_ ?_ <;> intro h1
  · simp -implicitDefEqProofs (disch := omega) only [go_sem, ↓reduceIte , h1]; rw [bad (by have := of_decide_eq_true h1; omega)]
  · have h1' : 1 ≤ s.size := (by have := of_decide_eq_false h1; omega); simp -implicitDefEqProofs (disch := omega) only [go_sem, ↓reduceIte , h1]; refine guard_split ?_ ?_ <;> intro h2
    · simp -implicitDefEqProofs (disch := omega) only [go_sem, ↓reduceIte , h2]; rw [bad (by have := of_decide_eq_true h2; omega)]
    · have h2' : s.size ≤ 12 := (by have := of_decide_eq_false h2; omega); have hb0 : s[0]? = some s[0] := byte_at (by omega)
      simp -implicitDefEqProofs (disch := omega) only [go_sem, ↓reduceIte , h2, hb0, Int.natCast_zero, Int.natCast_one, Int.cast_ofNat_Int, Int.ofNat_le, Int.toNat_zero, Nat.sub_zero, Int.le_refl, Int.reduceLT, Int.reduceLE, Int.reduceEq, Int.reduceAdd, Int.reduceSub, Int.reduceMul, Int.reduceToNat, Int.reduceNeg]; refine call_B (v_l01Letter _) (by simp -implicitDefEqProofs (disch := omega) only [go_sem, ↓reduceIte, deep, TD.rows, immLL_rI, immLL_rB8, immLL_rS, immLL_rBo, immLL_rII, immLL_rIIt, Int.natCast_zero, Int.natCast_one, Int.cast_ofNat_Int, Int.ofNat_le, Int.toNat_zero, Nat.sub_zero, Int.le_refl, Int.reduceLT, Int.reduceLE, Int.reduceEq, Int.reduceAdd, Int.reduceSub, Int.reduceMul, Int.reduceToNat, Int.reduceNeg]; exact rfl) ?_; simp -implicitDefEqProofs (disch := omega) only [go_sem, ↓reduceIte , Int.natCast_zero, Int.natCast_one, Int.cast_ofNat_Int, Int.ofNat_le, Int.toNat_zero, Nat.sub_zero, Int.le_refl, Int.reduceLT, Int.reduceLE, Int.reduceEq, Int.reduceAdd, Int.reduceSub, Int.reduceMul, Int.reduceToNat, Int.reduceNeg]; refine cond_split ?_ ?_ <;> intro h3
      · simp -implicitDefEqProofs (disch := omega) only [go_sem, ↓reduceIte]; simp only [Bool.not_eq_true'] at h3; rw [name_no (s := s) (i := 0) (by omega) (by rw [chAt_some hb0]; unfold chOK; rw [h3]; rfl)]
      · simp only [Bool.not_eq_false'] at h3; simp -implicitDefEqProofs (disch := omega) only [go_sem, ↓reduceIte]; refine loop_st (fun i : Nat => [.v (.string s), .undef, .undef, .v (.int .i64 i), .undef, .undef, .undef, .undef, .undef, .undef, .undef, .undef, .undef, .undef, .undef, .undef, .undef, .undef, .undef, .undef, .undef, .undef, .undef, .undef, .undef, .undef, .undef, .undef, .undef, .undef, .undef, .undef, .undef, .undef, .undef, .undef, .undef, .undef, .undef, .undef, .undef, .undef]) (fun i => 1 ≤ i ∧ i ≤ s.size ∧ (List.range i).all (fun i => chOK i (chAt s i)) = true) (fun i => s.size - i) 1 (nleA) ⟨by omega, h1', by simp [chAt_some hb0, chOK_let h3]⟩ ?_; rintro i ⟨hi0, hi, ha⟩; simp -implicitDefEqProofs (disch := omega) only [go_sem, ↓reduceIte , Int.ofNat_lt]; refine cond_split ?_ ?_ <;> intro hlt
        · have hlt : i < s.size := of_decide_eq_true hlt; have hb := byte_at hlt; have hc := chAt_some hb; have next : chOK i (s[i].toNat : Int) = true → ∃ b, s.size - b < s.size - i ∧ (1 ≤ b ∧ b ≤ s.size ∧ (List.range b).all (fun i => chOK i (chAt s i)) = true) ∧ b = i + 1 := fun h => ⟨i + 1, by omega, ⟨by omega, hlt, all_next ha (by rw [hc]; exact h)⟩, rfl⟩
          simp -implicitDefEqProofs (disch := omega) only [go_sem, ↓reduceIte , Int.toNat_natCast, hb, Int.natCast_nonneg]; refine call_B (v_l01Letter _) (by simp -implicitDefEqProofs (disch := omega) only [go_sem, ↓reduceIte, deep, TD.rows, immLL_rI, immLL_rB8, immLL_rS, immLL_rBo, immLL_rII, immLL_rIIt]; exact rfl) ?_; simp -implicitDefEqProofs (disch := omega) only [go_sem, ↓reduceIte]; refine guard_split ?_ ?_ <;> intro g1
          · simp only [Bool.not_eq_true'] at g1; simp -implicitDefEqProofs (disch := omega) only [go_sem, ↓reduceIte , g1, Int.toNat_natCast, hb, Int.natCast_nonneg]; refine call_B (v_l01Digit _) (by simp -implicitDefEqProofs (disch := omega) only [go_sem, ↓reduceIte, deep, TD.rows, immLL_rI, immLL_rB8, immLL_rS, immLL_rBo, immLL_rII, immLL_rIIt, g1]; exact rfl) ?_; simp -implicitDefEqProofs (disch := omega) only [go_sem, ↓reduceIte , g1]; refine guard_split ?_ ?_ <;> intro g2
            · simp only [Bool.not_eq_true'] at g2; simp -implicitDefEqProofs (disch := omega) only [go_sem, ↓reduceIte , g2, Int.toNat_natCast, hb, Int.natCast_nonneg]; refine cond_split ?_ ?_ <;> intro g3
              · simp -implicitDefEqProofs (disch := omega) only [go_sem, ↓reduceIte]; simp only [Bool.not_eq_true'] at g3; rw [name_no hlt (by rw [hc]; unfold chOK; rw [g1, g2, g3]; simp)]
              · simp only [Bool.not_eq_false'] at g3; simp -implicitDefEqProofs (disch := omega) only [go_sem, ↓reduceIte , wrN]; obtain ⟨b, k1, k2, rfl⟩ := next (by unfold chOK; rw [g1, g2, g3]; simp; omega)
                exact ⟨_, k1, k2, nleA⟩
            · simp only [Bool.not_eq_false'] at g2; simp -implicitDefEqProofs (disch := omega) only [go_sem, ↓reduceIte , g2, wrN]; obtain ⟨b, k1, k2, rfl⟩ := next (by unfold chOK; rw [g1, g2]; simp; omega)
              exact ⟨_, k1, k2, nleA⟩
          · simp only [Bool.not_eq_false'] at g1; simp -implicitDefEqProofs (disch := omega) only [go_sem, ↓reduceIte , g1, wrN]; obtain ⟨b, k1, k2, rfl⟩ := next (chOK_let g1)
            exact ⟨_, k1, k2, nleA⟩
        · have hlt : i = s.size := (by have : ¬ i < s.size := of_decide_eq_false hlt; omega); subst hlt; simp -implicitDefEqProofs (disch := omega) only [go_sem, ↓reduceIte]; unfold isNameB; rw [ha, Bool.and_true, decide_eq_true h1', decide_eq_true h2']; rfl
def code_impl_IsName : VCode := (.seq (.ops [
  ⟨(some 2), none, (.asg (.const (.bool false)))⟩]) (.seq (.seq (.ops [
  ⟨(some 6), none, (.mv (.tmp 0))⟩,
  ⟨(some 7), none, (.lenS (.tmp 6))⟩,
  ⟨(some 8), none, (.mv (.const (.int .i64 0)))⟩]) (.block 0 (.loop (mB 55 36028797018963582) (.seq (.ops [
  ⟨(some 9), none, (.bin .lss (.tmp 8) (.tmp 7))⟩]) (.seq (.cond (.tmp 9) .skip (.exit 0)) (.seq (.block 1 (.seq (.ops [
  ⟨(some 10), none, (.mv (.tmp 8))⟩,
  ⟨(some 3), none, (.asg (.tmp 10))⟩]) (.seq (.ops [
  ⟨(some 11), none, (.mv (.tmp 0))⟩,
  ⟨(some 12), none, (.mv (.tmp 3))⟩,
  ⟨(some 13), none, (.ixs (.tmp 11) (.tmp 12))⟩,
  ⟨(some 4), none, (.asg (.tmp 13))⟩]) (.seq (.ops [
  ⟨(some 14), none, (.mv (.tmp 4))⟩,
  ⟨(some 15), none, (.bin .geq (.tmp 14) (.const (.int .u8 97)))⟩,
  ⟨(some 16), none, (.mv (.tmp 15))⟩,
  ⟨(some 17), (some (16, true)), (.mv (.tmp 4))⟩,
  ⟨(some 18), (some (16, true)), (.bin .leq (.tmp 17) (.const (.int .u8 122)))⟩,
  ⟨(some 19), none, (.pick (.tmp 16) (.tmp 18) (.const (.bool false)))⟩,
  ⟨(some 20), none, (.mv (.tmp 19))⟩,
  ⟨(some 21), (some (20, false)), (.mv (.tmp 4))⟩,
  ⟨(some 22), (some (20, false)), (.bin .geq (.tmp 21) (.const (.int .u8 65)))⟩,
  ⟨(some 23), (some (20, false)), (.mv (.tmp 22))⟩,
  ⟨(some 24), (some (23, true)), (.mv (.tmp 4))⟩,
  ⟨(some 25), (some (23, true)), (.bin .leq (.tmp 24) (.const (.int .u8 90)))⟩,
  ⟨(some 26), (some (20, false)), (.pick (.tmp 23) (.tmp 25) (.const (.bool false)))⟩,
  ⟨(some 27), none, (.pick (.tmp 20) (.const (.bool true)) (.tmp 26))⟩,
  ⟨(some 5), none, (.asg (.tmp 27))⟩]) (.seq (.ops [
  ⟨(some 28), none, (.mv (.tmp 5))⟩,
  ⟨(some 29), none, (.un .not (.tmp 28))⟩,
  ⟨(some 30), none, (.mv (.tmp 29))⟩,
  ⟨(some 31), (some (30, true)), (.mv (.tmp 3))⟩,
  ⟨(some 32), (some (30, true)), (.bin .eql (.tmp 31) (.const (.int .i64 0)))⟩,
  ⟨(some 33), (some (30, true)), (.mv (.tmp 32))⟩,
  ⟨(some 34), (some (33, false)), (.mv (.tmp 4))⟩,
  ⟨(some 35), (some (33, false)), (.bin .lss (.tmp 34) (.const (.int .u8 48)))⟩,
  ⟨(some 36), (some (33, false)), (.mv (.tmp 35))⟩,
  ⟨(some 37), (some (36, false)), (.mv (.tmp 4))⟩,
  ⟨(some 38), (some (36, false)), (.bin .gtr (.tmp 37) (.const (.int .u8 57)))⟩,
  ⟨(some 39), (some (33, false)), (.pick (.tmp 36) (.const (.bool true)) (.tmp 38))⟩,
  ⟨(some 40), (some (33, false)), (.mv (.tmp 39))⟩,
  ⟨(some 41), (some (40, true)), (.mv (.tmp 4))⟩,
  ⟨(some 42), (some (40, true)), (.bin .neq (.tmp 41) (.const (.int .u8 95)))⟩,
  ⟨(some 43), (some (33, false)), (.pick (.tmp 40) (.tmp 42) (.const (.bool false)))⟩,
  ⟨(some 44), (some (30, true)), (.pick (.tmp 33) (.const (.bool true)) (.tmp 43))⟩,
  ⟨(some 45), none, (.pick (.tmp 30) (.tmp 44) (.const (.bool false)))⟩]) (.cond (.tmp 45) (.seq (.ops [
  ⟨(some 2), none, (.asg (.const (.bool false)))⟩]) .ret) .skip)))))) (.ops [
  ⟨(some 46), none, (.bin .add (.tmp 8) (.const (.int .i64 1)))⟩,
  ⟨(some 8), none, (.mv (.tmp 46))⟩]))))))) (.seq (.ops [
  ⟨(some 47), none, (.mv (.tmp 0))⟩,
  ⟨(some 48), none, (.lenS (.tmp 47))⟩,
  ⟨(some 49), none, (.bin .geq (.tmp 48) (.const (.int .i64 1)))⟩,
  ⟨(some 50), none, (.mv (.tmp 49))⟩,
  ⟨(some 51), (some (50, true)), (.mv (.tmp 0))⟩,
  ⟨(some 52), (some (50, true)), (.lenS (.tmp 51))⟩,
  ⟨(some 53), (some (50, true)), (.bin .leq (.tmp 52) (.const (.int .i64 12)))⟩,
  ⟨(some 54), none, (.pick (.tmp 50) (.tmp 53) (.const (.bool false)))⟩,
  ⟨(some 2), none, (.asg (.tmp 54))⟩]) .ret)))
theorem law_impl_IsName {a0 d : D} (h : code_impl_IsName.wp (CT Try.prog NoG) (endQ [(.t 2)] d) [a0, .undef, .undef, .undef, .undef, .undef, .undef, .undef, .undef, .undef, .undef, .undef, .undef, .undef, .undef, .undef, .undef, .undef, .undef, .undef, .undef, .undef, .undef, .undef, .undef, .undef, .undef, .undef, .undef, .undef, .undef, .undef, .undef, .undef, .undef, .undef, .undef, .undef, .undef, .undef, .undef, .undef, .undef, .undef, .undef, .undef, .undef, .undef, .undef, .undef, .undef, .undef, .undef, .undef, .undef]) : Contract Try.prog NoG 109 [a0] d :=
  contract_of (pt := 0) noG Try.func109 (fun us W => by kernel_rfl) (c := Try.f109.body.getD .skip) (ms := [(mB 55 36028797018963582)]) (ms' := []) (by kernel_rfl) (by kernel_rfl) (by kernel_rfl) h
set_option maxHeartbeats 2000000 in
theorem vIsName_impl (s : ByteArray) (hs : s.size ≤ 1048576) : Contract Try.prog NoG 109 [.v (.string s)] (.v (.bool (isNameB s))) := by
  refine law_impl_IsName ?_; unfold code_impl_IsName; simp -implicitDefEqProofs (disch := omega) only [go_sem, ↓reduceIte , Int.natCast_zero, Int.natCast_one, Int.cast_ofNat_Int, Int.ofNat_le, Int.toNat_zero, Nat.sub_zero, Int.le_refl, Int.reduceLT, Int.reduceLE, Int.reduceEq, Int.reduceAdd, Int.reduceSub, Int.reduceMul, Int.reduceToNat, Int.reduceNeg]; refine loop_st (fun i : Nat => [.v (.string s), .undef, .undef, .undef, .undef, .undef, .undef, .v (.int .i64 s.size), .v (.int .i64 i), .undef, .undef, .undef, .undef, .undef, .undef, .undef, .undef, .undef, .undef, .undef, .undef, .undef, .undef, .undef, .undef, .undef, .undef, .undef, .undef, .undef, .undef, .undef, .undef, .undef, .undef, .undef, .undef, .undef, .undef, .undef, .undef, .undef, .undef, .undef, .undef, .undef, .undef, .undef, .undef, .undef, .undef, .undef, .undef, .undef, .undef]) (fun i => i ≤ s.size ∧ (List.range i).all (fun i => chOK i (chAt s i)) = true) (fun i => s.size - i) 0 (nleA) ⟨by omega, by simp⟩ ?_; rintro i ⟨hi, ha⟩; simp -implicitDefEqProofs (disch := omega) only [go_sem, ↓reduceIte , Int.ofNat_lt]; refine cond_split ?_ ?_ <;> intro hlt
  · have hlt : i < s.size := of_decide_eq_true hlt; have hb := byte_at hlt; have hc := chAt_some hb; have next : chOK i (s[i].toNat : Int) = true → ∃ b, s.size - b < s.size - i ∧ (b ≤ s.size ∧ (List.range b).all (fun i => chOK i (chAt s i)) = true) ∧ b = i + 1 := fun h => ⟨i + 1, by omega, ⟨hlt, all_next ha (by rw [hc]; exact h)⟩, rfl⟩
    have bad : chOK i (s[i].toNat : Int) = false → isNameB s = false := fun h => name_no hlt (by rw [hc]; exact h); generalize hcc : (s[i].toNat : Int) = c at next bad
    by_cases gA : 97 ≤ c
    · by_cases gB : c ≤ 122
      · skip
        have eA : decide (97 ≤ c) = true := decide_eq_true (by omega); have eB : decide (c ≤ 122) = true := decide_eq_true (by omega); simp -implicitDefEqProofs (disch := omega) only [go_sem, ↓reduceIte , Int.toNat_natCast, hb, Int.natCast_nonneg, hcc, wrN, eA, eB]; obtain ⟨b, k1, k2, rfl⟩ := next (by simp only [chOK, isLet, isDig, Bool.or_eq_true, Bool.and_eq_true, decide_eq_true_eq]; omega)
        exact ⟨_, k1, k2, nleA⟩
      · by_cases gE : i = 0
        · skip
          have eA : decide (97 ≤ c) = true := decide_eq_true (by omega); have eB : decide (c ≤ 122) = false := decide_eq_false (by omega); have eC : decide (65 ≤ c) = true := decide_eq_true (by omega); have eD : decide (c ≤ 90) = false := decide_eq_false (by omega); have eE : decide ((i : Int) = 0) = true := decide_eq_true (by omega); simp -implicitDefEqProofs (disch := omega) only [go_sem, ↓reduceIte , Int.toNat_natCast, hb, Int.natCast_nonneg, hcc, wrN, eA, eB, eC, eD, eE]; rw [bad (by simp only [chOK, isLet, isDig, Bool.or_eq_false_iff, Bool.and_eq_false_iff, decide_eq_false_iff_not]; omega)]
        · skip
          have eA : decide (97 ≤ c) = true := decide_eq_true (by omega); have eB : decide (c ≤ 122) = false := decide_eq_false (by omega); have eC : decide (65 ≤ c) = true := decide_eq_true (by omega); have eD : decide (c ≤ 90) = false := decide_eq_false (by omega); have eE : decide ((i : Int) = 0) = false := decide_eq_false (by omega); have eF : decide (c < 48) = false := decide_eq_false (by omega); have eG : decide (57 < c) = true := decide_eq_true (by omega); have eH : decide (c = 95) = false := decide_eq_false (by omega); simp -implicitDefEqProofs (disch := omega) only [go_sem, ↓reduceIte , Int.toNat_natCast, hb, Int.natCast_nonneg, hcc, wrN, eA, eB, eC, eD, eE, eF, eG, eH]; rw [bad (by simp only [chOK, isLet, isDig, Bool.or_eq_false_iff, Bool.and_eq_false_iff, decide_eq_false_iff_not]; omega)]
    · by_cases gC : 65 ≤ c
      · by_cases gD : c ≤ 90
        · skip
          have eA : decide (97 ≤ c) = false := decide_eq_false (by omega); have eC : decide (65 ≤ c) = true := decide_eq_true (by omega); have eD : decide (c ≤ 90) = true := decide_eq_true (by omega); simp -implicitDefEqProofs (disch := omega) only [go_sem, ↓reduceIte , Int.toNat_natCast, hb, Int.natCast_nonneg, hcc, wrN, eA, eC, eD]; obtain ⟨b, k1, k2, rfl⟩ := next (by simp only [chOK, isLet, isDig, Bool.or_eq_true, Bool.and_eq_true, decide_eq_true_eq]; omega)
          exact ⟨_, k1, k2, nleA⟩
        · by_cases gE : i = 0
          · skip
            have eA : decide (97 ≤ c) = false := decide_eq_false (by omega); have eC : decide (65 ≤ c) = true := decide_eq_true (by omega); have eD : decide (c ≤ 90) = false := decide_eq_false (by omega); have eE : decide ((i : Int) = 0) = true := decide_eq_true (by omega); simp -implicitDefEqProofs (disch := omega) only [go_sem, ↓reduceIte , Int.toNat_natCast, hb, Int.natCast_nonneg, hcc, wrN, eA, eC, eD, eE]; rw [bad (by simp only [chOK, isLet, isDig, Bool.or_eq_false_iff, Bool.and_eq_false_iff, decide_eq_false_iff_not]; omega)]
          · by_cases gH : c = 95
            · skip
              have eA : decide (97 ≤ c) = false := decide_eq_false (by omega); have eC : decide (65 ≤ c) = true := decide_eq_true (by omega); have eD : decide (c ≤ 90) = false := decide_eq_false (by omega); have eE : decide ((i : Int) = 0) = false := decide_eq_false (by omega); have eF : decide (c < 48) = false := decide_eq_false (by omega); have eG : decide (57 < c) = true := decide_eq_true (by omega); have eH : decide (c = 95) = true := decide_eq_true (by omega); simp -implicitDefEqProofs (disch := omega) only [go_sem, ↓reduceIte , Int.toNat_natCast, hb, Int.natCast_nonneg, hcc, wrN, eA, eC, eD, eE, eF, eG, eH]; obtain ⟨b, k1, k2, rfl⟩ := next (by simp only [chOK, isLet, isDig, Bool.or_eq_true, Bool.and_eq_true, decide_eq_true_eq]; omega)
              exact ⟨_, k1, k2, nleA⟩
            · skip
              have eA : decide (97 ≤ c) = false := decide_eq_false (by omega); have eC : decide (65 ≤ c) = true := decide_eq_true (by omega); have eD : decide (c ≤ 90) = false := decide_eq_false (by omega); have eE : decide ((i : Int) = 0) = false := decide_eq_false (by omega); have eF : decide (c < 48) = false := decide_eq_false (by omega); have eG : decide (57 < c) = true := decide_eq_true (by omega); have eH : decide (c = 95) = false := decide_eq_false (by omega); simp -implicitDefEqProofs (disch := omega) only [go_sem, ↓reduceIte , Int.toNat_natCast, hb, Int.natCast_nonneg, hcc, wrN, eA, eC, eD, eE, eF, eG, eH]; rw [bad (by simp only [chOK, isLet, isDig, Bool.or_eq_false_iff, Bool.and_eq_false_iff, decide_eq_false_iff_not]; omega)]
      · by_cases gE : i = 0
        · skip
          have eA : decide (97 ≤ c) = false := decide_eq_false (by omega); have eC : decide (65 ≤ c) = false := decide_eq_false (by omega); have eE : decide ((i : Int) = 0) = true := decide_eq_true (by omega); simp -implicitDefEqProofs (disch := omega) only [go_sem, ↓reduceIte , Int.toNat_natCast, hb, Int.natCast_nonneg, hcc, wrN, eA, eC, eE]; rw [bad (by simp only [chOK, isLet, isDig, Bool.or_eq_false_iff, Bool.and_eq_false_iff, decide_eq_false_iff_not]; omega)]
        · by_cases gF : c < 48
          · skip
            have eA : decide (97 ≤ c) = false := decide_eq_false (by omega); have eC : decide (65 ≤ c) = false := decide_eq_false (by omega); have eE : decide ((i : Int) = 0) = false := decide_eq_false (by omega); have eF : decide (c < 48) = true := decide_eq_true (by omega); have eH : decide (c = 95) = false := decide_eq_false (by omega); simp -implicitDefEqProofs (disch := omega) only [go_sem, ↓reduceIte , Int.toNat_natCast, hb, Int.natCast_nonneg, hcc, wrN, eA, eC, eE, eF, eH]; rw [bad (by simp only [chOK, isLet, isDig, Bool.or_eq_false_iff, Bool.and_eq_false_iff, decide_eq_false_iff_not]; omega)]
          · by_cases gG : 57 < c
            · skip
              have eA : decide (97 ≤ c) = false := decide_eq_false (by omega); have eC : decide (65 ≤ c) = false := decide_eq_false (by omega); have eE : decide ((i : Int) = 0) = false := decide_eq_false (by omega); have eF : decide (c < 48) = false := decide_eq_false (by omega); have eG : decide (57 < c) = true := decide_eq_true (by omega); have eH : decide (c = 95) = false := decide_eq_false (by omega); simp -implicitDefEqProofs (disch := omega) only [go_sem, ↓reduceIte , Int.toNat_natCast, hb, Int.natCast_nonneg, hcc, wrN, eA, eC, eE, eF, eG, eH]; rw [bad (by simp only [chOK, isLet, isDig, Bool.or_eq_false_iff, Bool.and_eq_false_iff, decide_eq_false_iff_not]; omega)]
            · skip
              have eA : decide (97 ≤ c) = false := decide_eq_false (by omega); have eC : decide (65 ≤ c) = false := decide_eq_false (by omega); have eE : decide ((i : Int) = 0) = false := decide_eq_false (by omega); have eF : decide (c < 48) = false := decide_eq_false (by omega); have eG : decide (57 < c) = false := decide_eq_false (by omega); simp -implicitDefEqProofs (disch := omega) only [go_sem, ↓reduceIte , Int.toNat_natCast, hb, Int.natCast_nonneg, hcc, wrN, eA, eC, eE, eF, eG]; obtain ⟨b, k1, k2, rfl⟩ := next (by simp only [chOK, isLet, isDig, Bool.or_eq_true, Bool.and_eq_true, decide_eq_true_eq]; omega)
              exact ⟨_, k1, k2, nleA⟩
  · have hlt : i = s.size := (by have : ¬ i < s.size := of_decide_eq_false hlt; omega); subst hlt; simp -implicitDefEqProofs (disch := omega) only [go_sem, ↓reduceIte]; unfold isNameB; rw [ha, Bool.and_true]; refine guard_split ?_ ?_ <;> intro h1
    · have h1' : decide (1 ≤ s.size) = true := decide_eq_true (by have := of_decide_eq_true h1; omega); simp -implicitDefEqProofs (disch := omega) only [go_sem, ↓reduceIte , h1, h1']; have e : decide ((s.size : Int) ≤ 12) = decide (s.size ≤ 12) := (by rw [decide_eq_decide]; omega); rw [e]
    · have h1' : decide (1 ≤ s.size) = false := decide_eq_false (by have := of_decide_eq_false h1; omega); simp -implicitDefEqProofs (disch := omega) only [go_sem, ↓reduceIte , h1, h1']
def code_slices_IndexFunc_int64_int64 : VCode := (.seq (.ops [
  ⟨(some 4), none, (.asg (.const (.int .i64 0)))⟩]) (.seq (.seq (.ops [
  ⟨(some 6), none, (.mv (.tmp 0))⟩,
  ⟨(some 7), none, (.len (.tmp 6))⟩,
  ⟨(some 8), none, (.mv (.const (.int .i64 0)))⟩]) (.block 0 (.loop (mB 19 523900) (.seq (.ops [
  ⟨(some 9), none, (.bin .lss (.tmp 8) (.tmp 7))⟩]) (.seq (.cond (.tmp 9) .skip (.exit 0)) (.seq (.block 1 (.seq (.ops [
  ⟨(some 10), none, (.mv (.tmp 8))⟩,
  ⟨(some 5), none, (.asg (.tmp 10))⟩]) (.seq (.ops [
  ⟨(some 11), none, (.mv (.tmp 1))⟩,
  ⟨(some 12), none, (.mv (.tmp 0))⟩,
  ⟨(some 13), none, (.mv (.tmp 5))⟩,
  ⟨(some 14), none, (.ia 1 (.tmp 12) (.tmp 13))⟩,
  ⟨(some 15), none, (.load 1 false (.tmp 14))⟩,
  ⟨(some 16), none, (.callvX (.tmp 11) [(.tmp 15)])⟩]) (.cond (.tmp 16) (.seq (.ops [
  ⟨(some 17), none, (.mv (.tmp 5))⟩,
  ⟨(some 4), none, (.asg (.tmp 17))⟩]) .ret) .skip)))) (.ops [
  ⟨(some 18), none, (.bin .add (.tmp 8) (.const (.int .i64 1)))⟩,
  ⟨(some 8), none, (.mv (.tmp 18))⟩]))))))) (.seq (.ops [
  ⟨(some 4), none, (.asg (.const (.int .i64 (-1))))⟩]) .ret)))
theorem law_slices_IndexFunc_int64_int64 {a0 a1 d : D} (h : code_slices_IndexFunc_int64_int64.wp (CT Try.prog NoG) (endQ [(.t 4)] d) [a0, a1, .undef, .undef, .undef, .undef, .undef, .undef, .undef, .undef, .undef, .undef, .undef, .undef, .undef, .undef, .undef, .undef, .undef]) : Contract Try.prog NoG 131 [a0, a1] d :=
  contract_of (pt := 0) noG Try.func131 (fun us W => by kernel_rfl) (c := Try.f131.body.getD .skip) (ms := [(mB 19 523900)]) (ms' := []) (by kernel_rfl) (by kernel_rfl) (by kernel_rfl) h
theorem v_IndexFunc_Int64 (f : FuncId) (caps : List D) (hd : CapsOK caps) (xs : List Int) (p : Int → Bool) (hc : ∀ x, x ∈ xs → Contract Try.prog NoG f (.v (.int .i64 x) :: caps) (.v (.bool (p x)))) (hn : xs.length ≤ 1099511627776) :
    Contract Try.prog NoG 131 [.sl false 1 (xs.map (rI)), .fn f [] caps] (.v (.int .i64 (vIdx p xs))) := by
  refine law_slices_IndexFunc_int64_int64 ?_; unfold code_slices_IndexFunc_int64_int64; simp -implicitDefEqProofs (disch := omega) only [go_sem, ↓reduceIte , hd.owny, hd.pr]; refine loop_st (fun i : Nat => [.sl false 1 (xs.map (rI)), .fn f [] caps, .undef, .undef, .undef, .undef, .undef, .v (.int .i64 (xs.map (rI)).length), .v (.int .i64 i), .undef, .undef, .undef, .undef, .undef, .undef, .undef, .undef, .undef, .undef]) (fun i => i ≤ xs.length ∧ ∀ j (hj : j < xs.length), j < i → p xs[j] = false) (fun i => xs.length - i) 0 ?_ ⟨Nat.zero_le _, fun j _ h => absurd h (Nat.not_lt_zero _)⟩ ?_
  · simp -implicitDefEqProofs (disch := omega) only [go_sem, ↓reduceIte , hd.owny, hd.pr]
    (try simp -implicitDefEqProofs only [nleL_cc, nleL_nn, nle_self, nle_boxs, nle_aggs, nle_nils, and_self, and_true, true_and]) <;> repeat' (first | exact nle_of_eq rfl | exact nle_nil | apply And.intro | apply nle_sl | apply nleLL_cons | apply nleL_cons | exact nleL_nil | exact nleLL_nil | apply nle_box | apply nle_agg)
  rintro i ⟨hi, ha⟩; simp -implicitDefEqProofs (disch := omega) only [go_sem, ↓reduceIte , List.length_map, Int.toNat_natCast, Int.ofNat_lt, Int.natCast_nonneg, List.getElem?_map, Option.map_some, hd.owny, hd.pr]; refine cond_split ?_ ?_ <;> intro hlt
  · have hlt : i < xs.length := (by simpa using hlt); have hx := List.getElem?_eq_getElem hlt; simp -implicitDefEqProofs (disch := omega) only [go_sem, ↓reduceIte , List.length_map, Int.toNat_natCast, Int.ofNat_lt, Int.natCast_nonneg, List.getElem?_map, Option.map_some, hlt, hx, hd.owny, hd.pr]; have hcx := hc _ (List.getElem_mem hlt); refine callv_le (f := f) (first := []) (caps := caps) ?_ hcx ?_ (.inl rfl) ?_
    · simp -implicitDefEqProofs (disch := omega) only [go_sem, ↓reduceIte , hd.owny]
    · refine leL_of_eq ?_; simp only [List.nil_append, List.cons_append, List.map_cons, List.map_nil, hd.d8, List.map_append]; simp only [deep, raw, List.getElem?_cons_succ, List.getElem?_cons_zero, List.map_cons, List.map_nil, TD.rows, immLL_rI, immLL_rB8, immLL_rS, immLL_rBo]
    simp -implicitDefEqProofs (disch := omega) only [go_sem, ↓reduceIte , hd.owny, hd.pr]; refine cond_split ?_ ?_ <;> intro hp
    · simp -implicitDefEqProofs (disch := omega) only [go_sem, ↓reduceIte , hd.owny, hd.pr]; rw [vIdx_hit p xs i hlt ha hp]
    · simp -implicitDefEqProofs (disch := omega) only [go_sem, ↓reduceIte , wrN, hd.owny, hd.pr]; refine ⟨i + 1, by omega, ⟨hlt, fun j hj h => ?_⟩, nleA⟩; rcases Nat.lt_or_ge j i with h' | h'
      · exact ha j hj h'
      · have : j = i := (by omega); subst this; exact hp
  · have hlt : ¬ i < xs.length := (by simpa using hlt); simp -implicitDefEqProofs (disch := omega) only [go_sem, ↓reduceIte]; rw [vIdx_miss p xs (fun j hj => ha j hj (by omega))]
def code_slices_ContainsFunc_int64_int64 : VCode := (.seq (.ops [
  ⟨(some 4), none, (.asg (.const (.bool false)))⟩]) (.seq (.ops [
  ⟨(some 5), none, (.mv (.tmp 0))⟩,
  ⟨(some 6), none, (.mv (.tmp 1))⟩,
  ⟨(some 7), none, (.callX 131 [(.tmp 5), (.tmp 6)])⟩,
  ⟨(some 8), none, (.bin .geq (.tmp 7) (.const (.int .i64 0)))⟩,
  ⟨(some 4), none, (.asg (.tmp 8))⟩]) .ret))
theorem law_slices_ContainsFunc_int64_int64 {a0 a1 d : D} (h : code_slices_ContainsFunc_int64_int64.wp (CT Try.prog NoG) (endQ [(.t 4)] d) [a0, a1, .undef, .undef, .undef, .undef, .undef, .undef, .undef]) : Contract Try.prog NoG 110 [a0, a1] d :=
  contract_of (pt := 0) noG Try.func110 (fun us W => by kernel_rfl) (c := Try.f110.body.getD .skip) (ms := []) (ms' := []) (by kernel_rfl) (by kernel_rfl) (by kernel_rfl) h
theorem v_ContainsFunc_Int64 (f : FuncId) (caps : List D) (hd : CapsOK caps) (xs : List Int) (p : Int → Bool) (hc : ∀ x, x ∈ xs → Contract Try.prog NoG f (.v (.int .i64 x) :: caps) (.v (.bool (p x)))) (hn : xs.length ≤ 1099511627776) :
    Contract Try.prog NoG 110 [.sl false 1 (xs.map (rI)), .fn f [] caps] (.v (.bool (xs.any p))) := by
  refine law_slices_ContainsFunc_int64_int64 ?_; unfold code_slices_ContainsFunc_int64_int64; simp -implicitDefEqProofs (disch := omega) only [go_sem, ↓reduceIte , hd.owny, hd.pr]; refine call_le (v_IndexFunc_Int64 f caps hd xs p hc hn) ?_ (.inl rfl) ?_
  · refine leL_of_eq ?_; simp only [List.map_cons, List.map_nil, deep, raw, List.getElem?_cons_succ, List.getElem?_cons_zero, TD.rows, immLL_rI, immLL_rB8, immLL_rS, immLL_rBo, hd.owny, hd.pr, hd.d7]
    try rfl
  simp -implicitDefEqProofs (disch := omega) only [go_sem, ↓reduceIte]; exact congrArg Value.bool (vIdx_any p xs)
def code_laws_toInt64S : VCode := (.seq (.ops [
  ⟨(some 2), none, (.asg (.const (.slice none 0 0)))⟩]) (.seq (.ops [
  ⟨(some 5), none, (.mv (.tmp 0))⟩,
  ⟨(some 6), none, (.len (.tmp 5))⟩,
  ⟨(some 7), none, (.mks 1 8 [(.int .i64 0)] (.tmp 6) (.tmp 6))⟩,
  ⟨(some 3), none, (.asg (.tmp 7))⟩]) (.seq (.seq (.ops [
  ⟨(some 4), none, (.asg (.const (.int .i64 0)))⟩]) (.block 0 (.loop (mB 22 4194150) (.seq (.seq (.ops [
  ⟨(some 8), none, (.mv (.tmp 4))⟩,
  ⟨(some 9), none, (.mv (.tmp 0))⟩,
  ⟨(some 10), none, (.len (.tmp 9))⟩,
  ⟨(some 11), none, (.bin .lss (.tmp 8) (.tmp 10))⟩]) (.cond (.tmp 11) .skip (.exit 0))) (.seq (.block 1 (.ops [
  ⟨(some 14), none, (.mv (.tmp 3))⟩,
  ⟨(some 15), none, (.mv (.tmp 4))⟩,
  ⟨(some 16), none, (.mv (.tmp 0))⟩,
  ⟨(some 17), none, (.mv (.tmp 4))⟩,
  ⟨(some 18), none, (.ia 1 (.tmp 16) (.tmp 17))⟩,
  ⟨(some 19), none, (.load 1 false (.tmp 18))⟩,
  ⟨(some 20), none, (.ia 1 (.tmp 14) (.tmp 15))⟩,
  ⟨none, none, (.store 1 (.tmp 20) (.tmp 19))⟩])) (.ops [
  ⟨(some 12), none, (.mv (.tmp 4))⟩,
  ⟨(some 13), none, (.bin .add (.tmp 12) (.const (.int .i64 1)))⟩,
  ⟨(some 4), none, (.asg (.tmp 13))⟩])))))) (.seq (.ops [
  ⟨(some 21), none, (.mv (.tmp 3))⟩,
  ⟨(some 2), none, (.asg (.tmp 21))⟩]) .ret))))
theorem law_laws_toInt64S {a0 d : D} (h : code_laws_toInt64S.wp (CT Try.prog NoG) (endQ [(.t 2)] d) [a0, .undef, .undef, .undef, .undef, .undef, .undef, .undef, .undef, .undef, .undef, .undef, .undef, .undef, .undef, .undef, .undef, .undef, .undef, .undef, .undef, .undef]) : Contract Try.prog NoG 108 [a0] d :=
  contract_of (pt := 0) noG Try.func108 (fun us W => by kernel_rfl) (c := Try.f108.body.getD .skip) (ms := [(mB 22 4194150)]) (ms' := []) (by kernel_rfl) (by kernel_rfl) (by kernel_rfl) h
set_option maxHeartbeats 2000000 in
theorem v_toInt64S (xs : List Int) (hn : xs.length ≤ 1048576) : Contract Try.prog NoG 108 [.sl false 1 (xs.map (rI))] (.sl true 1 (xs.map (rI))) := by
  have hl : xs.length ≤ 1048576 := (by exact hn); refine law_laws_toInt64S ?_; unfold code_laws_toInt64S; simp -implicitDefEqProofs (disch := omega) only [go_sem, ↓reduceIte , List.length_map, Int.toNat_natCast]; refine ⟨by omega, by omega, by omega, ?_⟩; refine loop_st (fun k : Nat => [.sl false 1 (xs.map (rI)), .undef, .undef, .sl true 1 ((xs.take k).map (rI) ++ List.replicate (xs.length - k) [D.v (.int .i64 0)]), .v (.int .i64 k), .undef, .undef, .undef, .undef, .undef, .undef, .undef, .undef, .undef, .undef, .undef, .undef, .undef, .undef, .undef, .undef, .undef]) (fun k => k ≤ xs.length) (fun k => xs.length - k) 0 (nleA) (Nat.zero_le _) ?_; intro k hk; simp -implicitDefEqProofs (disch := omega) only [go_sem, ↓reduceIte , List.length_map, Int.toNat_natCast, Int.ofNat_lt, Int.natCast_nonneg, List.getElem?_map, Option.map_some]; refine cond_split ?_ ?_ <;> intro hlt
  · have hlt : k < xs.length := (by simpa using hlt); have e1 := List.getElem?_eq_getElem hlt; have g1 := fill_len xs (rI) [D.v (.int .i64 0)] k; have g2 := fill_at xs (rI) [D.v (.int .i64 0)] k hlt; have g3 := fill_next xs (rI) [D.v (.int .i64 0)] k hlt; have g4 : k < ((xs.take k).map (rI) ++ List.replicate (xs.length - k) [D.v (.int .i64 0)]).length := (by rw [g1]; exact hlt); simp -implicitDefEqProofs (disch := omega) only [go_sem, ↓reduceIte , List.length_map, Int.toNat_natCast, Int.ofNat_lt, Int.natCast_nonneg, List.getElem?_map, Option.map_some, hlt, e1, g1, g2, List.set_set, List.getElem?_set_self g4, wrN]; refine ⟨k + 1, by omega, hlt, ?_⟩; rw [← g3]
    (try simp -implicitDefEqProofs only [nleL_cc, nleL_nn, nle_self, nle_boxs, nle_aggs, nle_nils, and_self, and_true, true_and]) <;> repeat' (first | exact nle_of_eq rfl | exact nle_nil | apply And.intro | apply nle_sl | apply nleLL_cons | apply nleL_cons | exact nleL_nil | exact nleLL_nil | apply nle_box | apply nle_agg)
  · have hge : k = xs.length := (by have : ¬ k < xs.length := (by simpa using hlt); omega); subst hge; simp -implicitDefEqProofs (disch := omega) only [go_sem, ↓reduceIte , fill_end]
end Go.Proofs.Ytgnlikamelfmjaa
