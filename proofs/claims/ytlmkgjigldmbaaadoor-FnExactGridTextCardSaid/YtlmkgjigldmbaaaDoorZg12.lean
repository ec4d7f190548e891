/- Laws that the proof stands on. -/
import Derived.Test.YtlmkgjigldmbaaaDoorZVB
import Derived.Test.YtlmkgjigldmbaaaDoorProg
import Derived.Test.YtlmkgjigldmbaaaDoorZVTab
import Derived.Test.YtlmkgjigldmbaaaDoorZg11
set_option linter.all false
namespace Go.Proofs.YtlmkgjigldmbaaaDoor
open Go.RowKit Go.V
attribute [local go_sem] List.getElem?_cons_succ List.getElem?_cons_zero List.set_cons_succ List.set_cons_zero List.map_cons List.map_nil List.length_cons List.length_nil List.all_cons List.all_nil List.drop_succ_cons List.drop_zero List.take_succ_cons List.take_zero List.flatMap_cons List.flatMap_nil List.cons_append List.nil_append List.append_nil List.headD_cons Value.oneCell' Bool.and_true Bool.true_and Bool.or_false Bool.false_or Bool.and_self Bool.not_true Bool.not_false and_true true_and beq_self_eq_true Bool.false_eq_true if_true if_false Nat.zero_add Nat.reduceAdd Nat.reduceMul Nat.reduceLeDiff Nat.le_refl Option.isSome_some Option.isSome_none not_true_eq_false not_false_eq_true ne_eq reduceCtorEq List.reverse_nil bne_self_eq_false Nat.reduceEqDiff List.isPrefixOf Bool.not_eq_true Bool.and_false Bool.false_and Bool.true_or Bool.or_true decide_true decide_false Nat.reduceBEq Nat.reduceBNe List.replicate_succ List.replicate_zero exists_eq_left' exists_eq_left Option.some.injEq or_false or_true true_or false_or Option.map_some Option.map_none mB Nat.reduceMod Nat.reduceDiv
set_option maxRecDepth 100000
def inR (lo hi n : Int) : Bool := decide (lo ≤ n) && decide (n ≤ hi)
theorem inR_iff {lo hi n : Int} : inR lo hi n = true ↔ lo ≤ n ∧ n ≤ hi := by simp [inR]
def code_spec_l00In : VCode := (.seq (.ops [
  ⟨(some 6), none, (.asg (.const (.bool false)))⟩]) (.seq (.ops [
  ⟨(some 7), none, (.mv (.tmp 0))⟩,
  ⟨(some 8), none, (.mv (.tmp 1))⟩,
  ⟨(some 9), none, (.bin .geq (.tmp 7) (.tmp 8))⟩,
  ⟨(some 10), none, (.mv (.tmp 9))⟩,
  ⟨(some 11), (some (10, true)), (.mv (.tmp 0))⟩,
  ⟨(some 12), (some (10, true)), (.mv (.tmp 2))⟩,
  ⟨(some 13), (some (10, true)), (.bin .leq (.tmp 11) (.tmp 12))⟩,
  ⟨(some 14), none, (.pick (.tmp 10) (.tmp 13) (.const (.bool false)))⟩,
  ⟨(some 6), none, (.asg (.tmp 14))⟩]) .ret))
theorem law_spec_l00In {a0 a1 a2 d : D} (h : code_spec_l00In.wp (CT Tryd.prog TabG) (endQ [(.t 6)] d) [a0, a1, a2, .undef, .undef, .undef, .undef, .undef, .undef, .undef, .undef, .undef, .undef, .undef, .undef]) : Contract Tryd.prog TabG 55 [a0, a1, a2] d :=
  contract_of (pt := 0) tabG Tryd.func55 (fun us W => by kernel_rfl) (c := Tryd.f55.body.getD .skip) (ms := []) (ms' := []) (by kernel_rfl) (by kernel_rfl) (by kernel_rfl) h
theorem v_l00In (a b c : Int) : Contract Tryd.prog TabG 55 [.v (.int .i64 a), .v (.int .i64 b), .v (.int .i64 c)] (.v (.bool (inR b c a))) := by
  refine law_spec_l00In ?_; unfold code_spec_l00In inR; simp -implicitDefEqProofs (disch := omega) only [go_sem, ↓reduceIte]; refine guard_split ?_ ?_ <;> intro h
  · simp -implicitDefEqProofs (disch := omega) only [go_sem, ↓reduceIte , h]
  · simp -implicitDefEqProofs (disch := omega) only [go_sem, ↓reduceIte , h]
def code_impl_within : VCode := (.seq (.ops [
  ⟨(some 6), none, (.asg (.const (.bool false)))⟩]) (.seq (.ops [
  ⟨(some 7), none, (.mv (.tmp 0))⟩,
  ⟨(some 8), none, (.mv (.tmp 1))⟩,
  ⟨(some 9), none, (.bin .geq (.tmp 7) (.tmp 8))⟩,
  ⟨(some 10), none, (.mv (.tmp 9))⟩,
  ⟨(some 11), (some (10, true)), (.mv (.tmp 0))⟩,
  ⟨(some 12), (some (10, true)), (.mv (.tmp 2))⟩,
  ⟨(some 13), (some (10, true)), (.bin .leq (.tmp 11) (.tmp 12))⟩,
  ⟨(some 14), none, (.pick (.tmp 10) (.tmp 13) (.const (.bool false)))⟩,
  ⟨(some 6), none, (.asg (.tmp 14))⟩]) .ret))
theorem law_impl_within {a0 a1 a2 d : D} (h : code_impl_within.wp (CT Tryd.prog TabG) (endQ [(.t 6)] d) [a0, a1, a2, .undef, .undef, .undef, .undef, .undef, .undef, .undef, .undef, .undef, .undef, .undef, .undef]) : Contract Tryd.prog TabG 59 [a0, a1, a2] d :=
  contract_of (pt := 0) tabG Tryd.func59 (fun us W => by kernel_rfl) (c := Tryd.f59.body.getD .skip) (ms := []) (ms' := []) (by kernel_rfl) (by kernel_rfl) (by kernel_rfl) h
theorem v_within (a b c : Int) : Contract Tryd.prog TabG 59 [.v (.int .i64 a), .v (.int .i64 b), .v (.int .i64 c)] (.v (.bool (inR b c a))) := by
  refine law_impl_within ?_; unfold code_impl_within inR; simp -implicitDefEqProofs (disch := omega) only [go_sem, ↓reduceIte]; refine guard_split ?_ ?_ <;> intro h
  · simp -implicitDefEqProofs (disch := omega) only [go_sem, ↓reduceIte , h]
  · simp -implicitDefEqProofs (disch := omega) only [go_sem, ↓reduceIte , h]
def code_spec_l00Min : VCode := (.seq (.ops [
  ⟨(some 4), none, (.asg (.const (.int .i64 0)))⟩]) (.seq (.seq (.ops [
  ⟨(some 5), none, (.mv (.tmp 0))⟩,
  ⟨(some 6), none, (.mv (.tmp 1))⟩,
  ⟨(some 7), none, (.bin .lss (.tmp 5) (.tmp 6))⟩]) (.cond (.tmp 7) (.seq (.ops [
  ⟨(some 8), none, (.mv (.tmp 0))⟩,
  ⟨(some 4), none, (.asg (.tmp 8))⟩]) .ret) .skip)) (.seq (.ops [
  ⟨(some 9), none, (.mv (.tmp 1))⟩,
  ⟨(some 4), none, (.asg (.tmp 9))⟩]) .ret)))
theorem law_spec_l00Min {a0 a1 d : D} (h : code_spec_l00Min.wp (CT Tryd.prog TabG) (endQ [(.t 4)] d) [a0, a1, .undef, .undef, .undef, .undef, .undef, .undef, .undef, .undef]) : Contract Tryd.prog TabG 69 [a0, a1] d :=
  contract_of (pt := 0) tabG Tryd.func69 (fun us W => by kernel_rfl) (c := Tryd.f69.body.getD .skip) (ms := []) (ms' := []) (by kernel_rfl) (by kernel_rfl) (by kernel_rfl) h
theorem v_l00Min (a b : Int) : Contract Tryd.prog TabG 69 [.v (.int .i64 a), .v (.int .i64 b)] (.v (.int .i64 (min a b))) := by
  refine law_spec_l00Min ?_; unfold code_spec_l00Min; simp -implicitDefEqProofs (disch := omega) only [go_sem, ↓reduceIte]; refine cond_split ?_ ?_ <;> intro h
  · have := of_decide_eq_true h; simp -implicitDefEqProofs (disch := omega) only [go_sem, ↓reduceIte]; apply congrArg (Value.int .i64); omega
  · have := of_decide_eq_false h; simp -implicitDefEqProofs (disch := omega) only [go_sem, ↓reduceIte]; apply congrArg (Value.int .i64); omega
def code_spec_l00Max : VCode := (.seq (.ops [
  ⟨(some 4), none, (.asg (.const (.int .i64 0)))⟩]) (.seq (.seq (.ops [
  ⟨(some 5), none, (.mv (.tmp 0))⟩,
  ⟨(some 6), none, (.mv (.tmp 1))⟩,
  ⟨(some 7), none, (.bin .gtr (.tmp 5) (.tmp 6))⟩]) (.cond (.tmp 7) (.seq (.ops [
  ⟨(some 8), none, (.mv (.tmp 0))⟩,
  ⟨(some 4), none, (.asg (.tmp 8))⟩]) .ret) .skip)) (.seq (.ops [
  ⟨(some 9), none, (.mv (.tmp 1))⟩,
  ⟨(some 4), none, (.asg (.tmp 9))⟩]) .ret)))
theorem law_spec_l00Max {a0 a1 d : D} (h : code_spec_l00Max.wp (CT Tryd.prog TabG) (endQ [(.t 4)] d) [a0, a1, .undef, .undef, .undef, .undef, .undef, .undef, .undef, .undef]) : Contract Tryd.prog TabG 70 [a0, a1] d :=
  contract_of (pt := 0) tabG Tryd.func70 (fun us W => by kernel_rfl) (c := Tryd.f70.body.getD .skip) (ms := []) (ms' := []) (by kernel_rfl) (by kernel_rfl) (by kernel_rfl) h
theorem v_l00Max (a b : Int) : Contract Tryd.prog TabG 70 [.v (.int .i64 a), .v (.int .i64 b)] (.v (.int .i64 (max a b))) := by
  refine law_spec_l00Max ?_; unfold code_spec_l00Max; simp -implicitDefEqProofs (disch := omega) only [go_sem, ↓reduceIte]; refine cond_split ?_ ?_ <;> intro h
  · have := of_decide_eq_true h; simp -implicitDefEqProofs (disch := omega) only [go_sem, ↓reduceIte]; apply congrArg (Value.int .i64); omega
  · have := of_decide_eq_false h; simp -implicitDefEqProofs (disch := omega) only [go_sem, ↓reduceIte]; apply congrArg (Value.int .i64); omega
def code_impl_isIndex : VCode := (.seq (.ops [
  ⟨(some 4), none, (.asg (.const (.bool false)))⟩]) (.seq (.ops [
  ⟨(some 5), none, (.mv (.tmp 0))⟩,
  ⟨(some 6), none, (.mv (.tmp 1))⟩,
  ⟨(some 7), none, (.bin .sub (.tmp 6) (.const (.int .i64 1)))⟩,
  ⟨(some 8), none, (.callX 59 [(.tmp 5), (.const (.int .i64 0)), (.tmp 7)])⟩,
  ⟨(some 4), none, (.asg (.tmp 8))⟩]) .ret))
theorem law_impl_isIndex {a0 a1 d : D} (h : code_impl_isIndex.wp (CT Tryd.prog TabG) (endQ [(.t 4)] d) [a0, a1, .undef, .undef, .undef, .undef, .undef, .undef, .undef]) : Contract Tryd.prog TabG 98 [a0, a1] d :=
  contract_of (pt := 0) tabG Tryd.func98 (fun us W => by kernel_rfl) (c := Tryd.f98.body.getD .skip) (ms := []) (ms' := []) (by kernel_rfl) (by kernel_rfl) (by kernel_rfl) h
theorem v_isIndex (i n : Int) (h1 : 0 ≤ n) (h2 : n ≤ 1099511627776) : Contract Tryd.prog TabG 98 [.v (.int .i64 i), .v (.int .i64 n)] (.v (.bool (inR 0 (n - 1) i))) := by refine law_impl_isIndex ?_; unfold code_impl_isIndex; have hw : IntKind.i64.wrap (n - 1) = n - 1 := wrI (by omega) (by omega); simp -implicitDefEqProofs (disch := omega) only [go_sem, ↓reduceIte , hw]; refine call_B (v_within _ _ _) (by simp -implicitDefEqProofs (disch := omega) only [go_sem, ↓reduceIte, deep, TD.rows, immLL_rI, immLL_rB8, immLL_rS, immLL_rBo, immLL_rII, immLL_rIIt]; exact rfl) ?_; simp -implicitDefEqProofs (disch := omega) only [go_sem, ↓reduceIte]
def isLet (c : Int) : Bool := (decide (97 ≤ c) && decide (c ≤ 122)) || (decide (65 ≤ c) && decide (c ≤ 90))
def isDig (c : Int) : Bool := decide (48 ≤ c) && decide (c ≤ 57)
def chOK (i : Nat) (c : Int) : Bool := isLet c || (decide (i ≠ 0) && (isDig c || decide (c = 95)))
def chAt (s : ByteArray) (i : Nat) : Int := match s[i]? with
  | some c => (c.toNat : Int)
  | none => 0
def isNameB (s : ByteArray) : Bool := (decide (1 ≤ s.size) && decide (s.size ≤ 12)) && (List.range s.size).all (fun i => chOK i (chAt s i))
theorem name_no {s : ByteArray} {i : Nat} (hi : i < s.size) (h : chOK i (chAt s i) = false) : isNameB s = false := by
  unfold isNameB; have : (List.range s.size).all (fun i => chOK i (chAt s i)) = false := by rw [List.all_eq_false]; exact ⟨i, by simpa using hi, by simp [h]⟩
  rw [this, Bool.and_false]
theorem all_next {f : Nat → Bool} {i : Nat} (h : (List.range i).all f = true) (hi : f i = true) : (List.range (i + 1)).all f = true := by rw [List.range_succ, List.all_append, h]; simp [hi]
theorem byte_at {s : ByteArray} {i : Nat} (hi : i < s.size) : s[i]? = some s[i] := by simp [hi]
theorem chAt_some {s : ByteArray} {i : Nat} {c : UInt8} (h : s[i]? = some c) : chAt s i = (c.toNat : Int) := by unfold chAt; rw [h]
theorem chOK_let {i : Nat} {c : Int} (h : isLet c = true) : chOK i c = true := by unfold chOK; rw [h]; rfl
def code_spec_l01Letter : VCode := (.seq (.ops [
  ⟨(some 2), none, (.asg (.const (.bool false)))⟩]) (.seq (.ops [
  ⟨(some 3), none, (.mv (.tmp 0))⟩,
  ⟨(some 4), none, (.bin .geq (.tmp 3) (.const (.int .u8 97)))⟩,
  ⟨(some 5), none, (.mv (.tmp 4))⟩,
  ⟨(some 6), (some (5, true)), (.mv (.tmp 0))⟩,
  ⟨(some 7), (some (5, true)), (.bin .leq (.tmp 6) (.const (.int .u8 122)))⟩,
  ⟨(some 8), none, (.pick (.tmp 5) (.tmp 7) (.const (.bool false)))⟩,
  ⟨(some 9), none, (.mv (.tmp 8))⟩,
  ⟨(some 10), (some (9, false)), (.mv (.tmp 0))⟩,
  ⟨(some 11), (some (9, false)), (.bin .geq (.tmp 10) (.const (.int .u8 65)))⟩,
  ⟨(some 12), (some (9, false)), (.mv (.tmp 11))⟩,
  ⟨(some 13), (some (12, true)), (.mv (.tmp 0))⟩,
  ⟨(some 14), (some (12, true)), (.bin .leq (.tmp 13) (.const (.int .u8 90)))⟩,
  ⟨(some 15), (some (9, false)), (.pick (.tmp 12) (.tmp 14) (.const (.bool false)))⟩,
  ⟨(some 16), none, (.pick (.tmp 9) (.const (.bool true)) (.tmp 15))⟩,
  ⟨(some 2), none, (.asg (.tmp 16))⟩]) .ret))
theorem law_spec_l01Letter {a0 d : D} (h : code_spec_l01Letter.wp (CT Tryd.prog TabG) (endQ [(.t 2)] d) [a0, .undef, .undef, .undef, .undef, .undef, .undef, .undef, .undef, .undef, .undef, .undef, .undef, .undef, .undef, .undef, .undef]) : Contract Tryd.prog TabG 90 [a0] d :=
  contract_of (pt := 0) tabG Tryd.func90 (fun us W => by kernel_rfl) (c := Tryd.f90.body.getD .skip) (ms := []) (ms' := []) (by kernel_rfl) (by kernel_rfl) (by kernel_rfl) h
def code_spec_l01Digit : VCode := (.seq (.ops [
  ⟨(some 2), none, (.asg (.const (.bool false)))⟩]) (.seq (.ops [
  ⟨(some 3), none, (.mv (.tmp 0))⟩,
  ⟨(some 4), none, (.bin .geq (.tmp 3) (.const (.int .u8 48)))⟩,
  ⟨(some 5), none, (.mv (.tmp 4))⟩,
  ⟨(some 6), (some (5, true)), (.mv (.tmp 0))⟩,
  ⟨(some 7), (some (5, true)), (.bin .leq (.tmp 6) (.const (.int .u8 57)))⟩,
  ⟨(some 8), none, (.pick (.tmp 5) (.tmp 7) (.const (.bool false)))⟩,
  ⟨(some 2), none, (.asg (.tmp 8))⟩]) .ret))
theorem law_spec_l01Digit {a0 d : D} (h : code_spec_l01Digit.wp (CT Tryd.prog TabG) (endQ [(.t 2)] d) [a0, .undef, .undef, .undef, .undef, .undef, .undef, .undef, .undef]) : Contract Tryd.prog TabG 91 [a0] d :=
  contract_of (pt := 0) tabG Tryd.func91 (fun us W => by kernel_rfl) (c := Tryd.f91.body.getD .skip) (ms := []) (ms' := []) (by kernel_rfl) (by kernel_rfl) (by kernel_rfl) h
theorem v_l01Letter (c : Int) : Contract Tryd.prog TabG 90 [.v (.int .u8 c)] (.v (.bool (isLet c))) := by
  refine law_spec_l01Letter ?_; unfold code_spec_l01Letter isLet; simp -implicitDefEqProofs (disch := omega) only [go_sem, ↓reduceIte]
  repeat' (first | (refine guard_split ?_ ?_ <;> intro h <;> try (simp -implicitDefEqProofs (disch := omega) only [go_sem, ↓reduceIte, h])) | (refine gd_split ?_ ?_ <;> intro h <;> try (simp -implicitDefEqProofs (disch := omega) only [go_sem, ↓reduceIte, h])) | (refine cond_split ?_ ?_ <;> intro h <;> try (simp -implicitDefEqProofs (disch := omega) only [go_sem, ↓reduceIte, h])))
theorem v_l01Digit (c : Int) : Contract Tryd.prog TabG 91 [.v (.int .u8 c)] (.v (.bool (isDig c))) := by
  refine law_spec_l01Digit ?_; unfold code_spec_l01Digit isDig; simp -implicitDefEqProofs (disch := omega) only [go_sem, ↓reduceIte]
  repeat' (first | (refine guard_split ?_ ?_ <;> intro h <;> try (simp -implicitDefEqProofs (disch := omega) only [go_sem, ↓reduceIte, h])) | (refine gd_split ?_ ?_ <;> intro h <;> try (simp -implicitDefEqProofs (disch := omega) only [go_sem, ↓reduceIte, h])) | (refine cond_split ?_ ?_ <;> intro h <;> try (simp -implicitDefEqProofs (disch := omega) only [go_sem, ↓reduceIte, h])))
def code_spec_IsName : VCode := (.seq (.ops [
  ⟨(some 2), none, (.asg (.const (.bool false)))⟩]) (.seq (.seq (.ops [
  ⟨(some 4), none, (.mv (.tmp 0))⟩,
  ⟨(some 5), none, (.lenS (.tmp 4))⟩,
  ⟨(some 6), none, (.bin .lss (.tmp 5) (.const (.int .i64 1)))⟩,
  ⟨(some 7), none, (.mv (.tmp 6))⟩,
  ⟨(some 8), (some (7, false)), (.mv (.tmp 0))⟩,
  ⟨(some 9), (some (7, false)), (.lenS (.tmp 8))⟩,
  ⟨(some 10), (some (7, false)), (.bin .gtr (.tmp 9) (.const (.int .i64 12)))⟩,
  ⟨(some 11), none, (.pick (.tmp 7) (.const (.bool true)) (.tmp 10))⟩,
  ⟨(some 12), none, (.mv (.tmp 11))⟩,
  ⟨(some 13), (some (12, false)), (.mv (.tmp 0))⟩,
  ⟨(some 14), (some (12, false)), (.ixs (.tmp 13) (.const (.int .i64 0)))⟩,
  ⟨(some 15), (some (12, false)), (.callX 90 [(.tmp 14)])⟩,
  ⟨(some 16), (some (12, false)), (.un .not (.tmp 15))⟩,
  ⟨(some 17), none, (.pick (.tmp 12) (.const (.bool true)) (.tmp 16))⟩]) (.cond (.tmp 17) (.seq (.ops [
  ⟨(some 2), none, (.asg (.const (.bool false)))⟩]) .ret) .skip)) (.seq (.seq (.ops [
  ⟨(some 3), none, (.asg (.const (.int .i64 1)))⟩]) (.block 0 (.loop (mB 42 4398046511094) (.seq (.seq (.ops [
  ⟨(some 18), none, (.mv (.tmp 3))⟩,
  ⟨(some 19), none, (.mv (.tmp 0))⟩,
  ⟨(some 20), none, (.lenS (.tmp 19))⟩,
  ⟨(some 21), none, (.bin .lss (.tmp 18) (.tmp 20))⟩]) (.cond (.tmp 21) .skip (.exit 0))) (.seq (.block 1 (.seq (.ops [
  ⟨(some 24), none, (.mv (.tmp 0))⟩,
  ⟨(some 25), none, (.mv (.tmp 3))⟩,
  ⟨(some 26), none, (.ixs (.tmp 24) (.tmp 25))⟩,
  ⟨(some 27), none, (.callX 90 [(.tmp 26)])⟩,
  ⟨(some 28), none, (.un .not (.tmp 27))⟩,
  ⟨(some 29), none, (.mv (.tmp 28))⟩,
  ⟨(some 30), (some (29, true)), (.mv (.tmp 0))⟩,
  ⟨(some 31), (some (29, true)), (.mv (.tmp 3))⟩,
  ⟨(some 32), (some (29, true)), (.ixs (.tmp 30) (.tmp 31))⟩,
  ⟨(some 33), (some (29, true)), (.callX 91 [(.tmp 32)])⟩,
  ⟨(some 34), (some (29, true)), (.un .not (.tmp 33))⟩,
  ⟨(some 35), none, (.pick (.tmp 29) (.tmp 34) (.const (.bool false)))⟩,
  ⟨(some 36), none, (.mv (.tmp 35))⟩,
  ⟨(some 37), (some (36, true)), (.mv (.tmp 0))⟩,
  ⟨(some 38), (some (36, true)), (.mv (.tmp 3))⟩,
  ⟨(some 39), (some (36, true)), (.ixs (.tmp 37) (.tmp 38))⟩,
  ⟨(some 40), (some (36, true)), (.bin .neq (.tmp 39) (.const (.int .u8 95)))⟩,
  ⟨(some 41), none, (.pick (.tmp 36) (.tmp 40) (.const (.bool false)))⟩]) (.cond (.tmp 41) (.seq (.ops [
  ⟨(some 2), none, (.asg (.const (.bool false)))⟩]) .ret) .skip))) (.ops [
  ⟨(some 22), none, (.mv (.tmp 3))⟩,
  ⟨(some 23), none, (.bin .add (.tmp 22) (.const (.int .i64 1)))⟩,
  ⟨(some 3), none, (.asg (.tmp 23))⟩])))))) (.seq (.ops [
  ⟨(some 2), none, (.asg (.const (.bool true)))⟩]) .ret))))
theorem law_spec_IsName {a0 d : D} (h : code_spec_IsName.wp (CT Tryd.prog TabG) (endQ [(.t 2)] d) [a0, .undef, .undef, .undef, .undef, .undef, .undef, .undef, .undef, .undef, .undef, .undef, .undef, .undef, .undef, .undef, .undef, .undef, .undef, .undef, .undef, .undef, .undef, .undef, .undef, .undef, .undef, .undef, .undef, .undef, .undef, .undef, .undef, .undef, .undef, .undef, .undef, .undef, .undef, .undef, .undef, .undef]) : Contract Tryd.prog TabG 64 [a0] d :=
  contract_of (pt := 0) tabG Tryd.func64 (fun us W => by kernel_rfl) (c := Tryd.f64.body.getD .skip) (ms := [(mB 42 4398046511094)]) (ms' := []) (by kernel_rfl) (by kernel_rfl) (by kernel_rfl) h
theorem vIsName_spec (s : ByteArray) (hs : s.size ≤ 1048576) : Contract Tryd.prog TabG 64 [.v (.string s)] (.v (.bool (isNameB s))) := by
  refine law_spec_IsName ?_; unfold code_spec_IsName; have bad : ¬ (1 ≤ s.size ∧ s.size ≤ 12) → isNameB s = false := fun h => by
    unfold isNameB; have : (decide (1 ≤ s.size) && decide (s.size ≤ 12)) = false := by rw [Bool.and_eq_false_iff, decide_eq_false_iff_not, decide_eq_false_iff_not]; omega
    rw [this, Bool.false_and]
  simp -implicitDefEqProofs (disch := omega) only [go_sem, ↓reduceIte]; refine guard_split ?_ ?_ <;> intro h1
  · simp -implicitDefEqProofs (disch := omega) only [go_sem, ↓reduceIte , h1]; rw [bad (by have := of_decide_eq_true h1; omega)]
  · have h1' : 1 ≤ s.size := (by have := of_decide_eq_false h1; omega); simp -implicitDefEqProofs (disch := omega) only [go_sem, ↓reduceIte , h1]; refine guard_split ?_ ?_ <;> intro h2
    · simp -implicitDefEqProofs (disch := omega) only [go_sem, ↓reduceIte , h2]; rw [bad (by have := of_decide_eq_true h2; omega)]
    · have h2' : s.size ≤ 12 := (by have := of_decide_eq_false h2; omega); have hb0 : s[0]? = some s[0] := byte_at (by omega)
      simp -implicitDefEqProofs (disch := omega) only [go_sem, ↓reduceIte , h2, hb0, Int.natCast_zero, Int.natCast_one, Int.cast_ofNat_Int, Int.ofNat_le, Int.toNat_zero, Nat.sub_zero, Int.le_refl, Int.reduceLT, Int.reduceLE, Int.reduceEq, Int.reduceAdd, Int.reduceSub, Int.reduceMul, Int.reduceToNat, Int.reduceNeg]; refine call_B (v_l01Letter _) (by simp -implicitDefEqProofs (disch := omega) only [go_sem, ↓reduceIte, deep, TD.rows, immLL_rI, immLL_rB8, immLL_rS, immLL_rBo, immLL_rII, immLL_rIIt, Int.natCast_zero, Int.natCast_one, Int.cast_ofNat_Int, Int.ofNat_le, Int.toNat_zero, Nat.sub_zero, Int.le_refl, Int.reduceLT, Int.reduceLE, Int.reduceEq, Int.reduceAdd, Int.reduceSub, Int.reduceMul, Int.reduceToNat, Int.reduceNeg]; exact rfl) ?_; simp -implicitDefEqProofs (disch := omega) only [go_sem, ↓reduceIte , Int.natCast_zero, Int.natCast_one, Int.cast_ofNat_Int, Int.ofNat_le, Int.toNat_zero, Nat.sub_zero, Int.le_refl, Int.reduceLT, Int.reduceLE, Int.reduceEq, Int.reduceAdd, Int.reduceSub, Int.reduceMul, Int.reduceToNat, Int.reduceNeg]; refine cond_split ?_ ?_ <;> intro h3
      · simp -implicitDefEqProofs (disch := omega) only [go_sem, ↓reduceIte]; simp only [Bool.not_eq_true'] at h3; rw [name_no (s := s) (i := 0) (by omega) (by rw [chAt_some hb0]; unfold chOK; rw [h3]; rfl)]
      · simp only [Bool.not_eq_false'] at h3; simp -implicitDefEqProofs (disch := omega) only [go_sem, ↓reduceIte]; refine loop_st (fun i : Nat => [.v (.string s), .undef, .undef, .v (.int .i64 i), .undef, .undef, .undef, .undef, .undef, .undef, .undef, .undef, .undef, .undef, .undef, .undef, .undef, .undef, .undef, .undef, .undef, .undef, .undef, .undef, .undef, .undef, .undef, .undef, .undef, .undef, .undef, .undef, .undef, .undef, .undef, .undef, .undef, .undef, .undef, .undef, .undef, .undef]) (fun i => 1 ≤ i ∧ i ≤ s.size ∧ (List.range i).all (fun i => chOK i (chAt s i)) = true) (fun i => s.size - i) 1 (nleA) ⟨by omega, h1', by simp [chAt_some hb0, chOK_let h3]⟩ ?_; rintro i ⟨hi0, hi, ha⟩; simp -implicitDefEqProofs (disch := omega) only [go_sem, ↓reduceIte , Int.ofNat_lt]; refine cond_split ?_ ?_ <;> intro hlt
        · have hlt : i < s.size := of_decide_eq_true hlt; have hb := byte_at hlt; have hc := chAt_some hb; have next : chOK i (s[i].toNat : Int) = true → ∃ b, s.size - b < s.size - i ∧ (1 ≤ b ∧ b ≤ s.size ∧ (List.range b).all (fun i => chOK i (chAt s i)) = true) ∧ b = i + 1 := fun h => ⟨i + 1, by omega, ⟨by omega, hlt, all_next ha (by rw [hc]; exact h)⟩, rfl⟩
          simp -implicitDefEqProofs (disch := omega) only [go_sem, ↓reduceIte , Int.toNat_natCast, hb, Int.natCast_nonneg]; refine call_B (v_l01Letter _) (by simp -implicitDefEqProofs (disch := omega) only [go_sem, ↓reduceIte, deep, TD.rows, immLL_rI, immLL_rB8, immLL_rS, immLL_rBo, immLL_rII, immLL_rIIt]; exact rfl) ?_; simp -implicitDefEqProofs (disch := omega) only [go_sem, ↓reduceIte]; refine guard_split ?_ ?_ <;> intro g1
          · simp only [Bool.not_eq_true'] at g1; simp -implicitDefEqProofs (disch := omega) only [go_sem, ↓reduceIte , g1, Int.toNat_natCast, hb, Int.natCast_nonneg]; refine call_B (v_l01Digit _) (by simp -implicitDefEqProofs (disch := omega) only [go_sem, ↓reduceIte, deep, TD.rows, immLL_rI, immLL_rB8, immLL_rS, immLL_rBo, immLL_rII, immLL_rIIt, g1]; exact rfl) ?_; simp -implicitDefEqProofs (disch := omega) only [go_sem, ↓reduceIte , g1]; refine guard_split ?_ ?_ <;> intro g2
            · simp only [Bool.not_eq_true'] at g2; simp -implicitDefEqProofs (disch := omega) only [go_sem, ↓reduceIte , g2, Int.toNat_natCast, hb, Int.natCast_nonneg]; refine cond_split ?_ ?_ <;> intro g3
              · simp -implicitDefEqProofs (disch := omega) only [go_sem, ↓reduceIte]; simp only [Bool.not_eq_true'] at g3; rw [name_no hlt (by rw [hc]; unfold chOK; rw [g1, g2, g3]; simp)]
              · simp only [Bool.not_eq_false'] at g3; simp -implicitDefEqProofs (disch := omega) only [go_sem, ↓reduceIte , wrN]; obtain ⟨b, k1, k2, rfl⟩ := next (by unfold chOK; rw [g1, g2, g3]; simp; omega)
                exact ⟨_, k1, k2, nleA⟩
            · simp only [Bool.not_eq_false'] at g2; simp -implicitDefEqProofs (disch := omega) only [go_sem, ↓reduceIte , g2, wrN]; obtain ⟨b, k1, k2, rfl⟩ := next (by unfold chOK; rw [g1, g2]; simp; omega)
              exact ⟨_, k1, k2, nleA⟩
          · simp only [Bool.not_eq_false'] at g1; simp -implicitDefEqProofs (disch := omega) only [go_sem, ↓reduceIte , g1, wrN]; obtain ⟨b, k1, k2, rfl⟩ := next (chOK_let g1)
            exact ⟨_, k1, k2, nleA⟩
        · have hlt : i = s.size := (by have : ¬ i < s.size := of_decide_eq_false hlt; omega); subst hlt; simp -implicitDefEqProofs (disch := omega) only [go_sem, ↓reduceIte]; unfold isNameB; rw [ha, Bool.and_true, decide_eq_true h1', decide_eq_true h2']; rfl
def code_impl_IsName : VCode := (.seq (.ops [
  ⟨(some 2), none, (.asg (.const (.bool false)))⟩]) (.seq (.seq (.ops [
  ⟨(some 6), none, (.mv (.tmp 0))⟩,
  ⟨(some 7), none, (.lenS (.tmp 6))⟩,
  ⟨(some 8), none, (.mv (.const (.int .i64 0)))⟩]) (.block 0 (.loop (mB 55 36028797018963582) (.seq (.ops [
  ⟨(some 9), none, (.bin .lss (.tmp 8) (.tmp 7))⟩]) (.seq (.cond (.tmp 9) .skip (.exit 0)) (.seq (.block 1 (.seq (.ops [
  ⟨(some 10), none, (.mv (.tmp 8))⟩,
  ⟨(some 3), none, (.asg (.tmp 10))⟩]) (.seq (.ops [
  ⟨(some 11), none, (.mv (.tmp 0))⟩,
  ⟨(some 12), none, (.mv (.tmp 3))⟩,
  ⟨(some 13), none, (.ixs (.tmp 11) (.tmp 12))⟩,
  ⟨(some 4), none, (.asg (.tmp 13))⟩]) (.seq (.ops [
  ⟨(some 14), none, (.mv (.tmp 4))⟩,
  ⟨(some 15), none, (.bin .geq (.tmp 14) (.const (.int .u8 97)))⟩,
  ⟨(some 16), none, (.mv (.tmp 15))⟩,
  ⟨(some 17), (some (16, true)), (.mv (.tmp 4))⟩,
  ⟨(some 18), (some (16, true)), (.bin .leq (.tmp 17) (.const (.int .u8 122)))⟩,
  ⟨(some 19), none, (.pick (.tmp 16) (.tmp 18) (.const (.bool false)))⟩,
  ⟨(some 20), none, (.mv (.tmp 19))⟩,
  ⟨(some 21), (some (20, false)), (.mv (.tmp 4))⟩,
  ⟨(some 22), (some (20, false)), (.bin .geq (.tmp 21) (.const (.int .u8 65)))⟩,
  ⟨(some 23), (some (20, false)), (.mv (.tmp 22))⟩,
  ⟨(some 24), (some (23, true)), (.mv (.tmp 4))⟩,
  ⟨(some 25), (some (23, true)), (.bin .leq (.tmp 24) (.const (.int .u8 90)))⟩,
  ⟨(some 26), (some (20, false)), (.pick (.tmp 23) (.tmp 25) (.const (.bool false)))⟩,
  ⟨(some 27), none, (.pick (.tmp 20) (.const (.bool true)) (.tmp 26))⟩,
  ⟨(some 5), none, (.asg (.tmp 27))⟩]) (.seq (.ops [
  ⟨(some 28), none, (.mv (.tmp 5))⟩,
  ⟨(some 29), none, (.un .not (.tmp 28))⟩,
  ⟨(some 30), none, (.mv (.tmp 29))⟩,
  ⟨(some 31), (some (30, true)), (.mv (.tmp 3))⟩,
  ⟨(some 32), (some (30, true)), (.bin .eql (.tmp 31) (.const (.int .i64 0)))⟩,
  ⟨(some 33), (some (30, true)), (.mv (.tmp 32))⟩,
  ⟨(some 34), (some (33, false)), (.mv (.tmp 4))⟩,
  ⟨(some 35), (some (33, false)), (.bin .lss (.tmp 34) (.const (.int .u8 48)))⟩,
  ⟨(some 36), (some (33, false)), (.mv (.tmp 35))⟩,
  ⟨(some 37), (some (36, false)), (.mv (.tmp 4))⟩,
  ⟨(some 38), (some (36, false)), (.bin .gtr (.tmp 37) (.const (.int .u8 57)))⟩,
  ⟨(some 39), (some (33, false)), (.pick (.tmp 36) (.const (.bool true)) (.tmp 38))⟩,
  ⟨(some 40), (some (33, false)), (.mv (.tmp 39))⟩,
  ⟨(some 41), (some (40, true)), (.mv (.tmp 4))⟩,
  ⟨(some 42), (some (40, true)), (.bin .neq (.tmp 41) (.const (.int .u8 95)))⟩,
  ⟨(some 43), (some (33, false)), (.pick (.tmp 40) (.tmp 42) (.const (.bool false)))⟩,
  ⟨(some 44), (some (30, true)), (.pick (.tmp 33) (.const (.bool true)) (.tmp 43))⟩,
  ⟨(some 45), none, (.pick (.tmp 30) (.tmp 44) (.const (.bool false)))⟩]) (.cond (.tmp 45) (.seq (.ops [
  ⟨(some 2), none, (.asg (.const (.bool false)))⟩]) .ret) .skip)))))) (.ops [
  ⟨(some 46), none, (.bin .add (.tmp 8) (.const (.int .i64 1)))⟩,
  ⟨(some 8), none, (.mv (.tmp 46))⟩]))))))) (.seq (.ops [
  ⟨(some 47), none, (.mv (.tmp 0))⟩,
  ⟨(some 48), none, (.lenS (.tmp 47))⟩,
  ⟨(some 49), none, (.bin .geq (.tmp 48) (.const (.int .i64 1)))⟩,
  ⟨(some 50), none, (.mv (.tmp 49))⟩,
  ⟨(some 51), (some (50, true)), (.mv (.tmp 0))⟩,
  ⟨(some 52), (some (50, true)), (.lenS (.tmp 51))⟩,
  ⟨(some 53), (some (50, true)), (.bin .leq (.tmp 52) (.const (.int .i64 12)))⟩,
  ⟨(some 54), none, (.pick (.tmp 50) (.tmp 53) (.const (.bool false)))⟩,
  ⟨(some 2), none, (.asg (.tmp 54))⟩]) .ret)))
theorem law_impl_IsName {a0 d : D} (h : code_impl_IsName.wp (CT Tryd.prog TabG) (endQ [(.t 2)] d) [a0, .undef, .undef, .undef, .undef, .undef, .undef, .undef, .undef, .undef, .undef, .undef, .undef, .undef, .undef, .undef, .undef, .undef, .undef, .undef, .undef, .undef, .undef, .undef, .undef, .undef, .undef, .undef, .undef, .undef, .undef, .undef, .undef, .undef, .undef, .undef, .undef, .undef, .undef, .undef, .undef, .undef, .undef, .undef, .undef, .undef, .undef, .undef, .undef, .undef, .undef, .undef, .undef, .undef, .undef]) : Contract Tryd.prog TabG 94 [a0] d :=
  contract_of (pt := 0) tabG Tryd.func94 (fun us W => by kernel_rfl) (c := Tryd.f94.body.getD .skip) (ms := [(mB 55 36028797018963582)]) (ms' := []) (by kernel_rfl) (by kernel_rfl) (by kernel_rfl) h
set_option maxHeartbeats 2000000 in
theorem vIsName_impl (s : ByteArray) (hs : s.size ≤ 1048576) : Contract Tryd.prog TabG 94 [.v (.string s)] (.v (.bool (isNameB s))) := by
  refine law_impl_IsName ?_; unfold code_impl_IsName; simp -implicitDefEqProofs (disch := omega) only [go_sem, ↓reduceIte , Int.natCast_zero, Int.natCast_one, Int.cast_ofNat_Int, Int.ofNat_le, Int.toNat_zero, Nat.sub_zero, Int.le_refl, Int.reduceLT, Int.reduceLE, Int.reduceEq, Int.reduceAdd, Int.reduceSub, Int.reduceMul, Int.reduceToNat, Int.reduceNeg]; refine loop_st (fun i : Nat => [.v (.string s), .undef, .undef, .undef, .undef, .undef, .undef, .v (.int .i64 s.size), .v (.int .i64 i), .undef, .undef, .undef, .undef, .undef, .undef, .undef, .undef, .undef, .undef, .undef, .undef, .undef, .undef, .undef, .undef, .undef, .undef, .undef, .undef, .undef, .undef, .undef, .undef, .undef, .undef, .undef, .undef, .undef, .undef, .undef, .undef, .undef, .undef, .undef, .undef, .undef, .undef, .undef, .undef, .undef, .undef, .undef, .undef, .undef, .undef]) (fun i => i ≤ s.size ∧ (List.range i).all (fun i => chOK i (chAt s i)) = true) (fun i => s.size - i) 0 (nleA) ⟨by omega, by simp⟩ ?_; rintro i ⟨hi, ha⟩; simp -implicitDefEqProofs (disch := omega) only [go_sem, ↓reduceIte , Int.ofNat_lt]; refine cond_split ?_ ?_ <;> intro hlt
  · have hlt : i < s.size := of_decide_eq_true hlt; have hb := byte_at hlt; have hc := chAt_some hb; have next : chOK i (s[i].toNat : Int) = true → ∃ b, s.size - b < s.size - i ∧ (b ≤ s.size ∧ (List.range b).all (fun i => chOK i (chAt s i)) = true) ∧ b = i + 1 := fun h => ⟨i + 1, by omega, ⟨hlt, all_next ha (by rw [hc]; exact h)⟩, rfl⟩
    have bad : chOK i (s[i].toNat : Int) = false → isNameB s = false := fun h => name_no hlt (by rw [hc]; exact h); generalize hcc : (s[i].toNat : Int) = c at next bad
    by_cases gA : 97 ≤ c
    · by_cases gB : c ≤ 122
      · skip
        have eA : decide (97 ≤ c) = true := decide_eq_true (by omega); have eB : decide (c ≤ 122) = true := decide_eq_true (by omega); simp -implicitDefEqProofs (disch := omega) only [go_sem, ↓reduceIte , Int.toNat_natCast, hb, Int.natCast_nonneg, hcc, wrN, eA, eB]; obtain ⟨b, k1, k2, rfl⟩ := next (by simp only [chOK, isLet, isDig, Bool.or_eq_true, Bool.and_eq_true, decide_eq_true_eq]; omega)
        exact ⟨_, k1, k2, nleA⟩
      · by_cases gE : i = 0
        · skip
          have eA : decide (97 ≤ c) = true := decide_eq_true (by omega); have eB : decide (c ≤ 122) = false := decide_eq_false (by omega); have eC : decide (65 ≤ c) = true := decide_eq_true (by omega); have eD : decide (c ≤ 90) = false := decide_eq_false (by omega); have eE : decide ((i : Int) = 0) = true := decide_eq_true (by omega); simp -implicitDefEqProofs (disch := omega) only [go_sem, ↓reduceIte , Int.toNat_natCast, hb, Int.natCast_nonneg, hcc, wrN, eA, eB, eC, eD, eE]; rw [bad (by simp only [chOK, isLet, isDig, Bool.or_eq_false_iff, Bool.and_eq_false_iff, decide_eq_false_iff_not]; omega)]
        · skip
          have eA : decide (97 ≤ c) = true := decide_eq_true (by omega); have eB : decide (c ≤ 122) = false := decide_eq_false (by omega); have eC : decide (65 ≤ c) = true := decide_eq_true (by omega); have eD : decide (c ≤ 90) = false := decide_eq_false (by omega); have eE : decide ((i : Int) = 0) = false := decide_eq_false (by omega); have eF : decide (c < 48) = false := decide_eq_false (by omega); have eG : decide (57 < c) = true := decide_eq_true (by omega); have eH : decide (c = 95) = false := decide_eq_false (by omega); simp -implicitDefEqProofs (disch := omega) only [go_sem, ↓reduceIte , Int.toNat_natCast, hb, Int.natCast_nonneg, hcc, wrN, eA, eB, eC, eD, eE, eF, eG, eH]; rw [bad (by simp only [chOK, isLet, isDig, Bool.or_eq_false_iff, Bool.and_eq_false_iff, decide_eq_false_iff_not]; omega)]
    · by_cases gC : 65 ≤ c
      · by_cases gD : c ≤ 90
        · skip
          have eA : decide (97 ≤ c) = false := decide_eq_false (by omega); have eC : decide (65 ≤ c) = true := decide_eq_true (by omega); have eD : decide (c ≤ 90) = true := decide_eq_true (by omega); simp -implicitDefEqProofs (disch := omega) only [go_sem, ↓reduceIte , Int.toNat_natCast, hb, Int.natCast_nonneg, hcc, wrN, eA, eC, eD]; obtain ⟨b, k1, k2, rfl⟩ := next (by simp only [chOK, isLet, isDig, Bool.or_eq_true, Bool.and_eq_true, decide_eq_true_eq]; omega)
          exact ⟨_, k1, k2, nleA⟩
        · by_cases gE : i = 0
          · skip
            have eA : decide (97 ≤ c) = false := decide_eq_false (by omega); have eC : decide (65 ≤ c) = true := decide_eq_true (by omega); have eD : decide (c ≤ 90) = false := decide_eq_false (by omega); have eE : decide ((i : Int) = 0) = true := decide_eq_true (by omega); simp -implicitDefEqProofs (disch := omega) only [go_sem, ↓reduceIte , Int.toNat_natCast, hb, Int.natCast_nonneg, hcc, wrN, eA, eC, eD, eE]; rw [bad (by simp only [chOK, isLet, isDig, Bool.or_eq_false_iff, Bool.and_eq_false_iff, decide_eq_false_iff_not]; omega)]
          · by_cases gH : c = 95
            · skip
              have eA : decide (97 ≤ c) = false := decide_eq_false (by omega); have eC : decide (65 ≤ c) = true := decide_eq_true (by omega); have eD : decide (c ≤ 90) = false := decide_eq_false (by omega); have eE : decide ((i : Int) = 0) = false := decide_eq_false (by omega); have eF : decide (c < 48) = false := decide_eq_false (by omega); have eG : decide (57 < c) = true := decide_eq_true (by omega); have eH : decide (c = 95) = true := decide_eq_true (by omega); simp -implicitDefEqProofs (disch := omega) only [go_sem, ↓reduceIte , Int.toNat_natCast, hb, Int.natCast_nonneg, hcc, wrN, eA, eC, eD, eE, eF, eG, eH]; obtain ⟨b, k1, k2, rfl⟩ := next (by simp only [chOK, isLet, isDig, Bool.or_eq_true, Bool.and_eq_true, decide_eq_true_eq]; omega)
              exact ⟨_, k1, k2, nleA⟩
            · skip
              have eA : decide (97 ≤ c) = false := decide_eq_false (by omega); have eC : decide (65 ≤ c) = true := decide_eq_true (by omega); have eD : decide (c ≤ 90) = false := decide_eq_false (by omega); have eE : decide ((i : Int) = 0) = false := decide_eq_false (by omega); have eF : decide (c < 48) = false := decide_eq_false (by omega); have eG : decide (57 < c) = true := decide_eq_true (by omega); have eH : decide (c = 95) = false := decide_eq_false (by omega); simp -implicitDefEqProofs (disch := omega) only [go_sem, ↓reduceIte , Int.toNat_natCast, hb, Int.natCast_nonneg, hcc, wrN, eA, eC, eD, eE, eF, eG, eH]; rw [bad (by simp only [chOK, isLet, isDig, Bool.or_eq_false_iff, Bool.and_eq_false_iff, decide_eq_false_iff_not]; omega)]
      · by_cases gE : i = 0
        · skip
          have eA : decide (97 ≤ c) = false := decide_eq_false (by omega); have eC : decide (65 ≤ c) = false := decide_eq_false (by omega); have eE : decide ((i : Int) = 0) = true := decide_eq_true (by omega); simp -implicitDefEqProofs (disch := omega) only [go_sem, ↓reduceIte , Int.toNat_natCast, hb, Int.natCast_nonneg, hcc, wrN, eA, eC, eE]; rw [bad (by simp only [chOK, isLet, isDig, Bool.or_eq_false_iff, Bool.and_eq_false_iff, decide_eq_false_iff_not]; omega)]
        · by_cases gF : c < 48
          · skip
            have eA : decide (97 ≤ c) = false := decide_eq_false (by omega); have eC : decide (65 ≤ c) = false := decide_eq_false (by omega); have eE : decide ((i : Int) = 0) = false := decide_eq_false (by omega); have eF : decide (c < 48) = true := decide_eq_true (by omega); have eH : decide (c = 95) = false := decide_eq_false (by omega); simp -implicitDefEqProofs (disch := omega) only [go_sem, ↓reduceIte , Int.toNat_natCast, hb, Int.natCast_nonneg, hcc, wrN, eA, eC, eE, eF, eH]; rw [bad (by simp only [chOK, isLet, isDig, Bool.or_eq_false_iff, Bool.and_eq_false_iff, decide_eq_false_iff_not]; omega)]
          · by_cases gG : 57 < c
            · skip
              have eA : decide (97 ≤ c) = false := decide_eq_false (by omega); have eC : decide (65 ≤ c) = false := decide_eq_false (by omega); have eE : decide ((i : Int) = 0) = false := decide_eq_false (by omega); have eF : decide (c < 48) = false := decide_eq_false (by omega); have eG : decide (57 < c) = true := decide_eq_true (by omega); have eH : decide (c = 95) = false := decide_eq_false (by omega); simp -implicitDefEqProofs (disch := omega) only [go_sem, ↓reduceIte , Int.toNat_natCast, hb, Int.natCast_nonneg, hcc, wrN, eA, eC, eE, eF, eG, eH]; rw [bad (by simp only [chOK, isLet, isDig, Bool.or_eq_false_iff, Bool.and_eq_false_iff, decide_eq_false_iff_not]; omega)]
            · skip
              have eA : decide (97 ≤ c) = false := decide_eq_false (by omega); have eC : decide (65 ≤ c) = false := decide_eq_false (by omega); have eE : decide ((i : Int) = 0) = false := decide_eq_false (by omega); have eF : decide (c < 48) = false := decide_eq_false (by omega); have eG : decide (57 < c) = false := decide_eq_false (by omega); simp -implicitDefEqProofs (disch := omega) only [go_sem, ↓reduceIte , Int.toNat_natCast, hb, Int.natCast_nonneg, hcc, wrN, eA, eC, eE, eF, eG]; obtain ⟨b, k1, k2, rfl⟩ := next (by simp only [chOK, isLet, isDig, Bool.or_eq_true, Bool.and_eq_true, decide_eq_true_eq]; omega)
              exact ⟨_, k1, k2, nleA⟩
  · have hlt : i = s.size := (by have : ¬ i < s.size := of_decide_eq_false hlt; omega); subst hlt; simp -implicitDefEqProofs (disch := omega) only [go_sem, ↓reduceIte]; unfold isNameB; rw [ha, Bool.and_true]; refine guard_split ?_ ?_ <;> intro h1
    · have h1' : decide (1 ≤ s.size) = true := decide_eq_true (by have := of_decide_eq_true h1; omega); simp -implicitDefEqProofs (disch := omega) only [go_sem, ↓reduceIte , h1, h1']; have e : decide ((s.size : Int) ≤ 12) = decide (s.size ≤ 12) := (by rw [decide_eq_decide]; omega); rw [e]
    · have h1' : decide (1 ≤ s.size) = false := decide_eq_false (by have := of_decide_eq_false h1; omega); simp -implicitDefEqProofs (disch := omega) only [go_sem, ↓reduceIte , h1, h1']
def code_slices_IndexFunc_int64_int64 : VCode := (.seq (.ops [
  ⟨(some 4), none, (.asg (.const (.int .i64 0)))⟩]) (.seq (.seq (.ops [
  ⟨(some 6), none, (.mv (.tmp 0))⟩,
  ⟨(some 7), none, (.len (.tmp 6))⟩,
  ⟨(some 8), none, (.mv (.const (.int .i64 0)))⟩]) (.block 0 (.loop (mB 19 523900) (.seq (.ops [
  ⟨(some 9), none, (.bin .lss (.tmp 8) (.tmp 7))⟩]) (.seq (.cond (.tmp 9) .skip (.exit 0)) (.seq (.block 1 (.seq (.ops [
  ⟨(some 10), none, (.mv (.tmp 8))⟩,
  ⟨(some 5), none, (.asg (.tmp 10))⟩]) (.seq (.ops [
  ⟨(some 11), none, (.mv (.tmp 1))⟩,
  ⟨(some 12), none, (.mv (.tmp 0))⟩,
  ⟨(some 13), none, (.mv (.tmp 5))⟩,
  ⟨(some 14), none, (.ia 1 (.tmp 12) (.tmp 13))⟩,
  ⟨(some 15), none, (.load 1 false (.tmp 14))⟩,
  ⟨(some 16), none, (.callvX (.tmp 11) [(.tmp 15)])⟩]) (.cond (.tmp 16) (.seq (.ops [
  ⟨(some 17), none, (.mv (.tmp 5))⟩,
  ⟨(some 4), none, (.asg (.tmp 17))⟩]) .ret) .skip)))) (.ops [
  ⟨(some 18), none, (.bin .add (.tmp 8) (.const (.int .i64 1)))⟩,
  ⟨(some 8), none, (.mv (.tmp 18))⟩]))))))) (.seq (.ops [
  ⟨(some 4), none, (.asg (.const (.int .i64 (-1))))⟩]) .ret)))
theorem law_slices_IndexFunc_int64_int64 {a0 a1 d : D} (h : code_slices_IndexFunc_int64_int64.wp (CT Tryd.prog TabG) (endQ [(.t 4)] d) [a0, a1, .undef, .undef, .undef, .undef, .undef, .undef, .undef, .undef, .undef, .undef, .undef, .undef, .undef, .undef, .undef, .undef, .undef]) : Contract Tryd.prog TabG 104 [a0, a1] d :=
  contract_of (pt := 0) tabG Tryd.func104 (fun us W => by kernel_rfl) (c := Tryd.f104.body.getD .skip) (ms := [(mB 19 523900)]) (ms' := []) (by kernel_rfl) (by kernel_rfl) (by kernel_rfl) h
theorem v_IndexFunc_Int64 (f : FuncId) (caps : List D) (hd : CapsOK caps) (xs : List Int) (p : Int → Bool) (hc : ∀ x, x ∈ xs → Contract Tryd.prog TabG f (.v (.int .i64 x) :: caps) (.v (.bool (p x)))) (hn : xs.length ≤ 1099511627776) :
    Contract Tryd.prog TabG 104 [.sl false 1 (xs.map (rI)), .fn f [] caps] (.v (.int .i64 (vIdx p xs))) := by
  refine law_slices_IndexFunc_int64_int64 ?_; unfold code_slices_IndexFunc_int64_int64; simp -implicitDefEqProofs (disch := omega) only [go_sem, ↓reduceIte , hd.owny, hd.pr]; refine loop_st (fun i : Nat => [.sl false 1 (xs.map (rI)), .fn f [] caps, .undef, .undef, .undef, .undef, .undef, .v (.int .i64 (xs.map (rI)).length), .v (.int .i64 i), .undef, .undef, .undef, .undef, .undef, .undef, .undef, .undef, .undef, .undef]) (fun i => i ≤ xs.length ∧ ∀ j (hj : j < xs.length), j < i → p xs[j] = false) (fun i => xs.length - i) 0 ?_ ⟨Nat.zero_le _, fun j _ h => absurd h (Nat.not_lt_zero _)⟩ ?_
  · simp -implicitDefEqProofs (disch := omega) only [go_sem, ↓reduceIte , hd.owny, hd.pr]
    (try simp -implicitDefEqProofs only [nleL_cc, nleL_nn, nle_self, nle_boxs, nle_aggs, nle_nils, and_self, and_true, true_and]) <;> repeat' (first | exact nle_of_eq rfl | exact nle_nil | apply And.intro | apply nle_sl | apply nleLL_cons | apply nleL_cons | exact nleL_nil | exact nleLL_nil | apply nle_box | apply nle_agg)
  rintro i ⟨hi, ha⟩; simp -implicitDefEqProofs (disch := omega) only [go_sem, ↓reduceIte , List.length_map, Int.toNat_natCast, Int.ofNat_lt, Int.natCast_nonneg, List.getElem?_map, Option.map_some, hd.owny, hd.pr]; refine cond_split ?_ ?_ <;> intro hlt
  · have hlt : i < xs.length := (by simpa using hlt); have hx := List.getElem?_eq_getElem hlt; simp -implicitDefEqProofs (disch := omega) only [go_sem, ↓reduceIte , List.length_map, Int.toNat_natCast, Int.ofNat_lt, Int.natCast_nonneg, List.getElem?_map, Option.map_some, hlt, hx, hd.owny, hd.pr]; have hcx := hc _ (List.getElem_mem hlt); refine callv_le (f := f) (first := []) (caps := caps) ?_ hcx ?_ (.inl rfl) ?_
    · simp -implicitDefEqProofs (disch := omega) only [go_sem, ↓reduceIte , hd.owny]
    · refine leL_of_eq ?_; simp only [List.nil_append, List.cons_append, List.map_cons, List.map_nil, hd.d8, List.map_append]; simp only [deep, raw, List.getElem?_cons_succ, List.getElem?_cons_zero, List.map_cons, List.map_nil, TD.rows, immLL_rI, immLL_rB8, immLL_rS, immLL_rBo]
    simp -implicitDefEqProofs (disch := omega) only [go_sem, ↓reduceIte , hd.owny, hd.pr]; refine cond_split ?_ ?_ <;> intro hp
    · simp -implicitDefEqProofs (disch := omega) only [go_sem, ↓reduceIte , hd.owny, hd.pr]; rw [vIdx_hit p xs i hlt ha hp]
    · simp -implicitDefEqProofs (disch := omega) only [go_sem, ↓reduceIte , wrN, hd.owny, hd.pr]; refine ⟨i + 1, by omega, ⟨hlt, fun j hj h => ?_⟩, nleA⟩; rcases Nat.lt_or_ge j i with h' | h'
      · exact ha j hj h'
      · have : j = i := (by omega); subst this; exact hp
  · have hlt : ¬ i < xs.length := (by simpa using hlt); simp -implicitDefEqProofs (disch := omega) only [go_sem, ↓reduceIte]; rw [vIdx_miss p xs (fun j hj => ha j hj (by omega))]
def code_slices_ContainsFunc_int64_int64 : VCode := (.seq (.ops [
  ⟨(some 4), none, (.asg (.const (.bool false)))⟩]) (.seq (.ops [
  ⟨(some 5), none, (.mv (.tmp 0))⟩,
  ⟨(some 6), none, (.mv (.tmp 1))⟩,
  ⟨(some 7), none, (.callX 104 [(.tmp 5), (.tmp 6)])⟩,
  ⟨(some 8), none, (.bin .geq (.tmp 7) (.const (.int .i64 0)))⟩,
  ⟨(some 4), none, (.asg (.tmp 8))⟩]) .ret))
theorem law_slices_ContainsFunc_int64_int64 {a0 a1 d : D} (h : code_slices_ContainsFunc_int64_int64.wp (CT Tryd.prog TabG) (endQ [(.t 4)] d) [a0, a1, .undef, .undef, .undef, .undef, .undef, .undef, .undef]) : Contract Tryd.prog TabG 95 [a0, a1] d :=
  contract_of (pt := 0) tabG Tryd.func95 (fun us W => by kernel_rfl) (c := Tryd.f95.body.getD .skip) (ms := []) (ms' := []) (by kernel_rfl) (by kernel_rfl) (by kernel_rfl) h
theorem v_ContainsFunc_Int64 (f : FuncId) (caps : List D) (hd : CapsOK caps) (xs : List Int) (p : Int → Bool) (hc : ∀ x, x ∈ xs → Contract Tryd.prog TabG f (.v (.int .i64 x) :: caps) (.v (.bool (p x)))) (hn : xs.length ≤ 1099511627776) :
    Contract Tryd.prog TabG 95 [.sl false 1 (xs.map (rI)), .fn f [] caps] (.v (.bool (xs.any p))) := by
  refine law_slices_ContainsFunc_int64_int64 ?_; unfold code_slices_ContainsFunc_int64_int64; simp -implicitDefEqProofs (disch := omega) only [go_sem, ↓reduceIte , hd.owny, hd.pr]; refine call_le (v_IndexFunc_Int64 f caps hd xs p hc hn) ?_ (.inl rfl) ?_
  · refine leL_of_eq ?_; simp only [List.map_cons, List.map_nil, deep, raw, List.getElem?_cons_succ, List.getElem?_cons_zero, TD.rows, immLL_rI, immLL_rB8, immLL_rS, immLL_rBo, hd.owny, hd.pr, hd.d7]
    try rfl
  simp -implicitDefEqProofs (disch := omega) only [go_sem, ↓reduceIte]; exact congrArg Value.bool (vIdx_any p xs)
structure setB (a : TileSet) : Prop where
  g : a.Glues.length ≤ 1048576
  t : a.Tiles.length ≤ 1048576
  gn : ∀ x, x ∈ a.Glues → x.Name.size ≤ 1048576
  tn : ∀ x, x ∈ a.Tiles → x.Name.size ≤ 1048576
  ts : ∀ x, x ∈ a.Tiles → x.Sides.length ≤ 1048576
theorem setB_of {a : TileSet} (h : TileSet.cnt a ≤ 1048576) : setB a := by
  have h1 := cntL_len Glue.cnt a.Glues; have h2 := cntL_len Tile.cnt a.Tiles; have h3 : TileSet.cnt a = cntL Glue.cnt a.Glues + cntL Tile.cnt a.Tiles := rfl; refine ⟨by omega, by omega, fun x hx => ?_, fun x hx => ?_, fun x hx => ?_⟩
  all_goals obtain ⟨k, hk, rfl⟩ := List.getElem_of_mem hx
  · have := cntL_mem Glue.cnt a.Glues k hk; have h4 : Glue.cnt a.Glues[k] = a.Glues[k].Name.size := rfl; omega
  · have := cntL_mem Tile.cnt a.Tiles k hk; have h4 : Tile.cnt a.Tiles[k] = a.Tiles[k].Name.size + a.Tiles[k].Sides.length := rfl; omega
  · have := cntL_mem Tile.cnt a.Tiles k hk; have h4 : Tile.cnt a.Tiles[k] = a.Tiles[k].Name.size + a.Tiles[k].Sides.length := rfl; omega
def gIdx (gs : List Glue) (n : ByteArray) : Int := vIdx (fun g : Glue => decide (g.Name = n)) gs
def tIdx (ts : List Tile) (n : ByteArray) : Int := vIdx (fun t : Tile => decide (t.Name = n)) ts
def okG (gs : List Glue) (i : Nat) : Bool := match gs[i]? with
  | some g => isNameB g.Name && (inR 1 4 g.Strength && !(gs.take i).any (fun x => decide (x.Name = g.Name)))
  | none => true
def okT (n : Nat) (ts : List Tile) (i : Nat) : Bool := match ts[i]? with
  | some t => isNameB t.Name && (decide (t.Sides.length = 4) && (!(ts.take i).any (fun x => decide (x.Name = t.Name)) && t.Sides.all (inR 0 n)))
  | none => true
def okSet (a : TileSet) : Bool := decide (a.Glues.length ≤ 200) && (inR 1 160 a.Tiles.length && ((List.range a.Glues.length).all (okG a.Glues) && (List.range a.Tiles.length).all (okT a.Glues.length a.Tiles)))
theorem okSet_g {a : TileSet} {i : Nat} (hi : i < a.Glues.length) (h : okG a.Glues i = false) : okSet a = false := by have : (List.range a.Glues.length).all (okG a.Glues) = false := (by rw [List.all_eq_false]; exact ⟨i, by simpa using hi, by simp [h]⟩); simp [okSet, this]
theorem okSet_t {a : TileSet} {i : Nat} (hi : i < a.Tiles.length) (h : okT a.Glues.length a.Tiles i = false) : okSet a = false := by have : (List.range a.Tiles.length).all (okT a.Glues.length a.Tiles) = false := (by rw [List.all_eq_false]; exact ⟨i, by simpa using hi, by simp [h]⟩); simp [okSet, this]
theorem vIdx_self {α : Type} (f : α → ByteArray) (xs : List α) (i : Nat) (hi : i < xs.length) : decide (vIdx (fun x => decide (f x = f xs[i])) xs = (i : Int)) = !(xs.take i).any (fun x => decide (f x = f xs[i])) := by
  by_cases h : (xs.take i).any (fun x => decide (f x = f xs[i])) = true
  · rw [h]; rw [List.any_eq_true] at h; obtain ⟨x, hx, hp⟩ := h; obtain ⟨j, hj, rfl⟩ := List.getElem_of_mem hx; simp only [List.length_take] at hj; rw [List.getElem_take] at hp; have hne : vIdx (fun x => decide (f x = f xs[i])) xs ≠ (i : Int) := by
      intro e; unfold vIdx at e; cases hf : xs.findIdx? (fun x => decide (f x = f xs[i])) with
      | none => rw [hf] at e; simp at e
      | some k =>
        rw [hf] at e; have e : (k : Int) = (i : Int) := e; have hk : k = i := by omega
        subst hk; rw [List.findIdx?_eq_some_iff_getElem] at hf; have := hf.2.2 j (by omega); simp only [decide_eq_true_eq] at this hp; exact this hp
    simp [hne]
  · have h' : (xs.take i).any (fun x => decide (f x = f xs[i])) = false := (by simpa using h); rw [h']; rw [List.any_eq_false] at h'; have := vIdx_hit (fun x => decide (f x = f xs[i])) xs i hi (fun j hj hlt => by
      have := h' xs[j] (by
        rw [List.mem_take_iff_getElem]; exact ⟨j, by omega, rfl⟩)
      simpa using this) (by simp)
    rw [this]; simp
theorem okG_at {gs : List Glue} {i : Nat} (hi : i < gs.length) : okG gs i = (isNameB gs[i].Name && (inR 1 4 gs[i].Strength && !(gs.take i).any (fun x => decide (x.Name = gs[i].Name)))) := by unfold okG; rw [List.getElem?_eq_getElem hi]
theorem okT_at {n : Nat} {ts : List Tile} {i : Nat} (hi : i < ts.length) : okT n ts i = (isNameB ts[i].Name && (decide (ts[i].Sides.length = 4) && (!(ts.take i).any (fun x => decide (x.Name = ts[i].Name)) && ts[i].Sides.all (inR 0 n)))) := by unfold okT; rw [List.getElem?_eq_getElem hi]
/-! names in maps -/
theorem getD_some {s : List Int} {k : Nat} (h : k < s.length) : s[k]? = some (s.getD k 0) := by rw [List.getD_eq_getElem?_getD, List.getElem?_eq_getElem h]; rfl
def entsN {α : Type} (f : α → ByteArray) (xs : List α) : List (Value × Value) := xs.map fun x => (Value.string (f x), Value.bool true)
theorem keq_str {a b : ByteArray} : keq (.string a) (.string b) = decide (b = a) := by rw [Bool.eq_iff_iff, decide_eq_true_eq]; show (a == b) = true ↔ b = a; rw [MapKept.bytes_beq]; exact eq_comm
theorem mget_N {α : Type} (f : α → ByteArray) (n : ByteArray) : ∀ xs : List α, mget (entsN f xs) (.string n) = if xs.any (fun x => decide (f x = n)) then some (.bool true) else none
  | [] => rfl
  | x :: xs => by
    have ih := mget_N f n xs; unfold mget entsN at *; simp only [List.map_cons, List.find?_cons, keq_str, List.any_cons]; by_cases h : f x = n
    · simp [h]
    · simp only [h, decide_false, Bool.false_or]; exact ih
theorem mset_N {α : Type} (f : α → ByteArray) (xs : List α) (y : α) (h : xs.any (fun x => decide (f x = f y)) = false) : mset (entsN f xs) (.string (f y)) (.bool true) = entsN f (xs ++ [y]) := by
  unfold mset; have : (entsN f xs).findIdx? (fun x => keq (.string (f y)) x.1) = none := by rw [List.findIdx?_eq_none_iff]; intro x hx; unfold entsN at hx; obtain ⟨z, hz, rfl⟩ := List.mem_map.1 hx; rw [List.any_eq_false] at h; have := h z hz; simp only [keq_str]; simpa using this
  rw [this]; simp [entsN]
theorem take_next {α : Type} {xs : List α} {i : Nat} (hi : i < xs.length) : xs.take i ++ [xs[i]] = xs.take (i + 1) := (List.take_succ_eq_append_getElem hi).symm
def code_spec_l02Glue : VCode := (.seq (.ops [
  ⟨(some 4), none, (.asg (.const (.int .i64 0)))⟩]) (.seq (.seq (.ops [
  ⟨(some 5), none, (.asg (.const (.int .i64 0)))⟩]) (.block 0 (.loop (mB 27 134217692) (.seq (.seq (.ops [
  ⟨(some 6), none, (.mv (.tmp 5))⟩,
  ⟨(some 7), none, (.mv (.tmp 0))⟩,
  ⟨(some 8), none, (.nilc (.tmp 7))⟩,
  ⟨(some 9), none, (.fa 0 (.tmp 8))⟩,
  ⟨(some 10), none, (.load 1 false (.tmp 9))⟩,
  ⟨(some 11), none, (.len (.tmp 10))⟩,
  ⟨(some 12), none, (.bin .lss (.tmp 6) (.tmp 11))⟩]) (.cond (.tmp 12) .skip (.exit 0))) (.seq (.block 1 (.seq (.ops [
  ⟨(some 15), none, (.mv (.tmp 0))⟩,
  ⟨(some 16), none, (.nilc (.tmp 15))⟩,
  ⟨(some 17), none, (.fa 0 (.tmp 16))⟩,
  ⟨(some 18), none, (.load 1 false (.tmp 17))⟩,
  ⟨(some 19), none, (.mv (.tmp 5))⟩,
  ⟨(some 20), none, (.ia 2 (.tmp 18) (.tmp 19))⟩,
  ⟨(some 21), none, (.fa 0 (.tmp 20))⟩,
  ⟨(some 22), none, (.load 1 false (.tmp 21))⟩,
  ⟨(some 23), none, (.mv (.tmp 1))⟩,
  ⟨(some 24), none, (.bin .eql (.tmp 22) (.tmp 23))⟩]) (.cond (.tmp 24) (.seq (.ops [
  ⟨(some 25), none, (.mv (.tmp 5))⟩,
  ⟨(some 26), none, (.bin .add (.tmp 25) (.const (.int .i64 1)))⟩,
  ⟨(some 4), none, (.asg (.tmp 26))⟩]) .ret) .skip))) (.ops [
  ⟨(some 13), none, (.mv (.tmp 5))⟩,
  ⟨(some 14), none, (.bin .add (.tmp 13) (.const (.int .i64 1)))⟩,
  ⟨(some 5), none, (.asg (.tmp 14))⟩])))))) (.seq (.ops [
  ⟨(some 4), none, (.asg (.const (.int .i64 0)))⟩]) .ret)))
theorem law_spec_l02Glue {a0 a1 d : D} (h : code_spec_l02Glue.wp (CT Tryd.prog TabG) (endQ [(.t 4)] d) [a0, a1, .undef, .undef, .undef, .undef, .undef, .undef, .undef, .undef, .undef, .undef, .undef, .undef, .undef, .undef, .undef, .undef, .undef, .undef, .undef, .undef, .undef, .undef, .undef, .undef, .undef]) : Contract Tryd.prog TabG 65 [a0, a1] d :=
  contract_of (pt := 0) tabG Tryd.func65 (fun us W => by kernel_rfl) (c := Tryd.f65.body.getD .skip) (ms := [(mB 27 134217692)]) (ms' := []) (by kernel_rfl) (by kernel_rfl) (by kernel_rfl) h
def code_spec_l02Tile : VCode := (.seq (.ops [
  ⟨(some 4), none, (.asg (.const (.int .i64 0)))⟩]) (.seq (.seq (.ops [
  ⟨(some 5), none, (.asg (.const (.int .i64 0)))⟩]) (.block 0 (.loop (mB 26 67108828) (.seq (.seq (.ops [
  ⟨(some 6), none, (.mv (.tmp 5))⟩,
  ⟨(some 7), none, (.mv (.tmp 0))⟩,
  ⟨(some 8), none, (.nilc (.tmp 7))⟩,
  ⟨(some 9), none, (.fa 1 (.tmp 8))⟩,
  ⟨(some 10), none, (.load 1 false (.tmp 9))⟩,
  ⟨(some 11), none, (.len (.tmp 10))⟩,
  ⟨(some 12), none, (.bin .lss (.tmp 6) (.tmp 11))⟩]) (.cond (.tmp 12) .skip (.exit 0))) (.seq (.block 1 (.seq (.ops [
  ⟨(some 15), none, (.mv (.tmp 0))⟩,
  ⟨(some 16), none, (.nilc (.tmp 15))⟩,
  ⟨(some 17), none, (.fa 1 (.tmp 16))⟩,
  ⟨(some 18), none, (.load 1 false (.tmp 17))⟩,
  ⟨(some 19), none, (.mv (.tmp 5))⟩,
  ⟨(some 20), none, (.ia 2 (.tmp 18) (.tmp 19))⟩,
  ⟨(some 21), none, (.fa 0 (.tmp 20))⟩,
  ⟨(some 22), none, (.load 1 false (.tmp 21))⟩,
  ⟨(some 23), none, (.mv (.tmp 1))⟩,
  ⟨(some 24), none, (.bin .eql (.tmp 22) (.tmp 23))⟩]) (.cond (.tmp 24) (.seq (.ops [
  ⟨(some 25), none, (.mv (.tmp 5))⟩,
  ⟨(some 4), none, (.asg (.tmp 25))⟩]) .ret) .skip))) (.ops [
  ⟨(some 13), none, (.mv (.tmp 5))⟩,
  ⟨(some 14), none, (.bin .add (.tmp 13) (.const (.int .i64 1)))⟩,
  ⟨(some 5), none, (.asg (.tmp 14))⟩])))))) (.seq (.ops [
  ⟨(some 4), none, (.asg (.const (.int .i64 (-1))))⟩]) .ret)))
theorem law_spec_l02Tile {a0 a1 d : D} (h : code_spec_l02Tile.wp (CT Tryd.prog TabG) (endQ [(.t 4)] d) [a0, a1, .undef, .undef, .undef, .undef, .undef, .undef, .undef, .undef, .undef, .undef, .undef, .undef, .undef, .undef, .undef, .undef, .undef, .undef, .undef, .undef, .undef, .undef, .undef, .undef]) : Contract Tryd.prog TabG 66 [a0, a1] d :=
  contract_of (pt := 0) tabG Tryd.func66 (fun us W => by kernel_rfl) (c := Tryd.f66.body.getD .skip) (ms := [(mB 26 67108828)]) (ms' := []) (by kernel_rfl) (by kernel_rfl) (by kernel_rfl) h
theorem v_l02Glue (a : TileSet) (n : ByteArray) (hg : a.Glues.length ≤ 1048576) : Contract Tryd.prog TabG 65 [.iptr (TileSet.td.d false a) 0, .v (.string n)] (.v (.int .i64 (gIdx a.Glues n + 1))) := by
  rw [TileSet.td_d]; refine law_spec_l02Glue ?_; unfold code_spec_l02Glue; simp -implicitDefEqProofs (disch := omega) only [go_sem, ↓reduceIte]; refine loop_st (fun i : Nat => [.iptr [.sl false 2 (a.Glues.map (Glue.td.d false)), .sl false 2 (a.Tiles.map (Tile.td.d false))] 0, .v (.string n), .undef, .undef, .undef, .v (.int .i64 i), .undef, .undef, .undef, .undef, .undef, .undef, .undef, .undef, .undef, .undef, .undef, .undef, .undef, .undef, .undef, .undef, .undef, .undef, .undef, .undef, .undef]) (fun i => i ≤ a.Glues.length ∧ ∀ j (hj : j < a.Glues.length), j < i → decide (a.Glues[j].Name = n) = false) (fun i => a.Glues.length - i) 0 (nleA) ⟨Nat.zero_le _, fun _ _ h => absurd h (Nat.not_lt_zero _)⟩ ?_; rintro i ⟨hi, ha⟩; simp -implicitDefEqProofs (disch := omega) only [go_sem, ↓reduceIte , List.length_map, Int.toNat_natCast, Int.ofNat_lt, Int.natCast_nonneg, List.getElem?_map, Option.map_some]; refine cond_split ?_ ?_ <;> intro hlt
  · have hlt : i < a.Glues.length := (by simpa using hlt); have e1 := List.getElem?_eq_getElem hlt; simp -implicitDefEqProofs (disch := omega) only [go_sem, ↓reduceIte , List.length_map, Int.toNat_natCast, Int.ofNat_lt, Int.natCast_nonneg, List.getElem?_map, Option.map_some, hlt, e1, Glue.td_d]; refine cond_split ?_ ?_ <;> intro hc
    · have hv : gIdx a.Glues n = (i : Int) := vIdx_hit _ a.Glues i hlt (fun j hj h => ha j hj h) hc; simp -implicitDefEqProofs (disch := omega) only [go_sem, ↓reduceIte , wrN]; rw [hv]; simp
    · simp -implicitDefEqProofs (disch := omega) only [go_sem, ↓reduceIte , wrN]; refine ⟨i + 1, by omega, ⟨hlt, fun j hj h => ?_⟩, nleA⟩; by_cases hji : j = i
      · subst hji; exact hc
      · exact ha j hj (by omega)
  · have hge : i = a.Glues.length := by have : ¬ i < a.Glues.length := by simpa using hlt
                                        omega
    subst hge; have hv : gIdx a.Glues n = -1 := vIdx_miss _ a.Glues (fun j hj => ha j hj hj); simp -implicitDefEqProofs (disch := omega) only [go_sem, ↓reduceIte]; rw [hv]; rfl
theorem v_l02Tile (a : TileSet) (n : ByteArray) (hg : a.Tiles.length ≤ 1048576) : Contract Tryd.prog TabG 66 [.iptr (TileSet.td.d false a) 0, .v (.string n)] (.v (.int .i64 (tIdx a.Tiles n))) := by
  rw [TileSet.td_d]; refine law_spec_l02Tile ?_; unfold code_spec_l02Tile; simp -implicitDefEqProofs (disch := omega) only [go_sem, ↓reduceIte]; refine loop_st (fun i : Nat => [.iptr [.sl false 2 (a.Glues.map (Glue.td.d false)), .sl false 2 (a.Tiles.map (Tile.td.d false))] 0, .v (.string n), .undef, .undef, .undef, .v (.int .i64 i), .undef, .undef, .undef, .undef, .undef, .undef, .undef, .undef, .undef, .undef, .undef, .undef, .undef, .undef, .undef, .undef, .undef, .undef, .undef, .undef]) (fun i => i ≤ a.Tiles.length ∧ ∀ j (hj : j < a.Tiles.length), j < i → decide (a.Tiles[j].Name = n) = false) (fun i => a.Tiles.length - i) 0 (nleA) ⟨Nat.zero_le _, fun _ _ h => absurd h (Nat.not_lt_zero _)⟩ ?_; rintro i ⟨hi, ha⟩; simp -implicitDefEqProofs (disch := omega) only [go_sem, ↓reduceIte , List.length_map, Int.toNat_natCast, Int.ofNat_lt, Int.natCast_nonneg, List.getElem?_map, Option.map_some]; refine cond_split ?_ ?_ <;> intro hlt
  · have hlt : i < a.Tiles.length := (by simpa using hlt); have e1 := List.getElem?_eq_getElem hlt; simp -implicitDefEqProofs (disch := omega) only [go_sem, ↓reduceIte , List.length_map, Int.toNat_natCast, Int.ofNat_lt, Int.natCast_nonneg, List.getElem?_map, Option.map_some, hlt, e1, Tile.td_d]; refine cond_split ?_ ?_ <;> intro hc
    · have hv : tIdx a.Tiles n = (i : Int) := vIdx_hit _ a.Tiles i hlt (fun j hj h => ha j hj h) hc; simp -implicitDefEqProofs (disch := omega) only [go_sem, ↓reduceIte , wrN]; rw [hv]
    · simp -implicitDefEqProofs (disch := omega) only [go_sem, ↓reduceIte , wrN]; refine ⟨i + 1, by omega, ⟨hlt, fun j hj h => ?_⟩, nleA⟩; by_cases hji : j = i
      · subst hji; exact hc
      · exact ha j hj (by omega)
  · have hge : i = a.Tiles.length := by have : ¬ i < a.Tiles.length := by simpa using hlt
                                        omega
    subst hge; have hv : tIdx a.Tiles n = -1 := vIdx_miss _ a.Tiles (fun j hj => ha j hj hj); simp -implicitDefEqProofs (disch := omega) only [go_sem, ↓reduceIte]; rw [hv]
def code_spec_l02Ok : VCode := (.seq (.ops [
  ⟨(some 2), none, (.asg (.const (.bool false)))⟩]) (.seq (.seq (.ops [
  ⟨(some 8), none, (.mv (.tmp 0))⟩,
  ⟨(some 9), none, (.nilc (.tmp 8))⟩,
  ⟨(some 10), none, (.fa 0 (.tmp 9))⟩,
  ⟨(some 11), none, (.load 1 false (.tmp 10))⟩,
  ⟨(some 12), none, (.len (.tmp 11))⟩,
  ⟨(some 13), none, (.bin .gtr (.tmp 12) (.const (.int .i64 200)))⟩,
  ⟨(some 14), none, (.mv (.tmp 13))⟩,
  ⟨(some 15), (some (14, false)), (.mv (.tmp 0))⟩,
  ⟨(some 16), (some (14, false)), (.nilc (.tmp 15))⟩,
  ⟨(some 17), (some (14, false)), (.fa 1 (.tmp 16))⟩,
  ⟨(some 18), (some (14, false)), (.load 1 false (.tmp 17))⟩,
  ⟨(some 19), (some (14, false)), (.len (.tmp 18))⟩,
  ⟨(some 20), (some (14, false)), (.bin .lss (.tmp 19) (.const (.int .i64 1)))⟩,
  ⟨(some 21), none, (.pick (.tmp 14) (.const (.bool true)) (.tmp 20))⟩,
  ⟨(some 22), none, (.mv (.tmp 21))⟩,
  ⟨(some 23), (some (22, false)), (.mv (.tmp 0))⟩,
  ⟨(some 24), (some (22, false)), (.nilc (.tmp 23))⟩,
  ⟨(some 25), (some (22, false)), (.fa 1 (.tmp 24))⟩,
  ⟨(some 26), (some (22, false)), (.load 1 false (.tmp 25))⟩,
  ⟨(some 27), (some (22, false)), (.len (.tmp 26))⟩,
  ⟨(some 28), (some (22, false)), (.bin .gtr (.tmp 27) (.const (.int .i64 160)))⟩,
  ⟨(some 29), none, (.pick (.tmp 22) (.const (.bool true)) (.tmp 28))⟩]) (.cond (.tmp 29) (.seq (.ops [
  ⟨(some 2), none, (.asg (.const (.bool false)))⟩]) .ret) .skip)) (.seq (.seq (.ops [
  ⟨(some 3), none, (.asg (.const (.int .i64 0)))⟩]) (.block 0 (.loop (mB 115 41538374868278621028243970633760758) (.seq (.seq (.ops [
  ⟨(some 30), none, (.mv (.tmp 3))⟩,
  ⟨(some 31), none, (.mv (.tmp 0))⟩,
  ⟨(some 32), none, (.nilc (.tmp 31))⟩,
  ⟨(some 33), none, (.fa 0 (.tmp 32))⟩,
  ⟨(some 34), none, (.load 1 false (.tmp 33))⟩,
  ⟨(some 35), none, (.len (.tmp 34))⟩,
  ⟨(some 36), none, (.bin .lss (.tmp 30) (.tmp 35))⟩]) (.cond (.tmp 36) .skip (.exit 0))) (.seq (.block 1 (.seq (.ops [
  ⟨(some 39), none, (.mv (.tmp 0))⟩,
  ⟨(some 40), none, (.nilc (.tmp 39))⟩,
  ⟨(some 41), none, (.fa 0 (.tmp 40))⟩,
  ⟨(some 42), none, (.load 1 false (.tmp 41))⟩,
  ⟨(some 43), none, (.mv (.tmp 3))⟩,
  ⟨(some 44), none, (.ia 2 (.tmp 42) (.tmp 43))⟩,
  ⟨(some 45), none, (.load 2 true (.tmp 44))⟩,
  ⟨(some 4), none, (.alloc [(.string ⟨⟨[]⟩⟩), (.int .i64 0)])⟩,
  ⟨none, none, (.store 2 (.tmp 4) (.tmp 45))⟩]) (.seq (.ops [
  ⟨(some 46), none, (.fa 0 (.tmp 4))⟩,
  ⟨(some 47), none, (.load 1 false (.tmp 46))⟩,
  ⟨(some 48), none, (.callX 64 [(.tmp 47)])⟩,
  ⟨(some 49), none, (.un .not (.tmp 48))⟩,
  ⟨(some 50), none, (.mv (.tmp 49))⟩,
  ⟨(some 51), (some (50, false)), (.fa 1 (.tmp 4))⟩,
  ⟨(some 52), (some (50, false)), (.load 1 false (.tmp 51))⟩,
  ⟨(some 53), (some (50, false)), (.callX 55 [(.tmp 52), (.const (.int .i64 1)), (.const (.int .i64 4))])⟩,
  ⟨(some 54), (some (50, false)), (.un .not (.tmp 53))⟩,
  ⟨(some 55), none, (.pick (.tmp 50) (.const (.bool true)) (.tmp 54))⟩,
  ⟨(some 56), none, (.mv (.tmp 55))⟩,
  ⟨(some 57), (some (56, false)), (.mv (.tmp 0))⟩,
  ⟨(some 58), (some (56, false)), (.fa 0 (.tmp 4))⟩,
  ⟨(some 59), (some (56, false)), (.load 1 false (.tmp 58))⟩,
  ⟨(some 60), (some (56, false)), (.callX 65 [(.tmp 57), (.tmp 59)])⟩,
  ⟨(some 61), (some (56, false)), (.mv (.tmp 3))⟩,
  ⟨(some 62), (some (56, false)), (.bin .add (.tmp 61) (.const (.int .i64 1)))⟩,
  ⟨(some 63), (some (56, false)), (.bin .neq (.tmp 60) (.tmp 62))⟩,
  ⟨(some 64), none, (.pick (.tmp 56) (.const (.bool true)) (.tmp 63))⟩]) (.cond (.tmp 64) (.seq (.ops [
  ⟨(some 2), none, (.asg (.const (.bool false)))⟩]) .ret) .skip)))) (.ops [
  ⟨(some 37), none, (.mv (.tmp 3))⟩,
  ⟨(some 38), none, (.bin .add (.tmp 37) (.const (.int .i64 1)))⟩,
  ⟨(some 3), none, (.asg (.tmp 38))⟩])))))) (.seq (.seq (.ops [
  ⟨(some 5), none, (.asg (.const (.int .i64 0)))⟩]) (.block 2 (.loop (mB 115 41538374868278621028243970633760734) (.seq (.seq (.ops [
  ⟨(some 65), none, (.mv (.tmp 5))⟩,
  ⟨(some 66), none, (.mv (.tmp 0))⟩,
  ⟨(some 67), none, (.nilc (.tmp 66))⟩,
  ⟨(some 68), none, (.fa 1 (.tmp 67))⟩,
  ⟨(some 69), none, (.load 1 false (.tmp 68))⟩,
  ⟨(some 70), none, (.len (.tmp 69))⟩,
  ⟨(some 71), none, (.bin .lss (.tmp 65) (.tmp 70))⟩]) (.cond (.tmp 71) .skip (.exit 2))) (.seq (.block 3 (.seq (.ops [
  ⟨(some 74), none, (.mv (.tmp 0))⟩,
  ⟨(some 75), none, (.nilc (.tmp 74))⟩,
  ⟨(some 76), none, (.fa 1 (.tmp 75))⟩,
  ⟨(some 77), none, (.load 1 false (.tmp 76))⟩,
  ⟨(some 78), none, (.mv (.tmp 5))⟩,
  ⟨(some 79), none, (.ia 2 (.tmp 77) (.tmp 78))⟩,
  ⟨(some 80), none, (.load 2 true (.tmp 79))⟩,
  ⟨(some 6), none, (.alloc [(.string ⟨⟨[]⟩⟩), (.slice none 0 0)])⟩,
  ⟨none, none, (.store 2 (.tmp 6) (.tmp 80))⟩]) (.seq (.seq (.ops [
  ⟨(some 81), none, (.fa 0 (.tmp 6))⟩,
  ⟨(some 82), none, (.load 1 false (.tmp 81))⟩,
  ⟨(some 83), none, (.callX 64 [(.tmp 82)])⟩,
  ⟨(some 84), none, (.un .not (.tmp 83))⟩,
  ⟨(some 85), none, (.mv (.tmp 84))⟩,
  ⟨(some 86), (some (85, false)), (.fa 1 (.tmp 6))⟩,
  ⟨(some 87), (some (85, false)), (.load 1 false (.tmp 86))⟩,
  ⟨(some 88), (some (85, false)), (.len (.tmp 87))⟩,
  ⟨(some 89), (some (85, false)), (.bin .neq (.tmp 88) (.const (.int .i64 4)))⟩,
  ⟨(some 90), none, (.pick (.tmp 85) (.const (.bool true)) (.tmp 89))⟩,
  ⟨(some 91), none, (.mv (.tmp 90))⟩,
  ⟨(some 92), (some (91, false)), (.mv (.tmp 0))⟩,
  ⟨(some 93), (some (91, false)), (.fa 0 (.tmp 6))⟩,
  ⟨(some 94), (some (91, false)), (.load 1 false (.tmp 93))⟩,
  ⟨(some 95), (some (91, false)), (.callX 66 [(.tmp 92), (.tmp 94)])⟩,
  ⟨(some 96), (some (91, false)), (.mv (.tmp 5))⟩,
  ⟨(some 97), (some (91, false)), (.bin .neq (.tmp 95) (.tmp 96))⟩,
  ⟨(some 98), none, (.pick (.tmp 91) (.const (.bool true)) (.tmp 97))⟩]) (.cond (.tmp 98) (.seq (.ops [
  ⟨(some 2), none, (.asg (.const (.bool false)))⟩]) .ret) .skip)) (.seq (.ops [
  ⟨(some 7), none, (.asg (.const (.int .i64 0)))⟩]) (.block 4 (.loop (mB 115 41538374868278621028243970633760542) (.seq (.seq (.ops [
  ⟨(some 99), none, (.mv (.tmp 7))⟩,
  ⟨(some 100), none, (.bin .lss (.tmp 99) (.const (.int .i64 4)))⟩]) (.cond (.tmp 100) .skip (.exit 4))) (.seq (.block 5 (.seq (.draw (mB 113 10374452512267829421849019032797184) [] [⟨0, (mB 113 10374452512267829421849019032797184), [], ⟨(some 103), none, (.fa 1 (.tmp 6))⟩⟩, ⟨1, (mB 113 10364311307466003586637045407154176), [], ⟨(some 104), none, (.load 1 false (.tmp 103))⟩⟩, ⟨2, (mB 113 10374452512267829421849019032797184), [], ⟨(some 105), none, (.mv (.tmp 7))⟩⟩, ⟨3, (mB 113 10303464078655048575365203653296128), [], ⟨(some 106), none, (.ia 1 (.tmp 104) (.tmp 105))⟩⟩, ⟨4, (mB 113 10222334440240441893669414648152064), [], ⟨(some 107), none, (.load 1 false (.tmp 106))⟩⟩, ⟨5, (mB 113 10374452512267829421849019032797184), [], ⟨(some 108), none, (.mv (.tmp 0))⟩⟩, ⟨6, (mB 113 10049933958609402695065863012220928), [], ⟨(some 109), none, (.nilc (.tmp 108))⟩⟩, ⟨7, (mB 113 9400896851292549241499550971068416), [], ⟨(some 110), none, (.fa 0 (.tmp 109))⟩⟩, ⟨8, (mB 113 8102822636658842334366926888763392), [], ⟨(some 111), none, (.load 1 false (.tmp 110))⟩⟩, ⟨9, (mB 113 5506674207391428520101678724153344), [], ⟨(some 112), none, (.len (.tmp 111))⟩⟩] [⟨(some 113), none, (.callX 55 [(.tmp 107), (.const (.int .i64 0)), (.tmp 112)])⟩, ⟨(some 114), none, (.un .not (.tmp 113))⟩]) (.cond (.tmp 114) (.seq (.ops [
  ⟨(some 2), none, (.asg (.const (.bool false)))⟩]) .ret) .skip))) (.ops [
  ⟨(some 101), none, (.mv (.tmp 7))⟩,
  ⟨(some 102), none, (.bin .add (.tmp 101) (.const (.int .i64 1)))⟩,
  ⟨(some 7), none, (.asg (.tmp 102))⟩]))))))))) (.ops [
  ⟨(some 72), none, (.mv (.tmp 5))⟩,
  ⟨(some 73), none, (.bin .add (.tmp 72) (.const (.int .i64 1)))⟩,
  ⟨(some 5), none, (.asg (.tmp 73))⟩])))))) (.seq (.ops [
  ⟨(some 2), none, (.asg (.const (.bool true)))⟩]) .ret)))))
theorem law_spec_l02Ok {a0 d : D} (h : code_spec_l02Ok.wp (CT Tryd.prog TabG) (endQ [(.t 2)] d) [a0, .undef, .undef, .undef, .undef, .undef, .undef, .undef, .undef, .undef, .undef, .undef, .undef, .undef, .undef, .undef, .undef, .undef, .undef, .undef, .undef, .undef, .undef, .undef, .undef, .undef, .undef, .undef, .undef, .undef, .undef, .undef, .undef, .undef, .undef, .undef, .undef, .undef, .undef, .undef, .undef, .undef, .undef, .undef, .undef, .undef, .undef, .undef, .undef, .undef, .undef, .undef, .undef, .undef, .undef, .undef, .undef, .undef, .undef, .undef, .undef, .undef, .undef, .undef, .undef, .undef, .undef, .undef, .undef, .undef, .undef, .undef, .undef, .undef, .undef, .undef, .undef, .undef, .undef, .undef, .undef, .undef, .undef, .undef, .undef, .undef, .undef, .undef, .undef, .undef, .undef, .undef, .undef, .undef, .undef, .undef, .undef, .undef, .undef, .undef, .undef, .undef, .undef, .undef, .undef, .undef, .undef, .undef, .undef, .undef, .undef, .undef, .undef, .undef, .undef]) : Contract Tryd.prog TabG 37 [a0] d :=
  contract_of (pt := 0) tabG Tryd.func37 (fun us W => by kernel_rfl) (c := Tryd.f37.body.getD .skip) (ms := [(mB 115 41538374868278621028243970633760758), (mB 115 41538374868278621028243970633760734), (mB 115 41538374868278621028243970633760542)]) (ms' := []) (by kernel_rfl) (by kernel_rfl) (by kernel_rfl) h
set_option maxHeartbeats 4000000 in
theorem v_l02Ok (a : TileSet) (ha : setB a) : Contract Tryd.prog TabG 37 [.iptr (TileSet.td.d false a) 0] (.v (.bool (okSet a))) := by
  have hag := ha.g; have hat := ha.t; rw [TileSet.td_d]; refine law_spec_l02Ok ?_; unfold code_spec_l02Ok; by_cases hg : a.Glues.length ≤ 200
  · have f1 : decide ((200 : Int) < (a.Glues.length : Int)) = false := decide_eq_false (by omega); by_cases ht : 1 ≤ a.Tiles.length
    · have f2 : decide ((a.Tiles.length : Int) < 1) = false := decide_eq_false (by omega); by_cases ht2 : a.Tiles.length ≤ 160
      · have f3 : decide ((160 : Int) < (a.Tiles.length : Int)) = false := decide_eq_false (by omega); simp -implicitDefEqProofs (disch := omega) only [go_sem, ↓reduceIte , List.length_map, f1, f2, f3]; refine loop_st (fun i : Nat => [.iptr [.sl false 2 (a.Glues.map (Glue.td.d false)), .sl false 2 (a.Tiles.map (Tile.td.d false))] 0, .undef, .undef, .v (.int .i64 i), .undef, .undef, .undef, .undef, .undef, .undef, .undef, .undef, .undef, .undef, .undef, .undef, .undef, .undef, .undef, .undef, .undef, .undef, .undef, .undef, .undef, .undef, .undef, .undef, .undef, .undef, .undef, .undef, .undef, .undef, .undef, .undef, .undef, .undef, .undef, .undef, .undef, .undef, .undef, .undef, .undef, .undef, .undef, .undef, .undef, .undef, .undef, .undef, .undef, .undef, .undef, .undef, .undef, .undef, .undef, .undef, .undef, .undef, .undef, .undef, .undef, .undef, .undef, .undef, .undef, .undef, .undef, .undef, .undef, .undef, .undef, .undef, .undef, .undef, .undef, .undef, .undef, .undef, .undef, .undef, .undef, .undef, .undef, .undef, .undef, .undef, .undef, .undef, .undef, .undef, .undef, .undef, .undef, .undef, .undef, .undef, .undef, .undef, .undef, .undef, .undef, .undef, .undef, .undef, .undef, .undef, .undef, .undef, .undef, .undef, .undef]) (fun i => i ≤ a.Glues.length ∧ (List.range i).all (okG a.Glues) = true) (fun i => a.Glues.length - i) 0 (nleA) ⟨Nat.zero_le _, rfl⟩ ?_; rintro i ⟨hi, hall⟩; simp -implicitDefEqProofs (disch := omega) only [go_sem, ↓reduceIte , List.length_map, Int.toNat_natCast, Int.ofNat_lt, Int.natCast_nonneg, List.getElem?_map, Option.map_some]; refine cond_split ?_ ?_ <;> intro hlt
        · have hlt : i < a.Glues.length := (by simpa using hlt); have e1 := List.getElem?_eq_getElem hlt; have hok := okG_at hlt; simp -implicitDefEqProofs (disch := omega) only [go_sem, ↓reduceIte , List.length_map, Int.toNat_natCast, Int.ofNat_lt, Int.natCast_nonneg, List.getElem?_map, Option.map_some, hlt, e1, Glue.td_d]; refine call_B (vIsName_spec _ (ha.gn _ (List.getElem_mem hlt))) (by simp -implicitDefEqProofs (disch := omega) only [go_sem, ↓reduceIte, deep, TD.rows, immLL_rI, immLL_rB8, immLL_rS, immLL_rBo, immLL_rII, immLL_rIIt]; exact rfl) ?_; simp -implicitDefEqProofs (disch := omega) only [go_sem, ↓reduceIte]; refine guard_split ?_ ?_ <;> intro h1
          · simp -implicitDefEqProofs (disch := omega) only [go_sem, ↓reduceIte , h1]; simp only [Bool.not_eq_true'] at h1; rw [okSet_g hlt (by rw [hok, h1]; rfl)]
          · simp only [Bool.not_eq_false'] at h1; simp -implicitDefEqProofs (disch := omega) only [go_sem, ↓reduceIte , h1]; refine call_B (v_l00In _ _ _) (by simp -implicitDefEqProofs (disch := omega) only [go_sem, ↓reduceIte, deep, TD.rows, immLL_rI, immLL_rB8, immLL_rS, immLL_rBo, immLL_rII, immLL_rIIt]; exact rfl) ?_; simp -implicitDefEqProofs (disch := omega) only [go_sem, ↓reduceIte]; refine guard_split ?_ ?_ <;> intro h2
            · simp -implicitDefEqProofs (disch := omega) only [go_sem, ↓reduceIte , h2]; simp only [Bool.not_eq_true'] at h2; rw [okSet_g hlt (by rw [hok, h1, h2]; rfl)]
            · simp only [Bool.not_eq_false'] at h2; simp -implicitDefEqProofs (disch := omega) only [go_sem, ↓reduceIte , h2]; refine call_B (v_l02Glue a a.Glues[i].Name hag) (by simp -implicitDefEqProofs (disch := omega) only [go_sem, ↓reduceIte, deep, TD.rows, immLL_rI, immLL_rB8, immLL_rS, immLL_rBo, immLL_rII, immLL_rIIt, wrN]; exact rfl) ?_; simp -implicitDefEqProofs (disch := omega) only [go_sem, ↓reduceIte , wrN]; have hself : (!decide (gIdx a.Glues a.Glues[i].Name + 1 = ((i + 1 : Nat) : Int))) = (a.Glues.take i).any (fun x => decide (x.Name = a.Glues[i].Name)) := by have h3 : decide (gIdx a.Glues a.Glues[i].Name + 1 = ((i + 1 : Nat) : Int)) = decide (gIdx a.Glues a.Glues[i].Name = (i : Int)) := (by rw [decide_eq_decide]; omega); have h4 : decide (gIdx a.Glues a.Glues[i].Name = (i : Int)) = !(a.Glues.take i).any (fun x => decide (x.Name = a.Glues[i].Name)) := vIdx_self (fun g : Glue => g.Name) a.Glues i hlt; rw [h3, h4, Bool.not_not]
              rw [hself]; refine cond_split ?_ ?_ <;> intro h3
              · simp -implicitDefEqProofs (disch := omega) only [go_sem, ↓reduceIte]; rw [okSet_g hlt (by rw [hok, h1, h2, h3]; rfl)]
              · simp -implicitDefEqProofs (disch := omega) only [go_sem, ↓reduceIte , wrN]; exact ⟨i + 1, by omega, ⟨hlt, all_next hall (by rw [hok, h1, h2, h3]; rfl)⟩, nleA⟩
        · have hge : i = a.Glues.length := by have : ¬ i < a.Glues.length := by simpa using hlt
                                              omega
          subst hge; simp -implicitDefEqProofs (disch := omega) only [go_sem, ↓reduceIte]; refine loop_st (fun i : Nat => [.iptr [.sl false 2 (a.Glues.map (Glue.td.d false)), .sl false 2 (a.Tiles.map (Tile.td.d false))] 0, .undef, .undef, .undef, .undef, .v (.int .i64 i), .undef, .undef, .undef, .undef, .undef, .undef, .undef, .undef, .undef, .undef, .undef, .undef, .undef, .undef, .undef, .undef, .undef, .undef, .undef, .undef, .undef, .undef, .undef, .undef, .undef, .undef, .undef, .undef, .undef, .undef, .undef, .undef, .undef, .undef, .undef, .undef, .undef, .undef, .undef, .undef, .undef, .undef, .undef, .undef, .undef, .undef, .undef, .undef, .undef, .undef, .undef, .undef, .undef, .undef, .undef, .undef, .undef, .undef, .undef, .undef, .undef, .undef, .undef, .undef, .undef, .undef, .undef, .undef, .undef, .undef, .undef, .undef, .undef, .undef, .undef, .undef, .undef, .undef, .undef, .undef, .undef, .undef, .undef, .undef, .undef, .undef, .undef, .undef, .undef, .undef, .undef, .undef, .undef, .undef, .undef, .undef, .undef, .undef, .undef, .undef, .undef, .undef, .undef, .undef, .undef, .undef, .undef, .undef, .undef]) (fun i => i ≤ a.Tiles.length ∧ (List.range i).all (okT a.Glues.length a.Tiles) = true) (fun i => a.Tiles.length - i) 0 (nleA) ⟨Nat.zero_le _, rfl⟩ ?_; rintro i ⟨hi, hallT⟩; simp -implicitDefEqProofs (disch := omega) only [go_sem, ↓reduceIte , List.length_map, Int.toNat_natCast, Int.ofNat_lt, Int.natCast_nonneg, List.getElem?_map, Option.map_some]; refine cond_split ?_ ?_ <;> intro hlt
          · have hlt : i < a.Tiles.length := (by simpa using hlt); have e1 := List.getElem?_eq_getElem hlt; have hok : okT a.Glues.length a.Tiles i = _ := okT_at hlt; have hsl := ha.ts _ (List.getElem_mem hlt); simp -implicitDefEqProofs (disch := omega) only [go_sem, ↓reduceIte , List.length_map, Int.toNat_natCast, Int.ofNat_lt, Int.natCast_nonneg, List.getElem?_map, Option.map_some, hlt, e1, Tile.td_d]; refine call_B (vIsName_spec _ (ha.tn _ (List.getElem_mem hlt))) (by simp -implicitDefEqProofs (disch := omega) only [go_sem, ↓reduceIte, deep, TD.rows, immLL_rI, immLL_rB8, immLL_rS, immLL_rBo, immLL_rII, immLL_rIIt]; exact rfl) ?_; simp -implicitDefEqProofs (disch := omega) only [go_sem, ↓reduceIte]; refine guard_split ?_ ?_ <;> intro h1
            · simp -implicitDefEqProofs (disch := omega) only [go_sem, ↓reduceIte , h1]; simp only [Bool.not_eq_true'] at h1; rw [okSet_t hlt (by rw [hok, h1]; rfl)]
            · simp only [Bool.not_eq_false'] at h1; simp -implicitDefEqProofs (disch := omega) only [go_sem, ↓reduceIte , h1, List.length_map]; have h4e : decide ((a.Tiles[i].Sides.length : Int) = 4) = decide (a.Tiles[i].Sides.length = 4) := by rw [decide_eq_decide]; omega
              refine guard_split ?_ ?_ <;> intro h2
              · simp -implicitDefEqProofs (disch := omega) only [go_sem, ↓reduceIte , h2]; simp only [Bool.not_eq_true', h4e] at h2; rw [okSet_t hlt (by rw [hok, h1, h2]; rfl)]
              · have h2' := h2; simp only [Bool.not_eq_false', h4e] at h2'; simp -implicitDefEqProofs (disch := omega) only [go_sem, ↓reduceIte , h2]; refine call_B (v_l02Tile a a.Tiles[i].Name hat) (by simp -implicitDefEqProofs (disch := omega) only [go_sem, ↓reduceIte, deep, TD.rows, immLL_rI, immLL_rB8, immLL_rS, immLL_rBo, immLL_rII, immLL_rIIt]; exact rfl) ?_; simp -implicitDefEqProofs (disch := omega) only [go_sem, ↓reduceIte]; have h4 : decide (tIdx a.Tiles a.Tiles[i].Name = (i : Int)) = !(a.Tiles.take i).any (fun x => decide (x.Name = a.Tiles[i].Name)) := vIdx_self (fun g : Tile => g.Name) a.Tiles i hlt; rw [h4, Bool.not_not]; refine cond_split ?_ ?_ <;> intro h3
                · simp -implicitDefEqProofs (disch := omega) only [go_sem, ↓reduceIte]; rw [okSet_t hlt (by rw [hok, h1, h2', h3]; rfl)]
                · have h44 : a.Tiles[i].Sides.length = 4 := (by simpa using h2'); simp -implicitDefEqProofs (disch := omega) only [go_sem, ↓reduceIte]; refine loop_st (fun k : Nat => [.iptr [.sl false 2 (a.Glues.map (Glue.td.d false)), .sl false 2 (a.Tiles.map (Tile.td.d false))] 0, .undef, .undef, .undef, .undef, .v (.int .i64 i), .box none [.v (.string a.Tiles[i].Name), .sl false 1 (a.Tiles[i].Sides.map rI)], .v (.int .i64 k), .undef, .undef, .undef, .undef, .undef, .undef, .undef, .undef, .undef, .undef, .undef, .undef, .undef, .undef, .undef, .undef, .undef, .undef, .undef, .undef, .undef, .undef, .undef, .undef, .undef, .undef, .undef, .undef, .undef, .undef, .undef, .undef, .undef, .undef, .undef, .undef, .undef, .undef, .undef, .undef, .undef, .undef, .undef, .undef, .undef, .undef, .undef, .undef, .undef, .undef, .undef, .undef, .undef, .undef, .undef, .undef, .undef, .undef, .undef, .undef, .undef, .undef, .undef, .undef, .undef, .undef, .undef, .undef, .undef, .undef, .undef, .undef, .undef, .undef, .undef, .undef, .undef, .undef, .undef, .undef, .undef, .undef, .undef, .undef, .undef, .undef, .undef, .undef, .undef, .undef, .undef, .undef, .undef, .undef, .undef, .undef, .undef, .undef, .undef, .undef, .undef, .undef, .undef, .undef, .undef, .undef, .undef]) (fun k => k ≤ 4 ∧ (a.Tiles[i].Sides.take k).all (inR 0 a.Glues.length) = true) (fun k => 4 - k) 0 (nleA) ⟨Nat.zero_le _, rfl⟩ ?_; rintro k ⟨hk, hkall⟩; simp -implicitDefEqProofs (disch := omega) only [go_sem, ↓reduceIte , List.length_map, Int.toNat_natCast, Int.ofNat_lt, Int.natCast_nonneg, List.getElem?_map, Option.map_some]; refine cond_split ?_ ?_ <;> intro hlk
                  · have hlk : k < 4 := (by have := of_decide_eq_true hlk; omega); have hlk' : k < a.Tiles[i].Sides.length := (by omega); have e2 := List.getElem?_eq_getElem hlk'; simp -implicitDefEqProofs (disch := omega) only [go_sem, ↓reduceIte , List.length_map, Int.toNat_natCast, Int.ofNat_lt, Int.natCast_nonneg, List.getElem?_map, Option.map_some, hlk', e2]; refine call_B (v_l00In _ _ _) (by simp -implicitDefEqProofs (disch := omega) only [go_sem, ↓reduceIte, deep, TD.rows, immLL_rI, immLL_rB8, immLL_rS, immLL_rBo, immLL_rII, immLL_rIIt]; exact rfl) ?_; simp -implicitDefEqProofs (disch := omega) only [go_sem, ↓reduceIte]; refine cond_split ?_ ?_ <;> intro h5
                    · simp -implicitDefEqProofs (disch := omega) only [go_sem, ↓reduceIte]; simp only [Bool.not_eq_true'] at h5; have : a.Tiles[i].Sides.all (inR 0 a.Glues.length) = false := by rw [List.all_eq_false]; exact ⟨_, List.getElem_mem hlk', by simp [h5]⟩
                      rw [okSet_t hlt (by rw [hok, h1, h2', h3, this]; rfl)]
                    · simp only [Bool.not_eq_false'] at h5; simp -implicitDefEqProofs (disch := omega) only [go_sem, ↓reduceIte , wrN]; refine ⟨k + 1, by omega, ⟨hlk, ?_⟩, nleA⟩; rw [List.take_succ_eq_append_getElem hlk', List.all_append, hkall]; simp [h5]
                  · have hk4 : k = 4 := (by have := of_decide_eq_false hlk; omega); subst hk4; simp -implicitDefEqProofs (disch := omega) only [go_sem, ↓reduceIte , wrN]; rw [List.take_of_length_le (by omega)] at hkall; exact ⟨i + 1, by omega, ⟨hlt, all_next hallT (by rw [hok, h1, h2', h3, hkall]; rfl)⟩, nleA⟩
          · have hge : i = a.Tiles.length := by have : ¬ i < a.Tiles.length := by simpa using hlt
                                                omega
            subst hge; simp -implicitDefEqProofs (disch := omega) only [go_sem, ↓reduceIte]; have hr : inR 1 160 a.Tiles.length = true := inR_iff.2 ⟨by omega, by omega⟩; unfold okSet; rw [hall, hallT, hr, decide_eq_true hg]; rfl
      · have f3 : decide ((160 : Int) < (a.Tiles.length : Int)) = true := decide_eq_true (by omega); have hr : inR 1 160 a.Tiles.length = false := (by unfold inR; rw [decide_eq_false (p := (a.Tiles.length : Int) ≤ 160) (by omega), Bool.and_false]); simp -implicitDefEqProofs (disch := omega) only [go_sem, ↓reduceIte , List.length_map, f1, f2, f3]; unfold okSet; rw [hr, Bool.false_and, Bool.and_false]
    · have f2 : decide ((a.Tiles.length : Int) < 1) = true := decide_eq_true (by omega); have hr : inR 1 160 a.Tiles.length = false := (by unfold inR; rw [decide_eq_false (p := (1 : Int) ≤ (a.Tiles.length : Int)) (by omega), Bool.false_and]); simp -implicitDefEqProofs (disch := omega) only [go_sem, ↓reduceIte , List.length_map, f1, f2]; unfold okSet; rw [hr, Bool.false_and, Bool.and_false]
  · have f1 : decide ((200 : Int) < (a.Glues.length : Int)) = true := decide_eq_true (by omega); simp -implicitDefEqProofs (disch := omega) only [go_sem, ↓reduceIte , List.length_map, f1]; unfold okSet; rw [decide_eq_false hg, Bool.false_and]
def code_impl_ValidSet : VCode := (.seq (.ops [
  ⟨(some 1), none, (.box (.tmp 0))⟩,
  ⟨(some 2), none, (.asg (.const (.bool false)))⟩]) (.seq (.seq (.ops [
  ⟨(some 9), none, (.fa 0 (.tmp 1))⟩,
  ⟨(some 10), none, (.load 1 false (.tmp 9))⟩,
  ⟨(some 11), none, (.len (.tmp 10))⟩,
  ⟨(some 12), none, (.bin .gtr (.tmp 11) (.const (.int .i64 200)))⟩,
  ⟨(some 13), none, (.mv (.tmp 12))⟩,
  ⟨(some 14), (some (13, false)), (.fa 1 (.tmp 1))⟩,
  ⟨(some 15), (some (13, false)), (.load 1 false (.tmp 14))⟩,
  ⟨(some 16), (some (13, false)), (.len (.tmp 15))⟩,
  ⟨(some 17), (some (13, false)), (.callX 59 [(.tmp 16), (.const (.int .i64 1)), (.const (.int .i64 160))])⟩,
  ⟨(some 18), (some (13, false)), (.un .not (.tmp 17))⟩,
  ⟨(some 19), none, (.pick (.tmp 13) (.const (.bool true)) (.tmp 18))⟩]) (.cond (.tmp 19) (.seq (.ops [
  ⟨(some 2), none, (.asg (.const (.bool false)))⟩]) .ret) .skip)) (.seq (.ops [
  ⟨(some 20), none, (.mkm .str)⟩,
  ⟨(some 3), none, (.asg (.tmp 20))⟩]) (.seq (.seq (.ops [
  ⟨(some 21), none, (.fa 0 (.tmp 1))⟩,
  ⟨(some 22), none, (.load 1 false (.tmp 21))⟩,
  ⟨(some 23), none, (.len (.tmp 22))⟩,
  ⟨(some 24), none, (.mv (.const (.int .i64 0)))⟩]) (.block 0 (.loop (mB 80 1208925819614629142200309) (.seq (.ops [
  ⟨(some 25), none, (.bin .lss (.tmp 24) (.tmp 23))⟩]) (.seq (.cond (.tmp 25) .skip (.exit 0)) (.seq (.block 1 (.seq (.ops [
  ⟨(some 26), none, (.ia 2 (.tmp 22) (.tmp 24))⟩,
  ⟨(some 27), none, (.load 2 true (.tmp 26))⟩,
  ⟨(some 5), none, (.alloc [(.string ⟨⟨[]⟩⟩), (.int .i64 0)])⟩,
  ⟨none, none, (.store 2 (.tmp 5) (.tmp 27))⟩]) (.seq (.seq (.ops [
  ⟨(some 28), none, (.fa 0 (.tmp 5))⟩,
  ⟨(some 29), none, (.load 1 false (.tmp 28))⟩,
  ⟨(some 30), none, (.callX 94 [(.tmp 29)])⟩,
  ⟨(some 31), none, (.un .not (.tmp 30))⟩,
  ⟨(some 32), none, (.mv (.tmp 31))⟩,
  ⟨(some 33), (some (32, false)), (.mv (.tmp 3))⟩,
  ⟨(some 34), (some (32, false)), (.fa 0 (.tmp 5))⟩,
  ⟨(some 35), (some (32, false)), (.load 1 false (.tmp 34))⟩,
  ⟨(some 36), (some (32, false)), (.mlk .str (.bool false) false (.tmp 33) (.tmp 35))⟩,
  ⟨(some 37), none, (.pick (.tmp 32) (.const (.bool true)) (.tmp 36))⟩,
  ⟨(some 38), none, (.mv (.tmp 37))⟩,
  ⟨(some 39), (some (38, false)), (.fa 1 (.tmp 5))⟩,
  ⟨(some 40), (some (38, false)), (.load 1 false (.tmp 39))⟩,
  ⟨(some 41), (some (38, false)), (.callX 59 [(.tmp 40), (.const (.int .i64 1)), (.const (.int .i64 4))])⟩,
  ⟨(some 42), (some (38, false)), (.un .not (.tmp 41))⟩,
  ⟨(some 43), none, (.pick (.tmp 38) (.const (.bool true)) (.tmp 42))⟩]) (.cond (.tmp 43) (.seq (.ops [
  ⟨(some 2), none, (.asg (.const (.bool false)))⟩]) .ret) .skip)) (.ops [
  ⟨(some 44), none, (.mv (.tmp 3))⟩,
  ⟨(some 45), none, (.fa 0 (.tmp 5))⟩,
  ⟨(some 46), none, (.load 1 false (.tmp 45))⟩,
  ⟨none, none, (.mupd .str (.tmp 44) (.tmp 46) (.const (.bool true)))⟩])))) (.ops [
  ⟨(some 47), none, (.bin .add (.tmp 24) (.const (.int .i64 1)))⟩,
  ⟨(some 24), none, (.mv (.tmp 47))⟩]))))))) (.seq (.ops [
  ⟨(some 48), none, (.mkm .str)⟩,
  ⟨(some 6), none, (.asg (.tmp 48))⟩]) (.seq (.seq (.ops [
  ⟨(some 49), none, (.fa 1 (.tmp 1))⟩,
  ⟨(some 50), none, (.load 1 false (.tmp 49))⟩,
  ⟨(some 51), none, (.len (.tmp 50))⟩,
  ⟨(some 52), none, (.mv (.const (.int .i64 0)))⟩]) (.block 2 (.loop (mB 80 1208925810888904896675773) (.seq (.ops [
  ⟨(some 53), none, (.bin .lss (.tmp 52) (.tmp 51))⟩]) (.seq (.cond (.tmp 53) .skip (.exit 2)) (.seq (.block 3 (.seq (.ops [
  ⟨(some 54), none, (.ia 2 (.tmp 50) (.tmp 52))⟩,
  ⟨(some 55), none, (.load 2 true (.tmp 54))⟩,
  ⟨(some 8), none, (.alloc [(.string ⟨⟨[]⟩⟩), (.slice none 0 0)])⟩,
  ⟨none, none, (.store 2 (.tmp 8) (.tmp 55))⟩]) (.seq (.seq (.ops [
  ⟨(some 56), none, (.fa 0 (.tmp 8))⟩,
  ⟨(some 57), none, (.load 1 false (.tmp 56))⟩,
  ⟨(some 58), none, (.callX 94 [(.tmp 57)])⟩,
  ⟨(some 59), none, (.un .not (.tmp 58))⟩,
  ⟨(some 60), none, (.mv (.tmp 59))⟩,
  ⟨(some 61), (some (60, false)), (.mv (.tmp 6))⟩,
  ⟨(some 62), (some (60, false)), (.fa 0 (.tmp 8))⟩,
  ⟨(some 63), (some (60, false)), (.load 1 false (.tmp 62))⟩,
  ⟨(some 64), (some (60, false)), (.mlk .str (.bool false) false (.tmp 61) (.tmp 63))⟩,
  ⟨(some 65), none, (.pick (.tmp 60) (.const (.bool true)) (.tmp 64))⟩,
  ⟨(some 66), none, (.mv (.tmp 65))⟩,
  ⟨(some 67), (some (66, false)), (.fa 1 (.tmp 8))⟩,
  ⟨(some 68), (some (66, false)), (.load 1 false (.tmp 67))⟩,
  ⟨(some 69), (some (66, false)), (.len (.tmp 68))⟩,
  ⟨(some 70), (some (66, false)), (.bin .neq (.tmp 69) (.const (.int .i64 4)))⟩,
  ⟨(some 71), none, (.pick (.tmp 66) (.const (.bool true)) (.tmp 70))⟩]) (.cond (.tmp 71) (.seq (.ops [
  ⟨(some 2), none, (.asg (.const (.bool false)))⟩]) .ret) .skip)) (.seq (.ops [
  ⟨(some 72), none, (.mv (.tmp 6))⟩,
  ⟨(some 73), none, (.fa 0 (.tmp 8))⟩,
  ⟨(some 74), none, (.load 1 false (.tmp 73))⟩,
  ⟨none, none, (.mupd .str (.tmp 72) (.tmp 74) (.const (.bool true)))⟩]) (.seq (.ops [
  ⟨(some 75), none, (.fa 1 (.tmp 8))⟩,
  ⟨(some 76), none, (.load 1 false (.tmp 75))⟩,
  ⟨(some 77), none, (.mkf 96 [] [(.tmp 1)])⟩,
  ⟨(some 78), none, (.callX 95 [(.tmp 76), (.tmp 77)])⟩]) (.cond (.tmp 78) (.seq (.ops [
  ⟨(some 2), none, (.asg (.const (.bool false)))⟩]) .ret) .skip)))))) (.ops [
  ⟨(some 79), none, (.bin .add (.tmp 52) (.const (.int .i64 1)))⟩,
  ⟨(some 52), none, (.mv (.tmp 79))⟩]))))))) (.seq (.ops [
  ⟨(some 2), none, (.asg (.const (.bool true)))⟩]) .ret)))))))
theorem law_impl_ValidSet {a0 d : D} (h : code_impl_ValidSet.wp (CT Tryd.prog TabG) (endQ [(.t 2)] d) [a0, .undef, .undef, .undef, .undef, .undef, .undef, .undef, .undef, .undef, .undef, .undef, .undef, .undef, .undef, .undef, .undef, .undef, .undef, .undef, .undef, .undef, .undef, .undef, .undef, .undef, .undef, .undef, .undef, .undef, .undef, .undef, .undef, .undef, .undef, .undef, .undef, .undef, .undef, .undef, .undef, .undef, .undef, .undef, .undef, .undef, .undef, .undef, .undef, .undef, .undef, .undef, .undef, .undef, .undef, .undef, .undef, .undef, .undef, .undef, .undef, .undef, .undef, .undef, .undef, .undef, .undef, .undef, .undef, .undef, .undef, .undef, .undef, .undef, .undef, .undef, .undef, .undef, .undef, .undef]) : Contract Tryd.prog TabG 75 [a0] d :=
  contract_of (pt := 0) tabG Tryd.func75 (fun us W => by kernel_rfl) (c := Tryd.f75.body.getD .skip) (ms := [(mB 80 1208925819614629142200309), (mB 80 1208925810888904896675773)]) (ms' := []) (by kernel_rfl) (by kernel_rfl) (by kernel_rfl) h
def code_impl_ValidSet_1 : VCode := (.seq (.ops [
  ⟨(some 3), none, (.asg (.const (.bool false)))⟩]) (.seq (.ops [
  ⟨(some 4), none, (.mv (.tmp 0))⟩,
  ⟨(some 5), none, (.fa 0 (.tmp 1))⟩,
  ⟨(some 6), none, (.load 1 false (.tmp 5))⟩,
  ⟨(some 7), none, (.len (.tmp 6))⟩,
  ⟨(some 8), none, (.callX 59 [(.tmp 4), (.const (.int .i64 0)), (.tmp 7)])⟩,
  ⟨(some 9), none, (.un .not (.tmp 8))⟩,
  ⟨(some 3), none, (.asg (.tmp 9))⟩]) .ret))
theorem law_impl_ValidSet_1 {a0 a1 d : D} (h : code_impl_ValidSet_1.wp (CT Tryd.prog TabG) (endQ [(.t 3)] d) [a0, a1, .undef, .undef, .undef, .undef, .undef, .undef, .undef, .undef]) : Contract Tryd.prog TabG 96 [a0, a1] d :=
  contract_of (pt := 0) tabG Tryd.func96 (fun us W => by kernel_rfl) (c := Tryd.f96.body.getD .skip) (ms := []) (ms' := []) (by kernel_rfl) (by kernel_rfl) (by kernel_rfl) h
theorem v_ValidSet1 (n : Int) (l : Nat) (gs ts : List (List D)) (hl : gs.length = l) : Contract Tryd.prog TabG 96 [.v (.int .i64 n), .iptr [.sl false 2 gs, .sl false 2 ts] 0] (.v (.bool (!inR 0 l n))) := by refine law_impl_ValidSet_1 ?_; unfold code_impl_ValidSet_1; simp -implicitDefEqProofs (disch := omega) only [go_sem, ↓reduceIte , hl]; refine call_B (v_within _ _ _) (by simp -implicitDefEqProofs (disch := omega) only [go_sem, ↓reduceIte, deep, TD.rows, immLL_rI, immLL_rB8, immLL_rS, immLL_rBo, immLL_rII, immLL_rIIt]; exact rfl) ?_; simp -implicitDefEqProofs (disch := omega) only [go_sem, ↓reduceIte]
set_option maxHeartbeats 4000000 in
theorem v_ValidSet (a : TileSet) (ha : setB a) : Contract Tryd.prog TabG 75 [.agg (TileSet.td.d false a)] (.v (.bool (okSet a))) := by
  have hag := ha.g; have hat := ha.t; rw [TileSet.td_d]; refine law_impl_ValidSet ?_; unfold code_impl_ValidSet; by_cases hg : a.Glues.length ≤ 200
  · have f1 : decide ((200 : Int) < (a.Glues.length : Int)) = false := decide_eq_false (by omega); simp -implicitDefEqProofs (disch := omega) only [go_sem, ↓reduceIte , List.length_map, f1]; refine call_B (v_within _ _ _) (by simp -implicitDefEqProofs (disch := omega) only [go_sem, ↓reduceIte, deep, TD.rows, immLL_rI, immLL_rB8, immLL_rS, immLL_rBo, immLL_rII, immLL_rIIt]; exact rfl) ?_; simp -implicitDefEqProofs (disch := omega) only [go_sem, ↓reduceIte]; refine cond_split ?_ ?_ <;> intro hr
    · simp -implicitDefEqProofs (disch := omega) only [go_sem, ↓reduceIte]; simp only [Bool.not_eq_true'] at hr; unfold okSet; rw [hr, Bool.false_and, Bool.and_false]
    · simp only [Bool.not_eq_false'] at hr; simp -implicitDefEqProofs (disch := omega) only [go_sem, ↓reduceIte , List.length_map]; refine loop_st (fun i : Nat => [.undef, .box none [.sl false 2 (a.Glues.map (Glue.td.d false)), .sl false 2 (a.Tiles.map (Tile.td.d false))], .undef, .mp .str (entsN (fun g : Glue => g.Name) (a.Glues.take i)), .undef, .undef, .undef, .undef, .undef, .undef, .undef, .undef, .undef, .undef, .undef, .undef, .undef, .undef, .undef, .undef, .undef, .ptr 1 [] 0 0, .sl false 2 (a.Glues.map (Glue.td.d false)), .v (.int .i64 a.Glues.length), .v (.int .i64 i), .undef, .undef, .undef, .undef, .undef, .undef, .undef, .undef, .undef, .undef, .undef, .undef, .undef, .undef, .undef, .undef, .undef, .undef, .undef, .undef, .undef, .undef, .undef, .undef, .undef, .undef, .undef, .undef, .undef, .undef, .undef, .undef, .undef, .undef, .undef, .undef, .undef, .undef, .undef, .undef, .undef, .undef, .undef, .undef, .undef, .undef, .undef, .undef, .undef, .undef, .undef, .undef, .undef, .undef, .undef]) (fun i => i ≤ a.Glues.length ∧ (List.range i).all (okG a.Glues) = true) (fun i => a.Glues.length - i) 0 (nleA) ⟨Nat.zero_le _, rfl⟩ ?_; rintro i ⟨hi, hall⟩; simp -implicitDefEqProofs (disch := omega) only [go_sem, ↓reduceIte , List.length_map, Int.toNat_natCast, Int.ofNat_lt, Int.natCast_nonneg, List.getElem?_map, Option.map_some]; refine cond_split ?_ ?_ <;> intro hlt
      · have hlt : i < a.Glues.length := (by simpa using hlt); have e1 := List.getElem?_eq_getElem hlt; have hok := okG_at hlt; have hget := mget_N (fun g : Glue => g.Name) a.Glues[i].Name (a.Glues.take i); simp -implicitDefEqProofs (disch := omega) only [go_sem, ↓reduceIte , List.length_map, Int.toNat_natCast, Int.ofNat_lt, Int.natCast_nonneg, List.getElem?_map, Option.map_some, hlt, e1, Glue.td_d]; refine call_B (vIsName_impl _ (ha.gn _ (List.getElem_mem hlt))) (by simp -implicitDefEqProofs (disch := omega) only [go_sem, ↓reduceIte, deep, TD.rows, immLL_rI, immLL_rB8, immLL_rS, immLL_rBo, immLL_rII, immLL_rIIt]; exact rfl) ?_; simp -implicitDefEqProofs (disch := omega) only [go_sem, ↓reduceIte]; refine guard_split ?_ ?_ <;> intro h1
        · simp -implicitDefEqProofs (disch := omega) only [go_sem, ↓reduceIte , h1]; simp only [Bool.not_eq_true'] at h1; rw [okSet_g hlt (by rw [hok, h1]; rfl)]
        · simp only [Bool.not_eq_false'] at h1; by_cases h3 : (a.Glues.take i).any (fun x => decide (x.Name = a.Glues[i].Name)) = true
          · rw [if_pos h3] at hget; simp -implicitDefEqProofs (disch := omega) only [go_sem, ↓reduceIte , h1, hget]; rw [okSet_g hlt (by rw [hok, h1, h3]; simp)]
          · rw [if_neg h3] at hget; have h3 : (a.Glues.take i).any (fun x => decide (x.Name = a.Glues[i].Name)) = false := by simpa using h3
            have hset := mset_N (fun g : Glue => g.Name) (a.Glues.take i) a.Glues[i] h3; rw [take_next hlt] at hset; simp -implicitDefEqProofs (disch := omega) only [go_sem, ↓reduceIte , h1, hget]; refine call_B (v_within _ _ _) (by simp -implicitDefEqProofs (disch := omega) only [go_sem, ↓reduceIte, deep, TD.rows, immLL_rI, immLL_rB8, immLL_rS, immLL_rBo, immLL_rII, immLL_rIIt]; exact rfl) ?_; simp -implicitDefEqProofs (disch := omega) only [go_sem, ↓reduceIte]; refine cond_split ?_ ?_ <;> intro h2
            · simp -implicitDefEqProofs (disch := omega) only [go_sem, ↓reduceIte]; simp only [Bool.not_eq_true'] at h2; rw [okSet_g hlt (by rw [hok, h1, h2]; rfl)]
            · simp only [Bool.not_eq_false'] at h2; simp -implicitDefEqProofs (disch := omega) only [go_sem, ↓reduceIte , wrN, hset]; exact ⟨i + 1, by omega, ⟨hlt, all_next hall (by rw [hok, h1, h2, h3]; rfl)⟩, nleA⟩
      · have hge : i = a.Glues.length := by have : ¬ i < a.Glues.length := by simpa using hlt
                                            omega
        subst hge; simp -implicitDefEqProofs (disch := omega) only [go_sem, ↓reduceIte , List.length_map]; refine loop_st (fun i : Nat => [.undef, .box none [.sl false 2 (a.Glues.map (Glue.td.d false)), .sl false 2 (a.Tiles.map (Tile.td.d false))], .undef, .undef, .undef, .undef, .mp .str (entsN (fun g : Tile => g.Name) (a.Tiles.take i)), .undef, .undef, .undef, .undef, .undef, .undef, .undef, .undef, .undef, .undef, .undef, .undef, .undef, .undef, .undef, .undef, .undef, .undef, .undef, .undef, .undef, .undef, .undef, .undef, .undef, .undef, .undef, .undef, .undef, .undef, .undef, .undef, .undef, .undef, .undef, .undef, .undef, .undef, .undef, .undef, .undef, .undef, .ptr 1 [] 0 1, .sl false 2 (a.Tiles.map (Tile.td.d false)), .v (.int .i64 a.Tiles.length), .v (.int .i64 i), .undef, .undef, .undef, .undef, .undef, .undef, .undef, .undef, .undef, .undef, .undef, .undef, .undef, .undef, .undef, .undef, .undef, .undef, .undef, .undef, .undef, .undef, .undef, .undef, .undef, .undef, .undef]) (fun i => i ≤ a.Tiles.length ∧ (List.range i).all (okT a.Glues.length a.Tiles) = true) (fun i => a.Tiles.length - i) 0 (nleA) ⟨Nat.zero_le _, rfl⟩ ?_; rintro i ⟨hi, hallT⟩; simp -implicitDefEqProofs (disch := omega) only [go_sem, ↓reduceIte , List.length_map, Int.toNat_natCast, Int.ofNat_lt, Int.natCast_nonneg, List.getElem?_map, Option.map_some]; refine cond_split ?_ ?_ <;> intro hlt
        · have hlt : i < a.Tiles.length := (by simpa using hlt); have e1 := List.getElem?_eq_getElem hlt; have hok : okT a.Glues.length a.Tiles i = _ := okT_at hlt; have hsl := ha.ts _ (List.getElem_mem hlt); have hget := mget_N (fun g : Tile => g.Name) a.Tiles[i].Name (a.Tiles.take i); simp -implicitDefEqProofs (disch := omega) only [go_sem, ↓reduceIte , List.length_map, Int.toNat_natCast, Int.ofNat_lt, Int.natCast_nonneg, List.getElem?_map, Option.map_some, hlt, e1, Tile.td_d]; refine call_B (vIsName_impl _ (ha.tn _ (List.getElem_mem hlt))) (by simp -implicitDefEqProofs (disch := omega) only [go_sem, ↓reduceIte, deep, TD.rows, immLL_rI, immLL_rB8, immLL_rS, immLL_rBo, immLL_rII, immLL_rIIt]; exact rfl) ?_; simp -implicitDefEqProofs (disch := omega) only [go_sem, ↓reduceIte]; refine guard_split ?_ ?_ <;> intro h1
          · simp -implicitDefEqProofs (disch := omega) only [go_sem, ↓reduceIte , h1]; simp only [Bool.not_eq_true'] at h1; rw [okSet_t hlt (by rw [hok, h1]; rfl)]
          · simp only [Bool.not_eq_false'] at h1; by_cases h3 : (a.Tiles.take i).any (fun x => decide (x.Name = a.Tiles[i].Name)) = true
            · rw [if_pos h3] at hget; simp -implicitDefEqProofs (disch := omega) only [go_sem, ↓reduceIte , h1, hget]; rw [okSet_t hlt (by rw [hok, h1, h3]; simp)]
            · rw [if_neg h3] at hget; have h3 : (a.Tiles.take i).any (fun x => decide (x.Name = a.Tiles[i].Name)) = false := by simpa using h3
              have hset := mset_N (fun g : Tile => g.Name) (a.Tiles.take i) a.Tiles[i] h3; rw [take_next hlt] at hset; simp -implicitDefEqProofs (disch := omega) only [go_sem, ↓reduceIte , h1, hget, List.length_map]; have h4e : decide ((a.Tiles[i].Sides.length : Int) = 4) = decide (a.Tiles[i].Sides.length = 4) := (by rw [decide_eq_decide]; omega); rw [h4e]; refine cond_split ?_ ?_ <;> intro h2
              · simp -implicitDefEqProofs (disch := omega) only [go_sem, ↓reduceIte]; simp only [Bool.not_eq_true'] at h2; rw [okSet_t hlt (by rw [hok, h1, h2]; rfl)]
              · simp only [Bool.not_eq_false'] at h2; simp -implicitDefEqProofs (disch := omega) only [go_sem, ↓reduceIte , hset]; refine call_B (v_ContainsFunc_Int64 _ [.iptr [.sl false 2 (a.Glues.map (Glue.td.d false)), .sl false 2 (a.Tiles.map (Tile.td.d false))] 0] ⟨rfl, fun _ => rfl, fun _ => rfl, fun _ => rfl⟩ a.Tiles[i].Sides (fun n => !inR 0 a.Glues.length n) (fun x _ => v_ValidSet1 x a.Glues.length _ _ (by rw [List.length_map])) (by omega)) (by simp -implicitDefEqProofs (disch := omega) only [go_sem, ↓reduceIte, deep, TD.rows, immLL_rI, immLL_rB8, immLL_rS, immLL_rBo, immLL_rII, immLL_rIIt]; exact rfl) ?_; simp -implicitDefEqProofs (disch := omega) only [go_sem, ↓reduceIte]; have hall4 : a.Tiles[i].Sides.all (inR 0 a.Glues.length) = !(a.Tiles[i].Sides.any fun n => !inR 0 a.Glues.length n) := List.all_eq_not_any_not; refine cond_split ?_ ?_ <;> intro h5
                · simp -implicitDefEqProofs (disch := omega) only [go_sem, ↓reduceIte]; rw [okSet_t hlt (by rw [hok, h1, h2, h3, hall4, h5]; rfl)]
                · simp -implicitDefEqProofs (disch := omega) only [go_sem, ↓reduceIte , wrN]; exact ⟨i + 1, by omega, ⟨hlt, all_next hallT (by rw [hok, h1, h2, h3, hall4, h5]; rfl)⟩, nleA⟩
        · have hge : i = a.Tiles.length := by have : ¬ i < a.Tiles.length := by simpa using hlt
                                              omega
          subst hge; simp -implicitDefEqProofs (disch := omega) only [go_sem, ↓reduceIte]; unfold okSet; rw [hall, hallT, hr, decide_eq_true hg]; rfl
  · have f1 : decide ((200 : Int) < (a.Glues.length : Int)) = true := decide_eq_true (by omega); simp -implicitDefEqProofs (disch := omega) only [go_sem, ↓reduceIte , List.length_map, f1]; unfold okSet; rw [decide_eq_false hg, Bool.false_and]
theorem lkF_tup {t : Nat} {cs : List D} : lkF t (some (.tup cs)) = if ownyL cs = true then .undef else .tup cs := rfl
def cmpI (a b : Int) : Int := if a < b then -1 else if b < a then 1 else 0
def cmpP (a b : Point) : Int := if cmpI a.Y b.Y = 0 then cmpI a.X b.X else cmpI a.Y b.Y
def lessP (a b : Point) : Bool := decide (a.Y < b.Y) || (decide (a.Y = b.Y) && decide (a.X < b.X))
theorem cmpP_lt (a b : Point) : decide (cmpP a b < 0) = lessP a b := by rw [Bool.eq_iff_iff]; simp only [cmpP, cmpI, lessP, Bool.or_eq_true, Bool.and_eq_true, decide_eq_true_eq]; by_cases h1 : a.Y < b.Y <;> by_cases h2 : b.Y < a.Y <;> by_cases h3 : a.X < b.X <;> by_cases h4 : b.X < a.X <;> simp [h1, h2, h3, h4] <;> omega
theorem cmpP_eq (a b : Point) : decide (cmpP a b = 0) = decide (a = b) := by obtain ⟨ax, ay⟩ := a; obtain ⟨bx, bY⟩ := b; rw [Bool.eq_iff_iff]; simp only [cmpP, cmpI, decide_eq_true_eq, Point.mk.injEq]; by_cases h1 : ay < bY <;> by_cases h2 : bY < ay <;> by_cases h3 : ax < bx <;> by_cases h4 : bx < ax <;> simp [h1, h2, h3, h4] <;> omega
def bsF (f : Nat → Bool) : Nat → Nat → Nat → Nat
  | 0, i, _ => i
  | n + 1, i, j => if i < j then (if f ((i + j) / 2) then bsF f n ((i + j) / 2 + 1) j else bsF f n i ((i + j) / 2)) else i
theorem bsF_end {f : Nat → Bool} {n i j : Nat} (h : ¬ i < j) : bsF f n i j = i := by
  cases n with
  | zero => rfl
  | succ n => simp [bsF, h]
def lessAt (xs : List Point) (p : Point) (k : Nat) : Bool := match xs[k]? with
  | some x => lessP x p
  | none => false
def bsP (xs : List Point) (p : Point) : Nat := bsF (lessAt xs p) xs.length 0 xs.length
def code_cmp_isNaN_int64 : VCode := (.seq (.ops [
  ⟨(some 2), none, (.asg (.const (.bool false)))⟩]) (.seq (.ops [
  ⟨(some 3), none, (.mv (.tmp 0))⟩,
  ⟨(some 4), none, (.mv (.tmp 0))⟩,
  ⟨(some 5), none, (.bin .neq (.tmp 3) (.tmp 4))⟩,
  ⟨(some 2), none, (.asg (.tmp 5))⟩]) .ret))
theorem law_cmp_isNaN_int64 {a0 d : D} (h : code_cmp_isNaN_int64.wp (CT Tryd.prog TabG) (endQ [(.t 2)] d) [a0, .undef, .undef, .undef, .undef, .undef]) : Contract Tryd.prog TabG 112 [a0] d :=
  contract_of (pt := 0) tabG Tryd.func112 (fun us W => by kernel_rfl) (c := Tryd.f112.body.getD .skip) (ms := []) (ms' := []) (by kernel_rfl) (by kernel_rfl) (by kernel_rfl) h
theorem v_isNaN (a : Int) : Contract Tryd.prog TabG 112 [.v (.int .i64 a)] (.v (.bool false)) := by refine law_cmp_isNaN_int64 ?_; unfold code_cmp_isNaN_int64; simp -implicitDefEqProofs (disch := omega) only [go_sem, ↓reduceIte]
def code_cmp_Compare_int64 : VCode := (.seq (.ops [
  ⟨(some 4), none, (.asg (.const (.int .i64 0)))⟩]) (.seq (.ops [
  ⟨(some 7), none, (.mv (.tmp 0))⟩,
  ⟨(some 8), none, (.callX 112 [(.tmp 7)])⟩,
  ⟨(some 5), none, (.asg (.tmp 8))⟩]) (.seq (.ops [
  ⟨(some 9), none, (.mv (.tmp 1))⟩,
  ⟨(some 10), none, (.callX 112 [(.tmp 9)])⟩,
  ⟨(some 6), none, (.asg (.tmp 10))⟩]) (.seq (.seq (.ops [
  ⟨(some 11), none, (.mv (.tmp 5))⟩]) (.cond (.tmp 11) (.seq (.seq (.ops [
  ⟨(some 12), none, (.mv (.tmp 6))⟩]) (.cond (.tmp 12) (.seq (.ops [
  ⟨(some 4), none, (.asg (.const (.int .i64 0)))⟩]) .ret) .skip)) (.seq (.ops [
  ⟨(some 4), none, (.asg (.const (.int .i64 (-1))))⟩]) .ret)) .skip)) (.seq (.seq (.ops [
  ⟨(some 13), none, (.mv (.tmp 6))⟩]) (.cond (.tmp 13) (.seq (.ops [
  ⟨(some 4), none, (.asg (.const (.int .i64 1)))⟩]) .ret) .skip)) (.seq (.seq (.ops [
  ⟨(some 14), none, (.mv (.tmp 0))⟩,
  ⟨(some 15), none, (.mv (.tmp 1))⟩,
  ⟨(some 16), none, (.bin .lss (.tmp 14) (.tmp 15))⟩]) (.cond (.tmp 16) (.seq (.ops [
  ⟨(some 4), none, (.asg (.const (.int .i64 (-1))))⟩]) .ret) .skip)) (.seq (.seq (.ops [
  ⟨(some 17), none, (.mv (.tmp 0))⟩,
  ⟨(some 18), none, (.mv (.tmp 1))⟩,
  ⟨(some 19), none, (.bin .gtr (.tmp 17) (.tmp 18))⟩]) (.cond (.tmp 19) (.seq (.ops [
  ⟨(some 4), none, (.asg (.const (.int .i64 1)))⟩]) .ret) .skip)) (.seq (.ops [
  ⟨(some 4), none, (.asg (.const (.int .i64 0)))⟩]) .ret))))))))
theorem law_cmp_Compare_int64 {a0 a1 d : D} (h : code_cmp_Compare_int64.wp (CT Tryd.prog TabG) (endQ [(.t 4)] d) [a0, a1, .undef, .undef, .undef, .undef, .undef, .undef, .undef, .undef, .undef, .undef, .undef, .undef, .undef, .undef, .undef, .undef, .undef, .undef]) : Contract Tryd.prog TabG 106 [a0, a1] d :=
  contract_of (pt := 0) tabG Tryd.func106 (fun us W => by kernel_rfl) (c := Tryd.f106.body.getD .skip) (ms := []) (ms' := []) (by kernel_rfl) (by kernel_rfl) (by kernel_rfl) h
theorem v_Compare (a b : Int) : Contract Tryd.prog TabG 106 [.v (.int .i64 a), .v (.int .i64 b)] (.v (.int .i64 (cmpI a b))) := by
  refine law_cmp_Compare_int64 ?_; unfold code_cmp_Compare_int64 cmpI; simp -implicitDefEqProofs (disch := omega) only [go_sem, ↓reduceIte]; refine call_B (v_isNaN a) (by simp -implicitDefEqProofs (disch := omega) only [go_sem, ↓reduceIte, deep, TD.rows, immLL_rI, immLL_rB8, immLL_rS, immLL_rBo, immLL_rII, immLL_rIIt]; exact rfl) ?_; simp -implicitDefEqProofs (disch := omega) only [go_sem, ↓reduceIte]; refine call_B (v_isNaN b) (by simp -implicitDefEqProofs (disch := omega) only [go_sem, ↓reduceIte, deep, TD.rows, immLL_rI, immLL_rB8, immLL_rS, immLL_rBo, immLL_rII, immLL_rIIt]; exact rfl) ?_; simp -implicitDefEqProofs (disch := omega) only [go_sem, ↓reduceIte]; refine cond_split ?_ ?_ <;> intro h
  · have := of_decide_eq_true h; simp -implicitDefEqProofs (disch := omega) only [go_sem, ↓reduceIte]; simp [this]
  · have h1 := of_decide_eq_false h; simp -implicitDefEqProofs (disch := omega) only [go_sem, ↓reduceIte]; refine cond_split ?_ ?_ <;> intro h
    · have := of_decide_eq_true h; simp -implicitDefEqProofs (disch := omega) only [go_sem, ↓reduceIte]; simp [h1, this]
    · have := of_decide_eq_false h; simp -implicitDefEqProofs (disch := omega) only [go_sem, ↓reduceIte]; simp [h1, this]
def code_cmp_Or_int : VCode := (.seq (.ops [
  ⟨(some 2), none, (.asg (.const (.int .i64 0)))⟩]) (.seq (.ops [
  ⟨(some 3), none, (.asg (.const (.int .i64 0)))⟩]) (.seq (.seq (.ops [
  ⟨(some 6), none, (.mv (.tmp 0))⟩,
  ⟨(some 7), none, (.len (.tmp 6))⟩,
  ⟨(some 8), none, (.mv (.const (.int .i64 0)))⟩]) (.block 0 (.loop (mB 18 261687) (.seq (.ops [
  ⟨(some 9), none, (.bin .lss (.tmp 8) (.tmp 7))⟩]) (.seq (.cond (.tmp 9) .skip (.exit 0)) (.seq (.block 1 (.seq (.ops [
  ⟨(some 10), none, (.ia 1 (.tmp 6) (.tmp 8))⟩,
  ⟨(some 11), none, (.load 1 false (.tmp 10))⟩,
  ⟨(some 5), none, (.asg (.tmp 11))⟩]) (.seq (.ops [
  ⟨(some 12), none, (.mv (.tmp 5))⟩,
  ⟨(some 13), none, (.mv (.tmp 3))⟩,
  ⟨(some 14), none, (.bin .neq (.tmp 12) (.tmp 13))⟩]) (.cond (.tmp 14) (.seq (.ops [
  ⟨(some 15), none, (.mv (.tmp 5))⟩,
  ⟨(some 2), none, (.asg (.tmp 15))⟩]) .ret) .skip)))) (.ops [
  ⟨(some 16), none, (.bin .add (.tmp 8) (.const (.int .i64 1)))⟩,
  ⟨(some 8), none, (.mv (.tmp 16))⟩]))))))) (.seq (.ops [
  ⟨(some 17), none, (.mv (.tmp 3))⟩,
  ⟨(some 2), none, (.asg (.tmp 17))⟩]) .ret))))
theorem law_cmp_Or_int {a0 d : D} (h : code_cmp_Or_int.wp (CT Tryd.prog TabG) (endQ [(.t 2)] d) [a0, .undef, .undef, .undef, .undef, .undef, .undef, .undef, .undef, .undef, .undef, .undef, .undef, .undef, .undef, .undef, .undef, .undef]) : Contract Tryd.prog TabG 105 [a0] d :=
  contract_of (pt := 0) tabG Tryd.func105 (fun us W => by kernel_rfl) (c := Tryd.f105.body.getD .skip) (ms := [(mB 18 261687)]) (ms' := []) (by kernel_rfl) (by kernel_rfl) (by kernel_rfl) h
theorem v_Or2 (a b : Int) : Contract Tryd.prog TabG 105 [.sl false 1 [[.v (.int .i64 a)], [.v (.int .i64 b)]]] (.v (.int .i64 (if a = 0 then b else a))) := by
  refine law_cmp_Or_int ?_; unfold code_cmp_Or_int; simp -implicitDefEqProofs (disch := omega) only [go_sem, ↓reduceIte]; refine loop_st (fun i : Nat => [.undef, .undef, .undef, .v (.int .i64 0), .undef, .undef, .sl false 1 [[.v (.int .i64 a)], [.v (.int .i64 b)]], .v (.int .i64 2), .v (.int .i64 i), .undef, .undef, .undef, .undef, .undef, .undef, .undef, .undef, .undef]) (fun i => i = 0 ∨ (i = 1 ∧ a = 0) ∨ (i = 2 ∧ a = 0 ∧ b = 0)) (fun i => 2 - i) 0 (nleA) (.inl rfl) ?_; rintro i (rfl | ⟨rfl, h0⟩ | ⟨rfl, h0, h1⟩)
  · simp -implicitDefEqProofs (disch := omega) only [go_sem, ↓reduceIte , Int.natCast_zero, Int.natCast_one, Int.cast_ofNat_Int, Int.ofNat_le, Int.toNat_zero, Nat.sub_zero, Int.le_refl, Int.reduceLT, Int.reduceLE, Int.reduceEq, Int.reduceAdd, Int.reduceSub, Int.reduceMul, Int.reduceToNat, Int.reduceNeg]; refine cond_split ?_ ?_ <;> intro h
    · simp -implicitDefEqProofs (disch := omega) only [go_sem, ↓reduceIte]; simp at h; simp [h]
    · simp -implicitDefEqProofs (disch := omega) only [go_sem, ↓reduceIte , Int.natCast_zero, Int.natCast_one, Int.cast_ofNat_Int, Int.ofNat_le, Int.toNat_zero, Nat.sub_zero, Int.le_refl, Int.reduceLT, Int.reduceLE, Int.reduceEq, Int.reduceAdd, Int.reduceSub, Int.reduceMul, Int.reduceToNat, Int.reduceNeg, IntWalk.i64_in]; simp at h; exact ⟨1, by omega, .inr (.inl ⟨rfl, h⟩), nleA⟩
  · simp -implicitDefEqProofs (disch := omega) only [go_sem, ↓reduceIte , Int.natCast_zero, Int.natCast_one, Int.cast_ofNat_Int, Int.ofNat_le, Int.toNat_zero, Nat.sub_zero, Int.le_refl, Int.reduceLT, Int.reduceLE, Int.reduceEq, Int.reduceAdd, Int.reduceSub, Int.reduceMul, Int.reduceToNat, Int.reduceNeg]; refine cond_split ?_ ?_ <;> intro h
    · simp -implicitDefEqProofs (disch := omega) only [go_sem, ↓reduceIte]; simp [h0]
    · simp -implicitDefEqProofs (disch := omega) only [go_sem, ↓reduceIte , Int.natCast_zero, Int.natCast_one, Int.cast_ofNat_Int, Int.ofNat_le, Int.toNat_zero, Nat.sub_zero, Int.le_refl, Int.reduceLT, Int.reduceLE, Int.reduceEq, Int.reduceAdd, Int.reduceSub, Int.reduceMul, Int.reduceToNat, Int.reduceNeg]; simp at h; exact ⟨2, by omega, .inr (.inr ⟨rfl, h0, h⟩), nleA⟩
  · simp -implicitDefEqProofs (disch := omega) only [go_sem, ↓reduceIte , Int.natCast_zero, Int.natCast_one, Int.cast_ofNat_Int, Int.ofNat_le, Int.toNat_zero, Nat.sub_zero, Int.le_refl, Int.reduceLT, Int.reduceLE, Int.reduceEq, Int.reduceAdd, Int.reduceSub, Int.reduceMul, Int.reduceToNat, Int.reduceNeg]; simp [h0, h1]
def code_impl_comparePoints : VCode := (.seq (.ops [
  ⟨(some 2), none, (.box (.tmp 0))⟩,
  ⟨(some 3), none, (.box (.tmp 1))⟩,
  ⟨(some 4), none, (.asg (.const (.int .i64 0)))⟩]) (.seq (.draw (mB 14 16352) [] [⟨0, (mB 14 16352), [], ⟨(some 5), none, (.fa 1 (.tmp 2))⟩⟩, ⟨1, (mB 14 16320), [], ⟨(some 6), none, (.load 1 false (.tmp 5))⟩⟩, ⟨2, (mB 14 16352), [], ⟨(some 7), none, (.fa 1 (.tmp 3))⟩⟩, ⟨3, (mB 14 16224), [], ⟨(some 8), none, (.load 1 false (.tmp 7))⟩⟩, ⟨4, (mB 14 15872), [], ⟨(some 9), none, (.call 106 [(.tmp 6), (.tmp 8)])⟩⟩, ⟨5, (mB 14 16352), [], ⟨(some 10), none, (.fa 0 (.tmp 2))⟩⟩, ⟨6, (mB 14 15328), [], ⟨(some 11), none, (.load 1 false (.tmp 10))⟩⟩, ⟨7, (mB 14 16352), [], ⟨(some 12), none, (.fa 0 (.tmp 3))⟩⟩, ⟨8, (mB 14 12256), [], ⟨(some 13), none, (.load 1 false (.tmp 12))⟩⟩] [⟨(some 14), none, (.callX 106 [(.tmp 11), (.tmp 13)])⟩, ⟨(some 15), none, (.bsl 1 [(.tmp 9), (.tmp 14)])⟩, ⟨(some 16), none, (.callX 105 [(.tmp 15)])⟩, ⟨(some 4), none, (.asg (.tmp 16))⟩]) .ret))
theorem law_impl_comparePoints {a0 a1 d : D} (h : code_impl_comparePoints.wp (CT Tryd.prog TabG) (endQ [(.t 4)] d) [a0, a1, .undef, .undef, .undef, .undef, .undef, .undef, .undef, .undef, .undef, .undef, .undef, .undef, .undef, .undef, .undef]) : Contract Tryd.prog TabG 101 [a0, a1] d :=
  contract_of (pt := 0) tabG Tryd.func101 (fun us W => by kernel_rfl) (c := Tryd.f101.body.getD .skip) (ms := []) (ms' := []) (by kernel_rfl) (by kernel_rfl) (by kernel_rfl) h
theorem v_comparePoints (a b : Point) : Contract Tryd.prog TabG 101 [.agg (Point.td.d false a), .agg (Point.td.d false b)] (.v (.int .i64 (cmpP a b))) := by rw [Point.td_d, Point.td_d]; refine law_impl_comparePoints ?_; unfold code_impl_comparePoints cmpP; simp -implicitDefEqProofs (disch := omega) only [go_sem, ↓reduceIte]; refine call_NB (v_Compare a.Y b.Y) (by simp -implicitDefEqProofs (disch := omega) only [go_sem, ↓reduceIte, deep, TD.rows, immLL_rI, immLL_rB8, immLL_rS, immLL_rBo, immLL_rII, immLL_rIIt]; exact rfl) ?_; simp -implicitDefEqProofs (disch := omega) only [go_sem, ↓reduceIte]; refine call_B (v_Compare a.X b.X) (by simp -implicitDefEqProofs (disch := omega) only [go_sem, ↓reduceIte, deep, TD.rows, immLL_rI, immLL_rB8, immLL_rS, immLL_rBo, immLL_rII, immLL_rIIt]; exact rfl) ?_; simp -implicitDefEqProofs (disch := omega) only [go_sem, ↓reduceIte]; refine call_le (v_Or2 (cmpI a.Y b.Y) (cmpI a.X b.X)) (by repeat (first | exact leL_nil | refine leL_cons ?_ ?_ | exact le_of_eq rfl | exact le_iptrN (leL_of_eq rfl) | refine le_agg ?_ | exact le_slf rfl (TD.rows ..) | refine le_iptr ?_ | refine le_fn ?_ ?_ | exact le_nilsl_)) (.inl rfl) ?_; simp -implicitDefEqProofs (disch := omega) only [go_sem, ↓reduceIte]
def code_impl_LessPoint : VCode := (.seq (.ops [
  ⟨(some 2), none, (.box (.tmp 0))⟩,
  ⟨(some 3), none, (.box (.tmp 1))⟩,
  ⟨(some 4), none, (.asg (.const (.bool false)))⟩]) (.seq (.ops [
  ⟨(some 5), none, (.load 2 true (.tmp 2))⟩,
  ⟨(some 6), none, (.load 2 true (.tmp 3))⟩,
  ⟨(some 7), none, (.callX 101 [(.tmp 5), (.tmp 6)])⟩,
  ⟨(some 8), none, (.bin .lss (.tmp 7) (.const (.int .i64 0)))⟩,
  ⟨(some 4), none, (.asg (.tmp 8))⟩]) .ret))
theorem law_impl_LessPoint {a0 a1 d : D} (h : code_impl_LessPoint.wp (CT Tryd.prog TabG) (endQ [(.t 4)] d) [a0, a1, .undef, .undef, .undef, .undef, .undef, .undef, .undef]) : Contract Tryd.prog TabG 99 [a0, a1] d :=
  contract_of (pt := 0) tabG Tryd.func99 (fun us W => by kernel_rfl) (c := Tryd.f99.body.getD .skip) (ms := []) (ms' := []) (by kernel_rfl) (by kernel_rfl) (by kernel_rfl) h
theorem v_LessPoint (a b : Point) : Contract Tryd.prog TabG 99 [.agg (Point.td.d false a), .agg (Point.td.d false b)] (.v (.bool (lessP a b))) := by rw [Point.td_d, Point.td_d]; refine law_impl_LessPoint ?_; unfold code_impl_LessPoint; simp -implicitDefEqProofs (disch := omega) only [go_sem, ↓reduceIte]; refine call_B (v_comparePoints a b) (by simp -implicitDefEqProofs (disch := omega) only [go_sem, ↓reduceIte, deep, TD.rows, immLL_rI, immLL_rB8, immLL_rS, immLL_rBo, immLL_rII, immLL_rIIt]; exact rfl) ?_; simp -implicitDefEqProofs (disch := omega) only [go_sem, ↓reduceIte]; rw [cmpP_lt]
def code_spec_LessPoint : VCode := (.seq (.ops [
  ⟨(some 2), none, (.box (.tmp 0))⟩,
  ⟨(some 3), none, (.box (.tmp 1))⟩,
  ⟨(some 4), none, (.asg (.const (.bool false)))⟩]) (.seq (.ops [
  ⟨(some 5), none, (.fa 1 (.tmp 2))⟩,
  ⟨(some 6), none, (.load 1 false (.tmp 5))⟩,
  ⟨(some 7), none, (.fa 1 (.tmp 3))⟩,
  ⟨(some 8), none, (.load 1 false (.tmp 7))⟩,
  ⟨(some 9), none, (.bin .lss (.tmp 6) (.tmp 8))⟩,
  ⟨(some 10), none, (.mv (.tmp 9))⟩,
  ⟨(some 11), (some (10, false)), (.fa 1 (.tmp 2))⟩,
  ⟨(some 12), (some (10, false)), (.load 1 false (.tmp 11))⟩,
  ⟨(some 13), (some (10, false)), (.fa 1 (.tmp 3))⟩,
  ⟨(some 14), (some (10, false)), (.load 1 false (.tmp 13))⟩,
  ⟨(some 15), (some (10, false)), (.bin .eql (.tmp 12) (.tmp 14))⟩,
  ⟨(some 16), (some (10, false)), (.mv (.tmp 15))⟩,
  ⟨(some 17), (some (16, true)), (.fa 0 (.tmp 2))⟩,
  ⟨(some 18), (some (16, true)), (.load 1 false (.tmp 17))⟩,
  ⟨(some 19), (some (16, true)), (.fa 0 (.tmp 3))⟩,
  ⟨(some 20), (some (16, true)), (.load 1 false (.tmp 19))⟩,
  ⟨(some 21), (some (16, true)), (.bin .lss (.tmp 18) (.tmp 20))⟩,
  ⟨(some 22), (some (10, false)), (.pick (.tmp 16) (.tmp 21) (.const (.bool false)))⟩,
  ⟨(some 23), none, (.pick (.tmp 10) (.const (.bool true)) (.tmp 22))⟩,
  ⟨(some 4), none, (.asg (.tmp 23))⟩]) .ret))
theorem law_spec_LessPoint {a0 a1 d : D} (h : code_spec_LessPoint.wp (CT Tryd.prog TabG) (endQ [(.t 4)] d) [a0, a1, .undef, .undef, .undef, .undef, .undef, .undef, .undef, .undef, .undef, .undef, .undef, .undef, .undef, .undef, .undef, .undef, .undef, .undef, .undef, .undef, .undef, .undef]) : Contract Tryd.prog TabG 93 [a0, a1] d :=
  contract_of (pt := 0) tabG Tryd.func93 (fun us W => by kernel_rfl) (c := Tryd.f93.body.getD .skip) (ms := []) (ms' := []) (by kernel_rfl) (by kernel_rfl) (by kernel_rfl) h
theorem v_LessPoint_spec (a b : Point) : Contract Tryd.prog TabG 93 [.agg (Point.td.d false a), .agg (Point.td.d false b)] (.v (.bool (lessP a b))) := by
  rw [Point.td_d, Point.td_d]; refine law_spec_LessPoint ?_; unfold code_spec_LessPoint lessP; simp -implicitDefEqProofs (disch := omega) only [go_sem, ↓reduceIte]
  repeat' (first | (refine guard_split ?_ ?_ <;> intro h <;> try (simp -implicitDefEqProofs (disch := omega) only [go_sem, ↓reduceIte, h])) | (refine gd_split ?_ ?_ <;> intro h <;> try (simp -implicitDefEqProofs (disch := omega) only [go_sem, ↓reduceIte, h])) | (refine cond_split ?_ ?_ <;> intro h <;> try (simp -implicitDefEqProofs (disch := omega) only [go_sem, ↓reduceIte, h])))
  all_goals simp_all
def ptOK (p : Point) : Bool := inR (-60) 60 p.X && inR (-60) 60 p.Y
def code_impl_ValidPoint : VCode := (.seq (.ops [
  ⟨(some 1), none, (.box (.tmp 0))⟩,
  ⟨(some 2), none, (.asg (.const (.bool false)))⟩]) (.seq (.ops [
  ⟨(some 3), none, (.fa 0 (.tmp 1))⟩,
  ⟨(some 4), none, (.load 1 false (.tmp 3))⟩,
  ⟨(some 5), none, (.callX 59 [(.tmp 4), (.const (.int .i64 (-60))), (.const (.int .i64 60))])⟩,
  ⟨(some 6), none, (.mv (.tmp 5))⟩,
  ⟨(some 7), (some (6, true)), (.fa 1 (.tmp 1))⟩,
  ⟨(some 8), (some (6, true)), (.load 1 false (.tmp 7))⟩,
  ⟨(some 9), (some (6, true)), (.callX 59 [(.tmp 8), (.const (.int .i64 (-60))), (.const (.int .i64 60))])⟩,
  ⟨(some 10), none, (.pick (.tmp 6) (.tmp 9) (.const (.bool false)))⟩,
  ⟨(some 2), none, (.asg (.tmp 10))⟩]) .ret))
theorem law_impl_ValidPoint {a0 d : D} (h : code_impl_ValidPoint.wp (CT Tryd.prog TabG) (endQ [(.t 2)] d) [a0, .undef, .undef, .undef, .undef, .undef, .undef, .undef, .undef, .undef, .undef]) : Contract Tryd.prog TabG 97 [a0] d :=
  contract_of (pt := 0) tabG Tryd.func97 (fun us W => by kernel_rfl) (c := Tryd.f97.body.getD .skip) (ms := []) (ms' := []) (by kernel_rfl) (by kernel_rfl) (by kernel_rfl) h
theorem v_ValidPoint (p : Point) : Contract Tryd.prog TabG 97 [.agg (Point.td.d false p)] (.v (.bool (ptOK p))) := by
  rw [Point.td_d]; refine law_impl_ValidPoint ?_; unfold code_impl_ValidPoint ptOK; simp -implicitDefEqProofs (disch := omega) only [go_sem, ↓reduceIte]; refine call_B (v_within _ _ _) (by simp -implicitDefEqProofs (disch := omega) only [go_sem, ↓reduceIte, deep, TD.rows, immLL_rI, immLL_rB8, immLL_rS, immLL_rBo, immLL_rII, immLL_rIIt]; exact rfl) ?_; simp -implicitDefEqProofs (disch := omega) only [go_sem, ↓reduceIte]; refine guard_split ?_ ?_ <;> intro h
  · simp -implicitDefEqProofs (disch := omega) only [go_sem, ↓reduceIte , h]; refine call_B (v_within _ _ _) (by simp -implicitDefEqProofs (disch := omega) only [go_sem, ↓reduceIte, deep, TD.rows, immLL_rI, immLL_rB8, immLL_rS, immLL_rBo, immLL_rII, immLL_rIIt, h]; exact rfl) ?_; simp -implicitDefEqProofs (disch := omega) only [go_sem, ↓reduceIte , h]
  · simp -implicitDefEqProofs (disch := omega) only [go_sem, ↓reduceIte , h]
def code_spec_l01Point : VCode := (.seq (.ops [
  ⟨(some 1), none, (.box (.tmp 0))⟩,
  ⟨(some 2), none, (.asg (.const (.bool false)))⟩]) (.seq (.ops [
  ⟨(some 3), none, (.fa 0 (.tmp 1))⟩,
  ⟨(some 4), none, (.load 1 false (.tmp 3))⟩,
  ⟨(some 5), none, (.callX 55 [(.tmp 4), (.const (.int .i64 (-60))), (.const (.int .i64 60))])⟩,
  ⟨(some 6), none, (.mv (.tmp 5))⟩,
  ⟨(some 7), (some (6, true)), (.fa 1 (.tmp 1))⟩,
  ⟨(some 8), (some (6, true)), (.load 1 false (.tmp 7))⟩,
  ⟨(some 9), (some (6, true)), (.callX 55 [(.tmp 8), (.const (.int .i64 (-60))), (.const (.int .i64 60))])⟩,
  ⟨(some 10), none, (.pick (.tmp 6) (.tmp 9) (.const (.bool false)))⟩,
  ⟨(some 2), none, (.asg (.tmp 10))⟩]) .ret))
theorem law_spec_l01Point {a0 d : D} (h : code_spec_l01Point.wp (CT Tryd.prog TabG) (endQ [(.t 2)] d) [a0, .undef, .undef, .undef, .undef, .undef, .undef, .undef, .undef, .undef, .undef]) : Contract Tryd.prog TabG 92 [a0] d :=
  contract_of (pt := 0) tabG Tryd.func92 (fun us W => by kernel_rfl) (c := Tryd.f92.body.getD .skip) (ms := []) (ms' := []) (by kernel_rfl) (by kernel_rfl) (by kernel_rfl) h
theorem v_l01Point (p : Point) : Contract Tryd.prog TabG 92 [.agg (Point.td.d false p)] (.v (.bool (ptOK p))) := by
  rw [Point.td_d]; refine law_spec_l01Point ?_; unfold code_spec_l01Point ptOK; simp -implicitDefEqProofs (disch := omega) only [go_sem, ↓reduceIte]; refine call_B (v_l00In _ _ _) (by simp -implicitDefEqProofs (disch := omega) only [go_sem, ↓reduceIte, deep, TD.rows, immLL_rI, immLL_rB8, immLL_rS, immLL_rBo, immLL_rII, immLL_rIIt]; exact rfl) ?_; simp -implicitDefEqProofs (disch := omega) only [go_sem, ↓reduceIte]; refine guard_split ?_ ?_ <;> intro h
  · simp -implicitDefEqProofs (disch := omega) only [go_sem, ↓reduceIte , h]; refine call_B (v_l00In _ _ _) (by simp -implicitDefEqProofs (disch := omega) only [go_sem, ↓reduceIte, deep, TD.rows, immLL_rI, immLL_rB8, immLL_rS, immLL_rBo, immLL_rII, immLL_rIIt, h]; exact rfl) ?_; simp -implicitDefEqProofs (disch := omega) only [go_sem, ↓reduceIte , h]
  · simp -implicitDefEqProofs (disch := omega) only [go_sem, ↓reduceIte , h]
def okP (ps : List Placed) (i : Nat) : Bool := match ps[i]? with
  | some x => ptOK x.At && (inR 0 159 x.Tile && (decide (i = 0) || match ps[i - 1]? with
    | some y => lessP y.At x.At
    | none => false))
  | none => false
def okForm (ps : List Placed) : Bool := decide (ps.length ≤ 500) && (List.range ps.length).all (okP ps)
theorem okP_zero {ps : List Placed} (h : 0 < ps.length) : okP ps 0 = (ptOK ps[0].At && inR 0 159 ps[0].Tile) := by unfold okP; rw [List.getElem?_eq_getElem h]; simp
theorem okP_succ {ps : List Placed} {i : Nat} (h : i + 1 < ps.length) : okP ps (i + 1) = (ptOK ps[i + 1].At && (inR 0 159 ps[i + 1].Tile && lessP ps[i].At ps[i + 1].At)) := by unfold okP; rw [List.getElem?_eq_getElem h]; simp only [Nat.add_sub_cancel]; rw [List.getElem?_eq_getElem (by omega)]; simp
theorem okForm_no {ps : List Placed} {i : Nat} (hi : i < ps.length) (h : okP ps i = false) : okForm ps = false := by
  unfold okForm; have : (List.range ps.length).all (okP ps) = false := by rw [List.all_eq_false]; exact ⟨i, by simpa using hi, by simp [h]⟩
  rw [this, Bool.and_false]
theorem okForm_yes {ps : List Placed} (h : (List.range ps.length).all (okP ps) = true) : okForm ps = decide (ps.length ≤ 500) := by unfold okForm; rw [h, Bool.and_true]
def code_impl_hasForm : VCode := (.seq (.ops [
  ⟨(some 1), none, (.box (.tmp 0))⟩,
  ⟨(some 2), none, (.asg (.const (.bool false)))⟩]) (.seq (.seq (.ops [
  ⟨(some 5), none, (.fa 0 (.tmp 1))⟩,
  ⟨(some 6), none, (.load 1 false (.tmp 5))⟩,
  ⟨(some 7), none, (.len (.tmp 6))⟩,
  ⟨(some 8), none, (.mv (.const (.int .i64 0)))⟩]) (.block 0 (.loop (mB 45 35184372088349) (.seq (.ops [
  ⟨(some 9), none, (.bin .lss (.tmp 8) (.tmp 7))⟩]) (.seq (.cond (.tmp 9) .skip (.exit 0)) (.seq (.block 1 (.seq (.ops [
  ⟨(some 10), none, (.mv (.tmp 8))⟩,
  ⟨(some 11), none, (.ia 3 (.tmp 6) (.tmp 8))⟩,
  ⟨(some 12), none, (.load 3 true (.tmp 11))⟩,
  ⟨(some 4), none, (.alloc [(.int .i64 0), (.int .i64 0), (.int .i64 0)])⟩,
  ⟨(some 3), none, (.asg (.tmp 10))⟩,
  ⟨none, none, (.store 3 (.tmp 4) (.tmp 12))⟩]) (.seq (.draw (mB 36 68719468544) [] [⟨0, (mB 36 68719468544), [], ⟨(some 13), none, (.fa 0 (.tmp 4))⟩⟩, ⟨1, (mB 36 68719460352), [], ⟨(some 14), none, (.load 2 true (.tmp 13))⟩⟩, ⟨2, (mB 36 68719443968), [], ⟨(some 15), none, (.call 97 [(.tmp 14)])⟩⟩, ⟨3, (mB 36 68719411200), [], ⟨(some 16), none, (.un .not (.tmp 15))⟩⟩, ⟨4, (mB 36 68719345664), [], ⟨(some 17), none, (.mv (.tmp 16))⟩⟩, ⟨5, (mB 36 68719214592), [], ⟨(some 18), (some (17, false)), (.fa 2 (.tmp 4))⟩⟩, ⟨6, (mB 36 68718952448), [], ⟨(some 19), (some (17, false)), (.load 1 false (.tmp 18))⟩⟩, ⟨7, (mB 36 68718428160), [], ⟨(some 20), (some (17, false)), (.call 98 [(.tmp 19), (.const (.int .i64 160))])⟩⟩, ⟨8, (mB 36 68717379584), [], ⟨(some 21), (some (17, false)), (.un .not (.tmp 20))⟩⟩, ⟨9, (mB 36 68715282432), [], ⟨(some 22), none, (.pick (.tmp 17) (.const (.bool true)) (.tmp 21))⟩⟩, ⟨10, (mB 36 68711088128), [], ⟨(some 23), none, (.mv (.tmp 22))⟩⟩, ⟨11, (mB 36 68702699520), [], ⟨(some 24), (some (23, false)), (.mv (.tmp 3))⟩⟩, ⟨12, (mB 36 68685922304), [], ⟨(some 25), (some (23, false)), (.bin .gtr (.tmp 24) (.const (.int .i64 0)))⟩⟩, ⟨13, (mB 36 68652367872), [], ⟨(some 26), (some (23, false)), (.mv (.tmp 25))⟩⟩, ⟨14, (mB 36 68585259008), [], ⟨(some 27), (some (26, true)), (.fa 0 (.tmp 1))⟩⟩, ⟨15, (mB 36 68451041280), [], ⟨(some 28), (some (26, true)), (.load 1 false (.tmp 27))⟩⟩, ⟨16, (mB 36 68585259008), [], ⟨(some 29), (some (26, true)), (.mv (.tmp 3))⟩⟩, ⟨17, (mB 36 68048388096), [], ⟨(some 30), (some (26, true)), (.bin .sub (.tmp 29) (.const (.int .i64 1)))⟩⟩, ⟨18, (mB 36 66571993088), [], ⟨(some 31), (some (26, true)), (.ia 3 (.tmp 28) (.tmp 30))⟩⟩, ⟨19, (mB 36 64424509440), [], ⟨(some 32), (some (26, true)), (.fa 0 (.tmp 31))⟩⟩, ⟨20, (mB 36 60129542144), [], ⟨(some 33), (some (26, true)), (.load 2 true (.tmp 32))⟩⟩, ⟨21, (mB 36 68585259008), [], ⟨(some 34), (some (26, true)), (.fa 0 (.tmp 4))⟩⟩, ⟨22, (mB 36 51405389824), [], ⟨(some 35), (some (26, true)), (.load 2 true (.tmp 34))⟩⟩] [⟨(some 36), (some (26, true)), (.callX 99 [(.tmp 33), (.tmp 35)])⟩, ⟨(some 37), (some (26, true)), (.un .not (.tmp 36))⟩, ⟨(some 38), (some (23, false)), (.pick (.tmp 26) (.tmp 37) (.const (.bool false)))⟩, ⟨(some 39), none, (.pick (.tmp 23) (.const (.bool true)) (.tmp 38))⟩]) (.cond (.tmp 39) (.seq (.ops [
  ⟨(some 2), none, (.asg (.const (.bool false)))⟩]) .ret) .skip)))) (.ops [
  ⟨(some 40), none, (.bin .add (.tmp 8) (.const (.int .i64 1)))⟩,
  ⟨(some 8), none, (.mv (.tmp 40))⟩]))))))) (.seq (.ops [
  ⟨(some 41), none, (.fa 0 (.tmp 1))⟩,
  ⟨(some 42), none, (.load 1 false (.tmp 41))⟩,
  ⟨(some 43), none, (.len (.tmp 42))⟩,
  ⟨(some 44), none, (.bin .leq (.tmp 43) (.const (.int .i64 500)))⟩,
  ⟨(some 2), none, (.asg (.tmp 44))⟩]) .ret)))
theorem law_impl_hasForm {a0 d : D} (h : code_impl_hasForm.wp (CT Tryd.prog TabG) (endQ [(.t 2)] d) [a0, .undef, .undef, .undef, .undef, .undef, .undef, .undef, .undef, .undef, .undef, .undef, .undef, .undef, .undef, .undef, .undef, .undef, .undef, .undef, .undef, .undef, .undef, .undef, .undef, .undef, .undef, .undef, .undef, .undef, .undef, .undef, .undef, .undef, .undef, .undef, .undef, .undef, .undef, .undef, .undef, .undef, .undef, .undef, .undef]) : Contract Tryd.prog TabG 76 [a0] d :=
  contract_of (pt := 0) tabG Tryd.func76 (fun us W => by kernel_rfl) (c := Tryd.f76.body.getD .skip) (ms := [(mB 45 35184372088349)]) (ms' := []) (by kernel_rfl) (by kernel_rfl) (by kernel_rfl) h
set_option maxHeartbeats 2000000 in
theorem v_hasForm (b : Assembly) (hn : b.Tiles.length ≤ 1048576) : Contract Tryd.prog TabG 76 [.agg (Assembly.td.d false b)] (.v (.bool (okForm b.Tiles))) := by
  rw [Assembly.td_d]; refine law_impl_hasForm ?_; unfold code_impl_hasForm; simp -implicitDefEqProofs (disch := omega) only [go_sem, ↓reduceIte , List.length_map]; refine loop_ov (by simp -implicitDefEqProofs (disch := omega) only [go_sem, ↓reduceIte]; exact rfl) (fun i : Nat => [(8, .v (.int .i64 (i : Nat)))]) (fun _ => by simp only [ovr_nil, ovr_cons, List.set_cons_zero, List.set_cons_succ]; exact rfl) (fun i : Nat => i ≤ b.Tiles.length ∧ (List.range i).all (okP b.Tiles) = true) (fun i : Nat => b.Tiles.length - i) (0) (nleA) (?_) ?_
  · exact ⟨Nat.zero_le _, rfl⟩
  rintro i ⟨hi, hal⟩; simp -implicitDefEqProofs (disch := omega) only [go_sem, ↓reduceIte , List.length_map, Int.toNat_natCast, Int.ofNat_lt, Int.natCast_nonneg, List.getElem?_map, Option.map_some]; refine cond_split ?_ ?_ <;> intro hlt
  · have hlt : i < b.Tiles.length := (by simpa using hlt); have e1 := List.getElem?_eq_getElem hlt; have key : ∀ v, okP b.Tiles i = v → (v = false → okForm b.Tiles = false) ∧ (v = true → (List.range (i + 1)).all (okP b.Tiles) = true) := fun v hv => ⟨fun h => okForm_no hlt (hv.trans h), fun h => all_next hal (hv.trans h)⟩
    simp -implicitDefEqProofs (disch := omega) only [go_sem, ↓reduceIte , List.length_map, Int.toNat_natCast, Int.ofNat_lt, Int.natCast_nonneg, List.getElem?_map, Option.map_some, hlt, e1, Placed.td_d]; cases c1 : ptOK b.Tiles[i].At with
    | false => have hno : okForm b.Tiles = false := (key _ rfl).1 (by unfold okP; rw [e1]; simp only [c1, Bool.false_and]); refine call_NB (v_ValidPoint b.Tiles[i].At) (by simp -implicitDefEqProofs (disch := omega) only [go_sem, ↓reduceIte, deep, TD.rows, immLL_rI, immLL_rB8, immLL_rS, immLL_rBo, immLL_rII, immLL_rIIt, c1, hno]; exact rfl) ?_; simp -implicitDefEqProofs (disch := omega) only [go_sem, ↓reduceIte , c1, hno]
    | true =>
    cases c2 : inR 0 159 b.Tiles[i].Tile with
    | false => have hno : okForm b.Tiles = false := (key _ rfl).1 (by unfold okP; rw [e1]; simp only [c2, Bool.false_and, Bool.and_false]); refine call_NB (v_ValidPoint b.Tiles[i].At) (by simp -implicitDefEqProofs (disch := omega) only [go_sem, ↓reduceIte, deep, TD.rows, immLL_rI, immLL_rB8, immLL_rS, immLL_rBo, immLL_rII, immLL_rIIt, c1]; exact rfl) ?_; simp -implicitDefEqProofs (disch := omega) only [go_sem, ↓reduceIte , c1]; refine call_NB (v_isIndex b.Tiles[i].Tile 160 (by decide) (by decide)) (by simp -implicitDefEqProofs (disch := omega) only [go_sem, ↓reduceIte, deep, TD.rows, immLL_rI, immLL_rB8, immLL_rS, immLL_rBo, immLL_rII, immLL_rIIt, Int.reduceSub, c2, hno]; exact rfl) ?_; simp -implicitDefEqProofs (disch := omega) only [go_sem, ↓reduceIte , Int.reduceSub, c2, hno]
    | true =>
    cases i with
    | zero => have hok := (key _ (okP_zero hlt)).2 (by rw [c1, c2]; rfl); refine call_NB (v_ValidPoint b.Tiles[0].At) (by simp -implicitDefEqProofs (disch := omega) only [go_sem, ↓reduceIte, deep, TD.rows, immLL_rI, immLL_rB8, immLL_rS, immLL_rBo, immLL_rII, immLL_rIIt, c1]; exact rfl) ?_; simp -implicitDefEqProofs (disch := omega) only [go_sem, ↓reduceIte , c1]; refine call_NB (v_isIndex b.Tiles[0].Tile 160 (by decide) (by decide)) (by simp -implicitDefEqProofs (disch := omega) only [go_sem, ↓reduceIte, deep, TD.rows, immLL_rI, immLL_rB8, immLL_rS, immLL_rBo, immLL_rII, immLL_rIIt, Int.reduceSub, c2, Int.natCast_zero, Int.natCast_one, Int.cast_ofNat_Int, Int.ofNat_le, Int.toNat_zero, Nat.sub_zero, Int.le_refl, Int.reduceLT, Int.reduceLE, Int.reduceEq, Int.reduceAdd, Int.reduceSub, Int.reduceMul, Int.reduceToNat, Int.reduceNeg, Int.lt_irrefl]; exact rfl) ?_; simp -implicitDefEqProofs (disch := omega) only [go_sem, ↓reduceIte , Int.reduceSub, c2, Int.natCast_zero, Int.natCast_one, Int.cast_ofNat_Int, Int.ofNat_le, Int.toNat_zero, Nat.sub_zero, Int.le_refl, Int.reduceLT, Int.reduceLE, Int.reduceEq, Int.reduceAdd, Int.reduceSub, Int.reduceMul, Int.reduceToNat, Int.reduceNeg, Int.lt_irrefl]; exact ⟨1, by omega, ⟨by omega, hok⟩, nleA⟩
    | succ k =>
      have hk : k < b.Tiles.length := (by omega); have e2 := List.getElem?_eq_getElem hk; have w1 : IntKind.i64.wrap (((k + 1 : Nat) : Int) - 1) = (k : Int) := (by rw [wrI (by omega) (by omega)]; omega); have d1 : decide ((0 : Int) < ((k + 1 : Nat) : Int)) = true := (by rw [decide_eq_true_eq]; omega); cases c3 : lessP b.Tiles[k].At b.Tiles[k + 1].At with
      | false => have hno := (key _ (okP_succ hlt)).1 (by rw [c1, c2, c3]; rfl); refine call_NB (v_ValidPoint b.Tiles[k + 1].At) (by simp -implicitDefEqProofs (disch := omega) only [go_sem, ↓reduceIte, deep, TD.rows, immLL_rI, immLL_rB8, immLL_rS, immLL_rBo, immLL_rII, immLL_rIIt, c1]; exact rfl) ?_; simp -implicitDefEqProofs (disch := omega) only [go_sem, ↓reduceIte , c1]; refine call_NB (v_isIndex b.Tiles[k + 1].Tile 160 (by decide) (by decide)) (by simp -implicitDefEqProofs (disch := omega) only [go_sem, ↓reduceIte, deep, TD.rows, immLL_rI, immLL_rB8, immLL_rS, immLL_rBo, immLL_rII, immLL_rIIt, Int.reduceSub, c2, d1, w1, hk, e2, List.length_map, Int.toNat_natCast, Int.ofNat_lt, Int.natCast_nonneg, List.getElem?_map, Option.map_some, Placed.td_d]; exact rfl) ?_; simp -implicitDefEqProofs (disch := omega) only [go_sem, ↓reduceIte , Int.reduceSub, c2, d1, w1, hk, e2, List.length_map, Int.toNat_natCast, Int.ofNat_lt, Int.natCast_nonneg, List.getElem?_map, Option.map_some, Placed.td_d]; refine call_B (v_LessPoint b.Tiles[k].At b.Tiles[k + 1].At) (by simp -implicitDefEqProofs (disch := omega) only [go_sem, ↓reduceIte, deep, TD.rows, immLL_rI, immLL_rB8, immLL_rS, immLL_rBo, immLL_rII, immLL_rIIt, c3, hno]; exact rfl) ?_; simp -implicitDefEqProofs (disch := omega) only [go_sem, ↓reduceIte , c3, hno]
      | true => have hok := (key _ (okP_succ hlt)).2 (by rw [c1, c2, c3]; rfl); refine call_NB (v_ValidPoint b.Tiles[k + 1].At) (by simp -implicitDefEqProofs (disch := omega) only [go_sem, ↓reduceIte, deep, TD.rows, immLL_rI, immLL_rB8, immLL_rS, immLL_rBo, immLL_rII, immLL_rIIt, c1]; exact rfl) ?_; simp -implicitDefEqProofs (disch := omega) only [go_sem, ↓reduceIte , c1]; refine call_NB (v_isIndex b.Tiles[k + 1].Tile 160 (by decide) (by decide)) (by simp -implicitDefEqProofs (disch := omega) only [go_sem, ↓reduceIte, deep, TD.rows, immLL_rI, immLL_rB8, immLL_rS, immLL_rBo, immLL_rII, immLL_rIIt, Int.reduceSub, c2, d1, w1, hk, e2, List.length_map, Int.toNat_natCast, Int.ofNat_lt, Int.natCast_nonneg, List.getElem?_map, Option.map_some, Placed.td_d]; exact rfl) ?_; simp -implicitDefEqProofs (disch := omega) only [go_sem, ↓reduceIte , Int.reduceSub, c2, d1, w1, hk, e2, List.length_map, Int.toNat_natCast, Int.ofNat_lt, Int.natCast_nonneg, List.getElem?_map, Option.map_some, Placed.td_d]; refine call_B (v_LessPoint b.Tiles[k].At b.Tiles[k + 1].At) (by simp -implicitDefEqProofs (disch := omega) only [go_sem, ↓reduceIte, deep, TD.rows, immLL_rI, immLL_rB8, immLL_rS, immLL_rBo, immLL_rII, immLL_rIIt, c3, wrN]; exact rfl) ?_; simp -implicitDefEqProofs (disch := omega) only [go_sem, ↓reduceIte , c3, wrN]; exact ⟨k + 1 + 1, by omega, ⟨by omega, hok⟩, nleA⟩
  · obtain rfl : i = b.Tiles.length := (by have : ¬ i < b.Tiles.length := (by simpa using hlt); omega); simp -implicitDefEqProofs (disch := omega) only [go_sem, ↓reduceIte , List.length_map, okForm_yes hal]; exact congrArg Value.bool (by rw [decide_eq_decide]; omega)
def code_spec_l03Form : VCode := (.seq (.ops [
  ⟨(some 2), none, (.asg (.const (.bool false)))⟩]) (.seq (.seq (.ops [
  ⟨(some 5), none, (.mv (.tmp 0))⟩,
  ⟨(some 6), none, (.nilc (.tmp 5))⟩,
  ⟨(some 7), none, (.fa 0 (.tmp 6))⟩,
  ⟨(some 8), none, (.load 1 false (.tmp 7))⟩,
  ⟨(some 9), none, (.len (.tmp 8))⟩,
  ⟨(some 10), none, (.bin .gtr (.tmp 9) (.const (.int .i64 500)))⟩]) (.cond (.tmp 10) (.seq (.ops [
  ⟨(some 2), none, (.asg (.const (.bool false)))⟩]) .ret) .skip)) (.seq (.seq (.ops [
  ⟨(some 3), none, (.asg (.const (.int .i64 0)))⟩]) (.block 0 (.loop (mB 56 72057594037927926) (.seq (.seq (.ops [
  ⟨(some 11), none, (.mv (.tmp 3))⟩,
  ⟨(some 12), none, (.mv (.tmp 0))⟩,
  ⟨(some 13), none, (.nilc (.tmp 12))⟩,
  ⟨(some 14), none, (.fa 0 (.tmp 13))⟩,
  ⟨(some 15), none, (.load 1 false (.tmp 14))⟩,
  ⟨(some 16), none, (.len (.tmp 15))⟩,
  ⟨(some 17), none, (.bin .lss (.tmp 11) (.tmp 16))⟩]) (.cond (.tmp 17) .skip (.exit 0))) (.seq (.block 1 (.seq (.ops [
  ⟨(some 20), none, (.mv (.tmp 0))⟩,
  ⟨(some 21), none, (.nilc (.tmp 20))⟩,
  ⟨(some 22), none, (.fa 0 (.tmp 21))⟩,
  ⟨(some 23), none, (.load 1 false (.tmp 22))⟩,
  ⟨(some 24), none, (.mv (.tmp 3))⟩,
  ⟨(some 25), none, (.ia 3 (.tmp 23) (.tmp 24))⟩,
  ⟨(some 26), none, (.load 3 true (.tmp 25))⟩,
  ⟨(some 4), none, (.alloc [(.int .i64 0), (.int .i64 0), (.int .i64 0)])⟩,
  ⟨none, none, (.store 3 (.tmp 4) (.tmp 26))⟩]) (.seq (.draw (mB 52 4503599493152768) [] [⟨0, (mB 52 4503599493152768), [], ⟨(some 27), none, (.fa 0 (.tmp 4))⟩⟩, ⟨1, (mB 52 4503599358935040), [], ⟨(some 28), none, (.load 2 true (.tmp 27))⟩⟩, ⟨2, (mB 52 4503599090499584), [], ⟨(some 29), none, (.call 92 [(.tmp 28)])⟩⟩, ⟨3, (mB 52 4503598553628672), [], ⟨(some 30), none, (.un .not (.tmp 29))⟩⟩, ⟨4, (mB 52 4503597479886848), [], ⟨(some 31), none, (.mv (.tmp 30))⟩⟩, ⟨5, (mB 52 4503595332403200), [], ⟨(some 32), (some (31, false)), (.fa 2 (.tmp 4))⟩⟩, ⟨6, (mB 52 4503591037435904), [], ⟨(some 33), (some (31, false)), (.load 1 false (.tmp 32))⟩⟩, ⟨7, (mB 52 4503582447501312), [], ⟨(some 34), (some (31, false)), (.call 55 [(.tmp 33), (.const (.int .i64 0)), (.const (.int .i64 159))])⟩⟩, ⟨8, (mB 52 4503565267632128), [], ⟨(some 35), (some (31, false)), (.un .not (.tmp 34))⟩⟩, ⟨9, (mB 52 4503530907893760), [], ⟨(some 36), none, (.pick (.tmp 31) (.const (.bool true)) (.tmp 35))⟩⟩, ⟨10, (mB 52 4503462188417024), [], ⟨(some 37), none, (.mv (.tmp 36))⟩⟩, ⟨11, (mB 52 4503324749463552), [], ⟨(some 38), (some (37, false)), (.mv (.tmp 3))⟩⟩, ⟨12, (mB 52 4503049871556608), [], ⟨(some 39), (some (37, false)), (.bin .gtr (.tmp 38) (.const (.int .i64 0)))⟩⟩, ⟨13, (mB 52 4502500115742720), [], ⟨(some 40), (some (37, false)), (.mv (.tmp 39))⟩⟩, ⟨14, (mB 52 4501400604114944), [], ⟨(some 41), (some (40, true)), (.mv (.tmp 0))⟩⟩, ⟨15, (mB 52 4499201580859392), [], ⟨(some 42), (some (40, true)), (.nilc (.tmp 41))⟩⟩, ⟨16, (mB 52 4494803534348288), [], ⟨(some 43), (some (40, true)), (.fa 0 (.tmp 42))⟩⟩, ⟨17, (mB 52 4486007441326080), [], ⟨(some 44), (some (40, true)), (.load 1 false (.tmp 43))⟩⟩, ⟨18, (mB 52 4501400604114944), [], ⟨(some 45), (some (40, true)), (.mv (.tmp 3))⟩⟩, ⟨19, (mB 52 4466216232026112), [], ⟨(some 46), (some (40, true)), (.bin .sub (.tmp 45) (.const (.int .i64 1)))⟩⟩, ⟨20, (mB 52 4362862139015168), [], ⟨(some 47), (some (40, true)), (.ia 3 (.tmp 44) (.tmp 46))⟩⟩, ⟨21, (mB 52 4222124650659840), [], ⟨(some 48), (some (40, true)), (.fa 0 (.tmp 47))⟩⟩, ⟨22, (mB 52 3940649673949184), [], ⟨(some 49), (some (40, true)), (.load 2 true (.tmp 48))⟩⟩, ⟨23, (mB 52 4501400604114944), [], ⟨(some 50), (some (40, true)), (.fa 0 (.tmp 4))⟩⟩, ⟨24, (mB 52 3375500697272320), [], ⟨(some 51), (some (40, true)), (.load 2 true (.tmp 50))⟩⟩] [⟨(some 52), (some (40, true)), (.callX 93 [(.tmp 49), (.tmp 51)])⟩, ⟨(some 53), (some (40, true)), (.un .not (.tmp 52))⟩, ⟨(some 54), (some (37, false)), (.pick (.tmp 40) (.tmp 53) (.const (.bool false)))⟩, ⟨(some 55), none, (.pick (.tmp 37) (.const (.bool true)) (.tmp 54))⟩]) (.cond (.tmp 55) (.seq (.ops [
  ⟨(some 2), none, (.asg (.const (.bool false)))⟩]) .ret) .skip)))) (.ops [
  ⟨(some 18), none, (.mv (.tmp 3))⟩,
  ⟨(some 19), none, (.bin .add (.tmp 18) (.const (.int .i64 1)))⟩,
  ⟨(some 3), none, (.asg (.tmp 19))⟩])))))) (.seq (.ops [
  ⟨(some 2), none, (.asg (.const (.bool true)))⟩]) .ret))))
theorem law_spec_l03Form {a0 d : D} (h : code_spec_l03Form.wp (CT Tryd.prog TabG) (endQ [(.t 2)] d) [a0, .undef, .undef, .undef, .undef, .undef, .undef, .undef, .undef, .undef, .undef, .undef, .undef, .undef, .undef, .undef, .undef, .undef, .undef, .undef, .undef, .undef, .undef, .undef, .undef, .undef, .undef, .undef, .undef, .undef, .undef, .undef, .undef, .undef, .undef, .undef, .undef, .undef, .undef, .undef, .undef, .undef, .undef, .undef, .undef, .undef, .undef, .undef, .undef, .undef, .undef, .undef, .undef, .undef, .undef, .undef]) : Contract Tryd.prog TabG 67 [a0] d :=
  contract_of (pt := 0) tabG Tryd.func67 (fun us W => by kernel_rfl) (c := Tryd.f67.body.getD .skip) (ms := [(mB 56 72057594037927926)]) (ms' := []) (by kernel_rfl) (by kernel_rfl) (by kernel_rfl) h
set_option maxHeartbeats 2000000 in
theorem v_l03Form (b : Assembly) (hn : b.Tiles.length ≤ 1048576) : Contract Tryd.prog TabG 67 [.iptr (Assembly.td.d false b) 0] (.v (.bool (okForm b.Tiles))) := by
  rw [Assembly.td_d]; refine law_spec_l03Form ?_; unfold code_spec_l03Form; by_cases h5 : b.Tiles.length ≤ 500
  · have d5 : decide ((500 : Int) < (b.Tiles.length : Int)) = false := (by rw [decide_eq_false_iff_not]; omega); simp -implicitDefEqProofs (disch := omega) only [go_sem, ↓reduceIte , List.length_map, d5]; refine loop_ov (by simp -implicitDefEqProofs (disch := omega) only [go_sem, ↓reduceIte]; exact rfl) (fun i : Nat => [(3, .v (.int .i64 (i : Nat)))]) (fun _ => by simp only [ovr_nil, ovr_cons, List.set_cons_zero, List.set_cons_succ]; exact rfl) (fun i : Nat => i ≤ b.Tiles.length ∧ (List.range i).all (okP b.Tiles) = true) (fun i : Nat => b.Tiles.length - i) (0) (nleA) (?_) ?_
    · exact ⟨Nat.zero_le _, rfl⟩
    rintro i ⟨hi, hal⟩; simp -implicitDefEqProofs (disch := omega) only [go_sem, ↓reduceIte , List.length_map, Int.toNat_natCast, Int.ofNat_lt, Int.natCast_nonneg, List.getElem?_map, Option.map_some]; refine cond_split ?_ ?_ <;> intro hlt
    · have hlt : i < b.Tiles.length := (by simpa using hlt); have e1 := List.getElem?_eq_getElem hlt; have key : ∀ v, okP b.Tiles i = v → (v = false → okForm b.Tiles = false) ∧ (v = true → (List.range (i + 1)).all (okP b.Tiles) = true) := fun v hv => ⟨fun h => okForm_no hlt (hv.trans h), fun h => all_next hal (hv.trans h)⟩
      simp -implicitDefEqProofs (disch := omega) only [go_sem, ↓reduceIte , List.length_map, Int.toNat_natCast, Int.ofNat_lt, Int.natCast_nonneg, List.getElem?_map, Option.map_some, hlt, e1, Placed.td_d]; cases c1 : ptOK b.Tiles[i].At with
      | false => have hno : okForm b.Tiles = false := (key _ rfl).1 (by unfold okP; rw [e1]; simp only [c1, Bool.false_and]); refine call_NB (v_l01Point b.Tiles[i].At) (by simp -implicitDefEqProofs (disch := omega) only [go_sem, ↓reduceIte, deep, TD.rows, immLL_rI, immLL_rB8, immLL_rS, immLL_rBo, immLL_rII, immLL_rIIt, c1, hno]; exact rfl) ?_; simp -implicitDefEqProofs (disch := omega) only [go_sem, ↓reduceIte , c1, hno]
      | true =>
      cases c2 : inR 0 159 b.Tiles[i].Tile with
      | false => have hno : okForm b.Tiles = false := (key _ rfl).1 (by unfold okP; rw [e1]; simp only [c2, Bool.false_and, Bool.and_false]); refine call_NB (v_l01Point b.Tiles[i].At) (by simp -implicitDefEqProofs (disch := omega) only [go_sem, ↓reduceIte, deep, TD.rows, immLL_rI, immLL_rB8, immLL_rS, immLL_rBo, immLL_rII, immLL_rIIt, c1]; exact rfl) ?_; simp -implicitDefEqProofs (disch := omega) only [go_sem, ↓reduceIte , c1]; refine call_NB (v_l00In b.Tiles[i].Tile 0 159) (by simp -implicitDefEqProofs (disch := omega) only [go_sem, ↓reduceIte, deep, TD.rows, immLL_rI, immLL_rB8, immLL_rS, immLL_rBo, immLL_rII, immLL_rIIt, c2, hno]; exact rfl) ?_; simp -implicitDefEqProofs (disch := omega) only [go_sem, ↓reduceIte , c2, hno]
      | true =>
      cases i with
      | zero => have hok := (key _ (okP_zero hlt)).2 (by rw [c1, c2]; rfl); refine call_NB (v_l01Point b.Tiles[0].At) (by simp -implicitDefEqProofs (disch := omega) only [go_sem, ↓reduceIte, deep, TD.rows, immLL_rI, immLL_rB8, immLL_rS, immLL_rBo, immLL_rII, immLL_rIIt, c1]; exact rfl) ?_; simp -implicitDefEqProofs (disch := omega) only [go_sem, ↓reduceIte , c1]; refine call_NB (v_l00In b.Tiles[0].Tile 0 159) (by simp -implicitDefEqProofs (disch := omega) only [go_sem, ↓reduceIte, deep, TD.rows, immLL_rI, immLL_rB8, immLL_rS, immLL_rBo, immLL_rII, immLL_rIIt, c2, Int.natCast_zero, Int.natCast_one, Int.cast_ofNat_Int, Int.ofNat_le, Int.toNat_zero, Nat.sub_zero, Int.le_refl, Int.reduceLT, Int.reduceLE, Int.reduceEq, Int.reduceAdd, Int.reduceSub, Int.reduceMul, Int.reduceToNat, Int.reduceNeg, Int.lt_irrefl]; exact rfl) ?_; simp -implicitDefEqProofs (disch := omega) only [go_sem, ↓reduceIte , c2, Int.natCast_zero, Int.natCast_one, Int.cast_ofNat_Int, Int.ofNat_le, Int.toNat_zero, Nat.sub_zero, Int.le_refl, Int.reduceLT, Int.reduceLE, Int.reduceEq, Int.reduceAdd, Int.reduceSub, Int.reduceMul, Int.reduceToNat, Int.reduceNeg, Int.lt_irrefl]; exact ⟨1, by omega, ⟨by omega, hok⟩, nleA⟩
      | succ k =>
        have hk : k < b.Tiles.length := (by omega); have e2 := List.getElem?_eq_getElem hk; have w1 : IntKind.i64.wrap (((k + 1 : Nat) : Int) - 1) = (k : Int) := (by rw [wrI (by omega) (by omega)]; omega); have d1 : decide ((0 : Int) < ((k + 1 : Nat) : Int)) = true := (by rw [decide_eq_true_eq]; omega); cases c3 : lessP b.Tiles[k].At b.Tiles[k + 1].At with
        | false => have hno := (key _ (okP_succ hlt)).1 (by rw [c1, c2, c3]; rfl); refine call_NB (v_l01Point b.Tiles[k + 1].At) (by simp -implicitDefEqProofs (disch := omega) only [go_sem, ↓reduceIte, deep, TD.rows, immLL_rI, immLL_rB8, immLL_rS, immLL_rBo, immLL_rII, immLL_rIIt, c1]; exact rfl) ?_; simp -implicitDefEqProofs (disch := omega) only [go_sem, ↓reduceIte , c1]; refine call_NB (v_l00In b.Tiles[k + 1].Tile 0 159) (by simp -implicitDefEqProofs (disch := omega) only [go_sem, ↓reduceIte, deep, TD.rows, immLL_rI, immLL_rB8, immLL_rS, immLL_rBo, immLL_rII, immLL_rIIt, c2, d1, w1, hk, e2, List.length_map, Int.toNat_natCast, Int.ofNat_lt, Int.natCast_nonneg, List.getElem?_map, Option.map_some, Placed.td_d]; exact rfl) ?_; simp -implicitDefEqProofs (disch := omega) only [go_sem, ↓reduceIte , c2, d1, w1, hk, e2, List.length_map, Int.toNat_natCast, Int.ofNat_lt, Int.natCast_nonneg, List.getElem?_map, Option.map_some, Placed.td_d]; refine call_B (v_LessPoint_spec b.Tiles[k].At b.Tiles[k + 1].At) (by simp -implicitDefEqProofs (disch := omega) only [go_sem, ↓reduceIte, deep, TD.rows, immLL_rI, immLL_rB8, immLL_rS, immLL_rBo, immLL_rII, immLL_rIIt, c3, hno]; exact rfl) ?_; simp -implicitDefEqProofs (disch := omega) only [go_sem, ↓reduceIte , c3, hno]
        | true => have hok := (key _ (okP_succ hlt)).2 (by rw [c1, c2, c3]; rfl); refine call_NB (v_l01Point b.Tiles[k + 1].At) (by simp -implicitDefEqProofs (disch := omega) only [go_sem, ↓reduceIte, deep, TD.rows, immLL_rI, immLL_rB8, immLL_rS, immLL_rBo, immLL_rII, immLL_rIIt, c1]; exact rfl) ?_; simp -implicitDefEqProofs (disch := omega) only [go_sem, ↓reduceIte , c1]; refine call_NB (v_l00In b.Tiles[k + 1].Tile 0 159) (by simp -implicitDefEqProofs (disch := omega) only [go_sem, ↓reduceIte, deep, TD.rows, immLL_rI, immLL_rB8, immLL_rS, immLL_rBo, immLL_rII, immLL_rIIt, c2, d1, w1, hk, e2, List.length_map, Int.toNat_natCast, Int.ofNat_lt, Int.natCast_nonneg, List.getElem?_map, Option.map_some, Placed.td_d]; exact rfl) ?_; simp -implicitDefEqProofs (disch := omega) only [go_sem, ↓reduceIte , c2, d1, w1, hk, e2, List.length_map, Int.toNat_natCast, Int.ofNat_lt, Int.natCast_nonneg, List.getElem?_map, Option.map_some, Placed.td_d]; refine call_B (v_LessPoint_spec b.Tiles[k].At b.Tiles[k + 1].At) (by simp -implicitDefEqProofs (disch := omega) only [go_sem, ↓reduceIte, deep, TD.rows, immLL_rI, immLL_rB8, immLL_rS, immLL_rBo, immLL_rII, immLL_rIIt, c3, wrN]; exact rfl) ?_; simp -implicitDefEqProofs (disch := omega) only [go_sem, ↓reduceIte , c3, wrN]; exact ⟨k + 1 + 1, by omega, ⟨by omega, hok⟩, nleA⟩
    · obtain rfl : i = b.Tiles.length := (by have : ¬ i < b.Tiles.length := (by simpa using hlt); omega); have d6 : decide (b.Tiles.length ≤ 500) = true := decide_eq_true h5; simp -implicitDefEqProofs (disch := omega) only [go_sem, ↓reduceIte , okForm_yes hal, d6]
  · have d5 : decide ((500 : Int) < (b.Tiles.length : Int)) = true := (by rw [decide_eq_true_eq]; omega); have hno : okForm b.Tiles = false := (by unfold okForm; rw [decide_eq_false h5]; rfl); simp -implicitDefEqProofs (disch := omega) only [go_sem, ↓reduceIte , List.length_map, d5, hno]
def code_slices_IndexFunc_impl_Placed_impl_Placed : VCode := (.seq (.ops [
  ⟨(some 4), none, (.asg (.const (.int .i64 0)))⟩]) (.seq (.seq (.ops [
  ⟨(some 6), none, (.mv (.tmp 0))⟩,
  ⟨(some 7), none, (.len (.tmp 6))⟩,
  ⟨(some 8), none, (.mv (.const (.int .i64 0)))⟩]) (.block 0 (.loop (mB 19 523900) (.seq (.ops [
  ⟨(some 9), none, (.bin .lss (.tmp 8) (.tmp 7))⟩]) (.seq (.cond (.tmp 9) .skip (.exit 0)) (.seq (.block 1 (.seq (.ops [
  ⟨(some 10), none, (.mv (.tmp 8))⟩,
  ⟨(some 5), none, (.asg (.tmp 10))⟩]) (.seq (.ops [
  ⟨(some 11), none, (.mv (.tmp 1))⟩,
  ⟨(some 12), none, (.mv (.tmp 0))⟩,
  ⟨(some 13), none, (.mv (.tmp 5))⟩,
  ⟨(some 14), none, (.ia 3 (.tmp 12) (.tmp 13))⟩,
  ⟨(some 15), none, (.load 3 true (.tmp 14))⟩,
  ⟨(some 16), none, (.callvX (.tmp 11) [(.tmp 15)])⟩]) (.cond (.tmp 16) (.seq (.ops [
  ⟨(some 17), none, (.mv (.tmp 5))⟩,
  ⟨(some 4), none, (.asg (.tmp 17))⟩]) .ret) .skip)))) (.ops [
  ⟨(some 18), none, (.bin .add (.tmp 8) (.const (.int .i64 1)))⟩,
  ⟨(some 8), none, (.mv (.tmp 18))⟩]))))))) (.seq (.ops [
  ⟨(some 4), none, (.asg (.const (.int .i64 (-1))))⟩]) .ret)))
theorem law_slices_IndexFunc_impl_Placed_impl_Placed {a0 a1 d : D} (h : code_slices_IndexFunc_impl_Placed_impl_Placed.wp (CT Tryd.prog TabG) (endQ [(.t 4)] d) [a0, a1, .undef, .undef, .undef, .undef, .undef, .undef, .undef, .undef, .undef, .undef, .undef, .undef, .undef, .undef, .undef, .undef, .undef]) : Contract Tryd.prog TabG 100 [a0, a1] d :=
  contract_of (pt := 0) tabG Tryd.func100 (fun us W => by kernel_rfl) (c := Tryd.f100.body.getD .skip) (ms := [(mB 19 523900)]) (ms' := []) (by kernel_rfl) (by kernel_rfl) (by kernel_rfl) h
theorem v_IndexFunc_Placed (f : FuncId) (caps : List D) (hd : CapsOK caps) (xs : List Placed) (p : Placed → Bool) (hc : ∀ x, x ∈ xs → Contract Tryd.prog TabG f (.agg (Placed.td.d false x) :: caps) (.v (.bool (p x)))) (hn : xs.length ≤ 1099511627776) :
    Contract Tryd.prog TabG 100 [.sl false 3 (xs.map (Placed.td.d false)), .fn f [] caps] (.v (.int .i64 (vIdx p xs))) := by
  refine law_slices_IndexFunc_impl_Placed_impl_Placed ?_; unfold code_slices_IndexFunc_impl_Placed_impl_Placed; simp -implicitDefEqProofs (disch := omega) only [go_sem, ↓reduceIte , hd.owny, hd.pr]; refine loop_st (fun i : Nat => [.sl false 3 (xs.map (Placed.td.d false)), .fn f [] caps, .undef, .undef, .undef, .undef, .undef, .v (.int .i64 (xs.map (Placed.td.d false)).length), .v (.int .i64 i), .undef, .undef, .undef, .undef, .undef, .undef, .undef, .undef, .undef, .undef]) (fun i => i ≤ xs.length ∧ ∀ j (hj : j < xs.length), j < i → p xs[j] = false) (fun i => xs.length - i) 0 ?_ ⟨Nat.zero_le _, fun j _ h => absurd h (Nat.not_lt_zero _)⟩ ?_
  · simp -implicitDefEqProofs (disch := omega) only [go_sem, ↓reduceIte , hd.owny, hd.pr]
    (try simp -implicitDefEqProofs only [nleL_cc, nleL_nn, nle_self, nle_boxs, nle_aggs, nle_nils, and_self, and_true, true_and]) <;> repeat' (first | exact nle_of_eq rfl | exact nle_nil | apply And.intro | apply nle_sl | apply nleLL_cons | apply nleL_cons | exact nleL_nil | exact nleLL_nil | apply nle_box | apply nle_agg)
  rintro i ⟨hi, ha⟩; simp -implicitDefEqProofs (disch := omega) only [go_sem, ↓reduceIte , List.length_map, Int.toNat_natCast, Int.ofNat_lt, Int.natCast_nonneg, List.getElem?_map, Option.map_some, hd.owny, hd.pr]; refine cond_split ?_ ?_ <;> intro hlt
  · have hlt : i < xs.length := (by simpa using hlt); have hx := List.getElem?_eq_getElem hlt; simp -implicitDefEqProofs (disch := omega) only [go_sem, ↓reduceIte , List.length_map, Int.toNat_natCast, Int.ofNat_lt, Int.natCast_nonneg, List.getElem?_map, Option.map_some, hlt, hx, Placed.td_d, hd.owny, hd.pr]; have hcx := hc _ (List.getElem_mem hlt); rw [Placed.td_d] at hcx; refine callv_le (f := f) (first := []) (caps := caps) ?_ hcx ?_ (.inl rfl) ?_
    · simp -implicitDefEqProofs (disch := omega) only [go_sem, ↓reduceIte , hd.owny]
    · refine leL_of_eq ?_; simp only [List.nil_append, List.cons_append, List.map_cons, List.map_nil, hd.d8, List.map_append]; simp only [deep, raw, List.getElem?_cons_succ, List.getElem?_cons_zero, List.map_cons, List.map_nil, TD.rows, immLL_rI, immLL_rB8, immLL_rS, immLL_rBo]
    simp -implicitDefEqProofs (disch := omega) only [go_sem, ↓reduceIte , hd.owny, hd.pr]; refine cond_split ?_ ?_ <;> intro hp
    · simp -implicitDefEqProofs (disch := omega) only [go_sem, ↓reduceIte , hd.owny, hd.pr]; rw [vIdx_hit p xs i hlt ha hp]
    · simp -implicitDefEqProofs (disch := omega) only [go_sem, ↓reduceIte , wrN, hd.owny, hd.pr]; refine ⟨i + 1, by omega, ⟨hlt, fun j hj h => ?_⟩, nleA⟩; rcases Nat.lt_or_ge j i with h' | h'
      · exact ha j hj h'
      · have : j = i := (by omega); subst this; exact hp
  · have hlt : ¬ i < xs.length := (by simpa using hlt); simp -implicitDefEqProofs (disch := omega) only [go_sem, ↓reduceIte]; rw [vIdx_miss p xs (fun j hj => ha j hj (by omega))]
def code_slices_ContainsFunc_impl_Placed_impl_Placed : VCode := (.seq (.ops [
  ⟨(some 4), none, (.asg (.const (.bool false)))⟩]) (.seq (.ops [
  ⟨(some 5), none, (.mv (.tmp 0))⟩,
  ⟨(some 6), none, (.mv (.tmp 1))⟩,
  ⟨(some 7), none, (.callX 100 [(.tmp 5), (.tmp 6)])⟩,
  ⟨(some 8), none, (.bin .geq (.tmp 7) (.const (.int .i64 0)))⟩,
  ⟨(some 4), none, (.asg (.tmp 8))⟩]) .ret))
theorem law_slices_ContainsFunc_impl_Placed_impl_Placed {a0 a1 d : D} (h : code_slices_ContainsFunc_impl_Placed_impl_Placed.wp (CT Tryd.prog TabG) (endQ [(.t 4)] d) [a0, a1, .undef, .undef, .undef, .undef, .undef, .undef, .undef]) : Contract Tryd.prog TabG 77 [a0, a1] d :=
  contract_of (pt := 0) tabG Tryd.func77 (fun us W => by kernel_rfl) (c := Tryd.f77.body.getD .skip) (ms := []) (ms' := []) (by kernel_rfl) (by kernel_rfl) (by kernel_rfl) h
theorem v_ContainsFunc_Placed (f : FuncId) (caps : List D) (hd : CapsOK caps) (xs : List Placed) (p : Placed → Bool) (hc : ∀ x, x ∈ xs → Contract Tryd.prog TabG f (.agg (Placed.td.d false x) :: caps) (.v (.bool (p x)))) (hn : xs.length ≤ 1099511627776) :
    Contract Tryd.prog TabG 77 [.sl false 3 (xs.map (Placed.td.d false)), .fn f [] caps] (.v (.bool (xs.any p))) := by
  refine law_slices_ContainsFunc_impl_Placed_impl_Placed ?_; unfold code_slices_ContainsFunc_impl_Placed_impl_Placed; simp -implicitDefEqProofs (disch := omega) only [go_sem, ↓reduceIte , hd.owny, hd.pr]; refine call_le (v_IndexFunc_Placed f caps hd xs p hc hn) ?_ (.inl rfl) ?_
  · refine leL_of_eq ?_; simp only [List.map_cons, List.map_nil, deep, raw, List.getElem?_cons_succ, List.getElem?_cons_zero, TD.rows, immLL_rI, immLL_rB8, immLL_rS, immLL_rBo, hd.owny, hd.pr, hd.d7]
    try rfl
  simp -implicitDefEqProofs (disch := omega) only [go_sem, ↓reduceIte]; exact congrArg Value.bool (vIdx_any p xs)
def code_impl_TileSet_isTile : VCode := (.seq (.ops [
  ⟨(some 2), none, (.box (.tmp 0))⟩,
  ⟨(some 4), none, (.asg (.const (.bool false)))⟩]) (.seq (.ops [
  ⟨(some 5), none, (.mv (.tmp 1))⟩,
  ⟨(some 6), none, (.fa 1 (.tmp 2))⟩,
  ⟨(some 7), none, (.load 1 false (.tmp 6))⟩,
  ⟨(some 8), none, (.len (.tmp 7))⟩,
  ⟨(some 9), none, (.callX 98 [(.tmp 5), (.tmp 8)])⟩,
  ⟨(some 4), none, (.asg (.tmp 9))⟩]) .ret))
theorem law_impl_TileSet_isTile {a0 a1 d : D} (h : code_impl_TileSet_isTile.wp (CT Tryd.prog TabG) (endQ [(.t 4)] d) [a0, a1, .undef, .undef, .undef, .undef, .undef, .undef, .undef, .undef]) : Contract Tryd.prog TabG 79 [a0, a1] d :=
  contract_of (pt := 0) tabG Tryd.func79 (fun us W => by kernel_rfl) (c := Tryd.f79.body.getD .skip) (ms := []) (ms' := []) (by kernel_rfl) (by kernel_rfl) (by kernel_rfl) h
theorem v_isTile (a : TileSet) (i : Int) (hn : a.Tiles.length ≤ 1048576) : Contract Tryd.prog TabG 79 [.agg (TileSet.td.d false a), .v (.int .i64 i)] (.v (.bool (inR 0 ((a.Tiles.length : Int) - 1) i))) := by rw [TileSet.td_d]; refine law_impl_TileSet_isTile ?_; unfold code_impl_TileSet_isTile; simp -implicitDefEqProofs (disch := omega) only [go_sem, ↓reduceIte , List.length_map]; refine call_B (v_isIndex i a.Tiles.length (by omega) (by omega)) (by simp -implicitDefEqProofs (disch := omega) only [go_sem, ↓reduceIte, deep, TD.rows, immLL_rI, immLL_rB8, immLL_rS, immLL_rBo, immLL_rII, immLL_rIIt]; exact rfl) ?_; simp -implicitDefEqProofs (disch := omega) only [go_sem, ↓reduceIte]
def code_spec_l02Index : VCode := (.seq (.ops [
  ⟨(some 4), none, (.asg (.const (.bool false)))⟩]) (.seq (.ops [
  ⟨(some 5), none, (.mv (.tmp 1))⟩,
  ⟨(some 6), none, (.mv (.tmp 0))⟩,
  ⟨(some 7), none, (.nilc (.tmp 6))⟩,
  ⟨(some 8), none, (.fa 1 (.tmp 7))⟩,
  ⟨(some 9), none, (.load 1 false (.tmp 8))⟩,
  ⟨(some 10), none, (.len (.tmp 9))⟩,
  ⟨(some 11), none, (.bin .sub (.tmp 10) (.const (.int .i64 1)))⟩,
  ⟨(some 12), none, (.callX 55 [(.tmp 5), (.const (.int .i64 0)), (.tmp 11)])⟩,
  ⟨(some 4), none, (.asg (.tmp 12))⟩]) .ret))
theorem law_spec_l02Index {a0 a1 d : D} (h : code_spec_l02Index.wp (CT Tryd.prog TabG) (endQ [(.t 4)] d) [a0, a1, .undef, .undef, .undef, .undef, .undef, .undef, .undef, .undef, .undef, .undef, .undef]) : Contract Tryd.prog TabG 68 [a0, a1] d :=
  contract_of (pt := 0) tabG Tryd.func68 (fun us W => by kernel_rfl) (c := Tryd.f68.body.getD .skip) (ms := []) (ms' := []) (by kernel_rfl) (by kernel_rfl) (by kernel_rfl) h
theorem v_l02Index (a : TileSet) (i : Int) (hn : a.Tiles.length ≤ 1048576) : Contract Tryd.prog TabG 68 [.iptr (TileSet.td.d false a) 0, .v (.int .i64 i)] (.v (.bool (inR 0 ((a.Tiles.length : Int) - 1) i))) := by rw [TileSet.td_d]; refine law_spec_l02Index ?_; unfold code_spec_l02Index; have hw : IntKind.i64.wrap ((a.Tiles.length : Int) - 1) = (a.Tiles.length : Int) - 1 := wrI (by omega) (by omega); simp -implicitDefEqProofs (disch := omega) only [go_sem, ↓reduceIte , List.length_map, hw]; refine call_B (v_l00In _ _ _) (by simp -implicitDefEqProofs (disch := omega) only [go_sem, ↓reduceIte, deep, TD.rows, immLL_rI, immLL_rB8, immLL_rS, immLL_rBo, immLL_rII, immLL_rIIt]; exact rfl) ?_; simp -implicitDefEqProofs (disch := omega) only [go_sem, ↓reduceIte]
def okAsm (a : TileSet) (b : Assembly) : Bool := okForm b.Tiles && b.Tiles.all (fun t => inR 0 ((a.Tiles.length : Int) - 1) t.Tile)
def code_spec_l03Ok : VCode := (.seq (.ops [
  ⟨(some 4), none, (.asg (.const (.bool false)))⟩]) (.seq (.seq (.ops [
  ⟨(some 6), none, (.mv (.tmp 1))⟩,
  ⟨(some 7), none, (.callX 67 [(.tmp 6)])⟩,
  ⟨(some 8), none, (.un .not (.tmp 7))⟩]) (.cond (.tmp 8) (.seq (.ops [
  ⟨(some 4), none, (.asg (.const (.bool false)))⟩]) .ret) .skip)) (.seq (.seq (.ops [
  ⟨(some 5), none, (.asg (.const (.int .i64 0)))⟩]) (.block 0 (.loop (mB 29 536870876) (.seq (.seq (.ops [
  ⟨(some 9), none, (.mv (.tmp 5))⟩,
  ⟨(some 10), none, (.mv (.tmp 1))⟩,
  ⟨(some 11), none, (.nilc (.tmp 10))⟩,
  ⟨(some 12), none, (.fa 0 (.tmp 11))⟩,
  ⟨(some 13), none, (.load 1 false (.tmp 12))⟩,
  ⟨(some 14), none, (.len (.tmp 13))⟩,
  ⟨(some 15), none, (.bin .lss (.tmp 9) (.tmp 14))⟩]) (.cond (.tmp 15) .skip (.exit 0))) (.seq (.block 1 (.seq (.ops [
  ⟨(some 18), none, (.mv (.tmp 0))⟩,
  ⟨(some 19), none, (.mv (.tmp 1))⟩,
  ⟨(some 20), none, (.nilc (.tmp 19))⟩,
  ⟨(some 21), none, (.fa 0 (.tmp 20))⟩,
  ⟨(some 22), none, (.load 1 false (.tmp 21))⟩,
  ⟨(some 23), none, (.mv (.tmp 5))⟩,
  ⟨(some 24), none, (.ia 3 (.tmp 22) (.tmp 23))⟩,
  ⟨(some 25), none, (.fa 2 (.tmp 24))⟩,
  ⟨(some 26), none, (.load 1 false (.tmp 25))⟩,
  ⟨(some 27), none, (.callX 68 [(.tmp 18), (.tmp 26)])⟩,
  ⟨(some 28), none, (.un .not (.tmp 27))⟩]) (.cond (.tmp 28) (.seq (.ops [
  ⟨(some 4), none, (.asg (.const (.bool false)))⟩]) .ret) .skip))) (.ops [
  ⟨(some 16), none, (.mv (.tmp 5))⟩,
  ⟨(some 17), none, (.bin .add (.tmp 16) (.const (.int .i64 1)))⟩,
  ⟨(some 5), none, (.asg (.tmp 17))⟩])))))) (.seq (.ops [
  ⟨(some 4), none, (.asg (.const (.bool true)))⟩]) .ret))))
theorem law_spec_l03Ok {a0 a1 d : D} (h : code_spec_l03Ok.wp (CT Tryd.prog TabG) (endQ [(.t 4)] d) [a0, a1, .undef, .undef, .undef, .undef, .undef, .undef, .undef, .undef, .undef, .undef, .undef, .undef, .undef, .undef, .undef, .undef, .undef, .undef, .undef, .undef, .undef, .undef, .undef, .undef, .undef, .undef, .undef]) : Contract Tryd.prog TabG 38 [a0, a1] d :=
  contract_of (pt := 0) tabG Tryd.func38 (fun us W => by kernel_rfl) (c := Tryd.f38.body.getD .skip) (ms := [(mB 29 536870876)]) (ms' := []) (by kernel_rfl) (by kernel_rfl) (by kernel_rfl) h
set_option maxHeartbeats 2000000 in
theorem v_l03Ok (a : TileSet) (b : Assembly) (ha : a.Tiles.length ≤ 1048576) (hn : b.Tiles.length ≤ 1048576) : Contract Tryd.prog TabG 38 [.iptr (TileSet.td.d false a) 0, .iptr (Assembly.td.d false b) 0] (.v (.bool (okAsm a b))) := by
  rw [TileSet.td_d, Assembly.td_d]; refine law_spec_l03Ok ?_; unfold code_spec_l03Ok; simp -implicitDefEqProofs (disch := omega) only [go_sem, ↓reduceIte]; cases h1 : okForm b.Tiles with
  | false => refine call_B (v_l03Form b hn) (by simp -implicitDefEqProofs (disch := omega) only [go_sem, ↓reduceIte, deep, TD.rows, immLL_rI, immLL_rB8, immLL_rS, immLL_rBo, immLL_rII, immLL_rIIt, h1, okAsm]; exact rfl) ?_; simp -implicitDefEqProofs (disch := omega) only [go_sem, ↓reduceIte , h1, okAsm]
  | true =>
  refine call_B (v_l03Form b hn) (by simp -implicitDefEqProofs (disch := omega) only [go_sem, ↓reduceIte, deep, TD.rows, immLL_rI, immLL_rB8, immLL_rS, immLL_rBo, immLL_rII, immLL_rIIt, h1]; exact rfl) ?_; simp -implicitDefEqProofs (disch := omega) only [go_sem, ↓reduceIte , h1]; refine loop_ov (by simp -implicitDefEqProofs (disch := omega) only [go_sem, ↓reduceIte]; exact rfl) (fun i : Nat => [(5, .v (.int .i64 (i : Nat)))]) (fun _ => by simp only [ovr_nil, ovr_cons, List.set_cons_zero, List.set_cons_succ]; exact rfl) (fun i : Nat => i ≤ b.Tiles.length ∧ (b.Tiles.take i).all (fun t => inR 0 ((a.Tiles.length : Int) - 1) t.Tile) = true) (fun i : Nat => b.Tiles.length - i) (0) (nleA) (?_) ?_
  · exact ⟨Nat.zero_le _, rfl⟩
  rintro i ⟨hi, hal⟩; simp -implicitDefEqProofs (disch := omega) only [go_sem, ↓reduceIte , List.length_map, Int.toNat_natCast, Int.ofNat_lt, Int.natCast_nonneg, List.getElem?_map, Option.map_some]; refine cond_split ?_ ?_ <;> intro hlt
  · have hlt : i < b.Tiles.length := (by simpa using hlt); have e1 := List.getElem?_eq_getElem hlt; simp -implicitDefEqProofs (disch := omega) only [go_sem, ↓reduceIte , List.length_map, Int.toNat_natCast, Int.ofNat_lt, Int.natCast_nonneg, List.getElem?_map, Option.map_some, hlt, e1, Placed.td_d]; cases c1 : inR 0 ((a.Tiles.length : Int) - 1) b.Tiles[i].Tile with
    | false => have hno : b.Tiles.all (fun t => inR 0 ((a.Tiles.length : Int) - 1) t.Tile) = false := (by rw [List.all_eq_false]; exact ⟨_, List.getElem_mem hlt, by simp [c1]⟩); refine call_B (v_l02Index a b.Tiles[i].Tile ha) (by simp -implicitDefEqProofs (disch := omega) only [go_sem, ↓reduceIte, deep, TD.rows, immLL_rI, immLL_rB8, immLL_rS, immLL_rBo, immLL_rII, immLL_rIIt, c1, okAsm, hno]; exact rfl) ?_; simp -implicitDefEqProofs (disch := omega) only [go_sem, ↓reduceIte , c1, okAsm, hno]
    | true => refine call_B (v_l02Index a b.Tiles[i].Tile ha) (by simp -implicitDefEqProofs (disch := omega) only [go_sem, ↓reduceIte, deep, TD.rows, immLL_rI, immLL_rB8, immLL_rS, immLL_rBo, immLL_rII, immLL_rIIt, c1, wrN]; exact rfl) ?_; simp -implicitDefEqProofs (disch := omega) only [go_sem, ↓reduceIte , c1, wrN]; refine ⟨i + 1, by omega, ⟨hlt, ?_⟩, nleA⟩; rw [List.take_succ_eq_append_getElem hlt, List.all_append, hal]; simp [c1]
  · obtain rfl : i = b.Tiles.length := (by have : ¬ i < b.Tiles.length := (by simpa using hlt); omega); rw [List.take_length] at hal; simp -implicitDefEqProofs (disch := omega) only [go_sem, ↓reduceIte , okAsm, h1, hal]
def code_impl_ValidAssembly_1 : VCode := (.seq (.ops [
  ⟨(some 2), none, (.box (.tmp 0))⟩,
  ⟨(some 3), none, (.asg (.const (.bool false)))⟩]) (.seq (.ops [
  ⟨(some 4), none, (.load 2 true (.tmp 1))⟩,
  ⟨(some 5), none, (.fa 2 (.tmp 2))⟩,
  ⟨(some 6), none, (.load 1 false (.tmp 5))⟩,
  ⟨(some 7), none, (.callX 79 [(.tmp 4), (.tmp 6)])⟩,
  ⟨(some 8), none, (.un .not (.tmp 7))⟩,
  ⟨(some 3), none, (.asg (.tmp 8))⟩]) .ret))
theorem law_impl_ValidAssembly_1 {a0 a1 d : D} (h : code_impl_ValidAssembly_1.wp (CT Tryd.prog TabG) (endQ [(.t 3)] d) [a0, a1, .undef, .undef, .undef, .undef, .undef, .undef, .undef]) : Contract Tryd.prog TabG 78 [a0, a1] d :=
  contract_of (pt := 0) tabG Tryd.func78 (fun us W => by kernel_rfl) (c := Tryd.f78.body.getD .skip) (ms := []) (ms' := []) (by kernel_rfl) (by kernel_rfl) (by kernel_rfl) h
def code_impl_ValidAssembly : VCode := (.seq (.ops [
  ⟨(some 2), none, (.box (.tmp 0))⟩,
  ⟨(some 3), none, (.box (.tmp 1))⟩,
  ⟨(some 4), none, (.asg (.const (.bool false)))⟩]) (.seq (.ops [
  ⟨(some 5), none, (.load 2 true (.tmp 2))⟩,
  ⟨(some 6), none, (.callX 75 [(.tmp 5)])⟩,
  ⟨(some 7), none, (.mv (.tmp 6))⟩,
  ⟨(some 8), (some (7, true)), (.load 1 true (.tmp 3))⟩,
  ⟨(some 9), (some (7, true)), (.callX 76 [(.tmp 8)])⟩,
  ⟨(some 10), none, (.pick (.tmp 7) (.tmp 9) (.const (.bool false)))⟩,
  ⟨(some 11), none, (.mv (.tmp 10))⟩,
  ⟨(some 12), (some (11, true)), (.fa 0 (.tmp 3))⟩,
  ⟨(some 13), (some (11, true)), (.load 1 false (.tmp 12))⟩,
  ⟨(some 14), (some (11, true)), (.mkf 78 [] [(.tmp 2)])⟩,
  ⟨(some 15), (some (11, true)), (.callX 77 [(.tmp 13), (.tmp 14)])⟩,
  ⟨(some 16), (some (11, true)), (.un .not (.tmp 15))⟩,
  ⟨(some 17), none, (.pick (.tmp 11) (.tmp 16) (.const (.bool false)))⟩,
  ⟨(some 4), none, (.asg (.tmp 17))⟩]) .ret))
theorem law_impl_ValidAssembly {a0 a1 d : D} (h : code_impl_ValidAssembly.wp (CT Tryd.prog TabG) (endQ [(.t 4)] d) [a0, a1, .undef, .undef, .undef, .undef, .undef, .undef, .undef, .undef, .undef, .undef, .undef, .undef, .undef, .undef, .undef, .undef]) : Contract Tryd.prog TabG 46 [a0, a1] d :=
  contract_of (pt := 0) tabG Tryd.func46 (fun us W => by kernel_rfl) (c := Tryd.f46.body.getD .skip) (ms := []) (ms' := []) (by kernel_rfl) (by kernel_rfl) (by kernel_rfl) h
theorem v_ValidAssembly1 (a : TileSet) (t : Placed) (ha : a.Tiles.length ≤ 1048576) : Contract Tryd.prog TabG 78 [.agg (Placed.td.d false t), .iptr (TileSet.td.d false a) 0] (.v (.bool (!inR 0 ((a.Tiles.length : Int) - 1) t.Tile))) := by rw [Placed.td_d, TileSet.td_d]; refine law_impl_ValidAssembly_1 ?_; unfold code_impl_ValidAssembly_1; simp -implicitDefEqProofs (disch := omega) only [go_sem, ↓reduceIte]; refine call_B (v_isTile a t.Tile ha) (by simp -implicitDefEqProofs (disch := omega) only [go_sem, ↓reduceIte, deep, TD.rows, immLL_rI, immLL_rB8, immLL_rS, immLL_rBo, immLL_rII, immLL_rIIt]; exact rfl) ?_; simp -implicitDefEqProofs (disch := omega) only [go_sem, ↓reduceIte]
set_option maxHeartbeats 2000000 in
theorem v_ValidAssembly (a : TileSet) (b : Assembly) (ha : setB a) (hn : b.Tiles.length ≤ 1048576) : Contract Tryd.prog TabG 46 [.agg (TileSet.td.d false a), .agg (Assembly.td.d false b)] (.v (.bool (okSet a && okAsm a b))) := by
  have hat := ha.t; rw [TileSet.td_d, Assembly.td_d]; refine law_impl_ValidAssembly ?_; unfold code_impl_ValidAssembly; simp -implicitDefEqProofs (disch := omega) only [go_sem, ↓reduceIte]; cases h1 : okSet a with
  | false => refine call_B (v_ValidSet a ha) (by simp -implicitDefEqProofs (disch := omega) only [go_sem, ↓reduceIte, deep, TD.rows, immLL_rI, immLL_rB8, immLL_rS, immLL_rBo, immLL_rII, immLL_rIIt, h1]; exact rfl) ?_; simp -implicitDefEqProofs (disch := omega) only [go_sem, ↓reduceIte , h1]
  | true =>
  cases h2 : okForm b.Tiles with
  | false => refine call_B (v_ValidSet a ha) (by simp -implicitDefEqProofs (disch := omega) only [go_sem, ↓reduceIte, deep, TD.rows, immLL_rI, immLL_rB8, immLL_rS, immLL_rBo, immLL_rII, immLL_rIIt, h1]; exact rfl) ?_; simp -implicitDefEqProofs (disch := omega) only [go_sem, ↓reduceIte , h1]; refine call_B (v_hasForm b hn) (by simp -implicitDefEqProofs (disch := omega) only [go_sem, ↓reduceIte, deep, TD.rows, immLL_rI, immLL_rB8, immLL_rS, immLL_rBo, immLL_rII, immLL_rIIt, h2, okAsm]; exact rfl) ?_; simp -implicitDefEqProofs (disch := omega) only [go_sem, ↓reduceIte , h2, okAsm]
  | true => refine call_B (v_ValidSet a ha) (by simp -implicitDefEqProofs (disch := omega) only [go_sem, ↓reduceIte, deep, TD.rows, immLL_rI, immLL_rB8, immLL_rS, immLL_rBo, immLL_rII, immLL_rIIt, h1]; exact rfl) ?_; simp -implicitDefEqProofs (disch := omega) only [go_sem, ↓reduceIte , h1]; refine call_B (v_hasForm b hn) (by simp -implicitDefEqProofs (disch := omega) only [go_sem, ↓reduceIte, deep, TD.rows, immLL_rI, immLL_rB8, immLL_rS, immLL_rBo, immLL_rII, immLL_rIIt, h2]; exact rfl) ?_; simp -implicitDefEqProofs (disch := omega) only [go_sem, ↓reduceIte , h2]; refine call_B (v_ContainsFunc_Placed _ [.iptr (TileSet.td.d false a) 0] ⟨rfl, fun _ => rfl, fun _ => rfl, fun _ => rfl⟩ b.Tiles (fun t => !inR 0 ((a.Tiles.length : Int) - 1) t.Tile) (fun x _ => v_ValidAssembly1 a x hat) (by omega)) (by simp -implicitDefEqProofs (disch := omega) only [go_sem, ↓reduceIte, deep, TD.rows, immLL_rI, immLL_rB8, immLL_rS, immLL_rBo, immLL_rII, immLL_rIIt, any_not, Bool.not_not, okAsm, h2]; exact rfl) ?_; simp -implicitDefEqProofs (disch := omega) only [go_sem, ↓reduceIte , any_not, Bool.not_not, okAsm, h2]
def ptsOf (ps : List Placed) : List Point := ps.map (·.At)
def mnF (f : Point → Int) (x : Int) (ps : List Point) : Int := ps.foldl (fun a p => min a (f p)) x
def mxF (f : Point → Int) (x : Int) (ps : List Point) : Int := ps.foldl (fun a p => max a (f p)) x
theorem mnF_next (f : Point → Int) (x : Int) {ps : List Point} {i : Nat} (h : i < ps.length) : mnF f x (ps.take (i + 1)) = min (mnF f x (ps.take i)) (f ps[i]) := by unfold mnF; rw [List.take_succ_eq_append_getElem h, List.foldl_append]; rfl
theorem mxF_next (f : Point → Int) (x : Int) {ps : List Point} {i : Nat} (h : i < ps.length) : mxF f x (ps.take (i + 1)) = max (mxF f x (ps.take i)) (f ps[i]) := by unfold mxF; rw [List.take_succ_eq_append_getElem h, List.foldl_append]; rfl
theorem mnE (a b : Int) : (if b < a then b else a) = min a b := by omega
theorem mxE (a b : Int) : (if b > a then b else a) = max a b := by omega
theorem mnF_in {f : Point → Int} : ∀ (ps : List Point) (x : Int), (-60 ≤ x ∧ x ≤ 60) → (∀ p, p ∈ ps → -60 ≤ f p ∧ f p ≤ 60) → -60 ≤ mnF f x ps ∧ mnF f x ps ≤ x
  | [], x, h, _ => ⟨h.1, Int.le_refl _⟩
  | p :: ps, x, h, hp => by have h1 := hp p (by simp); have := mnF_in ps (min x (f p)) (by omega) (fun q hq => hp q (by simp [hq])); show -60 ≤ mnF f (min x (f p)) ps ∧ mnF f (min x (f p)) ps ≤ x; omega
theorem mxF_in {f : Point → Int} : ∀ (ps : List Point) (x : Int), (-60 ≤ x ∧ x ≤ 60) → (∀ p, p ∈ ps → -60 ≤ f p ∧ f p ≤ 60) → x ≤ mxF f x ps ∧ mxF f x ps ≤ 60
  | [], x, h, _ => ⟨Int.le_refl _, h.2⟩
  | p :: ps, x, h, hp => by have h1 := hp p (by simp); have := mxF_in ps (max x (f p)) (by omega) (fun q hq => hp q (by simp [hq])); show x ≤ mxF f (max x (f p)) ps ∧ mxF f (max x (f p)) ps ≤ 60; omega
def loP (ps : List Point) : Point := match ps with
  | [] => ⟨0, 0⟩
  | p :: _ => ⟨mnF (·.X) p.X ps, mnF (·.Y) p.Y ps⟩
def hiP (ps : List Point) : Point := match ps with
  | [] => ⟨0, 0⟩
  | p :: _ => ⟨mxF (·.X) p.X ps, mxF (·.Y) p.Y ps⟩
theorem form_pts {ps : List Placed} (h : okForm ps = true) : ∀ p, p ∈ ptsOf ps → (-60 ≤ p.X ∧ p.X ≤ 60) ∧ -60 ≤ p.Y ∧ p.Y ≤ 60 := by intro p hp; obtain ⟨t, ht, rfl⟩ := List.mem_map.1 hp; obtain ⟨i, hi, rfl⟩ := List.getElem_of_mem ht; unfold okForm at h; simp only [Bool.and_eq_true] at h; have h1 := h.2; rw [List.all_eq_true] at h1; have h2 := h1 i (by simpa using hi); unfold okP at h2; rw [List.getElem?_eq_getElem hi] at h2; simp only [Bool.and_eq_true] at h2; have h3 := h2.1; unfold ptOK at h3; simp only [Bool.and_eq_true, inR_iff] at h3; exact h3
theorem area_facts {ps : List Point} (h : ∀ p, p ∈ ps → (-60 ≤ p.X ∧ p.X ≤ 60) ∧ -60 ≤ p.Y ∧ p.Y ≤ 60) (h0 : 0 < ps.length) : (0 ≤ (hiP ps).X - (loP ps).X ∧ (hiP ps).X - (loP ps).X ≤ 120) ∧ (0 ≤ (hiP ps).Y - (loP ps).Y ∧ (hiP ps).Y - (loP ps).Y ≤ 120) := by
  cases ps with
  | nil => simp at h0
  | cons p ps => have hp := h p (by simp); have a1 := mnF_in (f := (·.X)) (p :: ps) p.X hp.1 (fun q hq => (h q hq).1); have a2 := mnF_in (f := (·.Y)) (p :: ps) p.Y hp.2 (fun q hq => (h q hq).2); have a3 := mxF_in (f := (·.X)) (p :: ps) p.X hp.1 (fun q hq => (h q hq).1); have a4 := mxF_in (f := (·.Y)) (p :: ps) p.Y hp.2 (fun q hq => (h q hq).2); simp only [hiP, loP]; omega
def code_impl_Assembly_points : VCode := (.seq (.ops [
  ⟨(some 1), none, (.box (.tmp 0))⟩,
  ⟨(some 2), none, (.asg (.const (.slice none 0 0)))⟩]) (.seq (.ops [
  ⟨(some 3), none, (.asg (.const (.slice none 0 0)))⟩]) (.seq (.seq (.ops [
  ⟨(some 6), none, (.fa 0 (.tmp 1))⟩,
  ⟨(some 7), none, (.load 1 false (.tmp 6))⟩,
  ⟨(some 8), none, (.len (.tmp 7))⟩,
  ⟨(some 9), none, (.mv (.const (.int .i64 0)))⟩]) (.block 0 (.loop (mB 20 842805) (.seq (.ops [
  ⟨(some 10), none, (.bin .lss (.tmp 9) (.tmp 8))⟩]) (.seq (.cond (.tmp 10) .skip (.exit 0)) (.seq (.block 1 (.seq (.ops [
  ⟨(some 11), none, (.ia 3 (.tmp 7) (.tmp 9))⟩,
  ⟨(some 12), none, (.load 3 true (.tmp 11))⟩,
  ⟨(some 5), none, (.alloc [(.int .i64 0), (.int .i64 0), (.int .i64 0)])⟩,
  ⟨none, none, (.store 3 (.tmp 5) (.tmp 12))⟩]) (.ops [
  ⟨(some 13), none, (.mv (.tmp 3))⟩,
  ⟨(some 14), none, (.fa 0 (.tmp 5))⟩,
  ⟨(some 15), none, (.load 2 true (.tmp 14))⟩,
  ⟨(some 16), none, (.bsl 2 [(.tmp 15)])⟩,
  ⟨(some 17), none, (.app 2 16 (.tmp 13) (.tmp 16))⟩,
  ⟨(some 3), none, (.asg (.tmp 17))⟩]))) (.ops [
  ⟨(some 18), none, (.bin .add (.tmp 9) (.const (.int .i64 1)))⟩,
  ⟨(some 9), none, (.mv (.tmp 18))⟩]))))))) (.seq (.ops [
  ⟨(some 19), none, (.mv (.tmp 3))⟩,
  ⟨(some 2), none, (.asg (.tmp 19))⟩]) .ret))))
theorem law_impl_Assembly_points {a0 d : D} (h : code_impl_Assembly_points.wp (CT Tryd.prog TabG) (endQ [(.t 2)] d) [a0, .undef, .undef, .undef, .undef, .undef, .undef, .undef, .undef, .undef, .undef, .undef, .undef, .undef, .undef, .undef, .undef, .undef, .undef, .undef]) : Contract Tryd.prog TabG 48 [a0] d :=
  contract_of (pt := 0) tabG Tryd.func48 (fun us W => by kernel_rfl) (c := Tryd.f48.body.getD .skip) (ms := [(mB 20 842805)]) (ms' := []) (by kernel_rfl) (by kernel_rfl) (by kernel_rfl) h
theorem v_points (b : Assembly) (hn : b.Tiles.length ≤ 1048576) : Contract Tryd.prog TabG 48 [.agg (Assembly.td.d false b)] (.sl true 2 ((ptsOf b.Tiles).map (Point.td.d true))) := by
  rw [Assembly.td_d]; refine law_impl_Assembly_points ?_; unfold code_impl_Assembly_points; simp -implicitDefEqProofs (disch := omega) only [go_sem, ↓reduceIte , List.length_map]; refine loop_ov (by simp -implicitDefEqProofs (disch := omega) only [go_sem, ↓reduceIte]; exact rfl) (fun i : Nat => [(9, .v (.int .i64 (i : Nat))), (3, .sl true 2 ((ptsOf (b.Tiles.take i)).map (Point.td.d true)))]) (fun _ => by simp only [ovr_nil, ovr_cons, List.set_cons_zero, List.set_cons_succ]; exact rfl) (fun i : Nat => i ≤ b.Tiles.length) (fun i : Nat => b.Tiles.length - i) (0) (nleA) (Nat.zero_le _) ?_; intro i hi; simp -implicitDefEqProofs (disch := omega) only [go_sem, ↓reduceIte , List.length_map, Int.toNat_natCast, Int.ofNat_lt, Int.natCast_nonneg, List.getElem?_map, Option.map_some]; refine cond_split ?_ ?_ <;> intro hlt
  · have hlt : i < b.Tiles.length := (by simpa using hlt); have e1 := List.getElem?_eq_getElem hlt; have hnx : (ptsOf (b.Tiles.take i)).map (Point.td.d true) ++ [[.v (.int .i64 b.Tiles[i].At.X), .v (.int .i64 b.Tiles[i].At.Y)]] = (ptsOf (b.Tiles.take (i + 1))).map (Point.td.d true) := (by unfold ptsOf; rw [List.take_succ_eq_append_getElem hlt, List.map_append, List.map_append]; rfl); have hl : (ptsOf (b.Tiles.take i)).length ≤ 1048576 := (by unfold ptsOf; rw [List.length_map, List.length_take]; omega); simp -implicitDefEqProofs (disch := omega) only [go_sem, ↓reduceIte , List.length_map, Int.toNat_natCast, Int.ofNat_lt, Int.natCast_nonneg, List.getElem?_map, Option.map_some, hlt, e1, Placed.td_d, wrN]; refine ⟨by omega, i + 1, by omega, hlt, ?_⟩; rw [← hnx]
    (try simp -implicitDefEqProofs only [nleL_cc, nleL_nn, nle_self, nle_boxs, nle_aggs, nle_nils, and_self, and_true, true_and]) <;> repeat' (first | exact nle_of_eq rfl | exact nle_nil | apply And.intro | apply nle_sl | apply nleLL_cons | apply nleL_cons | exact nleL_nil | exact nleLL_nil | apply nle_box | apply nle_agg)
  · obtain rfl : i = b.Tiles.length := (by have : ¬ i < b.Tiles.length := (by simpa using hlt); omega); simp -implicitDefEqProofs (disch := omega) only [go_sem, ↓reduceIte , List.take_length]
def code_spec_l03Points : VCode := (.seq (.ops [
  ⟨(some 2), none, (.asg (.const (.slice none 0 0)))⟩]) (.seq (.ops [
  ⟨(some 5), none, (.bsl 2 [])⟩,
  ⟨(some 3), none, (.asg (.tmp 5))⟩]) (.seq (.seq (.ops [
  ⟨(some 4), none, (.asg (.const (.int .i64 0)))⟩]) (.block 0 (.loop (mB 27 83853254) (.seq (.seq (.ops [
  ⟨(some 6), none, (.mv (.tmp 4))⟩,
  ⟨(some 7), none, (.mv (.tmp 0))⟩,
  ⟨(some 8), none, (.nilc (.tmp 7))⟩,
  ⟨(some 9), none, (.fa 0 (.tmp 8))⟩,
  ⟨(some 10), none, (.load 1 false (.tmp 9))⟩,
  ⟨(some 11), none, (.len (.tmp 10))⟩,
  ⟨(some 12), none, (.bin .lss (.tmp 6) (.tmp 11))⟩]) (.cond (.tmp 12) .skip (.exit 0))) (.seq (.block 1 (.ops [
  ⟨(some 15), none, (.mv (.tmp 3))⟩,
  ⟨(some 16), none, (.mv (.tmp 0))⟩,
  ⟨(some 17), none, (.nilc (.tmp 16))⟩,
  ⟨(some 18), none, (.fa 0 (.tmp 17))⟩,
  ⟨(some 19), none, (.load 1 false (.tmp 18))⟩,
  ⟨(some 20), none, (.mv (.tmp 4))⟩,
  ⟨(some 21), none, (.ia 3 (.tmp 19) (.tmp 20))⟩,
  ⟨(some 22), none, (.fa 0 (.tmp 21))⟩,
  ⟨(some 23), none, (.load 2 true (.tmp 22))⟩,
  ⟨(some 24), none, (.bsl 2 [(.tmp 23)])⟩,
  ⟨(some 25), none, (.app 2 16 (.tmp 15) (.tmp 24))⟩,
  ⟨(some 3), none, (.asg (.tmp 25))⟩])) (.ops [
  ⟨(some 13), none, (.mv (.tmp 4))⟩,
  ⟨(some 14), none, (.bin .add (.tmp 13) (.const (.int .i64 1)))⟩,
  ⟨(some 4), none, (.asg (.tmp 14))⟩])))))) (.seq (.ops [
  ⟨(some 26), none, (.mv (.tmp 3))⟩,
  ⟨(some 2), none, (.asg (.tmp 26))⟩]) .ret))))
theorem law_spec_l03Points {a0 d : D} (h : code_spec_l03Points.wp (CT Tryd.prog TabG) (endQ [(.t 2)] d) [a0, .undef, .undef, .undef, .undef, .undef, .undef, .undef, .undef, .undef, .undef, .undef, .undef, .undef, .undef, .undef, .undef, .undef, .undef, .undef, .undef, .undef, .undef, .undef, .undef, .undef, .undef]) : Contract Tryd.prog TabG 40 [a0] d :=
  contract_of (pt := 0) tabG Tryd.func40 (fun us W => by kernel_rfl) (c := Tryd.f40.body.getD .skip) (ms := [(mB 27 83853254)]) (ms' := []) (by kernel_rfl) (by kernel_rfl) (by kernel_rfl) h
theorem v_l03Points (b : Assembly) (hn : b.Tiles.length ≤ 1048576) : Contract Tryd.prog TabG 40 [.iptr (Assembly.td.d false b) 0] (.sl true 2 ((ptsOf b.Tiles).map (Point.td.d true))) := by
  rw [Assembly.td_d]; refine law_spec_l03Points ?_; unfold code_spec_l03Points; simp -implicitDefEqProofs (disch := omega) only [go_sem, ↓reduceIte , List.length_map]; refine loop_ov (by simp -implicitDefEqProofs (disch := omega) only [go_sem, ↓reduceIte]; exact rfl) (fun i : Nat => [(4, .v (.int .i64 (i : Nat))), (3, .sl true 2 ((ptsOf (b.Tiles.take i)).map (Point.td.d true)))]) (fun _ => by simp only [ovr_nil, ovr_cons, List.set_cons_zero, List.set_cons_succ]; exact rfl) (fun i : Nat => i ≤ b.Tiles.length) (fun i : Nat => b.Tiles.length - i) (0) (nleA) (Nat.zero_le _) ?_; intro i hi; simp -implicitDefEqProofs (disch := omega) only [go_sem, ↓reduceIte , List.length_map, Int.toNat_natCast, Int.ofNat_lt, Int.natCast_nonneg, List.getElem?_map, Option.map_some]; refine cond_split ?_ ?_ <;> intro hlt
  · have hlt : i < b.Tiles.length := (by simpa using hlt); have e1 := List.getElem?_eq_getElem hlt; have hnx : (ptsOf (b.Tiles.take i)).map (Point.td.d true) ++ [[.v (.int .i64 b.Tiles[i].At.X), .v (.int .i64 b.Tiles[i].At.Y)]] = (ptsOf (b.Tiles.take (i + 1))).map (Point.td.d true) := (by unfold ptsOf; rw [List.take_succ_eq_append_getElem hlt, List.map_append, List.map_append]; rfl); have hl : (ptsOf (b.Tiles.take i)).length ≤ 1048576 := (by unfold ptsOf; rw [List.length_map, List.length_take]; omega); simp -implicitDefEqProofs (disch := omega) only [go_sem, ↓reduceIte , List.length_map, Int.toNat_natCast, Int.ofNat_lt, Int.natCast_nonneg, List.getElem?_map, Option.map_some, hlt, e1, Placed.td_d, wrN]; refine ⟨by omega, i + 1, by omega, hlt, ?_⟩; rw [← hnx]
    (try simp -implicitDefEqProofs only [nleL_cc, nleL_nn, nle_self, nle_boxs, nle_aggs, nle_nils, and_self, and_true, true_and]) <;> repeat' (first | exact nle_of_eq rfl | exact nle_nil | apply And.intro | apply nle_sl | apply nleLL_cons | apply nleL_cons | exact nleL_nil | exact nleLL_nil | apply nle_box | apply nle_agg)
  · obtain rfl : i = b.Tiles.length := (by have : ¬ i < b.Tiles.length := (by simpa using hlt); omega); simp -implicitDefEqProofs (disch := omega) only [go_sem, ↓reduceIte , List.take_length]
theorem lo_hd {ps : List Point} (h : 0 < ps.length) : loP ps = ⟨mnF (·.X) ps[0].X ps, mnF (·.Y) ps[0].Y ps⟩ := by
  cases ps with
  | nil => simp at h
  | cons p ps => rfl
theorem hi_hd {ps : List Point} (h : 0 < ps.length) : hiP ps = ⟨mxF (·.X) ps[0].X ps, mxF (·.Y) ps[0].Y ps⟩ := by
  cases ps with
  | nil => simp at h
  | cons p ps => rfl
def code_impl_bounds : VCode := (.seq (.ops [
  ⟨(some 2), none, (.alloc [(.int .i64 0), (.int .i64 0)])⟩,
  ⟨(some 3), none, (.alloc [(.int .i64 0), (.int .i64 0)])⟩]) (.seq (.drawB [] [(4, 2)] (mB 14 16176) [false, false, false, false, false, false, false, false, false, false, true] [⟨0, (mB 14 16176), [], ⟨(some 8), none, (.mv (.tmp 0))⟩⟩, ⟨1, (mB 14 15920), [], ⟨(some 9), none, (.ia 2 (.tmp 8) (.const (.int .i64 0)))⟩⟩, ⟨2, (mB 14 15408), [], ⟨(some 10), none, (.load 2 true (.tmp 9))⟩⟩, ⟨3, (mB 14 16176), [], ⟨(some 11), none, (.mv (.tmp 0))⟩⟩, ⟨4, (mB 14 14128), [], ⟨(some 12), none, (.ia 2 (.tmp 11) (.const (.int .i64 0)))⟩⟩, ⟨5, (mB 14 10032), [], ⟨(some 13), none, (.load 2 true (.tmp 12))⟩⟩, ⟨6, (mB 14 16176), [], ⟨none, none, (.mv (.const (.tuple ⟨[]⟩)))⟩⟩, ⟨7, (mB 14 16176), [], ⟨(some 5), none, (.alloc [(.int .i64 0), (.int .i64 0)])⟩⟩, ⟨8, (mB 14 14352), [false, false, false, false, false, false, false, false, false, false, true], ⟨(some 4), none, (.box (.tmp 10))⟩⟩] [⟨none, none, (.store 2 (.tmp 5) (.tmp 13))⟩]) (.seq (.seq (.ops [
  ⟨(some 14), none, (.mv (.tmp 0))⟩,
  ⟨(some 15), none, (.len (.tmp 14))⟩,
  ⟨(some 16), none, (.mv (.const (.int .i64 0)))⟩]) (.block 0 (.loop (mB 45 35184371974083) (.seq (.ops [
  ⟨(some 17), none, (.bin .lss (.tmp 16) (.tmp 15))⟩]) (.seq (.cond (.tmp 17) .skip (.exit 0)) (.seq (.block 1 (.seq (.ops [
  ⟨(some 18), none, (.ia 2 (.tmp 14) (.tmp 16))⟩,
  ⟨(some 19), none, (.load 2 true (.tmp 18))⟩,
  ⟨(some 7), none, (.alloc [(.int .i64 0), (.int .i64 0)])⟩,
  ⟨none, none, (.store 2 (.tmp 7) (.tmp 19))⟩]) (.seq (.ops [
  ⟨(some 20), none, (.fa 0 (.tmp 4))⟩,
  ⟨(some 21), none, (.load 1 false (.tmp 20))⟩,
  ⟨(some 22), none, (.fa 0 (.tmp 7))⟩,
  ⟨(some 23), none, (.load 1 false (.tmp 22))⟩,
  ⟨(some 24), none, (.mm false [(.tmp 21), (.tmp 23)])⟩,
  ⟨(some 25), none, (.fa 1 (.tmp 4))⟩,
  ⟨(some 26), none, (.load 1 false (.tmp 25))⟩,
  ⟨(some 27), none, (.fa 1 (.tmp 7))⟩,
  ⟨(some 28), none, (.load 1 false (.tmp 27))⟩,
  ⟨(some 29), none, (.mm false [(.tmp 26), (.tmp 28)])⟩,
  ⟨(some 30), none, (.build [(.int .i64 0), (.int .i64 0)] [(0, 1, (.tmp 24)), (1, 1, (.tmp 29))])⟩,
  ⟨none, none, (.store 2 (.tmp 4) (.tmp 30))⟩]) (.ops [
  ⟨(some 31), none, (.fa 0 (.tmp 5))⟩,
  ⟨(some 32), none, (.load 1 false (.tmp 31))⟩,
  ⟨(some 33), none, (.fa 0 (.tmp 7))⟩,
  ⟨(some 34), none, (.load 1 false (.tmp 33))⟩,
  ⟨(some 35), none, (.mm true [(.tmp 32), (.tmp 34)])⟩,
  ⟨(some 36), none, (.fa 1 (.tmp 5))⟩,
  ⟨(some 37), none, (.load 1 false (.tmp 36))⟩,
  ⟨(some 38), none, (.fa 1 (.tmp 7))⟩,
  ⟨(some 39), none, (.load 1 false (.tmp 38))⟩,
  ⟨(some 40), none, (.mm true [(.tmp 37), (.tmp 39)])⟩,
  ⟨(some 41), none, (.build [(.int .i64 0), (.int .i64 0)] [(0, 1, (.tmp 35)), (1, 1, (.tmp 40))])⟩,
  ⟨none, none, (.store 2 (.tmp 5) (.tmp 41))⟩])))) (.ops [
  ⟨(some 42), none, (.bin .add (.tmp 16) (.const (.int .i64 1)))⟩,
  ⟨(some 16), none, (.mv (.tmp 42))⟩]))))))) (.seq (.drawB [(2, 2)] [(2, 2)] (mB 45 26388279066628) (mB 44 8796093022208) [⟨0, (mB 45 26388279066628), [], ⟨(some 43), none, (.load 2 true (.tmp 4))⟩⟩, ⟨1, (mB 45 26388279066628), [], ⟨(some 44), none, (.load 2 true (.tmp 5))⟩⟩, ⟨2, (mB 45 17592186044420), (mB 44 8796093022208), ⟨(some 2), none, (.box (.tmp 43))⟩⟩] [⟨none, none, (.store 2 (.tmp 3) (.tmp 44))⟩]) .ret))))
theorem law_impl_bounds {a0 d : D} (h : code_impl_bounds.wp (CT Tryd.prog TabG) (endQ [(.c 2 2 true), (.c 3 2 true)] d) [a0, .undef, .undef, .undef, .undef, .undef, .undef, .undef, .undef, .undef, .undef, .undef, .undef, .undef, .undef, .undef, .undef, .undef, .undef, .undef, .undef, .undef, .undef, .undef, .undef, .undef, .undef, .undef, .undef, .undef, .undef, .undef, .undef, .undef, .undef, .undef, .undef, .undef, .undef, .undef, .undef, .undef, .undef, .undef, .undef]) : Contract Tryd.prog TabG 47 [a0] d :=
  contract_of (pt := 0) tabG Tryd.func47 (fun us W => by kernel_rfl) (c := Tryd.f47.body.getD .skip) (ms := [(mB 45 35184371974083)]) (ms' := []) (by kernel_rfl) (by kernel_rfl) (by kernel_rfl) h
set_option maxHeartbeats 2000000 in
theorem v_bounds (ps : List Point) (hn : ps.length ≤ 1048576) (h0 : 0 < ps.length) : Contract Tryd.prog TabG 47 [.sl false 2 (ps.map (Point.td.d false))] (.tup [.agg (Point.td.d true (loP ps)), .agg (Point.td.d true (hiP ps))]) := by
  rw [Point.td_d, Point.td_d, lo_hd h0, hi_hd h0]; refine law_impl_bounds ?_; unfold code_impl_bounds; have e0 := List.getElem?_eq_getElem h0; have hp : (0 : Int) < (ps.length : Int) := by omega
  simp -implicitDefEqProofs (disch := omega) only [go_sem, ↓reduceIte , List.length_map, Int.toNat_natCast, Int.ofNat_lt, Int.natCast_nonneg, List.getElem?_map, Option.map_some, Int.natCast_zero, Int.natCast_one, Int.cast_ofNat_Int, Int.ofNat_le, Int.toNat_zero, Nat.sub_zero, Int.le_refl, Int.reduceLT, Int.reduceLE, Int.reduceEq, Int.reduceAdd, Int.reduceSub, Int.reduceMul, Int.reduceToNat, Int.reduceNeg, hp, e0, Point.td_d]; refine loop_ov (by simp -implicitDefEqProofs (disch := omega) only [go_sem, ↓reduceIte]; exact rfl) (fun i : Nat => [(16, .v (.int .i64 (i : Nat))), (4, .box none [.v (.int .i64 (mnF (·.X) ps[0].X (ps.take i))), .v (.int .i64 (mnF (·.Y) ps[0].Y (ps.take i)))]), (5, .box none [.v (.int .i64 (mxF (·.X) ps[0].X (ps.take i))), .v (.int .i64 (mxF (·.Y) ps[0].Y (ps.take i)))])]) (fun _ => by simp only [ovr_nil, ovr_cons, List.set_cons_zero, List.set_cons_succ]; exact rfl) (fun i : Nat => i ≤ ps.length) (fun i : Nat => ps.length - i) (0) (nleA) (Nat.zero_le _) ?_; intro i hi; simp -implicitDefEqProofs (disch := omega) only [go_sem, ↓reduceIte , List.length_map, Int.toNat_natCast, Int.ofNat_lt, Int.natCast_nonneg, List.getElem?_map, Option.map_some]; refine cond_split ?_ ?_ <;> intro hlt
  · have hlt : i < ps.length := (by simpa using hlt); have e1 := List.getElem?_eq_getElem hlt; have n1 := mnF_next (·.X) ps[0].X hlt; have n2 := mnF_next (·.Y) ps[0].Y hlt; have n3 := mxF_next (·.X) ps[0].X hlt; have n4 := mxF_next (·.Y) ps[0].Y hlt; simp -implicitDefEqProofs (disch := omega) only [go_sem, ↓reduceIte , List.length_map, Int.toNat_natCast, Int.ofNat_lt, Int.natCast_nonneg, List.getElem?_map, Option.map_some, hlt, e1, Point.td_d, wrN, mnE, mxE]; refine ⟨i + 1, by omega, hlt, ?_⟩; rw [n1, n2, n3, n4]
    (try simp -implicitDefEqProofs only [nleL_cc, nleL_nn, nle_self, nle_boxs, nle_aggs, nle_nils, and_self, and_true, true_and]) <;> repeat' (first | exact nle_of_eq rfl | exact nle_nil | apply And.intro | apply nle_sl | apply nleLL_cons | apply nleL_cons | exact nleL_nil | exact nleLL_nil | apply nle_box | apply nle_agg)
  · obtain rfl : i = ps.length := (by have : ¬ i < ps.length := (by simpa using hlt); omega); simp -implicitDefEqProofs (disch := omega) only [go_sem, ↓reduceIte , List.take_length]
def code_spec_l03Bounds : VCode := (.seq (.ops [
  ⟨(some 2), none, (.alloc [(.int .i64 0), (.int .i64 0)])⟩,
  ⟨(some 3), none, (.alloc [(.int .i64 0), (.int .i64 0)])⟩]) (.seq (.ops [
  ⟨(some 7), none, (.mv (.tmp 0))⟩,
  ⟨(some 8), none, (.ia 2 (.tmp 7) (.const (.int .i64 0)))⟩,
  ⟨(some 9), none, (.load 2 true (.tmp 8))⟩,
  ⟨(some 4), none, (.alloc [(.int .i64 0), (.int .i64 0)])⟩,
  ⟨none, none, (.store 2 (.tmp 4) (.tmp 9))⟩]) (.seq (.ops [
  ⟨(some 10), none, (.mv (.tmp 0))⟩,
  ⟨(some 11), none, (.ia 2 (.tmp 10) (.const (.int .i64 0)))⟩,
  ⟨(some 12), none, (.load 2 true (.tmp 11))⟩,
  ⟨(some 5), none, (.alloc [(.int .i64 0), (.int .i64 0)])⟩,
  ⟨none, none, (.store 2 (.tmp 5) (.tmp 12))⟩]) (.seq (.seq (.ops [
  ⟨(some 6), none, (.asg (.const (.int .i64 1)))⟩]) (.block 0 (.loop (mB 55 36028797018963842) (.seq (.seq (.ops [
  ⟨(some 13), none, (.mv (.tmp 6))⟩,
  ⟨(some 14), none, (.mv (.tmp 0))⟩,
  ⟨(some 15), none, (.len (.tmp 14))⟩,
  ⟨(some 16), none, (.bin .lss (.tmp 13) (.tmp 15))⟩]) (.cond (.tmp 16) .skip (.exit 0))) (.seq (.block 1 (.seq (.draw (mB 34 17179344896) [] [⟨0, (mB 34 17179344896), [], ⟨(some 19), none, (.fa 0 (.tmp 4))⟩⟩, ⟨1, (mB 34 17178820608), [], ⟨(some 20), none, (.load 1 false (.tmp 19))⟩⟩, ⟨2, (mB 34 17179344896), [], ⟨(some 21), none, (.mv (.tmp 0))⟩⟩, ⟨3, (mB 34 17179344896), [], ⟨(some 22), none, (.mv (.tmp 6))⟩⟩, ⟨4, (mB 34 17173053440), [], ⟨(some 23), none, (.ia 2 (.tmp 21) (.tmp 22))⟩⟩, ⟨5, (mB 34 17164664832), [], ⟨(some 24), none, (.fa 0 (.tmp 23))⟩⟩, ⟨6, (mB 34 17147887616), [], ⟨(some 25), none, (.load 1 false (.tmp 24))⟩⟩, ⟨7, (mB 34 17112760320), [], ⟨(some 26), none, (.call 69 [(.tmp 20), (.tmp 25)])⟩⟩, ⟨8, (mB 34 17179344896), [], ⟨(some 27), none, (.fa 1 (.tmp 4))⟩⟩, ⟨9, (mB 34 17045127168), [], ⟨(some 28), none, (.load 1 false (.tmp 27))⟩⟩, ⟨10, (mB 34 17179344896), [], ⟨(some 29), none, (.mv (.tmp 0))⟩⟩, ⟨11, (mB 34 17179344896), [], ⟨(some 30), none, (.mv (.tmp 6))⟩⟩, ⟨12, (mB 34 15568732160), [], ⟨(some 31), none, (.ia 2 (.tmp 29) (.tmp 30))⟩⟩, ⟨13, (mB 34 13421248512), [], ⟨(some 32), none, (.fa 1 (.tmp 31))⟩⟩, ⟨14, (mB 34 9126281216), [], ⟨(some 33), none, (.load 1 false (.tmp 32))⟩⟩] [⟨(some 34), none, (.callX 69 [(.tmp 28), (.tmp 33)])⟩, ⟨(some 35), none, (.build [(.int .i64 0), (.int .i64 0)] [(0, 1, (.tmp 26)), (1, 1, (.tmp 34))])⟩, ⟨none, none, (.store 2 (.tmp 4) (.tmp 35))⟩]) (.draw (mB 51 2251731094208512) [] [⟨0, (mB 51 2251731094208512), [], ⟨(some 36), none, (.fa 0 (.tmp 5))⟩⟩, ⟨1, (mB 51 2251662374731776), [], ⟨(some 37), none, (.load 1 false (.tmp 36))⟩⟩, ⟨2, (mB 51 2251731094208512), [], ⟨(some 38), none, (.mv (.tmp 0))⟩⟩, ⟨3, (mB 51 2251731094208512), [], ⟨(some 39), none, (.mv (.tmp 6))⟩⟩, ⟨4, (mB 51 2250906460487680), [], ⟨(some 40), none, (.ia 2 (.tmp 38) (.tmp 39))⟩⟩, ⟨5, (mB 51 2249806948859904), [], ⟨(some 41), none, (.fa 0 (.tmp 40))⟩⟩, ⟨6, (mB 51 2247607925604352), [], ⟨(some 42), none, (.load 1 false (.tmp 41))⟩⟩, ⟨7, (mB 51 2243003720663040), [], ⟨(some 43), none, (.call 70 [(.tmp 37), (.tmp 42)])⟩⟩, ⟨8, (mB 51 2251731094208512), [], ⟨(some 44), none, (.fa 1 (.tmp 5))⟩⟩, ⟨9, (mB 51 2234138908164096), [], ⟨(some 45), none, (.load 1 false (.tmp 44))⟩⟩, ⟨10, (mB 51 2251731094208512), [], ⟨(some 46), none, (.mv (.tmp 0))⟩⟩, ⟨11, (mB 51 2251731094208512), [], ⟨(some 47), none, (.mv (.tmp 6))⟩⟩, ⟨12, (mB 51 2040624861675520), [], ⟨(some 48), none, (.ia 2 (.tmp 46) (.tmp 47))⟩⟩, ⟨13, (mB 51 1759149884964864), [], ⟨(some 49), none, (.fa 1 (.tmp 48))⟩⟩, ⟨14, (mB 51 1196199931543552), [], ⟨(some 50), none, (.load 1 false (.tmp 49))⟩⟩] [⟨(some 51), none, (.callX 70 [(.tmp 45), (.tmp 50)])⟩, ⟨(some 52), none, (.build [(.int .i64 0), (.int .i64 0)] [(0, 1, (.tmp 43)), (1, 1, (.tmp 51))])⟩, ⟨none, none, (.store 2 (.tmp 5) (.tmp 52))⟩]))) (.ops [
  ⟨(some 17), none, (.mv (.tmp 6))⟩,
  ⟨(some 18), none, (.bin .add (.tmp 17) (.const (.int .i64 1)))⟩,
  ⟨(some 6), none, (.asg (.tmp 18))⟩])))))) (.seq (.drawB [(2, 2)] [(2, 2)] (mB 55 27021597764222980) (mB 54 9007199254740992) [⟨0, (mB 55 27021597764222980), [], ⟨(some 53), none, (.load 2 true (.tmp 4))⟩⟩, ⟨1, (mB 55 27021597764222980), [], ⟨(some 54), none, (.load 2 true (.tmp 5))⟩⟩, ⟨2, (mB 55 18014398509481988), (mB 54 9007199254740992), ⟨(some 2), none, (.box (.tmp 53))⟩⟩] [⟨none, none, (.store 2 (.tmp 3) (.tmp 54))⟩]) .ret)))))
theorem law_spec_l03Bounds {a0 d : D} (h : code_spec_l03Bounds.wp (CT Tryd.prog TabG) (endQ [(.c 2 2 true), (.c 3 2 true)] d) [a0, .undef, .undef, .undef, .undef, .undef, .undef, .undef, .undef, .undef, .undef, .undef, .undef, .undef, .undef, .undef, .undef, .undef, .undef, .undef, .undef, .undef, .undef, .undef, .undef, .undef, .undef, .undef, .undef, .undef, .undef, .undef, .undef, .undef, .undef, .undef, .undef, .undef, .undef, .undef, .undef, .undef, .undef, .undef, .undef, .undef, .undef, .undef, .undef, .undef, .undef, .undef, .undef, .undef, .undef]) : Contract Tryd.prog TabG 39 [a0] d :=
  contract_of (pt := 0) tabG Tryd.func39 (fun us W => by kernel_rfl) (c := Tryd.f39.body.getD .skip) (ms := [(mB 55 36028797018963842)]) (ms' := []) (by kernel_rfl) (by kernel_rfl) (by kernel_rfl) h
set_option maxHeartbeats 2000000 in
theorem v_l03Bounds (ps : List Point) (hn : ps.length ≤ 1048576) (h0 : 0 < ps.length) : Contract Tryd.prog TabG 39 [.sl false 2 (ps.map (Point.td.d false))] (.tup [.agg (Point.td.d true (loP ps)), .agg (Point.td.d true (hiP ps))]) := by
  rw [Point.td_d, Point.td_d, lo_hd h0, hi_hd h0]; refine law_spec_l03Bounds ?_; unfold code_spec_l03Bounds; have e0 := List.getElem?_eq_getElem h0; have hp : (0 : Int) < (ps.length : Int) := by omega
  have m1 := mnF_next (·.X) ps[0].X h0; have m2 := mnF_next (·.Y) ps[0].Y h0; have m3 := mxF_next (·.X) ps[0].X h0; have m4 := mxF_next (·.Y) ps[0].Y h0; simp only [List.take_zero, mnF, mxF, List.foldl_nil, Int.min_self, Int.max_self] at m1 m2 m3 m4; simp -implicitDefEqProofs (disch := omega) only [go_sem, ↓reduceIte , List.length_map, Int.toNat_natCast, Int.ofNat_lt, Int.natCast_nonneg, List.getElem?_map, Option.map_some, Int.natCast_zero, Int.natCast_one, Int.cast_ofNat_Int, Int.ofNat_le, Int.toNat_zero, Nat.sub_zero, Int.le_refl, Int.reduceLT, Int.reduceLE, Int.reduceEq, Int.reduceAdd, Int.reduceSub, Int.reduceMul, Int.reduceToNat, Int.reduceNeg, hp, e0, Point.td_d]; refine loop_ov (by simp -implicitDefEqProofs (disch := omega) only [go_sem, ↓reduceIte]; exact rfl) (fun i : Nat => [(4, .box none [.v (.int .i64 (mnF (·.X) ps[0].X (ps.take i))), .v (.int .i64 (mnF (·.Y) ps[0].Y (ps.take i)))]), (5, .box none [.v (.int .i64 (mxF (·.X) ps[0].X (ps.take i))), .v (.int .i64 (mxF (·.Y) ps[0].Y (ps.take i)))]), (6, .v (.int .i64 (i : Nat)))]) (fun _ => by simp only [ovr_nil, ovr_cons, List.set_cons_zero, List.set_cons_succ]; exact rfl) (fun i : Nat => i ≤ ps.length) (fun i : Nat => ps.length - i) (1) (by rw [show mnF (·.X) ps[0].X (ps.take 1) = ps[0].X from m1, show mnF (·.Y) ps[0].Y (ps.take 1) = ps[0].Y from m2, show mxF (·.X) ps[0].X (ps.take 1) = ps[0].X from m3, show mxF (·.Y) ps[0].Y (ps.take 1) = ps[0].Y from m4]; (try simp -implicitDefEqProofs only [nleL_cc, nleL_nn, nle_self, nle_boxs, nle_aggs, nle_nils, and_self, and_true, true_and]) <;> repeat' (first | exact nle_of_eq rfl | exact nle_nil | apply And.intro | apply nle_sl | apply nleLL_cons | apply nleL_cons | exact nleL_nil | exact nleLL_nil | apply nle_box | apply nle_agg)) (?_) ?_
  · exact h0
  intro i hi; simp -implicitDefEqProofs (disch := omega) only [go_sem, ↓reduceIte , List.length_map, Int.toNat_natCast, Int.ofNat_lt, Int.natCast_nonneg, List.getElem?_map, Option.map_some]; refine cond_split ?_ ?_ <;> intro hlt
  · have hlt : i < ps.length := (by simpa using hlt); have e1 := List.getElem?_eq_getElem hlt; have n1 := mnF_next (·.X) ps[0].X hlt; have n2 := mnF_next (·.Y) ps[0].Y hlt; have n3 := mxF_next (·.X) ps[0].X hlt; have n4 := mxF_next (·.Y) ps[0].Y hlt; simp -implicitDefEqProofs (disch := omega) only [go_sem, ↓reduceIte , List.length_map, Int.toNat_natCast, Int.ofNat_lt, Int.natCast_nonneg, List.getElem?_map, Option.map_some, hlt, e1, Point.td_d]; refine call_NB (v_l00Min (mnF (·.X) ps[0].X (ps.take i)) ps[i].X) (by simp -implicitDefEqProofs (disch := omega) only [go_sem, ↓reduceIte, deep, TD.rows, immLL_rI, immLL_rB8, immLL_rS, immLL_rBo, immLL_rII, immLL_rIIt, List.length_map, Int.toNat_natCast, Int.ofNat_lt, Int.natCast_nonneg, List.getElem?_map, Option.map_some, hlt, e1, Point.td_d]; exact rfl) ?_; simp -implicitDefEqProofs (disch := omega) only [go_sem, ↓reduceIte , List.length_map, Int.toNat_natCast, Int.ofNat_lt, Int.natCast_nonneg, List.getElem?_map, Option.map_some, hlt, e1, Point.td_d]; refine call_B (v_l00Min (mnF (·.Y) ps[0].Y (ps.take i)) ps[i].Y) (by simp -implicitDefEqProofs (disch := omega) only [go_sem, ↓reduceIte, deep, TD.rows, immLL_rI, immLL_rB8, immLL_rS, immLL_rBo, immLL_rII, immLL_rIIt, List.length_map, Int.toNat_natCast, Int.ofNat_lt, Int.natCast_nonneg, List.getElem?_map, Option.map_some, hlt, e1, Point.td_d]; exact rfl) ?_; simp -implicitDefEqProofs (disch := omega) only [go_sem, ↓reduceIte , List.length_map, Int.toNat_natCast, Int.ofNat_lt, Int.natCast_nonneg, List.getElem?_map, Option.map_some, hlt, e1, Point.td_d]; refine call_NB (v_l00Max (mxF (·.X) ps[0].X (ps.take i)) ps[i].X) (by simp -implicitDefEqProofs (disch := omega) only [go_sem, ↓reduceIte, deep, TD.rows, immLL_rI, immLL_rB8, immLL_rS, immLL_rBo, immLL_rII, immLL_rIIt, List.length_map, Int.toNat_natCast, Int.ofNat_lt, Int.natCast_nonneg, List.getElem?_map, Option.map_some, hlt, e1, Point.td_d]; exact rfl) ?_; simp -implicitDefEqProofs (disch := omega) only [go_sem, ↓reduceIte , List.length_map, Int.toNat_natCast, Int.ofNat_lt, Int.natCast_nonneg, List.getElem?_map, Option.map_some, hlt, e1, Point.td_d]; refine call_B (v_l00Max (mxF (·.Y) ps[0].Y (ps.take i)) ps[i].Y) (by simp -implicitDefEqProofs (disch := omega) only [go_sem, ↓reduceIte, deep, TD.rows, immLL_rI, immLL_rB8, immLL_rS, immLL_rBo, immLL_rII, immLL_rIIt, wrN]; exact rfl) ?_; simp -implicitDefEqProofs (disch := omega) only [go_sem, ↓reduceIte , wrN]; refine ⟨i + 1, by omega, hlt, ?_⟩; rw [n1, n2, n3, n4]
    (try simp -implicitDefEqProofs only [nleL_cc, nleL_nn, nle_self, nle_boxs, nle_aggs, nle_nils, and_self, and_true, true_and]) <;> repeat' (first | exact nle_of_eq rfl | exact nle_nil | apply And.intro | apply nle_sl | apply nleLL_cons | apply nleL_cons | exact nleL_nil | exact nleLL_nil | apply nle_box | apply nle_agg)
  · obtain rfl : i = ps.length := (by have : ¬ i < ps.length := (by simpa using hlt); omega); simp -implicitDefEqProofs (disch := omega) only [go_sem, ↓reduceIte , List.take_length]
theorem pts_len (ps : List Placed) : (ptsOf ps).length = ps.length := List.length_map ..
def code_laws_toInt64S : VCode := (.seq (.ops [
  ⟨(some 2), none, (.asg (.const (.slice none 0 0)))⟩]) (.seq (.ops [
  ⟨(some 5), none, (.mv (.tmp 0))⟩,
  ⟨(some 6), none, (.len (.tmp 5))⟩,
  ⟨(some 7), none, (.mks 1 8 [(.int .i64 0)] (.tmp 6) (.tmp 6))⟩,
  ⟨(some 3), none, (.asg (.tmp 7))⟩]) (.seq (.seq (.ops [
  ⟨(some 4), none, (.asg (.const (.int .i64 0)))⟩]) (.block 0 (.loop (mB 22 4194150) (.seq (.seq (.ops [
  ⟨(some 8), none, (.mv (.tmp 4))⟩,
  ⟨(some 9), none, (.mv (.tmp 0))⟩,
  ⟨(some 10), none, (.len (.tmp 9))⟩,
  ⟨(some 11), none, (.bin .lss (.tmp 8) (.tmp 10))⟩]) (.cond (.tmp 11) .skip (.exit 0))) (.seq (.block 1 (.ops [
  ⟨(some 14), none, (.mv (.tmp 3))⟩,
  ⟨(some 15), none, (.mv (.tmp 4))⟩,
  ⟨(some 16), none, (.mv (.tmp 0))⟩,
  ⟨(some 17), none, (.mv (.tmp 4))⟩,
  ⟨(some 18), none, (.ia 1 (.tmp 16) (.tmp 17))⟩,
  ⟨(some 19), none, (.load 1 false (.tmp 18))⟩,
  ⟨(some 20), none, (.ia 1 (.tmp 14) (.tmp 15))⟩,
  ⟨none, none, (.store 1 (.tmp 20) (.tmp 19))⟩])) (.ops [
  ⟨(some 12), none, (.mv (.tmp 4))⟩,
  ⟨(some 13), none, (.bin .add (.tmp 12) (.const (.int .i64 1)))⟩,
  ⟨(some 4), none, (.asg (.tmp 13))⟩])))))) (.seq (.ops [
  ⟨(some 21), none, (.mv (.tmp 3))⟩,
  ⟨(some 2), none, (.asg (.tmp 21))⟩]) .ret))))
theorem law_laws_toInt64S {a0 d : D} (h : code_laws_toInt64S.wp (CT Tryd.prog TabG) (endQ [(.t 2)] d) [a0, .undef, .undef, .undef, .undef, .undef, .undef, .undef, .undef, .undef, .undef, .undef, .undef, .undef, .undef, .undef, .undef, .undef, .undef, .undef, .undef, .undef]) : Contract Tryd.prog TabG 24 [a0] d :=
  contract_of (pt := 0) tabG Tryd.func24 (fun us W => by kernel_rfl) (c := Tryd.f24.body.getD .skip) (ms := [(mB 22 4194150)]) (ms' := []) (by kernel_rfl) (by kernel_rfl) (by kernel_rfl) h
set_option maxHeartbeats 2000000 in
theorem v_toInt64S (xs : List Int) (hn : xs.length ≤ 1048576) : Contract Tryd.prog TabG 24 [.sl false 1 (xs.map (rI))] (.sl true 1 (xs.map (rI))) := by
  have hl : xs.length ≤ 1048576 := (by exact hn); refine law_laws_toInt64S ?_; unfold code_laws_toInt64S; simp -implicitDefEqProofs (disch := omega) only [go_sem, ↓reduceIte , List.length_map, Int.toNat_natCast]; refine ⟨by omega, by omega, by omega, ?_⟩; refine loop_st (fun k : Nat => [.sl false 1 (xs.map (rI)), .undef, .undef, .sl true 1 ((xs.take k).map (rI) ++ List.replicate (xs.length - k) [D.v (.int .i64 0)]), .v (.int .i64 k), .undef, .undef, .undef, .undef, .undef, .undef, .undef, .undef, .undef, .undef, .undef, .undef, .undef, .undef, .undef, .undef, .undef]) (fun k => k ≤ xs.length) (fun k => xs.length - k) 0 (nleA) (Nat.zero_le _) ?_; intro k hk; simp -implicitDefEqProofs (disch := omega) only [go_sem, ↓reduceIte , List.length_map, Int.toNat_natCast, Int.ofNat_lt, Int.natCast_nonneg, List.getElem?_map, Option.map_some]; refine cond_split ?_ ?_ <;> intro hlt
  · have hlt : k < xs.length := (by simpa using hlt); have e1 := List.getElem?_eq_getElem hlt; have g1 := fill_len xs (rI) [D.v (.int .i64 0)] k; have g2 := fill_at xs (rI) [D.v (.int .i64 0)] k hlt; have g3 := fill_next xs (rI) [D.v (.int .i64 0)] k hlt; have g4 : k < ((xs.take k).map (rI) ++ List.replicate (xs.length - k) [D.v (.int .i64 0)]).length := (by rw [g1]; exact hlt); simp -implicitDefEqProofs (disch := omega) only [go_sem, ↓reduceIte , List.length_map, Int.toNat_natCast, Int.ofNat_lt, Int.natCast_nonneg, List.getElem?_map, Option.map_some, hlt, e1, g1, g2, List.set_set, List.getElem?_set_self g4, wrN]; refine ⟨k + 1, by omega, hlt, ?_⟩; rw [← g3]
    (try simp -implicitDefEqProofs only [nleL_cc, nleL_nn, nle_self, nle_boxs, nle_aggs, nle_nils, and_self, and_true, true_and]) <;> repeat' (first | exact nle_of_eq rfl | exact nle_nil | apply And.intro | apply nle_sl | apply nleLL_cons | apply nleL_cons | exact nleL_nil | exact nleLL_nil | apply nle_box | apply nle_agg)
  · have hge : k = xs.length := (by have : ¬ k < xs.length := (by simpa using hlt); omega); subst hge; simp -implicitDefEqProofs (disch := omega) only [go_sem, ↓reduceIte , fill_end]
def code_laws_toGlue : VCode := (.seq (.ops [
  ⟨(some 1), none, (.box (.tmp 0))⟩,
  ⟨(some 2), none, (.alloc [(.string ⟨⟨[]⟩⟩), (.int .i64 0)])⟩]) (.seq (.ops [
  ⟨(some 3), none, (.alloc [(.string ⟨⟨[]⟩⟩), (.int .i64 0)])⟩]) (.seq (.ops [
  ⟨(some 4), none, (.fa 0 (.tmp 1))⟩,
  ⟨(some 5), none, (.load 1 false (.tmp 4))⟩,
  ⟨(some 6), none, (.fa 0 (.tmp 3))⟩,
  ⟨none, none, (.store 1 (.tmp 6) (.tmp 5))⟩]) (.seq (.ops [
  ⟨(some 7), none, (.fa 1 (.tmp 1))⟩,
  ⟨(some 8), none, (.load 1 false (.tmp 7))⟩,
  ⟨(some 9), none, (.fa 1 (.tmp 3))⟩,
  ⟨none, none, (.store 1 (.tmp 9) (.tmp 8))⟩]) (.seq (.ops [
  ⟨(some 10), none, (.load 2 true (.tmp 3))⟩,
  ⟨none, none, (.store 2 (.tmp 2) (.tmp 10))⟩]) .ret)))))
theorem law_laws_toGlue {a0 d : D} (h : code_laws_toGlue.wp (CT Tryd.prog TabG) (endQ [(.c 2 2 true)] d) [a0, .undef, .undef, .undef, .undef, .undef, .undef, .undef, .undef, .undef, .undef]) : Contract Tryd.prog TabG 72 [a0] d :=
  contract_of (pt := 0) tabG Tryd.func72 (fun us W => by kernel_rfl) (c := Tryd.f72.body.getD .skip) (ms := []) (ms' := []) (by kernel_rfl) (by kernel_rfl) (by kernel_rfl) h
set_option maxHeartbeats 2000000 in
theorem v_toGlue (q : Glue) (hn : Glue.cnt q ≤ 1048576) : Contract Tryd.prog TabG 72 [.agg (Glue.td.d false q)] (.agg (Glue.td.d true q)) := by rw [Glue.td_d, Glue.td_d]; refine law_laws_toGlue ?_; unfold code_laws_toGlue; have hn0 := hn; unfold Glue.cnt at hn; simp -implicitDefEqProofs (disch := omega) only [go_sem, ↓reduceIte]
def code_laws_toGlueS : VCode := (.seq (.ops [
  ⟨(some 2), none, (.asg (.const (.slice none 0 0)))⟩]) (.seq (.ops [
  ⟨(some 5), none, (.mv (.tmp 0))⟩,
  ⟨(some 6), none, (.len (.tmp 5))⟩,
  ⟨(some 7), none, (.mks 2 24 [(.string ⟨⟨[]⟩⟩), (.int .i64 0)] (.tmp 6) (.tmp 6))⟩,
  ⟨(some 3), none, (.asg (.tmp 7))⟩]) (.seq (.seq (.ops [
  ⟨(some 4), none, (.asg (.const (.int .i64 0)))⟩]) (.block 0 (.loop (mB 23 8388454) (.seq (.seq (.ops [
  ⟨(some 8), none, (.mv (.tmp 4))⟩,
  ⟨(some 9), none, (.mv (.tmp 0))⟩,
  ⟨(some 10), none, (.len (.tmp 9))⟩,
  ⟨(some 11), none, (.bin .lss (.tmp 8) (.tmp 10))⟩]) (.cond (.tmp 11) .skip (.exit 0))) (.seq (.block 1 (.ops [
  ⟨(some 14), none, (.mv (.tmp 3))⟩,
  ⟨(some 15), none, (.mv (.tmp 4))⟩,
  ⟨(some 16), none, (.mv (.tmp 0))⟩,
  ⟨(some 17), none, (.mv (.tmp 4))⟩,
  ⟨(some 18), none, (.ia 2 (.tmp 16) (.tmp 17))⟩,
  ⟨(some 19), none, (.load 2 true (.tmp 18))⟩,
  ⟨(some 20), none, (.callX 72 [(.tmp 19)])⟩,
  ⟨(some 21), none, (.ia 2 (.tmp 14) (.tmp 15))⟩,
  ⟨none, none, (.store 2 (.tmp 21) (.tmp 20))⟩])) (.ops [
  ⟨(some 12), none, (.mv (.tmp 4))⟩,
  ⟨(some 13), none, (.bin .add (.tmp 12) (.const (.int .i64 1)))⟩,
  ⟨(some 4), none, (.asg (.tmp 13))⟩])))))) (.seq (.ops [
  ⟨(some 22), none, (.mv (.tmp 3))⟩,
  ⟨(some 2), none, (.asg (.tmp 22))⟩]) .ret))))
theorem law_laws_toGlueS {a0 d : D} (h : code_laws_toGlueS.wp (CT Tryd.prog TabG) (endQ [(.t 2)] d) [a0, .undef, .undef, .undef, .undef, .undef, .undef, .undef, .undef, .undef, .undef, .undef, .undef, .undef, .undef, .undef, .undef, .undef, .undef, .undef, .undef, .undef, .undef]) : Contract Tryd.prog TabG 43 [a0] d :=
  contract_of (pt := 0) tabG Tryd.func43 (fun us W => by kernel_rfl) (c := Tryd.f43.body.getD .skip) (ms := [(mB 23 8388454)]) (ms' := []) (by kernel_rfl) (by kernel_rfl) (by kernel_rfl) h
set_option maxHeartbeats 2000000 in
theorem v_toGlueS (xs : List Glue) (hn : cntL Glue.cnt xs ≤ 1048576) : Contract Tryd.prog TabG 43 [.sl false 2 (xs.map (Glue.td.d false))] (.sl true 2 (xs.map (Glue.td.d true))) := by
  have hl : xs.length ≤ 1048576 := (by have := cntL_len Glue.cnt xs; omega); refine law_laws_toGlueS ?_; unfold code_laws_toGlueS; simp -implicitDefEqProofs (disch := omega) only [go_sem, ↓reduceIte , List.length_map, Int.toNat_natCast]; refine ⟨by omega, by omega, by omega, ?_⟩; refine loop_st (fun k : Nat => [.sl false 2 (xs.map (Glue.td.d false)), .undef, .undef, .sl true 2 ((xs.take k).map (Glue.td.d true) ++ List.replicate (xs.length - k) [D.v (.string ⟨⟨[]⟩⟩), D.v (.int .i64 0)]), .v (.int .i64 k), .undef, .undef, .undef, .undef, .undef, .undef, .undef, .undef, .undef, .undef, .undef, .undef, .undef, .undef, .undef, .undef, .undef, .undef]) (fun k => k ≤ xs.length) (fun k => xs.length - k) 0 (nleA) (Nat.zero_le _) ?_; intro k hk; simp -implicitDefEqProofs (disch := omega) only [go_sem, ↓reduceIte , List.length_map, Int.toNat_natCast, Int.ofNat_lt, Int.natCast_nonneg, List.getElem?_map, Option.map_some]; refine cond_split ?_ ?_ <;> intro hlt
  · have hlt : k < xs.length := (by simpa using hlt); have e1 := List.getElem?_eq_getElem hlt; have g1 := fill_len xs (Glue.td.d true) [D.v (.string ⟨⟨[]⟩⟩), D.v (.int .i64 0)] k; have g2 := fill_at xs (Glue.td.d true) [D.v (.string ⟨⟨[]⟩⟩), D.v (.int .i64 0)] k hlt; have g3 := fill_next xs (Glue.td.d true) [D.v (.string ⟨⟨[]⟩⟩), D.v (.int .i64 0)] k hlt; have g4 : k < ((xs.take k).map (Glue.td.d true) ++ List.replicate (xs.length - k) [D.v (.string ⟨⟨[]⟩⟩), D.v (.int .i64 0)]).length := (by rw [g1]; exact hlt); have hm := cntL_mem Glue.cnt xs k hlt; simp -implicitDefEqProofs (disch := omega) only [go_sem, ↓reduceIte , List.length_map, Int.toNat_natCast, Int.ofNat_lt, Int.natCast_nonneg, List.getElem?_map, Option.map_some, hlt, e1, g1, g2, List.set_set, List.getElem?_set_self g4, wrN, Glue.td_d]; refine call_B (v_toGlue xs[k] (by omega)) (by simp -implicitDefEqProofs (disch := omega) only [go_sem, ↓reduceIte, deep, TD.rows, immLL_rI, immLL_rB8, immLL_rS, immLL_rBo, immLL_rII, immLL_rIIt, List.length_map, Int.toNat_natCast, Int.ofNat_lt, Int.natCast_nonneg, List.getElem?_map, Option.map_some, hlt, e1, g1, g2, List.set_set, List.getElem?_set_self g4, wrN, Glue.td_d]; exact rfl) ?_; simp -implicitDefEqProofs (disch := omega) only [go_sem, ↓reduceIte , List.length_map, Int.toNat_natCast, Int.ofNat_lt, Int.natCast_nonneg, List.getElem?_map, Option.map_some, hlt, e1, g1, g2, List.set_set, List.getElem?_set_self g4, wrN, Glue.td_d]; refine ⟨k + 1, by omega, hlt, ?_⟩; rw [← g3]; rw [Glue.td_d]
    (try simp -implicitDefEqProofs only [nleL_cc, nleL_nn, nle_self, nle_boxs, nle_aggs, nle_nils, and_self, and_true, true_and]) <;> repeat' (first | exact nle_of_eq rfl | exact nle_nil | apply And.intro | apply nle_sl | apply nleLL_cons | apply nleL_cons | exact nleL_nil | exact nleLL_nil | apply nle_box | apply nle_agg)
  · have hge : k = xs.length := (by have : ¬ k < xs.length := (by simpa using hlt); omega); subst hge; simp -implicitDefEqProofs (disch := omega) only [go_sem, ↓reduceIte , fill_end]
def code_laws_toTile : VCode := (.seq (.ops [
  ⟨(some 1), none, (.box (.tmp 0))⟩,
  ⟨(some 2), none, (.alloc [(.string ⟨⟨[]⟩⟩), (.slice none 0 0)])⟩]) (.seq (.ops [
  ⟨(some 3), none, (.alloc [(.string ⟨⟨[]⟩⟩), (.slice none 0 0)])⟩]) (.seq (.ops [
  ⟨(some 4), none, (.fa 0 (.tmp 1))⟩,
  ⟨(some 5), none, (.load 1 false (.tmp 4))⟩,
  ⟨(some 6), none, (.fa 0 (.tmp 3))⟩,
  ⟨none, none, (.store 1 (.tmp 6) (.tmp 5))⟩]) (.seq (.ops [
  ⟨(some 7), none, (.fa 1 (.tmp 1))⟩,
  ⟨(some 8), none, (.load 1 false (.tmp 7))⟩,
  ⟨(some 9), none, (.callX 24 [(.tmp 8)])⟩,
  ⟨(some 10), none, (.fa 1 (.tmp 3))⟩,
  ⟨none, none, (.store 1 (.tmp 10) (.tmp 9))⟩]) (.seq (.ops [
  ⟨(some 11), none, (.load 2 true (.tmp 3))⟩,
  ⟨none, none, (.store 2 (.tmp 2) (.tmp 11))⟩]) .ret)))))
theorem law_laws_toTile {a0 d : D} (h : code_laws_toTile.wp (CT Tryd.prog TabG) (endQ [(.c 2 2 true)] d) [a0, .undef, .undef, .undef, .undef, .undef, .undef, .undef, .undef, .undef, .undef, .undef]) : Contract Tryd.prog TabG 73 [a0] d :=
  contract_of (pt := 0) tabG Tryd.func73 (fun us W => by kernel_rfl) (c := Tryd.f73.body.getD .skip) (ms := []) (ms' := []) (by kernel_rfl) (by kernel_rfl) (by kernel_rfl) h
set_option maxHeartbeats 2000000 in
theorem v_toTile (q : Tile) (hn : Tile.cnt q ≤ 1048576) : Contract Tryd.prog TabG 73 [.agg (Tile.td.d false q)] (.agg (Tile.td.d true q)) := by rw [Tile.td_d, Tile.td_d]; refine law_laws_toTile ?_; unfold code_laws_toTile; have hn0 := hn; unfold Tile.cnt at hn; simp -implicitDefEqProofs (disch := omega) only [go_sem, ↓reduceIte]; refine call_B (v_toInt64S q.Sides (by omega)) (by simp -implicitDefEqProofs (disch := omega) only [go_sem, ↓reduceIte, deep, TD.rows, immLL_rI, immLL_rB8, immLL_rS, immLL_rBo, immLL_rII, immLL_rIIt]; exact rfl) ?_; simp -implicitDefEqProofs (disch := omega) only [go_sem, ↓reduceIte]
def code_laws_toTileS : VCode := (.seq (.ops [
  ⟨(some 2), none, (.asg (.const (.slice none 0 0)))⟩]) (.seq (.ops [
  ⟨(some 5), none, (.mv (.tmp 0))⟩,
  ⟨(some 6), none, (.len (.tmp 5))⟩,
  ⟨(some 7), none, (.mks 2 40 [(.string ⟨⟨[]⟩⟩), (.slice none 0 0)] (.tmp 6) (.tmp 6))⟩,
  ⟨(some 3), none, (.asg (.tmp 7))⟩]) (.seq (.seq (.ops [
  ⟨(some 4), none, (.asg (.const (.int .i64 0)))⟩]) (.block 0 (.loop (mB 23 8388454) (.seq (.seq (.ops [
  ⟨(some 8), none, (.mv (.tmp 4))⟩,
  ⟨(some 9), none, (.mv (.tmp 0))⟩,
  ⟨(some 10), none, (.len (.tmp 9))⟩,
  ⟨(some 11), none, (.bin .lss (.tmp 8) (.tmp 10))⟩]) (.cond (.tmp 11) .skip (.exit 0))) (.seq (.block 1 (.ops [
  ⟨(some 14), none, (.mv (.tmp 3))⟩,
  ⟨(some 15), none, (.mv (.tmp 4))⟩,
  ⟨(some 16), none, (.mv (.tmp 0))⟩,
  ⟨(some 17), none, (.mv (.tmp 4))⟩,
  ⟨(some 18), none, (.ia 2 (.tmp 16) (.tmp 17))⟩,
  ⟨(some 19), none, (.load 2 true (.tmp 18))⟩,
  ⟨(some 20), none, (.callX 73 [(.tmp 19)])⟩,
  ⟨(some 21), none, (.ia 2 (.tmp 14) (.tmp 15))⟩,
  ⟨none, none, (.store 2 (.tmp 21) (.tmp 20))⟩])) (.ops [
  ⟨(some 12), none, (.mv (.tmp 4))⟩,
  ⟨(some 13), none, (.bin .add (.tmp 12) (.const (.int .i64 1)))⟩,
  ⟨(some 4), none, (.asg (.tmp 13))⟩])))))) (.seq (.ops [
  ⟨(some 22), none, (.mv (.tmp 3))⟩,
  ⟨(some 2), none, (.asg (.tmp 22))⟩]) .ret))))
theorem law_laws_toTileS {a0 d : D} (h : code_laws_toTileS.wp (CT Tryd.prog TabG) (endQ [(.t 2)] d) [a0, .undef, .undef, .undef, .undef, .undef, .undef, .undef, .undef, .undef, .undef, .undef, .undef, .undef, .undef, .undef, .undef, .undef, .undef, .undef, .undef, .undef, .undef]) : Contract Tryd.prog TabG 44 [a0] d :=
  contract_of (pt := 0) tabG Tryd.func44 (fun us W => by kernel_rfl) (c := Tryd.f44.body.getD .skip) (ms := [(mB 23 8388454)]) (ms' := []) (by kernel_rfl) (by kernel_rfl) (by kernel_rfl) h
set_option maxHeartbeats 2000000 in
theorem v_toTileS (xs : List Tile) (hn : cntL Tile.cnt xs ≤ 1048576) : Contract Tryd.prog TabG 44 [.sl false 2 (xs.map (Tile.td.d false))] (.sl true 2 (xs.map (Tile.td.d true))) := by
  have hl : xs.length ≤ 1048576 := (by have := cntL_len Tile.cnt xs; omega); refine law_laws_toTileS ?_; unfold code_laws_toTileS; simp -implicitDefEqProofs (disch := omega) only [go_sem, ↓reduceIte , List.length_map, Int.toNat_natCast]; refine ⟨by omega, by omega, by omega, ?_⟩; refine loop_st (fun k : Nat => [.sl false 2 (xs.map (Tile.td.d false)), .undef, .undef, .sl true 2 ((xs.take k).map (Tile.td.d true) ++ List.replicate (xs.length - k) [D.v (.string ⟨⟨[]⟩⟩), D.nils]), .v (.int .i64 k), .undef, .undef, .undef, .undef, .undef, .undef, .undef, .undef, .undef, .undef, .undef, .undef, .undef, .undef, .undef, .undef, .undef, .undef]) (fun k => k ≤ xs.length) (fun k => xs.length - k) 0 (nleA) (Nat.zero_le _) ?_; intro k hk; simp -implicitDefEqProofs (disch := omega) only [go_sem, ↓reduceIte , List.length_map, Int.toNat_natCast, Int.ofNat_lt, Int.natCast_nonneg, List.getElem?_map, Option.map_some]; refine cond_split ?_ ?_ <;> intro hlt
  · have hlt : k < xs.length := (by simpa using hlt); have e1 := List.getElem?_eq_getElem hlt; have g1 := fill_len xs (Tile.td.d true) [D.v (.string ⟨⟨[]⟩⟩), D.nils] k; have g2 := fill_at xs (Tile.td.d true) [D.v (.string ⟨⟨[]⟩⟩), D.nils] k hlt; have g3 := fill_next xs (Tile.td.d true) [D.v (.string ⟨⟨[]⟩⟩), D.nils] k hlt; have g4 : k < ((xs.take k).map (Tile.td.d true) ++ List.replicate (xs.length - k) [D.v (.string ⟨⟨[]⟩⟩), D.nils]).length := (by rw [g1]; exact hlt); have hm := cntL_mem Tile.cnt xs k hlt; simp -implicitDefEqProofs (disch := omega) only [go_sem, ↓reduceIte , List.length_map, Int.toNat_natCast, Int.ofNat_lt, Int.natCast_nonneg, List.getElem?_map, Option.map_some, hlt, e1, g1, g2, List.set_set, List.getElem?_set_self g4, wrN, Tile.td_d]; refine call_B (v_toTile xs[k] (by omega)) (by simp -implicitDefEqProofs (disch := omega) only [go_sem, ↓reduceIte, deep, TD.rows, immLL_rI, immLL_rB8, immLL_rS, immLL_rBo, immLL_rII, immLL_rIIt, List.length_map, Int.toNat_natCast, Int.ofNat_lt, Int.natCast_nonneg, List.getElem?_map, Option.map_some, hlt, e1, g1, g2, List.set_set, List.getElem?_set_self g4, wrN, Tile.td_d]; exact rfl) ?_; simp -implicitDefEqProofs (disch := omega) only [go_sem, ↓reduceIte , List.length_map, Int.toNat_natCast, Int.ofNat_lt, Int.natCast_nonneg, List.getElem?_map, Option.map_some, hlt, e1, g1, g2, List.set_set, List.getElem?_set_self g4, wrN, Tile.td_d]; refine ⟨k + 1, by omega, hlt, ?_⟩; rw [← g3]; rw [Tile.td_d]
    (try simp -implicitDefEqProofs only [nleL_cc, nleL_nn, nle_self, nle_boxs, nle_aggs, nle_nils, and_self, and_true, true_and]) <;> repeat' (first | exact nle_of_eq rfl | exact nle_nil | apply And.intro | apply nle_sl | apply nleLL_cons | apply nleL_cons | exact nleL_nil | exact nleLL_nil | apply nle_box | apply nle_agg)
  · have hge : k = xs.length := (by have : ¬ k < xs.length := (by simpa using hlt); omega); subst hge; simp -implicitDefEqProofs (disch := omega) only [go_sem, ↓reduceIte , fill_end]
def code_laws_toTileSet : VCode := (.seq (.ops [
  ⟨(some 1), none, (.box (.tmp 0))⟩,
  ⟨(some 2), none, (.alloc [(.slice none 0 0), (.slice none 0 0)])⟩]) (.seq (.ops [
  ⟨(some 3), none, (.alloc [(.slice none 0 0), (.slice none 0 0)])⟩]) (.seq (.ops [
  ⟨(some 4), none, (.fa 0 (.tmp 1))⟩,
  ⟨(some 5), none, (.load 1 false (.tmp 4))⟩,
  ⟨(some 6), none, (.callX 43 [(.tmp 5)])⟩,
  ⟨(some 7), none, (.fa 0 (.tmp 3))⟩,
  ⟨none, none, (.store 1 (.tmp 7) (.tmp 6))⟩]) (.seq (.ops [
  ⟨(some 8), none, (.fa 1 (.tmp 1))⟩,
  ⟨(some 9), none, (.load 1 false (.tmp 8))⟩,
  ⟨(some 10), none, (.callX 44 [(.tmp 9)])⟩,
  ⟨(some 11), none, (.fa 1 (.tmp 3))⟩,
  ⟨none, none, (.store 1 (.tmp 11) (.tmp 10))⟩]) (.seq (.ops [
  ⟨(some 12), none, (.load 2 true (.tmp 3))⟩,
  ⟨none, none, (.store 2 (.tmp 2) (.tmp 12))⟩]) .ret)))))
theorem law_laws_toTileSet {a0 d : D} (h : code_laws_toTileSet.wp (CT Tryd.prog TabG) (endQ [(.c 2 2 true)] d) [a0, .undef, .undef, .undef, .undef, .undef, .undef, .undef, .undef, .undef, .undef, .undef, .undef]) : Contract Tryd.prog TabG 13 [a0] d :=
  contract_of (pt := 0) tabG Tryd.func13 (fun us W => by kernel_rfl) (c := Tryd.f13.body.getD .skip) (ms := []) (ms' := []) (by kernel_rfl) (by kernel_rfl) (by kernel_rfl) h
set_option maxHeartbeats 2000000 in
theorem v_toTileSet (q : TileSet) (hn : TileSet.cnt q ≤ 1048576) : Contract Tryd.prog TabG 13 [.agg (TileSet.td.d false q)] (.agg (TileSet.td.d true q)) := by rw [TileSet.td_d, TileSet.td_d]; refine law_laws_toTileSet ?_; unfold code_laws_toTileSet; have hn0 := hn; unfold TileSet.cnt at hn; simp -implicitDefEqProofs (disch := omega) only [go_sem, ↓reduceIte]; refine call_B (v_toGlueS q.Glues (by omega)) (by simp -implicitDefEqProofs (disch := omega) only [go_sem, ↓reduceIte, deep, TD.rows, immLL_rI, immLL_rB8, immLL_rS, immLL_rBo, immLL_rII, immLL_rIIt]; exact rfl) ?_; simp -implicitDefEqProofs (disch := omega) only [go_sem, ↓reduceIte]; refine call_B (v_toTileS q.Tiles (by omega)) (by simp -implicitDefEqProofs (disch := omega) only [go_sem, ↓reduceIte, deep, TD.rows, immLL_rI, immLL_rB8, immLL_rS, immLL_rBo, immLL_rII, immLL_rIIt]; exact rfl) ?_; simp -implicitDefEqProofs (disch := omega) only [go_sem, ↓reduceIte]
def code_laws_toPoint : VCode := (.seq (.ops [
  ⟨(some 1), none, (.box (.tmp 0))⟩,
  ⟨(some 2), none, (.alloc [(.int .i64 0), (.int .i64 0)])⟩]) (.seq (.ops [
  ⟨(some 3), none, (.alloc [(.int .i64 0), (.int .i64 0)])⟩]) (.seq (.ops [
  ⟨(some 4), none, (.fa 0 (.tmp 1))⟩,
  ⟨(some 5), none, (.load 1 false (.tmp 4))⟩,
  ⟨(some 6), none, (.fa 0 (.tmp 3))⟩,
  ⟨none, none, (.store 1 (.tmp 6) (.tmp 5))⟩]) (.seq (.ops [
  ⟨(some 7), none, (.fa 1 (.tmp 1))⟩,
  ⟨(some 8), none, (.load 1 false (.tmp 7))⟩,
  ⟨(some 9), none, (.fa 1 (.tmp 3))⟩,
  ⟨none, none, (.store 1 (.tmp 9) (.tmp 8))⟩]) (.seq (.ops [
  ⟨(some 10), none, (.load 2 true (.tmp 3))⟩,
  ⟨none, none, (.store 2 (.tmp 2) (.tmp 10))⟩]) .ret)))))
theorem law_laws_toPoint {a0 d : D} (h : code_laws_toPoint.wp (CT Tryd.prog TabG) (endQ [(.c 2 2 true)] d) [a0, .undef, .undef, .undef, .undef, .undef, .undef, .undef, .undef, .undef, .undef]) : Contract Tryd.prog TabG 87 [a0] d :=
  contract_of (pt := 0) tabG Tryd.func87 (fun us W => by kernel_rfl) (c := Tryd.f87.body.getD .skip) (ms := []) (ms' := []) (by kernel_rfl) (by kernel_rfl) (by kernel_rfl) h
set_option maxHeartbeats 2000000 in
theorem v_toPoint (q : Point) : Contract Tryd.prog TabG 87 [.agg (Point.td.d false q)] (.agg (Point.td.d true q)) := by rw [Point.td_d, Point.td_d]; refine law_laws_toPoint ?_; unfold code_laws_toPoint; simp -implicitDefEqProofs (disch := omega) only [go_sem, ↓reduceIte]
def code_laws_toPlaced : VCode := (.seq (.ops [
  ⟨(some 1), none, (.box (.tmp 0))⟩,
  ⟨(some 2), none, (.alloc [(.int .i64 0), (.int .i64 0), (.int .i64 0)])⟩]) (.seq (.ops [
  ⟨(some 3), none, (.alloc [(.int .i64 0), (.int .i64 0), (.int .i64 0)])⟩]) (.seq (.ops [
  ⟨(some 4), none, (.fa 0 (.tmp 1))⟩,
  ⟨(some 5), none, (.load 2 true (.tmp 4))⟩,
  ⟨(some 6), none, (.callX 87 [(.tmp 5)])⟩,
  ⟨(some 7), none, (.fa 0 (.tmp 3))⟩,
  ⟨none, none, (.store 2 (.tmp 7) (.tmp 6))⟩]) (.seq (.ops [
  ⟨(some 8), none, (.fa 2 (.tmp 1))⟩,
  ⟨(some 9), none, (.load 1 false (.tmp 8))⟩,
  ⟨(some 10), none, (.fa 2 (.tmp 3))⟩,
  ⟨none, none, (.store 1 (.tmp 10) (.tmp 9))⟩]) (.seq (.ops [
  ⟨(some 11), none, (.load 3 true (.tmp 3))⟩,
  ⟨none, none, (.store 3 (.tmp 2) (.tmp 11))⟩]) .ret)))))
theorem law_laws_toPlaced {a0 d : D} (h : code_laws_toPlaced.wp (CT Tryd.prog TabG) (endQ [(.c 2 3 true)] d) [a0, .undef, .undef, .undef, .undef, .undef, .undef, .undef, .undef, .undef, .undef, .undef]) : Contract Tryd.prog TabG 74 [a0] d :=
  contract_of (pt := 0) tabG Tryd.func74 (fun us W => by kernel_rfl) (c := Tryd.f74.body.getD .skip) (ms := []) (ms' := []) (by kernel_rfl) (by kernel_rfl) (by kernel_rfl) h
set_option maxHeartbeats 2000000 in
theorem v_toPlaced (q : Placed) : Contract Tryd.prog TabG 74 [.agg (Placed.td.d false q)] (.agg (Placed.td.d true q)) := by rw [Placed.td_d, Placed.td_d]; refine law_laws_toPlaced ?_; unfold code_laws_toPlaced; simp -implicitDefEqProofs (disch := omega) only [go_sem, ↓reduceIte , Point.td_d]; refine call_B (v_toPoint q.At) (by simp -implicitDefEqProofs (disch := omega) only [go_sem, ↓reduceIte, deep, TD.rows, immLL_rI, immLL_rB8, immLL_rS, immLL_rBo, immLL_rII, immLL_rIIt, Point.td_d]; exact rfl) ?_; simp -implicitDefEqProofs (disch := omega) only [go_sem, ↓reduceIte , Point.td_d]
def code_laws_toPlacedS : VCode := (.seq (.ops [
  ⟨(some 2), none, (.asg (.const (.slice none 0 0)))⟩]) (.seq (.ops [
  ⟨(some 5), none, (.mv (.tmp 0))⟩,
  ⟨(some 6), none, (.len (.tmp 5))⟩,
  ⟨(some 7), none, (.mks 3 24 [(.int .i64 0), (.int .i64 0), (.int .i64 0)] (.tmp 6) (.tmp 6))⟩,
  ⟨(some 3), none, (.asg (.tmp 7))⟩]) (.seq (.seq (.ops [
  ⟨(some 4), none, (.asg (.const (.int .i64 0)))⟩]) (.block 0 (.loop (mB 23 8388454) (.seq (.seq (.ops [
  ⟨(some 8), none, (.mv (.tmp 4))⟩,
  ⟨(some 9), none, (.mv (.tmp 0))⟩,
  ⟨(some 10), none, (.len (.tmp 9))⟩,
  ⟨(some 11), none, (.bin .lss (.tmp 8) (.tmp 10))⟩]) (.cond (.tmp 11) .skip (.exit 0))) (.seq (.block 1 (.ops [
  ⟨(some 14), none, (.mv (.tmp 3))⟩,
  ⟨(some 15), none, (.mv (.tmp 4))⟩,
  ⟨(some 16), none, (.mv (.tmp 0))⟩,
  ⟨(some 17), none, (.mv (.tmp 4))⟩,
  ⟨(some 18), none, (.ia 3 (.tmp 16) (.tmp 17))⟩,
  ⟨(some 19), none, (.load 3 true (.tmp 18))⟩,
  ⟨(some 20), none, (.callX 74 [(.tmp 19)])⟩,
  ⟨(some 21), none, (.ia 3 (.tmp 14) (.tmp 15))⟩,
  ⟨none, none, (.store 3 (.tmp 21) (.tmp 20))⟩])) (.ops [
  ⟨(some 12), none, (.mv (.tmp 4))⟩,
  ⟨(some 13), none, (.bin .add (.tmp 12) (.const (.int .i64 1)))⟩,
  ⟨(some 4), none, (.asg (.tmp 13))⟩])))))) (.seq (.ops [
  ⟨(some 22), none, (.mv (.tmp 3))⟩,
  ⟨(some 2), none, (.asg (.tmp 22))⟩]) .ret))))
theorem law_laws_toPlacedS {a0 d : D} (h : code_laws_toPlacedS.wp (CT Tryd.prog TabG) (endQ [(.t 2)] d) [a0, .undef, .undef, .undef, .undef, .undef, .undef, .undef, .undef, .undef, .undef, .undef, .undef, .undef, .undef, .undef, .undef, .undef, .undef, .undef, .undef, .undef, .undef]) : Contract Tryd.prog TabG 45 [a0] d :=
  contract_of (pt := 0) tabG Tryd.func45 (fun us W => by kernel_rfl) (c := Tryd.f45.body.getD .skip) (ms := [(mB 23 8388454)]) (ms' := []) (by kernel_rfl) (by kernel_rfl) (by kernel_rfl) h
set_option maxHeartbeats 2000000 in
theorem v_toPlacedS (xs : List Placed) (hn : xs.length ≤ 1048576) : Contract Tryd.prog TabG 45 [.sl false 3 (xs.map (Placed.td.d false))] (.sl true 3 (xs.map (Placed.td.d true))) := by
  have hl : xs.length ≤ 1048576 := (by exact hn); refine law_laws_toPlacedS ?_; unfold code_laws_toPlacedS; simp -implicitDefEqProofs (disch := omega) only [go_sem, ↓reduceIte , List.length_map, Int.toNat_natCast]; refine ⟨by omega, by omega, by omega, ?_⟩; refine loop_st (fun k : Nat => [.sl false 3 (xs.map (Placed.td.d false)), .undef, .undef, .sl true 3 ((xs.take k).map (Placed.td.d true) ++ List.replicate (xs.length - k) [D.v (.int .i64 0), D.v (.int .i64 0), D.v (.int .i64 0)]), .v (.int .i64 k), .undef, .undef, .undef, .undef, .undef, .undef, .undef, .undef, .undef, .undef, .undef, .undef, .undef, .undef, .undef, .undef, .undef, .undef]) (fun k => k ≤ xs.length) (fun k => xs.length - k) 0 (nleA) (Nat.zero_le _) ?_; intro k hk; simp -implicitDefEqProofs (disch := omega) only [go_sem, ↓reduceIte , List.length_map, Int.toNat_natCast, Int.ofNat_lt, Int.natCast_nonneg, List.getElem?_map, Option.map_some]; refine cond_split ?_ ?_ <;> intro hlt
  · have hlt : k < xs.length := (by simpa using hlt); have e1 := List.getElem?_eq_getElem hlt; have g1 := fill_len xs (Placed.td.d true) [D.v (.int .i64 0), D.v (.int .i64 0), D.v (.int .i64 0)] k; have g2 := fill_at xs (Placed.td.d true) [D.v (.int .i64 0), D.v (.int .i64 0), D.v (.int .i64 0)] k hlt; have g3 := fill_next xs (Placed.td.d true) [D.v (.int .i64 0), D.v (.int .i64 0), D.v (.int .i64 0)] k hlt; have g4 : k < ((xs.take k).map (Placed.td.d true) ++ List.replicate (xs.length - k) [D.v (.int .i64 0), D.v (.int .i64 0), D.v (.int .i64 0)]).length := (by rw [g1]; exact hlt); simp -implicitDefEqProofs (disch := omega) only [go_sem, ↓reduceIte , List.length_map, Int.toNat_natCast, Int.ofNat_lt, Int.natCast_nonneg, List.getElem?_map, Option.map_some, hlt, e1, g1, g2, List.set_set, List.getElem?_set_self g4, wrN, Placed.td_d]; refine call_B (v_toPlaced xs[k]) (by simp -implicitDefEqProofs (disch := omega) only [go_sem, ↓reduceIte, deep, TD.rows, immLL_rI, immLL_rB8, immLL_rS, immLL_rBo, immLL_rII, immLL_rIIt, List.length_map, Int.toNat_natCast, Int.ofNat_lt, Int.natCast_nonneg, List.getElem?_map, Option.map_some, hlt, e1, g1, g2, List.set_set, List.getElem?_set_self g4, wrN, Placed.td_d]; exact rfl) ?_; simp -implicitDefEqProofs (disch := omega) only [go_sem, ↓reduceIte , List.length_map, Int.toNat_natCast, Int.ofNat_lt, Int.natCast_nonneg, List.getElem?_map, Option.map_some, hlt, e1, g1, g2, List.set_set, List.getElem?_set_self g4, wrN, Placed.td_d]; refine ⟨k + 1, by omega, hlt, ?_⟩; rw [← g3]; rw [Placed.td_d]
    (try simp -implicitDefEqProofs only [nleL_cc, nleL_nn, nle_self, nle_boxs, nle_aggs, nle_nils, and_self, and_true, true_and]) <;> repeat' (first | exact nle_of_eq rfl | exact nle_nil | apply And.intro | apply nle_sl | apply nleLL_cons | apply nleL_cons | exact nleL_nil | exact nleLL_nil | apply nle_box | apply nle_agg)
  · have hge : k = xs.length := (by have : ¬ k < xs.length := (by simpa using hlt); omega); subst hge; simp -implicitDefEqProofs (disch := omega) only [go_sem, ↓reduceIte , fill_end]
def code_laws_toAssembly : VCode := (.seq (.ops [
  ⟨(some 1), none, (.box (.tmp 0))⟩,
  ⟨(some 2), none, (.alloc [(.slice none 0 0)])⟩]) (.seq (.ops [
  ⟨(some 3), none, (.alloc [(.slice none 0 0)])⟩]) (.seq (.ops [
  ⟨(some 4), none, (.fa 0 (.tmp 1))⟩,
  ⟨(some 5), none, (.load 1 false (.tmp 4))⟩,
  ⟨(some 6), none, (.callX 45 [(.tmp 5)])⟩,
  ⟨(some 7), none, (.fa 0 (.tmp 3))⟩,
  ⟨none, none, (.store 1 (.tmp 7) (.tmp 6))⟩]) (.seq (.ops [
  ⟨(some 8), none, (.load 1 true (.tmp 3))⟩,
  ⟨none, none, (.store 1 (.tmp 2) (.tmp 8))⟩]) .ret))))
theorem law_laws_toAssembly {a0 d : D} (h : code_laws_toAssembly.wp (CT Tryd.prog TabG) (endQ [(.c 2 1 true)] d) [a0, .undef, .undef, .undef, .undef, .undef, .undef, .undef, .undef]) : Contract Tryd.prog TabG 14 [a0] d :=
  contract_of (pt := 0) tabG Tryd.func14 (fun us W => by kernel_rfl) (c := Tryd.f14.body.getD .skip) (ms := []) (ms' := []) (by kernel_rfl) (by kernel_rfl) (by kernel_rfl) h
set_option maxHeartbeats 2000000 in
theorem v_toAssembly (q : Assembly) (hn : Assembly.cnt q ≤ 1048576) : Contract Tryd.prog TabG 14 [.agg (Assembly.td.d false q)] (.agg (Assembly.td.d true q)) := by rw [Assembly.td_d, Assembly.td_d]; refine law_laws_toAssembly ?_; unfold code_laws_toAssembly; have hn0 := hn; unfold Assembly.cnt at hn; simp -implicitDefEqProofs (disch := omega) only [go_sem, ↓reduceIte]; refine call_B (v_toPlacedS q.Tiles (by omega)) (by simp -implicitDefEqProofs (disch := omega) only [go_sem, ↓reduceIte, deep, TD.rows, immLL_rI, immLL_rB8, immLL_rS, immLL_rBo, immLL_rII, immLL_rIIt]; exact rfl) ?_; simp -implicitDefEqProofs (disch := omega) only [go_sem, ↓reduceIte]
end Go.Proofs.YtlmkgjigldmbaaaDoor
