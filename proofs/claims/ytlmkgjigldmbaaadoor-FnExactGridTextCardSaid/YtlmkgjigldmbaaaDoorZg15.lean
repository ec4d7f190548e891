/- Laws that the proof stands on. -/
import Derived.Test.YtlmkgjigldmbaaaDoorZg12
import Derived.Test.YtlmkgjigldmbaaaDoorZg14
import Derived.Test.YtlmkgjigldmbaaaDoorZVTab
import Derived.Test.YtlmkgjigldmbaaaDoorZVB
import Derived.Test.YtlmkgjigldmbaaaDoorProg
import Derived.Test.YtlmkgjigldmbaaaDoorZg13
set_option linter.all false
namespace Go.Proofs.YtlmkgjigldmbaaaDoor
open Go.RowKit Go.V
attribute [local go_sem] List.getElem?_cons_succ List.getElem?_cons_zero List.set_cons_succ List.set_cons_zero List.map_cons List.map_nil List.length_cons List.length_nil List.all_cons List.all_nil List.drop_succ_cons List.drop_zero List.take_succ_cons List.take_zero List.flatMap_cons List.flatMap_nil List.cons_append List.nil_append List.append_nil List.headD_cons Value.oneCell' Bool.and_true Bool.true_and Bool.or_false Bool.false_or Bool.and_self Bool.not_true Bool.not_false and_true true_and beq_self_eq_true Bool.false_eq_true if_true if_false Nat.zero_add Nat.reduceAdd Nat.reduceMul Nat.reduceLeDiff Nat.le_refl Option.isSome_some Option.isSome_none not_true_eq_false not_false_eq_true ne_eq reduceCtorEq List.reverse_nil bne_self_eq_false Nat.reduceEqDiff List.isPrefixOf Bool.not_eq_true Bool.and_false Bool.false_and Bool.true_or Bool.or_true decide_true decide_false Nat.reduceBEq Nat.reduceBNe List.replicate_succ List.replicate_zero exists_eq_left' exists_eq_left Option.some.injEq or_false or_true true_or false_or Option.map_some Option.map_none mB Nat.reduceMod Nat.reduceDiv
set_option maxRecDepth 100000
def bytS (l : List UInt8) : ByteArray := ⟨l.toArray⟩
def decS (n : Int) : ByteArray := ⟨(itoaS n).toArray⟩
def digs (u : Nat) : List UInt8 := if u = 0 then [] else Lib.decDigits u
theorem digs_step {u : Nat} (h : u ≠ 0) : digs u = digs (u / 10) ++ [UInt8.ofNat (48 + u % 10)] := by
  unfold digs; rw [if_neg h, Lib.decDigits]; by_cases h9 : u < 10
  · rw [dif_pos h9, if_pos (by omega), Nat.mod_eq_of_lt h9]; rfl
  · rw [dif_neg h9, if_neg (by omega)]
theorem digs_len {u k : Nat} (h : u < 10 ^ k) : (digs u).length ≤ k := by
  induction k generalizing u with
  | zero => have : u = 0 := by omega
            subst this; simp [digs]
  | succ k ih =>
    by_cases h0 : u = 0
    · subst h0; simp [digs]
    · rw [digs_step h0, List.length_append]; have := ih (u := u / 10) (by rw [Nat.pow_succ] at h; omega); simp only [List.length_cons, List.length_nil]; omega
theorem decS_size (n : Int) (hn : InK .i64 n) : (decS n).size ≤ 20 := by
  have hn' : -9223372036854775808 ≤ n ∧ n ≤ 9223372036854775807 := (by have := hn; unfold InK at this; omega); have h1 : (decS n).size = (itoaS n).length := rfl; have h2 : ∀ u : Nat, u < 10 ^ 19 → (Lib.decDigits u).length ≤ 19 := by
    intro u hu; by_cases h0 : u = 0
    · subst h0; rw [Lib.decDigits]; simp
    · have := digs_len hu; unfold digs at this; rwa [if_neg h0] at this
  rw [h1]; unfold itoaS Lib.itoa; by_cases h : n < 0
  · rw [if_pos h, List.length_cons]; have := h2 n.natAbs (by omega); omega
  · rw [if_neg h]; have := h2 n.toNat (by omega)
    omega
def code_impl_Decimal : VCode := (.seq (.ops [
  ⟨(some 2), none, (.asg (.const (.string ⟨⟨[]⟩⟩)))⟩]) (.seq (.ops [
  ⟨(some 3), none, (.mv (.tmp 0))⟩,
  ⟨(some 4), none, (.callX 82 [(.tmp 3), (.const (.int .i64 10))])⟩,
  ⟨(some 2), none, (.asg (.tmp 4))⟩]) .ret))
theorem law_impl_Decimal {a0 d : D} (h : code_impl_Decimal.wp (CT Tryd.prog TabG) (endQ [(.t 2)] d) [a0, .undef, .undef, .undef, .undef]) : Contract Tryd.prog TabG 50 [a0] d :=
  contract_of (pt := 0) tabG Tryd.func50 (fun us W => by kernel_rfl) (c := Tryd.f50.body.getD .skip) (ms := []) (ms' := []) (by kernel_rfl) (by kernel_rfl) (by kernel_rfl) h
theorem v_Decimal_impl (n : Int) (hn : InK .i64 n) : Contract Tryd.prog TabG 50 [.v (.int .i64 n)] (.v (.string (decS n))) := by refine law_impl_Decimal ?_; unfold code_impl_Decimal; simp -implicitDefEqProofs (disch := omega) only [go_sem, ↓reduceIte]; refine call_B (v_FormatInt n hn) (by simp -implicitDefEqProofs (disch := omega) only [go_sem, ↓reduceIte, deep, TD.rows, immLL_rI, immLL_rB8, immLL_rS, immLL_rBo, immLL_rII, immLL_rIIt]; exact rfl) ?_; simp -implicitDefEqProofs (disch := omega) only [go_sem, ↓reduceIte]; rfl
def code_spec_Decimal : VCode := (.seq (.ops [
  ⟨(some 2), none, (.asg (.const (.string ⟨⟨[]⟩⟩)))⟩]) (.seq (.ops [
  ⟨(some 3), none, (.asg (.const (.string ⟨⟨[]⟩⟩)))⟩]) (.seq (.ops [
  ⟨(some 6), none, (.mv (.tmp 0))⟩,
  ⟨(some 4), none, (.asg (.tmp 6))⟩]) (.seq (.block 0 (.loop (mB 31 2147483622) (.seq (.seq (.ops [
  ⟨(some 7), none, (.mv (.tmp 4))⟩,
  ⟨(some 8), none, (.bin .neq (.tmp 7) (.const (.int .i64 0)))⟩]) (.cond (.tmp 8) .skip (.exit 0))) (.block 1 (.seq (.ops [
  ⟨(some 9), none, (.mv (.tmp 4))⟩,
  ⟨(some 10), none, (.bin .rem (.tmp 9) (.const (.int .i64 10)))⟩,
  ⟨(some 5), none, (.asg (.tmp 10))⟩]) (.seq (.seq (.ops [
  ⟨(some 11), none, (.mv (.tmp 5))⟩,
  ⟨(some 12), none, (.bin .lss (.tmp 11) (.const (.int .i64 0)))⟩]) (.cond (.tmp 12) (.ops [
  ⟨(some 13), none, (.mv (.tmp 5))⟩,
  ⟨(some 14), none, (.un .neg (.tmp 13))⟩,
  ⟨(some 5), none, (.asg (.tmp 14))⟩]) .skip)) (.seq (.ops [
  ⟨(some 15), none, (.mv (.tmp 5))⟩,
  ⟨(some 16), none, (.bin .add (.const (.int .i64 48)) (.tmp 15))⟩,
  ⟨(some 17), none, (.conv .u8 (.tmp 16))⟩,
  ⟨(some 18), none, (.bsl 1 [(.tmp 17)])⟩,
  ⟨(some 19), none, (.b2s (.tmp 18))⟩,
  ⟨(some 20), none, (.mv (.tmp 3))⟩,
  ⟨(some 21), none, (.bin .add (.tmp 19) (.tmp 20))⟩,
  ⟨(some 3), none, (.asg (.tmp 21))⟩]) (.ops [
  ⟨(some 22), none, (.mv (.tmp 4))⟩,
  ⟨(some 23), none, (.bin .quo (.tmp 22) (.const (.int .i64 10)))⟩,
  ⟨(some 4), none, (.asg (.tmp 23))⟩])))))))) (.seq (.seq (.ops [
  ⟨(some 24), none, (.mv (.tmp 0))⟩,
  ⟨(some 25), none, (.bin .eql (.tmp 24) (.const (.int .i64 0)))⟩]) (.cond (.tmp 25) (.seq (.ops [
  ⟨(some 2), none, (.asg (.const (.string ⟨⟨[48]⟩⟩)))⟩]) .ret) .skip)) (.seq (.seq (.ops [
  ⟨(some 26), none, (.mv (.tmp 0))⟩,
  ⟨(some 27), none, (.bin .lss (.tmp 26) (.const (.int .i64 0)))⟩]) (.cond (.tmp 27) (.seq (.ops [
  ⟨(some 28), none, (.mv (.tmp 3))⟩,
  ⟨(some 29), none, (.bin .add (.const (.string ⟨⟨[45]⟩⟩)) (.tmp 28))⟩,
  ⟨(some 2), none, (.asg (.tmp 29))⟩]) .ret) .skip)) (.seq (.ops [
  ⟨(some 30), none, (.mv (.tmp 3))⟩,
  ⟨(some 2), none, (.asg (.tmp 30))⟩]) .ret)))))))
theorem law_spec_Decimal {a0 d : D} (h : code_spec_Decimal.wp (CT Tryd.prog TabG) (endQ [(.t 2)] d) [a0, .undef, .undef, .undef, .undef, .undef, .undef, .undef, .undef, .undef, .undef, .undef, .undef, .undef, .undef, .undef, .undef, .undef, .undef, .undef, .undef, .undef, .undef, .undef, .undef, .undef, .undef, .undef, .undef, .undef, .undef]) : Contract Tryd.prog TabG 42 [a0] d :=
  contract_of (pt := 0) tabG Tryd.func42 (fun us W => by kernel_rfl) (c := Tryd.f42.body.getD .skip) (ms := [(mB 31 2147483622)]) (ms' := []) (by kernel_rfl) (by kernel_rfl) (by kernel_rfl) h
theorem v_Decimal_spec (n : Int) (hn : InK .i64 n) : Contract Tryd.prog TabG 42 [.v (.int .i64 n)] (.v (.string (decS n))) := by
  refine law_spec_Decimal ?_; unfold code_spec_Decimal; have hn' : -9223372036854775808 ≤ n ∧ n ≤ 9223372036854775807 := by have := hn; unfold InK at this; omega
  simp -implicitDefEqProofs (disch := omega) only [go_sem, ↓reduceIte]; refine loop_ov (by simp -implicitDefEqProofs (disch := omega) only [go_sem, ↓reduceIte]; exact rfl) (fun z : Int × List UInt8 => [(3, .v (.string (bytS z.2))), (4, .v (.int .i64 z.1))]) (fun _ => by simp only [ovr_nil, ovr_cons, List.set_cons_zero, List.set_cons_succ]; exact rfl) (fun z : Int × List UInt8 => (-9223372036854775808 ≤ z.1 ∧ z.1 ≤ 9223372036854775807) ∧ digs z.1.natAbs ++ z.2 = digs n.natAbs) (fun z : Int × List UInt8 => z.1.natAbs) ((n, [])) (nleA) (?_) ?_
  · exact ⟨hn', by simp⟩
  rintro ⟨m, l⟩ ⟨h1, h2⟩; simp only at h1 h2; have hlen : (digs n.natAbs).length ≤ 20 := digs_len (k := 20) (by omega); have hl : l.length ≤ 20 := by rw [← h2, List.length_append] at hlen; omega
  have hsz : (bytS l).size = l.length := rfl; by_cases hm : m = 0
  · subst hm; have e2 : l = digs n.natAbs := h2; by_cases h0 : n = 0
    · subst h0; simp -implicitDefEqProofs (disch := omega) only [go_sem, ↓reduceIte , decide_true]; have e : itoaS 0 = [48] := by simp [itoaS, Lib.itoa, Lib.decDigits]
      unfold decS; rw [e]
    · have hd : digs n.natAbs = Lib.decDigits n.natAbs := (by unfold digs; rw [if_neg (by omega)]); by_cases h3 : n < 0
      · simp -implicitDefEqProofs (disch := omega) only [go_sem, ↓reduceIte , h0, h3, decide_true, decide_false]; refine ⟨by rw [hsz]; unfold maxLen; show 1 + l.length ≤ _; omega, ?_⟩; have e : itoaS n = 45 :: l := by unfold itoaS Lib.itoa; rw [if_pos h3, e2, hd]
        unfold decS bytS; rw [e]; exact congrArg Value.string (by apply ByteArray.ext; simp)
      · simp -implicitDefEqProofs (disch := omega) only [go_sem, ↓reduceIte , h0, h3, decide_true, decide_false]; have e : itoaS n = l := by unfold itoaS Lib.itoa; rw [if_neg h3, e2, hd]; congr 1; omega
        unfold decS bytS; rw [e]
  · obtain ⟨k, hk⟩ : ∃ k, k = m.natAbs % 10 := ⟨_, rfl⟩
    have hk9 : k ≤ 9 := (by omega); have hm0 : m.natAbs ≠ 0 := (by omega); have hS : strI [((48 + k : Nat) : Int)] ++ bytS l = bytS (UInt8.ofNat (48 + k) :: l) := (by apply ByteArray.ext; simp only [strI, bytS, List.map_cons, List.map_nil, Int.toNat_natCast]; simp); have hq : (m.tdiv 10).natAbs = m.natAbs / 10 := (by rw [Int.natAbs_tdiv]; rfl); have hnext : digs (m.natAbs / 10) ++ UInt8.ofNat (48 + k) :: l = digs n.natAbs := (by rw [← h2, digs_step hm0, ← hk, List.append_assoc]; rfl); have hb10 : -9223372036854775808 ≤ m.tdiv 10 ∧ m.tdiv 10 ≤ 9223372036854775807 := (by have : (m.tdiv 10).natAbs ≤ 922337203685477580 := (by rw [hq]; omega); omega); have hsz1 : (strI [((48 + k : Nat) : Int)]).size = 1 := rfl; have w1 : IntKind.i64.wrap (48 + (k : Int)) = ((48 + k : Nat) : Int) := (by rw [wrI (by omega) (by omega)]; omega); have w2 : IntKind.u8.wrap ((48 + k : Nat) : Int) = ((48 + k : Nat) : Int) := (by simp [IntKind.wrap, IntKind.signed, IntKind.bits]; omega); by_cases h3 : m < 0
    · have hd : m.tmod 10 = -(k : Int) := by
        obtain ⟨u, rfl⟩ : ∃ u : Nat, m = -(u : Int) := ⟨m.natAbs, by omega⟩
        rw [Int.neg_tmod]; have : ((u : Int)).tmod 10 = ((u % 10 : Nat) : Int) := rfl; rw [this, hk]; congr 2; omega
      have w3 : IntKind.i64.wrap (-(-(k : Int))) = (k : Int) := (by rw [wrI (by omega) (by omega)]; omega); have w4 : IntKind.i64.wrap (0 - (-(k : Int))) = (k : Int) := (by rw [wrI (by omega) (by omega)]; omega); simp -implicitDefEqProofs (disch := omega) only [go_sem, ↓reduceIte , hm, hd]; refine ⟨by omega, cond_split ?_ ?_⟩ <;> intro hlt
      · simp -implicitDefEqProofs (disch := omega) only [go_sem, ↓reduceIte , hm, hd, w1, w2, w3, w4]; refine ⟨[((48 + k : Nat) : Int)], rfl, ?_, by omega, (m.tdiv 10, UInt8.ofNat (48 + k) :: l), ?_, ⟨hb10, ?_⟩, ?_⟩
        · rw [hsz1, hsz]; unfold maxLen; omega
        · simp only; rw [hq]; omega
        · simp only; rw [hq]; exact hnext
        · rw [hS, wrI hb10.1 hb10.2]; (try simp -implicitDefEqProofs only [nleL_cc, nleL_nn, nle_self, nle_boxs, nle_aggs, nle_nils, and_self, and_true, true_and]) <;> repeat' (first | exact nle_of_eq rfl | exact nle_nil | apply And.intro | apply nle_sl | apply nleLL_cons | apply nleL_cons | exact nleL_nil | exact nleLL_nil | apply nle_box | apply nle_agg)
      · have e0 : -(k : Int) = (k : Int) := (by have := hlt; simp at this; omega); simp -implicitDefEqProofs (disch := omega) only [go_sem, ↓reduceIte , hm, hd, e0, w1, w2]; refine ⟨[((48 + k : Nat) : Int)], rfl, ?_, by omega, (m.tdiv 10, UInt8.ofNat (48 + k) :: l), ?_, ⟨hb10, ?_⟩, ?_⟩
        · rw [hsz1, hsz]; unfold maxLen; omega
        · simp only; rw [hq]; omega
        · simp only; rw [hq]; exact hnext
        · rw [hS, wrI hb10.1 hb10.2]; (try simp -implicitDefEqProofs only [nleL_cc, nleL_nn, nle_self, nle_boxs, nle_aggs, nle_nils, and_self, and_true, true_and]) <;> repeat' (first | exact nle_of_eq rfl | exact nle_nil | apply And.intro | apply nle_sl | apply nleLL_cons | apply nleL_cons | exact nleL_nil | exact nleLL_nil | apply nle_box | apply nle_agg)
    · have hd : m.tmod 10 = (k : Int) := by
        obtain ⟨u, rfl⟩ : ∃ u : Nat, m = (u : Int) := ⟨m.natAbs, by omega⟩
        have : ((u : Int)).tmod 10 = ((u % 10 : Nat) : Int) := rfl; rw [this, hk]; congr 2
      have hk0 : decide ((k : Int) < 0) = false := (by rw [decide_eq_false_iff_not]; omega); simp -implicitDefEqProofs (disch := omega) only [go_sem, ↓reduceIte , hm, hd, hk0]; refine ⟨by omega, ?_⟩; simp -implicitDefEqProofs (disch := omega) only [go_sem, ↓reduceIte , hm, hd, w1, w2]; refine ⟨[((48 + k : Nat) : Int)], rfl, ?_, by omega, (m.tdiv 10, UInt8.ofNat (48 + k) :: l), ?_, ⟨hb10, ?_⟩, ?_⟩
      · rw [hsz1, hsz]; unfold maxLen; omega
      · simp only; rw [hq]; omega
      · simp only; rw [hq]; exact hnext
      · rw [hS, wrI hb10.1 hb10.2]; (try simp -implicitDefEqProofs only [nleL_cc, nleL_nn, nle_self, nle_boxs, nle_aggs, nle_nils, and_self, and_true, true_and]) <;> repeat' (first | exact nle_of_eq rfl | exact nle_nil | apply And.intro | apply nle_sl | apply nleLL_cons | apply nleL_cons | exact nleL_nil | exact nleLL_nil | apply nle_box | apply nle_agg)
def bsA (ps : List Placed) (p : Point) : Nat := bsP (ps.map (·.At)) p
def atP (ps : List Placed) (p : Point) : Bool := match ps[bsA ps p]? with
  | some x => decide (x.At = p)
  | none => false
def idxA (ps : List Placed) (p : Point) : Int := if atP ps p then (bsA ps p : Nat) else -1
def tileA (ps : List Placed) (p : Point) : Int := if atP ps p then (match ps[bsA ps p]? with | some x => x.Tile | none => -1) else -1
theorem lessAt_pl {ps : List Placed} {p : Point} {k : Nat} (hk : k < ps.length) : lessAt (ps.map (·.At)) p k = lessP ps[k].At p := by unfold lessAt; rw [List.getElem?_map, List.getElem?_eq_getElem hk]; rfl
def code_impl_comparePlaced : VCode := (.seq (.ops [
  ⟨(some 2), none, (.box (.tmp 0))⟩,
  ⟨(some 3), none, (.box (.tmp 1))⟩,
  ⟨(some 4), none, (.asg (.const (.int .i64 0)))⟩]) (.seq (.ops [
  ⟨(some 5), none, (.fa 0 (.tmp 2))⟩,
  ⟨(some 6), none, (.load 2 true (.tmp 5))⟩,
  ⟨(some 7), none, (.load 2 true (.tmp 3))⟩,
  ⟨(some 8), none, (.callX 101 [(.tmp 6), (.tmp 7)])⟩,
  ⟨(some 4), none, (.asg (.tmp 8))⟩]) .ret))
theorem law_impl_comparePlaced {a0 a1 d : D} (h : code_impl_comparePlaced.wp (CT Tryd.prog TabG) (endQ [(.t 4)] d) [a0, a1, .undef, .undef, .undef, .undef, .undef, .undef, .undef]) : Contract Tryd.prog TabG 81 [a0, a1] d :=
  contract_of (pt := 0) tabG Tryd.func81 (fun us W => by kernel_rfl) (c := Tryd.f81.body.getD .skip) (ms := []) (ms' := []) (by kernel_rfl) (by kernel_rfl) (by kernel_rfl) h
theorem v_comparePlaced (t : Placed) (p : Point) : Contract Tryd.prog TabG 81 [.agg (Placed.td.d false t), .agg (Point.td.d false p)] (.v (.int .i64 (cmpP t.At p))) := by rw [Placed.td_d, Point.td_d]; refine law_impl_comparePlaced ?_; unfold code_impl_comparePlaced; simp -implicitDefEqProofs (disch := omega) only [go_sem, ↓reduceIte]; refine call_B (v_comparePoints t.At p) (by simp -implicitDefEqProofs (disch := omega) only [go_sem, ↓reduceIte, deep, TD.rows, immLL_rI, immLL_rB8, immLL_rS, immLL_rBo, immLL_rII, immLL_rIIt]; exact rfl) ?_; simp -implicitDefEqProofs (disch := omega) only [go_sem, ↓reduceIte]
def code_slices_BinarySearchFunc_impl_Placed_impl_Placed_impl_Point : VCode := (.seq (.ops [
  ⟨(some 4), none, (.box (.tmp 1))⟩,
  ⟨(some 6), none, (.asg (.const (.int .i64 0)))⟩,
  ⟨(some 7), none, (.asg (.const (.bool false)))⟩]) (.seq (.ops [
  ⟨(some 12), none, (.mv (.tmp 0))⟩,
  ⟨(some 13), none, (.len (.tmp 12))⟩,
  ⟨(some 8), none, (.asg (.tmp 13))⟩]) (.seq (.ops [
  ⟨(some 14), none, (.mv (.tmp 8))⟩,
  ⟨(some 9), none, (.asg (.const (.int .i64 0)))⟩,
  ⟨(some 10), none, (.asg (.tmp 14))⟩]) (.seq (.block 0 (.loop (mB 49 562949953419498) (.seq (.seq (.ops [
  ⟨(some 15), none, (.mv (.tmp 9))⟩,
  ⟨(some 16), none, (.mv (.tmp 10))⟩,
  ⟨(some 17), none, (.bin .lss (.tmp 15) (.tmp 16))⟩]) (.cond (.tmp 17) .skip (.exit 0))) (.block 1 (.seq (.ops [
  ⟨(some 18), none, (.mv (.tmp 9))⟩,
  ⟨(some 19), none, (.mv (.tmp 10))⟩,
  ⟨(some 20), none, (.bin .add (.tmp 18) (.tmp 19))⟩,
  ⟨(some 21), none, (.conv .u64 (.tmp 20))⟩,
  ⟨(some 22), none, (.bin .shr (.tmp 21) (.const (.int .u64 1)))⟩,
  ⟨(some 23), none, (.conv .i64 (.tmp 22))⟩,
  ⟨(some 11), none, (.asg (.tmp 23))⟩]) (.seq (.draw (mB 30 1056964608) [] [⟨0, (mB 30 1056964608), [], ⟨(some 24), none, (.mv (.tmp 2))⟩⟩, ⟨1, (mB 30 1056964608), [], ⟨(some 25), none, (.mv (.tmp 0))⟩⟩, ⟨2, (mB 30 1056964608), [], ⟨(some 26), none, (.mv (.tmp 11))⟩⟩, ⟨3, (mB 30 956301312), [], ⟨(some 27), none, (.ia 3 (.tmp 25) (.tmp 26))⟩⟩, ⟨4, (mB 30 822083584), [], ⟨(some 28), none, (.load 3 true (.tmp 27))⟩⟩, ⟨5, (mB 30 1056964608), [], ⟨(some 29), none, (.load 2 true (.tmp 4))⟩⟩] [⟨(some 30), none, (.callvX (.tmp 24) [(.tmp 28), (.tmp 29)])⟩, ⟨(some 31), none, (.bin .lss (.tmp 30) (.const (.int .i64 0)))⟩]) (.cond (.tmp 31) (.ops [
  ⟨(some 32), none, (.mv (.tmp 11))⟩,
  ⟨(some 33), none, (.bin .add (.tmp 32) (.const (.int .i64 1)))⟩,
  ⟨(some 9), none, (.asg (.tmp 33))⟩]) (.ops [
  ⟨(some 34), none, (.mv (.tmp 11))⟩,
  ⟨(some 10), none, (.asg (.tmp 34))⟩])))))))) (.seq (.draw (mB 49 562915593683008) (mB 36 34359738368) [⟨0, (mB 49 562915593683008), [], ⟨(some 35), none, (.mv (.tmp 9))⟩⟩, ⟨1, (mB 49 562915593683008), [], ⟨(some 36), none, (.mv (.tmp 9))⟩⟩, ⟨2, (mB 49 562915593683008), [], ⟨(some 37), none, (.mv (.tmp 8))⟩⟩, ⟨3, (mB 49 562709435252800), [], ⟨(some 38), none, (.bin .lss (.tmp 36) (.tmp 37))⟩⟩, ⟨4, (mB 49 562434557345856), [], ⟨(some 39), none, (.mv (.tmp 38))⟩⟩, ⟨5, (mB 49 561884801531968), [], ⟨(some 40), (some (39, true)), (.mv (.tmp 2))⟩⟩, ⟨6, (mB 49 561884801531968), [], ⟨(some 41), (some (39, true)), (.mv (.tmp 0))⟩⟩, ⟨7, (mB 49 561884801531968), [], ⟨(some 42), (some (39, true)), (.mv (.tmp 9))⟩⟩, ⟨8, (mB 49 555287731765312), [], ⟨(some 43), (some (39, true)), (.ia 3 (.tmp 41) (.tmp 42))⟩⟩, ⟨9, (mB 49 546491638743104), [], ⟨(some 44), (some (39, true)), (.load 3 true (.tmp 43))⟩⟩, ⟨10, (mB 49 561884801531968), [], ⟨(some 45), (some (39, true)), (.load 2 true (.tmp 4))⟩⟩, ⟨11, (mB 49 492615568982080), [], ⟨(some 46), (some (39, true)), (.callv (.tmp 40) [(.tmp 44), (.tmp 45)])⟩⟩, ⟨12, (mB 49 422246824804416), [], ⟨(some 47), (some (39, true)), (.bin .eql (.tmp 46) (.const (.int .i64 0)))⟩⟩, ⟨13, (mB 49 281509336449088), [], ⟨(some 48), none, (.pick (.tmp 39) (.tmp 47) (.const (.bool false)))⟩⟩, ⟨14, (mB 49 422212465066048), (mB 36 34359738368), ⟨(some 6), none, (.asg (.tmp 35))⟩⟩] [⟨(some 7), none, (.asg (.tmp 48))⟩]) .ret)))))
theorem law_slices_BinarySearchFunc_impl_Placed_impl_Placed_impl_Point {a0 a1 a2 d : D} (h : code_slices_BinarySearchFunc_impl_Placed_impl_Placed_impl_Point.wp (CT Tryd.prog TabG) (endQ [(.t 6), (.t 7)] d) [a0, a1, a2, .undef, .undef, .undef, .undef, .undef, .undef, .undef, .undef, .undef, .undef, .undef, .undef, .undef, .undef, .undef, .undef, .undef, .undef, .undef, .undef, .undef, .undef, .undef, .undef, .undef, .undef, .undef, .undef, .undef, .undef, .undef, .undef, .undef, .undef, .undef, .undef, .undef, .undef, .undef, .undef, .undef, .undef, .undef, .undef, .undef, .undef]) : Contract Tryd.prog TabG 80 [a0, a1, a2] d :=
  contract_of (pt := 0) tabG Tryd.func80 (fun us W => by kernel_rfl) (c := Tryd.f80.body.getD .skip) (ms := [(mB 49 562949953419498)]) (ms' := []) (by kernel_rfl) (by kernel_rfl) (by kernel_rfl) h
set_option maxHeartbeats 2000000 in
theorem v_BinarySearch_Placed (xs : List Placed) (p : Point) (hn : xs.length ≤ 1048576) : Contract Tryd.prog TabG 80 [.sl false 3 (xs.map (Placed.td.d false)), .agg (Point.td.d false p), .fn 81 [] []] (.tup [.v (.int .i64 (bsA xs p : Nat)), .v (.bool (atP xs p))]) := by
  rw [Point.td_d]; refine law_slices_BinarySearchFunc_impl_Placed_impl_Placed_impl_Point ?_; unfold code_slices_BinarySearchFunc_impl_Placed_impl_Placed_impl_Point; simp -implicitDefEqProofs (disch := omega) only [go_sem, ↓reduceIte , List.length_map]; refine loop_ov (by simp -implicitDefEqProofs (disch := omega) only [go_sem, ↓reduceIte]; exact rfl) (fun z : Nat × Nat => [(9, .v (.int .i64 z.1)), (10, .v (.int .i64 z.2))]) (fun _ => by simp only [ovr_nil, ovr_cons, List.set_cons_zero, List.set_cons_succ]; exact rfl) (fun z : Nat × Nat => z.1 ≤ z.2 ∧ z.2 ≤ xs.length ∧ ∃ n, z.2 - z.1 ≤ n ∧ bsF (lessAt (xs.map (·.At)) p) n z.1 z.2 = bsA xs p) (fun z : Nat × Nat => z.2 - z.1) ((0, xs.length)) (nleA) (?_) ?_
  · exact ⟨Nat.zero_le _, Nat.le_refl _, (xs.map (·.At)).length, by rw [List.length_map]; omega, by unfold bsA bsP; rw [List.length_map]⟩
  rintro ⟨i, j⟩ ⟨h1, h2, n, h3, h4⟩; simp only at h1 h2 h3 h4; simp -implicitDefEqProofs (disch := omega) only [go_sem, ↓reduceIte , List.length_map, Int.toNat_natCast, Int.ofNat_lt, Int.natCast_nonneg, List.getElem?_map, Option.map_some]; refine cond_split ?_ ?_ <;> intro hlt
  · have hlt : i < j := (by simpa using hlt); have hm : (i + j) / 2 < xs.length := (by omega); have e1 := List.getElem?_eq_getElem hm; have hs := shr_half (i := i) (j := j) (by omega) (by omega); have hl := lessAt_pl (p := p) hm; obtain ⟨n, rfl⟩ : ∃ m, n = m + 1 := ⟨n - 1, by omega⟩
    rw [bsF, if_pos hlt] at h4; simp -implicitDefEqProofs (disch := omega) only [go_sem, ↓reduceIte , List.length_map, Int.toNat_natCast, Int.ofNat_lt, Int.natCast_nonneg, List.getElem?_map, Option.map_some, hs, hm, e1, Placed.td_d, Int.reduceLE]; have hcx := v_comparePlaced xs[(i + j) / 2] p; rw [Placed.td_d, Point.td_d] at hcx; refine callv_le (f := 81) (first := []) (caps := []) rfl hcx (leL_of_eq rfl) (.inl rfl) ?_; simp -implicitDefEqProofs (disch := omega) only [go_sem, ↓reduceIte , cmpP_lt]; refine cond_split ?_ ?_ <;> intro hc
    · simp -implicitDefEqProofs (disch := omega) only [go_sem, ↓reduceIte , wrN]; rw [hl, hc, if_pos rfl] at h4; exact ⟨((i + j) / 2 + 1, j), by simp only; omega, ⟨by simp only; omega, h2, n, by simp only; omega, h4⟩, nleA⟩
    · simp -implicitDefEqProofs (disch := omega) only [go_sem, ↓reduceIte]; rw [hl, hc, if_neg (by decide)] at h4; exact ⟨(i, (i + j) / 2), by simp only; omega, ⟨by simp only; omega, by simp only; omega, n, by simp only; omega, h4⟩, nleA⟩
  · have hge : ¬ i < j := (by simpa using hlt); have hb : bsA xs p = i := (by rw [← h4, bsF_end hge]); simp -implicitDefEqProofs (disch := omega) only [go_sem, ↓reduceIte , List.length_map, Int.toNat_natCast, Int.ofNat_lt, Int.natCast_nonneg, List.getElem?_map, Option.map_some]; refine gd_split ?_ ?_ <;> intro hi
    · have hi : i < xs.length := (by simpa using hi); have e1 := List.getElem?_eq_getElem hi; have hh : atP xs p = decide (xs[i].At = p) := (by unfold atP; rw [hb, e1]); simp -implicitDefEqProofs (disch := omega) only [go_sem, ↓reduceIte , List.length_map, Int.toNat_natCast, Int.ofNat_lt, Int.natCast_nonneg, List.getElem?_map, Option.map_some, hi, e1, Placed.td_d]; have hcx := v_comparePlaced xs[i] p; rw [Placed.td_d, Point.td_d] at hcx; refine callv_leN (f := 81) (first := []) (caps := []) rfl hcx (leL_of_eq rfl) (.inl rfl) ?_; simp -implicitDefEqProofs (disch := omega) only [go_sem, ↓reduceIte , cmpP_eq, hi, hb, hh]
    · have hi : ¬ i < xs.length := (by simpa using hi); have hh : atP xs p = false := (by unfold atP; rw [hb, List.getElem?_eq_none (Nat.le_of_not_lt hi)]); simp -implicitDefEqProofs (disch := omega) only [go_sem, ↓reduceIte , hi, hb, hh]
theorem atP_lt {ps : List Placed} {p : Point} (h : atP ps p = true) : ∃ hb : bsA ps p < ps.length, ps[bsA ps p].At = p := by
  unfold atP at h; split at h
  · rename_i x hx; obtain ⟨h1, h2⟩ := List.getElem?_eq_some_iff.1 hx; exact ⟨h1, by rw [h2]; exact of_decide_eq_true h⟩
  · cases h
def code_impl_Assembly_at : VCode := (.seq (.ops [
  ⟨(some 2), none, (.box (.tmp 0))⟩,
  ⟨(some 3), none, (.box (.tmp 1))⟩,
  ⟨(some 4), none, (.asg (.const (.int .i64 0)))⟩]) (.seq (.seq (.ops [
  ⟨(some 8), none, (.fa 0 (.tmp 2))⟩,
  ⟨(some 9), none, (.load 1 false (.tmp 8))⟩,
  ⟨(some 10), none, (.load 2 true (.tmp 3))⟩,
  ⟨(some 11), none, (.callX 80 [(.tmp 9), (.tmp 10), (.func 81)])⟩,
  ⟨(some 7), none, (.mv (.tmp 11))⟩,
  ⟨(some 12), none, (.ext (.tmp 7) 0)⟩,
  ⟨(some 13), none, (.ext (.tmp 7) 1)⟩,
  ⟨(some 5), none, (.asg (.tmp 12))⟩,
  ⟨(some 6), none, (.asg (.tmp 13))⟩]) (.seq (.ops [
  ⟨(some 14), none, (.mv (.tmp 6))⟩]) (.cond (.tmp 14) (.seq (.ops [
  ⟨(some 15), none, (.fa 0 (.tmp 2))⟩,
  ⟨(some 16), none, (.load 1 false (.tmp 15))⟩,
  ⟨(some 17), none, (.mv (.tmp 5))⟩,
  ⟨(some 18), none, (.ia 3 (.tmp 16) (.tmp 17))⟩,
  ⟨(some 19), none, (.fa 2 (.tmp 18))⟩,
  ⟨(some 20), none, (.load 1 false (.tmp 19))⟩,
  ⟨(some 4), none, (.asg (.tmp 20))⟩]) .ret) .skip))) (.seq (.ops [
  ⟨(some 4), none, (.asg (.const (.int .i64 (-1))))⟩]) .ret)))
theorem law_impl_Assembly_at {a0 a1 d : D} (h : code_impl_Assembly_at.wp (CT Tryd.prog TabG) (endQ [(.t 4)] d) [a0, a1, .undef, .undef, .undef, .undef, .undef, .undef, .undef, .undef, .undef, .undef, .undef, .undef, .undef, .undef, .undef, .undef, .undef, .undef, .undef]) : Contract Tryd.prog TabG 49 [a0, a1] d :=
  contract_of (pt := 0) tabG Tryd.func49 (fun us W => by kernel_rfl) (c := Tryd.f49.body.getD .skip) (ms := []) (ms' := []) (by kernel_rfl) (by kernel_rfl) (by kernel_rfl) h
theorem v_at (b : Assembly) (p : Point) (hn : b.Tiles.length ≤ 1048576) : Contract Tryd.prog TabG 49 [.agg (Assembly.td.d false b), .agg (Point.td.d false p)] (.v (.int .i64 (tileA b.Tiles p))) := by
  rw [Assembly.td_d, Point.td_d]; refine law_impl_Assembly_at ?_; unfold code_impl_Assembly_at
  simp -implicitDefEqProofs (disch := omega) only [go_sem, ↓reduceIte]; cases h : atP b.Tiles p with
  | false => refine call_B (v_BinarySearch_Placed b.Tiles p hn) (by simp -implicitDefEqProofs (disch := omega) only [go_sem, ↓reduceIte, deep, TD.rows, immLL_rI, immLL_rB8, immLL_rS, immLL_rBo, immLL_rII, immLL_rIIt, lkF_tup, h, tileA]; exact rfl) ?_; simp -implicitDefEqProofs (disch := omega) only [go_sem, ↓reduceIte , lkF_tup, h, tileA]
  | true => obtain ⟨hb, _⟩ := atP_lt h; have e1 := List.getElem?_eq_getElem hb; refine call_B (v_BinarySearch_Placed b.Tiles p hn) (by simp -implicitDefEqProofs (disch := omega) only [go_sem, ↓reduceIte, deep, TD.rows, immLL_rI, immLL_rB8, immLL_rS, immLL_rBo, immLL_rII, immLL_rIIt, lkF_tup, h, tileA, List.length_map, Int.toNat_natCast, Int.ofNat_lt, Int.natCast_nonneg, List.getElem?_map, Option.map_some, hb, e1, Placed.td_d]; exact rfl) ?_; simp -implicitDefEqProofs (disch := omega) only [go_sem, ↓reduceIte , lkF_tup, h, tileA, List.length_map, Int.toNat_natCast, Int.ofNat_lt, Int.natCast_nonneg, List.getElem?_map, Option.map_some, hb, e1, Placed.td_d]
def code_spec_l03Index : VCode := (.seq (.ops [
  ⟨(some 3), none, (.box (.tmp 1))⟩,
  ⟨(some 4), none, (.asg (.const (.int .i64 0)))⟩]) (.seq (.ops [
  ⟨(some 5), none, (.asg (.const (.int .i64 0)))⟩]) (.seq (.ops [
  ⟨(some 8), none, (.mv (.tmp 0))⟩,
  ⟨(some 9), none, (.nilc (.tmp 8))⟩,
  ⟨(some 10), none, (.fa 0 (.tmp 9))⟩,
  ⟨(some 11), none, (.load 1 false (.tmp 10))⟩,
  ⟨(some 12), none, (.len (.tmp 11))⟩,
  ⟨(some 6), none, (.asg (.tmp 12))⟩]) (.seq (.block 0 (.loop (mB 53 9007199254740886) (.seq (.seq (.ops [
  ⟨(some 13), none, (.mv (.tmp 5))⟩,
  ⟨(some 14), none, (.mv (.tmp 6))⟩,
  ⟨(some 15), none, (.bin .lss (.tmp 13) (.tmp 14))⟩]) (.cond (.tmp 15) .skip (.exit 0))) (.block 1 (.seq (.ops [
  ⟨(some 16), none, (.mv (.tmp 5))⟩,
  ⟨(some 17), none, (.mv (.tmp 6))⟩,
  ⟨(some 18), none, (.bin .add (.tmp 16) (.tmp 17))⟩,
  ⟨(some 19), none, (.bin .quo (.tmp 18) (.const (.int .i64 2)))⟩,
  ⟨(some 7), none, (.asg (.tmp 19))⟩]) (.seq (.draw (mB 29 535822336) [] [⟨0, (mB 29 535822336), [], ⟨(some 20), none, (.mv (.tmp 0))⟩⟩, ⟨1, (mB 29 534773760), [], ⟨(some 21), none, (.nilc (.tmp 20))⟩⟩, ⟨2, (mB 29 532676608), [], ⟨(some 22), none, (.fa 0 (.tmp 21))⟩⟩, ⟨3, (mB 29 528482304), [], ⟨(some 23), none, (.load 1 false (.tmp 22))⟩⟩, ⟨4, (mB 29 535822336), [], ⟨(some 24), none, (.mv (.tmp 7))⟩⟩, ⟨5, (mB 29 503316480), [], ⟨(some 25), none, (.ia 3 (.tmp 23) (.tmp 24))⟩⟩, ⟨6, (mB 29 469762048), [], ⟨(some 26), none, (.fa 0 (.tmp 25))⟩⟩, ⟨7, (mB 29 402653184), [], ⟨(some 27), none, (.load 2 true (.tmp 26))⟩⟩, ⟨8, (mB 29 535822336), [], ⟨(some 28), none, (.load 2 true (.tmp 3))⟩⟩] [⟨(some 29), none, (.callX 93 [(.tmp 27), (.tmp 28)])⟩]) (.cond (.tmp 29) (.ops [
  ⟨(some 30), none, (.mv (.tmp 7))⟩,
  ⟨(some 31), none, (.bin .add (.tmp 30) (.const (.int .i64 1)))⟩,
  ⟨(some 5), none, (.asg (.tmp 31))⟩]) (.ops [
  ⟨(some 32), none, (.mv (.tmp 7))⟩,
  ⟨(some 6), none, (.asg (.tmp 32))⟩])))))))) (.seq (.seq (.draw (mB 50 1125891316908032) [] [⟨0, (mB 50 1125891316908032), [], ⟨(some 33), none, (.mv (.tmp 5))⟩⟩, ⟨1, (mB 50 1125891316908032), [], ⟨(some 34), none, (.mv (.tmp 0))⟩⟩, ⟨2, (mB 50 1125874137038848), [], ⟨(some 35), none, (.nilc (.tmp 34))⟩⟩, ⟨3, (mB 50 1125839777300480), [], ⟨(some 36), none, (.fa 0 (.tmp 35))⟩⟩, ⟨4, (mB 50 1125771057823744), [], ⟨(some 37), none, (.load 1 false (.tmp 36))⟩⟩, ⟨5, (mB 50 1125633618870272), [], ⟨(some 38), none, (.len (.tmp 37))⟩⟩, ⟨6, (mB 50 1125350151028736), [], ⟨(some 39), none, (.bin .lss (.tmp 33) (.tmp 38))⟩⟩, ⟨7, (mB 50 1124800395214848), [], ⟨(some 40), none, (.mv (.tmp 39))⟩⟩, ⟨8, (mB 50 1123700883587072), [], ⟨(some 41), (some (40, true)), (.mv (.tmp 0))⟩⟩, ⟨9, (mB 50 1121501860331520), [], ⟨(some 42), (some (40, true)), (.nilc (.tmp 41))⟩⟩, ⟨10, (mB 50 1117103813820416), [], ⟨(some 43), (some (40, true)), (.fa 0 (.tmp 42))⟩⟩, ⟨11, (mB 50 1108307720798208), [], ⟨(some 44), (some (40, true)), (.load 1 false (.tmp 43))⟩⟩, ⟨12, (mB 50 1123700883587072), [], ⟨(some 45), (some (40, true)), (.mv (.tmp 5))⟩⟩, ⟨13, (mB 50 1055531162664960), [], ⟨(some 46), (some (40, true)), (.ia 3 (.tmp 44) (.tmp 45))⟩⟩, ⟨14, (mB 50 985162418487296), [], ⟨(some 47), (some (40, true)), (.fa 0 (.tmp 46))⟩⟩, ⟨15, (mB 50 844424930131968), [], ⟨(some 48), (some (40, true)), (.load 2 true (.tmp 47))⟩⟩, ⟨16, (mB 50 1123700883587072), [], ⟨(some 49), (some (40, true)), (.load 2 true (.tmp 3))⟩⟩] [⟨(some 50), (some (40, true)), (.eqs false [1, 1] (.tmp 48) (.tmp 49))⟩, ⟨(some 51), none, (.pick (.tmp 40) (.tmp 50) (.const (.bool false)))⟩]) (.cond (.tmp 51) (.seq (.ops [
  ⟨(some 52), none, (.mv (.tmp 5))⟩,
  ⟨(some 4), none, (.asg (.tmp 52))⟩]) .ret) .skip)) (.seq (.ops [
  ⟨(some 4), none, (.asg (.const (.int .i64 (-1))))⟩]) .ret))))))
theorem law_spec_l03Index {a0 a1 d : D} (h : code_spec_l03Index.wp (CT Tryd.prog TabG) (endQ [(.t 4)] d) [a0, a1, .undef, .undef, .undef, .undef, .undef, .undef, .undef, .undef, .undef, .undef, .undef, .undef, .undef, .undef, .undef, .undef, .undef, .undef, .undef, .undef, .undef, .undef, .undef, .undef, .undef, .undef, .undef, .undef, .undef, .undef, .undef, .undef, .undef, .undef, .undef, .undef, .undef, .undef, .undef, .undef, .undef, .undef, .undef, .undef, .undef, .undef, .undef, .undef, .undef, .undef, .undef]) : Contract Tryd.prog TabG 71 [a0, a1] d :=
  contract_of (pt := 0) tabG Tryd.func71 (fun us W => by kernel_rfl) (c := Tryd.f71.body.getD .skip) (ms := [(mB 53 9007199254740886)]) (ms' := []) (by kernel_rfl) (by kernel_rfl) (by kernel_rfl) h
set_option maxHeartbeats 2000000 in
theorem v_l03Index (b : Assembly) (p : Point) (hn : b.Tiles.length ≤ 1048576) : Contract Tryd.prog TabG 71 [.iptr (Assembly.td.d false b) 0, .agg (Point.td.d false p)] (.v (.int .i64 (idxA b.Tiles p))) := by
  rw [Assembly.td_d, Point.td_d]; refine law_spec_l03Index ?_; unfold code_spec_l03Index; simp -implicitDefEqProofs (disch := omega) only [go_sem, ↓reduceIte , List.length_map]; refine loop_ov (by simp -implicitDefEqProofs (disch := omega) only [go_sem, ↓reduceIte]; exact rfl) (fun z : Nat × Nat => [(5, .v (.int .i64 z.1)), (6, .v (.int .i64 z.2))]) (fun _ => by simp only [ovr_nil, ovr_cons, List.set_cons_zero, List.set_cons_succ]; exact rfl) (fun z : Nat × Nat => z.1 ≤ z.2 ∧ z.2 ≤ b.Tiles.length ∧ ∃ n, z.2 - z.1 ≤ n ∧ bsF (lessAt (b.Tiles.map (·.At)) p) n z.1 z.2 = bsA b.Tiles p) (fun z : Nat × Nat => z.2 - z.1) ((0, b.Tiles.length)) (nleA) (?_) ?_
  · exact ⟨Nat.zero_le _, Nat.le_refl _, (b.Tiles.map (·.At)).length, by rw [List.length_map]; omega, by unfold bsA bsP; rw [List.length_map]⟩
  rintro ⟨i, j⟩ ⟨h1, h2, n, h3, h4⟩; simp only at h1 h2 h3 h4; simp -implicitDefEqProofs (disch := omega) only [go_sem, ↓reduceIte , List.length_map, Int.toNat_natCast, Int.ofNat_lt, Int.natCast_nonneg, List.getElem?_map, Option.map_some]; refine cond_split ?_ ?_ <;> intro hlt
  · have hlt : i < j := (by simpa using hlt); have hm : (i + j) / 2 < b.Tiles.length := (by omega); have e1 := List.getElem?_eq_getElem hm; have hs := quo_half (i := i) (j := j) (by omega) (by omega); have hl := lessAt_pl (p := p) hm; obtain ⟨n, rfl⟩ : ∃ m, n = m + 1 := ⟨n - 1, by omega⟩
    rw [bsF, if_pos hlt] at h4; simp -implicitDefEqProofs (disch := omega) only [go_sem, ↓reduceIte , List.length_map, Int.toNat_natCast, Int.ofNat_lt, Int.natCast_nonneg, List.getElem?_map, Option.map_some, hs, hm, e1, Placed.td_d, Int.reduceEq]; refine call_B (v_LessPoint_spec b.Tiles[(i + j) / 2].At p) (by simp -implicitDefEqProofs (disch := omega) only [go_sem, ↓reduceIte, deep, TD.rows, immLL_rI, immLL_rB8, immLL_rS, immLL_rBo, immLL_rII, immLL_rIIt]; exact rfl) ?_; simp -implicitDefEqProofs (disch := omega) only [go_sem, ↓reduceIte]; refine cond_split ?_ ?_ <;> intro hc
    · simp -implicitDefEqProofs (disch := omega) only [go_sem, ↓reduceIte , wrN]; rw [hl, hc, if_pos rfl] at h4; exact ⟨((i + j) / 2 + 1, j), by simp only; omega, ⟨by simp only; omega, h2, n, by simp only; omega, h4⟩, nleA⟩
    · simp -implicitDefEqProofs (disch := omega) only [go_sem, ↓reduceIte]; rw [hl, hc, if_neg (by decide)] at h4; exact ⟨(i, (i + j) / 2), by simp only; omega, ⟨by simp only; omega, by simp only; omega, n, by simp only; omega, h4⟩, nleA⟩
  · have hge : ¬ i < j := (by simpa using hlt); have hb : bsA b.Tiles p = i := (by rw [← h4, bsF_end hge]); simp -implicitDefEqProofs (disch := omega) only [go_sem, ↓reduceIte , List.length_map, Int.toNat_natCast, Int.ofNat_lt, Int.natCast_nonneg, List.getElem?_map, Option.map_some]; refine gd_split ?_ ?_ <;> intro hi
    · have hi : i < b.Tiles.length := (by simpa using hi); have e1 := List.getElem?_eq_getElem hi; have hh : atP b.Tiles p = decide (b.Tiles[i].At = p) := (by unfold atP; rw [hb, e1]); have hd : (decide (b.Tiles[i].At.X = p.X) && decide (b.Tiles[i].At.Y = p.Y)) = decide (b.Tiles[i].At = p) := Point.eq_dec _ _; cases hc : decide (b.Tiles[i].At = p) with
      | false => rw [hc] at hd hh; simp -implicitDefEqProofs (disch := omega) only [go_sem, ↓reduceIte , List.length_map, Int.toNat_natCast, Int.ofNat_lt, Int.natCast_nonneg, List.getElem?_map, Option.map_some, hi, e1, Placed.td_d, hd, idxA, hh]
      | true => rw [hc] at hd hh; simp -implicitDefEqProofs (disch := omega) only [go_sem, ↓reduceIte , List.length_map, Int.toNat_natCast, Int.ofNat_lt, Int.natCast_nonneg, List.getElem?_map, Option.map_some, hi, e1, Placed.td_d, hd, idxA, hh, hb]
    · have hi : ¬ i < b.Tiles.length := (by simpa using hi); have hh : atP b.Tiles p = false := (by unfold atP; rw [hb, List.getElem?_eq_none (Nat.le_of_not_lt hi)]); simp -implicitDefEqProofs (disch := omega) only [go_sem, ↓reduceIte , hi, idxA, hh]
def code_spec_l03At : VCode := (.seq (.ops [
  ⟨(some 3), none, (.box (.tmp 1))⟩,
  ⟨(some 4), none, (.asg (.const (.int .i64 0)))⟩]) (.seq (.ops [
  ⟨(some 6), none, (.mv (.tmp 0))⟩,
  ⟨(some 7), none, (.load 2 true (.tmp 3))⟩,
  ⟨(some 8), none, (.callX 71 [(.tmp 6), (.tmp 7)])⟩,
  ⟨(some 5), none, (.asg (.tmp 8))⟩]) (.seq (.seq (.ops [
  ⟨(some 9), none, (.mv (.tmp 5))⟩,
  ⟨(some 10), none, (.bin .lss (.tmp 9) (.const (.int .i64 0)))⟩]) (.cond (.tmp 10) (.seq (.ops [
  ⟨(some 4), none, (.asg (.const (.int .i64 (-1))))⟩]) .ret) .skip)) (.seq (.ops [
  ⟨(some 11), none, (.mv (.tmp 0))⟩,
  ⟨(some 12), none, (.nilc (.tmp 11))⟩,
  ⟨(some 13), none, (.fa 0 (.tmp 12))⟩,
  ⟨(some 14), none, (.load 1 false (.tmp 13))⟩,
  ⟨(some 15), none, (.mv (.tmp 5))⟩,
  ⟨(some 16), none, (.ia 3 (.tmp 14) (.tmp 15))⟩,
  ⟨(some 17), none, (.fa 2 (.tmp 16))⟩,
  ⟨(some 18), none, (.load 1 false (.tmp 17))⟩,
  ⟨(some 4), none, (.asg (.tmp 18))⟩]) .ret))))
theorem law_spec_l03At {a0 a1 d : D} (h : code_spec_l03At.wp (CT Tryd.prog TabG) (endQ [(.t 4)] d) [a0, a1, .undef, .undef, .undef, .undef, .undef, .undef, .undef, .undef, .undef, .undef, .undef, .undef, .undef, .undef, .undef, .undef, .undef]) : Contract Tryd.prog TabG 41 [a0, a1] d :=
  contract_of (pt := 0) tabG Tryd.func41 (fun us W => by kernel_rfl) (c := Tryd.f41.body.getD .skip) (ms := []) (ms' := []) (by kernel_rfl) (by kernel_rfl) (by kernel_rfl) h
theorem v_l03At (b : Assembly) (p : Point) (hn : b.Tiles.length ≤ 1048576) : Contract Tryd.prog TabG 41 [.iptr (Assembly.td.d false b) 0, .agg (Point.td.d false p)] (.v (.int .i64 (tileA b.Tiles p))) := by
  rw [Assembly.td_d, Point.td_d]; refine law_spec_l03At ?_; unfold code_spec_l03At; simp -implicitDefEqProofs (disch := omega) only [go_sem, ↓reduceIte]; cases h : atP b.Tiles p with
  | false => have hi : idxA b.Tiles p = -1 := (by unfold idxA; rw [h]; rfl); refine call_B (v_l03Index b p hn) (by simp -implicitDefEqProofs (disch := omega) only [go_sem, ↓reduceIte, deep, TD.rows, immLL_rI, immLL_rB8, immLL_rS, immLL_rBo, immLL_rII, immLL_rIIt, hi, h, tileA, Int.reduceLT]; exact rfl) ?_; simp -implicitDefEqProofs (disch := omega) only [go_sem, ↓reduceIte , hi, h, tileA, Int.reduceLT]
  | true => obtain ⟨hb, _⟩ := atP_lt h; have e1 := List.getElem?_eq_getElem hb; have hi : idxA b.Tiles p = (bsA b.Tiles p : Nat) := (by unfold idxA; rw [h]; rfl); have d1 : decide (((bsA b.Tiles p : Nat) : Int) < 0) = false := (by rw [decide_eq_false_iff_not]; omega); refine call_B (v_l03Index b p hn) (by simp -implicitDefEqProofs (disch := omega) only [go_sem, ↓reduceIte, deep, TD.rows, immLL_rI, immLL_rB8, immLL_rS, immLL_rBo, immLL_rII, immLL_rIIt, hi, h, tileA, d1, List.length_map, Int.toNat_natCast, Int.ofNat_lt, Int.natCast_nonneg, List.getElem?_map, Option.map_some, hb, e1, Placed.td_d]; exact rfl) ?_; simp -implicitDefEqProofs (disch := omega) only [go_sem, ↓reduceIte , hi, h, tileA, d1, List.length_map, Int.toNat_natCast, Int.ofNat_lt, Int.natCast_nonneg, List.getElem?_map, Option.map_some, hb, e1, Placed.td_d]
end Go.Proofs.YtlmkgjigldmbaaaDoor
