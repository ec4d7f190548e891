/- Laws that the proof stands on. -/
import Derived.Test.YtjcmijfompcphaaDoorZVB
import Derived.Test.YtjcmijfompcphaaDoorProg
import Derived.Test.YtjcmijfompcphaaDoorZVTab
import Derived.Test.YtjcmijfompcphaaDoorZg11
import Derived.Test.YtjcmijfompcphaaDoorZg12
import Derived.Test.YtjcmijfompcphaaDoorZg8
set_option linter.all false
namespace Go.Proofs.YtjcmijfompcphaaDoor
open Go.RowKit Go.V
attribute [local go_sem] List.getElem?_cons_succ List.getElem?_cons_zero List.set_cons_succ List.set_cons_zero List.map_cons List.map_nil List.length_cons List.length_nil List.all_cons List.all_nil List.drop_succ_cons List.drop_zero List.take_succ_cons List.take_zero List.flatMap_cons List.flatMap_nil List.cons_append List.nil_append List.append_nil List.headD_cons Value.oneCell' Bool.and_true Bool.true_and Bool.or_false Bool.false_or Bool.and_self Bool.not_true Bool.not_false and_true true_and beq_self_eq_true Bool.false_eq_true if_true if_false Nat.zero_add Nat.reduceAdd Nat.reduceMul Nat.reduceLeDiff Nat.le_refl Option.isSome_some Option.isSome_none not_true_eq_false not_false_eq_true ne_eq reduceCtorEq List.reverse_nil bne_self_eq_false Nat.reduceEqDiff List.isPrefixOf Bool.not_eq_true Bool.and_false Bool.false_and Bool.true_or Bool.or_true decide_true decide_false Nat.reduceBEq Nat.reduceBNe List.replicate_succ List.replicate_zero exists_eq_left' exists_eq_left Option.some.injEq or_false or_true true_or false_or Option.map_some Option.map_none mB Nat.reduceMod Nat.reduceDiv
set_option maxRecDepth 100000
def inR (lo hi n : Int) : Bool := decide (lo ≤ n) && decide (n ≤ hi)
theorem inR_iff {lo hi n : Int} : inR lo hi n = true ↔ lo ≤ n ∧ n ≤ hi := by simp [inR]
def code_spec_l00In : VCode := (.seq (.ops [
  ⟨(some 6), none, (.asg (.const (.bool false)))⟩]) (.seq (.ops [
  ⟨(some 7), none, (.mv (.tmp 0))⟩,
  ⟨(some 8), none, (.mv (.tmp 1))⟩,
  ⟨(some 9), none, (.bin .geq (.tmp 7) (.tmp 8))⟩,
  ⟨(some 10), none, (.mv (.tmp 9))⟩,
  ⟨(some 11), (some (10, true)), (.mv (.tmp 0))⟩,
  ⟨(some 12), (some (10, true)), (.mv (.tmp 2))⟩,
  ⟨(some 13), (some (10, true)), (.bin .leq (.tmp 11) (.tmp 12))⟩,
  ⟨(some 14), none, (.pick (.tmp 10) (.tmp 13) (.const (.bool false)))⟩,
  ⟨(some 6), none, (.asg (.tmp 14))⟩]) .ret))
theorem law_spec_l00In {a0 a1 a2 d : D} (h : code_spec_l00In.wp (CT Tryd.prog TabG) (endQ [(.t 6)] d) [a0, a1, a2, .undef, .undef, .undef, .undef, .undef, .undef, .undef, .undef, .undef, .undef, .undef, .undef]) : Contract Tryd.prog TabG 20 [a0, a1, a2] d :=
  contract_of (pt := 0) tabG Tryd.func20 (fun us W => by kernel_rfl) (c := Tryd.f20.body.getD .skip) (ms := []) (ms' := []) (by kernel_rfl) (by kernel_rfl) (by kernel_rfl) h
theorem v_l00In (a b c : Int) : Contract Tryd.prog TabG 20 [.v (.int .i64 a), .v (.int .i64 b), .v (.int .i64 c)] (.v (.bool (inR b c a))) := by
  refine law_spec_l00In ?_; unfold code_spec_l00In inR; simp -implicitDefEqProofs (disch := omega) only [go_sem, ↓reduceIte]; refine guard_split ?_ ?_ <;> intro h
  · simp -implicitDefEqProofs (disch := omega) only [go_sem, ↓reduceIte , h]
  · simp -implicitDefEqProofs (disch := omega) only [go_sem, ↓reduceIte , h]
def code_impl_within : VCode := (.seq (.ops [
  ⟨(some 6), none, (.asg (.const (.bool false)))⟩]) (.seq (.ops [
  ⟨(some 7), none, (.mv (.tmp 0))⟩,
  ⟨(some 8), none, (.mv (.tmp 1))⟩,
  ⟨(some 9), none, (.bin .geq (.tmp 7) (.tmp 8))⟩,
  ⟨(some 10), none, (.mv (.tmp 9))⟩,
  ⟨(some 11), (some (10, true)), (.mv (.tmp 0))⟩,
  ⟨(some 12), (some (10, true)), (.mv (.tmp 2))⟩,
  ⟨(some 13), (some (10, true)), (.bin .leq (.tmp 11) (.tmp 12))⟩,
  ⟨(some 14), none, (.pick (.tmp 10) (.tmp 13) (.const (.bool false)))⟩,
  ⟨(some 6), none, (.asg (.tmp 14))⟩]) .ret))
theorem law_impl_within {a0 a1 a2 d : D} (h : code_impl_within.wp (CT Tryd.prog TabG) (endQ [(.t 6)] d) [a0, a1, a2, .undef, .undef, .undef, .undef, .undef, .undef, .undef, .undef, .undef, .undef, .undef, .undef]) : Contract Tryd.prog TabG 25 [a0, a1, a2] d :=
  contract_of (pt := 0) tabG Tryd.func25 (fun us W => by kernel_rfl) (c := Tryd.f25.body.getD .skip) (ms := []) (ms' := []) (by kernel_rfl) (by kernel_rfl) (by kernel_rfl) h
theorem v_within (a b c : Int) : Contract Tryd.prog TabG 25 [.v (.int .i64 a), .v (.int .i64 b), .v (.int .i64 c)] (.v (.bool (inR b c a))) := by
  refine law_impl_within ?_; unfold code_impl_within inR; simp -implicitDefEqProofs (disch := omega) only [go_sem, ↓reduceIte]; refine guard_split ?_ ?_ <;> intro h
  · simp -implicitDefEqProofs (disch := omega) only [go_sem, ↓reduceIte , h]
  · simp -implicitDefEqProofs (disch := omega) only [go_sem, ↓reduceIte , h]
def bytS (l : List UInt8) : ByteArray := ⟨l.toArray⟩
def decS (n : Int) : ByteArray := ⟨(itoaS n).toArray⟩
def digs (u : Nat) : List UInt8 := if u = 0 then [] else Lib.decDigits u
theorem digs_step {u : Nat} (h : u ≠ 0) : digs u = digs (u / 10) ++ [UInt8.ofNat (48 + u % 10)] := by
  unfold digs; rw [if_neg h, Lib.decDigits]; by_cases h9 : u < 10
  · rw [dif_pos h9, if_pos (by omega), Nat.mod_eq_of_lt h9]; rfl
  · rw [dif_neg h9, if_neg (by omega)]
theorem digs_len {u k : Nat} (h : u < 10 ^ k) : (digs u).length ≤ k := by
  induction k generalizing u with
  | zero => have : u = 0 := by omega
            subst this; simp [digs]
  | succ k ih =>
    by_cases h0 : u = 0
    · subst h0; simp [digs]
    · rw [digs_step h0, List.length_append]; have := ih (u := u / 10) (by rw [Nat.pow_succ] at h; omega); simp only [List.length_cons, List.length_nil]; omega
theorem decS_size (n : Int) (hn : InK .i64 n) : (decS n).size ≤ 20 := by
  have hn' : -9223372036854775808 ≤ n ∧ n ≤ 9223372036854775807 := (by have := hn; unfold InK at this; omega); have h1 : (decS n).size = (itoaS n).length := rfl; have h2 : ∀ u : Nat, u < 10 ^ 19 → (Lib.decDigits u).length ≤ 19 := by
    intro u hu; by_cases h0 : u = 0
    · subst h0; rw [Lib.decDigits]; simp
    · have := digs_len hu; unfold digs at this; rwa [if_neg h0] at this
  rw [h1]; unfold itoaS Lib.itoa; by_cases h : n < 0
  · rw [if_pos h, List.length_cons]; have := h2 n.natAbs (by omega); omega
  · rw [if_neg h]; have := h2 n.toNat (by omega)
    omega
def code_impl_Decimal : VCode := (.seq (.ops [
  ⟨(some 2), none, (.asg (.const (.string ⟨⟨[]⟩⟩)))⟩]) (.seq (.ops [
  ⟨(some 3), none, (.mv (.tmp 0))⟩,
  ⟨(some 4), none, (.callX 32 [(.tmp 3), (.const (.int .i64 10))])⟩,
  ⟨(some 2), none, (.asg (.tmp 4))⟩]) .ret))
theorem law_impl_Decimal {a0 d : D} (h : code_impl_Decimal.wp (CT Tryd.prog TabG) (endQ [(.t 2)] d) [a0, .undef, .undef, .undef, .undef]) : Contract Tryd.prog TabG 16 [a0] d :=
  contract_of (pt := 0) tabG Tryd.func16 (fun us W => by kernel_rfl) (c := Tryd.f16.body.getD .skip) (ms := []) (ms' := []) (by kernel_rfl) (by kernel_rfl) (by kernel_rfl) h
theorem v_Decimal_impl (n : Int) (hn : InK .i64 n) : Contract Tryd.prog TabG 16 [.v (.int .i64 n)] (.v (.string (decS n))) := by refine law_impl_Decimal ?_; unfold code_impl_Decimal; simp -implicitDefEqProofs (disch := omega) only [go_sem, ↓reduceIte]; refine call_B (v_FormatInt n hn) (by simp -implicitDefEqProofs (disch := omega) only [go_sem, ↓reduceIte, deep, TD.rows, immLL_rI, immLL_rB8, immLL_rS, immLL_rBo, immLL_rII, immLL_rIIt]; exact rfl) ?_; simp -implicitDefEqProofs (disch := omega) only [go_sem, ↓reduceIte]; rfl
def code_spec_Decimal : VCode := (.seq (.ops [
  ⟨(some 2), none, (.asg (.const (.string ⟨⟨[]⟩⟩)))⟩]) (.seq (.ops [
  ⟨(some 3), none, (.asg (.const (.string ⟨⟨[]⟩⟩)))⟩]) (.seq (.ops [
  ⟨(some 6), none, (.mv (.tmp 0))⟩,
  ⟨(some 4), none, (.asg (.tmp 6))⟩]) (.seq (.block 0 (.loop (mB 31 2147483622) (.seq (.seq (.ops [
  ⟨(some 7), none, (.mv (.tmp 4))⟩,
  ⟨(some 8), none, (.bin .neq (.tmp 7) (.const (.int .i64 0)))⟩]) (.cond (.tmp 8) .skip (.exit 0))) (.block 1 (.seq (.ops [
  ⟨(some 9), none, (.mv (.tmp 4))⟩,
  ⟨(some 10), none, (.bin .rem (.tmp 9) (.const (.int .i64 10)))⟩,
  ⟨(some 5), none, (.asg (.tmp 10))⟩]) (.seq (.seq (.ops [
  ⟨(some 11), none, (.mv (.tmp 5))⟩,
  ⟨(some 12), none, (.bin .lss (.tmp 11) (.const (.int .i64 0)))⟩]) (.cond (.tmp 12) (.ops [
  ⟨(some 13), none, (.mv (.tmp 5))⟩,
  ⟨(some 14), none, (.un .neg (.tmp 13))⟩,
  ⟨(some 5), none, (.asg (.tmp 14))⟩]) .skip)) (.seq (.ops [
  ⟨(some 15), none, (.mv (.tmp 5))⟩,
  ⟨(some 16), none, (.bin .add (.const (.int .i64 48)) (.tmp 15))⟩,
  ⟨(some 17), none, (.conv .u8 (.tmp 16))⟩,
  ⟨(some 18), none, (.bsl 1 [(.tmp 17)])⟩,
  ⟨(some 19), none, (.b2s (.tmp 18))⟩,
  ⟨(some 20), none, (.mv (.tmp 3))⟩,
  ⟨(some 21), none, (.bin .add (.tmp 19) (.tmp 20))⟩,
  ⟨(some 3), none, (.asg (.tmp 21))⟩]) (.ops [
  ⟨(some 22), none, (.mv (.tmp 4))⟩,
  ⟨(some 23), none, (.bin .quo (.tmp 22) (.const (.int .i64 10)))⟩,
  ⟨(some 4), none, (.asg (.tmp 23))⟩])))))))) (.seq (.seq (.ops [
  ⟨(some 24), none, (.mv (.tmp 0))⟩,
  ⟨(some 25), none, (.bin .eql (.tmp 24) (.const (.int .i64 0)))⟩]) (.cond (.tmp 25) (.seq (.ops [
  ⟨(some 2), none, (.asg (.const (.string ⟨⟨[48]⟩⟩)))⟩]) .ret) .skip)) (.seq (.seq (.ops [
  ⟨(some 26), none, (.mv (.tmp 0))⟩,
  ⟨(some 27), none, (.bin .lss (.tmp 26) (.const (.int .i64 0)))⟩]) (.cond (.tmp 27) (.seq (.ops [
  ⟨(some 28), none, (.mv (.tmp 3))⟩,
  ⟨(some 29), none, (.bin .add (.const (.string ⟨⟨[45]⟩⟩)) (.tmp 28))⟩,
  ⟨(some 2), none, (.asg (.tmp 29))⟩]) .ret) .skip)) (.seq (.ops [
  ⟨(some 30), none, (.mv (.tmp 3))⟩,
  ⟨(some 2), none, (.asg (.tmp 30))⟩]) .ret)))))))
theorem law_spec_Decimal {a0 d : D} (h : code_spec_Decimal.wp (CT Tryd.prog TabG) (endQ [(.t 2)] d) [a0, .undef, .undef, .undef, .undef, .undef, .undef, .undef, .undef, .undef, .undef, .undef, .undef, .undef, .undef, .undef, .undef, .undef, .undef, .undef, .undef, .undef, .undef, .undef, .undef, .undef, .undef, .undef, .undef, .undef, .undef]) : Contract Tryd.prog TabG 22 [a0] d :=
  contract_of (pt := 0) tabG Tryd.func22 (fun us W => by kernel_rfl) (c := Tryd.f22.body.getD .skip) (ms := [(mB 31 2147483622)]) (ms' := []) (by kernel_rfl) (by kernel_rfl) (by kernel_rfl) h
theorem v_Decimal_spec (n : Int) (hn : InK .i64 n) : Contract Tryd.prog TabG 22 [.v (.int .i64 n)] (.v (.string (decS n))) := by
  refine law_spec_Decimal ?_; unfold code_spec_Decimal; have hn' : -9223372036854775808 ≤ n ∧ n ≤ 9223372036854775807 := by have := hn; unfold InK at this; omega
  simp -implicitDefEqProofs (disch := omega) only [go_sem, ↓reduceIte]; refine loop_ov (by simp -implicitDefEqProofs (disch := omega) only [go_sem, ↓reduceIte]; exact rfl) (fun z : Int × List UInt8 => [(3, .v (.string (bytS z.2))), (4, .v (.int .i64 z.1))]) (fun _ => by simp only [ovr_nil, ovr_cons, List.set_cons_zero, List.set_cons_succ]; exact rfl) (fun z : Int × List UInt8 => (-9223372036854775808 ≤ z.1 ∧ z.1 ≤ 9223372036854775807) ∧ digs z.1.natAbs ++ z.2 = digs n.natAbs) (fun z : Int × List UInt8 => z.1.natAbs) ((n, [])) (nleA) (?_) ?_
  · exact ⟨hn', by simp⟩
  rintro ⟨m, l⟩ ⟨h1, h2⟩; simp only at h1 h2; have hlen : (digs n.natAbs).length ≤ 20 := digs_len (k := 20) (by omega); have hl : l.length ≤ 20 := by rw [← h2, List.length_append] at hlen; omega
  have hsz : (bytS l).size = l.length := rfl; by_cases hm : m = 0
  · subst hm; have e2 : l = digs n.natAbs := h2; by_cases h0 : n = 0
    · subst h0; simp -implicitDefEqProofs (disch := omega) only [go_sem, ↓reduceIte , decide_true]; have e : itoaS 0 = [48] := by simp [itoaS, Lib.itoa, Lib.decDigits]
      unfold decS; rw [e]
    · have hd : digs n.natAbs = Lib.decDigits n.natAbs := (by unfold digs; rw [if_neg (by omega)]); by_cases h3 : n < 0
      · simp -implicitDefEqProofs (disch := omega) only [go_sem, ↓reduceIte , h0, h3, decide_true, decide_false]; refine ⟨by rw [hsz]; unfold maxLen; show 1 + l.length ≤ _; omega, ?_⟩; have e : itoaS n = 45 :: l := by unfold itoaS Lib.itoa; rw [if_pos h3, e2, hd]
        unfold decS bytS; rw [e]; exact congrArg Value.string (by apply ByteArray.ext; simp)
      · simp -implicitDefEqProofs (disch := omega) only [go_sem, ↓reduceIte , h0, h3, decide_true, decide_false]; have e : itoaS n = l := by unfold itoaS Lib.itoa; rw [if_neg h3, e2, hd]; congr 1; omega
        unfold decS bytS; rw [e]
  · obtain ⟨k, hk⟩ : ∃ k, k = m.natAbs % 10 := ⟨_, rfl⟩
    have hk9 : k ≤ 9 := (by omega); have hm0 : m.natAbs ≠ 0 := (by omega); have hS : strI [((48 + k : Nat) : Int)] ++ bytS l = bytS (UInt8.ofNat (48 + k) :: l) := (by apply ByteArray.ext; simp only [strI, bytS, List.map_cons, List.map_nil, Int.toNat_natCast]; simp); have hq : (m.tdiv 10).natAbs = m.natAbs / 10 := (by rw [Int.natAbs_tdiv]; rfl); have hnext : digs (m.natAbs / 10) ++ UInt8.ofNat (48 + k) :: l = digs n.natAbs := (by rw [← h2, digs_step hm0, ← hk, List.append_assoc]; rfl); have hb10 : -9223372036854775808 ≤ m.tdiv 10 ∧ m.tdiv 10 ≤ 9223372036854775807 := (by have : (m.tdiv 10).natAbs ≤ 922337203685477580 := (by rw [hq]; omega); omega); have hsz1 : (strI [((48 + k : Nat) : Int)]).size = 1 := rfl; have w1 : IntKind.i64.wrap (48 + (k : Int)) = ((48 + k : Nat) : Int) := (by rw [wrI (by omega) (by omega)]; omega); have w2 : IntKind.u8.wrap ((48 + k : Nat) : Int) = ((48 + k : Nat) : Int) := (by simp [IntKind.wrap, IntKind.signed, IntKind.bits]; omega); by_cases h3 : m < 0
    · have hd : m.tmod 10 = -(k : Int) := by
        obtain ⟨u, rfl⟩ : ∃ u : Nat, m = -(u : Int) := ⟨m.natAbs, by omega⟩
        rw [Int.neg_tmod]; have : ((u : Int)).tmod 10 = ((u % 10 : Nat) : Int) := rfl; rw [this, hk]; congr 2; omega
      have w3 : IntKind.i64.wrap (-(-(k : Int))) = (k : Int) := (by rw [wrI (by omega) (by omega)]; omega); have w4 : IntKind.i64.wrap (0 - (-(k : Int))) = (k : Int) := (by rw [wrI (by omega) (by omega)]; omega); simp -implicitDefEqProofs (disch := omega) only [go_sem, ↓reduceIte , hm, hd]; refine ⟨by omega, cond_split ?_ ?_⟩ <;> intro hlt
      · simp -implicitDefEqProofs (disch := omega) only [go_sem, ↓reduceIte , hm, hd, w1, w2, w3, w4]; refine ⟨[((48 + k : Nat) : Int)], rfl, ?_, by omega, (m.tdiv 10, UInt8.ofNat (48 + k) :: l), ?_, ⟨hb10, ?_⟩, ?_⟩
        · rw [hsz1, hsz]; unfold maxLen; omega
        · simp only; rw [hq]; omega
        · simp only; rw [hq]; exact hnext
        · rw [hS, wrI hb10.1 hb10.2]; (try simp -implicitDefEqProofs only [nleL_cc, nleL_nn, nle_self, nle_boxs, nle_aggs, nle_nils, and_self, and_true, true_and]) <;> repeat' (first | exact nle_of_eq rfl | exact nle_nil | apply And.intro | apply nle_sl | apply nleLL_cons | apply nleL_cons | exact nleL_nil | exact nleLL_nil | apply nle_box | apply nle_agg)
      · have e0 : -(k : Int) = (k : Int) := (by have := hlt; simp at this; omega); simp -implicitDefEqProofs (disch := omega) only [go_sem, ↓reduceIte , hm, hd, e0, w1, w2]; refine ⟨[((48 + k : Nat) : Int)], rfl, ?_, by omega, (m.tdiv 10, UInt8.ofNat (48 + k) :: l), ?_, ⟨hb10, ?_⟩, ?_⟩
        · rw [hsz1, hsz]; unfold maxLen; omega
        · simp only; rw [hq]; omega
        · simp only; rw [hq]; exact hnext
        · rw [hS, wrI hb10.1 hb10.2]; (try simp -implicitDefEqProofs only [nleL_cc, nleL_nn, nle_self, nle_boxs, nle_aggs, nle_nils, and_self, and_true, true_and]) <;> repeat' (first | exact nle_of_eq rfl | exact nle_nil | apply And.intro | apply nle_sl | apply nleLL_cons | apply nleL_cons | exact nleL_nil | exact nleLL_nil | apply nle_box | apply nle_agg)
    · have hd : m.tmod 10 = (k : Int) := by
        obtain ⟨u, rfl⟩ : ∃ u : Nat, m = (u : Int) := ⟨m.natAbs, by omega⟩
        have : ((u : Int)).tmod 10 = ((u % 10 : Nat) : Int) := rfl; rw [this, hk]; congr 2
      have hk0 : decide ((k : Int) < 0) = false := (by rw [decide_eq_false_iff_not]; omega); simp -implicitDefEqProofs (disch := omega) only [go_sem, ↓reduceIte , hm, hd, hk0]; refine ⟨by omega, ?_⟩; simp -implicitDefEqProofs (disch := omega) only [go_sem, ↓reduceIte , hm, hd, w1, w2]; refine ⟨[((48 + k : Nat) : Int)], rfl, ?_, by omega, (m.tdiv 10, UInt8.ofNat (48 + k) :: l), ?_, ⟨hb10, ?_⟩, ?_⟩
      · rw [hsz1, hsz]; unfold maxLen; omega
      · simp only; rw [hq]; omega
      · simp only; rw [hq]; exact hnext
      · rw [hS, wrI hb10.1 hb10.2]; (try simp -implicitDefEqProofs only [nleL_cc, nleL_nn, nle_self, nle_boxs, nle_aggs, nle_nils, and_self, and_true, true_and]) <;> repeat' (first | exact nle_of_eq rfl | exact nle_nil | apply And.intro | apply nle_sl | apply nleLL_cons | apply nleL_cons | exact nleL_nil | exact nleLL_nil | apply nle_box | apply nle_agg)
def code_slices_IndexFunc_impl_Move_impl_Move : VCode := (.seq (.ops [
  ⟨(some 4), none, (.asg (.const (.int .i64 0)))⟩]) (.seq (.seq (.ops [
  ⟨(some 6), none, (.mv (.tmp 0))⟩,
  ⟨(some 7), none, (.len (.tmp 6))⟩,
  ⟨(some 8), none, (.mv (.const (.int .i64 0)))⟩]) (.block 0 (.loop (mB 19 523900) (.seq (.ops [
  ⟨(some 9), none, (.bin .lss (.tmp 8) (.tmp 7))⟩]) (.seq (.cond (.tmp 9) .skip (.exit 0)) (.seq (.block 1 (.seq (.ops [
  ⟨(some 10), none, (.mv (.tmp 8))⟩,
  ⟨(some 5), none, (.asg (.tmp 10))⟩]) (.seq (.ops [
  ⟨(some 11), none, (.mv (.tmp 1))⟩,
  ⟨(some 12), none, (.mv (.tmp 0))⟩,
  ⟨(some 13), none, (.mv (.tmp 5))⟩,
  ⟨(some 14), none, (.ia 5 (.tmp 12) (.tmp 13))⟩,
  ⟨(some 15), none, (.load 5 true (.tmp 14))⟩,
  ⟨(some 16), none, (.callvX (.tmp 11) [(.tmp 15)])⟩]) (.cond (.tmp 16) (.seq (.ops [
  ⟨(some 17), none, (.mv (.tmp 5))⟩,
  ⟨(some 4), none, (.asg (.tmp 17))⟩]) .ret) .skip)))) (.ops [
  ⟨(some 18), none, (.bin .add (.tmp 8) (.const (.int .i64 1)))⟩,
  ⟨(some 8), none, (.mv (.tmp 18))⟩]))))))) (.seq (.ops [
  ⟨(some 4), none, (.asg (.const (.int .i64 (-1))))⟩]) .ret)))
theorem law_slices_IndexFunc_impl_Move_impl_Move {a0 a1 d : D} (h : code_slices_IndexFunc_impl_Move_impl_Move.wp (CT Tryd.prog TabG) (endQ [(.t 4)] d) [a0, a1, .undef, .undef, .undef, .undef, .undef, .undef, .undef, .undef, .undef, .undef, .undef, .undef, .undef, .undef, .undef, .undef, .undef]) : Contract Tryd.prog TabG 35 [a0, a1] d :=
  contract_of (pt := 0) tabG Tryd.func35 (fun us W => by kernel_rfl) (c := Tryd.f35.body.getD .skip) (ms := [(mB 19 523900)]) (ms' := []) (by kernel_rfl) (by kernel_rfl) (by kernel_rfl) h
theorem v_IndexFunc_Move (f : FuncId) (caps : List D) (hd : CapsOK caps) (xs : List Move) (p : Move → Bool) (hc : ∀ x, x ∈ xs → Contract Tryd.prog TabG f (.agg (Move.td.d false x) :: caps) (.v (.bool (p x)))) (hn : xs.length ≤ 1099511627776) :
    Contract Tryd.prog TabG 35 [.sl false 5 (xs.map (Move.td.d false)), .fn f [] caps] (.v (.int .i64 (vIdx p xs))) := by
  refine law_slices_IndexFunc_impl_Move_impl_Move ?_; unfold code_slices_IndexFunc_impl_Move_impl_Move; simp -implicitDefEqProofs (disch := omega) only [go_sem, ↓reduceIte , hd.owny, hd.pr]; refine loop_st (fun i : Nat => [.sl false 5 (xs.map (Move.td.d false)), .fn f [] caps, .undef, .undef, .undef, .undef, .undef, .v (.int .i64 (xs.map (Move.td.d false)).length), .v (.int .i64 i), .undef, .undef, .undef, .undef, .undef, .undef, .undef, .undef, .undef, .undef]) (fun i => i ≤ xs.length ∧ ∀ j (hj : j < xs.length), j < i → p xs[j] = false) (fun i => xs.length - i) 0 ?_ ⟨Nat.zero_le _, fun j _ h => absurd h (Nat.not_lt_zero _)⟩ ?_
  · simp -implicitDefEqProofs (disch := omega) only [go_sem, ↓reduceIte , hd.owny, hd.pr]
    (try simp -implicitDefEqProofs only [nleL_cc, nleL_nn, nle_self, nle_boxs, nle_aggs, nle_nils, and_self, and_true, true_and]) <;> repeat' (first | exact nle_of_eq rfl | exact nle_nil | apply And.intro | apply nle_sl | apply nleLL_cons | apply nleL_cons | exact nleL_nil | exact nleLL_nil | apply nle_box | apply nle_agg)
  rintro i ⟨hi, ha⟩; simp -implicitDefEqProofs (disch := omega) only [go_sem, ↓reduceIte , List.length_map, Int.toNat_natCast, Int.ofNat_lt, Int.natCast_nonneg, List.getElem?_map, Option.map_some, hd.owny, hd.pr]; refine cond_split ?_ ?_ <;> intro hlt
  · have hlt : i < xs.length := (by simpa using hlt); have hx := List.getElem?_eq_getElem hlt; simp -implicitDefEqProofs (disch := omega) only [go_sem, ↓reduceIte , List.length_map, Int.toNat_natCast, Int.ofNat_lt, Int.natCast_nonneg, List.getElem?_map, Option.map_some, hlt, hx, Move.td_d, hd.owny, hd.pr]; have hcx := hc _ (List.getElem_mem hlt); rw [Move.td_d] at hcx; refine callv_le (f := f) (first := []) (caps := caps) ?_ hcx ?_ (.inl rfl) ?_
    · simp -implicitDefEqProofs (disch := omega) only [go_sem, ↓reduceIte , hd.owny]
    · refine leL_of_eq ?_; simp only [List.nil_append, List.cons_append, List.map_cons, List.map_nil, hd.d8, List.map_append]; simp only [deep, raw, List.getElem?_cons_succ, List.getElem?_cons_zero, List.map_cons, List.map_nil, TD.rows, immLL_rI, immLL_rB8, immLL_rS, immLL_rBo]
    simp -implicitDefEqProofs (disch := omega) only [go_sem, ↓reduceIte , hd.owny, hd.pr]; refine cond_split ?_ ?_ <;> intro hp
    · simp -implicitDefEqProofs (disch := omega) only [go_sem, ↓reduceIte , hd.owny, hd.pr]; rw [vIdx_hit p xs i hlt ha hp]
    · simp -implicitDefEqProofs (disch := omega) only [go_sem, ↓reduceIte , wrN, hd.owny, hd.pr]; refine ⟨i + 1, by omega, ⟨hlt, fun j hj h => ?_⟩, nleA⟩; rcases Nat.lt_or_ge j i with h' | h'
      · exact ha j hj h'
      · have : j = i := (by omega); subst this; exact hp
  · have hlt : ¬ i < xs.length := (by simpa using hlt); simp -implicitDefEqProofs (disch := omega) only [go_sem, ↓reduceIte]; rw [vIdx_miss p xs (fun j hj => ha j hj (by omega))]
def code_slices_ContainsFunc_impl_Move_impl_Move : VCode := (.seq (.ops [
  ⟨(some 4), none, (.asg (.const (.bool false)))⟩]) (.seq (.ops [
  ⟨(some 5), none, (.mv (.tmp 0))⟩,
  ⟨(some 6), none, (.mv (.tmp 1))⟩,
  ⟨(some 7), none, (.callX 35 [(.tmp 5), (.tmp 6)])⟩,
  ⟨(some 8), none, (.bin .geq (.tmp 7) (.const (.int .i64 0)))⟩,
  ⟨(some 4), none, (.asg (.tmp 8))⟩]) .ret))
theorem law_slices_ContainsFunc_impl_Move_impl_Move {a0 a1 d : D} (h : code_slices_ContainsFunc_impl_Move_impl_Move.wp (CT Tryd.prog TabG) (endQ [(.t 4)] d) [a0, a1, .undef, .undef, .undef, .undef, .undef, .undef, .undef]) : Contract Tryd.prog TabG 26 [a0, a1] d :=
  contract_of (pt := 0) tabG Tryd.func26 (fun us W => by kernel_rfl) (c := Tryd.f26.body.getD .skip) (ms := []) (ms' := []) (by kernel_rfl) (by kernel_rfl) (by kernel_rfl) h
theorem v_ContainsFunc_Move (f : FuncId) (caps : List D) (hd : CapsOK caps) (xs : List Move) (p : Move → Bool) (hc : ∀ x, x ∈ xs → Contract Tryd.prog TabG f (.agg (Move.td.d false x) :: caps) (.v (.bool (p x)))) (hn : xs.length ≤ 1099511627776) :
    Contract Tryd.prog TabG 26 [.sl false 5 (xs.map (Move.td.d false)), .fn f [] caps] (.v (.bool (xs.any p))) := by
  refine law_slices_ContainsFunc_impl_Move_impl_Move ?_; unfold code_slices_ContainsFunc_impl_Move_impl_Move; simp -implicitDefEqProofs (disch := omega) only [go_sem, ↓reduceIte , hd.owny, hd.pr]; refine call_le (v_IndexFunc_Move f caps hd xs p hc hn) ?_ (.inl rfl) ?_
  · refine leL_of_eq ?_; simp only [List.map_cons, List.map_nil, deep, raw, List.getElem?_cons_succ, List.getElem?_cons_zero, TD.rows, immLL_rI, immLL_rB8, immLL_rS, immLL_rBo, hd.owny, hd.pr, hd.d7]
    try rfl
  simp -implicitDefEqProofs (disch := omega) only [go_sem, ↓reduceIte]; exact congrArg Value.bool (vIdx_any p xs)
def code_laws_toMove : VCode := (.seq (.ops [
  ⟨(some 1), none, (.box (.tmp 0))⟩,
  ⟨(some 2), none, (.alloc [(.int .i64 0), (.int .i64 0), (.int .i64 0), (.int .i64 0), (.int .i64 0)])⟩]) (.seq (.ops [
  ⟨(some 3), none, (.alloc [(.int .i64 0), (.int .i64 0), (.int .i64 0), (.int .i64 0), (.int .i64 0)])⟩]) (.seq (.ops [
  ⟨(some 4), none, (.fa 0 (.tmp 1))⟩,
  ⟨(some 5), none, (.load 1 false (.tmp 4))⟩,
  ⟨(some 6), none, (.fa 0 (.tmp 3))⟩,
  ⟨none, none, (.store 1 (.tmp 6) (.tmp 5))⟩]) (.seq (.ops [
  ⟨(some 7), none, (.fa 1 (.tmp 1))⟩,
  ⟨(some 8), none, (.load 1 false (.tmp 7))⟩,
  ⟨(some 9), none, (.fa 1 (.tmp 3))⟩,
  ⟨none, none, (.store 1 (.tmp 9) (.tmp 8))⟩]) (.seq (.ops [
  ⟨(some 10), none, (.fa 2 (.tmp 1))⟩,
  ⟨(some 11), none, (.load 1 false (.tmp 10))⟩,
  ⟨(some 12), none, (.fa 2 (.tmp 3))⟩,
  ⟨none, none, (.store 1 (.tmp 12) (.tmp 11))⟩]) (.seq (.ops [
  ⟨(some 13), none, (.fa 3 (.tmp 1))⟩,
  ⟨(some 14), none, (.load 1 false (.tmp 13))⟩,
  ⟨(some 15), none, (.fa 3 (.tmp 3))⟩,
  ⟨none, none, (.store 1 (.tmp 15) (.tmp 14))⟩]) (.seq (.ops [
  ⟨(some 16), none, (.fa 4 (.tmp 1))⟩,
  ⟨(some 17), none, (.load 1 false (.tmp 16))⟩,
  ⟨(some 18), none, (.fa 4 (.tmp 3))⟩,
  ⟨none, none, (.store 1 (.tmp 18) (.tmp 17))⟩]) (.seq (.ops [
  ⟨(some 19), none, (.load 5 true (.tmp 3))⟩,
  ⟨none, none, (.store 5 (.tmp 2) (.tmp 19))⟩]) .ret))))))))
theorem law_laws_toMove {a0 d : D} (h : code_laws_toMove.wp (CT Tryd.prog TabG) (endQ [(.c 2 5 true)] d) [a0, .undef, .undef, .undef, .undef, .undef, .undef, .undef, .undef, .undef, .undef, .undef, .undef, .undef, .undef, .undef, .undef, .undef, .undef, .undef]) : Contract Tryd.prog TabG 24 [a0] d :=
  contract_of (pt := 0) tabG Tryd.func24 (fun us W => by kernel_rfl) (c := Tryd.f24.body.getD .skip) (ms := []) (ms' := []) (by kernel_rfl) (by kernel_rfl) (by kernel_rfl) h
set_option maxHeartbeats 2000000 in
theorem v_toMove (q : Move) : Contract Tryd.prog TabG 24 [.agg (Move.td.d false q)] (.agg (Move.td.d true q)) := by rw [Move.td_d, Move.td_d]; refine law_laws_toMove ?_; unfold code_laws_toMove; simp -implicitDefEqProofs (disch := omega) only [go_sem, ↓reduceIte]
def code_laws_toMoveS : VCode := (.seq (.ops [
  ⟨(some 2), none, (.asg (.const (.slice none 0 0)))⟩]) (.seq (.ops [
  ⟨(some 5), none, (.mv (.tmp 0))⟩,
  ⟨(some 6), none, (.len (.tmp 5))⟩,
  ⟨(some 7), none, (.mks 5 40 [(.int .i64 0), (.int .i64 0), (.int .i64 0), (.int .i64 0), (.int .i64 0)] (.tmp 6) (.tmp 6))⟩,
  ⟨(some 3), none, (.asg (.tmp 7))⟩]) (.seq (.seq (.ops [
  ⟨(some 4), none, (.asg (.const (.int .i64 0)))⟩]) (.block 0 (.loop (mB 23 8388454) (.seq (.seq (.ops [
  ⟨(some 8), none, (.mv (.tmp 4))⟩,
  ⟨(some 9), none, (.mv (.tmp 0))⟩,
  ⟨(some 10), none, (.len (.tmp 9))⟩,
  ⟨(some 11), none, (.bin .lss (.tmp 8) (.tmp 10))⟩]) (.cond (.tmp 11) .skip (.exit 0))) (.seq (.block 1 (.ops [
  ⟨(some 14), none, (.mv (.tmp 3))⟩,
  ⟨(some 15), none, (.mv (.tmp 4))⟩,
  ⟨(some 16), none, (.mv (.tmp 0))⟩,
  ⟨(some 17), none, (.mv (.tmp 4))⟩,
  ⟨(some 18), none, (.ia 5 (.tmp 16) (.tmp 17))⟩,
  ⟨(some 19), none, (.load 5 true (.tmp 18))⟩,
  ⟨(some 20), none, (.callX 24 [(.tmp 19)])⟩,
  ⟨(some 21), none, (.ia 5 (.tmp 14) (.tmp 15))⟩,
  ⟨none, none, (.store 5 (.tmp 21) (.tmp 20))⟩])) (.ops [
  ⟨(some 12), none, (.mv (.tmp 4))⟩,
  ⟨(some 13), none, (.bin .add (.tmp 12) (.const (.int .i64 1)))⟩,
  ⟨(some 4), none, (.asg (.tmp 13))⟩])))))) (.seq (.ops [
  ⟨(some 22), none, (.mv (.tmp 3))⟩,
  ⟨(some 2), none, (.asg (.tmp 22))⟩]) .ret))))
theorem law_laws_toMoveS {a0 d : D} (h : code_laws_toMoveS.wp (CT Tryd.prog TabG) (endQ [(.t 2)] d) [a0, .undef, .undef, .undef, .undef, .undef, .undef, .undef, .undef, .undef, .undef, .undef, .undef, .undef, .undef, .undef, .undef, .undef, .undef, .undef, .undef, .undef, .undef]) : Contract Tryd.prog TabG 12 [a0] d :=
  contract_of (pt := 0) tabG Tryd.func12 (fun us W => by kernel_rfl) (c := Tryd.f12.body.getD .skip) (ms := [(mB 23 8388454)]) (ms' := []) (by kernel_rfl) (by kernel_rfl) (by kernel_rfl) h
set_option maxHeartbeats 2000000 in
theorem v_toMoveS (xs : List Move) (hn : xs.length ≤ 1048576) : Contract Tryd.prog TabG 12 [.sl false 5 (xs.map (Move.td.d false))] (.sl true 5 (xs.map (Move.td.d true))) := by
  have hl : xs.length ≤ 1048576 := (by exact hn); refine law_laws_toMoveS ?_; unfold code_laws_toMoveS; simp -implicitDefEqProofs (disch := omega) only [go_sem, ↓reduceIte , List.length_map, Int.toNat_natCast]; refine ⟨by omega, by omega, by omega, ?_⟩; refine loop_st (fun k : Nat => [.sl false 5 (xs.map (Move.td.d false)), .undef, .undef, .sl true 5 ((xs.take k).map (Move.td.d true) ++ List.replicate (xs.length - k) [D.v (.int .i64 0), D.v (.int .i64 0), D.v (.int .i64 0), D.v (.int .i64 0), D.v (.int .i64 0)]), .v (.int .i64 k), .undef, .undef, .undef, .undef, .undef, .undef, .undef, .undef, .undef, .undef, .undef, .undef, .undef, .undef, .undef, .undef, .undef, .undef]) (fun k => k ≤ xs.length) (fun k => xs.length - k) 0 (nleA) (Nat.zero_le _) ?_; intro k hk; simp -implicitDefEqProofs (disch := omega) only [go_sem, ↓reduceIte , List.length_map, Int.toNat_natCast, Int.ofNat_lt, Int.natCast_nonneg, List.getElem?_map, Option.map_some]; refine cond_split ?_ ?_ <;> intro hlt
  · have hlt : k < xs.length := (by simpa using hlt); have e1 := List.getElem?_eq_getElem hlt; have g1 := fill_len xs (Move.td.d true) [D.v (.int .i64 0), D.v (.int .i64 0), D.v (.int .i64 0), D.v (.int .i64 0), D.v (.int .i64 0)] k; have g2 := fill_at xs (Move.td.d true) [D.v (.int .i64 0), D.v (.int .i64 0), D.v (.int .i64 0), D.v (.int .i64 0), D.v (.int .i64 0)] k hlt; have g3 := fill_next xs (Move.td.d true) [D.v (.int .i64 0), D.v (.int .i64 0), D.v (.int .i64 0), D.v (.int .i64 0), D.v (.int .i64 0)] k hlt; have g4 : k < ((xs.take k).map (Move.td.d true) ++ List.replicate (xs.length - k) [D.v (.int .i64 0), D.v (.int .i64 0), D.v (.int .i64 0), D.v (.int .i64 0), D.v (.int .i64 0)]).length := (by rw [g1]; exact hlt); simp -implicitDefEqProofs (disch := omega) only [go_sem, ↓reduceIte , List.length_map, Int.toNat_natCast, Int.ofNat_lt, Int.natCast_nonneg, List.getElem?_map, Option.map_some, hlt, e1, g1, g2, List.set_set, List.getElem?_set_self g4, wrN, Move.td_d]; refine call_B (v_toMove xs[k]) (by simp -implicitDefEqProofs (disch := omega) only [go_sem, ↓reduceIte, deep, TD.rows, immLL_rI, immLL_rB8, immLL_rS, immLL_rBo, immLL_rII, immLL_rIIt, List.length_map, Int.toNat_natCast, Int.ofNat_lt, Int.natCast_nonneg, List.getElem?_map, Option.map_some, hlt, e1, g1, g2, List.set_set, List.getElem?_set_self g4, wrN, Move.td_d]; exact rfl) ?_; simp -implicitDefEqProofs (disch := omega) only [go_sem, ↓reduceIte , List.length_map, Int.toNat_natCast, Int.ofNat_lt, Int.natCast_nonneg, List.getElem?_map, Option.map_some, hlt, e1, g1, g2, List.set_set, List.getElem?_set_self g4, wrN, Move.td_d]; refine ⟨k + 1, by omega, hlt, ?_⟩; rw [← g3]; rw [Move.td_d]
    (try simp -implicitDefEqProofs only [nleL_cc, nleL_nn, nle_self, nle_boxs, nle_aggs, nle_nils, and_self, and_true, true_and]) <;> repeat' (first | exact nle_of_eq rfl | exact nle_nil | apply And.intro | apply nle_sl | apply nleLL_cons | apply nleL_cons | exact nleL_nil | exact nleLL_nil | apply nle_box | apply nle_agg)
  · have hge : k = xs.length := (by have : ¬ k < xs.length := (by simpa using hlt); omega); subst hge; simp -implicitDefEqProofs (disch := omega) only [go_sem, ↓reduceIte , fill_end]
def code_laws_toMachine : VCode := (.seq (.ops [
  ⟨(some 1), none, (.box (.tmp 0))⟩,
  ⟨(some 2), none, (.alloc [(.int .i64 0), (.int .i64 0), (.slice none 0 0)])⟩]) (.seq (.ops [
  ⟨(some 3), none, (.alloc [(.int .i64 0), (.int .i64 0), (.slice none 0 0)])⟩]) (.seq (.ops [
  ⟨(some 4), none, (.fa 0 (.tmp 1))⟩,
  ⟨(some 5), none, (.load 1 false (.tmp 4))⟩,
  ⟨(some 6), none, (.fa 0 (.tmp 3))⟩,
  ⟨none, none, (.store 1 (.tmp 6) (.tmp 5))⟩]) (.seq (.ops [
  ⟨(some 7), none, (.fa 1 (.tmp 1))⟩,
  ⟨(some 8), none, (.load 1 false (.tmp 7))⟩,
  ⟨(some 9), none, (.fa 1 (.tmp 3))⟩,
  ⟨none, none, (.store 1 (.tmp 9) (.tmp 8))⟩]) (.seq (.ops [
  ⟨(some 10), none, (.fa 2 (.tmp 1))⟩,
  ⟨(some 11), none, (.load 1 false (.tmp 10))⟩,
  ⟨(some 12), none, (.callX 12 [(.tmp 11)])⟩,
  ⟨(some 13), none, (.fa 2 (.tmp 3))⟩,
  ⟨none, none, (.store 1 (.tmp 13) (.tmp 12))⟩]) (.seq (.ops [
  ⟨(some 14), none, (.load 3 true (.tmp 3))⟩,
  ⟨none, none, (.store 3 (.tmp 2) (.tmp 14))⟩]) .ret))))))
theorem law_laws_toMachine {a0 d : D} (h : code_laws_toMachine.wp (CT Tryd.prog TabG) (endQ [(.c 2 3 true)] d) [a0, .undef, .undef, .undef, .undef, .undef, .undef, .undef, .undef, .undef, .undef, .undef, .undef, .undef, .undef]) : Contract Tryd.prog TabG 6 [a0] d :=
  contract_of (pt := 0) tabG Tryd.func6 (fun us W => by kernel_rfl) (c := Tryd.f6.body.getD .skip) (ms := []) (ms' := []) (by kernel_rfl) (by kernel_rfl) (by kernel_rfl) h
set_option maxHeartbeats 2000000 in
theorem v_toMachine (q : Machine) (hn : Machine.cnt q ≤ 1048576) : Contract Tryd.prog TabG 6 [.agg (Machine.td.d false q)] (.agg (Machine.td.d true q)) := by rw [Machine.td_d, Machine.td_d]; refine law_laws_toMachine ?_; unfold code_laws_toMachine; have hn0 := hn; unfold Machine.cnt at hn; simp -implicitDefEqProofs (disch := omega) only [go_sem, ↓reduceIte]; refine call_B (v_toMoveS q.Moves (by omega)) (by simp -implicitDefEqProofs (disch := omega) only [go_sem, ↓reduceIte, deep, TD.rows, immLL_rI, immLL_rB8, immLL_rS, immLL_rBo, immLL_rII, immLL_rIIt]; exact rfl) ?_; simp -implicitDefEqProofs (disch := omega) only [go_sem, ↓reduceIte]
end Go.Proofs.YtjcmijfompcphaaDoor
