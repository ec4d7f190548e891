/- Laws that the proof stands on. -/
import Derived.Test.YtbflchedmfeghaaDoorZVB
import Derived.Test.YtbflchedmfeghaaDoorProg
import Derived.Test.YtbflchedmfeghaaDoorZVTab
import Derived.Test.YtbflchedmfeghaaDoorZg6
set_option linter.all false
namespace Go.Proofs.YtbflchedmfeghaaDoor
open Go.RowKit Go.V
attribute [local go_sem] List.getElem?_cons_succ List.getElem?_cons_zero List.set_cons_succ List.set_cons_zero List.map_cons List.map_nil List.length_cons List.length_nil List.all_cons List.all_nil List.drop_succ_cons List.drop_zero List.take_succ_cons List.take_zero List.flatMap_cons List.flatMap_nil List.cons_append List.nil_append List.append_nil List.headD_cons Value.oneCell' Bool.and_true Bool.true_and Bool.or_false Bool.false_or Bool.and_self Bool.not_true Bool.not_false and_true true_and beq_self_eq_true Bool.false_eq_true if_true if_false Nat.zero_add Nat.reduceAdd Nat.reduceMul Nat.reduceLeDiff Nat.le_refl Option.isSome_some Option.isSome_none not_true_eq_false not_false_eq_true ne_eq reduceCtorEq List.reverse_nil bne_self_eq_false Nat.reduceEqDiff List.isPrefixOf Bool.not_eq_true Bool.and_false Bool.false_and Bool.true_or Bool.or_true decide_true decide_false Nat.reduceBEq Nat.reduceBNe List.replicate_succ List.replicate_zero exists_eq_left' exists_eq_left Option.some.injEq or_false or_true true_or false_or Option.map_some Option.map_none mB Nat.reduceMod Nat.reduceDiv
set_option maxRecDepth 100000
def inR (lo hi n : Int) : Bool := decide (lo ≤ n) && decide (n ≤ hi)
theorem inR_iff {lo hi n : Int} : inR lo hi n = true ↔ lo ≤ n ∧ n ≤ hi := by simp [inR]
def code_spec_l00In : VCode := (.seq (.ops [
  ⟨(some 6), none, (.asg (.const (.bool false)))⟩]) (.seq (.ops [
  ⟨(some 7), none, (.mv (.tmp 0))⟩,
  ⟨(some 8), none, (.mv (.tmp 1))⟩,
  ⟨(some 9), none, (.bin .geq (.tmp 7) (.tmp 8))⟩,
  ⟨(some 10), none, (.mv (.tmp 9))⟩,
  ⟨(some 11), (some (10, true)), (.mv (.tmp 0))⟩,
  ⟨(some 12), (some (10, true)), (.mv (.tmp 2))⟩,
  ⟨(some 13), (some (10, true)), (.bin .leq (.tmp 11) (.tmp 12))⟩,
  ⟨(some 14), none, (.pick (.tmp 10) (.tmp 13) (.const (.bool false)))⟩,
  ⟨(some 6), none, (.asg (.tmp 14))⟩]) .ret))
theorem law_spec_l00In {a0 a1 a2 d : D} (h : code_spec_l00In.wp (CT Tryd.prog TabG) (endQ [(.t 6)] d) [a0, a1, a2, .undef, .undef, .undef, .undef, .undef, .undef, .undef, .undef, .undef, .undef, .undef, .undef]) : Contract Tryd.prog TabG 19 [a0, a1, a2] d :=
  contract_of (pt := 0) tabG Tryd.func19 (fun us W => by kernel_rfl) (c := Tryd.f19.body.getD .skip) (ms := []) (ms' := []) (by kernel_rfl) (by kernel_rfl) (by kernel_rfl) h
theorem v_l00In (a b c : Int) : Contract Tryd.prog TabG 19 [.v (.int .i64 a), .v (.int .i64 b), .v (.int .i64 c)] (.v (.bool (inR b c a))) := by
  refine law_spec_l00In ?_; unfold code_spec_l00In inR; simp -implicitDefEqProofs (disch := omega) only [go_sem, ↓reduceIte]; refine guard_split ?_ ?_ <;> intro h
  · simp -implicitDefEqProofs (disch := omega) only [go_sem, ↓reduceIte , h]
  · simp -implicitDefEqProofs (disch := omega) only [go_sem, ↓reduceIte , h]
def code_impl_within : VCode := (.seq (.ops [
  ⟨(some 6), none, (.asg (.const (.bool false)))⟩]) (.seq (.ops [
  ⟨(some 7), none, (.mv (.tmp 0))⟩,
  ⟨(some 8), none, (.mv (.tmp 1))⟩,
  ⟨(some 9), none, (.bin .geq (.tmp 7) (.tmp 8))⟩,
  ⟨(some 10), none, (.mv (.tmp 9))⟩,
  ⟨(some 11), (some (10, true)), (.mv (.tmp 0))⟩,
  ⟨(some 12), (some (10, true)), (.mv (.tmp 2))⟩,
  ⟨(some 13), (some (10, true)), (.bin .leq (.tmp 11) (.tmp 12))⟩,
  ⟨(some 14), none, (.pick (.tmp 10) (.tmp 13) (.const (.bool false)))⟩,
  ⟨(some 6), none, (.asg (.tmp 14))⟩]) .ret))
theorem law_impl_within {a0 a1 a2 d : D} (h : code_impl_within.wp (CT Tryd.prog TabG) (endQ [(.t 6)] d) [a0, a1, a2, .undef, .undef, .undef, .undef, .undef, .undef, .undef, .undef, .undef, .undef, .undef, .undef]) : Contract Tryd.prog TabG 28 [a0, a1, a2] d :=
  contract_of (pt := 0) tabG Tryd.func28 (fun us W => by kernel_rfl) (c := Tryd.f28.body.getD .skip) (ms := []) (ms' := []) (by kernel_rfl) (by kernel_rfl) (by kernel_rfl) h
theorem v_within (a b c : Int) : Contract Tryd.prog TabG 28 [.v (.int .i64 a), .v (.int .i64 b), .v (.int .i64 c)] (.v (.bool (inR b c a))) := by
  refine law_impl_within ?_; unfold code_impl_within inR; simp -implicitDefEqProofs (disch := omega) only [go_sem, ↓reduceIte]; refine guard_split ?_ ?_ <;> intro h
  · simp -implicitDefEqProofs (disch := omega) only [go_sem, ↓reduceIte , h]
  · simp -implicitDefEqProofs (disch := omega) only [go_sem, ↓reduceIte , h]
def decAcc : Nat → Nat → ByteArray → ByteArray
  | 0, _, out => out
  | f + 1, n, out => if n = 0 then out else decAcc f (n / 10) (strI [((48 + n % 10 : Nat) : Int)] ++ out)
def markT (k : Int) : ByteArray := if k ≤ 0 then ⟨⟨[109, 48]⟩⟩ else ⟨⟨[109]⟩⟩ ++ decAcc 20 k.toNat ⟨⟨[]⟩⟩
theorem decAcc_zero (f : Nat) (out : ByteArray) : decAcc f 0 out = out := by cases f <;> rfl
theorem strI_size (xs : List Int) : (strI xs).size = xs.length := by unfold strI; simp [ByteArray.size]
theorem decAcc_size : ∀ (f n : Nat) (out : ByteArray), (decAcc f n out).size ≤ f + out.size
  | 0, _, out => by simp [decAcc]
  | f + 1, n, out => by
    unfold decAcc; split
    · omega
    · have := decAcc_size f (n / 10) (strI [((48 + n % 10 : Nat) : Int)] ++ out); rw [ByteArray.size_append, strI_size] at this; simp only [List.length_cons, List.length_nil] at this; omega
theorem markT_size (k : Int) : (markT k).size ≤ maxLen := by
  unfold markT maxLen; split
  · decide
  · rw [ByteArray.size_append]; have := decAcc_size 20 k.toNat ⟨⟨[]⟩⟩
    have h0 : (⟨⟨[]⟩⟩ : ByteArray).size = 0 := rfl; have h1 : (⟨⟨[109]⟩⟩ : ByteArray).size = 1 := rfl; omega
def code_laws_markText : VCode := (.seq (.ops [
  ⟨(some 2), none, (.asg (.const (.string ⟨⟨[]⟩⟩)))⟩]) (.seq (.seq (.ops [
  ⟨(some 4), none, (.mv (.tmp 0))⟩,
  ⟨(some 5), none, (.bin .leq (.tmp 4) (.const (.int .i64 0)))⟩]) (.cond (.tmp 5) (.seq (.ops [
  ⟨(some 2), none, (.asg (.const (.string ⟨⟨[109, 48]⟩⟩)))⟩]) .ret) .skip)) (.seq (.ops [
  ⟨(some 3), none, (.asg (.const (.string ⟨⟨[]⟩⟩)))⟩]) (.seq (.block 0 (.loop (mB 20 1048566) (.seq (.seq (.ops [
  ⟨(some 6), none, (.mv (.tmp 0))⟩,
  ⟨(some 7), none, (.bin .gtr (.tmp 6) (.const (.int .i64 0)))⟩]) (.cond (.tmp 7) .skip (.exit 0))) (.block 1 (.seq (.ops [
  ⟨(some 8), none, (.mv (.tmp 0))⟩,
  ⟨(some 9), none, (.bin .rem (.tmp 8) (.const (.int .i64 10)))⟩,
  ⟨(some 10), none, (.bin .add (.const (.int .i64 48)) (.tmp 9))⟩,
  ⟨(some 11), none, (.conv .u8 (.tmp 10))⟩,
  ⟨(some 12), none, (.bsl 1 [(.tmp 11)])⟩,
  ⟨(some 13), none, (.b2s (.tmp 12))⟩,
  ⟨(some 14), none, (.mv (.tmp 3))⟩,
  ⟨(some 15), none, (.bin .add (.tmp 13) (.tmp 14))⟩,
  ⟨(some 3), none, (.asg (.tmp 15))⟩]) (.ops [
  ⟨(some 16), none, (.mv (.tmp 0))⟩,
  ⟨(some 17), none, (.bin .quo (.tmp 16) (.const (.int .i64 10)))⟩,
  ⟨(some 0), none, (.asg (.tmp 17))⟩])))))) (.seq (.ops [
  ⟨(some 18), none, (.mv (.tmp 3))⟩,
  ⟨(some 19), none, (.bin .add (.const (.string ⟨⟨[109]⟩⟩)) (.tmp 18))⟩,
  ⟨(some 2), none, (.asg (.tmp 19))⟩]) .ret)))))
theorem law_laws_markText {a0 d : D} (h : code_laws_markText.wp (CT Tryd.prog NoG) (endQ [(.t 2)] d) [a0, .undef, .undef, .undef, .undef, .undef, .undef, .undef, .undef, .undef, .undef, .undef, .undef, .undef, .undef, .undef, .undef, .undef, .undef, .undef]) : Contract Tryd.prog NoG 74 [a0] d :=
  contract_of (pt := 0) noG Tryd.func74 (fun us W => by kernel_rfl) (c := Tryd.f74.body.getD .skip) (ms := [(mB 20 1048566)]) (ms' := []) (by kernel_rfl) (by kernel_rfl) (by kernel_rfl) h
theorem v_markText (k : Int) (hk : k ≤ 4611686018427387904) : Contract Tryd.prog NoG 74 [.v (.int .i64 k)] (.v (.string (markT k))) := by
  refine law_laws_markText ?_; unfold code_laws_markText; simp -implicitDefEqProofs (disch := omega) only [go_sem, ↓reduceIte]; refine cond_split ?_ ?_ <;> intro h
  · have h : k ≤ 0 := of_decide_eq_true h; simp -implicitDefEqProofs (disch := omega) only [go_sem, ↓reduceIte]; unfold markT; rw [if_pos h]
  · have h : ¬ k ≤ 0 := of_decide_eq_false h; obtain ⟨n, rfl⟩ : ∃ n : Nat, k = (n : Int) := ⟨k.toNat, by omega⟩
    have hm : markT (n : Int) = ⟨⟨[109]⟩⟩ ++ decAcc 20 n ⟨⟨[]⟩⟩ := (by unfold markT; rw [if_neg h]; rfl); simp -implicitDefEqProofs (disch := omega) only [go_sem, ↓reduceIte]; refine loop_st (fun z : Nat × ByteArray => [.v (.int .i64 z.1), .undef, .undef, .v (.string z.2), .undef, .undef, .undef, .undef, .undef, .undef, .undef, .undef, .undef, .undef, .undef, .undef, .undef, .undef, .undef, .undef]) (fun z => z.1 ≤ n ∧ ∃ f, z.1 < 10 ^ f ∧ f + z.2.size ≤ 20 ∧ decAcc f z.1 z.2 = decAcc 20 n ⟨⟨[]⟩⟩) (fun z => z.1) (n, ⟨⟨[]⟩⟩) (nleA) ⟨Nat.le_refl _, 20, by simp only; omega, by simp only; exact Nat.le_refl 20, rfl⟩ ?_; rintro ⟨m, out⟩ ⟨hmn, f, hf, hs, hd⟩; simp only at hmn hf hs hd; simp -implicitDefEqProofs (disch := omega) only [go_sem, ↓reduceIte]; refine cond_split ?_ ?_ <;> intro hp
    · have hp : 0 < m := (by have := of_decide_eq_true hp; omega); cases f with
      | zero => simp at hf; omega
      | succ f =>
        have e1 : ((m : Nat) : Int).tmod 10 = ((m % 10 : Nat) : Int) := rfl; have e2 : IntKind.i64.wrap (48 + ((m % 10 : Nat) : Int)) = ((48 + m % 10 : Nat) : Int) := (by rw [wrI (by omega) (by omega)]; simp); have e3 : IntKind.u8.wrap ((48 + m % 10 : Nat) : Int) = ((48 + m % 10 : Nat) : Int) := IntWalk.u8_in _ (by omega); have e4 : IntKind.i64.wrap (((m : Nat) : Int).tdiv 10) = ((m / 10 : Nat) : Int) := (by rw [show ((m : Nat) : Int).tdiv 10 = ((m / 10 : Nat) : Int) from rfl, wrI (by omega) (by omega)]); simp -implicitDefEqProofs (disch := omega) only [go_sem, ↓reduceIte , e1, e2, e3]; refine And.intro (by omega) ?_; refine ⟨[((48 + m % 10 : Nat) : Int)], rfl, ?_⟩; simp -implicitDefEqProofs (disch := omega) only [go_sem, ↓reduceIte , e4]; refine And.intro (by rw [strI_size]; unfold maxLen; simp only [List.length_cons, List.length_nil]; omega) ?_; refine And.intro (by omega) ?_; refine ⟨(m / 10, strI [((48 + m % 10 : Nat) : Int)] ++ out), by simp only; omega, ⟨by simp only; omega, f, ?_, ?_, ?_⟩, nleA⟩
        · simp only; rw [Nat.pow_succ] at hf; omega
        · simp only; rw [ByteArray.size_append, strI_size]; simp only [List.length_cons, List.length_nil]; omega
        · rw [← hd]; simp only [decAcc]; rw [if_neg (by omega)]
    · have hp : m = 0 := (by have := of_decide_eq_false hp; omega); subst hp; rw [decAcc_zero] at hd; simp -implicitDefEqProofs (disch := omega) only [go_sem, ↓reduceIte]; refine And.intro (by unfold maxLen; show 1 + out.size ≤ _; omega) ?_; rw [hm, hd]
theorem markText_any (k : Int) (w : World) (hk : k ≤ 4611686018427387904) : Calls Tryd.prog 74 #[.int .i64 k] w fun e w' => e = .returned (.string (markT k)) ∧ Below w.heap.size w w' := by refine (Contract.at (us := [.int .i64 k]) (v_markText k hk) gI (Nat.le_refl _) (vals_cons (vals_v _) vals_nil)).mono ?_; rintro e w' ⟨⟨v, I, F, rfl, hT, _, _⟩, hb⟩; simp only [T] at hT; exact ⟨by rw [hT.1], hb⟩
end Go.Proofs.YtbflchedmfeghaaDoor
