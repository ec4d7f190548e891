/- Fractions of whole numbers that are not negative. -/
import Derived.Test.YtlblmbhaakjcaaaTdFrac
import Derived.Test.YtlblmbhaakjcaaaVCom
set_option linter.all false
namespace Go.Proofs.Ytlblmbhaakjcaaa
open Go.RowKit Go.V
attribute [local go_sem] List.getElem?_cons_succ List.getElem?_cons_zero List.set_cons_succ List.set_cons_zero List.map_cons List.map_nil List.length_cons List.length_nil List.all_cons List.all_nil List.drop_succ_cons List.drop_zero List.take_succ_cons List.take_zero List.flatMap_cons List.flatMap_nil List.cons_append List.nil_append List.append_nil List.headD_cons Value.oneCell' Bool.and_true Bool.true_and Bool.or_false Bool.false_or Bool.and_self Bool.not_true Bool.not_false and_true true_and beq_self_eq_true Bool.false_eq_true if_true if_false Nat.zero_add Nat.le_refl Option.isSome_some Option.isSome_none not_true_eq_false not_false_eq_true ne_eq List.reverse_nil bne_self_eq_false List.isPrefixOf Bool.not_eq_true Bool.and_false Bool.false_and Bool.true_or Bool.or_true decide_true decide_false List.replicate_succ List.replicate_zero exists_eq_left' exists_eq_left or_false or_true true_or false_or Option.map_some Option.map_none
set_option maxRecDepth 100000
def fracN (a b : Nat) : Frac := ⟨((a / Nat.gcd a b : Nat) : Int), ((b / Nat.gcd a b : Nat) : Int)⟩
theorem frac_facts {a b : Nat} (ha : a ≤ 1000000000) (h0 : 0 < b) (hb : b ≤ 1000000000) : 0 < Nat.gcd a b ∧ Nat.gcd a b ≤ 1000000000 ∧ a / Nat.gcd a b ≤ 1000000000 ∧ 0 < b / Nat.gcd a b ∧ b / Nat.gcd a b ≤ 1000000000 ∧ Nat.gcd (a / Nat.gcd a b) (b / Nat.gcd a b) = 1 := by
  have hg : 0 < Nat.gcd a b := Nat.gcd_pos_of_pos_right _ h0
  have hle : Nat.gcd a b ≤ b := Nat.le_of_dvd h0 (Nat.gcd_dvd_right a b)
  exact ⟨hg, by omega, Nat.le_trans (Nat.div_le_self _ _) ha, Nat.div_pos hle hg, Nat.le_trans (Nat.div_le_self _ _) hb, Nat.gcd_div_gcd_div_gcd_of_pos_right h0⟩
theorem wrQ {n : Nat} (h : n ≤ 1000000000) : IntKind.i64.wrap (n : Int) = (n : Int) := wrI (by omega) (by omega)
theorem inQ {n : Nat} (h : n ≤ 1000000000) : inR (-1000000000) 1000000000 (n : Int) = true := inR_iff.2 (by omega)
theorem ltQ {n : Nat} (h : n ≤ 1000000000) : decide ((1000000000 : Int) < (n : Int)) = false := by rw [decide_eq_false_iff_not]; omega
theorem inKQ {n : Nat} (h : n ≤ 1000000000) : InK .i64 (n : Int) := ⟨by show (-9223372036854775808 : Int) ≤ _; omega, by show _ ≤ (9223372036854775807 : Int); omega⟩
theorem fracN_ok {a b : Nat} (ha : a ≤ 1000000000) (hb : b ≤ 1000000000) : Frac.td.ok (fracN a b) := by
  rw [Frac.td_ok]
  exact ⟨inKQ (Nat.le_trans (Nat.div_le_self _ _) ha), inKQ (Nat.le_trans (Nat.div_le_self _ _) hb)⟩
theorem frac0_ok : Frac.td.ok ⟨0, 0⟩ := by
  rw [Frac.td_ok]
  exact ⟨⟨by decide, by decide⟩, ⟨by decide, by decide⟩⟩
theorem gcd_next {a b : Nat} : Nat.gcd b (a % b) = Nat.gcd a b := by
  rw [Nat.gcd_comm a b, Nat.gcd_rec b a, Nat.gcd_comm]
set_option maxHeartbeats 1000000 in
theorem gcd_any (a b : Nat) (ha : a ≤ 1000000000) (hb : b ≤ 1000000000) (w : World) : Calls Try.prog 58 #[.int .i64 (a : Int), .int .i64 (b : Int)] w fun e w' => e = .returned (.int .i64 ((Nat.gcd a b : Nat) : Int)) ∧ Below w.heap.size w w' := by
  go_enter Try.func58, Try.ntmps58
  go_wp2
  go_loopw [0, 1] (fun x y wr => ∃ m n : Nat, m ≤ 1000000000 ∧ n ≤ 1000000000 ∧ x = .int .i64 (m : Int) ∧ y = .int .i64 (n : Int) ∧ Nat.gcd m n = Nat.gcd a b ∧ Below w.heap.size w wr) (fun _ y _ => (intOf y).toNat)
  case atStart => exact ⟨a, b, ha, hb, rfl, rfl, rfl, Below.refl _ _⟩
  case round =>
    obtain ⟨m, n, hm, hn, rfl, rfl, hg, hbl⟩ := hrel
    have HG := Lib.hid hg
    clear hg
    have hw : IntKind.i64.wrap (0 - (m : Int)) = 0 - (m : Int) := IntWalk.i64_in _ (by omega)
    by_cases h0 : n = 0
    · subst h0
      go_wp2
      go_ret
      exact ⟨by rw [← HG.out, Nat.gcd_zero_right]; rfl, hbl⟩
    · have hz : (n : Int) ≠ 0 := by omega
      go_wp2
      go_region
      go_wp2
      have hlt : m % n < n := Nat.mod_lt _ (by omega)
      go_roundw
      case rel => exact ⟨n, m % n, hn, by omega, rfl, rfl, by rw [gcd_next]; exact HG.out, hbl.drew⟩
      case measure => simp [intOf]; omega
theorem v_gcd (a b : Nat) (ha : a ≤ 1000000000) (hb : b ≤ 1000000000) : Contract Try.prog NoG 58 [.v (.int .i64 (a : Int)), .v (.int .i64 (b : Int))] (.v (.int .i64 ((Nat.gcd a b : Nat) : Int))) := by
  refine ⟨fun us W => by kernel_rfl, fun w I us _ hI hV => ?_⟩
  obtain ⟨u0, us0, F0, G0, rfl, _, t0, hV⟩ := vals_split hV
  obtain ⟨u1, us1, F1, G1, rfl, _, t1, hV⟩ := vals_split hV
  simp only [Vals] at hV
  obtain ⟨rfl, _⟩ := hV
  simp only [T] at t0 t1
  obtain ⟨rfl, _⟩ := t0
  obtain ⟨rfl, _⟩ := t1
  refine (gcd_any a b ha hb w).mono ?_
  rintro e w' ⟨rfl, hb'⟩
  exact ⟨_, [], I, rfl, hb', by simp [T], List.nodup_nil, (fun _ h => by cases h), (fun _ h => h), (fun b h => ⟨.inl h, Nat.lt_of_lt_of_le (hI b h) hb'.size⟩)⟩
abbrev mk_spec_l01Gcd_0 : List Bool := [false, false, true, true, true, true, true, true, true, true, true, true, true, true]
/-- spec.l01Gcd -/
def code_spec_l01Gcd : VCode := (.seq (.ops [
  ⟨(some 4), none, (.asg (.const (.int .i64 0)))⟩]) (.seq (.block 0 (.loop mk_spec_l01Gcd_0 (.seq (.seq (.ops [
  ⟨(some 6), none, (.mv (.tmp 1))⟩,
  ⟨(some 7), none, (.bin .gtr (.tmp 6) (.const (.int .i64 0)))⟩]) (.cond (.tmp 7) .skip (.exit 0))) (.block 1 (.seq (.ops [
  ⟨(some 8), none, (.mv (.tmp 0))⟩,
  ⟨(some 9), none, (.mv (.tmp 1))⟩,
  ⟨(some 10), none, (.bin .rem (.tmp 8) (.tmp 9))⟩,
  ⟨(some 5), none, (.asg (.tmp 10))⟩]) (.seq (.ops [
  ⟨(some 11), none, (.mv (.tmp 1))⟩,
  ⟨(some 0), none, (.asg (.tmp 11))⟩]) (.ops [
  ⟨(some 12), none, (.mv (.tmp 5))⟩,
  ⟨(some 1), none, (.asg (.tmp 12))⟩]))))))) (.seq (.ops [
  ⟨(some 13), none, (.mv (.tmp 0))⟩,
  ⟨(some 4), none, (.asg (.tmp 13))⟩]) .ret)))
theorem law_spec_l01Gcd {a0 a1 d : D} (h : code_spec_l01Gcd.wp (CT Try.prog NoG) (endQ [(.t 4)] d) [a0, a1, .undef, .undef, .undef, .undef, .undef, .undef, .undef, .undef, .undef, .undef, .undef, .undef]) : Contract Try.prog NoG 35 [a0, a1] d :=
  contract_of noG Try.func35 (fun us W => by kernel_rfl) (c := Try.f35.body.getD .skip) (ms := [mk_spec_l01Gcd_0]) (ms' := []) (by kernel_rfl) (by kernel_rfl) (by kernel_rfl) h
theorem v_l01Gcd (a b : Nat) (ha : a ≤ 1000000000) (hb : b ≤ 1000000000) : Contract Try.prog NoG 35 [.v (.int .i64 (a : Int)), .v (.int .i64 (b : Int))] (.v (.int .i64 ((Nat.gcd a b : Nat) : Int))) := by
  refine law_spec_l01Gcd ?_
  unfold code_spec_l01Gcd
  simp -implicitDefEqProofs (disch := omega) only [go_sem, ↓reduceIte, Nat.reduceAdd, Nat.reduceMul, Nat.reduceLeDiff, reduceCtorEq, Nat.reduceEqDiff, Nat.reduceBEq, Nat.reduceBNe, Option.some.injEq]
  refine loop_ov (by simp -implicitDefEqProofs (disch := omega) only [go_sem, ↓reduceIte, Nat.reduceAdd, Nat.reduceMul, Nat.reduceLeDiff, reduceCtorEq, Nat.reduceEqDiff, Nat.reduceBEq, Nat.reduceBNe, Option.some.injEq]; exact rfl) (fun z : Nat × Nat => [(0, .v (.int .i64 (z.1 : Int))), (1, .v (.int .i64 (z.2 : Int)))]) (fun _ => by simp only [ovr_nil, ovr_cons, List.set_cons_zero, List.set_cons_succ]; exact rfl) (fun z : Nat × Nat => z.1 ≤ 1000000000 ∧ z.2 ≤ 1000000000 ∧ Nat.gcd z.1 z.2 = Nat.gcd a b) (fun z : Nat × Nat => z.2) ((a, b)) (by (try simp -implicitDefEqProofs only [nleL_cc, nleL_nn, nle_self, nle_boxs, nle_aggs, nle_nils, and_self, and_true, true_and]) <;> repeat' (first | exact nle_of_eq rfl | exact nle_nil | refine And.intro ?_ ?_ | refine nle_box ?_ | refine nle_agg ?_ | refine nle_sl ?_ | exact nleLL_nil | refine nleLL_cons ?_ ?_ | exact nleL_nil | refine nleL_cons ?_ ?_ | exact nle_rfl _)) (?_) ?_
  · exact ⟨ha, hb, rfl⟩
  rintro ⟨x, y⟩ ⟨h1, h2, h3⟩
  simp only at h1 h2 h3
  by_cases hy : y = 0
  · subst hy
    rw [Nat.gcd_zero_right] at h3
    simp -implicitDefEqProofs (disch := omega) only [go_sem, ↓reduceIte, Nat.reduceAdd, Nat.reduceMul, Nat.reduceLeDiff, reduceCtorEq, Nat.reduceEqDiff, Nat.reduceBEq, Nat.reduceBNe, Option.some.injEq , Int.natCast_zero, Int.natCast_one, Int.cast_ofNat_Int, Int.ofNat_le, Int.toNat_zero, Nat.sub_zero, Int.le_refl, Int.reduceLT, Int.reduceLE, Int.reduceEq, Int.reduceAdd, Int.reduceSub, Int.reduceMul, Int.reduceToNat, Int.reduceNeg, Int.lt_irrefl, decide_false, h3]
  · have d0 : decide ((0 : Int) < (y : Int)) = true := by rw [decide_eq_true_eq]; omega
    have hz : ¬ (y : Int) = 0 := by omega
    have hm : ((x : Int)).tmod (y : Int) = ((x % y : Nat) : Int) := rfl
    have hlt : x % y < y := Nat.mod_lt _ (by omega)
    simp -implicitDefEqProofs (disch := omega) only [go_sem, ↓reduceIte, Nat.reduceAdd, Nat.reduceMul, Nat.reduceLeDiff, reduceCtorEq, Nat.reduceEqDiff, Nat.reduceBEq, Nat.reduceBNe, Option.some.injEq , d0, hz, hm]
    exact ⟨(y, x % y), hlt, ⟨h2, by simp only; omega, by simp only; rw [gcd_next]; exact h3⟩, by (try simp -implicitDefEqProofs only [nleL_cc, nleL_nn, nle_self, nle_boxs, nle_aggs, nle_nils, and_self, and_true, true_and]) <;> repeat' (first | exact nle_of_eq rfl | exact nle_nil | refine And.intro ?_ ?_ | refine nle_box ?_ | refine nle_agg ?_ | refine nle_sl ?_ | exact nleLL_nil | refine nleLL_cons ?_ ?_ | exact nleL_nil | refine nleL_cons ?_ ?_ | exact nle_rfl _)⟩
/-- spec.l01Abs -/
def code_spec_l01Abs : VCode := (.seq (.ops [
  ⟨(some 2), none, (.asg (.const (.int .i64 0)))⟩]) (.seq (.seq (.ops [
  ⟨(some 3), none, (.mv (.tmp 0))⟩,
  ⟨(some 4), none, (.bin .lss (.tmp 3) (.const (.int .i64 0)))⟩]) (.cond (.tmp 4) (.seq (.ops [
  ⟨(some 5), none, (.mv (.tmp 0))⟩,
  ⟨(some 6), none, (.un .neg (.tmp 5))⟩,
  ⟨(some 2), none, (.asg (.tmp 6))⟩]) .ret) .skip)) (.seq (.ops [
  ⟨(some 7), none, (.mv (.tmp 0))⟩,
  ⟨(some 2), none, (.asg (.tmp 7))⟩]) .ret)))
theorem law_spec_l01Abs {a0 d : D} (h : code_spec_l01Abs.wp (CT Try.prog NoG) (endQ [(.t 2)] d) [a0, .undef, .undef, .undef, .undef, .undef, .undef, .undef]) : Contract Try.prog NoG 36 [a0] d :=
  contract_of noG Try.func36 (fun us W => by kernel_rfl) (c := Try.f36.body.getD .skip) (ms := []) (ms' := []) (by kernel_rfl) (by kernel_rfl) (by kernel_rfl) h
abbrev mk_spec_l01Frac_0 : List Bool := [false, false, false, true, true, true, true, true, true, true, true, true, true, true, true, true, true]
abbrev mk_spec_l01Frac_1 : List Bool := [false, false, false, false, true, true, true, true, true, true, true, true, true, true, true, true, true]
abbrev mk_spec_l01Frac_2 : List Bool := [false, false, false, false, false, true, true, true, true, true, true, true, true, true, true, true, true]
abbrev mk_spec_l01Frac_3 : List Bool := [false, false, false, false, false, false, true, true, true, true, true, true, true, true, true, true, true]
abbrev mk_spec_l01Frac_4 : List Bool := [false, false, false, false, false, false, false, true, true, true, true, true, true, true, true, true, true]
abbrev mk_spec_l01Frac_5 : List Bool := [false, false, false, false, false, false, false, false, true, true, true, true, true, true, true, true, true]
abbrev mk_spec_l01Frac_6 : List Bool := [false, false, false, false, false, false, false, false, false, true, true, true, true, true, true, true, true]
abbrev mk_spec_l01Frac_7 : List Bool := [false, false, false, false, false, false, false, false, false, false, true, true, true, true, true, true, true]
abbrev mk_spec_l01Frac_8 : List Bool := [false, false, false, false, false, false, false, false, false, false, false, true, true, true, true, true, true]
abbrev mk_spec_l01Frac_9 : List Bool := [false, false, false, false, false, false, false, false, false, false, false, false, true, true, true, true, true]
abbrev mk_spec_l01Frac_10 : List Bool := [false, false, false, false, false, false, false, false, false, false, false, false, false, true, true, true, true]
abbrev mk_spec_l01Frac_11 : List Bool := [false, false, false, false, false, false, false, false, false, false, false, false, false, false, true, true, true]
abbrev mk_spec_l01Frac_12 : List Bool := [false, false, false, false, false, false, false, false, false, false, false, false, true, true, true, false, true]
/-- spec.l01Frac -/
def code_spec_l01Frac : VCode := (.seq (.ops [
  ⟨(some 1), none, (.box (.tmp 0))⟩,
  ⟨(some 2), none, (.asg (.const (.bool false)))⟩]) (.seq (.draw mk_spec_l01Frac_0 [] [⟨0, mk_spec_l01Frac_0, [], ⟨(some 3), none, (.fa 0 (.tmp 1))⟩⟩, ⟨1, mk_spec_l01Frac_1, [], ⟨(some 4), none, (.load 1 false (.tmp 3))⟩⟩, ⟨2, mk_spec_l01Frac_2, [], ⟨(some 5), none, (.call 33 [(.tmp 4), (.const (.int .i64 (-1000000000))), (.const (.int .i64 1000000000))])⟩⟩, ⟨3, mk_spec_l01Frac_3, [], ⟨(some 6), none, (.mv (.tmp 5))⟩⟩, ⟨4, mk_spec_l01Frac_4, [], ⟨(some 7), (some (6, true)), (.fa 1 (.tmp 1))⟩⟩, ⟨5, mk_spec_l01Frac_5, [], ⟨(some 8), (some (6, true)), (.load 1 false (.tmp 7))⟩⟩, ⟨6, mk_spec_l01Frac_6, [], ⟨(some 9), (some (6, true)), (.call 33 [(.tmp 8), (.const (.int .i64 1)), (.const (.int .i64 1000000000))])⟩⟩, ⟨7, mk_spec_l01Frac_7, [], ⟨(some 10), none, (.pick (.tmp 6) (.tmp 9) (.const (.bool false)))⟩⟩, ⟨8, mk_spec_l01Frac_8, [], ⟨(some 11), none, (.mv (.tmp 10))⟩⟩, ⟨9, mk_spec_l01Frac_9, [], ⟨(some 12), (some (11, true)), (.fa 0 (.tmp 1))⟩⟩, ⟨10, mk_spec_l01Frac_10, [], ⟨(some 13), (some (11, true)), (.load 1 false (.tmp 12))⟩⟩, ⟨11, mk_spec_l01Frac_11, [], ⟨(some 14), (some (11, true)), (.call 36 [(.tmp 13)])⟩⟩, ⟨12, mk_spec_l01Frac_9, [], ⟨(some 15), (some (11, true)), (.fa 1 (.tmp 1))⟩⟩, ⟨13, mk_spec_l01Frac_12, [], ⟨(some 16), (some (11, true)), (.load 1 false (.tmp 15))⟩⟩] [⟨(some 17), (some (11, true)), (.callX 35 [(.tmp 14), (.tmp 16)])⟩, ⟨(some 18), (some (11, true)), (.bin .eql (.tmp 17) (.const (.int .i64 1)))⟩, ⟨(some 19), none, (.pick (.tmp 11) (.tmp 18) (.const (.bool false)))⟩, ⟨(some 2), none, (.asg (.tmp 19))⟩]) .ret))
theorem law_spec_l01Frac {a0 d : D} (h : code_spec_l01Frac.wp (CT Try.prog NoG) (endQ [(.t 2)] d) [a0, .undef, .undef, .undef, .undef, .undef, .undef, .undef, .undef, .undef, .undef, .undef, .undef, .undef, .undef, .undef, .undef, .undef, .undef, .undef]) : Contract Try.prog NoG 37 [a0] d :=
  contract_of noG Try.func37 (fun us W => by kernel_rfl) (c := Try.f37.body.getD .skip) (ms := []) (ms' := []) (by kernel_rfl) (by kernel_rfl) (by kernel_rfl) h
abbrev mk_spec_l01Make_0 : List Bool := [false, false, false, false, false, false, false, true, false, false, false, false, false, false, false, false, false, false, true, true, true, true, true, true, true]
abbrev mk_spec_l01Make_1 : List Bool := [false, false, false, false, false, false, false, false, false, false, false, false, false, false, false, false, false, false, false, false, true, false, false, true]
abbrev mk_spec_l01Make_2 : List Bool := [false, false, false, false, false, false, false, true, false, false, false, false, false, false, false, false, false, false, false, false, true, true, true, true, true]
abbrev mk_spec_l01Make_3 : List Bool := [false, false, false, false, false, false, false, true, false, false, false, false, false, false, false, false, false, false, true, true, true, false, false, true, true]
abbrev mk_spec_l01Make_4 : List Bool := [false, false, false, false, false, false, false, true, false, false, false, false, false, false, false, false, false, false, false, false, false, false, false, false, true]
/-- spec.l01Make -/
def code_spec_l01Make : VCode := (.seq (.ops [
  ⟨(some 4), none, (.alloc [(.int .i64 0), (.int .i64 0)])⟩,
  ⟨(some 5), none, (.asg (.const (.int .i64 0)))⟩]) (.seq (.seq (.ops [
  ⟨(some 8), none, (.mv (.tmp 1))⟩,
  ⟨(some 9), none, (.bin .lss (.tmp 8) (.const (.int .i64 0)))⟩]) (.cond (.tmp 9) (.seq (.ops [
  ⟨(some 10), none, (.mv (.tmp 0))⟩,
  ⟨(some 11), none, (.un .neg (.tmp 10))⟩,
  ⟨(some 0), none, (.asg (.tmp 11))⟩]) (.ops [
  ⟨(some 12), none, (.mv (.tmp 1))⟩,
  ⟨(some 13), none, (.un .neg (.tmp 12))⟩,
  ⟨(some 1), none, (.asg (.tmp 13))⟩])) .skip)) (.seq (.ops [
  ⟨(some 14), none, (.mv (.tmp 0))⟩,
  ⟨(some 15), none, (.callX 36 [(.tmp 14)])⟩,
  ⟨(some 16), none, (.mv (.tmp 1))⟩,
  ⟨(some 17), none, (.callX 35 [(.tmp 15), (.tmp 16)])⟩,
  ⟨(some 6), none, (.asg (.tmp 17))⟩]) (.seq (.draw mk_spec_l01Make_0 mk_spec_l01Make_1 [⟨0, mk_spec_l01Make_0, [], ⟨(some 18), none, (.mv (.tmp 0))⟩⟩, ⟨1, mk_spec_l01Make_0, [], ⟨(some 19), none, (.mv (.tmp 6))⟩⟩, ⟨2, mk_spec_l01Make_2, [], ⟨(some 20), none, (.bin .quo (.tmp 18) (.tmp 19))⟩⟩, ⟨3, mk_spec_l01Make_0, [], ⟨(some 21), none, (.mv (.tmp 1))⟩⟩, ⟨4, mk_spec_l01Make_0, [], ⟨(some 22), none, (.mv (.tmp 6))⟩⟩, ⟨5, mk_spec_l01Make_3, [], ⟨(some 23), none, (.bin .quo (.tmp 21) (.tmp 22))⟩⟩, ⟨6, mk_spec_l01Make_4, mk_spec_l01Make_1, ⟨(some 24), none, (.build [(.int .i64 0), (.int .i64 0)] [(0, 1, (.tmp 20)), (1, 1, (.tmp 23))])⟩⟩, ⟨7, mk_spec_l01Make_0, [], ⟨(some 7), none, (.alloc [(.int .i64 0), (.int .i64 0)])⟩⟩] [⟨none, none, (.store 2 (.tmp 7) (.tmp 24))⟩]) (.seq (.seq (.ops [
  ⟨(some 25), none, (.load 2 true (.tmp 7))⟩,
  ⟨(some 26), none, (.callX 37 [(.tmp 25)])⟩,
  ⟨(some 27), none, (.un .not (.tmp 26))⟩]) (.cond (.tmp 27) (.seq (.ops [
  ⟨(some 28), none, (.build [(.int .i64 0), (.int .i64 0)] [])⟩,
  ⟨none, none, (.store 2 (.tmp 4) (.tmp 28))⟩,
  ⟨(some 5), none, (.asg (.const (.int .i64 4)))⟩]) .ret) .skip)) (.seq (.ops [
  ⟨(some 29), none, (.load 2 true (.tmp 7))⟩,
  ⟨none, none, (.store 2 (.tmp 4) (.tmp 29))⟩,
  ⟨(some 5), none, (.asg (.const (.int .i64 0)))⟩]) .ret))))))
theorem law_spec_l01Make {a0 a1 d : D} (h : code_spec_l01Make.wp (CT Try.prog NoG) (endQ [(.c 4 2 true), (.t 5)] d) [a0, a1, .undef, .undef, .undef, .undef, .undef, .undef, .undef, .undef, .undef, .undef, .undef, .undef, .undef, .undef, .undef, .undef, .undef, .undef, .undef, .undef, .undef, .undef, .undef, .undef, .undef, .undef, .undef, .undef]) : Contract Try.prog NoG 18 [a0, a1] d :=
  contract_of noG Try.func18 (fun us W => by kernel_rfl) (c := Try.f18.body.getD .skip) (ms := []) (ms' := []) (by kernel_rfl) (by kernel_rfl) (by kernel_rfl) h
theorem v_l01Abs (a : Nat) : Contract Try.prog NoG 36 [.v (.int .i64 (a : Int))] (.v (.int .i64 (a : Int))) := by
  refine law_spec_l01Abs ?_
  unfold code_spec_l01Abs
  have d0 : decide ((a : Int) < 0) = false := by rw [decide_eq_false_iff_not]; omega
  simp -implicitDefEqProofs (disch := omega) only [go_sem, ↓reduceIte, Nat.reduceAdd, Nat.reduceMul, Nat.reduceLeDiff, reduceCtorEq, Nat.reduceEqDiff, Nat.reduceBEq, Nat.reduceBNe, Option.some.injEq , d0]
theorem v_l01Frac (a b : Nat) (ha : a ≤ 1000000000) (h0 : 0 < b) (hb : b ≤ 1000000000) (hg : Nat.gcd a b = 1) : Contract Try.prog NoG 37 [.agg [.v (.int .i64 (a : Int)), .v (.int .i64 (b : Int))]] (.v (.bool true)) := by
  refine law_spec_l01Frac ?_
  unfold code_spec_l01Frac
  have h1 : inR (-1000000000) 1000000000 (a : Int) = true := inR_iff.2 (by omega)
  have h2 : inR 1 1000000000 (b : Int) = true := inR_iff.2 (by omega)
  simp -implicitDefEqProofs (disch := omega) only [go_sem, ↓reduceIte, Nat.reduceAdd, Nat.reduceMul, Nat.reduceLeDiff, reduceCtorEq, Nat.reduceEqDiff, Nat.reduceBEq, Nat.reduceBNe, Option.some.injEq]
  refine call_leNA (v_l00In (a : Int) (-1000000000) 1000000000) (by simp -implicitDefEqProofs (disch := omega) only [go_sem, ↓reduceIte, Nat.reduceAdd, Nat.reduceMul, Nat.reduceLeDiff, reduceCtorEq, Nat.reduceEqDiff, Nat.reduceBEq, Nat.reduceBNe, Option.some.injEq, deep, TD.rows, immLL_rI, immLL_rB8, immLL_rS, immLL_rBo, immLL_rII, h1]; exact rfl) (by repeat (first | exact leL_nil | refine leL_cons ?_ ?_ | exact le_of_eq rfl | exact le_slf rfl (by first | rfl | exact TD.rows _ _ _) | refine le_agg ?_ | (refine le_iptrN ?_; simp only [List.drop_succ_cons, List.drop_zero, List.take_succ_cons, List.take_zero, List.take_nil, List.length_cons, List.length_nil, Nat.zero_add, Nat.reduceAdd]) | refine le_iptr ?_ | refine le_fn ?_ ?_)) (by first | exact .inl rfl | exact .inl (by simp only [D.noImm, noImmL, Bool.and_true, Bool.true_and, TD.nims, TD.nim, nim_rI, nim_rB8, nim_rBo, nim_rS])) ?_
  simp -implicitDefEqProofs (disch := omega) only [go_sem, ↓reduceIte, Nat.reduceAdd, Nat.reduceMul, Nat.reduceLeDiff, reduceCtorEq, Nat.reduceEqDiff, Nat.reduceBEq, Nat.reduceBNe, Option.some.injEq , h1]
  refine call_leNA (v_l00In (b : Int) 1 1000000000) (by simp -implicitDefEqProofs (disch := omega) only [go_sem, ↓reduceIte, Nat.reduceAdd, Nat.reduceMul, Nat.reduceLeDiff, reduceCtorEq, Nat.reduceEqDiff, Nat.reduceBEq, Nat.reduceBNe, Option.some.injEq, deep, TD.rows, immLL_rI, immLL_rB8, immLL_rS, immLL_rBo, immLL_rII, h2]; exact rfl) (by repeat (first | exact leL_nil | refine leL_cons ?_ ?_ | exact le_of_eq rfl | exact le_slf rfl (by first | rfl | exact TD.rows _ _ _) | refine le_agg ?_ | (refine le_iptrN ?_; simp only [List.drop_succ_cons, List.drop_zero, List.take_succ_cons, List.take_zero, List.take_nil, List.length_cons, List.length_nil, Nat.zero_add, Nat.reduceAdd]) | refine le_iptr ?_ | refine le_fn ?_ ?_)) (by first | exact .inl rfl | exact .inl (by simp only [D.noImm, noImmL, Bool.and_true, Bool.true_and, TD.nims, TD.nim, nim_rI, nim_rB8, nim_rBo, nim_rS])) ?_
  simp -implicitDefEqProofs (disch := omega) only [go_sem, ↓reduceIte, Nat.reduceAdd, Nat.reduceMul, Nat.reduceLeDiff, reduceCtorEq, Nat.reduceEqDiff, Nat.reduceBEq, Nat.reduceBNe, Option.some.injEq , h2]
  refine call_leNA (v_l01Abs a) (by simp -implicitDefEqProofs (disch := omega) only [go_sem, ↓reduceIte, Nat.reduceAdd, Nat.reduceMul, Nat.reduceLeDiff, reduceCtorEq, Nat.reduceEqDiff, Nat.reduceBEq, Nat.reduceBNe, Option.some.injEq, deep, TD.rows, immLL_rI, immLL_rB8, immLL_rS, immLL_rBo, immLL_rII]; exact rfl) (by repeat (first | exact leL_nil | refine leL_cons ?_ ?_ | exact le_of_eq rfl | exact le_slf rfl (by first | rfl | exact TD.rows _ _ _) | refine le_agg ?_ | (refine le_iptrN ?_; simp only [List.drop_succ_cons, List.drop_zero, List.take_succ_cons, List.take_zero, List.take_nil, List.length_cons, List.length_nil, Nat.zero_add, Nat.reduceAdd]) | refine le_iptr ?_ | refine le_fn ?_ ?_)) (by first | exact .inl rfl | exact .inl (by simp only [D.noImm, noImmL, Bool.and_true, Bool.true_and, TD.nims, TD.nim, nim_rI, nim_rB8, nim_rBo, nim_rS])) ?_
  simp -implicitDefEqProofs (disch := omega) only [go_sem, ↓reduceIte, Nat.reduceAdd, Nat.reduceMul, Nat.reduceLeDiff, reduceCtorEq, Nat.reduceEqDiff, Nat.reduceBEq, Nat.reduceBNe, Option.some.injEq]
  refine call_leA (v_l01Gcd a b ha hb) (by simp -implicitDefEqProofs (disch := omega) only [go_sem, ↓reduceIte, Nat.reduceAdd, Nat.reduceMul, Nat.reduceLeDiff, reduceCtorEq, Nat.reduceEqDiff, Nat.reduceBEq, Nat.reduceBNe, Option.some.injEq, deep, TD.rows, immLL_rI, immLL_rB8, immLL_rS, immLL_rBo, immLL_rII, hg, Int.natCast_zero, Int.natCast_one, Int.cast_ofNat_Int, Int.ofNat_le, Int.toNat_zero, Nat.sub_zero, Int.le_refl, Int.reduceLT, Int.reduceLE, Int.reduceEq, Int.reduceAdd, Int.reduceSub, Int.reduceMul, Int.reduceToNat, Int.reduceNeg, decide_true]; exact rfl) (by repeat (first | exact leL_nil | refine leL_cons ?_ ?_ | exact le_of_eq rfl | exact le_slf rfl (by first | rfl | exact TD.rows _ _ _) | refine le_agg ?_ | (refine le_iptrN ?_; simp only [List.drop_succ_cons, List.drop_zero, List.take_succ_cons, List.take_zero, List.take_nil, List.length_cons, List.length_nil, Nat.zero_add, Nat.reduceAdd]) | refine le_iptr ?_ | refine le_fn ?_ ?_)) (by first | exact .inl rfl | exact .inl (by simp only [D.noImm, noImmL, Bool.and_true, Bool.true_and, TD.nims, TD.nim, nim_rI, nim_rB8, nim_rBo, nim_rS])) ?_
  simp -implicitDefEqProofs (disch := omega) only [go_sem, ↓reduceIte, Nat.reduceAdd, Nat.reduceMul, Nat.reduceLeDiff, reduceCtorEq, Nat.reduceEqDiff, Nat.reduceBEq, Nat.reduceBNe, Option.some.injEq , hg, Int.natCast_zero, Int.natCast_one, Int.cast_ofNat_Int, Int.ofNat_le, Int.toNat_zero, Nat.sub_zero, Int.le_refl, Int.reduceLT, Int.reduceLE, Int.reduceEq, Int.reduceAdd, Int.reduceSub, Int.reduceMul, Int.reduceToNat, Int.reduceNeg, decide_true]
theorem v_l01Make (a b : Nat) (ha : a ≤ 1000000000) (h0 : 0 < b) (hb : b ≤ 1000000000) : Contract Try.prog NoG 18 [.v (.int .i64 (a : Int)), .v (.int .i64 (b : Int))] (.tup [.agg (Frac.td.d true (fracN a b)), .v (.int .i64 0)]) := by
  obtain ⟨g0, g1, q1, q2, q3, q4⟩ := frac_facts ha h0 hb
  rw [Frac.td_d]
  refine law_spec_l01Make ?_
  unfold code_spec_l01Make fracN
  have d0 : decide ((b : Int) < 0) = false := by rw [decide_eq_false_iff_not]; omega
  have hz : ¬ ((Nat.gcd a b : Nat) : Int) = 0 := by omega
  have t1 : ((a : Int)).tdiv ((Nat.gcd a b : Nat) : Int) = ((a / Nat.gcd a b : Nat) : Int) := rfl
  have t2 : ((b : Int)).tdiv ((Nat.gcd a b : Nat) : Int) = ((b / Nat.gcd a b : Nat) : Int) := rfl
  have w1 := wrQ q1
  have w2 := wrQ q3
  simp -implicitDefEqProofs (disch := omega) only [go_sem, ↓reduceIte, Nat.reduceAdd, Nat.reduceMul, Nat.reduceLeDiff, reduceCtorEq, Nat.reduceEqDiff, Nat.reduceBEq, Nat.reduceBNe, Option.some.injEq , d0]
  refine call_leA (v_l01Abs a) (by simp -implicitDefEqProofs (disch := omega) only [go_sem, ↓reduceIte, Nat.reduceAdd, Nat.reduceMul, Nat.reduceLeDiff, reduceCtorEq, Nat.reduceEqDiff, Nat.reduceBEq, Nat.reduceBNe, Option.some.injEq, deep, TD.rows, immLL_rI, immLL_rB8, immLL_rS, immLL_rBo, immLL_rII]; exact rfl) (by repeat (first | exact leL_nil | refine leL_cons ?_ ?_ | exact le_of_eq rfl | exact le_slf rfl (by first | rfl | exact TD.rows _ _ _) | refine le_agg ?_ | (refine le_iptrN ?_; simp only [List.drop_succ_cons, List.drop_zero, List.take_succ_cons, List.take_zero, List.take_nil, List.length_cons, List.length_nil, Nat.zero_add, Nat.reduceAdd]) | refine le_iptr ?_ | refine le_fn ?_ ?_)) (by first | exact .inl rfl | exact .inl (by simp only [D.noImm, noImmL, Bool.and_true, Bool.true_and, TD.nims, TD.nim, nim_rI, nim_rB8, nim_rBo, nim_rS])) ?_
  simp -implicitDefEqProofs (disch := omega) only [go_sem, ↓reduceIte, Nat.reduceAdd, Nat.reduceMul, Nat.reduceLeDiff, reduceCtorEq, Nat.reduceEqDiff, Nat.reduceBEq, Nat.reduceBNe, Option.some.injEq]
  refine call_leA (v_l01Gcd a b ha hb) (by simp -implicitDefEqProofs (disch := omega) only [go_sem, ↓reduceIte, Nat.reduceAdd, Nat.reduceMul, Nat.reduceLeDiff, reduceCtorEq, Nat.reduceEqDiff, Nat.reduceBEq, Nat.reduceBNe, Option.some.injEq, deep, TD.rows, immLL_rI, immLL_rB8, immLL_rS, immLL_rBo, immLL_rII, hz, t1, t2, w1, w2]; exact rfl) (by repeat (first | exact leL_nil | refine leL_cons ?_ ?_ | exact le_of_eq rfl | exact le_slf rfl (by first | rfl | exact TD.rows _ _ _) | refine le_agg ?_ | (refine le_iptrN ?_; simp only [List.drop_succ_cons, List.drop_zero, List.take_succ_cons, List.take_zero, List.take_nil, List.length_cons, List.length_nil, Nat.zero_add, Nat.reduceAdd]) | refine le_iptr ?_ | refine le_fn ?_ ?_)) (by first | exact .inl rfl | exact .inl (by simp only [D.noImm, noImmL, Bool.and_true, Bool.true_and, TD.nims, TD.nim, nim_rI, nim_rB8, nim_rBo, nim_rS])) ?_
  simp -implicitDefEqProofs (disch := omega) only [go_sem, ↓reduceIte, Nat.reduceAdd, Nat.reduceMul, Nat.reduceLeDiff, reduceCtorEq, Nat.reduceEqDiff, Nat.reduceBEq, Nat.reduceBNe, Option.some.injEq , hz, t1, t2, w1, w2]
  refine call_leA (v_l01Frac (a / Nat.gcd a b) (b / Nat.gcd a b) q1 q2 q3 q4) (by simp -implicitDefEqProofs (disch := omega) only [go_sem, ↓reduceIte, Nat.reduceAdd, Nat.reduceMul, Nat.reduceLeDiff, reduceCtorEq, Nat.reduceEqDiff, Nat.reduceBEq, Nat.reduceBNe, Option.some.injEq, deep, TD.rows, immLL_rI, immLL_rB8, immLL_rS, immLL_rBo, immLL_rII]; exact rfl) (by repeat (first | exact leL_nil | refine leL_cons ?_ ?_ | exact le_of_eq rfl | exact le_slf rfl (by first | rfl | exact TD.rows _ _ _) | refine le_agg ?_ | (refine le_iptrN ?_; simp only [List.drop_succ_cons, List.drop_zero, List.take_succ_cons, List.take_zero, List.take_nil, List.length_cons, List.length_nil, Nat.zero_add, Nat.reduceAdd]) | refine le_iptr ?_ | refine le_fn ?_ ?_)) (by first | exact .inl rfl | exact .inl (by simp only [D.noImm, noImmL, Bool.and_true, Bool.true_and, TD.nims, TD.nim, nim_rI, nim_rB8, nim_rBo, nim_rS])) ?_
  simp -implicitDefEqProofs (disch := omega) only [go_sem, ↓reduceIte, Nat.reduceAdd, Nat.reduceMul, Nat.reduceLeDiff, reduceCtorEq, Nat.reduceEqDiff, Nat.reduceBEq, Nat.reduceBNe, Option.some.injEq]
abbrev mk_impl_reduced_0 : List Bool := [false, false, false, false, false, false, false, true, false, false, false, false, false, false, false, true, true, true, true, true, true, true]
abbrev mk_impl_reduced_1 : List Bool := [false, false, false, false, false, false, false, false, false, false, false, false, false, false, false, false, false, true, false, false, true]
abbrev mk_impl_reduced_2 : List Bool := [false, false, false, false, false, false, false, true, false, false, false, false, false, false, false, false, false, true, true, true, true, true]
abbrev mk_impl_reduced_3 : List Bool := [false, false, false, false, false, false, false, true, false, false, false, false, false, false, false, true, true, true, false, false, true, true]
abbrev mk_impl_reduced_4 : List Bool := [false, false, false, false, false, false, false, true, false, false, false, false, false, false, false, false, false, false, false, false, false, true]
/-- impl.reduced -/
def code_impl_reduced : VCode := (.seq (.ops [
  ⟨(some 4), none, (.alloc [(.int .i64 0), (.int .i64 0)])⟩,
  ⟨(some 5), none, (.asg (.const (.int .i64 0)))⟩]) (.seq (.ops [
  ⟨(some 8), none, (.mv (.tmp 0))⟩,
  ⟨(some 9), none, (.mv (.tmp 1))⟩,
  ⟨(some 10), none, (.callX 58 [(.tmp 8), (.tmp 9)])⟩,
  ⟨(some 6), none, (.asg (.tmp 10))⟩]) (.seq (.seq (.ops [
  ⟨(some 11), none, (.mv (.tmp 1))⟩,
  ⟨(some 12), none, (.bin .lss (.tmp 11) (.const (.int .i64 0)))⟩]) (.cond (.tmp 12) (.ops [
  ⟨(some 13), none, (.mv (.tmp 6))⟩,
  ⟨(some 14), none, (.un .neg (.tmp 13))⟩,
  ⟨(some 6), none, (.asg (.tmp 14))⟩]) .skip)) (.seq (.draw mk_impl_reduced_0 mk_impl_reduced_1 [⟨0, mk_impl_reduced_0, [], ⟨(some 15), none, (.mv (.tmp 0))⟩⟩, ⟨1, mk_impl_reduced_0, [], ⟨(some 16), none, (.mv (.tmp 6))⟩⟩, ⟨2, mk_impl_reduced_2, [], ⟨(some 17), none, (.bin .quo (.tmp 15) (.tmp 16))⟩⟩, ⟨3, mk_impl_reduced_0, [], ⟨(some 18), none, (.mv (.tmp 1))⟩⟩, ⟨4, mk_impl_reduced_0, [], ⟨(some 19), none, (.mv (.tmp 6))⟩⟩, ⟨5, mk_impl_reduced_3, [], ⟨(some 20), none, (.bin .quo (.tmp 18) (.tmp 19))⟩⟩, ⟨6, mk_impl_reduced_4, mk_impl_reduced_1, ⟨(some 21), none, (.build [(.int .i64 0), (.int .i64 0)] [(0, 1, (.tmp 17)), (1, 1, (.tmp 20))])⟩⟩, ⟨7, mk_impl_reduced_0, [], ⟨(some 7), none, (.alloc [(.int .i64 0), (.int .i64 0)])⟩⟩] [⟨none, none, (.store 2 (.tmp 7) (.tmp 21))⟩]) (.seq (.seq (.ops [
  ⟨(some 22), none, (.fa 0 (.tmp 7))⟩,
  ⟨(some 23), none, (.load 1 false (.tmp 22))⟩,
  ⟨(some 24), none, (.callX 44 [(.tmp 23), (.const (.int .i64 (-1000000000))), (.const (.int .i64 1000000000))])⟩,
  ⟨(some 25), none, (.un .not (.tmp 24))⟩,
  ⟨(some 26), none, (.mv (.tmp 25))⟩,
  ⟨(some 27), (some (26, false)), (.fa 1 (.tmp 7))⟩,
  ⟨(some 28), (some (26, false)), (.load 1 false (.tmp 27))⟩,
  ⟨(some 29), (some (26, false)), (.bin .gtr (.tmp 28) (.const (.int .i64 1000000000)))⟩,
  ⟨(some 30), none, (.pick (.tmp 26) (.const (.bool true)) (.tmp 29))⟩]) (.cond (.tmp 30) (.seq (.ops [
  ⟨(some 31), none, (.build [(.int .i64 0), (.int .i64 0)] [])⟩,
  ⟨none, none, (.store 2 (.tmp 4) (.tmp 31))⟩,
  ⟨(some 5), none, (.asg (.const (.int .i64 4)))⟩]) .ret) .skip)) (.seq (.ops [
  ⟨(some 32), none, (.load 2 true (.tmp 7))⟩,
  ⟨none, none, (.store 2 (.tmp 4) (.tmp 32))⟩,
  ⟨(some 5), none, (.asg (.const (.int .i64 0)))⟩]) .ret))))))
theorem law_impl_reduced {a0 a1 d : D} (h : code_impl_reduced.wp (CT Try.prog NoG) (endQ [(.c 4 2 true), (.t 5)] d) [a0, a1, .undef, .undef, .undef, .undef, .undef, .undef, .undef, .undef, .undef, .undef, .undef, .undef, .undef, .undef, .undef, .undef, .undef, .undef, .undef, .undef, .undef, .undef, .undef, .undef, .undef, .undef, .undef, .undef, .undef, .undef, .undef]) : Contract Try.prog NoG 45 [a0, a1] d :=
  contract_of noG Try.func45 (fun us W => by kernel_rfl) (c := Try.f45.body.getD .skip) (ms := []) (ms' := []) (by kernel_rfl) (by kernel_rfl) (by kernel_rfl) h
/-- impl.MakeFrac -/
def code_impl_MakeFrac : VCode := (.seq (.ops [
  ⟨(some 4), none, (.alloc [(.int .i64 0), (.int .i64 0)])⟩,
  ⟨(some 5), none, (.asg (.const (.int .i64 0)))⟩]) (.seq (.seq (.ops [
  ⟨(some 6), none, (.mv (.tmp 0))⟩,
  ⟨(some 7), none, (.callX 44 [(.tmp 6), (.const (.int .i64 (-1000000000))), (.const (.int .i64 1000000000))])⟩,
  ⟨(some 8), none, (.un .not (.tmp 7))⟩,
  ⟨(some 9), none, (.mv (.tmp 8))⟩,
  ⟨(some 10), (some (9, false)), (.mv (.tmp 1))⟩,
  ⟨(some 11), (some (9, false)), (.callX 44 [(.tmp 10), (.const (.int .i64 (-1000000000))), (.const (.int .i64 1000000000))])⟩,
  ⟨(some 12), (some (9, false)), (.un .not (.tmp 11))⟩,
  ⟨(some 13), none, (.pick (.tmp 9) (.const (.bool true)) (.tmp 12))⟩,
  ⟨(some 14), none, (.mv (.tmp 13))⟩,
  ⟨(some 15), (some (14, false)), (.mv (.tmp 1))⟩,
  ⟨(some 16), (some (14, false)), (.bin .eql (.tmp 15) (.const (.int .i64 0)))⟩,
  ⟨(some 17), none, (.pick (.tmp 14) (.const (.bool true)) (.tmp 16))⟩]) (.cond (.tmp 17) (.seq (.ops [
  ⟨(some 18), none, (.build [(.int .i64 0), (.int .i64 0)] [])⟩,
  ⟨none, none, (.store 2 (.tmp 4) (.tmp 18))⟩,
  ⟨(some 5), none, (.asg (.const (.int .i64 2)))⟩]) .ret) .skip)) (.seq (.ops [
  ⟨(some 19), none, (.mv (.tmp 0))⟩,
  ⟨(some 20), none, (.mv (.tmp 1))⟩,
  ⟨(some 21), none, (.callX 45 [(.tmp 19), (.tmp 20)])⟩,
  ⟨(some 22), none, (.ext (.tmp 21) 0)⟩,
  ⟨(some 23), none, (.ext (.tmp 21) 1)⟩,
  ⟨none, none, (.store 2 (.tmp 4) (.tmp 22))⟩,
  ⟨(some 5), none, (.asg (.tmp 23))⟩]) .ret)))
theorem law_impl_MakeFrac {a0 a1 d : D} (h : code_impl_MakeFrac.wp (CT Try.prog NoG) (endQ [(.c 4 2 true), (.t 5)] d) [a0, a1, .undef, .undef, .undef, .undef, .undef, .undef, .undef, .undef, .undef, .undef, .undef, .undef, .undef, .undef, .undef, .undef, .undef, .undef, .undef, .undef, .undef, .undef]) : Contract Try.prog NoG 22 [a0, a1] d :=
  contract_of noG Try.func22 (fun us W => by kernel_rfl) (c := Try.f22.body.getD .skip) (ms := []) (ms' := []) (by kernel_rfl) (by kernel_rfl) (by kernel_rfl) h
theorem v_reduced (a b : Nat) (ha : a ≤ 1000000000) (h0 : 0 < b) (hb : b ≤ 1000000000) : Contract Try.prog NoG 45 [.v (.int .i64 (a : Int)), .v (.int .i64 (b : Int))] (.tup [.agg (Frac.td.d true (fracN a b)), .v (.int .i64 0)]) := by
  obtain ⟨g0, g1, q1, q2, q3, q4⟩ := frac_facts ha h0 hb
  rw [Frac.td_d]
  refine law_impl_reduced ?_
  unfold code_impl_reduced fracN
  have d0 : decide ((b : Int) < 0) = false := by rw [decide_eq_false_iff_not]; omega
  have hz : ¬ ((Nat.gcd a b : Nat) : Int) = 0 := by omega
  have t1 : ((a : Int)).tdiv ((Nat.gcd a b : Nat) : Int) = ((a / Nat.gcd a b : Nat) : Int) := rfl
  have t2 : ((b : Int)).tdiv ((Nat.gcd a b : Nat) : Int) = ((b / Nat.gcd a b : Nat) : Int) := rfl
  have w1 := wrQ q1
  have w2 := wrQ q3
  have h1 := inQ q1
  have d1 := ltQ q3
  simp -implicitDefEqProofs (disch := omega) only [go_sem, ↓reduceIte, Nat.reduceAdd, Nat.reduceMul, Nat.reduceLeDiff, reduceCtorEq, Nat.reduceEqDiff, Nat.reduceBEq, Nat.reduceBNe, Option.some.injEq]
  refine call_leA (v_gcd a b ha hb) (by simp -implicitDefEqProofs (disch := omega) only [go_sem, ↓reduceIte, Nat.reduceAdd, Nat.reduceMul, Nat.reduceLeDiff, reduceCtorEq, Nat.reduceEqDiff, Nat.reduceBEq, Nat.reduceBNe, Option.some.injEq, deep, TD.rows, immLL_rI, immLL_rB8, immLL_rS, immLL_rBo, immLL_rII, d0, hz, t1, t2, w1, w2]; exact rfl) (by repeat (first | exact leL_nil | refine leL_cons ?_ ?_ | exact le_of_eq rfl | exact le_slf rfl (by first | rfl | exact TD.rows _ _ _) | refine le_agg ?_ | (refine le_iptrN ?_; simp only [List.drop_succ_cons, List.drop_zero, List.take_succ_cons, List.take_zero, List.take_nil, List.length_cons, List.length_nil, Nat.zero_add, Nat.reduceAdd]) | refine le_iptr ?_ | refine le_fn ?_ ?_)) (by first | exact .inl rfl | exact .inl (by simp only [D.noImm, noImmL, Bool.and_true, Bool.true_and, TD.nims, TD.nim, nim_rI, nim_rB8, nim_rBo, nim_rS])) ?_
  simp -implicitDefEqProofs (disch := omega) only [go_sem, ↓reduceIte, Nat.reduceAdd, Nat.reduceMul, Nat.reduceLeDiff, reduceCtorEq, Nat.reduceEqDiff, Nat.reduceBEq, Nat.reduceBNe, Option.some.injEq , d0, hz, t1, t2, w1, w2]
  refine call_leA (v_within ((a / Nat.gcd a b : Nat) : Int) (-1000000000) 1000000000) (by simp -implicitDefEqProofs (disch := omega) only [go_sem, ↓reduceIte, Nat.reduceAdd, Nat.reduceMul, Nat.reduceLeDiff, reduceCtorEq, Nat.reduceEqDiff, Nat.reduceBEq, Nat.reduceBNe, Option.some.injEq, deep, TD.rows, immLL_rI, immLL_rB8, immLL_rS, immLL_rBo, immLL_rII, h1, d1]; exact rfl) (by repeat (first | exact leL_nil | refine leL_cons ?_ ?_ | exact le_of_eq rfl | exact le_slf rfl (by first | rfl | exact TD.rows _ _ _) | refine le_agg ?_ | (refine le_iptrN ?_; simp only [List.drop_succ_cons, List.drop_zero, List.take_succ_cons, List.take_zero, List.take_nil, List.length_cons, List.length_nil, Nat.zero_add, Nat.reduceAdd]) | refine le_iptr ?_ | refine le_fn ?_ ?_)) (by first | exact .inl rfl | exact .inl (by simp only [D.noImm, noImmL, Bool.and_true, Bool.true_and, TD.nims, TD.nim, nim_rI, nim_rB8, nim_rBo, nim_rS])) ?_
  simp -implicitDefEqProofs (disch := omega) only [go_sem, ↓reduceIte, Nat.reduceAdd, Nat.reduceMul, Nat.reduceLeDiff, reduceCtorEq, Nat.reduceEqDiff, Nat.reduceBEq, Nat.reduceBNe, Option.some.injEq , h1, d1]
theorem v_MakeFrac (a b : Nat) (ha : a ≤ 1000000000) (h0 : 0 < b) (hb : b ≤ 1000000000) : Contract Try.prog NoG 22 [.v (.int .i64 (a : Int)), .v (.int .i64 (b : Int))] (.tup [.agg (Frac.td.d true (fracN a b)), .v (.int .i64 0)]) := by
  rw [Frac.td_d]
  refine law_impl_MakeFrac ?_
  unfold code_impl_MakeFrac
  have h1 : inR (-1000000000) 1000000000 (a : Int) = true := inR_iff.2 (by omega)
  have h2 : inR (-1000000000) 1000000000 (b : Int) = true := inR_iff.2 (by omega)
  have d0 : decide ((b : Int) = 0) = false := by rw [decide_eq_false_iff_not]; omega
  simp -implicitDefEqProofs (disch := omega) only [go_sem, ↓reduceIte, Nat.reduceAdd, Nat.reduceMul, Nat.reduceLeDiff, reduceCtorEq, Nat.reduceEqDiff, Nat.reduceBEq, Nat.reduceBNe, Option.some.injEq]
  refine call_leA (v_within (a : Int) (-1000000000) 1000000000) (by simp -implicitDefEqProofs (disch := omega) only [go_sem, ↓reduceIte, Nat.reduceAdd, Nat.reduceMul, Nat.reduceLeDiff, reduceCtorEq, Nat.reduceEqDiff, Nat.reduceBEq, Nat.reduceBNe, Option.some.injEq, deep, TD.rows, immLL_rI, immLL_rB8, immLL_rS, immLL_rBo, immLL_rII, h1]; exact rfl) (by repeat (first | exact leL_nil | refine leL_cons ?_ ?_ | exact le_of_eq rfl | exact le_slf rfl (by first | rfl | exact TD.rows _ _ _) | refine le_agg ?_ | (refine le_iptrN ?_; simp only [List.drop_succ_cons, List.drop_zero, List.take_succ_cons, List.take_zero, List.take_nil, List.length_cons, List.length_nil, Nat.zero_add, Nat.reduceAdd]) | refine le_iptr ?_ | refine le_fn ?_ ?_)) (by first | exact .inl rfl | exact .inl (by simp only [D.noImm, noImmL, Bool.and_true, Bool.true_and, TD.nims, TD.nim, nim_rI, nim_rB8, nim_rBo, nim_rS])) ?_
  simp -implicitDefEqProofs (disch := omega) only [go_sem, ↓reduceIte, Nat.reduceAdd, Nat.reduceMul, Nat.reduceLeDiff, reduceCtorEq, Nat.reduceEqDiff, Nat.reduceBEq, Nat.reduceBNe, Option.some.injEq , h1]
  refine call_leA (v_within (b : Int) (-1000000000) 1000000000) (by simp -implicitDefEqProofs (disch := omega) only [go_sem, ↓reduceIte, Nat.reduceAdd, Nat.reduceMul, Nat.reduceLeDiff, reduceCtorEq, Nat.reduceEqDiff, Nat.reduceBEq, Nat.reduceBNe, Option.some.injEq, deep, TD.rows, immLL_rI, immLL_rB8, immLL_rS, immLL_rBo, immLL_rII, h2, d0]; exact rfl) (by repeat (first | exact leL_nil | refine leL_cons ?_ ?_ | exact le_of_eq rfl | exact le_slf rfl (by first | rfl | exact TD.rows _ _ _) | refine le_agg ?_ | (refine le_iptrN ?_; simp only [List.drop_succ_cons, List.drop_zero, List.take_succ_cons, List.take_zero, List.take_nil, List.length_cons, List.length_nil, Nat.zero_add, Nat.reduceAdd]) | refine le_iptr ?_ | refine le_fn ?_ ?_)) (by first | exact .inl rfl | exact .inl (by simp only [D.noImm, noImmL, Bool.and_true, Bool.true_and, TD.nims, TD.nim, nim_rI, nim_rB8, nim_rBo, nim_rS])) ?_
  simp -implicitDefEqProofs (disch := omega) only [go_sem, ↓reduceIte, Nat.reduceAdd, Nat.reduceMul, Nat.reduceLeDiff, reduceCtorEq, Nat.reduceEqDiff, Nat.reduceBEq, Nat.reduceBNe, Option.some.injEq , h2, d0]
  refine call_leA (v_reduced a b ha h0 hb) (by simp -implicitDefEqProofs (disch := omega) only [go_sem, ↓reduceIte, Nat.reduceAdd, Nat.reduceMul, Nat.reduceLeDiff, reduceCtorEq, Nat.reduceEqDiff, Nat.reduceBEq, Nat.reduceBNe, Option.some.injEq, deep, TD.rows, immLL_rI, immLL_rB8, immLL_rS, immLL_rBo, immLL_rII, Frac.td_d]; exact rfl) (by repeat (first | exact leL_nil | refine leL_cons ?_ ?_ | exact le_of_eq rfl | exact le_slf rfl (by first | rfl | exact TD.rows _ _ _) | refine le_agg ?_ | (refine le_iptrN ?_; simp only [List.drop_succ_cons, List.drop_zero, List.take_succ_cons, List.take_zero, List.take_nil, List.length_cons, List.length_nil, Nat.zero_add, Nat.reduceAdd]) | refine le_iptr ?_ | refine le_fn ?_ ?_)) (by first | exact .inl rfl | exact .inl (by simp only [D.noImm, noImmL, Bool.and_true, Bool.true_and, TD.nims, TD.nim, nim_rI, nim_rB8, nim_rBo, nim_rS])) ?_
  simp -implicitDefEqProofs (disch := omega) only [go_sem, ↓reduceIte, Nat.reduceAdd, Nat.reduceMul, Nat.reduceLeDiff, reduceCtorEq, Nat.reduceEqDiff, Nat.reduceBEq, Nat.reduceBNe, Option.some.injEq , Frac.td_d]
end Go.Proofs.Ytlblmbhaakjcaaa
