/- Laws that the proof stands on. -/
import Derived.Test.YtjcmijfompcphaaZVPbL
import Derived.Test.YtjcmijfompcphaaZg16
import Derived.Test.YtjcmijfompcphaaZg8
set_option linter.all false
namespace Go.Proofs.Ytjcmijfompcphaa
open Go.RowKit Go.V
attribute [local go_sem] List.getElem?_cons_succ List.getElem?_cons_zero List.set_cons_succ List.set_cons_zero List.map_cons List.map_nil List.length_cons List.length_nil List.all_cons List.all_nil List.drop_succ_cons List.drop_zero List.take_succ_cons List.take_zero List.flatMap_cons List.flatMap_nil List.cons_append List.nil_append List.append_nil List.headD_cons Value.oneCell' Bool.and_true Bool.true_and Bool.or_false Bool.false_or Bool.and_self Bool.not_true Bool.not_false and_true true_and beq_self_eq_true Bool.false_eq_true if_true if_false Nat.zero_add Nat.reduceAdd Nat.reduceMul Nat.reduceLeDiff Nat.le_refl Option.isSome_some Option.isSome_none not_true_eq_false not_false_eq_true ne_eq reduceCtorEq List.reverse_nil bne_self_eq_false Nat.reduceEqDiff List.isPrefixOf Bool.not_eq_true Bool.and_false Bool.false_and Bool.true_or Bool.or_true decide_true decide_false Nat.reduceBEq Nat.reduceBNe List.replicate_succ List.replicate_zero exists_eq_left' exists_eq_left Option.some.injEq or_false or_true true_or false_or Option.map_some Option.map_none mB Nat.reduceMod Nat.reduceDiv
set_option maxRecDepth 100000
section
variable {P : Program} {G : World → (Nat → Prop) → Prop} {s : List D} {K : D → List D → Prop}
theorem call_own1 {f r : Nat} {x : Operand} {d d' res : D} (hC : ContractL P G f 0 [.undef] d res d') (hs : s[r]? = some d) (hx : lk s x = .ref r []) (he : d.exact = true) (hK : K res ((pruneL (notRoot r) s).set r d')) : evalK (CT P G) s (.callX f [x]) K :=
  call_lend (x := x) true hC rfl (by unfold lendP; rw [hs]; exact .inl ⟨.inr hx, he, rfl, rfl⟩) (by simp [D.owny, ownyL]) (by simp [D.prune, deep, leL, D.le, pruneL]) (.inr ⟨rfl, by simp [D.prune, D.noRef, pruneL, noRefL]⟩) hK
end
theorem putU_len2 (n : Int) (l : List Int) : (putU n l).length ≤ l.length + 1 := by
  unfold putU; split
  · exact putU_len n l
  · omega
def code_spec_l00Put : VCode := (.seq (.ops [
  ⟨(some 4), none, (.asg (.const (.slice none 0 0)))⟩]) (.seq (.ops [
  ⟨(some 8), none, (.bsl 1 [])⟩,
  ⟨(some 5), none, (.asg (.tmp 8))⟩]) (.seq (.ops [
  ⟨(some 6), none, (.asg (.const (.bool false)))⟩]) (.seq (.seq (.ops [
  ⟨(some 7), none, (.asg (.const (.int .i64 0)))⟩]) (.block 0 (.loop (mB 49 330890722934300) (.seq (.seq (.ops [
  ⟨(some 9), none, (.mv (.tmp 7))⟩,
  ⟨(some 10), none, (.mv (.tmp 0))⟩,
  ⟨(some 11), none, (.len (.tmp 10))⟩,
  ⟨(some 12), none, (.bin .lss (.tmp 9) (.tmp 11))⟩]) (.cond (.tmp 12) .skip (.exit 0))) (.seq (.block 1 (.seq (.seq (.ops [
  ⟨(some 15), none, (.mv (.tmp 6))⟩,
  ⟨(some 16), none, (.un .not (.tmp 15))⟩,
  ⟨(some 17), none, (.mv (.tmp 16))⟩,
  ⟨(some 18), (some (17, true)), (.mv (.tmp 0))⟩,
  ⟨(some 19), (some (17, true)), (.mv (.tmp 7))⟩,
  ⟨(some 20), (some (17, true)), (.ia 1 (.tmp 18) (.tmp 19))⟩,
  ⟨(some 21), (some (17, true)), (.load 1 false (.tmp 20))⟩,
  ⟨(some 22), (some (17, true)), (.mv (.tmp 1))⟩,
  ⟨(some 23), (some (17, true)), (.bin .geq (.tmp 21) (.tmp 22))⟩,
  ⟨(some 24), none, (.pick (.tmp 17) (.tmp 23) (.const (.bool false)))⟩]) (.cond (.tmp 24) (.seq (.ops [
  ⟨(some 6), none, (.asg (.const (.bool true)))⟩]) (.seq (.ops [
  ⟨(some 25), none, (.mv (.tmp 0))⟩,
  ⟨(some 26), none, (.mv (.tmp 7))⟩,
  ⟨(some 27), none, (.ia 1 (.tmp 25) (.tmp 26))⟩,
  ⟨(some 28), none, (.load 1 false (.tmp 27))⟩,
  ⟨(some 29), none, (.mv (.tmp 1))⟩,
  ⟨(some 30), none, (.bin .gtr (.tmp 28) (.tmp 29))⟩]) (.cond (.tmp 30) (.ops [
  ⟨(some 31), none, (.mv (.tmp 5))⟩,
  ⟨(some 32), none, (.mv (.tmp 1))⟩,
  ⟨(some 33), none, (.bsl 1 [(.tmp 32)])⟩,
  ⟨(some 34), none, (.app 1 8 (.tmp 31) (.tmp 33))⟩,
  ⟨(some 5), none, (.asg (.tmp 34))⟩]) .skip))) .skip)) (.ops [
  ⟨(some 35), none, (.mv (.tmp 5))⟩,
  ⟨(some 36), none, (.mv (.tmp 0))⟩,
  ⟨(some 37), none, (.mv (.tmp 7))⟩,
  ⟨(some 38), none, (.ia 1 (.tmp 36) (.tmp 37))⟩,
  ⟨(some 39), none, (.load 1 false (.tmp 38))⟩,
  ⟨(some 40), none, (.bsl 1 [(.tmp 39)])⟩,
  ⟨(some 41), none, (.app 1 8 (.tmp 35) (.tmp 40))⟩,
  ⟨(some 5), none, (.asg (.tmp 41))⟩]))) (.ops [
  ⟨(some 13), none, (.mv (.tmp 7))⟩,
  ⟨(some 14), none, (.bin .add (.tmp 13) (.const (.int .i64 1)))⟩,
  ⟨(some 7), none, (.asg (.tmp 14))⟩])))))) (.seq (.seq (.ops [
  ⟨(some 42), none, (.mv (.tmp 6))⟩,
  ⟨(some 43), none, (.un .not (.tmp 42))⟩]) (.cond (.tmp 43) (.ops [
  ⟨(some 44), none, (.mv (.tmp 5))⟩,
  ⟨(some 45), none, (.mv (.tmp 1))⟩,
  ⟨(some 46), none, (.bsl 1 [(.tmp 45)])⟩,
  ⟨(some 47), none, (.app 1 8 (.tmp 44) (.tmp 46))⟩,
  ⟨(some 5), none, (.asg (.tmp 47))⟩]) .skip)) (.seq (.ops [
  ⟨(some 48), none, (.mv (.tmp 5))⟩,
  ⟨(some 4), none, (.asg (.tmp 48))⟩]) .ret))))))
theorem law_spec_l00Put {a0 a1 d : D} (h : code_spec_l00Put.wp (CT Try.prog NoG) (endQ [(.t 4)] d) [a0, a1, .undef, .undef, .undef, .undef, .undef, .undef, .undef, .undef, .undef, .undef, .undef, .undef, .undef, .undef, .undef, .undef, .undef, .undef, .undef, .undef, .undef, .undef, .undef, .undef, .undef, .undef, .undef, .undef, .undef, .undef, .undef, .undef, .undef, .undef, .undef, .undef, .undef, .undef, .undef, .undef, .undef, .undef, .undef, .undef, .undef, .undef, .undef]) : Contract Try.prog NoG 17 [a0, a1] d :=
  contract_of (pt := 0) noG Try.func17 (fun us W => by kernel_rfl) (c := Try.f17.body.getD .skip) (ms := [(mB 49 330890722934300)]) (ms' := []) (by kernel_rfl) (by kernel_rfl) (by kernel_rfl) h
def code_spec_l33Bound : VCode := (.seq (.ops [
  ⟨(some 2), none, (.asg (.const (.int .i64 0)))⟩]) (.seq (.ops [
  ⟨(some 5), none, (.bsl 1 [])⟩,
  ⟨(some 3), none, (.asg (.tmp 5))⟩]) (.seq (.seq (.ops [
  ⟨(some 4), none, (.asg (.const (.int .i64 0)))⟩]) (.block 0 (.loop (mB 26 58687430) (.seq (.seq (.ops [
  ⟨(some 6), none, (.mv (.tmp 4))⟩,
  ⟨(some 7), none, (.mv (.tmp 0))⟩,
  ⟨(some 8), none, (.nilc (.tmp 7))⟩,
  ⟨(some 9), none, (.fa 2 (.tmp 8))⟩,
  ⟨(some 10), none, (.load 1 false (.tmp 9))⟩,
  ⟨(some 11), none, (.len (.tmp 10))⟩,
  ⟨(some 12), none, (.bin .lss (.tmp 6) (.tmp 11))⟩]) (.cond (.tmp 12) .skip (.exit 0))) (.seq (.block 1 (.ops [
  ⟨(some 15), none, (.mv (.tmp 3))⟩,
  ⟨(some 16), none, (.mv (.tmp 0))⟩,
  ⟨(some 17), none, (.nilc (.tmp 16))⟩,
  ⟨(some 18), none, (.fa 2 (.tmp 17))⟩,
  ⟨(some 19), none, (.load 1 false (.tmp 18))⟩,
  ⟨(some 20), none, (.mv (.tmp 4))⟩,
  ⟨(some 21), none, (.ia 1 (.tmp 19) (.tmp 20))⟩,
  ⟨(some 22), none, (.load 1 false (.tmp 21))⟩,
  ⟨(some 23), none, (.callX 17 [(.tmp 15), (.tmp 22)])⟩,
  ⟨(some 3), none, (.asg (.tmp 23))⟩])) (.ops [
  ⟨(some 13), none, (.mv (.tmp 4))⟩,
  ⟨(some 14), none, (.bin .add (.tmp 13) (.const (.int .i64 1)))⟩,
  ⟨(some 4), none, (.asg (.tmp 14))⟩])))))) (.seq (.ops [
  ⟨(some 24), none, (.mv (.tmp 3))⟩,
  ⟨(some 25), none, (.len (.tmp 24))⟩,
  ⟨(some 2), none, (.asg (.tmp 25))⟩]) .ret))))
theorem law_spec_l33Bound {a0 d : D} (h : code_spec_l33Bound.wp (CT Try.prog NoG) (endQ [(.t 2)] d) [a0, .undef, .undef, .undef, .undef, .undef, .undef, .undef, .undef, .undef, .undef, .undef, .undef, .undef, .undef, .undef, .undef, .undef, .undef, .undef, .undef, .undef, .undef, .undef, .undef, .undef]) : Contract Try.prog NoG 11 [a0] d :=
  contract_of (pt := 0) noG Try.func11 (fun us W => by kernel_rfl) (c := Try.f11.body.getD .skip) (ms := [(mB 26 58687430)]) (ms' := []) (by kernel_rfl) (by kernel_rfl) (by kernel_rfl) h
def code_spec_PieceBound : VCode := (.seq (.ops [
  ⟨(some 1), none, (.box (.tmp 0))⟩,
  ⟨(some 2), none, (.asg (.const (.int .i64 0)))⟩,
  ⟨(some 3), none, (.asg (.const (.int .i64 0)))⟩]) (.seq (.seq (.ops [
  ⟨(some 4), none, (.callX 10 [(.tmp 1)])⟩,
  ⟨(some 5), none, (.un .not (.tmp 4))⟩]) (.cond (.tmp 5) (.seq (.ops [
  ⟨(some 2), none, (.asg (.const (.int .i64 0)))⟩,
  ⟨(some 3), none, (.asg (.const (.int .i64 1)))⟩]) .ret) .skip)) (.seq (.ops [
  ⟨(some 6), none, (.callX 11 [(.tmp 1)])⟩,
  ⟨(some 2), none, (.asg (.tmp 6))⟩,
  ⟨(some 3), none, (.asg (.const (.int .i64 0)))⟩]) .ret)))
theorem law_spec_PieceBound {a0 d : D} (h : code_spec_PieceBound.wp (CT Try.prog NoG) (endQ [(.t 2), (.t 3)] d) [a0, .undef, .undef, .undef, .undef, .undef, .undef]) : Contract Try.prog NoG 5 [a0] d :=
  contract_of (pt := 0) noG Try.func5 (fun us W => by kernel_rfl) (c := Try.f5.body.getD .skip) (ms := []) (ms' := []) (by kernel_rfl) (by kernel_rfl) (by kernel_rfl) h
def code_impl_pieceBound : VCode := (.seq (.ops [
  ⟨(some 1), none, (.box (.tmp 0))⟩,
  ⟨(some 2), none, (.asg (.const (.int .i64 0)))⟩]) (.seq (.ops [
  ⟨(some 4), none, (.fa 2 (.tmp 1))⟩,
  ⟨(some 5), none, (.load 1 false (.tmp 4))⟩,
  ⟨(some 6), none, (.callX 20 [(.tmp 5)])⟩,
  ⟨(some 3), none, (.asg (.tmp 6))⟩]) (.seq (.ops [
  ⟨(some 7), none, (.mv (.tmp 3))⟩,
  ⟨(some 8), none, (.callX 21 [(.tmp 7)])⟩]) (.seq (.ops [
  ⟨(some 9), none, (.mv (.tmp 3))⟩,
  ⟨(some 10), none, (.callX 22 [(.tmp 9)])⟩,
  ⟨(some 11), none, (.len (.tmp 10))⟩,
  ⟨(some 2), none, (.asg (.tmp 11))⟩]) .ret))))
theorem law_impl_pieceBound {a0 d : D} (h : code_impl_pieceBound.wp (CT Try.prog NoG) (endQ [(.t 2)] d) [a0, .undef, .undef, .undef, .undef, .undef, .undef, .undef, .undef, .undef, .undef, .undef]) : Contract Try.prog NoG 14 [a0] d :=
  contract_of (pt := 0) noG Try.func14 (fun us W => by kernel_rfl) (c := Try.f14.body.getD .skip) (ms := []) (ms' := []) (by kernel_rfl) (by kernel_rfl) (by kernel_rfl) h
def code_impl_PieceBound : VCode := (.seq (.ops [
  ⟨(some 1), none, (.box (.tmp 0))⟩,
  ⟨(some 2), none, (.asg (.const (.int .i64 0)))⟩,
  ⟨(some 3), none, (.asg (.const (.int .i64 0)))⟩]) (.seq (.seq (.ops [
  ⟨(some 4), none, (.load 3 true (.tmp 1))⟩,
  ⟨(some 5), none, (.callX 13 [(.tmp 4)])⟩,
  ⟨(some 6), none, (.un .not (.tmp 5))⟩]) (.cond (.tmp 6) (.seq (.ops [
  ⟨(some 2), none, (.asg (.const (.int .i64 0)))⟩,
  ⟨(some 3), none, (.asg (.const (.int .i64 1)))⟩]) .ret) .skip)) (.seq (.ops [
  ⟨(some 7), none, (.load 3 true (.tmp 1))⟩,
  ⟨(some 8), none, (.callX 14 [(.tmp 7)])⟩,
  ⟨(some 2), none, (.asg (.tmp 8))⟩,
  ⟨(some 3), none, (.asg (.const (.int .i64 0)))⟩]) .ret)))
theorem law_impl_PieceBound {a0 d : D} (h : code_impl_PieceBound.wp (CT Try.prog NoG) (endQ [(.t 2), (.t 3)] d) [a0, .undef, .undef, .undef, .undef, .undef, .undef, .undef, .undef]) : Contract Try.prog NoG 7 [a0] d :=
  contract_of (pt := 0) noG Try.func7 (fun us W => by kernel_rfl) (c := Try.f7.body.getD .skip) (ms := []) (ms' := []) (by kernel_rfl) (by kernel_rfl) (by kernel_rfl) h
set_option maxHeartbeats 2000000 in
theorem v_l00PutU (xs : List Int) (n : Int) (hl : xs.length ≤ 1048576) : Contract Try.prog NoG 17 [.sl false 1 (xs.map rI), .v (.int .i64 n)] (.sl true 1 ((insU n xs).map rI)) := by
  refine law_spec_l00Put ?_; unfold code_spec_l00Put; simp -implicitDefEqProofs (disch := omega) only [go_sem, ↓reduceIte]; refine loop_ov (by simp -implicitDefEqProofs (disch := omega) only [go_sem, ↓reduceIte]; exact rfl) (fun i : Nat => [(5, .sl true 1 ((putU n (xs.take i)).map rI)), (6, .v (.bool (doneU n (xs.take i)))), (7, .v (.int .i64 (i : Nat)))]) (fun _ => by simp only [ovr_nil, ovr_cons, List.set_cons_zero, List.set_cons_succ]; exact rfl) (fun i : Nat => i ≤ xs.length) (fun i : Nat => xs.length - i) (0) (by rw [show putU n (xs.take 0) = [] from rfl, show doneU n (xs.take 0) = false from rfl]; (try simp -implicitDefEqProofs only [nleL_cc, nleL_nn, nle_self, nle_boxs, nle_aggs, nle_nils, and_self, and_true, true_and]) <;> repeat' (first | exact nle_of_eq rfl | exact nle_nil | apply And.intro | apply nle_sl | apply nleLL_cons | apply nleL_cons | exact nleL_nil | exact nleLL_nil | apply nle_box | apply nle_agg)) (?_) ?_
  · exact Nat.zero_le _
  intro i hi; simp -implicitDefEqProofs (disch := omega) only [go_sem, ↓reduceIte , List.length_map]; refine cond_split ?_ ?_ <;> intro hlt
  · have hlt : i < xs.length := (by simpa using hlt); obtain ⟨x, hx⟩ : ∃ x, xs[i]? = some x := ⟨xs[i], List.getElem?_eq_getElem hlt⟩
    have ht : xs.take (i + 1) = xs.take i ++ [x] := (by rw [List.take_add_one, hx]; rfl); have hln := putU_len2 n (xs.take i); have htl : (xs.take i).length ≤ xs.length := (by rw [List.length_take]; omega); have hdn := doneU_app n (xs.take i) x; rw [← ht] at hdn; cases hd : doneU n (xs.take i) with
    | true =>
      have hp := putU_done (x := x) hd; rw [← ht] at hp; rw [hd, Bool.true_or] at hdn; generalize putU n (xs.take i) = o at *; simp -implicitDefEqProofs (disch := omega) only [go_sem, ↓reduceIte , List.length_map, Int.toNat_natCast, Int.ofNat_lt, Int.natCast_nonneg, List.getElem?_map, Option.map_some, hlt, hx, Bool.not_true, wrN]; refine ⟨by (try simp only [List.length_map]); omega, i + 1, by omega, hlt, ?_⟩; rw [hp, hdn, List.map_append]
      (try simp -implicitDefEqProofs only [nleL_cc, nleL_nn, nle_self, nle_boxs, nle_aggs, nle_nils, and_self, and_true, true_and]) <;> repeat' (first | exact nle_of_eq rfl | exact nle_nil | apply And.intro | apply nle_sl | apply nleLL_cons | apply nleL_cons | exact nleL_nil | exact nleLL_nil | apply nle_box | apply nle_agg)
    | false =>
      rw [hd, Bool.false_or] at hdn; by_cases h1 : n ≤ x
      · have d1 := decide_eq_true h1; rw [d1] at hdn; by_cases h2 : n < x
        · have d2 := decide_eq_true h2; have hp := putU_gt hd h2; rw [← ht] at hp; generalize putU n (xs.take i) = o at *; simp -implicitDefEqProofs (disch := omega) only [go_sem, ↓reduceIte , List.length_map, Int.toNat_natCast, Int.ofNat_lt, Int.natCast_nonneg, List.getElem?_map, Option.map_some, hlt, hx, d1, d2, Bool.not_false, wrN]; refine ⟨by (try simp only [List.length_map]); omega, by simp only [List.length_append, List.length_map, List.length_cons, List.length_nil]; omega, i + 1, by omega, hlt, ?_⟩; rw [hp, hdn, List.map_append, List.map_append]
          (try simp -implicitDefEqProofs only [nleL_cc, nleL_nn, nle_self, nle_boxs, nle_aggs, nle_nils, and_self, and_true, true_and]) <;> repeat' (first | exact nle_of_eq rfl | exact nle_nil | apply And.intro | apply nle_sl | apply nleLL_cons | apply nleL_cons | exact nleL_nil | exact nleLL_nil | apply nle_box | apply nle_agg)
        · have d2 := decide_eq_false h2; have hp := putU_eq hd (show x = n by omega); rw [← ht] at hp; generalize putU n (xs.take i) = o at *; simp -implicitDefEqProofs (disch := omega) only [go_sem, ↓reduceIte , List.length_map, Int.toNat_natCast, Int.ofNat_lt, Int.natCast_nonneg, List.getElem?_map, Option.map_some, hlt, hx, d1, d2, Bool.not_false, wrN]; refine ⟨by (try simp only [List.length_map]); omega, i + 1, by omega, hlt, ?_⟩; rw [hp, hdn, List.map_append]
          (try simp -implicitDefEqProofs only [nleL_cc, nleL_nn, nle_self, nle_boxs, nle_aggs, nle_nils, and_self, and_true, true_and]) <;> repeat' (first | exact nle_of_eq rfl | exact nle_nil | apply And.intro | apply nle_sl | apply nleLL_cons | apply nleL_cons | exact nleL_nil | exact nleLL_nil | apply nle_box | apply nle_agg)
      · have d1 := decide_eq_false h1; rw [d1] at hdn; have hp := putU_lt hd (show x < n by omega); rw [← ht] at hp; generalize putU n (xs.take i) = o at *; simp -implicitDefEqProofs (disch := omega) only [go_sem, ↓reduceIte , List.length_map, Int.toNat_natCast, Int.ofNat_lt, Int.natCast_nonneg, List.getElem?_map, Option.map_some, hlt, hx, d1, Bool.not_false, wrN]; refine ⟨by (try simp only [List.length_map]); omega, i + 1, by omega, hlt, ?_⟩; rw [hp, hdn, List.map_append]
        (try simp -implicitDefEqProofs only [nleL_cc, nleL_nn, nle_self, nle_boxs, nle_aggs, nle_nils, and_self, and_true, true_and]) <;> repeat' (first | exact nle_of_eq rfl | exact nle_nil | apply And.intro | apply nle_sl | apply nleLL_cons | apply nleL_cons | exact nleL_nil | exact nleLL_nil | apply nle_box | apply nle_agg)
  · obtain rfl : i = xs.length := (by have : ¬ i < xs.length := (by simpa using hlt); omega); rw [List.take_length]; have hln := putU_len2 n xs; cases hd : doneU n xs with
    | true => rw [putU_all hd]; simp -implicitDefEqProofs (disch := omega) only [go_sem, ↓reduceIte , Bool.not_true]
    | false =>
      have he := putU_end hd; have hm : (insU n xs).map rI = (putU n xs).map rI ++ [rI n] := (by rw [← he, List.map_append]; rfl); rw [hm]; generalize putU n xs = o at *; simp -implicitDefEqProofs (disch := omega) only [go_sem, ↓reduceIte , Bool.not_false]
      first | (refine ⟨by (try simp only [List.length_map]); omega, ?_⟩; rfl) | ((try simp only [List.length_map]); omega)
def pbR (q : Pattern) : Int := if okPattern q then ((colU q.Cells).length : Int) else 0
def pbC (q : Pattern) : Int := if okPattern q then 0 else 1
theorem v_l33BoundU (q : Pattern) (hn : q.Cells.length ≤ 1048576) : Contract Try.prog NoG 11 [.iptr (Pattern.td.d false q) 0] (.v (.int .i64 ((colU q.Cells).length : Int))) := by
  rw [Pattern.td_d]; refine law_spec_l33Bound ?_; unfold code_spec_l33Bound; simp -implicitDefEqProofs (disch := omega) only [go_sem, ↓reduceIte]; refine loop_ov (by simp -implicitDefEqProofs (disch := omega) only [go_sem, ↓reduceIte]; exact rfl) (fun i : Nat => [(3, .sl true 1 ((colU (q.Cells.take i)).map rI)), (4, .v (.int .i64 (i : Nat)))]) (fun _ => by simp only [ovr_nil, ovr_cons, List.set_cons_zero, List.set_cons_succ]; exact rfl) (fun i : Nat => i ≤ q.Cells.length) (fun i : Nat => q.Cells.length - i) (0) (by rw [show colU (q.Cells.take 0) = [] from rfl]; (try simp -implicitDefEqProofs only [nleL_cc, nleL_nn, nle_self, nle_boxs, nle_aggs, nle_nils, and_self, and_true, true_and]) <;> repeat' (first | exact nle_of_eq rfl | exact nle_nil | apply And.intro | apply nle_sl | apply nleLL_cons | apply nleL_cons | exact nleL_nil | exact nleLL_nil | apply nle_box | apply nle_agg)) (?_) ?_
  · exact Nat.zero_le _
  intro i hi; simp -implicitDefEqProofs (disch := omega) only [go_sem, ↓reduceIte , List.length_map]; refine cond_split ?_ ?_ <;> intro hlt
  · have hlt : i < q.Cells.length := (by simpa using hlt); obtain ⟨x, hx⟩ : ∃ x, q.Cells[i]? = some x := ⟨q.Cells[i], List.getElem?_eq_getElem hlt⟩
    have ht : colU (q.Cells.take (i + 1)) = insU x (colU (q.Cells.take i)) := (by rw [List.take_add_one, hx]; exact colU_next _ _); have hln := colU_len (q.Cells.take i); have htl : (q.Cells.take i).length ≤ q.Cells.length := (by rw [List.length_take]; omega); have hP := v_l00PutU (colU (q.Cells.take i)) x (by omega); simp -implicitDefEqProofs (disch := omega) only [go_sem, ↓reduceIte , List.length_map, Int.toNat_natCast, Int.ofNat_lt, Int.natCast_nonneg, List.getElem?_map, Option.map_some, hlt, hx]; refine call_B (hP) (by simp -implicitDefEqProofs (disch := omega) only [go_sem, ↓reduceIte, deep, TD.rows, immLL_rI, immLL_rB8, immLL_rS, immLL_rBo, immLL_rII, immLL_rIIt, wrN]; exact rfl) ?_; simp -implicitDefEqProofs (disch := omega) only [go_sem, ↓reduceIte , wrN]; refine ⟨i + 1, by omega, hlt, ?_⟩; rw [ht]
    (try simp -implicitDefEqProofs only [nleL_cc, nleL_nn, nle_self, nle_boxs, nle_aggs, nle_nils, and_self, and_true, true_and]) <;> repeat' (first | exact nle_of_eq rfl | exact nle_nil | apply And.intro | apply nle_sl | apply nleLL_cons | apply nleL_cons | exact nleL_nil | exact nleLL_nil | apply nle_box | apply nle_agg)
  · obtain rfl : i = q.Cells.length := (by have : ¬ i < q.Cells.length := (by simpa using hlt); omega); rw [List.take_length]; simp -implicitDefEqProofs (disch := omega) only [go_sem, ↓reduceIte , List.length_map]
theorem v_pieceBoundU (q : Pattern) (hn : q.Cells.length ≤ 1048576) : Contract Try.prog NoG 14 [.agg (Pattern.td.d false q)] (.v (.int .i64 ((colU q.Cells).length : Int))) := by rw [Pattern.td_d]; refine law_impl_pieceBound ?_; unfold code_impl_pieceBound; have hS := v_SortI q.Cells (by omega); have hC := v_CompactI (q.Cells.mergeSort fun x y => decide (x ≤ y)) (by rw [List.length_mergeSort]; omega); have hl := comp_len q.Cells; generalize (q.Cells.mergeSort fun x y => decide (x ≤ y)) = ys at *; simp -implicitDefEqProofs (disch := omega) only [go_sem, ↓reduceIte]; refine call_B (v_Clone_Int64 q.Cells (by omega)) (by simp -implicitDefEqProofs (disch := omega) only [go_sem, ↓reduceIte, deep, TD.rows, immLL_rI, immLL_rB8, immLL_rS, immLL_rBo, immLL_rII, immLL_rIIt]; exact rfl) ?_; simp -implicitDefEqProofs (disch := omega) only [go_sem, ↓reduceIte]; refine call_own1 (r := 3) hS rfl rfl rfl ?_; simp -implicitDefEqProofs (disch := omega) only [go_sem, ↓reduceIte]; refine call_own1 (r := 3) hC rfl rfl rfl ?_; simp -implicitDefEqProofs (disch := omega) only [go_sem, ↓reduceIte , List.length_map, hl]
theorem vPieceBound_spec (q_aP : Pattern) (q_aP_ok : Pattern.td.ok q_aP) (q_aP_n : Pattern.cnt q_aP ≤ 1048576) : Contract Try.prog NoG 5 [.agg (Pattern.td.d false q_aP)] (.tup [.v (.int .i64 (pbR q_aP)), .v (.int .i64 (pbC q_aP))]) := by
  have hn : q_aP.Cells.length ≤ 1048576 := (by have h : Pattern.cnt q_aP = q_aP.Cells.length := rfl; omega); have hO := v_l24Ok q_aP hn; have hB := fun h => v_l33BoundU q_aP h; unfold pbR pbC; rw [Pattern.td_d] at *; refine law_spec_PieceBound ?_; unfold code_spec_PieceBound; cases h : okPattern q_aP with
  | false =>
    rw [h] at hO; simp only [Bool.false_eq_true, if_false]; simp -implicitDefEqProofs (disch := omega) only [go_sem, ↓reduceIte]; refine call_B (hO) (by simp -implicitDefEqProofs (disch := omega) only [go_sem, ↓reduceIte, deep, TD.rows, immLL_rI, immLL_rB8, immLL_rS, immLL_rBo, immLL_rII, immLL_rIIt, Bool.not_false]; exact rfl) ?_; simp -implicitDefEqProofs (disch := omega) only [go_sem, ↓reduceIte , Bool.not_false]
    all_goals first | done | rfl | exact ⟨rfl, rfl⟩ | skip
  | true =>
    rw [h] at hO; simp only [if_true]; have hB := hB hn; simp -implicitDefEqProofs (disch := omega) only [go_sem, ↓reduceIte]; refine call_B (hO) (by simp -implicitDefEqProofs (disch := omega) only [go_sem, ↓reduceIte, deep, TD.rows, immLL_rI, immLL_rB8, immLL_rS, immLL_rBo, immLL_rII, immLL_rIIt, Bool.not_true]; exact rfl) ?_; simp -implicitDefEqProofs (disch := omega) only [go_sem, ↓reduceIte , Bool.not_true]; refine call_B (hB) (by simp -implicitDefEqProofs (disch := omega) only [go_sem, ↓reduceIte, deep, TD.rows, immLL_rI, immLL_rB8, immLL_rS, immLL_rBo, immLL_rII, immLL_rIIt]; exact rfl) ?_; simp -implicitDefEqProofs (disch := omega) only [go_sem, ↓reduceIte]
    all_goals first | done | rfl | exact ⟨rfl, rfl⟩ | skip
theorem vPieceBound_impl (q_aP : Pattern) (q_aP_ok : Pattern.td.ok q_aP) (q_aP_n : Pattern.cnt q_aP ≤ 1048576) : Contract Try.prog NoG 7 [.agg (Pattern.td.d false q_aP)] (.tup [.v (.int .i64 (pbR q_aP)), .v (.int .i64 (pbC q_aP))]) := by
  have hn : q_aP.Cells.length ≤ 1048576 := (by have h : Pattern.cnt q_aP = q_aP.Cells.length := rfl; omega); have hO := v_ValidPattern q_aP hn; have hB := fun h => v_pieceBoundU q_aP h; unfold pbR pbC; rw [Pattern.td_d] at *; refine law_impl_PieceBound ?_; unfold code_impl_PieceBound; cases h : okPattern q_aP with
  | false =>
    rw [h] at hO; simp only [Bool.false_eq_true, if_false]; simp -implicitDefEqProofs (disch := omega) only [go_sem, ↓reduceIte]; refine call_B (hO) (by simp -implicitDefEqProofs (disch := omega) only [go_sem, ↓reduceIte, deep, TD.rows, immLL_rI, immLL_rB8, immLL_rS, immLL_rBo, immLL_rII, immLL_rIIt, Bool.not_false]; exact rfl) ?_; simp -implicitDefEqProofs (disch := omega) only [go_sem, ↓reduceIte , Bool.not_false]
    all_goals first | done | rfl | exact ⟨rfl, rfl⟩ | skip
  | true =>
    rw [h] at hO; simp only [if_true]; have hB := hB hn; simp -implicitDefEqProofs (disch := omega) only [go_sem, ↓reduceIte]; refine call_B (hO) (by simp -implicitDefEqProofs (disch := omega) only [go_sem, ↓reduceIte, deep, TD.rows, immLL_rI, immLL_rB8, immLL_rS, immLL_rBo, immLL_rII, immLL_rIIt, Bool.not_true]; exact rfl) ?_; simp -implicitDefEqProofs (disch := omega) only [go_sem, ↓reduceIte , Bool.not_true]; refine call_B (hB) (by simp -implicitDefEqProofs (disch := omega) only [go_sem, ↓reduceIte, deep, TD.rows, immLL_rI, immLL_rB8, immLL_rS, immLL_rBo, immLL_rII, immLL_rIIt]; exact rfl) ?_; simp -implicitDefEqProofs (disch := omega) only [go_sem, ↓reduceIte]
    all_goals first | done | rfl | exact ⟨rfl, rfl⟩ | skip
end Go.Proofs.Ytjcmijfompcphaa
