/- Stores kept. -/
import Derived.Test.YtbnjjcnbjkibgaaVStore
import Derived.Test.YtbnjjcnbjkibgaaMkStore
set_option linter.all false
namespace Go.Proofs.Ytbnjjcnbjkibgaa
open Go.RowKit Go.V
set_option maxRecDepth 100000
def keepL (k : Nat) (l : Log) : Log := ⟨l.Safe ++ l.Loose.take k, []⟩
def keepS (k : Nat) (q : Store) : Store := ⟨q.Slots.map (keepL k), q.Active⟩
abbrev mk_impl_Store_keeping_0 : List Bool := [true, false, true, true, false, false, true, true, true, true, true, true, true, false, false, true, true, true, true, true, true, true, true, true, true, true, true, true, true, true, true, true, true, true, true, true, true, true, true, true, true, true, true, true, true, true, true, true]
abbrev mk_impl_Store_keeping_1 : List Bool := [false, false, false, false, false, false, false, false, false, false, false, false, false, false, false, false, false, false, false, false, false, false, false, false, false, false, false, false, true, true, true, true, true, true, true, true, true, true, true, true, true]
abbrev mk_impl_Store_keeping_2 : List Bool := [false, false, false, false, false, false, false, false, false, false, false, false, false, false, false, false, false, false, false, false, false, false, false, false, false, false, false, false, false, false, false, false, true, false, false, false, false, false, false, true]
abbrev mk_impl_Store_keeping_3 : List Bool := [false, false, false, false, false, false, false, false, false, false, false, false, false, false, false, false, false, false, false, false, false, false, false, false, false, false, false, false, true, false, true, true, true, true, true, true, true, true, true, true, true]
abbrev mk_impl_Store_keeping_4 : List Bool := [false, false, false, false, false, false, false, false, false, false, false, false, false, false, false, false, false, false, false, false, false, false, false, false, false, false, false, false, true, false, false, true, true, true, true, true, true, true, true, true, true]
abbrev mk_impl_Store_keeping_5 : List Bool := [false, false, false, false, false, false, false, false, false, false, false, false, false, false, false, false, false, false, false, false, false, false, false, false, false, false, false, false, true, false, false, false, true, true, true, true, true, true, true, true, true]
abbrev mk_impl_Store_keeping_6 : List Bool := [false, false, false, false, false, false, false, false, false, false, false, false, false, false, false, false, false, false, false, false, false, false, false, false, false, false, false, false, true, true, true, true, true, false, true, true, true, true, true, true, true]
abbrev mk_impl_Store_keeping_7 : List Bool := [false, false, false, false, false, false, false, false, false, false, false, false, false, false, false, false, false, false, false, false, false, false, false, false, false, false, false, false, true, true, true, true, true, false, false, true, true, true, true, true, true]
abbrev mk_impl_Store_keeping_8 : List Bool := [false, false, false, false, false, false, false, false, false, false, false, false, false, false, false, false, false, false, false, false, false, false, false, false, false, false, false, false, true, true, true, true, true, false, false, false, true, true, true, true, true]
abbrev mk_impl_Store_keeping_9 : List Bool := [false, false, false, false, false, false, false, false, false, false, false, false, false, false, false, false, false, false, false, false, false, false, false, false, false, false, false, false, true, true, true, true, true, false, false, false, false, false, false, true, true]
abbrev mk_impl_Store_keeping_10 : List Bool := [false, false, false, false, false, false, false, false, false, false, false, false, false, false, false, false, false, false, false, false, false, false, false, false, false, false, false, false, true, false, false, false, false, false, false, false, false, false, false, false, true]
/-- (impl.Store).keeping -/
def code_impl_Store_keeping : VCode := (.seq (.ops [
  ⟨(some 2), none, (.box (.tmp 0))⟩,
  ⟨(some 4), none, (.alloc [(.slice none 0 0), (.int .i64 0)])⟩]) (.seq (.ops [
  ⟨(some 9), none, (.load 2 true (.tmp 2))⟩,
  ⟨(some 10), none, (.call 146 [(.tmp 9)])⟩,
  ⟨(some 5), none, (.alloc [(.slice none 0 0), (.int .i64 0)])⟩,
  ⟨none, none, (.store 2 (.tmp 5) (.tmp 10))⟩]) (.seq (.seq (.ops [
  ⟨(some 11), none, (.fa 0 (.tmp 5))⟩,
  ⟨(some 12), none, (.load 1 false (.tmp 11))⟩,
  ⟨(some 13), none, (.len (.tmp 12))⟩,
  ⟨(some 14), none, (.mv (.const (.int .i64 0)))⟩]) (.block 0 (.loop mk_impl_Store_keeping_0 (.seq (.ops [
  ⟨(some 15), none, (.bin .lss (.tmp 14) (.tmp 13))⟩]) (.seq (.cond (.tmp 15) .skip (.exit 0)) (.seq (.block 1 (.seq (.ops [
  ⟨(some 16), none, (.mv (.tmp 14))⟩,
  ⟨(some 6), none, (.asg (.tmp 16))⟩]) (.seq (.ops [
  ⟨(some 17), none, (.fa 0 (.tmp 5))⟩,
  ⟨(some 18), none, (.load 1 false (.tmp 17))⟩,
  ⟨(some 19), none, (.mv (.tmp 6))⟩,
  ⟨(some 20), none, (.ia 2 (.tmp 18) (.tmp 19))⟩,
  ⟨(some 7), none, (.asg (.tmp 20))⟩]) (.seq (.ops [
  ⟨(some 21), none, (.mv (.tmp 1))⟩,
  ⟨(some 22), none, (.mv (.tmp 7))⟩,
  ⟨(some 23), none, (.nilc (.tmp 22))⟩,
  ⟨(some 24), none, (.fa 1 (.tmp 23))⟩,
  ⟨(some 25), none, (.load 1 false (.tmp 24))⟩,
  ⟨(some 26), none, (.len (.tmp 25))⟩,
  ⟨(some 27), none, (.mm false [(.tmp 21), (.tmp 26)])⟩,
  ⟨(some 8), none, (.asg (.tmp 27))⟩]) (.seq (.drawW mk_impl_Store_keeping_1 mk_impl_Store_keeping_2 [⟨1, mk_impl_Store_keeping_1, [], ⟨(some 29), none, (.mv (.tmp 7))⟩⟩, ⟨2, mk_impl_Store_keeping_3, [], ⟨(some 30), none, (.nilc (.tmp 29))⟩⟩, ⟨3, mk_impl_Store_keeping_4, [], ⟨(some 31), none, (.fa 0 (.tmp 30))⟩⟩, ⟨4, mk_impl_Store_keeping_5, [], ⟨(some 32), none, (.load 1 false (.tmp 31))⟩⟩, ⟨5, mk_impl_Store_keeping_1, [], ⟨(some 33), none, (.mv (.tmp 7))⟩⟩, ⟨6, mk_impl_Store_keeping_6, [], ⟨(some 34), none, (.nilc (.tmp 33))⟩⟩, ⟨7, mk_impl_Store_keeping_7, [], ⟨(some 35), none, (.fa 1 (.tmp 34))⟩⟩, ⟨8, mk_impl_Store_keeping_8, [], ⟨(some 36), none, (.load 1 false (.tmp 35))⟩⟩, ⟨9, mk_impl_Store_keeping_1, [], ⟨(some 37), none, (.mv (.tmp 8))⟩⟩, ⟨10, mk_impl_Store_keeping_1, [], ⟨(some 38), none, (.mv (.tmp 8))⟩⟩, ⟨11, mk_impl_Store_keeping_9, [], ⟨(some 39), none, (.slc 1 (.tmp 36) none (some (.tmp 37)) (some (.tmp 38)))⟩⟩] ⟨12, mk_impl_Store_keeping_10, mk_impl_Store_keeping_2, ⟨(some 40), none, (.app 1 1 (.tmp 32) (.tmp 39))⟩⟩ [⟨0, mk_impl_Store_keeping_1, [], ⟨(some 28), none, (.mv (.tmp 7))⟩⟩] [⟨(some 41), none, (.nilc (.tmp 28))⟩, ⟨(some 42), none, (.fa 0 (.tmp 41))⟩, ⟨none, none, (.store 1 (.tmp 42) (.tmp 40))⟩]) (.ops [
  ⟨(some 43), none, (.mv (.tmp 7))⟩,
  ⟨(some 44), none, (.nilc (.tmp 43))⟩,
  ⟨(some 45), none, (.fa 1 (.tmp 44))⟩,
  ⟨none, none, (.store 1 (.tmp 45) (.const (.slice none 0 0)))⟩])))))) (.ops [
  ⟨(some 46), none, (.bin .add (.tmp 14) (.const (.int .i64 1)))⟩,
  ⟨(some 14), none, (.mv (.tmp 46))⟩]))))))) (.seq (.ops [
  ⟨(some 47), none, (.load 2 true (.tmp 5))⟩,
  ⟨none, none, (.store 2 (.tmp 4) (.tmp 47))⟩]) .ret))))
theorem law_impl_Store_keeping {a0 a1 d : D} (h : code_impl_Store_keeping.wp (Contract Try.prog NoG) (endQ [(.c 4 2 true)] d) [a0, a1, .undef, .undef, .undef, .undef, .undef, .undef, .undef, .undef, .undef, .undef, .undef, .undef, .undef, .undef, .undef, .undef, .undef, .undef, .undef, .undef, .undef, .undef, .undef, .undef, .undef, .undef, .undef, .undef, .undef, .undef, .undef, .undef, .undef, .undef, .undef, .undef, .undef, .undef, .undef, .undef, .undef, .undef, .undef, .undef, .undef, .undef]) : Contract Try.prog NoG 90 [a0, a1] d :=
  contract_of noG Try.func90 (fun us W => by kernel_rfl) (c := Try.f90.body.getD .skip) (ms := [mk_impl_Store_keeping_0]) (ms' := []) (by kernel_rfl) (by kernel_rfl) (by kernel_rfl) h
set_option maxHeartbeats 2000000 in
theorem v_keeping (q : Store) (k : Nat) (hk : k ≤ 1048576) (hq : okStore q = true) (hn : Store.cnt q ≤ 1048576) : Contract Try.prog NoG 90 [.agg (Store.td.d false q), .v (.int .i64 k)] (.agg (Store.td.d true (keepS k q))) := by
  obtain ⟨a, b, hs, ha, hb⟩ := okStore_parts hq
  rw [Store.td_d, Store.td_d]
  refine law_impl_Store_keeping ?_
  unfold code_impl_Store_keeping
  simp (disch := omega) only [go_sem, ↓reduceIte, List.getElem?_cons_succ, List.getElem?_cons_zero, List.set_cons_succ, List.set_cons_zero, List.map_cons, List.map_nil, List.length_cons, List.length_nil, List.all_cons, List.all_nil, List.drop_succ_cons, List.drop_zero, List.take_succ_cons, List.take_zero, List.flatMap_cons, List.flatMap_nil, List.cons_append, List.nil_append, List.append_nil, List.headD_cons, Value.oneCell', Bool.and_true, Bool.true_and, Bool.or_false, Bool.false_or, Bool.and_self, Bool.not_true, Bool.not_false, and_true, true_and, beq_self_eq_true, Bool.false_eq_true, if_true, if_false, Nat.zero_add, Nat.reduceAdd, Nat.reduceMul, Nat.reduceLeDiff, Nat.le_refl, Option.isSome_some, Option.isSome_none, not_true_eq_false, not_false_eq_true, ne_eq, reduceCtorEq, List.reverse_nil, bne_self_eq_false, Nat.reduceEqDiff, List.isPrefixOf, Bool.not_eq_true, Bool.and_false, Bool.false_and, Bool.true_or, Bool.or_true, decide_true, decide_false, Nat.reduceBEq, Nat.reduceBNe, List.replicate_succ, List.replicate_zero, exists_eq_left', exists_eq_left, Option.some.injEq, or_false, or_true, true_or, false_or, Option.map_some, Option.map_none]
  refine call_le (v_clone q hn) (by repeat (first | exact leL_nil | refine leL_cons ?_ ?_ | exact le_of_eq rfl | exact le_slf rfl (by first | rfl | exact TD.rows _ _ _ | exact immLL_rI _ | exact immLL_rB8 _ | exact immLL_rS _ | exact immLL_rBo _) | refine le_agg ?_ | refine le_iptr ?_ | refine le_fn ?_ ?_)) (by first | exact .inl rfl | exact .inl (by simp only [D.noImm, noImmL, Bool.and_true, Bool.true_and, TD.nims, TD.nim, nim_rI, nim_rB8, nim_rBo, nim_rS])) ?_
  simp (disch := omega) only [go_sem, ↓reduceIte, List.getElem?_cons_succ, List.getElem?_cons_zero, List.set_cons_succ, List.set_cons_zero, List.map_cons, List.map_nil, List.length_cons, List.length_nil, List.all_cons, List.all_nil, List.drop_succ_cons, List.drop_zero, List.take_succ_cons, List.take_zero, List.flatMap_cons, List.flatMap_nil, List.cons_append, List.nil_append, List.append_nil, List.headD_cons, Value.oneCell', Bool.and_true, Bool.true_and, Bool.or_false, Bool.false_or, Bool.and_self, Bool.not_true, Bool.not_false, and_true, true_and, beq_self_eq_true, Bool.false_eq_true, if_true, if_false, Nat.zero_add, Nat.reduceAdd, Nat.reduceMul, Nat.reduceLeDiff, Nat.le_refl, Option.isSome_some, Option.isSome_none, not_true_eq_false, not_false_eq_true, ne_eq, reduceCtorEq, List.reverse_nil, bne_self_eq_false, Nat.reduceEqDiff, List.isPrefixOf, Bool.not_eq_true, Bool.and_false, Bool.false_and, Bool.true_or, Bool.or_true, decide_true, decide_false, Nat.reduceBEq, Nat.reduceBNe, List.replicate_succ, List.replicate_zero, exists_eq_left', exists_eq_left, Option.some.injEq, or_false, or_true, true_or, false_or, Option.map_some, Option.map_none , Store.td_d]
  refine loop_st (fun i : Nat => [.undef, .v (.int .i64 k), .undef, .undef, .box [.nils, .v (.int .i64 0)], .box [.sl true 2 ((([a, b].take i).map (keepL k) ++ [a, b].drop i).map (Log.td.d true)), .v (.int .i64 q.Active)], .undef, .undef, .undef, .undef, .undef, .undef, .undef, .v (.int .i64 2), .v (.int .i64 i), .undef, .undef, .undef, .undef, .undef, .undef, .undef, .undef, .undef, .undef, .undef, .undef, .undef, .undef, .undef, .undef, .undef, .undef, .undef, .undef, .undef, .undef, .undef, .undef, .undef, .undef, .undef, .undef, .undef, .undef, .undef, .undef, .undef]) (fun i => i ≤ 2) (fun i => 2 - i) 0 ?_ (Nat.zero_le _) ?_
  · rw [hs]
    repeat (first | exact nleL_nil | refine nleL_cons ?_ ?_ | exact nle_rfl _ | exact nle_nil | refine nle_box ?_ | refine nle_agg ?_ | refine nle_sl ?_ | exact nleLL_nil | refine nleLL_cons ?_ ?_ | exact nle_of_eq rfl)
  intro i hi
  have min_eq : ∀ l : List Int, (if l.length < k then (l.length : Int) else (k : Int)) = ((min k l.length : Nat) : Int) := fun l => by split <;> omega
  have take_eq : ∀ l : List Int, (l.map rB8).take (min k l.length) = (l.take k).map rB8 := fun l => by
    rw [← List.map_take]
    congr 1
    rw [List.take_eq_take_iff]
    omega
  have hi3 : i = 0 ∨ i = 1 ∨ i = 2 := by omega
  rcases hi3 with rfl | rfl | rfl
  · simp (disch := omega) only [go_sem, ↓reduceIte, List.getElem?_cons_succ, List.getElem?_cons_zero, List.set_cons_succ, List.set_cons_zero, List.map_cons, List.map_nil, List.length_cons, List.length_nil, List.all_cons, List.all_nil, List.drop_succ_cons, List.drop_zero, List.take_succ_cons, List.take_zero, List.flatMap_cons, List.flatMap_nil, List.cons_append, List.nil_append, List.append_nil, List.headD_cons, Value.oneCell', Bool.and_true, Bool.true_and, Bool.or_false, Bool.false_or, Bool.and_self, Bool.not_true, Bool.not_false, and_true, true_and, beq_self_eq_true, Bool.false_eq_true, if_true, if_false, Nat.zero_add, Nat.reduceAdd, Nat.reduceMul, Nat.reduceLeDiff, Nat.le_refl, Option.isSome_some, Option.isSome_none, not_true_eq_false, not_false_eq_true, ne_eq, reduceCtorEq, List.reverse_nil, bne_self_eq_false, Nat.reduceEqDiff, List.isPrefixOf, Bool.not_eq_true, Bool.and_false, Bool.false_and, Bool.true_or, Bool.or_true, decide_true, decide_false, Nat.reduceBEq, Nat.reduceBNe, List.replicate_succ, List.replicate_zero, exists_eq_left', exists_eq_left, Option.some.injEq, or_false, or_true, true_or, false_or, Option.map_some, Option.map_none , List.length_map, Int.toNat_natCast, Int.ofNat_lt, Int.natCast_nonneg, List.getElem?_map, Option.map_some, Int.natCast_zero, Int.natCast_one, Int.cast_ofNat_Int, Int.ofNat_le, Int.toNat_zero, Nat.sub_zero, Int.le_refl, Int.reduceLT, Int.reduceLE, Int.reduceEq, Int.reduceAdd, Int.reduceSub, Int.reduceMul, Int.reduceToNat, Int.reduceNeg, Log.td_d, keepL, min_eq, Nat.min_le_right, take_eq]
    refine ⟨owny_rB8 _, by rw [List.length_take]; omega, 1, by omega, by omega, ?_⟩
    simp only [keepL, List.take_succ_cons, List.take_zero, List.drop_succ_cons, List.drop_zero, List.map_cons, List.map_nil, List.cons_append, List.nil_append, Log.td_d, List.map_append]
    repeat (first | exact nleL_nil | refine nleL_cons ?_ ?_ | exact nle_rfl _ | exact nle_nil | refine nle_box ?_ | refine nle_agg ?_ | refine nle_sl ?_ | exact nleLL_nil | refine nleLL_cons ?_ ?_ | exact nle_of_eq rfl)
  · simp (disch := omega) only [go_sem, ↓reduceIte, List.getElem?_cons_succ, List.getElem?_cons_zero, List.set_cons_succ, List.set_cons_zero, List.map_cons, List.map_nil, List.length_cons, List.length_nil, List.all_cons, List.all_nil, List.drop_succ_cons, List.drop_zero, List.take_succ_cons, List.take_zero, List.flatMap_cons, List.flatMap_nil, List.cons_append, List.nil_append, List.append_nil, List.headD_cons, Value.oneCell', Bool.and_true, Bool.true_and, Bool.or_false, Bool.false_or, Bool.and_self, Bool.not_true, Bool.not_false, and_true, true_and, beq_self_eq_true, Bool.false_eq_true, if_true, if_false, Nat.zero_add, Nat.reduceAdd, Nat.reduceMul, Nat.reduceLeDiff, Nat.le_refl, Option.isSome_some, Option.isSome_none, not_true_eq_false, not_false_eq_true, ne_eq, reduceCtorEq, List.reverse_nil, bne_self_eq_false, Nat.reduceEqDiff, List.isPrefixOf, Bool.not_eq_true, Bool.and_false, Bool.false_and, Bool.true_or, Bool.or_true, decide_true, decide_false, Nat.reduceBEq, Nat.reduceBNe, List.replicate_succ, List.replicate_zero, exists_eq_left', exists_eq_left, Option.some.injEq, or_false, or_true, true_or, false_or, Option.map_some, Option.map_none , List.length_map, Int.toNat_natCast, Int.ofNat_lt, Int.natCast_nonneg, List.getElem?_map, Option.map_some, Int.natCast_zero, Int.natCast_one, Int.cast_ofNat_Int, Int.ofNat_le, Int.toNat_zero, Nat.sub_zero, Int.le_refl, Int.reduceLT, Int.reduceLE, Int.reduceEq, Int.reduceAdd, Int.reduceSub, Int.reduceMul, Int.reduceToNat, Int.reduceNeg, Log.td_d, keepL, min_eq, Nat.min_le_right, take_eq]
    refine ⟨owny_rB8 _, by rw [List.length_take]; omega, 2, by omega, by omega, ?_⟩
    simp only [keepL, List.take_succ_cons, List.take_zero, List.drop_succ_cons, List.drop_zero, List.map_cons, List.map_nil, List.cons_append, List.nil_append, Log.td_d, List.map_append, List.take_nil, List.drop_nil]
    repeat (first | exact nleL_nil | refine nleL_cons ?_ ?_ | exact nle_rfl _ | exact nle_nil | refine nle_box ?_ | refine nle_agg ?_ | refine nle_sl ?_ | exact nleLL_nil | refine nleLL_cons ?_ ?_ | exact nle_of_eq rfl)
  · simp (disch := omega) only [go_sem, ↓reduceIte, List.getElem?_cons_succ, List.getElem?_cons_zero, List.set_cons_succ, List.set_cons_zero, List.map_cons, List.map_nil, List.length_cons, List.length_nil, List.all_cons, List.all_nil, List.drop_succ_cons, List.drop_zero, List.take_succ_cons, List.take_zero, List.flatMap_cons, List.flatMap_nil, List.cons_append, List.nil_append, List.append_nil, List.headD_cons, Value.oneCell', Bool.and_true, Bool.true_and, Bool.or_false, Bool.false_or, Bool.and_self, Bool.not_true, Bool.not_false, and_true, true_and, beq_self_eq_true, Bool.false_eq_true, if_true, if_false, Nat.zero_add, Nat.reduceAdd, Nat.reduceMul, Nat.reduceLeDiff, Nat.le_refl, Option.isSome_some, Option.isSome_none, not_true_eq_false, not_false_eq_true, ne_eq, reduceCtorEq, List.reverse_nil, bne_self_eq_false, Nat.reduceEqDiff, List.isPrefixOf, Bool.not_eq_true, Bool.and_false, Bool.false_and, Bool.true_or, Bool.or_true, decide_true, decide_false, Nat.reduceBEq, Nat.reduceBNe, List.replicate_succ, List.replicate_zero, exists_eq_left', exists_eq_left, Option.some.injEq, or_false, or_true, true_or, false_or, Option.map_some, Option.map_none , List.length_map, Int.toNat_natCast, Int.ofNat_lt, Int.natCast_nonneg, List.getElem?_map, Option.map_some, Int.natCast_zero, Int.natCast_one, Int.cast_ofNat_Int, Int.ofNat_le, Int.toNat_zero, Nat.sub_zero, Int.le_refl, Int.reduceLT, Int.reduceLE, Int.reduceEq, Int.reduceAdd, Int.reduceSub, Int.reduceMul, Int.reduceToNat, Int.reduceNeg, Log.td_d, keepL, keepS, hs]
theorem keepS_ok (k : Nat) (q : Store) (hq : Store.td.ok q) : Store.td.ok (keepS k q) := by
  rw [Store.td_ok] at hq ⊢
  refine ⟨fun y hy => ?_, hq.2⟩
  simp only [keepS, List.mem_map] at hy
  obtain ⟨l, hl, rfl⟩ := hy
  have := hq.1 l hl
  rw [Log.td_ok] at this ⊢
  refine ⟨fun c hc => ?_, fun c hc => by cases hc⟩
  simp only [keepL, List.mem_append] at hc
  rcases hc with hc | hc
  · exact this.1 c hc
  · exact this.2 c (List.mem_of_mem_take hc)
theorem keepS_cn (k : Nat) (q : Store) (h : okStore q = true) (hn : Store.cnt q ≤ 1048576) : (keepS k q).cnT ≤ 1000000000000 := by
  obtain ⟨a, b, hs, ha, hb⟩ := okStore_parts h
  have h5 := Store.cnT_le (keepS k q)
  have h6 : Store.cnt (keepS k q) ≤ 1000000 := by
    unfold Store.cnt keepS cntL
    rw [hs]
    simp [Log.cnt, keepL]
    omega
  omega
end Go.Proofs.Ytbnjjcnbjkibgaa
