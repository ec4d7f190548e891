/- Sets of tiles in new memory: clone, l02Own; rows that turn one by one. -/
import Derived.Test.YtmgkmkbjmaapeaaZVSet
set_option linter.all false
namespace Go.Proofs.Ytmgkmkbjmaapeaa
open Go.RowKit Go.V
attribute [local go_sem] List.getElem?_cons_succ List.getElem?_cons_zero List.set_cons_succ List.set_cons_zero List.map_cons List.map_nil List.length_cons List.length_nil List.all_cons List.all_nil List.drop_succ_cons List.drop_zero List.take_succ_cons List.take_zero List.flatMap_cons List.flatMap_nil List.cons_append List.nil_append List.append_nil List.headD_cons Value.oneCell' Bool.and_true Bool.true_and Bool.or_false Bool.false_or Bool.and_self Bool.not_true Bool.not_false and_true true_and beq_self_eq_true Bool.false_eq_true if_true if_false Nat.zero_add Nat.le_refl Option.isSome_some Option.isSome_none not_true_eq_false not_false_eq_true ne_eq List.reverse_nil bne_self_eq_false List.isPrefixOf Bool.not_eq_true Bool.and_false Bool.false_and Bool.true_or Bool.or_true decide_true decide_false List.replicate_succ List.replicate_zero exists_eq_left' exists_eq_left or_false or_true true_or false_or Option.map_some Option.map_none
set_option maxRecDepth 100000
def code_slices_Clone_impl_Glue_impl_Glue : VCode := (.seq (.ops [
  ⟨(some 2), none, (.asg (.const (.slice none 0 0)))⟩]) (.seq (.seq (.ops [
  ⟨(some 3), none, (.mv (.tmp 0))⟩,
  ⟨(some 4), none, (.isnil false (.tmp 3))⟩]) (.cond (.tmp 4) (.seq (.ops [
  ⟨(some 2), none, (.asg (.const (.slice none 0 0)))⟩]) .ret) .skip)) (.seq (.ops [
  ⟨(some 5), none, (.bsl 2 [])⟩,
  ⟨(some 6), none, (.mv (.tmp 0))⟩,
  ⟨(some 7), none, (.app 2 24 (.tmp 5) (.tmp 6))⟩,
  ⟨(some 2), none, (.asg (.tmp 7))⟩]) .ret)))
theorem law_slices_Clone_impl_Glue_impl_Glue {a0 d : D} (h : code_slices_Clone_impl_Glue_impl_Glue.wp (CT Try.prog NoG) (endQ [(.t 2)] d) [a0, .undef, .undef, .undef, .undef, .undef, .undef, .undef]) : Contract Try.prog NoG 83 [a0] d :=
  contract_of noG Try.func83 (fun us W => by kernel_rfl) (c := Try.f83.body.getD .skip) (ms := []) (ms' := []) (by kernel_rfl) (by kernel_rfl) (by kernel_rfl) h
theorem v_Clone_Glue (xs : List Glue) (hn : xs.length ≤ 1048576) : Contract Try.prog NoG 83 [.sl false 2 (xs.map (Glue.td.d false))] (.sl true 2 (xs.map (Glue.td.d true))) := by
  refine law_slices_Clone_impl_Glue_impl_Glue ?_
  unfold code_slices_Clone_impl_Glue_impl_Glue
  simp -implicitDefEqProofs (disch := omega) only [go_sem, ↓reduceIte, Nat.reduceAdd, Nat.reduceMul, Nat.reduceLeDiff, reduceCtorEq, Nat.reduceEqDiff, Nat.reduceBEq, Nat.reduceBNe, Option.some.injEq]
  refine isnil_intro (fun b hb => ?_)
  simp -implicitDefEqProofs (disch := omega) only [go_sem, ↓reduceIte, Nat.reduceAdd, Nat.reduceMul, Nat.reduceLeDiff, reduceCtorEq, Nat.reduceEqDiff, Nat.reduceBEq, Nat.reduceBNe, Option.some.injEq]
  refine cond_split ?_ ?_ <;> intro h
  · simp -implicitDefEqProofs (disch := omega) only [go_sem, ↓reduceIte, Nat.reduceAdd, Nat.reduceMul, Nat.reduceLeDiff, reduceCtorEq, Nat.reduceEqDiff, Nat.reduceBEq, Nat.reduceBNe, Option.some.injEq]
    exact hb (by rw [h]; rfl)
  · simp -implicitDefEqProofs (disch := omega) only [go_sem, ↓reduceIte, Nat.reduceAdd, Nat.reduceMul, Nat.reduceLeDiff, reduceCtorEq, Nat.reduceEqDiff, Nat.reduceBEq, Nat.reduceBNe, Option.some.injEq , List.length_map]
    exact ⟨by omega, rfl⟩
def code_slices_Clone_int64_int64 : VCode := (.seq (.ops [
  ⟨(some 2), none, (.asg (.const (.slice none 0 0)))⟩]) (.seq (.seq (.ops [
  ⟨(some 3), none, (.mv (.tmp 0))⟩,
  ⟨(some 4), none, (.isnil false (.tmp 3))⟩]) (.cond (.tmp 4) (.seq (.ops [
  ⟨(some 2), none, (.asg (.const (.slice none 0 0)))⟩]) .ret) .skip)) (.seq (.ops [
  ⟨(some 5), none, (.bsl 1 [])⟩,
  ⟨(some 6), none, (.mv (.tmp 0))⟩,
  ⟨(some 7), none, (.app 1 8 (.tmp 5) (.tmp 6))⟩,
  ⟨(some 2), none, (.asg (.tmp 7))⟩]) .ret)))
theorem law_slices_Clone_int64_int64 {a0 d : D} (h : code_slices_Clone_int64_int64.wp (CT Try.prog NoG) (endQ [(.t 2)] d) [a0, .undef, .undef, .undef, .undef, .undef, .undef, .undef]) : Contract Try.prog NoG 84 [a0] d :=
  contract_of noG Try.func84 (fun us W => by kernel_rfl) (c := Try.f84.body.getD .skip) (ms := []) (ms' := []) (by kernel_rfl) (by kernel_rfl) (by kernel_rfl) h
theorem v_Clone_Int64 (xs : List Int) (hn : xs.length ≤ 1048576) : Contract Try.prog NoG 84 [.sl false 1 (xs.map rI)] (.sl true 1 (xs.map rI)) := by
  refine law_slices_Clone_int64_int64 ?_
  unfold code_slices_Clone_int64_int64
  simp -implicitDefEqProofs (disch := omega) only [go_sem, ↓reduceIte, Nat.reduceAdd, Nat.reduceMul, Nat.reduceLeDiff, reduceCtorEq, Nat.reduceEqDiff, Nat.reduceBEq, Nat.reduceBNe, Option.some.injEq]
  refine isnil_intro (fun b hb => ?_)
  simp -implicitDefEqProofs (disch := omega) only [go_sem, ↓reduceIte, Nat.reduceAdd, Nat.reduceMul, Nat.reduceLeDiff, reduceCtorEq, Nat.reduceEqDiff, Nat.reduceBEq, Nat.reduceBNe, Option.some.injEq]
  refine cond_split ?_ ?_ <;> intro h
  · simp -implicitDefEqProofs (disch := omega) only [go_sem, ↓reduceIte, Nat.reduceAdd, Nat.reduceMul, Nat.reduceLeDiff, reduceCtorEq, Nat.reduceEqDiff, Nat.reduceBEq, Nat.reduceBNe, Option.some.injEq]
    exact hb (by rw [h]; rfl)
  · simp -implicitDefEqProofs (disch := omega) only [go_sem, ↓reduceIte, Nat.reduceAdd, Nat.reduceMul, Nat.reduceLeDiff, reduceCtorEq, Nat.reduceEqDiff, Nat.reduceBEq, Nat.reduceBNe, Option.some.injEq , List.length_map]
    omega
def code_spec_l00Own : VCode := (.seq (.ops [
  ⟨(some 2), none, (.asg (.const (.slice none 0 0)))⟩]) (.seq (.ops [
  ⟨(some 3), none, (.bsl 1 [])⟩,
  ⟨(some 4), none, (.mv (.tmp 0))⟩,
  ⟨(some 5), none, (.app 1 8 (.tmp 3) (.tmp 4))⟩,
  ⟨(some 2), none, (.asg (.tmp 5))⟩]) .ret))
theorem law_spec_l00Own {a0 d : D} (h : code_spec_l00Own.wp (CT Try.prog NoG) (endQ [(.t 2)] d) [a0, .undef, .undef, .undef, .undef, .undef]) : Contract Try.prog NoG 64 [a0] d :=
  contract_of noG Try.func64 (fun us W => by kernel_rfl) (c := Try.f64.body.getD .skip) (ms := []) (ms' := []) (by kernel_rfl) (by kernel_rfl) (by kernel_rfl) h
theorem v_l00Own (xs : List Int) (hn : xs.length ≤ 1048576) : Contract Try.prog NoG 64 [.sl false 1 (xs.map rI)] (.sl true 1 (xs.map rI)) := by
  refine law_spec_l00Own ?_
  unfold code_spec_l00Own
  simp -implicitDefEqProofs (disch := omega) only [go_sem, ↓reduceIte, Nat.reduceAdd, Nat.reduceMul, Nat.reduceLeDiff, reduceCtorEq, Nat.reduceEqDiff, Nat.reduceBEq, Nat.reduceBNe, Option.some.injEq , List.length_map]
  omega
abbrev mk_impl_TileSet_clone_0 : List Bool := [true, false, false, false, true, true, true, true, true, true, false, false, false, false, true, true, true, true, true, true, true, true, true, true, true, true, true, true, true, true]
abbrev mk_impl_TileSet_clone_1 : List Bool := [false, false, false, false, false, false, false, false, false, false, false, false, false, false, false, false, false, true, true, true, true, true, true, true, true, true]
abbrev mk_impl_TileSet_clone_2 : List Bool := [false, false, false, false, false, false, false, false, false, false, false, false, false, false, false, false, false, false, false, false, true, false, false, true, true]
abbrev mk_impl_TileSet_clone_3 : List Bool := [false, false, false, false, false, false, false, false, false, false, false, false, false, false, false, false, false, false, true, true, true, true, true, true, true, true]
abbrev mk_impl_TileSet_clone_4 : List Bool := [false, false, false, false, false, false, false, false, false, false, false, false, false, false, false, false, false, true, true, false, true, true, true, true, true, true]
abbrev mk_impl_TileSet_clone_5 : List Bool := [false, false, false, false, false, false, false, false, false, false, false, false, false, false, false, false, false, true, true, true, true, false, true, true, true, true]
abbrev mk_impl_TileSet_clone_6 : List Bool := [false, false, false, false, false, false, false, false, false, false, false, false, false, false, false, false, false, true, true, true, true, false, false, true, true, true]
abbrev mk_impl_TileSet_clone_7 : List Bool := [false, false, false, false, false, false, false, false, false, false, false, false, false, false, false, false, false, true, true, false, false, false, false, false, true, true]
abbrev mk_impl_TileSet_clone_8 : List Bool := [false, false, false, false, false, false, false, false, false, false, false, false, false, false, false, false, false, false, false, false, true, false, false, true]
abbrev mk_impl_TileSet_clone_9 : List Bool := [false, false, false, false, false, false, false, false, false, false, false, false, false, false, false, false, false, true, true, false, true, false, false, true, false, true]
abbrev mk_impl_TileSet_clone_10 : List Bool := [false, false, false, false, false, false, false, false, false, false, false, false, false, false, false, false, false, false, false, false, false, false, false, false, true]
def code_impl_TileSet_clone : VCode := (.seq (.ops [
  ⟨(some 1), none, (.box (.tmp 0))⟩,
  ⟨(some 2), none, (.alloc [(.slice none 0 0), (.slice none 0 0)])⟩]) (.seq (.ops [
  ⟨(some 6), none, (.fa 0 (.tmp 1))⟩,
  ⟨(some 7), none, (.load 1 false (.tmp 6))⟩,
  ⟨(some 8), none, (.callX 83 [(.tmp 7)])⟩,
  ⟨(some 9), none, (.build [(.slice none 0 0), (.slice none 0 0)] [(0, 1, (.tmp 8))])⟩,
  ⟨(some 3), none, (.alloc [(.slice none 0 0), (.slice none 0 0)])⟩,
  ⟨none, none, (.store 2 (.tmp 3) (.tmp 9))⟩]) (.seq (.seq (.ops [
  ⟨(some 10), none, (.fa 1 (.tmp 1))⟩,
  ⟨(some 11), none, (.load 1 false (.tmp 10))⟩,
  ⟨(some 12), none, (.len (.tmp 11))⟩,
  ⟨(some 13), none, (.mv (.const (.int .i64 0)))⟩]) (.block 0 (.loop mk_impl_TileSet_clone_0 (.seq (.ops [
  ⟨(some 14), none, (.bin .lss (.tmp 13) (.tmp 12))⟩]) (.seq (.cond (.tmp 14) .skip (.exit 0)) (.seq (.block 1 (.seq (.ops [
  ⟨(some 15), none, (.ia 2 (.tmp 11) (.tmp 13))⟩,
  ⟨(some 16), none, (.load 2 true (.tmp 15))⟩,
  ⟨(some 5), none, (.alloc [(.string ⟨⟨[]⟩⟩), (.slice none 0 0)])⟩,
  ⟨none, none, (.store 2 (.tmp 5) (.tmp 16))⟩]) (.draw mk_impl_TileSet_clone_1 mk_impl_TileSet_clone_2 [⟨0, mk_impl_TileSet_clone_1, [], ⟨(some 17), none, (.fa 1 (.tmp 3))⟩⟩, ⟨1, mk_impl_TileSet_clone_3, [], ⟨(some 18), none, (.load 1 false (.tmp 17))⟩⟩, ⟨2, mk_impl_TileSet_clone_1, [], ⟨(some 19), none, (.fa 0 (.tmp 5))⟩⟩, ⟨3, mk_impl_TileSet_clone_4, [], ⟨(some 20), none, (.load 1 false (.tmp 19))⟩⟩, ⟨4, mk_impl_TileSet_clone_1, [], ⟨(some 21), none, (.fa 1 (.tmp 5))⟩⟩, ⟨5, mk_impl_TileSet_clone_5, [], ⟨(some 22), none, (.load 1 false (.tmp 21))⟩⟩, ⟨6, mk_impl_TileSet_clone_6, [], ⟨(some 23), none, (.call 84 [(.tmp 22)])⟩⟩, ⟨7, mk_impl_TileSet_clone_7, mk_impl_TileSet_clone_8, ⟨(some 24), none, (.build [(.string ⟨⟨[]⟩⟩), (.slice none 0 0)] [(0, 1, (.tmp 20)), (1, 1, (.tmp 23))])⟩⟩, ⟨8, mk_impl_TileSet_clone_9, mk_impl_TileSet_clone_10, ⟨(some 25), none, (.bslN 2 [(.tmp 24)])⟩⟩] [⟨(some 26), none, (.app 2 40 (.tmp 18) (.tmp 25))⟩, ⟨(some 27), none, (.fa 1 (.tmp 3))⟩, ⟨none, none, (.store 1 (.tmp 27) (.tmp 26))⟩]))) (.ops [
  ⟨(some 28), none, (.bin .add (.tmp 13) (.const (.int .i64 1)))⟩,
  ⟨(some 13), none, (.mv (.tmp 28))⟩]))))))) (.seq (.ops [
  ⟨(some 29), none, (.load 2 true (.tmp 3))⟩,
  ⟨none, none, (.store 2 (.tmp 2) (.tmp 29))⟩]) .ret))))
theorem law_impl_TileSet_clone {a0 d : D} (h : code_impl_TileSet_clone.wp (CT Try.prog NoG) (endQ [(.c 2 2 true)] d) [a0, .undef, .undef, .undef, .undef, .undef, .undef, .undef, .undef, .undef, .undef, .undef, .undef, .undef, .undef, .undef, .undef, .undef, .undef, .undef, .undef, .undef, .undef, .undef, .undef, .undef, .undef, .undef, .undef, .undef]) : Contract Try.prog NoG 38 [a0] d :=
  contract_of noG Try.func38 (fun us W => by kernel_rfl) (c := Try.f38.body.getD .skip) (ms := [mk_impl_TileSet_clone_0]) (ms' := []) (by kernel_rfl) (by kernel_rfl) (by kernel_rfl) h
set_option maxHeartbeats 4000000 in
theorem v_clone (a : TileSet) (ha : setB a) : Contract Try.prog NoG 38 [.agg (TileSet.td.d false a)] (.agg (TileSet.td.d true a)) := by
  have hag := ha.g
  have hat := ha.t
  rw [TileSet.td_d, TileSet.td_d]
  refine law_impl_TileSet_clone ?_
  unfold code_impl_TileSet_clone
  simp -implicitDefEqProofs (disch := omega) only [go_sem, ↓reduceIte, Nat.reduceAdd, Nat.reduceMul, Nat.reduceLeDiff, reduceCtorEq, Nat.reduceEqDiff, Nat.reduceBEq, Nat.reduceBNe, Option.some.injEq]
  refine call_leA (v_Clone_Glue a.Glues hag) (by simp -implicitDefEqProofs (disch := omega) only [go_sem, ↓reduceIte, Nat.reduceAdd, Nat.reduceMul, Nat.reduceLeDiff, reduceCtorEq, Nat.reduceEqDiff, Nat.reduceBEq, Nat.reduceBNe, Option.some.injEq, deep, TD.rows, immLL_rI, immLL_rB8, immLL_rS, immLL_rBo, immLL_rII, List.length_map]; exact rfl) (by repeat (first | exact leL_nil | refine leL_cons ?_ ?_ | exact le_of_eq rfl | exact le_iptrN (leL_of_eq rfl) | refine le_agg ?_ | exact le_slf rfl (TD.rows _ _ _) | refine le_iptr ?_ | refine le_fn ?_ ?_)) (by first | exact .inl rfl | exact .inr rfl | exact .inl (by simp only [D.noImm, noImmL, Bool.and_true, Bool.true_and, TD.nims, TD.nim, nim_rI, nim_rB8, nim_rBo, nim_rS])) ?_
  simp -implicitDefEqProofs (disch := omega) only [go_sem, ↓reduceIte, Nat.reduceAdd, Nat.reduceMul, Nat.reduceLeDiff, reduceCtorEq, Nat.reduceEqDiff, Nat.reduceBEq, Nat.reduceBNe, Option.some.injEq , List.length_map]
  refine loop_st (fun i : Nat => [.undef, .box none [.sl false 2 (a.Glues.map (Glue.td.d false)), .sl false 2 (a.Tiles.map (Tile.td.d false))], .box none [.nils, .nils], .box none [.sl true 2 (a.Glues.map (Glue.td.d true)), .sl true 2 ((a.Tiles.take i).map (Tile.td.d true))], .undef, .undef, .undef, .undef, .undef, .undef, .ptr 1 [] 0 1, .sl false 2 (a.Tiles.map (Tile.td.d false)), .v (.int .i64 a.Tiles.length), .v (.int .i64 i), .undef, .undef, .undef, .undef, .undef, .undef, .undef, .undef, .undef, .undef, .undef, .undef, .undef, .undef, .undef, .undef]) (fun i => i ≤ a.Tiles.length) (fun i => a.Tiles.length - i) 0 (by (try simp -implicitDefEqProofs only [nleL_cc, nleL_nn, nle_self, nle_boxs, nle_aggs, nle_nils, and_self, and_true, true_and]) <;> repeat' (first | exact nle_of_eq rfl | exact nle_nil | apply And.intro | apply nle_sl | apply nleLL_cons | apply nleL_cons | exact nleL_nil | exact nleLL_nil | apply nle_box | apply nle_agg)) (Nat.zero_le _) ?_
  intro i hi
  simp -implicitDefEqProofs (disch := omega) only [go_sem, ↓reduceIte, Nat.reduceAdd, Nat.reduceMul, Nat.reduceLeDiff, reduceCtorEq, Nat.reduceEqDiff, Nat.reduceBEq, Nat.reduceBNe, Option.some.injEq , List.length_map, Int.toNat_natCast, Int.ofNat_lt, Int.natCast_nonneg, List.getElem?_map, Option.map_some]
  refine cond_split ?_ ?_ <;> intro hlt
  · have hlt : i < a.Tiles.length := by simpa using hlt
    have e1 := List.getElem?_eq_getElem hlt
    have hsl := ha.ts _ (List.getElem_mem hlt)
    simp -implicitDefEqProofs (disch := omega) only [go_sem, ↓reduceIte, Nat.reduceAdd, Nat.reduceMul, Nat.reduceLeDiff, reduceCtorEq, Nat.reduceEqDiff, Nat.reduceBEq, Nat.reduceBNe, Option.some.injEq , List.length_map, Int.toNat_natCast, Int.ofNat_lt, Int.natCast_nonneg, List.getElem?_map, Option.map_some, hlt, e1, Tile.td_d]
    refine call_leNA (v_Clone_Int64 a.Tiles[i].Sides hsl) (by simp -implicitDefEqProofs (disch := omega) only [go_sem, ↓reduceIte, Nat.reduceAdd, Nat.reduceMul, Nat.reduceLeDiff, reduceCtorEq, Nat.reduceEqDiff, Nat.reduceBEq, Nat.reduceBNe, Option.some.injEq, deep, TD.rows, immLL_rI, immLL_rB8, immLL_rS, immLL_rBo, immLL_rII, List.length_map, List.length_take, wrN]; exact rfl) (by repeat (first | exact leL_nil | refine leL_cons ?_ ?_ | exact le_of_eq rfl | exact le_iptrN (leL_of_eq rfl) | refine le_agg ?_ | exact le_slf rfl (TD.rows _ _ _) | refine le_iptr ?_ | refine le_fn ?_ ?_)) (by first | exact .inl rfl | exact .inr rfl | exact .inl (by simp only [D.noImm, noImmL, Bool.and_true, Bool.true_and, TD.nims, TD.nim, nim_rI, nim_rB8, nim_rBo, nim_rS])) ?_
    simp -implicitDefEqProofs (disch := omega) only [go_sem, ↓reduceIte, Nat.reduceAdd, Nat.reduceMul, Nat.reduceLeDiff, reduceCtorEq, Nat.reduceEqDiff, Nat.reduceBEq, Nat.reduceBNe, Option.some.injEq , List.length_map, List.length_take, wrN]
    refine ⟨by omega, i + 1, by omega, hlt, ?_⟩
    rw [← take_next hlt, List.map_append]
    (try simp -implicitDefEqProofs only [nleL_cc, nleL_nn, nle_self, nle_boxs, nle_aggs, nle_nils, and_self, and_true, true_and]) <;> repeat' (first | exact nle_of_eq rfl | exact nle_nil | apply And.intro | apply nle_sl | apply nleLL_cons | apply nleL_cons | exact nleL_nil | exact nleLL_nil | apply nle_box | apply nle_agg)
  · have hge : i = a.Tiles.length := by have : ¬ i < a.Tiles.length := by simpa using hlt
                                        omega
    subst hge
    simp -implicitDefEqProofs (disch := omega) only [go_sem, ↓reduceIte, Nat.reduceAdd, Nat.reduceMul, Nat.reduceLeDiff, reduceCtorEq, Nat.reduceEqDiff, Nat.reduceBEq, Nat.reduceBNe, Option.some.injEq , List.take_length]
abbrev mk_spec_l02Own_0 : List Bool := [false, true, false, false, false, true, true, true, true, true, true, true, true, true, true, true, true, true, true, true, true, true, true, true, true, true, true, true, true, true, true, true, true, true, true, true, true, true, true, true, true, true, true, true, true]
abbrev mk_spec_l02Own_1 : List Bool := [false, false, false, false, false, false, false, false, false, false, false, false, false, false, false, false, false, false, false, false, false, true, true, true, true, true, true, true, true, true, true, true, true, true, true, true, true, true, true, true, true, true]
abbrev mk_spec_l02Own_2 : List Bool := [false, false, false, false, false, false, false, false, false, false, false, false, false, false, false, false, false, false, false, false, false, false, false, false, false, false, false, false, false, false, true, false, false, false, false, false, false, false, false, true, true]
abbrev mk_spec_l02Own_3 : List Bool := [false, false, false, false, false, false, false, false, false, false, false, false, false, false, false, false, false, false, false, false, false, false, true, true, true, true, true, true, true, true, true, true, true, true, true, true, true, true, true, true, true, true]
abbrev mk_spec_l02Own_4 : List Bool := [false, false, false, false, false, false, false, false, false, false, false, false, false, false, false, false, false, false, false, false, false, true, true, false, true, true, true, true, true, true, true, true, true, true, true, true, true, true, true, true, true, true]
abbrev mk_spec_l02Own_5 : List Bool := [false, false, false, false, false, false, false, false, false, false, false, false, false, false, false, false, false, false, false, false, false, true, true, false, false, true, true, true, true, true, true, true, true, true, true, true, true, true, true, true, true, true]
abbrev mk_spec_l02Own_6 : List Bool := [false, false, false, false, false, false, false, false, false, false, false, false, false, false, false, false, false, false, false, false, false, true, true, false, false, false, true, true, true, true, true, true, true, true, true, true, true, true, true, true, true, true]
abbrev mk_spec_l02Own_7 : List Bool := [false, false, false, false, false, false, false, false, false, false, false, false, false, false, false, false, false, false, false, false, false, true, true, false, false, false, false, false, true, true, true, true, true, true, true, true, true, true, true, true, true, true]
abbrev mk_spec_l02Own_8 : List Bool := [false, false, false, false, false, false, false, false, false, false, false, false, false, false, false, false, false, false, false, false, false, true, true, false, false, false, false, false, false, true, true, true, true, true, true, true, true, true, true, true, true, true]
abbrev mk_spec_l02Own_9 : List Bool := [false, false, false, false, false, false, false, false, false, false, false, false, false, false, false, false, false, false, false, false, false, true, true, false, false, false, false, false, false, false, true, true, true, true, true, true, true, true, true, true, true, true]
abbrev mk_spec_l02Own_10 : List Bool := [false, false, false, false, false, false, false, false, false, false, false, false, false, false, false, false, false, false, false, false, false, true, true, true, true, true, true, true, true, true, true, false, true, true, true, true, true, true, true, true, true, true]
abbrev mk_spec_l02Own_11 : List Bool := [false, false, false, false, false, false, false, false, false, false, false, false, false, false, false, false, false, false, false, false, false, true, true, true, true, true, true, true, true, true, true, false, false, true, true, true, true, true, true, true, true, true]
abbrev mk_spec_l02Own_12 : List Bool := [false, false, false, false, false, false, false, false, false, false, false, false, false, false, false, false, false, false, false, false, false, true, true, true, true, true, true, true, true, true, true, false, false, false, true, true, true, true, true, true, true, true]
abbrev mk_spec_l02Own_13 : List Bool := [false, false, false, false, false, false, false, false, false, false, false, false, false, false, false, false, false, false, false, false, false, true, true, true, true, true, true, true, true, true, true, false, false, false, false, false, true, true, true, true, true, true]
abbrev mk_spec_l02Own_14 : List Bool := [false, false, false, false, false, false, false, false, false, false, false, false, false, false, false, false, false, false, false, false, false, true, true, true, true, true, true, true, true, true, true, false, false, false, false, false, false, true, true, true, true, true]
abbrev mk_spec_l02Own_15 : List Bool := [false, false, false, false, false, false, false, false, false, false, false, false, false, false, false, false, false, false, false, false, false, true, true, true, true, true, true, true, true, true, true, false, false, false, false, false, false, false, true, true, true, true]
abbrev mk_spec_l02Own_16 : List Bool := [false, false, false, false, false, false, false, false, false, false, false, false, false, false, false, false, false, false, false, false, false, true, true, true, true, true, true, true, true, true, true, false, false, false, false, false, false, false, false, true, true, true]
abbrev mk_spec_l02Own_17 : List Bool := [false, false, false, false, false, false, false, false, false, false, false, false, false, false, false, false, false, false, false, false, false, true, true, false, false, false, false, false, false, false, false, false, false, false, false, false, false, false, false, false, true, true]
abbrev mk_spec_l02Own_18 : List Bool := [false, false, false, false, false, false, false, false, false, false, false, false, false, false, false, false, false, false, false, false, false, false, false, false, false, false, false, false, false, false, true, false, false, false, false, false, false, false, false, true]
abbrev mk_spec_l02Own_19 : List Bool := [false, false, false, false, false, false, false, false, false, false, false, false, false, false, false, false, false, false, false, false, false, true, true, false, false, false, false, false, false, false, true, false, false, false, false, false, false, false, false, true, false, true]
abbrev mk_spec_l02Own_20 : List Bool := [false, false, false, false, false, false, false, false, false, false, false, false, false, false, false, false, false, false, false, false, false, false, false, false, false, false, false, false, false, false, false, false, false, false, false, false, false, false, false, false, true]
def code_spec_l02Own : VCode := (.seq (.ops [
  ⟨(some 2), none, (.alloc [(.slice none 0 0), (.slice none 0 0)])⟩]) (.seq (.ops [
  ⟨(some 5), none, (.bsl 2 [])⟩,
  ⟨(some 6), none, (.mv (.tmp 0))⟩,
  ⟨(some 7), none, (.nilc (.tmp 6))⟩,
  ⟨(some 8), none, (.fa 0 (.tmp 7))⟩,
  ⟨(some 9), none, (.load 1 false (.tmp 8))⟩,
  ⟨(some 10), none, (.app 2 24 (.tmp 5) (.tmp 9))⟩,
  ⟨(some 11), none, (.build [(.slice none 0 0), (.slice none 0 0)] [(0, 1, (.tmp 10))])⟩,
  ⟨(some 3), none, (.alloc [(.slice none 0 0), (.slice none 0 0)])⟩,
  ⟨none, none, (.store 2 (.tmp 3) (.tmp 11))⟩]) (.seq (.seq (.ops [
  ⟨(some 4), none, (.asg (.const (.int .i64 0)))⟩]) (.block 0 (.loop mk_spec_l02Own_0 (.seq (.seq (.ops [
  ⟨(some 12), none, (.mv (.tmp 4))⟩,
  ⟨(some 13), none, (.mv (.tmp 0))⟩,
  ⟨(some 14), none, (.nilc (.tmp 13))⟩,
  ⟨(some 15), none, (.fa 1 (.tmp 14))⟩,
  ⟨(some 16), none, (.load 1 false (.tmp 15))⟩,
  ⟨(some 17), none, (.len (.tmp 16))⟩,
  ⟨(some 18), none, (.bin .lss (.tmp 12) (.tmp 17))⟩]) (.cond (.tmp 18) .skip (.exit 0))) (.seq (.block 1 (.draw mk_spec_l02Own_1 mk_spec_l02Own_2 [⟨0, mk_spec_l02Own_1, [], ⟨(some 21), none, (.fa 1 (.tmp 3))⟩⟩, ⟨1, mk_spec_l02Own_3, [], ⟨(some 22), none, (.load 1 false (.tmp 21))⟩⟩, ⟨2, mk_spec_l02Own_1, [], ⟨(some 23), none, (.mv (.tmp 0))⟩⟩, ⟨3, mk_spec_l02Own_4, [], ⟨(some 24), none, (.nilc (.tmp 23))⟩⟩, ⟨4, mk_spec_l02Own_5, [], ⟨(some 25), none, (.fa 1 (.tmp 24))⟩⟩, ⟨5, mk_spec_l02Own_6, [], ⟨(some 26), none, (.load 1 false (.tmp 25))⟩⟩, ⟨6, mk_spec_l02Own_1, [], ⟨(some 27), none, (.mv (.tmp 4))⟩⟩, ⟨7, mk_spec_l02Own_7, [], ⟨(some 28), none, (.ia 2 (.tmp 26) (.tmp 27))⟩⟩, ⟨8, mk_spec_l02Own_8, [], ⟨(some 29), none, (.fa 0 (.tmp 28))⟩⟩, ⟨9, mk_spec_l02Own_9, [], ⟨(some 30), none, (.load 1 false (.tmp 29))⟩⟩, ⟨10, mk_spec_l02Own_1, [], ⟨(some 31), none, (.mv (.tmp 0))⟩⟩, ⟨11, mk_spec_l02Own_10, [], ⟨(some 32), none, (.nilc (.tmp 31))⟩⟩, ⟨12, mk_spec_l02Own_11, [], ⟨(some 33), none, (.fa 1 (.tmp 32))⟩⟩, ⟨13, mk_spec_l02Own_12, [], ⟨(some 34), none, (.load 1 false (.tmp 33))⟩⟩, ⟨14, mk_spec_l02Own_1, [], ⟨(some 35), none, (.mv (.tmp 4))⟩⟩, ⟨15, mk_spec_l02Own_13, [], ⟨(some 36), none, (.ia 2 (.tmp 34) (.tmp 35))⟩⟩, ⟨16, mk_spec_l02Own_14, [], ⟨(some 37), none, (.fa 1 (.tmp 36))⟩⟩, ⟨17, mk_spec_l02Own_15, [], ⟨(some 38), none, (.load 1 false (.tmp 37))⟩⟩, ⟨18, mk_spec_l02Own_16, [], ⟨(some 39), none, (.call 64 [(.tmp 38)])⟩⟩, ⟨19, mk_spec_l02Own_17, mk_spec_l02Own_18, ⟨(some 40), none, (.build [(.string ⟨⟨[]⟩⟩), (.slice none 0 0)] [(0, 1, (.tmp 30)), (1, 1, (.tmp 39))])⟩⟩, ⟨20, mk_spec_l02Own_19, mk_spec_l02Own_20, ⟨(some 41), none, (.bslN 2 [(.tmp 40)])⟩⟩] [⟨(some 42), none, (.app 2 40 (.tmp 22) (.tmp 41))⟩, ⟨(some 43), none, (.fa 1 (.tmp 3))⟩, ⟨none, none, (.store 1 (.tmp 43) (.tmp 42))⟩])) (.ops [
  ⟨(some 19), none, (.mv (.tmp 4))⟩,
  ⟨(some 20), none, (.bin .add (.tmp 19) (.const (.int .i64 1)))⟩,
  ⟨(some 4), none, (.asg (.tmp 20))⟩])))))) (.seq (.ops [
  ⟨(some 44), none, (.load 2 true (.tmp 3))⟩,
  ⟨none, none, (.store 2 (.tmp 2) (.tmp 44))⟩]) .ret))))
theorem law_spec_l02Own {a0 d : D} (h : code_spec_l02Own.wp (CT Try.prog NoG) (endQ [(.c 2 2 true)] d) [a0, .undef, .undef, .undef, .undef, .undef, .undef, .undef, .undef, .undef, .undef, .undef, .undef, .undef, .undef, .undef, .undef, .undef, .undef, .undef, .undef, .undef, .undef, .undef, .undef, .undef, .undef, .undef, .undef, .undef, .undef, .undef, .undef, .undef, .undef, .undef, .undef, .undef, .undef, .undef, .undef, .undef, .undef, .undef, .undef]) : Contract Try.prog NoG 41 [a0] d :=
  contract_of noG Try.func41 (fun us W => by kernel_rfl) (c := Try.f41.body.getD .skip) (ms := [mk_spec_l02Own_0]) (ms' := []) (by kernel_rfl) (by kernel_rfl) (by kernel_rfl) h
set_option maxHeartbeats 4000000 in
theorem v_l02Own (a : TileSet) (ha : setB a) : Contract Try.prog NoG 41 [.iptr (TileSet.td.d false a) 0] (.agg (TileSet.td.d true a)) := by
  have hag := ha.g
  have hat := ha.t
  rw [TileSet.td_d, TileSet.td_d]
  refine law_spec_l02Own ?_
  unfold code_spec_l02Own
  simp -implicitDefEqProofs (disch := omega) only [go_sem, ↓reduceIte, Nat.reduceAdd, Nat.reduceMul, Nat.reduceLeDiff, reduceCtorEq, Nat.reduceEqDiff, Nat.reduceBEq, Nat.reduceBNe, Option.some.injEq , List.length_map]
  refine ⟨by omega, ?_⟩
  refine loop_st (fun i : Nat => [.iptr [.sl false 2 (a.Glues.map (Glue.td.d false)), .sl false 2 (a.Tiles.map (Tile.td.d false))] 0, .undef, .box none [.nils, .nils], .box none [.sl true 2 (a.Glues.map (Glue.td.d true)), .sl true 2 ((a.Tiles.take i).map (Tile.td.d true))], .v (.int .i64 i), .undef, .undef, .undef, .undef, .undef, .undef, .undef, .undef, .undef, .undef, .undef, .undef, .undef, .undef, .undef, .undef, .undef, .undef, .undef, .undef, .undef, .undef, .undef, .undef, .undef, .undef, .undef, .undef, .undef, .undef, .undef, .undef, .undef, .undef, .undef, .undef, .undef, .undef, .undef, .undef]) (fun i => i ≤ a.Tiles.length) (fun i => a.Tiles.length - i) 0 (by (try simp -implicitDefEqProofs only [nleL_cc, nleL_nn, nle_self, nle_boxs, nle_aggs, nle_nils, and_self, and_true, true_and]) <;> repeat' (first | exact nle_of_eq rfl | exact nle_nil | apply And.intro | apply nle_sl | apply nleLL_cons | apply nleL_cons | exact nleL_nil | exact nleLL_nil | apply nle_box | apply nle_agg)) (Nat.zero_le _) ?_
  intro i hi
  simp -implicitDefEqProofs (disch := omega) only [go_sem, ↓reduceIte, Nat.reduceAdd, Nat.reduceMul, Nat.reduceLeDiff, reduceCtorEq, Nat.reduceEqDiff, Nat.reduceBEq, Nat.reduceBNe, Option.some.injEq , List.length_map, Int.toNat_natCast, Int.ofNat_lt, Int.natCast_nonneg, List.getElem?_map, Option.map_some]
  refine cond_split ?_ ?_ <;> intro hlt
  · have hlt : i < a.Tiles.length := by simpa using hlt
    have e1 := List.getElem?_eq_getElem hlt
    have hsl := ha.ts _ (List.getElem_mem hlt)
    simp -implicitDefEqProofs (disch := omega) only [go_sem, ↓reduceIte, Nat.reduceAdd, Nat.reduceMul, Nat.reduceLeDiff, reduceCtorEq, Nat.reduceEqDiff, Nat.reduceBEq, Nat.reduceBNe, Option.some.injEq , List.length_map, Int.toNat_natCast, Int.ofNat_lt, Int.natCast_nonneg, List.getElem?_map, Option.map_some, hlt, e1, Tile.td_d]
    refine call_leNA (v_l00Own a.Tiles[i].Sides hsl) (by simp -implicitDefEqProofs (disch := omega) only [go_sem, ↓reduceIte, Nat.reduceAdd, Nat.reduceMul, Nat.reduceLeDiff, reduceCtorEq, Nat.reduceEqDiff, Nat.reduceBEq, Nat.reduceBNe, Option.some.injEq, deep, TD.rows, immLL_rI, immLL_rB8, immLL_rS, immLL_rBo, immLL_rII, List.length_map, List.length_take, wrN]; exact rfl) (by repeat (first | exact leL_nil | refine leL_cons ?_ ?_ | exact le_of_eq rfl | exact le_iptrN (leL_of_eq rfl) | refine le_agg ?_ | exact le_slf rfl (TD.rows _ _ _) | refine le_iptr ?_ | refine le_fn ?_ ?_)) (by first | exact .inl rfl | exact .inr rfl | exact .inl (by simp only [D.noImm, noImmL, Bool.and_true, Bool.true_and, TD.nims, TD.nim, nim_rI, nim_rB8, nim_rBo, nim_rS])) ?_
    simp -implicitDefEqProofs (disch := omega) only [go_sem, ↓reduceIte, Nat.reduceAdd, Nat.reduceMul, Nat.reduceLeDiff, reduceCtorEq, Nat.reduceEqDiff, Nat.reduceBEq, Nat.reduceBNe, Option.some.injEq , List.length_map, List.length_take, wrN]
    refine ⟨by omega, i + 1, by omega, hlt, ?_⟩
    rw [← take_next hlt, List.map_append]
    (try simp -implicitDefEqProofs only [nleL_cc, nleL_nn, nle_self, nle_boxs, nle_aggs, nle_nils, and_self, and_true, true_and]) <;> repeat' (first | exact nle_of_eq rfl | exact nle_nil | apply And.intro | apply nle_sl | apply nleLL_cons | apply nleL_cons | exact nleL_nil | exact nleLL_nil | apply nle_box | apply nle_agg)
  · have hge : i = a.Tiles.length := by have : ¬ i < a.Tiles.length := by simpa using hlt
                                        omega
    subst hge
    simp -implicitDefEqProofs (disch := omega) only [go_sem, ↓reduceIte, Nat.reduceAdd, Nat.reduceMul, Nat.reduceLeDiff, reduceCtorEq, Nat.reduceEqDiff, Nat.reduceBEq, Nat.reduceBNe, Option.some.injEq , List.take_length]
end Go.Proofs.Ytmgkmkbjmaapeaa
