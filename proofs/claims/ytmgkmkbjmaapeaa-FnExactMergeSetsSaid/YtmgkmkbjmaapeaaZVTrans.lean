/- glueNamed, tileNamed, translated. -/
import Derived.Test.YtmgkmkbjmaapeaaZVMrg
import Derived.Test.YtmgkmkbjmaapeaaZVSlGlue
import Derived.Test.YtmgkmkbjmaapeaaZVSlTile
set_option linter.all false
namespace Go.Proofs.Ytmgkmkbjmaapeaa
open Go.RowKit Go.V
attribute [local go_sem] List.getElem?_cons_succ List.getElem?_cons_zero List.set_cons_succ List.set_cons_zero List.map_cons List.map_nil List.length_cons List.length_nil List.all_cons List.all_nil List.drop_succ_cons List.drop_zero List.take_succ_cons List.take_zero List.flatMap_cons List.flatMap_nil List.cons_append List.nil_append List.append_nil List.headD_cons Value.oneCell' Bool.and_true Bool.true_and Bool.or_false Bool.false_or Bool.and_self Bool.not_true Bool.not_false and_true true_and beq_self_eq_true Bool.false_eq_true if_true if_false Nat.zero_add Nat.le_refl Option.isSome_some Option.isSome_none not_true_eq_false not_false_eq_true ne_eq List.reverse_nil bne_self_eq_false List.isPrefixOf Bool.not_eq_true Bool.and_false Bool.false_and Bool.true_or Bool.or_true decide_true decide_false List.replicate_succ List.replicate_zero exists_eq_left' exists_eq_left or_false or_true true_or false_or Option.map_some Option.map_none
set_option maxRecDepth 100000
def code_impl_TileSet_glueNamed_1 : VCode := (.seq (.ops [
  ⟨(some 2), none, (.box (.tmp 0))⟩,
  ⟨(some 3), none, (.asg (.const (.bool false)))⟩]) (.seq (.ops [
  ⟨(some 4), none, (.fa 0 (.tmp 2))⟩,
  ⟨(some 5), none, (.load 1 false (.tmp 4))⟩,
  ⟨(some 6), none, (.load 1 false (.tmp 1))⟩,
  ⟨(some 7), none, (.bin .eql (.tmp 5) (.tmp 6))⟩,
  ⟨(some 3), none, (.asg (.tmp 7))⟩]) .ret))
theorem law_impl_TileSet_glueNamed_1 {a0 a1 d : D} (h : code_impl_TileSet_glueNamed_1.wp (CT Try.prog NoG) (endQ [(.t 3)] d) [a0, a1, .undef, .undef, .undef, .undef, .undef, .undef]) : Contract Try.prog NoG 103 [a0, a1] d :=
  contract_of noG Try.func103 (fun us W => by kernel_rfl) (c := Try.f103.body.getD .skip) (ms := []) (ms' := []) (by kernel_rfl) (by kernel_rfl) (by kernel_rfl) h
def code_impl_TileSet_glueNamed : VCode := (.seq (.ops [
  ⟨(some 2), none, (.box (.tmp 0))⟩,
  ⟨(some 3), none, (.box (.tmp 1))⟩,
  ⟨(some 4), none, (.asg (.const (.int .i64 0)))⟩]) (.seq (.ops [
  ⟨(some 5), none, (.fa 0 (.tmp 2))⟩,
  ⟨(some 6), none, (.load 1 false (.tmp 5))⟩,
  ⟨(some 7), none, (.mkf 103 [] [(.tmp 3)])⟩,
  ⟨(some 8), none, (.callX 102 [(.tmp 6), (.tmp 7)])⟩,
  ⟨(some 9), none, (.bin .add (.tmp 8) (.const (.int .i64 1)))⟩,
  ⟨(some 4), none, (.asg (.tmp 9))⟩]) .ret))
theorem law_impl_TileSet_glueNamed {a0 a1 d : D} (h : code_impl_TileSet_glueNamed.wp (CT Try.prog NoG) (endQ [(.t 4)] d) [a0, a1, .undef, .undef, .undef, .undef, .undef, .undef, .undef, .undef]) : Contract Try.prog NoG 74 [a0, a1] d :=
  contract_of noG Try.func74 (fun us W => by kernel_rfl) (c := Try.f74.body.getD .skip) (ms := []) (ms' := []) (by kernel_rfl) (by kernel_rfl) (by kernel_rfl) h
theorem v_glueNamed1 (g : Glue) (n : ByteArray) : Contract Try.prog NoG 103 [.agg (Glue.td.d false g), .iptr [.v (.string n)] 0] (.v (.bool (decide (g.Name = n)))) := by
  rw [Glue.td_d]
  refine law_impl_TileSet_glueNamed_1 ?_
  unfold code_impl_TileSet_glueNamed_1
  simp -implicitDefEqProofs (disch := omega) only [go_sem, ↓reduceIte, Nat.reduceAdd, Nat.reduceMul, Nat.reduceLeDiff, reduceCtorEq, Nat.reduceEqDiff, Nat.reduceBEq, Nat.reduceBNe, Option.some.injEq]
theorem v_glueNamed (gs : List Glue) (ts : List Tile) (n : ByteArray) (hg : gs.length ≤ 1048576) : Contract Try.prog NoG 74 [.agg [.sl false 2 (gs.map (Glue.td.d false)), .sl false 2 (ts.map (Tile.td.d false))], .v (.string n)] (.v (.int .i64 (gIdx gs n + 1))) := by
  refine law_impl_TileSet_glueNamed ?_
  unfold code_impl_TileSet_glueNamed
  simp -implicitDefEqProofs (disch := omega) only [go_sem, ↓reduceIte, Nat.reduceAdd, Nat.reduceMul, Nat.reduceLeDiff, reduceCtorEq, Nat.reduceEqDiff, Nat.reduceBEq, Nat.reduceBNe, Option.some.injEq]
  refine call_leA (v_IndexFunc_Glue _ [.iptr [.v (.string n)] 0] ⟨rfl, fun _ => rfl, fun _ => rfl, fun _ => rfl⟩ gs (fun g => decide (g.Name = n)) (fun x _ => v_glueNamed1 x n) (by omega)) (by simp -implicitDefEqProofs (disch := omega) only [go_sem, ↓reduceIte, Nat.reduceAdd, Nat.reduceMul, Nat.reduceLeDiff, reduceCtorEq, Nat.reduceEqDiff, Nat.reduceBEq, Nat.reduceBNe, Option.some.injEq, deep, TD.rows, immLL_rI, immLL_rB8, immLL_rS, immLL_rBo, immLL_rII]; exact rfl) (by repeat (first | exact leL_nil | refine leL_cons ?_ ?_ | exact le_of_eq rfl | exact le_iptrN (leL_of_eq rfl) | refine le_agg ?_ | exact le_slf rfl (TD.rows _ _ _) | refine le_iptr ?_ | refine le_fn ?_ ?_)) (by first | exact .inl rfl | exact .inr rfl | exact .inl (by simp only [D.noImm, noImmL, Bool.and_true, Bool.true_and, TD.nims, TD.nim, nim_rI, nim_rB8, nim_rBo, nim_rS])) ?_
  simp -implicitDefEqProofs (disch := omega) only [go_sem, ↓reduceIte, Nat.reduceAdd, Nat.reduceMul, Nat.reduceLeDiff, reduceCtorEq, Nat.reduceEqDiff, Nat.reduceBEq, Nat.reduceBNe, Option.some.injEq]
  have h1 := vIdx_ge (fun x : Glue => decide (x.Name = n)) gs
  have h2 := vIdx_lt (fun x : Glue => decide (x.Name = n)) gs
  simp -implicitDefEqProofs (disch := omega) only [go_sem, ↓reduceIte, Nat.reduceAdd, Nat.reduceMul, Nat.reduceLeDiff, reduceCtorEq, Nat.reduceEqDiff, Nat.reduceBEq, Nat.reduceBNe, Option.some.injEq , wrI]
  rfl
def code_impl_TileSet_tileNamed_1 : VCode := (.seq (.ops [
  ⟨(some 2), none, (.box (.tmp 0))⟩,
  ⟨(some 3), none, (.asg (.const (.bool false)))⟩]) (.seq (.ops [
  ⟨(some 4), none, (.fa 0 (.tmp 2))⟩,
  ⟨(some 5), none, (.load 1 false (.tmp 4))⟩,
  ⟨(some 6), none, (.load 1 false (.tmp 1))⟩,
  ⟨(some 7), none, (.bin .eql (.tmp 5) (.tmp 6))⟩,
  ⟨(some 3), none, (.asg (.tmp 7))⟩]) .ret))
theorem law_impl_TileSet_tileNamed_1 {a0 a1 d : D} (h : code_impl_TileSet_tileNamed_1.wp (CT Try.prog NoG) (endQ [(.t 3)] d) [a0, a1, .undef, .undef, .undef, .undef, .undef, .undef]) : Contract Try.prog NoG 104 [a0, a1] d :=
  contract_of noG Try.func104 (fun us W => by kernel_rfl) (c := Try.f104.body.getD .skip) (ms := []) (ms' := []) (by kernel_rfl) (by kernel_rfl) (by kernel_rfl) h
def code_impl_TileSet_tileNamed : VCode := (.seq (.ops [
  ⟨(some 2), none, (.box (.tmp 0))⟩,
  ⟨(some 3), none, (.box (.tmp 1))⟩,
  ⟨(some 4), none, (.asg (.const (.int .i64 0)))⟩]) (.seq (.ops [
  ⟨(some 5), none, (.fa 1 (.tmp 2))⟩,
  ⟨(some 6), none, (.load 1 false (.tmp 5))⟩,
  ⟨(some 7), none, (.mkf 104 [] [(.tmp 3)])⟩,
  ⟨(some 8), none, (.callX 69 [(.tmp 6), (.tmp 7)])⟩,
  ⟨(some 4), none, (.asg (.tmp 8))⟩]) .ret))
theorem law_impl_TileSet_tileNamed {a0 a1 d : D} (h : code_impl_TileSet_tileNamed.wp (CT Try.prog NoG) (endQ [(.t 4)] d) [a0, a1, .undef, .undef, .undef, .undef, .undef, .undef, .undef]) : Contract Try.prog NoG 75 [a0, a1] d :=
  contract_of noG Try.func75 (fun us W => by kernel_rfl) (c := Try.f75.body.getD .skip) (ms := []) (ms' := []) (by kernel_rfl) (by kernel_rfl) (by kernel_rfl) h
theorem v_tileNamed1 (g : Tile) (n : ByteArray) : Contract Try.prog NoG 104 [.agg (Tile.td.d false g), .iptr [.v (.string n)] 0] (.v (.bool (decide (g.Name = n)))) := by
  rw [Tile.td_d]
  refine law_impl_TileSet_tileNamed_1 ?_
  unfold code_impl_TileSet_tileNamed_1
  simp -implicitDefEqProofs (disch := omega) only [go_sem, ↓reduceIte, Nat.reduceAdd, Nat.reduceMul, Nat.reduceLeDiff, reduceCtorEq, Nat.reduceEqDiff, Nat.reduceBEq, Nat.reduceBNe, Option.some.injEq]
theorem v_tileNamed (ts : List Tile) (gs : List Glue) (n : ByteArray) (hg : ts.length ≤ 1048576) : Contract Try.prog NoG 75 [.agg [.sl false 2 (gs.map (Glue.td.d false)), .sl false 2 (ts.map (Tile.td.d false))], .v (.string n)] (.v (.int .i64 (tIdx ts n))) := by
  refine law_impl_TileSet_tileNamed ?_
  unfold code_impl_TileSet_tileNamed
  simp -implicitDefEqProofs (disch := omega) only [go_sem, ↓reduceIte, Nat.reduceAdd, Nat.reduceMul, Nat.reduceLeDiff, reduceCtorEq, Nat.reduceEqDiff, Nat.reduceBEq, Nat.reduceBNe, Option.some.injEq]
  refine call_leA (v_IndexFunc_Tile _ [.iptr [.v (.string n)] 0] ⟨rfl, fun _ => rfl, fun _ => rfl, fun _ => rfl⟩ ts (fun g => decide (g.Name = n)) (fun x _ => v_tileNamed1 x n) (by omega)) (by simp -implicitDefEqProofs (disch := omega) only [go_sem, ↓reduceIte, Nat.reduceAdd, Nat.reduceMul, Nat.reduceLeDiff, reduceCtorEq, Nat.reduceEqDiff, Nat.reduceBEq, Nat.reduceBNe, Option.some.injEq, deep, TD.rows, immLL_rI, immLL_rB8, immLL_rS, immLL_rBo, immLL_rII]; exact rfl) (by repeat (first | exact leL_nil | refine leL_cons ?_ ?_ | exact le_of_eq rfl | exact le_iptrN (leL_of_eq rfl) | refine le_agg ?_ | exact le_slf rfl (TD.rows _ _ _) | refine le_iptr ?_ | refine le_fn ?_ ?_)) (by first | exact .inl rfl | exact .inr rfl | exact .inl (by simp only [D.noImm, noImmL, Bool.and_true, Bool.true_and, TD.nims, TD.nim, nim_rI, nim_rB8, nim_rBo, nim_rS])) ?_
  simp -implicitDefEqProofs (disch := omega) only [go_sem, ↓reduceIte, Nat.reduceAdd, Nat.reduceMul, Nat.reduceLeDiff, reduceCtorEq, Nat.reduceEqDiff, Nat.reduceBEq, Nat.reduceBNe, Option.some.injEq]
  rfl
abbrev mk_impl_TileSet_translated_0 : List Bool := [true, true, true, false, false, false, true, false, true, true, false, false, false, false, false, true, true, true, true, true, true, true, true, true, true, true, true, true, true, true, true, true, true, true, true]
abbrev mk_impl_TileSet_translated_1 : List Bool := [false, false, false, false, false, false, false, false, false, false, false, false, false, false, false, false, false, false, false, false, false, true, true, true, true, true, true, true, true, true, true, true]
abbrev mk_impl_TileSet_translated_2 : List Bool := [false, false, false, false, false, false, false, false, false, false, false, false, false, false, false, false, false, false, false, false, false, true, true, true, false, true, true, true, true, true, true, true]
abbrev mk_impl_TileSet_translated_3 : List Bool := [false, false, false, false, false, false, false, false, false, false, false, false, false, false, false, false, false, false, false, false, false, true, true, true, true, true, false, true, true, true, true, true]
abbrev mk_impl_TileSet_translated_4 : List Bool := [false, false, false, false, false, false, false, false, false, false, false, false, false, false, false, false, false, false, false, false, false, true, true, true, false, false, false, false, true, true, true, true]
abbrev mk_impl_TileSet_translated_5 : List Bool := [false, false, false, false, false, false, false, false, false, false, false, false, false, false, false, false, false, false, false, false, false, true, true, true, false, false, false, false, false, true, true, true]
abbrev mk_impl_TileSet_translated_6 : List Bool := [false, false, false, false, false, false, false, false, false, false, false, false, false, false, false, false, false, false, false, false, false, true, true, true, false, false, false, false, false, false, true, true]
abbrev mk_impl_TileSet_translated_7 : List Bool := [false, false, false, false, false, false, false, false, false, false, false, false, false, false, false, false, false, false, false, false, false, true, true, false, false, false, false, false, false, false, false, true]
def code_impl_TileSet_translated : VCode := (.seq (.ops [
  ⟨(some 3), none, (.box (.tmp 0))⟩,
  ⟨(some 4), none, (.box (.tmp 1))⟩,
  ⟨(some 5), none, (.box (.tmp 2))⟩,
  ⟨(some 6), none, (.asg (.const (.slice none 0 0)))⟩]) (.seq (.ops [
  ⟨(some 10), none, (.mks 1 8 [(.int .i64 0)] (.const (.int .i64 4)) (.const (.int .i64 4)))⟩,
  ⟨(some 7), none, (.asg (.tmp 10))⟩]) (.seq (.seq (.ops [
  ⟨(some 11), none, (.fa 1 (.tmp 4))⟩,
  ⟨(some 12), none, (.load 1 false (.tmp 11))⟩,
  ⟨(some 13), none, (.len (.tmp 12))⟩,
  ⟨(some 14), none, (.mv (.const (.int .i64 0)))⟩]) (.block 0 (.loop mk_impl_TileSet_translated_0 (.seq (.ops [
  ⟨(some 15), none, (.bin .lss (.tmp 14) (.tmp 13))⟩]) (.seq (.cond (.tmp 15) .skip (.exit 0)) (.seq (.block 1 (.seq (.ops [
  ⟨(some 16), none, (.mv (.tmp 14))⟩,
  ⟨(some 17), none, (.ia 1 (.tmp 12) (.tmp 14))⟩,
  ⟨(some 18), none, (.load 1 false (.tmp 17))⟩,
  ⟨(some 8), none, (.asg (.tmp 16))⟩,
  ⟨(some 9), none, (.asg (.tmp 18))⟩]) (.seq (.ops [
  ⟨(some 19), none, (.mv (.tmp 9))⟩,
  ⟨(some 20), none, (.bin .gtr (.tmp 19) (.const (.int .i64 0)))⟩]) (.cond (.tmp 20) (.draw mk_impl_TileSet_translated_1 [] [⟨0, mk_impl_TileSet_translated_1, [], ⟨(some 21), none, (.mv (.tmp 7))⟩⟩, ⟨1, mk_impl_TileSet_translated_1, [], ⟨(some 22), none, (.mv (.tmp 8))⟩⟩, ⟨2, mk_impl_TileSet_translated_1, [], ⟨(some 23), none, (.load 2 true (.tmp 3))⟩⟩, ⟨3, mk_impl_TileSet_translated_1, [], ⟨(some 24), none, (.fa 0 (.tmp 5))⟩⟩, ⟨4, mk_impl_TileSet_translated_2, [], ⟨(some 25), none, (.load 1 false (.tmp 24))⟩⟩, ⟨5, mk_impl_TileSet_translated_1, [], ⟨(some 26), none, (.mv (.tmp 9))⟩⟩, ⟨6, mk_impl_TileSet_translated_3, [], ⟨(some 27), none, (.bin .sub (.tmp 26) (.const (.int .i64 1)))⟩⟩, ⟨7, mk_impl_TileSet_translated_4, [], ⟨(some 28), none, (.ia 2 (.tmp 25) (.tmp 27))⟩⟩, ⟨8, mk_impl_TileSet_translated_5, [], ⟨(some 29), none, (.fa 0 (.tmp 28))⟩⟩, ⟨9, mk_impl_TileSet_translated_6, [], ⟨(some 30), none, (.load 1 false (.tmp 29))⟩⟩, ⟨10, mk_impl_TileSet_translated_7, [], ⟨(some 31), none, (.call 74 [(.tmp 23), (.tmp 30)])⟩⟩] [⟨(some 32), none, (.ia 1 (.tmp 21) (.tmp 22))⟩, ⟨none, none, (.store 1 (.tmp 32) (.tmp 31))⟩]) .skip)))) (.ops [
  ⟨(some 33), none, (.bin .add (.tmp 14) (.const (.int .i64 1)))⟩,
  ⟨(some 14), none, (.mv (.tmp 33))⟩]))))))) (.seq (.ops [
  ⟨(some 34), none, (.mv (.tmp 7))⟩,
  ⟨(some 6), none, (.asg (.tmp 34))⟩]) .ret))))
theorem law_impl_TileSet_translated {a0 a1 a2 d : D} (h : code_impl_TileSet_translated.wp (CT Try.prog NoG) (endQ [(.t 6)] d) [a0, a1, a2, .undef, .undef, .undef, .undef, .undef, .undef, .undef, .undef, .undef, .undef, .undef, .undef, .undef, .undef, .undef, .undef, .undef, .undef, .undef, .undef, .undef, .undef, .undef, .undef, .undef, .undef, .undef, .undef, .undef, .undef, .undef, .undef]) : Contract Try.prog NoG 68 [a0, a1, a2] d :=
  contract_of noG Try.func68 (fun us W => by kernel_rfl) (c := Try.f68.body.getD .skip) (ms := [mk_impl_TileSet_translated_0]) (ms' := []) (by kernel_rfl) (by kernel_rfl) (by kernel_rfl) h
set_option maxHeartbeats 2000000 in
theorem v_translated (gs : List Glue) (ts : List Tile) (t : Tile) (b : TileSet) (hg : gs.length ≤ 1048576) (h4 : t.Sides.length = 4) (hs : ∀ x, x ∈ t.Sides → 0 ≤ x ∧ x ≤ b.Glues.length) (hb : b.Glues.length ≤ 1048576) : Contract Try.prog NoG 68 [.agg [.sl false 2 (gs.map (Glue.td.d false)), .sl false 2 (ts.map (Tile.td.d false))], .agg (Tile.td.d false t), .agg (TileSet.td.d false b)] (.sl true 1 ((mgS gs b.Glues t.Sides).map rI)) := by
  rw [Tile.td_d, TileSet.td_d]
  refine law_impl_TileSet_translated ?_
  unfold code_impl_TileSet_translated
  simp -implicitDefEqProofs (disch := omega) only [go_sem, ↓reduceIte, Nat.reduceAdd, Nat.reduceMul, Nat.reduceLeDiff, reduceCtorEq, Nat.reduceEqDiff, Nat.reduceBEq, Nat.reduceBNe, Option.some.injEq , List.length_map]
  repeat (refine And.intro (by first | omega | decide) ?_)
  refine loop_ov (by simp -implicitDefEqProofs (disch := omega) only [go_sem, ↓reduceIte, Nat.reduceAdd, Nat.reduceMul, Nat.reduceLeDiff, reduceCtorEq, Nat.reduceEqDiff, Nat.reduceBEq, Nat.reduceBNe, Option.some.injEq]; exact rfl) (fun i : Nat => [(14, .v (.int .i64 (i : Nat))), (7, .sl true 1 ((mgP gs b.Glues t.Sides i).map rI))]) (fun _ => by simp only [ovr_nil, ovr_cons, List.set_cons_zero, List.set_cons_succ]; exact rfl) (fun i : Nat => i ≤ t.Sides.length) (fun i : Nat => t.Sides.length - i) (0) (by rw [mgP_zero, h4]; (try simp -implicitDefEqProofs only [nleL_cc, nleL_nn, nle_self, nle_boxs, nle_aggs, nle_nils, and_self, and_true, true_and]) <;> repeat' (first | exact nle_of_eq rfl | exact nle_nil | apply And.intro | apply nle_sl | apply nleLL_cons | apply nleL_cons | exact nleL_nil | exact nleLL_nil | apply nle_box | apply nle_agg)) (Nat.zero_le _) ?_
  intro i hi
  simp -implicitDefEqProofs (disch := omega) only [go_sem, ↓reduceIte, Nat.reduceAdd, Nat.reduceMul, Nat.reduceLeDiff, reduceCtorEq, Nat.reduceEqDiff, Nat.reduceBEq, Nat.reduceBNe, Option.some.injEq , List.length_map, Int.toNat_natCast, Int.ofNat_lt, Int.natCast_nonneg, List.getElem?_map, Option.map_some]
  refine cond_split ?_ ?_ <;> intro hlt
  · have hlt : i < t.Sides.length := by simpa using hlt
    have e1 := List.getElem?_eq_getElem hlt
    have hsi := hs _ (List.getElem_mem hlt)
    simp -implicitDefEqProofs (disch := omega) only [go_sem, ↓reduceIte, Nat.reduceAdd, Nat.reduceMul, Nat.reduceLeDiff, reduceCtorEq, Nat.reduceEqDiff, Nat.reduceBEq, Nat.reduceBNe, Option.some.injEq , List.length_map, Int.toNat_natCast, Int.ofNat_lt, Int.natCast_nonneg, List.getElem?_map, Option.map_some, hlt, e1]
    refine cond_split ?_ ?_ <;> intro h0
    · have h0 : 0 < t.Sides[i] := by simpa using h0
      obtain ⟨n, hn⟩ : ∃ n : Nat, t.Sides[i] - 1 = (n : Int) := ⟨(t.Sides[i] - 1).toNat, by omega⟩
      have hnl : n < b.Glues.length := by omega
      have e2 := List.getElem?_eq_getElem hnl
      have e3 := List.getElem?_eq_getElem (l := mgP gs b.Glues t.Sides i) (i := i) (by rw [mgP_len _ _ hi]; exact hlt)
      have hw : IntKind.i64.wrap (t.Sides[i] - 1) = (n : Int) := by rw [wrI (by omega) (by omega)]; exact hn
      have hv : gIdx gs b.Glues[n].Name + 1 = mgN gs b.Glues t.Sides[i] := by
        unfold mgN
        rw [if_pos h0, hn, Int.toNat_natCast, List.getD_eq_getElem?_getD, e2]
        rfl
      have hset : ((mgP gs b.Glues t.Sides i).map rI).set i [.v (.int .i64 (mgN gs b.Glues t.Sides[i]))] = (mgP gs b.Glues t.Sides (i + 1)).map rI := by
        rw [← mgP_set gs b.Glues hlt, List.map_set]
      simp -implicitDefEqProofs (disch := omega) only [go_sem, ↓reduceIte, Nat.reduceAdd, Nat.reduceMul, Nat.reduceLeDiff, reduceCtorEq, Nat.reduceEqDiff, Nat.reduceBEq, Nat.reduceBNe, Option.some.injEq , List.length_map, Int.toNat_natCast, Int.ofNat_lt, Int.natCast_nonneg, List.getElem?_map, Option.map_some, hw, hnl, e2, Glue.td_d]
      refine call_leNA (v_glueNamed gs ts b.Glues[n].Name hg) (by simp -implicitDefEqProofs (disch := omega) only [go_sem, ↓reduceIte, Nat.reduceAdd, Nat.reduceMul, Nat.reduceLeDiff, reduceCtorEq, Nat.reduceEqDiff, Nat.reduceBEq, Nat.reduceBNe, Option.some.injEq, deep, TD.rows, immLL_rI, immLL_rB8, immLL_rS, immLL_rBo, immLL_rII, List.length_map, Int.toNat_natCast, Int.ofNat_lt, Int.natCast_nonneg, List.getElem?_map, Option.map_some, mgP_len, hlt, e3, hv, hset, wrN]; exact rfl) (by repeat (first | exact leL_nil | refine leL_cons ?_ ?_ | exact le_of_eq rfl | exact le_iptrN (leL_of_eq rfl) | refine le_agg ?_ | exact le_slf rfl (TD.rows _ _ _) | refine le_iptr ?_ | refine le_fn ?_ ?_)) (by first | exact .inl rfl | exact .inr rfl | exact .inl (by simp only [D.noImm, noImmL, Bool.and_true, Bool.true_and, TD.nims, TD.nim, nim_rI, nim_rB8, nim_rBo, nim_rS])) ?_
      simp -implicitDefEqProofs (disch := omega) only [go_sem, ↓reduceIte, Nat.reduceAdd, Nat.reduceMul, Nat.reduceLeDiff, reduceCtorEq, Nat.reduceEqDiff, Nat.reduceBEq, Nat.reduceBNe, Option.some.injEq , List.length_map, Int.toNat_natCast, Int.ofNat_lt, Int.natCast_nonneg, List.getElem?_map, Option.map_some, mgP_len, hlt, e3, hv, hset, wrN]
      repeat (refine And.intro (by omega) ?_)
      exact ⟨i + 1, by omega, hlt, by (try simp -implicitDefEqProofs only [nleL_cc, nleL_nn, nle_self, nle_boxs, nle_aggs, nle_nils, and_self, and_true, true_and]) <;> repeat' (first | exact nle_of_eq rfl | exact nle_nil | apply And.intro | apply nle_sl | apply nleLL_cons | apply nleL_cons | exact nleL_nil | exact nleLL_nil | apply nle_box | apply nle_agg)⟩
    · have h0 : ¬ 0 < t.Sides[i] := by simpa using h0
      simp -implicitDefEqProofs (disch := omega) only [go_sem, ↓reduceIte, Nat.reduceAdd, Nat.reduceMul, Nat.reduceLeDiff, reduceCtorEq, Nat.reduceEqDiff, Nat.reduceBEq, Nat.reduceBNe, Option.some.injEq , wrN]
      refine ⟨i + 1, by omega, hlt, ?_⟩
      rw [← mgP_skip gs b.Glues hlt h0]
      (try simp -implicitDefEqProofs only [nleL_cc, nleL_nn, nle_self, nle_boxs, nle_aggs, nle_nils, and_self, and_true, true_and]) <;> repeat' (first | exact nle_of_eq rfl | exact nle_nil | apply And.intro | apply nle_sl | apply nleLL_cons | apply nleL_cons | exact nleL_nil | exact nleLL_nil | apply nle_box | apply nle_agg)
  · have hge : i = t.Sides.length := by have : ¬ i < t.Sides.length := by simpa using hlt
                                        omega
    subst hge
    simp -implicitDefEqProofs (disch := omega) only [go_sem, ↓reduceIte, Nat.reduceAdd, Nat.reduceMul, Nat.reduceLeDiff, reduceCtorEq, Nat.reduceEqDiff, Nat.reduceBEq, Nat.reduceBNe, Option.some.injEq , mgP_end]
end Go.Proofs.Ytmgkmkbjmaapeaa
