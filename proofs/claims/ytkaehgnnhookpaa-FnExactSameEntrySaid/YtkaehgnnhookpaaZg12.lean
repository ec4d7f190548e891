/- Laws that the proof stands on. -/
import Derived.Test.YtkaehgnnhookpaaZg11
import Derived.Test.YtkaehgnnhookpaaProg
import Derived.Test.YtkaehgnnhookpaaZVCom
import Derived.Test.YtkaehgnnhookpaaZg7
set_option linter.all false
namespace Go.Proofs.Ytkaehgnnhookpaa
open Go.RowKit Go.V
attribute [local go_sem] List.getElem?_cons_succ List.getElem?_cons_zero List.set_cons_succ List.set_cons_zero List.map_cons List.map_nil List.length_cons List.length_nil List.all_cons List.all_nil List.drop_succ_cons List.drop_zero List.take_succ_cons List.take_zero List.flatMap_cons List.flatMap_nil List.cons_append List.nil_append List.append_nil List.headD_cons Value.oneCell' Bool.and_true Bool.true_and Bool.or_false Bool.false_or Bool.and_self Bool.not_true Bool.not_false and_true true_and beq_self_eq_true Bool.false_eq_true if_true if_false Nat.zero_add Nat.reduceAdd Nat.reduceMul Nat.reduceLeDiff Nat.le_refl Option.isSome_some Option.isSome_none not_true_eq_false not_false_eq_true ne_eq reduceCtorEq List.reverse_nil bne_self_eq_false Nat.reduceEqDiff List.isPrefixOf Bool.not_eq_true Bool.and_false Bool.false_and Bool.true_or Bool.or_true decide_true decide_false Nat.reduceBEq Nat.reduceBNe List.replicate_succ List.replicate_zero exists_eq_left' exists_eq_left Option.some.injEq or_false or_true true_or false_or Option.map_some Option.map_none mB Nat.reduceMod Nat.reduceDiv
set_option maxRecDepth 100000
def code_slices_Equal_impl_Glue_impl_Glue : VCode := (.seq (.ops [
  ⟨(some 4), none, (.asg (.const (.bool false)))⟩]) (.seq (.seq (.ops [
  ⟨(some 6), none, (.mv (.tmp 0))⟩,
  ⟨(some 7), none, (.len (.tmp 6))⟩,
  ⟨(some 8), none, (.mv (.tmp 1))⟩,
  ⟨(some 9), none, (.len (.tmp 8))⟩,
  ⟨(some 10), none, (.bin .neq (.tmp 7) (.tmp 9))⟩]) (.cond (.tmp 10) (.seq (.ops [
  ⟨(some 4), none, (.asg (.const (.bool false)))⟩]) .ret) .skip)) (.seq (.seq (.ops [
  ⟨(some 11), none, (.mv (.tmp 0))⟩,
  ⟨(some 12), none, (.len (.tmp 11))⟩,
  ⟨(some 13), none, (.mv (.const (.int .i64 0)))⟩]) (.block 0 (.loop (mB 26 67096572) (.seq (.ops [
  ⟨(some 14), none, (.bin .lss (.tmp 13) (.tmp 12))⟩]) (.seq (.cond (.tmp 14) .skip (.exit 0)) (.seq (.block 1 (.seq (.ops [
  ⟨(some 15), none, (.mv (.tmp 13))⟩,
  ⟨(some 5), none, (.asg (.tmp 15))⟩]) (.seq (.draw (mB 24 16711680) [] [⟨0, (mB 24 16711680), [], ⟨(some 16), none, (.mv (.tmp 0))⟩⟩, ⟨1, (mB 24 16711680), [], ⟨(some 17), none, (.mv (.tmp 5))⟩⟩, ⟨2, (mB 24 16515072), [], ⟨(some 18), none, (.ia 2 (.tmp 16) (.tmp 17))⟩⟩, ⟨3, (mB 24 16252928), [], ⟨(some 19), none, (.load 2 true (.tmp 18))⟩⟩, ⟨4, (mB 24 16711680), [], ⟨(some 20), none, (.mv (.tmp 1))⟩⟩, ⟨5, (mB 24 16711680), [], ⟨(some 21), none, (.mv (.tmp 5))⟩⟩, ⟨6, (mB 24 13565952), [], ⟨(some 22), none, (.ia 2 (.tmp 20) (.tmp 21))⟩⟩, ⟨7, (mB 24 9371648), [], ⟨(some 23), none, (.load 2 true (.tmp 22))⟩⟩] [⟨(some 24), none, (.eqs true [2, 1] (.tmp 19) (.tmp 23))⟩]) (.cond (.tmp 24) (.seq (.ops [
  ⟨(some 4), none, (.asg (.const (.bool false)))⟩]) .ret) .skip)))) (.ops [
  ⟨(some 25), none, (.bin .add (.tmp 13) (.const (.int .i64 1)))⟩,
  ⟨(some 13), none, (.mv (.tmp 25))⟩]))))))) (.seq (.ops [
  ⟨(some 4), none, (.asg (.const (.bool true)))⟩]) .ret))))
theorem law_slices_Equal_impl_Glue_impl_Glue {a0 a1 d : D} (h : code_slices_Equal_impl_Glue_impl_Glue.wp (CT Try.prog NoG) (endQ [(.t 4)] d) [a0, a1, .undef, .undef, .undef, .undef, .undef, .undef, .undef, .undef, .undef, .undef, .undef, .undef, .undef, .undef, .undef, .undef, .undef, .undef, .undef, .undef, .undef, .undef, .undef, .undef]) : Contract Try.prog NoG 53 [a0, a1] d :=
  contract_of noG Try.func53 (fun us W => by kernel_rfl) (c := Try.f53.body.getD .skip) (ms := [(mB 26 67096572)]) (ms' := []) (by kernel_rfl) (by kernel_rfl) (by kernel_rfl) h
theorem v_Equal_Glue (xs ys : List Glue) (hn : xs.length ≤ 1099511627776) : Contract Try.prog NoG 53 [.sl false 2 (xs.map (Glue.td.d false)), .sl false 2 (ys.map (Glue.td.d false))] (.v (.bool (decide (xs = ys)))) := by
  refine law_slices_Equal_impl_Glue_impl_Glue ?_; unfold code_slices_Equal_impl_Glue_impl_Glue; simp -implicitDefEqProofs (disch := omega) only [go_sem, ↓reduceIte , List.length_map]; refine cond_split ?_ ?_ <;> intro h
  · simp -implicitDefEqProofs (disch := omega) only [go_sem, ↓reduceIte]; have : xs ≠ ys := fun e => by subst e; simp at h
    simp [this]
  · have hl : xs.length = ys.length := (by simp at h; omega); simp -implicitDefEqProofs (disch := omega) only [go_sem, ↓reduceIte]; refine loop_st (fun i : Nat => [.sl false 2 (xs.map (Glue.td.d false)), .sl false 2 (ys.map (Glue.td.d false)), .undef, .undef, .undef, .undef, .undef, .undef, .undef, .undef, .undef, .undef, .v (.int .i64 xs.length), .v (.int .i64 i), .undef, .undef, .undef, .undef, .undef, .undef, .undef, .undef, .undef, .undef, .undef, .undef]) (fun i => i ≤ xs.length ∧ xs.take i = ys.take i) (fun i => xs.length - i) 0 ?_ ⟨Nat.zero_le _, rfl⟩ ?_
    · simp -implicitDefEqProofs (disch := omega) only [go_sem, ↓reduceIte , List.length_map]
      (try simp -implicitDefEqProofs only [nleL_cc, nleL_nn, nle_self, nle_boxs, nle_aggs, nle_nils, and_self, and_true, true_and]) <;> repeat' (first | exact nle_of_eq rfl | exact nle_nil | apply And.intro | apply nle_sl | apply nleLL_cons | apply nleL_cons | exact nleL_nil | exact nleLL_nil | apply nle_box | apply nle_agg)
    rintro i ⟨hi, ht⟩; simp -implicitDefEqProofs (disch := omega) only [go_sem, ↓reduceIte , List.length_map, Int.toNat_natCast, Int.ofNat_lt, Int.natCast_nonneg, List.getElem?_map, Option.map_some]; refine cond_split ?_ ?_ <;> intro hlt
    · have h1 : i < xs.length := (by simpa using hlt); have h2 : i < ys.length := (by omega); have e1 := List.getElem?_eq_getElem h1; have e2 := List.getElem?_eq_getElem h2; simp -implicitDefEqProofs (disch := omega) only [go_sem, ↓reduceIte , List.length_map, Int.toNat_natCast, Int.ofNat_lt, Int.natCast_nonneg, List.getElem?_map, Option.map_some, h1, h2, e1, e2, Glue.td_d, Glue.eq_dec]; refine cond_split ?_ ?_ <;> intro hc
      · simp -implicitDefEqProofs (disch := omega) only [go_sem, ↓reduceIte]; have hne : xs[i] ≠ ys[i] := by simpa using hc
        have : xs ≠ ys := fun e => hne (by subst e; rfl); simp [this]
      · simp -implicitDefEqProofs (disch := omega) only [go_sem, ↓reduceIte , wrN]; have heq : xs[i] = ys[i] := by simpa using hc
        refine ⟨i + 1, by omega, ⟨h1, ?_⟩, by (try simp -implicitDefEqProofs only [nleL_cc, nleL_nn, nle_self, nle_boxs, nle_aggs, nle_nils, and_self, and_true, true_and]) <;> repeat' (first | exact nle_of_eq rfl | exact nle_nil | apply And.intro | apply nle_sl | apply nleLL_cons | apply nleL_cons | exact nleL_nil | exact nleLL_nil | apply nle_box | apply nle_agg)⟩; rw [List.take_succ_eq_append_getElem h1, List.take_succ_eq_append_getElem h2, ht, heq]
    · have hge : ¬ i < xs.length := (by simpa using hlt); simp -implicitDefEqProofs (disch := omega) only [go_sem, ↓reduceIte]; have : xs = ys := (by rw [List.take_of_length_le (by omega), List.take_of_length_le (by omega)] at ht; exact ht); simp [this]
def code_slices_EqualFunc_impl_Tile_impl_Tile_impl_Tile_impl_Tile : VCode := (.seq (.ops [
  ⟨(some 6), none, (.asg (.const (.bool false)))⟩]) (.seq (.seq (.ops [
  ⟨(some 10), none, (.mv (.tmp 0))⟩,
  ⟨(some 11), none, (.len (.tmp 10))⟩,
  ⟨(some 12), none, (.mv (.tmp 1))⟩,
  ⟨(some 13), none, (.len (.tmp 12))⟩,
  ⟨(some 14), none, (.bin .neq (.tmp 11) (.tmp 13))⟩]) (.cond (.tmp 14) (.seq (.ops [
  ⟨(some 6), none, (.asg (.const (.bool false)))⟩]) .ret) .skip)) (.seq (.seq (.ops [
  ⟨(some 15), none, (.mv (.tmp 0))⟩,
  ⟨(some 16), none, (.len (.tmp 15))⟩,
  ⟨(some 17), none, (.mv (.const (.int .i64 0)))⟩]) (.block 0 (.loop (mB 32 4294737913) (.seq (.ops [
  ⟨(some 18), none, (.bin .lss (.tmp 17) (.tmp 16))⟩]) (.seq (.cond (.tmp 18) .skip (.exit 0)) (.seq (.block 1 (.seq (.ops [
  ⟨(some 19), none, (.mv (.tmp 17))⟩,
  ⟨(some 20), none, (.ia 2 (.tmp 15) (.tmp 17))⟩,
  ⟨(some 21), none, (.load 2 true (.tmp 20))⟩,
  ⟨(some 8), none, (.alloc [(.string ⟨⟨[]⟩⟩), (.slice none 0 0)])⟩,
  ⟨(some 7), none, (.asg (.tmp 19))⟩,
  ⟨none, none, (.store 2 (.tmp 8) (.tmp 21))⟩]) (.seq (.ops [
  ⟨(some 22), none, (.mv (.tmp 1))⟩,
  ⟨(some 23), none, (.mv (.tmp 7))⟩,
  ⟨(some 24), none, (.ia 2 (.tmp 22) (.tmp 23))⟩,
  ⟨(some 25), none, (.load 2 true (.tmp 24))⟩,
  ⟨(some 9), none, (.alloc [(.string ⟨⟨[]⟩⟩), (.slice none 0 0)])⟩,
  ⟨none, none, (.store 2 (.tmp 9) (.tmp 25))⟩]) (.seq (.ops [
  ⟨(some 26), none, (.mv (.tmp 2))⟩,
  ⟨(some 27), none, (.load 2 true (.tmp 8))⟩,
  ⟨(some 28), none, (.load 2 true (.tmp 9))⟩,
  ⟨(some 29), none, (.callvX (.tmp 26) [(.tmp 27), (.tmp 28)])⟩,
  ⟨(some 30), none, (.un .not (.tmp 29))⟩]) (.cond (.tmp 30) (.seq (.ops [
  ⟨(some 6), none, (.asg (.const (.bool false)))⟩]) .ret) .skip))))) (.ops [
  ⟨(some 31), none, (.bin .add (.tmp 17) (.const (.int .i64 1)))⟩,
  ⟨(some 17), none, (.mv (.tmp 31))⟩]))))))) (.seq (.ops [
  ⟨(some 6), none, (.asg (.const (.bool true)))⟩]) .ret))))
theorem law_slices_EqualFunc_impl_Tile_impl_Tile_impl_Tile_impl_Tile {a0 a1 a2 d : D} (h : code_slices_EqualFunc_impl_Tile_impl_Tile_impl_Tile_impl_Tile.wp (CT Try.prog NoG) (endQ [(.t 6)] d) [a0, a1, a2, .undef, .undef, .undef, .undef, .undef, .undef, .undef, .undef, .undef, .undef, .undef, .undef, .undef, .undef, .undef, .undef, .undef, .undef, .undef, .undef, .undef, .undef, .undef, .undef, .undef, .undef, .undef, .undef, .undef]) : Contract Try.prog NoG 54 [a0, a1, a2] d :=
  contract_of noG Try.func54 (fun us W => by kernel_rfl) (c := Try.f54.body.getD .skip) (ms := [(mB 32 4294737913)]) (ms' := []) (by kernel_rfl) (by kernel_rfl) (by kernel_rfl) h
theorem v_EqualFunc_Tile (f : FuncId) (xs ys : List Tile) (hc : ∀ x y, x ∈ xs → y ∈ ys → Contract Try.prog NoG f [.agg (Tile.td.d false x), .agg (Tile.td.d false y)] (.v (.bool (decide (x = y))))) (hn : xs.length ≤ 1099511627776) : Contract Try.prog NoG 54 [.sl false 2 (xs.map (Tile.td.d false)), .sl false 2 (ys.map (Tile.td.d false)), .fn f [] []] (.v (.bool (decide (xs = ys)))) := by
  refine law_slices_EqualFunc_impl_Tile_impl_Tile_impl_Tile_impl_Tile ?_; unfold code_slices_EqualFunc_impl_Tile_impl_Tile_impl_Tile_impl_Tile; simp -implicitDefEqProofs (disch := omega) only [go_sem, ↓reduceIte , List.length_map]; refine cond_split ?_ ?_ <;> intro h
  · simp -implicitDefEqProofs (disch := omega) only [go_sem, ↓reduceIte]; have : xs ≠ ys := fun e => by subst e; simp at h
    simp [this]
  · have hl : xs.length = ys.length := (by simp at h; omega); simp -implicitDefEqProofs (disch := omega) only [go_sem, ↓reduceIte]; refine loop_st (fun i : Nat => [.undef, .sl false 2 (ys.map (Tile.td.d false)), .fn f [] [], .undef, .undef, .undef, .undef, .undef, .undef, .undef, .undef, .undef, .undef, .undef, .undef, .sl false 2 (xs.map (Tile.td.d false)), .v (.int .i64 xs.length), .v (.int .i64 i), .undef, .undef, .undef, .undef, .undef, .undef, .undef, .undef, .undef, .undef, .undef, .undef, .undef, .undef]) (fun i => i ≤ xs.length ∧ xs.take i = ys.take i) (fun i => xs.length - i) 0 ?_ ⟨Nat.zero_le _, rfl⟩ ?_
    · simp -implicitDefEqProofs (disch := omega) only [go_sem, ↓reduceIte , List.length_map]
      (try simp -implicitDefEqProofs only [nleL_cc, nleL_nn, nle_self, nle_boxs, nle_aggs, nle_nils, and_self, and_true, true_and]) <;> repeat' (first | exact nle_of_eq rfl | exact nle_nil | apply And.intro | apply nle_sl | apply nleLL_cons | apply nleL_cons | exact nleL_nil | exact nleLL_nil | apply nle_box | apply nle_agg)
    rintro i ⟨hi, ht⟩; simp -implicitDefEqProofs (disch := omega) only [go_sem, ↓reduceIte , List.length_map, Int.toNat_natCast, Int.ofNat_lt, Int.natCast_nonneg, List.getElem?_map, Option.map_some]; refine cond_split ?_ ?_ <;> intro hlt
    · have h1 : i < xs.length := (by simpa using hlt); have h2 : i < ys.length := (by omega); have e1 := List.getElem?_eq_getElem h1; have e2 := List.getElem?_eq_getElem h2; simp -implicitDefEqProofs (disch := omega) only [go_sem, ↓reduceIte , List.length_map, Int.toNat_natCast, Int.ofNat_lt, Int.natCast_nonneg, List.getElem?_map, Option.map_some, h1, h2, e1, e2, Tile.td_d]; have hcx := hc _ _ (List.getElem_mem h1) (List.getElem_mem h2); rw [Tile.td_d, Tile.td_d] at hcx; refine callv_le (f := f) (first := []) (caps := []) rfl hcx ?_ (.inl rfl) ?_
      · refine leL_of_eq ?_; simp only [List.nil_append, List.cons_append, List.append_nil, List.map_cons, List.map_nil]; simp only [deep, raw, List.getElem?_cons_succ, List.getElem?_cons_zero, List.map_cons, List.map_nil, TD.rows, immLL_rI, immLL_rB8, immLL_rS, immLL_rBo]
      simp -implicitDefEqProofs (disch := omega) only [go_sem, ↓reduceIte]; refine cond_split ?_ ?_ <;> intro hp
      · simp -implicitDefEqProofs (disch := omega) only [go_sem, ↓reduceIte]; have hne : xs[i] ≠ ys[i] := by simpa using hp
        have : xs ≠ ys := fun e => hne (by subst e; rfl); simp [this]
      · simp -implicitDefEqProofs (disch := omega) only [go_sem, ↓reduceIte , wrN]; have heq : xs[i] = ys[i] := by simpa using hp
        refine ⟨i + 1, by omega, ⟨h1, ?_⟩, by (try simp -implicitDefEqProofs only [nleL_cc, nleL_nn, nle_self, nle_boxs, nle_aggs, nle_nils, and_self, and_true, true_and]) <;> repeat' (first | exact nle_of_eq rfl | exact nle_nil | apply And.intro | apply nle_sl | apply nleLL_cons | apply nleL_cons | exact nleL_nil | exact nleLL_nil | apply nle_box | apply nle_agg)⟩; rw [List.take_succ_eq_append_getElem h1, List.take_succ_eq_append_getElem h2, ht, heq]
    · have hge : ¬ i < xs.length := (by simpa using hlt); simp -implicitDefEqProofs (disch := omega) only [go_sem, ↓reduceIte]; have : xs = ys := (by rw [List.take_of_length_le (by omega), List.take_of_length_le (by omega)] at ht; exact ht); simp [this]
theorem tile_dec (a b : Tile) : (decide (a.Name = b.Name) && decide (a.Sides = b.Sides)) = decide (a = b) := by obtain ⟨a0, a1⟩ := a; obtain ⟨b0, b1⟩ := b; rw [Bool.eq_iff_iff]; simp
theorem set_dec (a b : TileSet) : (decide (a.Glues = b.Glues) && decide (a.Tiles = b.Tiles)) = decide (a = b) := by obtain ⟨a0, a1⟩ := a; obtain ⟨b0, b1⟩ := b; rw [Bool.eq_iff_iff]; simp
def setLen (a : TileSet) : Prop := a.Glues.length ≤ 1048576 ∧ a.Tiles.length ≤ 1048576 ∧ ∀ t, t ∈ a.Tiles → t.Sides.length ≤ 1048576
theorem setLen_of {a : TileSet} (h : TileSet.cnt a ≤ 1048576) : setLen a := by have h1 := cntL_len Glue.cnt a.Glues; have h2 := cntL_len Tile.cnt a.Tiles; have h3 : TileSet.cnt a = cntL Glue.cnt a.Glues + cntL Tile.cnt a.Tiles := rfl; refine ⟨by omega, by omega, fun t ht => ?_⟩; obtain ⟨k, hk, rfl⟩ := List.getElem_of_mem ht; have := cntL_mem Tile.cnt a.Tiles k hk; have h4 : Tile.cnt a.Tiles[k] = a.Tiles[k].Name.size + a.Tiles[k].Sides.length := rfl; omega
def code_spec_l00Same : VCode := (.seq (.ops [
  ⟨(some 4), none, (.asg (.const (.bool false)))⟩]) (.seq (.seq (.ops [
  ⟨(some 6), none, (.mv (.tmp 0))⟩,
  ⟨(some 7), none, (.len (.tmp 6))⟩,
  ⟨(some 8), none, (.mv (.tmp 1))⟩,
  ⟨(some 9), none, (.len (.tmp 8))⟩,
  ⟨(some 10), none, (.bin .neq (.tmp 7) (.tmp 9))⟩]) (.cond (.tmp 10) (.seq (.ops [
  ⟨(some 4), none, (.asg (.const (.bool false)))⟩]) .ret) .skip)) (.seq (.seq (.ops [
  ⟨(some 5), none, (.asg (.const (.int .i64 0)))⟩]) (.block 0 (.loop (mB 26 67108828) (.seq (.seq (.ops [
  ⟨(some 11), none, (.mv (.tmp 5))⟩,
  ⟨(some 12), none, (.mv (.tmp 0))⟩,
  ⟨(some 13), none, (.len (.tmp 12))⟩,
  ⟨(some 14), none, (.bin .lss (.tmp 11) (.tmp 13))⟩]) (.cond (.tmp 14) .skip (.exit 0))) (.seq (.block 1 (.seq (.draw (mB 25 33423360) [] [⟨0, (mB 25 33423360), [], ⟨(some 17), none, (.mv (.tmp 0))⟩⟩, ⟨1, (mB 25 33423360), [], ⟨(some 18), none, (.mv (.tmp 5))⟩⟩, ⟨2, (mB 25 33030144), [], ⟨(some 19), none, (.ia 1 (.tmp 17) (.tmp 18))⟩⟩, ⟨3, (mB 25 32505856), [], ⟨(some 20), none, (.load 1 false (.tmp 19))⟩⟩, ⟨4, (mB 25 33423360), [], ⟨(some 21), none, (.mv (.tmp 1))⟩⟩, ⟨5, (mB 25 33423360), [], ⟨(some 22), none, (.mv (.tmp 5))⟩⟩, ⟨6, (mB 25 27131904), [], ⟨(some 23), none, (.ia 1 (.tmp 21) (.tmp 22))⟩⟩, ⟨7, (mB 25 18743296), [], ⟨(some 24), none, (.load 1 false (.tmp 23))⟩⟩] [⟨(some 25), none, (.bin .neq (.tmp 20) (.tmp 24))⟩]) (.cond (.tmp 25) (.seq (.ops [
  ⟨(some 4), none, (.asg (.const (.bool false)))⟩]) .ret) .skip))) (.ops [
  ⟨(some 15), none, (.mv (.tmp 5))⟩,
  ⟨(some 16), none, (.bin .add (.tmp 15) (.const (.int .i64 1)))⟩,
  ⟨(some 5), none, (.asg (.tmp 16))⟩])))))) (.seq (.ops [
  ⟨(some 4), none, (.asg (.const (.bool true)))⟩]) .ret))))
theorem law_spec_l00Same {a0 a1 d : D} (h : code_spec_l00Same.wp (CT Try.prog NoG) (endQ [(.t 4)] d) [a0, a1, .undef, .undef, .undef, .undef, .undef, .undef, .undef, .undef, .undef, .undef, .undef, .undef, .undef, .undef, .undef, .undef, .undef, .undef, .undef, .undef, .undef, .undef, .undef, .undef]) : Contract Try.prog NoG 31 [a0, a1] d :=
  contract_of noG Try.func31 (fun us W => by kernel_rfl) (c := Try.f31.body.getD .skip) (ms := [(mB 26 67108828)]) (ms' := []) (by kernel_rfl) (by kernel_rfl) (by kernel_rfl) h
theorem v_l00Same (xs ys : List Int) (hl : xs.length ≤ 1048576) : Contract Try.prog NoG 31 [.sl false 1 (xs.map rI), .sl false 1 (ys.map rI)] (.v (.bool (decide (xs = ys)))) := by
  refine law_spec_l00Same ?_; unfold code_spec_l00Same; simp -implicitDefEqProofs (disch := omega) only [go_sem, ↓reduceIte , List.length_map]; refine cond_split ?_ ?_ <;> intro h
  · simp -implicitDefEqProofs (disch := omega) only [go_sem, ↓reduceIte]; have : xs ≠ ys := fun e => by subst e; simp at h
    simp [this]
  · have hl : xs.length = ys.length := (by simp at h; omega); simp -implicitDefEqProofs (disch := omega) only [go_sem, ↓reduceIte]; refine loop_st (fun i : Nat => [.sl false 1 (xs.map rI), .sl false 1 (ys.map rI), .undef, .undef, .undef, .v (.int .i64 i), .undef, .undef, .undef, .undef, .undef, .undef, .undef, .undef, .undef, .undef, .undef, .undef, .undef, .undef, .undef, .undef, .undef, .undef, .undef, .undef]) (fun i => i ≤ xs.length ∧ xs.take i = ys.take i) (fun i => xs.length - i) 0 (by (try simp -implicitDefEqProofs only [nleL_cc, nleL_nn, nle_self, nle_boxs, nle_aggs, nle_nils, and_self, and_true, true_and]) <;> repeat' (first | exact nle_of_eq rfl | exact nle_nil | apply And.intro | apply nle_sl | apply nleLL_cons | apply nleL_cons | exact nleL_nil | exact nleLL_nil | apply nle_box | apply nle_agg)) ⟨Nat.zero_le _, rfl⟩ ?_; rintro i ⟨hi, ht⟩; simp -implicitDefEqProofs (disch := omega) only [go_sem, ↓reduceIte , List.length_map, Int.toNat_natCast, Int.ofNat_lt, Int.natCast_nonneg, List.getElem?_map, Option.map_some]; refine cond_split ?_ ?_ <;> intro hlt
    · have h1 : i < xs.length := (by simpa using hlt); have h2 : i < ys.length := (by omega); have e1 := List.getElem?_eq_getElem h1; have e2 := List.getElem?_eq_getElem h2; simp -implicitDefEqProofs (disch := omega) only [go_sem, ↓reduceIte , List.length_map, Int.toNat_natCast, Int.ofNat_lt, Int.natCast_nonneg, List.getElem?_map, Option.map_some, h1, h2, e1, e2]; refine cond_split ?_ ?_ <;> intro hc
      · simp -implicitDefEqProofs (disch := omega) only [go_sem, ↓reduceIte]; have hne : xs[i] ≠ ys[i] := by simpa using hc
        have : xs ≠ ys := fun e => hne (by subst e; rfl); simp [this]
      · simp -implicitDefEqProofs (disch := omega) only [go_sem, ↓reduceIte , wrN]; have heq : xs[i] = ys[i] := by simpa using hc
        refine ⟨i + 1, by omega, ⟨h1, ?_⟩, by (try simp -implicitDefEqProofs only [nleL_cc, nleL_nn, nle_self, nle_boxs, nle_aggs, nle_nils, and_self, and_true, true_and]) <;> repeat' (first | exact nle_of_eq rfl | exact nle_nil | apply And.intro | apply nle_sl | apply nleLL_cons | apply nleL_cons | exact nleL_nil | exact nleLL_nil | apply nle_box | apply nle_agg)⟩; rw [List.take_succ_eq_append_getElem h1, List.take_succ_eq_append_getElem h2, ht, heq]
    · have hge : ¬ i < xs.length := (by simpa using hlt); simp -implicitDefEqProofs (disch := omega) only [go_sem, ↓reduceIte]; have : xs = ys := (by rw [List.take_of_length_le (by omega), List.take_of_length_le (by omega)] at ht; exact ht); simp [this]
def code_impl_sameTile : VCode := (.seq (.ops [
  ⟨(some 2), none, (.box (.tmp 0))⟩,
  ⟨(some 3), none, (.box (.tmp 1))⟩,
  ⟨(some 4), none, (.asg (.const (.bool false)))⟩]) (.seq (.ops [
  ⟨(some 5), none, (.fa 0 (.tmp 2))⟩,
  ⟨(some 6), none, (.load 1 false (.tmp 5))⟩,
  ⟨(some 7), none, (.fa 0 (.tmp 3))⟩,
  ⟨(some 8), none, (.load 1 false (.tmp 7))⟩,
  ⟨(some 9), none, (.bin .eql (.tmp 6) (.tmp 8))⟩,
  ⟨(some 10), none, (.mv (.tmp 9))⟩,
  ⟨(some 11), (some (10, true)), (.fa 1 (.tmp 2))⟩,
  ⟨(some 12), (some (10, true)), (.load 1 false (.tmp 11))⟩,
  ⟨(some 13), (some (10, true)), (.fa 1 (.tmp 3))⟩,
  ⟨(some 14), (some (10, true)), (.load 1 false (.tmp 13))⟩,
  ⟨(some 15), (some (10, true)), (.callX 40 [(.tmp 12), (.tmp 14)])⟩,
  ⟨(some 16), none, (.pick (.tmp 10) (.tmp 15) (.const (.bool false)))⟩,
  ⟨(some 4), none, (.asg (.tmp 16))⟩]) .ret))
theorem law_impl_sameTile {a0 a1 d : D} (h : code_impl_sameTile.wp (CT Try.prog NoG) (endQ [(.t 4)] d) [a0, a1, .undef, .undef, .undef, .undef, .undef, .undef, .undef, .undef, .undef, .undef, .undef, .undef, .undef, .undef, .undef]) : Contract Try.prog NoG 55 [a0, a1] d :=
  contract_of noG Try.func55 (fun us W => by kernel_rfl) (c := Try.f55.body.getD .skip) (ms := []) (ms' := []) (by kernel_rfl) (by kernel_rfl) (by kernel_rfl) h
theorem v_sameTile (a b : Tile) (ha : a.Sides.length ≤ 1048576) : Contract Try.prog NoG 55 [.agg (Tile.td.d false a), .agg (Tile.td.d false b)] (.v (.bool (decide (a = b)))) := by
  rw [Tile.td_d, Tile.td_d, ← tile_dec]; refine law_impl_sameTile ?_; unfold code_impl_sameTile; simp -implicitDefEqProofs (disch := omega) only [go_sem, ↓reduceIte]; refine guard_split ?_ ?_ <;> intro h
  · simp -implicitDefEqProofs (disch := omega) only [go_sem, ↓reduceIte , h]; refine call_leA (v_Equal_Int64 a.Sides b.Sides (by omega)) (by simp -implicitDefEqProofs (disch := omega) only [go_sem, ↓reduceIte, deep, TD.rows, immLL_rI, immLL_rB8, immLL_rS, immLL_rBo, immLL_rII, immLL_rIIt, h]; exact rfl) (by repeat (first | exact leL_nil | refine leL_cons ?_ ?_ | exact le_of_eq rfl | exact le_iptrN (leL_of_eq rfl) | refine le_agg ?_ | exact le_slf rfl (TD.rows ..) | refine le_iptr ?_ | refine le_fn ?_ ?_)) (by first | exact .inl rfl | exact .inr rfl | exact .inl (by simp only [D.noImm, noImmL, go_sem, TD.nims, TD.nim, nim_rI, nim_rB8, nim_rBo, nim_rS])) ?_; simp -implicitDefEqProofs (disch := omega) only [go_sem, ↓reduceIte , h]
  · simp -implicitDefEqProofs (disch := omega) only [go_sem, ↓reduceIte , h]
def code_impl_SameSet : VCode := (.seq (.ops [
  ⟨(some 2), none, (.box (.tmp 0))⟩,
  ⟨(some 3), none, (.box (.tmp 1))⟩,
  ⟨(some 4), none, (.asg (.const (.bool false)))⟩]) (.seq (.ops [
  ⟨(some 5), none, (.fa 0 (.tmp 2))⟩,
  ⟨(some 6), none, (.load 1 false (.tmp 5))⟩,
  ⟨(some 7), none, (.fa 0 (.tmp 3))⟩,
  ⟨(some 8), none, (.load 1 false (.tmp 7))⟩,
  ⟨(some 9), none, (.callX 53 [(.tmp 6), (.tmp 8)])⟩,
  ⟨(some 10), none, (.mv (.tmp 9))⟩,
  ⟨(some 11), (some (10, true)), (.fa 1 (.tmp 2))⟩,
  ⟨(some 12), (some (10, true)), (.load 1 false (.tmp 11))⟩,
  ⟨(some 13), (some (10, true)), (.fa 1 (.tmp 3))⟩,
  ⟨(some 14), (some (10, true)), (.load 1 false (.tmp 13))⟩,
  ⟨(some 15), (some (10, true)), (.callX 54 [(.tmp 12), (.tmp 14), (.func 55)])⟩,
  ⟨(some 16), none, (.pick (.tmp 10) (.tmp 15) (.const (.bool false)))⟩,
  ⟨(some 4), none, (.asg (.tmp 16))⟩]) .ret))
theorem law_impl_SameSet {a0 a1 d : D} (h : code_impl_SameSet.wp (CT Try.prog NoG) (endQ [(.t 4)] d) [a0, a1, .undef, .undef, .undef, .undef, .undef, .undef, .undef, .undef, .undef, .undef, .undef, .undef, .undef, .undef, .undef]) : Contract Try.prog NoG 37 [a0, a1] d :=
  contract_of noG Try.func37 (fun us W => by kernel_rfl) (c := Try.f37.body.getD .skip) (ms := []) (ms' := []) (by kernel_rfl) (by kernel_rfl) (by kernel_rfl) h
theorem v_SameSet (a b : TileSet) (ha : setLen a) : Contract Try.prog NoG 37 [.agg (TileSet.td.d false a), .agg (TileSet.td.d false b)] (.v (.bool (decide (a = b)))) := by
  rw [TileSet.td_d, TileSet.td_d, ← set_dec]; have h1 := ha.1; have h2 := ha.2.1; refine law_impl_SameSet ?_; unfold code_impl_SameSet; simp -implicitDefEqProofs (disch := omega) only [go_sem, ↓reduceIte]; refine call_leA (v_Equal_Glue a.Glues b.Glues (by omega)) (by simp -implicitDefEqProofs (disch := omega) only [go_sem, ↓reduceIte, deep, TD.rows, immLL_rI, immLL_rB8, immLL_rS, immLL_rBo, immLL_rII, immLL_rIIt]; exact rfl) (by repeat (first | exact leL_nil | refine leL_cons ?_ ?_ | exact le_of_eq rfl | exact le_iptrN (leL_of_eq rfl) | refine le_agg ?_ | exact le_slf rfl (TD.rows ..) | refine le_iptr ?_ | refine le_fn ?_ ?_)) (by first | exact .inl rfl | exact .inr rfl | exact .inl (by simp only [D.noImm, noImmL, go_sem, TD.nims, TD.nim, nim_rI, nim_rB8, nim_rBo, nim_rS])) ?_; simp -implicitDefEqProofs (disch := omega) only [go_sem, ↓reduceIte]; refine guard_split ?_ ?_ <;> intro h
  · simp -implicitDefEqProofs (disch := omega) only [go_sem, ↓reduceIte , h]; refine call_leA (v_EqualFunc_Tile _ a.Tiles b.Tiles (fun x y hx _ => v_sameTile x y (ha.2.2 x hx)) (by omega)) (by simp -implicitDefEqProofs (disch := omega) only [go_sem, ↓reduceIte, deep, TD.rows, immLL_rI, immLL_rB8, immLL_rS, immLL_rBo, immLL_rII, immLL_rIIt, h]; exact rfl) (by repeat (first | exact leL_nil | refine leL_cons ?_ ?_ | exact le_of_eq rfl | exact le_iptrN (leL_of_eq rfl) | refine le_agg ?_ | exact le_slf rfl (TD.rows ..) | refine le_iptr ?_ | refine le_fn ?_ ?_)) (by first | exact .inl rfl | exact .inr rfl | exact .inl (by simp only [D.noImm, noImmL, go_sem, TD.nims, TD.nim, nim_rI, nim_rB8, nim_rBo, nim_rS])) ?_; simp -implicitDefEqProofs (disch := omega) only [go_sem, ↓reduceIte , h]
  · simp -implicitDefEqProofs (disch := omega) only [go_sem, ↓reduceIte , h]
def code_spec_l02Same : VCode := (.seq (.ops [
  ⟨(some 4), none, (.asg (.const (.bool false)))⟩]) (.seq (.seq (.draw (mB 29 536870784) [] [⟨0, (mB 29 536870784), [], ⟨(some 7), none, (.mv (.tmp 0))⟩⟩, ⟨1, (mB 29 536870656), [], ⟨(some 8), none, (.nilc (.tmp 7))⟩⟩, ⟨2, (mB 29 536870400), [], ⟨(some 9), none, (.fa 0 (.tmp 8))⟩⟩, ⟨3, (mB 29 536869888), [], ⟨(some 10), none, (.load 1 false (.tmp 9))⟩⟩, ⟨4, (mB 29 536868864), [], ⟨(some 11), none, (.len (.tmp 10))⟩⟩, ⟨5, (mB 29 536870784), [], ⟨(some 12), none, (.mv (.tmp 1))⟩⟩, ⟨6, (mB 29 536866688), [], ⟨(some 13), none, (.nilc (.tmp 12))⟩⟩, ⟨7, (mB 29 536858496), [], ⟨(some 14), none, (.fa 0 (.tmp 13))⟩⟩, ⟨8, (mB 29 536842112), [], ⟨(some 15), none, (.load 1 false (.tmp 14))⟩⟩, ⟨9, (mB 29 536809344), [], ⟨(some 16), none, (.len (.tmp 15))⟩⟩, ⟨10, (mB 29 536739840), [], ⟨(some 17), none, (.bin .neq (.tmp 11) (.tmp 16))⟩⟩, ⟨11, (mB 29 536608768), [], ⟨(some 18), none, (.mv (.tmp 17))⟩⟩, ⟨12, (mB 29 536346624), [], ⟨(some 19), (some (18, false)), (.mv (.tmp 0))⟩⟩, ⟨13, (mB 29 535822336), [], ⟨(some 20), (some (18, false)), (.nilc (.tmp 19))⟩⟩, ⟨14, (mB 29 534773760), [], ⟨(some 21), (some (18, false)), (.fa 1 (.tmp 20))⟩⟩, ⟨15, (mB 29 532676608), [], ⟨(some 22), (some (18, false)), (.load 1 false (.tmp 21))⟩⟩, ⟨16, (mB 29 528482304), [], ⟨(some 23), (some (18, false)), (.len (.tmp 22))⟩⟩, ⟨17, (mB 29 536346624), [], ⟨(some 24), (some (18, false)), (.mv (.tmp 1))⟩⟩, ⟨18, (mB 29 519569408), [], ⟨(some 25), (some (18, false)), (.nilc (.tmp 24))⟩⟩, ⟨19, (mB 29 486014976), [], ⟨(some 26), (some (18, false)), (.fa 1 (.tmp 25))⟩⟩, ⟨20, (mB 29 418906112), [], ⟨(some 27), (some (18, false)), (.load 1 false (.tmp 26))⟩⟩, ⟨21, (mB 29 284688384), [], ⟨(some 28), (some (18, false)), (.len (.tmp 27))⟩⟩] [⟨(some 29), (some (18, false)), (.bin .neq (.tmp 23) (.tmp 28))⟩, ⟨(some 30), none, (.pick (.tmp 18) (.const (.bool true)) (.tmp 29))⟩]) (.cond (.tmp 30) (.seq (.ops [
  ⟨(some 4), none, (.asg (.const (.bool false)))⟩]) .ret) .skip)) (.seq (.seq (.ops [
  ⟨(some 5), none, (.asg (.const (.int .i64 0)))⟩]) (.block 0 (.loop (mB 101 2535301200456458802993406410716) (.seq (.seq (.ops [
  ⟨(some 31), none, (.mv (.tmp 5))⟩,
  ⟨(some 32), none, (.mv (.tmp 0))⟩,
  ⟨(some 33), none, (.nilc (.tmp 32))⟩,
  ⟨(some 34), none, (.fa 0 (.tmp 33))⟩,
  ⟨(some 35), none, (.load 1 false (.tmp 34))⟩,
  ⟨(some 36), none, (.len (.tmp 35))⟩,
  ⟨(some 37), none, (.bin .lss (.tmp 31) (.tmp 36))⟩]) (.cond (.tmp 37) .skip (.exit 0))) (.seq (.block 1 (.seq (.draw (mB 54 18013298997854208) [] [⟨0, (mB 54 18013298997854208), [], ⟨(some 40), none, (.mv (.tmp 0))⟩⟩, ⟨1, (mB 54 18012199486226432), [], ⟨(some 41), none, (.nilc (.tmp 40))⟩⟩, ⟨2, (mB 54 18010000462970880), [], ⟨(some 42), none, (.fa 0 (.tmp 41))⟩⟩, ⟨3, (mB 54 18005602416459776), [], ⟨(some 43), none, (.load 1 false (.tmp 42))⟩⟩, ⟨4, (mB 54 18013298997854208), [], ⟨(some 44), none, (.mv (.tmp 5))⟩⟩, ⟨5, (mB 54 17979214137393152), [], ⟨(some 45), none, (.ia 2 (.tmp 43) (.tmp 44))⟩⟩, ⟨6, (mB 54 17944029765304320), [], ⟨(some 46), none, (.load 2 true (.tmp 45))⟩⟩, ⟨7, (mB 54 18013298997854208), [], ⟨(some 47), none, (.mv (.tmp 1))⟩⟩, ⟨8, (mB 54 17872561509498880), [], ⟨(some 48), none, (.nilc (.tmp 47))⟩⟩, ⟨9, (mB 54 17591086532788224), [], ⟨(some 49), none, (.fa 0 (.tmp 48))⟩⟩, ⟨10, (mB 54 17028136579366912), [], ⟨(some 50), none, (.load 1 false (.tmp 49))⟩⟩, ⟨11, (mB 54 18013298997854208), [], ⟨(some 51), none, (.mv (.tmp 5))⟩⟩, ⟨12, (mB 54 13650436858839040), [], ⟨(some 52), none, (.ia 2 (.tmp 50) (.tmp 51))⟩⟩, ⟨13, (mB 54 9146837231468544), [], ⟨(some 53), none, (.load 2 true (.tmp 52))⟩⟩] [⟨(some 54), none, (.eqs true [2, 1] (.tmp 46) (.tmp 53))⟩]) (.cond (.tmp 54) (.seq (.ops [
  ⟨(some 4), none, (.asg (.const (.bool false)))⟩]) .ret) .skip))) (.ops [
  ⟨(some 38), none, (.mv (.tmp 5))⟩,
  ⟨(some 39), none, (.bin .add (.tmp 38) (.const (.int .i64 1)))⟩,
  ⟨(some 5), none, (.asg (.tmp 39))⟩])))))) (.seq (.seq (.ops [
  ⟨(some 6), none, (.asg (.const (.int .i64 0)))⟩]) (.block 2 (.loop (mB 101 2535301200456458802993406410684) (.seq (.seq (.ops [
  ⟨(some 55), none, (.mv (.tmp 6))⟩,
  ⟨(some 56), none, (.mv (.tmp 0))⟩,
  ⟨(some 57), none, (.nilc (.tmp 56))⟩,
  ⟨(some 58), none, (.fa 1 (.tmp 57))⟩,
  ⟨(some 59), none, (.load 1 false (.tmp 58))⟩,
  ⟨(some 60), none, (.len (.tmp 59))⟩,
  ⟨(some 61), none, (.bin .lss (.tmp 55) (.tmp 60))⟩]) (.cond (.tmp 61) .skip (.exit 2))) (.seq (.block 3 (.seq (.draw (mB 98 316912650038610606300466249728) [] [⟨0, (mB 98 316912650038610606300466249728), [], ⟨(some 64), none, (.mv (.tmp 0))⟩⟩, ⟨1, (mB 98 316912650020163862226756698112), [], ⟨(some 65), none, (.nilc (.tmp 64))⟩⟩, ⟨2, (mB 98 316912649983270374079337594880), [], ⟨(some 66), none, (.fa 1 (.tmp 65))⟩⟩, ⟨3, (mB 98 316912649909483397784499388416), [], ⟨(some 67), none, (.load 1 false (.tmp 66))⟩⟩, ⟨4, (mB 98 316912650038610606300466249728), [], ⟨(some 68), none, (.mv (.tmp 6))⟩⟩, ⟨5, (mB 98 316912649466761540015470149632), [], ⟨(some 69), none, (.ia 2 (.tmp 67) (.tmp 68))⟩⟩, ⟨6, (mB 98 316912648876465729656764497920), [], ⟨(some 70), none, (.fa 0 (.tmp 69))⟩⟩, ⟨7, (mB 98 316912647695874108939353194496), [], ⟨(some 71), none, (.load 1 false (.tmp 70))⟩⟩, ⟨8, (mB 98 316912650038610606300466249728), [], ⟨(some 72), none, (.mv (.tmp 1))⟩⟩, ⟨9, (mB 98 316912645316244123430821036032), [], ⟨(some 73), none, (.nilc (.tmp 72))⟩⟩, ⟨10, (mB 98 316912635871511157691530608640), [], ⟨(some 74), none, (.fa 1 (.tmp 73))⟩⟩, ⟨11, (mB 98 316912616982045226212949753856), [], ⟨(some 75), none, (.load 1 false (.tmp 74))⟩⟩, ⟨12, (mB 98 316912650038610606300466249728), [], ⟨(some 76), none, (.mv (.tmp 6))⟩⟩, ⟨13, (mB 98 316912503645249637341464625152), [], ⟨(some 77), none, (.ia 2 (.tmp 75) (.tmp 76))⟩⟩, ⟨14, (mB 98 316912352529522185512817786880), [], ⟨(some 78), none, (.fa 0 (.tmp 77))⟩⟩, ⟨15, (mB 98 316912050298067281855524110336), [], ⟨(some 79), none, (.load 1 false (.tmp 78))⟩⟩, ⟨16, (mB 98 316911441131237735745001095168), [], ⟨(some 80), none, (.bin .neq (.tmp 71) (.tmp 79))⟩⟩, ⟨17, (mB 98 316910232205418121115826388992), [], ⟨(some 81), none, (.mv (.tmp 80))⟩⟩, ⟨18, (mB 98 316907814353778891857476976640), [], ⟨(some 82), (some (81, false)), (.mv (.tmp 0))⟩⟩, ⟨19, (mB 98 316902978650500433340778151936), [], ⟨(some 83), (some (81, false)), (.nilc (.tmp 82))⟩⟩, ⟨20, (mB 98 316893307243943516307380502528), [], ⟨(some 84), (some (81, false)), (.fa 1 (.tmp 83))⟩⟩, ⟨21, (mB 98 316873964430829682240585203712), [], ⟨(some 85), (some (81, false)), (.load 1 false (.tmp 84))⟩⟩, ⟨22, (mB 98 316907814353778891857476976640), [], ⟨(some 86), (some (81, false)), (.mv (.tmp 6))⟩⟩, ⟨23, (mB 98 316757907552146677839813410816), [], ⟨(some 87), (some (81, false)), (.ia 2 (.tmp 85) (.tmp 86))⟩⟩, ⟨24, (mB 98 316603165047236005305451020288), [], ⟨(some 88), (some (81, false)), (.fa 1 (.tmp 87))⟩⟩, ⟨25, (mB 98 316293680037414660236726239232), [], ⟨(some 89), (some (81, false)), (.load 1 false (.tmp 88))⟩⟩, ⟨26, (mB 98 316907814353778891857476976640), [], ⟨(some 90), (some (81, false)), (.mv (.tmp 1))⟩⟩, ⟨27, (mB 98 315669874314493511582577852416), [], ⟨(some 91), (some (81, false)), (.nilc (.tmp 90))⟩⟩, ⟨28, (mB 98 313193994235922751032779603968), [], ⟨(some 92), (some (81, false)), (.fa 1 (.tmp 91))⟩⟩, ⟨29, (mB 98 308242234078781229933183107072), [], ⟨(some 93), (some (81, false)), (.load 1 false (.tmp 92))⟩⟩, ⟨30, (mB 98 316907814353778891857476976640), [], ⟨(some 94), (some (81, false)), (.mv (.tmp 6))⟩⟩, ⟨31, (mB 98 278531673135932103335604125696), [], ⟨(some 95), (some (81, false)), (.ia 2 (.tmp 93) (.tmp 94))⟩⟩, ⟨32, (mB 98 238917591878799934538832150528), [], ⟨(some 96), (some (81, false)), (.fa 1 (.tmp 95))⟩⟩, ⟨33, (mB 98 159689429364535596945288200192), [], ⟨(some 97), (some (81, false)), (.load 1 false (.tmp 96))⟩⟩] [⟨(some 98), (some (81, false)), (.callX 31 [(.tmp 89), (.tmp 97)])⟩, ⟨(some 99), (some (81, false)), (.un .not (.tmp 98))⟩, ⟨(some 100), none, (.pick (.tmp 81) (.const (.bool true)) (.tmp 99))⟩]) (.cond (.tmp 100) (.seq (.ops [
  ⟨(some 4), none, (.asg (.const (.bool false)))⟩]) .ret) .skip))) (.ops [
  ⟨(some 62), none, (.mv (.tmp 6))⟩,
  ⟨(some 63), none, (.bin .add (.tmp 62) (.const (.int .i64 1)))⟩,
  ⟨(some 6), none, (.asg (.tmp 63))⟩])))))) (.seq (.ops [
  ⟨(some 4), none, (.asg (.const (.bool true)))⟩]) .ret)))))
theorem law_spec_l02Same {a0 a1 d : D} (h : code_spec_l02Same.wp (CT Try.prog NoG) (endQ [(.t 4)] d) [a0, a1, .undef, .undef, .undef, .undef, .undef, .undef, .undef, .undef, .undef, .undef, .undef, .undef, .undef, .undef, .undef, .undef, .undef, .undef, .undef, .undef, .undef, .undef, .undef, .undef, .undef, .undef, .undef, .undef, .undef, .undef, .undef, .undef, .undef, .undef, .undef, .undef, .undef, .undef, .undef, .undef, .undef, .undef, .undef, .undef, .undef, .undef, .undef, .undef, .undef, .undef, .undef, .undef, .undef, .undef, .undef, .undef, .undef, .undef, .undef, .undef, .undef, .undef, .undef, .undef, .undef, .undef, .undef, .undef, .undef, .undef, .undef, .undef, .undef, .undef, .undef, .undef, .undef, .undef, .undef, .undef, .undef, .undef, .undef, .undef, .undef, .undef, .undef, .undef, .undef, .undef, .undef, .undef, .undef, .undef, .undef, .undef, .undef, .undef, .undef]) : Contract Try.prog NoG 29 [a0, a1] d :=
  contract_of noG Try.func29 (fun us W => by kernel_rfl) (c := Try.f29.body.getD .skip) (ms := [(mB 101 2535301200456458802993406410716), (mB 101 2535301200456458802993406410684)]) (ms' := []) (by kernel_rfl) (by kernel_rfl) (by kernel_rfl) h
set_option maxHeartbeats 2000000 in
theorem v_l02Same (a b : TileSet) (ha : setLen a) : Contract Try.prog NoG 29 [.iptr [.sl false 2 (a.Glues.map (Glue.td.d false)), .sl false 2 (a.Tiles.map (Tile.td.d false))] 0, .iptr [.sl false 2 (b.Glues.map (Glue.td.d false)), .sl false 2 (b.Tiles.map (Tile.td.d false))] 0] (.v (.bool (decide (a = b)))) := by
  rw [← set_dec]; have hg := ha.1; have ht := ha.2.1; refine law_spec_l02Same ?_; unfold code_spec_l02Same; simp -implicitDefEqProofs (disch := omega) only [go_sem, ↓reduceIte , List.length_map]
  (first | refine gd_split ?_ ?_ | refine guard_split ?_ ?_) <;> intro h1
  · simp -implicitDefEqProofs (disch := omega) only [go_sem, ↓reduceIte , h1]; have : a.Glues ≠ b.Glues := fun e => by simp [e] at h1
    simp [this]
  · have hl1 : a.Glues.length = b.Glues.length := (by simp at h1; omega); simp -implicitDefEqProofs (disch := omega) only [go_sem, ↓reduceIte , h1, List.length_map]; refine cond_split ?_ ?_ <;> intro h2
    · simp -implicitDefEqProofs (disch := omega) only [go_sem, ↓reduceIte , h2]; have : a.Tiles ≠ b.Tiles := fun e => by simp [e] at h2
      simp [this]
    · have hl2 : a.Tiles.length = b.Tiles.length := (by simp at h2; omega); simp -implicitDefEqProofs (disch := omega) only [go_sem, ↓reduceIte , h2]; refine loop_st (fun i : Nat => [.iptr [.sl false 2 (a.Glues.map (Glue.td.d false)), .sl false 2 (a.Tiles.map (Tile.td.d false))] 0, .iptr [.sl false 2 (b.Glues.map (Glue.td.d false)), .sl false 2 (b.Tiles.map (Tile.td.d false))] 0, .undef, .undef, .undef, .v (.int .i64 i), .undef, .undef, .undef, .undef, .undef, .undef, .undef, .undef, .undef, .undef, .undef, .undef, .undef, .undef, .undef, .undef, .undef, .undef, .undef, .undef, .undef, .undef, .undef, .undef, .undef, .undef, .undef, .undef, .undef, .undef, .undef, .undef, .undef, .undef, .undef, .undef, .undef, .undef, .undef, .undef, .undef, .undef, .undef, .undef, .undef, .undef, .undef, .undef, .undef, .undef, .undef, .undef, .undef, .undef, .undef, .undef, .undef, .undef, .undef, .undef, .undef, .undef, .undef, .undef, .undef, .undef, .undef, .undef, .undef, .undef, .undef, .undef, .undef, .undef, .undef, .undef, .undef, .undef, .undef, .undef, .undef, .undef, .undef, .undef, .undef, .undef, .undef, .undef, .undef, .undef, .undef, .undef, .undef, .undef, .undef]) (fun i => i ≤ a.Glues.length ∧ a.Glues.take i = b.Glues.take i) (fun i => a.Glues.length - i) 0 (by (try simp -implicitDefEqProofs only [nleL_cc, nleL_nn, nle_self, nle_boxs, nle_aggs, nle_nils, and_self, and_true, true_and]) <;> repeat' (first | exact nle_of_eq rfl | exact nle_nil | apply And.intro | apply nle_sl | apply nleLL_cons | apply nleL_cons | exact nleL_nil | exact nleLL_nil | apply nle_box | apply nle_agg)) ⟨Nat.zero_le _, rfl⟩ ?_; rintro i ⟨hi, ht1⟩; simp -implicitDefEqProofs (disch := omega) only [go_sem, ↓reduceIte , List.length_map, Int.toNat_natCast, Int.ofNat_lt, Int.natCast_nonneg, List.getElem?_map, Option.map_some]; refine cond_split ?_ ?_ <;> intro hlt
      · have h3 : i < a.Glues.length := (by simpa using hlt); have h4 : i < b.Glues.length := (by omega); have e1 := List.getElem?_eq_getElem h3; have e2 := List.getElem?_eq_getElem h4; simp -implicitDefEqProofs (disch := omega) only [go_sem, ↓reduceIte , List.length_map, Int.toNat_natCast, Int.ofNat_lt, Int.natCast_nonneg, List.getElem?_map, Option.map_some, h3, h4, e1, e2, Glue.td_d, Glue.eq_dec]; refine cond_split ?_ ?_ <;> intro hc
        · simp -implicitDefEqProofs (disch := omega) only [go_sem, ↓reduceIte]; have hne : a.Glues[i] ≠ b.Glues[i] := by simpa using hc
          have : a.Glues ≠ b.Glues := fun e => hne (by simp [e]); simp [this]
        · simp -implicitDefEqProofs (disch := omega) only [go_sem, ↓reduceIte , wrN]; have heq : a.Glues[i] = b.Glues[i] := by simpa using hc
          refine ⟨i + 1, by omega, ⟨h3, ?_⟩, by (try simp -implicitDefEqProofs only [nleL_cc, nleL_nn, nle_self, nle_boxs, nle_aggs, nle_nils, and_self, and_true, true_and]) <;> repeat' (first | exact nle_of_eq rfl | exact nle_nil | apply And.intro | apply nle_sl | apply nleLL_cons | apply nleL_cons | exact nleL_nil | exact nleLL_nil | apply nle_box | apply nle_agg)⟩; rw [List.take_succ_eq_append_getElem h3, List.take_succ_eq_append_getElem h4, ht1, heq]
      · have hge : ¬ i < a.Glues.length := (by simpa using hlt); have heg : a.Glues = b.Glues := (by rw [List.take_of_length_le (by omega), List.take_of_length_le (by omega)] at ht1; exact ht1); simp -implicitDefEqProofs (disch := omega) only [go_sem, ↓reduceIte]; refine loop_st (fun i : Nat => [.iptr [.sl false 2 (a.Glues.map (Glue.td.d false)), .sl false 2 (a.Tiles.map (Tile.td.d false))] 0, .iptr [.sl false 2 (b.Glues.map (Glue.td.d false)), .sl false 2 (b.Tiles.map (Tile.td.d false))] 0, .undef, .undef, .undef, .undef, .v (.int .i64 i), .undef, .undef, .undef, .undef, .undef, .undef, .undef, .undef, .undef, .undef, .undef, .undef, .undef, .undef, .undef, .undef, .undef, .undef, .undef, .undef, .undef, .undef, .undef, .undef, .undef, .undef, .undef, .undef, .undef, .undef, .undef, .undef, .undef, .undef, .undef, .undef, .undef, .undef, .undef, .undef, .undef, .undef, .undef, .undef, .undef, .undef, .undef, .undef, .undef, .undef, .undef, .undef, .undef, .undef, .undef, .undef, .undef, .undef, .undef, .undef, .undef, .undef, .undef, .undef, .undef, .undef, .undef, .undef, .undef, .undef, .undef, .undef, .undef, .undef, .undef, .undef, .undef, .undef, .undef, .undef, .undef, .undef, .undef, .undef, .undef, .undef, .undef, .undef, .undef, .undef, .undef, .undef, .undef, .undef]) (fun i => i ≤ a.Tiles.length ∧ a.Tiles.take i = b.Tiles.take i) (fun i => a.Tiles.length - i) 0 (by (try simp -implicitDefEqProofs only [nleL_cc, nleL_nn, nle_self, nle_boxs, nle_aggs, nle_nils, and_self, and_true, true_and]) <;> repeat' (first | exact nle_of_eq rfl | exact nle_nil | apply And.intro | apply nle_sl | apply nleLL_cons | apply nleL_cons | exact nleL_nil | exact nleLL_nil | apply nle_box | apply nle_agg)) ⟨Nat.zero_le _, rfl⟩ ?_; rintro k ⟨hk, ht2⟩; simp -implicitDefEqProofs (disch := omega) only [go_sem, ↓reduceIte , List.length_map, Int.toNat_natCast, Int.ofNat_lt, Int.natCast_nonneg, List.getElem?_map, Option.map_some]; refine cond_split ?_ ?_ <;> intro hlt2
        · have h5 : k < a.Tiles.length := (by simpa using hlt2); have h6 : k < b.Tiles.length := (by omega); have e3 := List.getElem?_eq_getElem h5; have e4 := List.getElem?_eq_getElem h6; simp -implicitDefEqProofs (disch := omega) only [go_sem, ↓reduceIte , List.length_map, Int.toNat_natCast, Int.ofNat_lt, Int.natCast_nonneg, List.getElem?_map, Option.map_some, h5, h6, e3, e4, Tile.td_d]
          (first | refine gd_split ?_ ?_ | refine guard_split ?_ ?_) <;> intro hc
          · simp -implicitDefEqProofs (disch := omega) only [go_sem, ↓reduceIte , hc]; have hne : a.Tiles[k] ≠ b.Tiles[k] := fun e => by simp [e] at hc
            have : a.Tiles ≠ b.Tiles := fun e => hne (by simp [e]); simp [this]
          · have hn1 : a.Tiles[k].Name = b.Tiles[k].Name := (by simpa using hc); simp -implicitDefEqProofs (disch := omega) only [go_sem, ↓reduceIte , List.length_map, Int.toNat_natCast, Int.ofNat_lt, Int.natCast_nonneg, List.getElem?_map, Option.map_some, hc, h5, h6, e3, e4, Tile.td_d]; refine call_leA (v_l00Same _ _ (ha.2.2 _ (List.getElem_mem h5))) (by simp -implicitDefEqProofs (disch := omega) only [go_sem, ↓reduceIte, deep, TD.rows, immLL_rI, immLL_rB8, immLL_rS, immLL_rBo, immLL_rII, immLL_rIIt, hc]; exact rfl) (by repeat (first | exact leL_nil | refine leL_cons ?_ ?_ | exact le_of_eq rfl | exact le_iptrN (leL_of_eq rfl) | refine le_agg ?_ | exact le_slf rfl (TD.rows ..) | refine le_iptr ?_ | refine le_fn ?_ ?_)) (by first | exact .inl rfl | exact .inr rfl | exact .inl (by simp only [D.noImm, noImmL, go_sem, TD.nims, TD.nim, nim_rI, nim_rB8, nim_rBo, nim_rS])) ?_; simp -implicitDefEqProofs (disch := omega) only [go_sem, ↓reduceIte , hc]; refine cond_split ?_ ?_ <;> intro hd
            · simp -implicitDefEqProofs (disch := omega) only [go_sem, ↓reduceIte]; have hne : a.Tiles[k] ≠ b.Tiles[k] := fun e => by simp [e] at hd
              have : a.Tiles ≠ b.Tiles := fun e => hne (by simp [e]); simp [this]
            · simp -implicitDefEqProofs (disch := omega) only [go_sem, ↓reduceIte , wrN]; have hn2 : a.Tiles[k].Sides = b.Tiles[k].Sides := by simpa using hd
              have heq : a.Tiles[k] = b.Tiles[k] := (by have := tile_dec a.Tiles[k] b.Tiles[k]; rw [hn1, hn2] at this; simpa using this.symm); refine ⟨k + 1, by omega, ⟨h5, ?_⟩, by (try simp -implicitDefEqProofs only [nleL_cc, nleL_nn, nle_self, nle_boxs, nle_aggs, nle_nils, and_self, and_true, true_and]) <;> repeat' (first | exact nle_of_eq rfl | exact nle_nil | apply And.intro | apply nle_sl | apply nleLL_cons | apply nleL_cons | exact nleL_nil | exact nleLL_nil | apply nle_box | apply nle_agg)⟩; rw [List.take_succ_eq_append_getElem h5, List.take_succ_eq_append_getElem h6, ht2, heq]
        · have hge2 : ¬ k < a.Tiles.length := (by simpa using hlt2); simp -implicitDefEqProofs (disch := omega) only [go_sem, ↓reduceIte]; have het : a.Tiles = b.Tiles := (by rw [List.take_of_length_le (by omega), List.take_of_length_le (by omega)] at ht2; exact ht2); simp [heg, het]
def code_slices_Equal_impl_Placed_impl_Placed : VCode := (.seq (.ops [
  ⟨(some 4), none, (.asg (.const (.bool false)))⟩]) (.seq (.seq (.ops [
  ⟨(some 6), none, (.mv (.tmp 0))⟩,
  ⟨(some 7), none, (.len (.tmp 6))⟩,
  ⟨(some 8), none, (.mv (.tmp 1))⟩,
  ⟨(some 9), none, (.len (.tmp 8))⟩,
  ⟨(some 10), none, (.bin .neq (.tmp 7) (.tmp 9))⟩]) (.cond (.tmp 10) (.seq (.ops [
  ⟨(some 4), none, (.asg (.const (.bool false)))⟩]) .ret) .skip)) (.seq (.seq (.ops [
  ⟨(some 11), none, (.mv (.tmp 0))⟩,
  ⟨(some 12), none, (.len (.tmp 11))⟩,
  ⟨(some 13), none, (.mv (.const (.int .i64 0)))⟩]) (.block 0 (.loop (mB 26 67096572) (.seq (.ops [
  ⟨(some 14), none, (.bin .lss (.tmp 13) (.tmp 12))⟩]) (.seq (.cond (.tmp 14) .skip (.exit 0)) (.seq (.block 1 (.seq (.ops [
  ⟨(some 15), none, (.mv (.tmp 13))⟩,
  ⟨(some 5), none, (.asg (.tmp 15))⟩]) (.seq (.draw (mB 24 16711680) [] [⟨0, (mB 24 16711680), [], ⟨(some 16), none, (.mv (.tmp 0))⟩⟩, ⟨1, (mB 24 16711680), [], ⟨(some 17), none, (.mv (.tmp 5))⟩⟩, ⟨2, (mB 24 16515072), [], ⟨(some 18), none, (.ia 3 (.tmp 16) (.tmp 17))⟩⟩, ⟨3, (mB 24 16252928), [], ⟨(some 19), none, (.load 3 true (.tmp 18))⟩⟩, ⟨4, (mB 24 16711680), [], ⟨(some 20), none, (.mv (.tmp 1))⟩⟩, ⟨5, (mB 24 16711680), [], ⟨(some 21), none, (.mv (.tmp 5))⟩⟩, ⟨6, (mB 24 13565952), [], ⟨(some 22), none, (.ia 3 (.tmp 20) (.tmp 21))⟩⟩, ⟨7, (mB 24 9371648), [], ⟨(some 23), none, (.load 3 true (.tmp 22))⟩⟩] [⟨(some 24), none, (.eqs true [1, 1, 1] (.tmp 19) (.tmp 23))⟩]) (.cond (.tmp 24) (.seq (.ops [
  ⟨(some 4), none, (.asg (.const (.bool false)))⟩]) .ret) .skip)))) (.ops [
  ⟨(some 25), none, (.bin .add (.tmp 13) (.const (.int .i64 1)))⟩,
  ⟨(some 13), none, (.mv (.tmp 25))⟩]))))))) (.seq (.ops [
  ⟨(some 4), none, (.asg (.const (.bool true)))⟩]) .ret))))
theorem law_slices_Equal_impl_Placed_impl_Placed {a0 a1 d : D} (h : code_slices_Equal_impl_Placed_impl_Placed.wp (CT Try.prog NoG) (endQ [(.t 4)] d) [a0, a1, .undef, .undef, .undef, .undef, .undef, .undef, .undef, .undef, .undef, .undef, .undef, .undef, .undef, .undef, .undef, .undef, .undef, .undef, .undef, .undef, .undef, .undef, .undef, .undef]) : Contract Try.prog NoG 38 [a0, a1] d :=
  contract_of noG Try.func38 (fun us W => by kernel_rfl) (c := Try.f38.body.getD .skip) (ms := [(mB 26 67096572)]) (ms' := []) (by kernel_rfl) (by kernel_rfl) (by kernel_rfl) h
theorem v_Equal_Placed (xs ys : List Placed) (hn : xs.length ≤ 1099511627776) : Contract Try.prog NoG 38 [.sl false 3 (xs.map (Placed.td.d false)), .sl false 3 (ys.map (Placed.td.d false))] (.v (.bool (decide (xs = ys)))) := by
  refine law_slices_Equal_impl_Placed_impl_Placed ?_; unfold code_slices_Equal_impl_Placed_impl_Placed; simp -implicitDefEqProofs (disch := omega) only [go_sem, ↓reduceIte , List.length_map]; refine cond_split ?_ ?_ <;> intro h
  · simp -implicitDefEqProofs (disch := omega) only [go_sem, ↓reduceIte]; have : xs ≠ ys := fun e => by subst e; simp at h
    simp [this]
  · have hl : xs.length = ys.length := (by simp at h; omega); simp -implicitDefEqProofs (disch := omega) only [go_sem, ↓reduceIte]; refine loop_st (fun i : Nat => [.sl false 3 (xs.map (Placed.td.d false)), .sl false 3 (ys.map (Placed.td.d false)), .undef, .undef, .undef, .undef, .undef, .undef, .undef, .undef, .undef, .undef, .v (.int .i64 xs.length), .v (.int .i64 i), .undef, .undef, .undef, .undef, .undef, .undef, .undef, .undef, .undef, .undef, .undef, .undef]) (fun i => i ≤ xs.length ∧ xs.take i = ys.take i) (fun i => xs.length - i) 0 ?_ ⟨Nat.zero_le _, rfl⟩ ?_
    · simp -implicitDefEqProofs (disch := omega) only [go_sem, ↓reduceIte , List.length_map]
      (try simp -implicitDefEqProofs only [nleL_cc, nleL_nn, nle_self, nle_boxs, nle_aggs, nle_nils, and_self, and_true, true_and]) <;> repeat' (first | exact nle_of_eq rfl | exact nle_nil | apply And.intro | apply nle_sl | apply nleLL_cons | apply nleL_cons | exact nleL_nil | exact nleLL_nil | apply nle_box | apply nle_agg)
    rintro i ⟨hi, ht⟩; simp -implicitDefEqProofs (disch := omega) only [go_sem, ↓reduceIte , List.length_map, Int.toNat_natCast, Int.ofNat_lt, Int.natCast_nonneg, List.getElem?_map, Option.map_some]; refine cond_split ?_ ?_ <;> intro hlt
    · have h1 : i < xs.length := (by simpa using hlt); have h2 : i < ys.length := (by omega); have e1 := List.getElem?_eq_getElem h1; have e2 := List.getElem?_eq_getElem h2; simp -implicitDefEqProofs (disch := omega) only [go_sem, ↓reduceIte , List.length_map, Int.toNat_natCast, Int.ofNat_lt, Int.natCast_nonneg, List.getElem?_map, Option.map_some, h1, h2, e1, e2, Placed.td_d, Placed.eq_dec]; refine cond_split ?_ ?_ <;> intro hc
      · simp -implicitDefEqProofs (disch := omega) only [go_sem, ↓reduceIte]; have hne : xs[i] ≠ ys[i] := by simpa using hc
        have : xs ≠ ys := fun e => hne (by subst e; rfl); simp [this]
      · simp -implicitDefEqProofs (disch := omega) only [go_sem, ↓reduceIte , wrN]; have heq : xs[i] = ys[i] := by simpa using hc
        refine ⟨i + 1, by omega, ⟨h1, ?_⟩, by (try simp -implicitDefEqProofs only [nleL_cc, nleL_nn, nle_self, nle_boxs, nle_aggs, nle_nils, and_self, and_true, true_and]) <;> repeat' (first | exact nle_of_eq rfl | exact nle_nil | apply And.intro | apply nle_sl | apply nleLL_cons | apply nleL_cons | exact nleL_nil | exact nleLL_nil | apply nle_box | apply nle_agg)⟩; rw [List.take_succ_eq_append_getElem h1, List.take_succ_eq_append_getElem h2, ht, heq]
    · have hge : ¬ i < xs.length := (by simpa using hlt); simp -implicitDefEqProofs (disch := omega) only [go_sem, ↓reduceIte]; have : xs = ys := (by rw [List.take_of_length_le (by omega), List.take_of_length_le (by omega)] at ht; exact ht); simp [this]
theorem asm_dec (a b : Assembly) : decide (a.Tiles = b.Tiles) = decide (a = b) := by obtain ⟨a0⟩ := a; obtain ⟨b0⟩ := b; rw [Bool.eq_iff_iff]; simp
theorem sys_dec (a b : System) : (decide (a.Set = b.Set) && (decide (a.Seed = b.Seed) && decide (a.Temperature = b.Temperature))) = decide (a = b) := by obtain ⟨a0, a1, a2⟩ := a; obtain ⟨b0, b1, b2⟩ := b; rw [Bool.eq_iff_iff]; simp
def sysLen (a : System) : Prop := setLen a.Set ∧ a.Seed.Tiles.length ≤ 1048576
theorem sysLen_of {a : System} (h : System.cnt a ≤ 1048576) : sysLen a := by have h3 : System.cnt a = TileSet.cnt a.Set + Assembly.cnt a.Seed := rfl; have h4 : Assembly.cnt a.Seed = a.Seed.Tiles.length := rfl; exact ⟨setLen_of (by omega), by omega⟩
def code_impl_SameAssembly : VCode := (.seq (.ops [
  ⟨(some 2), none, (.box (.tmp 0))⟩,
  ⟨(some 3), none, (.box (.tmp 1))⟩,
  ⟨(some 4), none, (.asg (.const (.bool false)))⟩]) (.seq (.ops [
  ⟨(some 5), none, (.fa 0 (.tmp 2))⟩,
  ⟨(some 6), none, (.load 1 false (.tmp 5))⟩,
  ⟨(some 7), none, (.fa 0 (.tmp 3))⟩,
  ⟨(some 8), none, (.load 1 false (.tmp 7))⟩,
  ⟨(some 9), none, (.callX 38 [(.tmp 6), (.tmp 8)])⟩,
  ⟨(some 4), none, (.asg (.tmp 9))⟩]) .ret))
theorem law_impl_SameAssembly {a0 a1 d : D} (h : code_impl_SameAssembly.wp (CT Try.prog NoG) (endQ [(.t 4)] d) [a0, a1, .undef, .undef, .undef, .undef, .undef, .undef, .undef, .undef]) : Contract Try.prog NoG 19 [a0, a1] d :=
  contract_of noG Try.func19 (fun us W => by kernel_rfl) (c := Try.f19.body.getD .skip) (ms := []) (ms' := []) (by kernel_rfl) (by kernel_rfl) (by kernel_rfl) h
theorem v_SameAssembly (a b : Assembly) (ha : a.Tiles.length ≤ 1048576) : Contract Try.prog NoG 19 [.agg (Assembly.td.d false a), .agg (Assembly.td.d false b)] (.v (.bool (decide (a = b)))) := by rw [Assembly.td_d, Assembly.td_d, ← asm_dec]; refine law_impl_SameAssembly ?_; unfold code_impl_SameAssembly; simp -implicitDefEqProofs (disch := omega) only [go_sem, ↓reduceIte]; refine call_leA (v_Equal_Placed a.Tiles b.Tiles (by omega)) (by simp -implicitDefEqProofs (disch := omega) only [go_sem, ↓reduceIte, deep, TD.rows, immLL_rI, immLL_rB8, immLL_rS, immLL_rBo, immLL_rII, immLL_rIIt]; exact rfl) (by repeat (first | exact leL_nil | refine leL_cons ?_ ?_ | exact le_of_eq rfl | exact le_iptrN (leL_of_eq rfl) | refine le_agg ?_ | exact le_slf rfl (TD.rows ..) | refine le_iptr ?_ | refine le_fn ?_ ?_)) (by first | exact .inl rfl | exact .inr rfl | exact .inl (by simp only [D.noImm, noImmL, go_sem, TD.nims, TD.nim, nim_rI, nim_rB8, nim_rBo, nim_rS])) ?_; simp -implicitDefEqProofs (disch := omega) only [go_sem, ↓reduceIte]
def code_impl_SameSystem : VCode := (.seq (.ops [
  ⟨(some 2), none, (.box (.tmp 0))⟩,
  ⟨(some 3), none, (.box (.tmp 1))⟩,
  ⟨(some 4), none, (.asg (.const (.bool false)))⟩]) (.seq (.ops [
  ⟨(some 5), none, (.fa 0 (.tmp 2))⟩,
  ⟨(some 6), none, (.load 2 true (.tmp 5))⟩,
  ⟨(some 7), none, (.fa 0 (.tmp 3))⟩,
  ⟨(some 8), none, (.load 2 true (.tmp 7))⟩,
  ⟨(some 9), none, (.callX 37 [(.tmp 6), (.tmp 8)])⟩,
  ⟨(some 10), none, (.mv (.tmp 9))⟩,
  ⟨(some 11), (some (10, true)), (.fa 2 (.tmp 2))⟩,
  ⟨(some 12), (some (10, true)), (.load 1 true (.tmp 11))⟩,
  ⟨(some 13), (some (10, true)), (.fa 2 (.tmp 3))⟩,
  ⟨(some 14), (some (10, true)), (.load 1 true (.tmp 13))⟩,
  ⟨(some 15), (some (10, true)), (.callX 19 [(.tmp 12), (.tmp 14)])⟩,
  ⟨(some 16), none, (.pick (.tmp 10) (.tmp 15) (.const (.bool false)))⟩,
  ⟨(some 17), none, (.mv (.tmp 16))⟩,
  ⟨(some 18), (some (17, true)), (.fa 3 (.tmp 2))⟩,
  ⟨(some 19), (some (17, true)), (.load 1 false (.tmp 18))⟩,
  ⟨(some 20), (some (17, true)), (.fa 3 (.tmp 3))⟩,
  ⟨(some 21), (some (17, true)), (.load 1 false (.tmp 20))⟩,
  ⟨(some 22), (some (17, true)), (.bin .eql (.tmp 19) (.tmp 21))⟩,
  ⟨(some 23), none, (.pick (.tmp 17) (.tmp 22) (.const (.bool false)))⟩,
  ⟨(some 4), none, (.asg (.tmp 23))⟩]) .ret))
theorem law_impl_SameSystem {a0 a1 d : D} (h : code_impl_SameSystem.wp (CT Try.prog NoG) (endQ [(.t 4)] d) [a0, a1, .undef, .undef, .undef, .undef, .undef, .undef, .undef, .undef, .undef, .undef, .undef, .undef, .undef, .undef, .undef, .undef, .undef, .undef, .undef, .undef, .undef, .undef]) : Contract Try.prog NoG 18 [a0, a1] d :=
  contract_of noG Try.func18 (fun us W => by kernel_rfl) (c := Try.f18.body.getD .skip) (ms := []) (ms' := []) (by kernel_rfl) (by kernel_rfl) (by kernel_rfl) h
theorem v_SameSystem (a b : System) (ha : sysLen a) : Contract Try.prog NoG 18 [.agg (System.td.d false a), .agg (System.td.d false b)] (.v (.bool (decide (a = b)))) := by
  rw [System.td_d, System.td_d, ← sys_dec]; refine law_impl_SameSystem ?_; unfold code_impl_SameSystem; simp -implicitDefEqProofs (disch := omega) only [go_sem, ↓reduceIte]; refine call_leA (v_SameSet a.Set b.Set ha.1) (by simp -implicitDefEqProofs (disch := omega) only [go_sem, ↓reduceIte, deep, TD.rows, immLL_rI, immLL_rB8, immLL_rS, immLL_rBo, immLL_rII, immLL_rIIt]; exact rfl) (by repeat (first | exact leL_nil | refine leL_cons ?_ ?_ | exact le_of_eq rfl | exact le_iptrN (leL_of_eq rfl) | refine le_agg ?_ | exact le_slf rfl (TD.rows ..) | refine le_iptr ?_ | refine le_fn ?_ ?_)) (by first | exact .inl rfl | exact .inr rfl | exact .inl (by simp only [D.noImm, noImmL, go_sem, TD.nims, TD.nim, nim_rI, nim_rB8, nim_rBo, nim_rS])) ?_; simp -implicitDefEqProofs (disch := omega) only [go_sem, ↓reduceIte]; refine guard_split ?_ ?_ <;> intro h
  · simp -implicitDefEqProofs (disch := omega) only [go_sem, ↓reduceIte , h]; refine call_leA (v_SameAssembly a.Seed b.Seed ha.2) (by simp -implicitDefEqProofs (disch := omega) only [go_sem, ↓reduceIte, deep, TD.rows, immLL_rI, immLL_rB8, immLL_rS, immLL_rBo, immLL_rII, immLL_rIIt, h]; exact rfl) (by repeat (first | exact leL_nil | refine leL_cons ?_ ?_ | exact le_of_eq rfl | exact le_iptrN (leL_of_eq rfl) | refine le_agg ?_ | exact le_slf rfl (TD.rows ..) | refine le_iptr ?_ | refine le_fn ?_ ?_)) (by first | exact .inl rfl | exact .inr rfl | exact .inl (by simp only [D.noImm, noImmL, go_sem, TD.nims, TD.nim, nim_rI, nim_rB8, nim_rBo, nim_rS])) ?_; simp -implicitDefEqProofs (disch := omega) only [go_sem, ↓reduceIte , h]; refine guard_split ?_ ?_ <;> intro h2
    · simp -implicitDefEqProofs (disch := omega) only [go_sem, ↓reduceIte , h, h2]
    · simp -implicitDefEqProofs (disch := omega) only [go_sem, ↓reduceIte , h, h2]
  · simp -implicitDefEqProofs (disch := omega) only [go_sem, ↓reduceIte , h]
def code_spec_l03Same : VCode := (.seq (.ops [
  ⟨(some 4), none, (.asg (.const (.bool false)))⟩]) (.seq (.seq (.draw (mB 16 65472) [] [⟨0, (mB 16 65472), [], ⟨(some 6), none, (.mv (.tmp 0))⟩⟩, ⟨1, (mB 16 65408), [], ⟨(some 7), none, (.nilc (.tmp 6))⟩⟩, ⟨2, (mB 16 65280), [], ⟨(some 8), none, (.fa 0 (.tmp 7))⟩⟩, ⟨3, (mB 16 65024), [], ⟨(some 9), none, (.load 1 false (.tmp 8))⟩⟩, ⟨4, (mB 16 64512), [], ⟨(some 10), none, (.len (.tmp 9))⟩⟩, ⟨5, (mB 16 65472), [], ⟨(some 11), none, (.mv (.tmp 1))⟩⟩, ⟨6, (mB 16 63424), [], ⟨(some 12), none, (.nilc (.tmp 11))⟩⟩, ⟨7, (mB 16 59328), [], ⟨(some 13), none, (.fa 0 (.tmp 12))⟩⟩, ⟨8, (mB 16 51136), [], ⟨(some 14), none, (.load 1 false (.tmp 13))⟩⟩, ⟨9, (mB 16 34752), [], ⟨(some 15), none, (.len (.tmp 14))⟩⟩] [⟨(some 16), none, (.bin .neq (.tmp 10) (.tmp 15))⟩]) (.cond (.tmp 16) (.seq (.ops [
  ⟨(some 4), none, (.asg (.const (.bool false)))⟩]) .ret) .skip)) (.seq (.seq (.ops [
  ⟨(some 5), none, (.asg (.const (.int .i64 0)))⟩]) (.block 0 (.loop (mB 41 2199023255516) (.seq (.seq (.ops [
  ⟨(some 17), none, (.mv (.tmp 5))⟩,
  ⟨(some 18), none, (.mv (.tmp 0))⟩,
  ⟨(some 19), none, (.nilc (.tmp 18))⟩,
  ⟨(some 20), none, (.fa 0 (.tmp 19))⟩,
  ⟨(some 21), none, (.load 1 false (.tmp 20))⟩,
  ⟨(some 22), none, (.len (.tmp 21))⟩,
  ⟨(some 23), none, (.bin .lss (.tmp 17) (.tmp 22))⟩]) (.cond (.tmp 23) .skip (.exit 0))) (.seq (.block 1 (.seq (.draw (mB 40 1099444518912) [] [⟨0, (mB 40 1099444518912), [], ⟨(some 26), none, (.mv (.tmp 0))⟩⟩, ⟨1, (mB 40 1099377410048), [], ⟨(some 27), none, (.nilc (.tmp 26))⟩⟩, ⟨2, (mB 40 1099243192320), [], ⟨(some 28), none, (.fa 0 (.tmp 27))⟩⟩, ⟨3, (mB 40 1098974756864), [], ⟨(some 29), none, (.load 1 false (.tmp 28))⟩⟩, ⟨4, (mB 40 1099444518912), [], ⟨(some 30), none, (.mv (.tmp 5))⟩⟩, ⟨5, (mB 40 1097364144128), [], ⟨(some 31), none, (.ia 3 (.tmp 29) (.tmp 30))⟩⟩, ⟨6, (mB 40 1095216660480), [], ⟨(some 32), none, (.load 3 true (.tmp 31))⟩⟩, ⟨7, (mB 40 1099444518912), [], ⟨(some 33), none, (.mv (.tmp 1))⟩⟩, ⟨8, (mB 40 1090854584320), [], ⟨(some 34), none, (.nilc (.tmp 33))⟩⟩, ⟨9, (mB 40 1073674715136), [], ⟨(some 35), none, (.fa 0 (.tmp 34))⟩⟩, ⟨10, (mB 40 1039314976768), [], ⟨(some 36), none, (.load 1 false (.tmp 35))⟩⟩, ⟨11, (mB 40 1099444518912), [], ⟨(some 37), none, (.mv (.tmp 5))⟩⟩, ⟨12, (mB 40 833156546560), [], ⟨(some 38), none, (.ia 3 (.tmp 36) (.tmp 37))⟩⟩, ⟨13, (mB 40 558278639616), [], ⟨(some 39), none, (.load 3 true (.tmp 38))⟩⟩] [⟨(some 40), none, (.eqs true [1, 1, 1] (.tmp 32) (.tmp 39))⟩]) (.cond (.tmp 40) (.seq (.ops [
  ⟨(some 4), none, (.asg (.const (.bool false)))⟩]) .ret) .skip))) (.ops [
  ⟨(some 24), none, (.mv (.tmp 5))⟩,
  ⟨(some 25), none, (.bin .add (.tmp 24) (.const (.int .i64 1)))⟩,
  ⟨(some 5), none, (.asg (.tmp 25))⟩])))))) (.seq (.ops [
  ⟨(some 4), none, (.asg (.const (.bool true)))⟩]) .ret))))
theorem law_spec_l03Same {a0 a1 d : D} (h : code_spec_l03Same.wp (CT Try.prog NoG) (endQ [(.t 4)] d) [a0, a1, .undef, .undef, .undef, .undef, .undef, .undef, .undef, .undef, .undef, .undef, .undef, .undef, .undef, .undef, .undef, .undef, .undef, .undef, .undef, .undef, .undef, .undef, .undef, .undef, .undef, .undef, .undef, .undef, .undef, .undef, .undef, .undef, .undef, .undef, .undef, .undef, .undef, .undef, .undef]) : Contract Try.prog NoG 13 [a0, a1] d :=
  contract_of noG Try.func13 (fun us W => by kernel_rfl) (c := Try.f13.body.getD .skip) (ms := [(mB 41 2199023255516)]) (ms' := []) (by kernel_rfl) (by kernel_rfl) (by kernel_rfl) h
theorem v_l03Same (a b : Assembly) (ha : a.Tiles.length ≤ 1048576) : Contract Try.prog NoG 13 [.iptr [.sl false 3 (a.Tiles.map (Placed.td.d false))] 0, .iptr [.sl false 3 (b.Tiles.map (Placed.td.d false))] 0] (.v (.bool (decide (a = b)))) := by
  rw [← asm_dec]; refine law_spec_l03Same ?_; unfold code_spec_l03Same; simp -implicitDefEqProofs (disch := omega) only [go_sem, ↓reduceIte , List.length_map]; refine cond_split ?_ ?_ <;> intro h1
  · simp -implicitDefEqProofs (disch := omega) only [go_sem, ↓reduceIte]; have : a.Tiles ≠ b.Tiles := fun e => by simp [e] at h1
    simp [this]
  · have hl : a.Tiles.length = b.Tiles.length := (by simp at h1; omega); simp -implicitDefEqProofs (disch := omega) only [go_sem, ↓reduceIte]; refine loop_st (fun i : Nat => [.iptr [.sl false 3 (a.Tiles.map (Placed.td.d false))] 0, .iptr [.sl false 3 (b.Tiles.map (Placed.td.d false))] 0, .undef, .undef, .undef, .v (.int .i64 i), .undef, .undef, .undef, .undef, .undef, .undef, .undef, .undef, .undef, .undef, .undef, .undef, .undef, .undef, .undef, .undef, .undef, .undef, .undef, .undef, .undef, .undef, .undef, .undef, .undef, .undef, .undef, .undef, .undef, .undef, .undef, .undef, .undef, .undef, .undef]) (fun i => i ≤ a.Tiles.length ∧ a.Tiles.take i = b.Tiles.take i) (fun i => a.Tiles.length - i) 0 (by (try simp -implicitDefEqProofs only [nleL_cc, nleL_nn, nle_self, nle_boxs, nle_aggs, nle_nils, and_self, and_true, true_and]) <;> repeat' (first | exact nle_of_eq rfl | exact nle_nil | apply And.intro | apply nle_sl | apply nleLL_cons | apply nleL_cons | exact nleL_nil | exact nleLL_nil | apply nle_box | apply nle_agg)) ⟨Nat.zero_le _, rfl⟩ ?_; rintro i ⟨hi, ht1⟩; simp -implicitDefEqProofs (disch := omega) only [go_sem, ↓reduceIte , List.length_map, Int.toNat_natCast, Int.ofNat_lt, Int.natCast_nonneg, List.getElem?_map, Option.map_some]; refine cond_split ?_ ?_ <;> intro hlt
    · have h3 : i < a.Tiles.length := (by simpa using hlt); have h4 : i < b.Tiles.length := (by omega); have e1 := List.getElem?_eq_getElem h3; have e2 := List.getElem?_eq_getElem h4; simp -implicitDefEqProofs (disch := omega) only [go_sem, ↓reduceIte , List.length_map, Int.toNat_natCast, Int.ofNat_lt, Int.natCast_nonneg, List.getElem?_map, Option.map_some, h3, h4, e1, e2, Placed.td_d, Placed.eq_dec]; refine cond_split ?_ ?_ <;> intro hc
      · simp -implicitDefEqProofs (disch := omega) only [go_sem, ↓reduceIte]; have hne : a.Tiles[i] ≠ b.Tiles[i] := by simpa using hc
        have : a.Tiles ≠ b.Tiles := fun e => hne (by simp [e]); simp [this]
      · simp -implicitDefEqProofs (disch := omega) only [go_sem, ↓reduceIte , wrN]; have heq : a.Tiles[i] = b.Tiles[i] := by simpa using hc
        refine ⟨i + 1, by omega, ⟨h3, ?_⟩, by (try simp -implicitDefEqProofs only [nleL_cc, nleL_nn, nle_self, nle_boxs, nle_aggs, nle_nils, and_self, and_true, true_and]) <;> repeat' (first | exact nle_of_eq rfl | exact nle_nil | apply And.intro | apply nle_sl | apply nleLL_cons | apply nleL_cons | exact nleL_nil | exact nleLL_nil | apply nle_box | apply nle_agg)⟩; rw [List.take_succ_eq_append_getElem h3, List.take_succ_eq_append_getElem h4, ht1, heq]
    · have hge : ¬ i < a.Tiles.length := (by simpa using hlt); simp -implicitDefEqProofs (disch := omega) only [go_sem, ↓reduceIte]; have : a.Tiles = b.Tiles := (by rw [List.take_of_length_le (by omega), List.take_of_length_le (by omega)] at ht1; exact ht1); simp [this]
def code_spec_SameSystem : VCode := (.seq (.ops [
  ⟨(some 2), none, (.box (.tmp 0))⟩,
  ⟨(some 3), none, (.box (.tmp 1))⟩,
  ⟨(some 4), none, (.asg (.const (.bool false)))⟩]) (.seq (.ops [
  ⟨(some 5), none, (.fa 0 (.tmp 2))⟩,
  ⟨(some 6), none, (.fa 0 (.tmp 3))⟩,
  ⟨(some 7), none, (.callX 29 [(.tmp 5), (.tmp 6)])⟩,
  ⟨(some 8), none, (.mv (.tmp 7))⟩,
  ⟨(some 9), (some (8, true)), (.fa 2 (.tmp 2))⟩,
  ⟨(some 10), (some (8, true)), (.fa 2 (.tmp 3))⟩,
  ⟨(some 11), (some (8, true)), (.callX 13 [(.tmp 9), (.tmp 10)])⟩,
  ⟨(some 12), none, (.pick (.tmp 8) (.tmp 11) (.const (.bool false)))⟩,
  ⟨(some 13), none, (.mv (.tmp 12))⟩,
  ⟨(some 14), (some (13, true)), (.fa 3 (.tmp 2))⟩,
  ⟨(some 15), (some (13, true)), (.load 1 false (.tmp 14))⟩,
  ⟨(some 16), (some (13, true)), (.fa 3 (.tmp 3))⟩,
  ⟨(some 17), (some (13, true)), (.load 1 false (.tmp 16))⟩,
  ⟨(some 18), (some (13, true)), (.bin .eql (.tmp 15) (.tmp 17))⟩,
  ⟨(some 19), none, (.pick (.tmp 13) (.tmp 18) (.const (.bool false)))⟩,
  ⟨(some 4), none, (.asg (.tmp 19))⟩]) .ret))
theorem law_spec_SameSystem {a0 a1 d : D} (h : code_spec_SameSystem.wp (CT Try.prog NoG) (endQ [(.t 4)] d) [a0, a1, .undef, .undef, .undef, .undef, .undef, .undef, .undef, .undef, .undef, .undef, .undef, .undef, .undef, .undef, .undef, .undef, .undef, .undef]) : Contract Try.prog NoG 12 [a0, a1] d :=
  contract_of noG Try.func12 (fun us W => by kernel_rfl) (c := Try.f12.body.getD .skip) (ms := []) (ms' := []) (by kernel_rfl) (by kernel_rfl) (by kernel_rfl) h
theorem v_SameSystem_spec (a b : System) (ha : sysLen a) : Contract Try.prog NoG 12 [.agg (System.td.d false a), .agg (System.td.d false b)] (.v (.bool (decide (a = b)))) := by
  rw [System.td_d, System.td_d, ← sys_dec]; refine law_spec_SameSystem ?_; unfold code_spec_SameSystem; simp -implicitDefEqProofs (disch := omega) only [go_sem, ↓reduceIte]; refine call_leA (v_l02Same a.Set b.Set ha.1) (by simp -implicitDefEqProofs (disch := omega) only [go_sem, ↓reduceIte, deep, TD.rows, immLL_rI, immLL_rB8, immLL_rS, immLL_rBo, immLL_rII, immLL_rIIt]; exact rfl) (by repeat (first | exact leL_nil | refine leL_cons ?_ ?_ | exact le_of_eq rfl | exact le_iptrN (leL_of_eq rfl) | refine le_agg ?_ | exact le_slf rfl (TD.rows ..) | refine le_iptr ?_ | refine le_fn ?_ ?_)) (by first | exact .inl rfl | exact .inr rfl | exact .inl (by simp only [D.noImm, noImmL, go_sem, TD.nims, TD.nim, nim_rI, nim_rB8, nim_rBo, nim_rS])) ?_; simp -implicitDefEqProofs (disch := omega) only [go_sem, ↓reduceIte]; refine guard_split ?_ ?_ <;> intro h
  · simp -implicitDefEqProofs (disch := omega) only [go_sem, ↓reduceIte , h]; refine call_leA (v_l03Same a.Seed b.Seed ha.2) (by simp -implicitDefEqProofs (disch := omega) only [go_sem, ↓reduceIte, deep, TD.rows, immLL_rI, immLL_rB8, immLL_rS, immLL_rBo, immLL_rII, immLL_rIIt, h]; exact rfl) (by repeat (first | exact leL_nil | refine leL_cons ?_ ?_ | exact le_of_eq rfl | exact le_iptrN (leL_of_eq rfl) | refine le_agg ?_ | exact le_slf rfl (TD.rows ..) | refine le_iptr ?_ | refine le_fn ?_ ?_)) (by first | exact .inl rfl | exact .inr rfl | exact .inl (by simp only [D.noImm, noImmL, go_sem, TD.nims, TD.nim, nim_rI, nim_rB8, nim_rBo, nim_rS])) ?_; simp -implicitDefEqProofs (disch := omega) only [go_sem, ↓reduceIte , h]; refine guard_split ?_ ?_ <;> intro h2
    · simp -implicitDefEqProofs (disch := omega) only [go_sem, ↓reduceIte , h, h2]
    · simp -implicitDefEqProofs (disch := omega) only [go_sem, ↓reduceIte , h, h2]
  · simp -implicitDefEqProofs (disch := omega) only [go_sem, ↓reduceIte , h]
def code_slices_Equal_impl_Option_impl_Option : VCode := (.seq (.ops [
  ⟨(some 4), none, (.asg (.const (.bool false)))⟩]) (.seq (.seq (.ops [
  ⟨(some 6), none, (.mv (.tmp 0))⟩,
  ⟨(some 7), none, (.len (.tmp 6))⟩,
  ⟨(some 8), none, (.mv (.tmp 1))⟩,
  ⟨(some 9), none, (.len (.tmp 8))⟩,
  ⟨(some 10), none, (.bin .neq (.tmp 7) (.tmp 9))⟩]) (.cond (.tmp 10) (.seq (.ops [
  ⟨(some 4), none, (.asg (.const (.bool false)))⟩]) .ret) .skip)) (.seq (.seq (.ops [
  ⟨(some 11), none, (.mv (.tmp 0))⟩,
  ⟨(some 12), none, (.len (.tmp 11))⟩,
  ⟨(some 13), none, (.mv (.const (.int .i64 0)))⟩]) (.block 0 (.loop (mB 26 67096572) (.seq (.ops [
  ⟨(some 14), none, (.bin .lss (.tmp 13) (.tmp 12))⟩]) (.seq (.cond (.tmp 14) .skip (.exit 0)) (.seq (.block 1 (.seq (.ops [
  ⟨(some 15), none, (.mv (.tmp 13))⟩,
  ⟨(some 5), none, (.asg (.tmp 15))⟩]) (.seq (.draw (mB 24 16711680) [] [⟨0, (mB 24 16711680), [], ⟨(some 16), none, (.mv (.tmp 0))⟩⟩, ⟨1, (mB 24 16711680), [], ⟨(some 17), none, (.mv (.tmp 5))⟩⟩, ⟨2, (mB 24 16515072), [], ⟨(some 18), none, (.ia 3 (.tmp 16) (.tmp 17))⟩⟩, ⟨3, (mB 24 16252928), [], ⟨(some 19), none, (.load 3 true (.tmp 18))⟩⟩, ⟨4, (mB 24 16711680), [], ⟨(some 20), none, (.mv (.tmp 1))⟩⟩, ⟨5, (mB 24 16711680), [], ⟨(some 21), none, (.mv (.tmp 5))⟩⟩, ⟨6, (mB 24 13565952), [], ⟨(some 22), none, (.ia 3 (.tmp 20) (.tmp 21))⟩⟩, ⟨7, (mB 24 9371648), [], ⟨(some 23), none, (.load 3 true (.tmp 22))⟩⟩] [⟨(some 24), none, (.eqs true [1, 1, 1] (.tmp 19) (.tmp 23))⟩]) (.cond (.tmp 24) (.seq (.ops [
  ⟨(some 4), none, (.asg (.const (.bool false)))⟩]) .ret) .skip)))) (.ops [
  ⟨(some 25), none, (.bin .add (.tmp 13) (.const (.int .i64 1)))⟩,
  ⟨(some 13), none, (.mv (.tmp 25))⟩]))))))) (.seq (.ops [
  ⟨(some 4), none, (.asg (.const (.bool true)))⟩]) .ret))))
theorem law_slices_Equal_impl_Option_impl_Option {a0 a1 d : D} (h : code_slices_Equal_impl_Option_impl_Option.wp (CT Try.prog NoG) (endQ [(.t 4)] d) [a0, a1, .undef, .undef, .undef, .undef, .undef, .undef, .undef, .undef, .undef, .undef, .undef, .undef, .undef, .undef, .undef, .undef, .undef, .undef, .undef, .undef, .undef, .undef, .undef, .undef]) : Contract Try.prog NoG 39 [a0, a1] d :=
  contract_of noG Try.func39 (fun us W => by kernel_rfl) (c := Try.f39.body.getD .skip) (ms := [(mB 26 67096572)]) (ms' := []) (by kernel_rfl) (by kernel_rfl) (by kernel_rfl) h
theorem v_Equal_Option (xs ys : List Option) (hn : xs.length ≤ 1099511627776) : Contract Try.prog NoG 39 [.sl false 3 (xs.map (Option.td.d false)), .sl false 3 (ys.map (Option.td.d false))] (.v (.bool (decide (xs = ys)))) := by
  refine law_slices_Equal_impl_Option_impl_Option ?_; unfold code_slices_Equal_impl_Option_impl_Option; simp -implicitDefEqProofs (disch := omega) only [go_sem, ↓reduceIte , List.length_map]; refine cond_split ?_ ?_ <;> intro h
  · simp -implicitDefEqProofs (disch := omega) only [go_sem, ↓reduceIte]; have : xs ≠ ys := fun e => by subst e; simp at h
    simp [this]
  · have hl : xs.length = ys.length := (by simp at h; omega); simp -implicitDefEqProofs (disch := omega) only [go_sem, ↓reduceIte]; refine loop_st (fun i : Nat => [.sl false 3 (xs.map (Option.td.d false)), .sl false 3 (ys.map (Option.td.d false)), .undef, .undef, .undef, .undef, .undef, .undef, .undef, .undef, .undef, .undef, .v (.int .i64 xs.length), .v (.int .i64 i), .undef, .undef, .undef, .undef, .undef, .undef, .undef, .undef, .undef, .undef, .undef, .undef]) (fun i => i ≤ xs.length ∧ xs.take i = ys.take i) (fun i => xs.length - i) 0 ?_ ⟨Nat.zero_le _, rfl⟩ ?_
    · simp -implicitDefEqProofs (disch := omega) only [go_sem, ↓reduceIte , List.length_map]
      (try simp -implicitDefEqProofs only [nleL_cc, nleL_nn, nle_self, nle_boxs, nle_aggs, nle_nils, and_self, and_true, true_and]) <;> repeat' (first | exact nle_of_eq rfl | exact nle_nil | apply And.intro | apply nle_sl | apply nleLL_cons | apply nleL_cons | exact nleL_nil | exact nleLL_nil | apply nle_box | apply nle_agg)
    rintro i ⟨hi, ht⟩; simp -implicitDefEqProofs (disch := omega) only [go_sem, ↓reduceIte , List.length_map, Int.toNat_natCast, Int.ofNat_lt, Int.natCast_nonneg, List.getElem?_map, Option.map_some]; refine cond_split ?_ ?_ <;> intro hlt
    · have h1 : i < xs.length := (by simpa using hlt); have h2 : i < ys.length := (by omega); have e1 := List.getElem?_eq_getElem h1; have e2 := List.getElem?_eq_getElem h2; simp -implicitDefEqProofs (disch := omega) only [go_sem, ↓reduceIte , List.length_map, Int.toNat_natCast, Int.ofNat_lt, Int.natCast_nonneg, List.getElem?_map, Option.map_some, h1, h2, e1, e2, Option.td_d, Option.eq_dec]; refine cond_split ?_ ?_ <;> intro hc
      · simp -implicitDefEqProofs (disch := omega) only [go_sem, ↓reduceIte]; have hne : xs[i] ≠ ys[i] := by simpa using hc
        have : xs ≠ ys := fun e => hne (by subst e; rfl); simp [this]
      · simp -implicitDefEqProofs (disch := omega) only [go_sem, ↓reduceIte , wrN]; have heq : xs[i] = ys[i] := by simpa using hc
        refine ⟨i + 1, by omega, ⟨h1, ?_⟩, by (try simp -implicitDefEqProofs only [nleL_cc, nleL_nn, nle_self, nle_boxs, nle_aggs, nle_nils, and_self, and_true, true_and]) <;> repeat' (first | exact nle_of_eq rfl | exact nle_nil | apply And.intro | apply nle_sl | apply nleLL_cons | apply nleL_cons | exact nleL_nil | exact nleLL_nil | apply nle_box | apply nle_agg)⟩; rw [List.take_succ_eq_append_getElem h1, List.take_succ_eq_append_getElem h2, ht, heq]
    · have hge : ¬ i < xs.length := (by simpa using hlt); simp -implicitDefEqProofs (disch := omega) only [go_sem, ↓reduceIte]; have : xs = ys := (by rw [List.take_of_length_le (by omega), List.take_of_length_le (by omega)] at ht; exact ht); simp [this]
theorem proof_dec (a b : Proof) : (decide (a.Kind = b.Kind) && (decide (a.Sequence = b.Sequence) && (decide (a.Other = b.Other) && (decide (a.Part = b.Part) && decide (a.Flows = b.Flows))))) = decide (a = b) := by obtain ⟨a0, a1, a2, a3, a4⟩ := a; obtain ⟨b0, b1, b2, b3, b4⟩ := b; rw [Bool.eq_iff_iff]; simp
theorem entry_dec (a b : Entry) : (decide (a.Name = b.Name) && (decide (a.System = b.System) && (decide (a.End = b.End) && decide (a.Proof = b.Proof)))) = decide (a = b) := by obtain ⟨a0, a1, a2, a3⟩ := a; obtain ⟨b0, b1, b2, b3⟩ := b; rw [Bool.eq_iff_iff]; simp
def proofLen (a : Proof) : Prop := a.Sequence.length ≤ 1048576 ∧ a.Other.length ≤ 1048576 ∧ a.Part.length ≤ 1048576 ∧ a.Flows.length ≤ 1048576 ∧ ∀ x, x ∈ a.Flows → x.length ≤ 1048576
theorem proofLen_of {a : Proof} (h : Proof.cnt a ≤ 1048576) : proofLen a := by
  have h4 := cntL_len (fun x : List Int => x.length) a.Flows; have h5 : Proof.cnt a = a.Sequence.length + a.Other.length + a.Part.length + cntL (fun x : List Int => x.length) a.Flows := rfl; refine ⟨by omega, by omega, by omega, by omega, fun x hx => ?_⟩; obtain ⟨k, hk, rfl⟩ := List.getElem_of_mem hx; have := cntL_mem (fun x : List Int => x.length) a.Flows k hk
  try simp only at this
  omega
def code_impl_SameProof : VCode := (.seq (.ops [
  ⟨(some 2), none, (.box (.tmp 0))⟩,
  ⟨(some 3), none, (.box (.tmp 1))⟩,
  ⟨(some 4), none, (.asg (.const (.bool false)))⟩]) (.seq (.ops [
  ⟨(some 5), none, (.fa 0 (.tmp 2))⟩,
  ⟨(some 6), none, (.load 1 false (.tmp 5))⟩,
  ⟨(some 7), none, (.fa 0 (.tmp 3))⟩,
  ⟨(some 8), none, (.load 1 false (.tmp 7))⟩,
  ⟨(some 9), none, (.bin .eql (.tmp 6) (.tmp 8))⟩,
  ⟨(some 10), none, (.mv (.tmp 9))⟩,
  ⟨(some 11), (some (10, true)), (.fa 1 (.tmp 2))⟩,
  ⟨(some 12), (some (10, true)), (.load 1 false (.tmp 11))⟩,
  ⟨(some 13), (some (10, true)), (.fa 1 (.tmp 3))⟩,
  ⟨(some 14), (some (10, true)), (.load 1 false (.tmp 13))⟩,
  ⟨(some 15), (some (10, true)), (.callX 39 [(.tmp 12), (.tmp 14)])⟩,
  ⟨(some 16), none, (.pick (.tmp 10) (.tmp 15) (.const (.bool false)))⟩,
  ⟨(some 17), none, (.mv (.tmp 16))⟩,
  ⟨(some 18), (some (17, true)), (.fa 2 (.tmp 2))⟩,
  ⟨(some 19), (some (17, true)), (.load 1 false (.tmp 18))⟩,
  ⟨(some 20), (some (17, true)), (.fa 2 (.tmp 3))⟩,
  ⟨(some 21), (some (17, true)), (.load 1 false (.tmp 20))⟩,
  ⟨(some 22), (some (17, true)), (.callX 39 [(.tmp 19), (.tmp 21)])⟩,
  ⟨(some 23), none, (.pick (.tmp 17) (.tmp 22) (.const (.bool false)))⟩,
  ⟨(some 24), none, (.mv (.tmp 23))⟩,
  ⟨(some 25), (some (24, true)), (.fa 3 (.tmp 2))⟩,
  ⟨(some 26), (some (24, true)), (.load 1 false (.tmp 25))⟩,
  ⟨(some 27), (some (24, true)), (.fa 3 (.tmp 3))⟩,
  ⟨(some 28), (some (24, true)), (.load 1 false (.tmp 27))⟩,
  ⟨(some 29), (some (24, true)), (.callX 40 [(.tmp 26), (.tmp 28)])⟩,
  ⟨(some 30), none, (.pick (.tmp 24) (.tmp 29) (.const (.bool false)))⟩,
  ⟨(some 31), none, (.mv (.tmp 30))⟩,
  ⟨(some 32), (some (31, true)), (.fa 4 (.tmp 2))⟩,
  ⟨(some 33), (some (31, true)), (.load 1 false (.tmp 32))⟩,
  ⟨(some 34), (some (31, true)), (.fa 4 (.tmp 3))⟩,
  ⟨(some 35), (some (31, true)), (.load 1 false (.tmp 34))⟩,
  ⟨(some 36), (some (31, true)), (.callX 41 [(.tmp 33), (.tmp 35), (.func 40)])⟩,
  ⟨(some 37), none, (.pick (.tmp 31) (.tmp 36) (.const (.bool false)))⟩,
  ⟨(some 4), none, (.asg (.tmp 37))⟩]) .ret))
theorem law_impl_SameProof {a0 a1 d : D} (h : code_impl_SameProof.wp (CT Try.prog NoG) (endQ [(.t 4)] d) [a0, a1, .undef, .undef, .undef, .undef, .undef, .undef, .undef, .undef, .undef, .undef, .undef, .undef, .undef, .undef, .undef, .undef, .undef, .undef, .undef, .undef, .undef, .undef, .undef, .undef, .undef, .undef, .undef, .undef, .undef, .undef, .undef, .undef, .undef, .undef, .undef, .undef]) : Contract Try.prog NoG 20 [a0, a1] d :=
  contract_of noG Try.func20 (fun us W => by kernel_rfl) (c := Try.f20.body.getD .skip) (ms := []) (ms' := []) (by kernel_rfl) (by kernel_rfl) (by kernel_rfl) h
set_option maxHeartbeats 2000000 in
theorem v_SameProof (a b : Proof) (ha : proofLen a) : Contract Try.prog NoG 20 [.agg (Proof.td.d false a), .agg (Proof.td.d false b)] (.v (.bool (decide (a = b)))) := by
  obtain ⟨l1, l2, l3, l4, l5⟩ := ha; rw [Proof.td_d, Proof.td_d, ← proof_dec]; refine law_impl_SameProof ?_; unfold code_impl_SameProof; simp -implicitDefEqProofs (disch := omega) only [go_sem, ↓reduceIte]; refine guard_split ?_ ?_ <;> intro h0
  · simp -implicitDefEqProofs (disch := omega) only [go_sem, ↓reduceIte , h0]; refine call_leA (v_Equal_Option a.Sequence b.Sequence (by omega)) (by simp -implicitDefEqProofs (disch := omega) only [go_sem, ↓reduceIte, deep, TD.rows, immLL_rI, immLL_rB8, immLL_rS, immLL_rBo, immLL_rII, immLL_rIIt, h0]; exact rfl) (by repeat (first | exact leL_nil | refine leL_cons ?_ ?_ | exact le_of_eq rfl | exact le_iptrN (leL_of_eq rfl) | refine le_agg ?_ | exact le_slf rfl (TD.rows ..) | refine le_iptr ?_ | refine le_fn ?_ ?_)) (by first | exact .inl rfl | exact .inr rfl | exact .inl (by simp only [D.noImm, noImmL, go_sem, TD.nims, TD.nim, nim_rI, nim_rB8, nim_rBo, nim_rS])) ?_; simp -implicitDefEqProofs (disch := omega) only [go_sem, ↓reduceIte , h0]; refine guard_split ?_ ?_ <;> intro h1
    · simp -implicitDefEqProofs (disch := omega) only [go_sem, ↓reduceIte , h0, h1]; refine call_leA (v_Equal_Option a.Other b.Other (by omega)) (by simp -implicitDefEqProofs (disch := omega) only [go_sem, ↓reduceIte, deep, TD.rows, immLL_rI, immLL_rB8, immLL_rS, immLL_rBo, immLL_rII, immLL_rIIt, h0, h1]; exact rfl) (by repeat (first | exact leL_nil | refine leL_cons ?_ ?_ | exact le_of_eq rfl | exact le_iptrN (leL_of_eq rfl) | refine le_agg ?_ | exact le_slf rfl (TD.rows ..) | refine le_iptr ?_ | refine le_fn ?_ ?_)) (by first | exact .inl rfl | exact .inr rfl | exact .inl (by simp only [D.noImm, noImmL, go_sem, TD.nims, TD.nim, nim_rI, nim_rB8, nim_rBo, nim_rS])) ?_; simp -implicitDefEqProofs (disch := omega) only [go_sem, ↓reduceIte , h0, h1]; refine guard_split ?_ ?_ <;> intro h2
      · simp -implicitDefEqProofs (disch := omega) only [go_sem, ↓reduceIte , h0, h1, h2]; refine call_leA (v_Equal_Int64 a.Part b.Part (by omega)) (by simp -implicitDefEqProofs (disch := omega) only [go_sem, ↓reduceIte, deep, TD.rows, immLL_rI, immLL_rB8, immLL_rS, immLL_rBo, immLL_rII, immLL_rIIt, h0, h1, h2]; exact rfl) (by repeat (first | exact leL_nil | refine leL_cons ?_ ?_ | exact le_of_eq rfl | exact le_iptrN (leL_of_eq rfl) | refine le_agg ?_ | exact le_slf rfl (TD.rows ..) | refine le_iptr ?_ | refine le_fn ?_ ?_)) (by first | exact .inl rfl | exact .inr rfl | exact .inl (by simp only [D.noImm, noImmL, go_sem, TD.nims, TD.nim, nim_rI, nim_rB8, nim_rBo, nim_rS])) ?_; simp -implicitDefEqProofs (disch := omega) only [go_sem, ↓reduceIte , h0, h1, h2]; refine guard_split ?_ ?_ <;> intro h3
        · simp -implicitDefEqProofs (disch := omega) only [go_sem, ↓reduceIte , h0, h1, h2, h3]; refine call_leA (v_EqualFunc_Int64S _ a.Flows b.Flows (fun x y hx _ => v_Equal_Int64 x y (Nat.le_trans (l5 x hx) (by decide))) (by omega)) (by simp -implicitDefEqProofs (disch := omega) only [go_sem, ↓reduceIte, deep, TD.rows, immLL_rI, immLL_rB8, immLL_rS, immLL_rBo, immLL_rII, immLL_rIIt, h0, h1, h2, h3]; exact rfl) (by repeat (first | exact leL_nil | refine leL_cons ?_ ?_ | exact le_of_eq rfl | exact le_iptrN (leL_of_eq rfl) | refine le_agg ?_ | exact le_slf rfl (TD.rows ..) | refine le_iptr ?_ | refine le_fn ?_ ?_)) (by first | exact .inl rfl | exact .inr rfl | exact .inl (by simp only [D.noImm, noImmL, go_sem, TD.nims, TD.nim, nim_rI, nim_rB8, nim_rBo, nim_rS])) ?_; simp -implicitDefEqProofs (disch := omega) only [go_sem, ↓reduceIte , h0, h1, h2, h3]
        · simp -implicitDefEqProofs (disch := omega) only [go_sem, ↓reduceIte , h0, h1, h2, h3]
      · simp -implicitDefEqProofs (disch := omega) only [go_sem, ↓reduceIte , h0, h1, h2]
    · simp -implicitDefEqProofs (disch := omega) only [go_sem, ↓reduceIte , h0, h1]
  · simp -implicitDefEqProofs (disch := omega) only [go_sem, ↓reduceIte , h0]
def code_spec_l11SameOptions : VCode := (.seq (.ops [
  ⟨(some 4), none, (.asg (.const (.bool false)))⟩]) (.seq (.seq (.ops [
  ⟨(some 6), none, (.mv (.tmp 0))⟩,
  ⟨(some 7), none, (.len (.tmp 6))⟩,
  ⟨(some 8), none, (.mv (.tmp 1))⟩,
  ⟨(some 9), none, (.len (.tmp 8))⟩,
  ⟨(some 10), none, (.bin .neq (.tmp 7) (.tmp 9))⟩]) (.cond (.tmp 10) (.seq (.ops [
  ⟨(some 4), none, (.asg (.const (.bool false)))⟩]) .ret) .skip)) (.seq (.seq (.ops [
  ⟨(some 5), none, (.asg (.const (.int .i64 0)))⟩]) (.block 0 (.loop (mB 26 67108828) (.seq (.seq (.ops [
  ⟨(some 11), none, (.mv (.tmp 5))⟩,
  ⟨(some 12), none, (.mv (.tmp 0))⟩,
  ⟨(some 13), none, (.len (.tmp 12))⟩,
  ⟨(some 14), none, (.bin .lss (.tmp 11) (.tmp 13))⟩]) (.cond (.tmp 14) .skip (.exit 0))) (.seq (.block 1 (.seq (.draw (mB 25 33423360) [] [⟨0, (mB 25 33423360), [], ⟨(some 17), none, (.mv (.tmp 0))⟩⟩, ⟨1, (mB 25 33423360), [], ⟨(some 18), none, (.mv (.tmp 5))⟩⟩, ⟨2, (mB 25 33030144), [], ⟨(some 19), none, (.ia 3 (.tmp 17) (.tmp 18))⟩⟩, ⟨3, (mB 25 32505856), [], ⟨(some 20), none, (.load 3 true (.tmp 19))⟩⟩, ⟨4, (mB 25 33423360), [], ⟨(some 21), none, (.mv (.tmp 1))⟩⟩, ⟨5, (mB 25 33423360), [], ⟨(some 22), none, (.mv (.tmp 5))⟩⟩, ⟨6, (mB 25 27131904), [], ⟨(some 23), none, (.ia 3 (.tmp 21) (.tmp 22))⟩⟩, ⟨7, (mB 25 18743296), [], ⟨(some 24), none, (.load 3 true (.tmp 23))⟩⟩] [⟨(some 25), none, (.eqs true [1, 1, 1] (.tmp 20) (.tmp 24))⟩]) (.cond (.tmp 25) (.seq (.ops [
  ⟨(some 4), none, (.asg (.const (.bool false)))⟩]) .ret) .skip))) (.ops [
  ⟨(some 15), none, (.mv (.tmp 5))⟩,
  ⟨(some 16), none, (.bin .add (.tmp 15) (.const (.int .i64 1)))⟩,
  ⟨(some 5), none, (.asg (.tmp 16))⟩])))))) (.seq (.ops [
  ⟨(some 4), none, (.asg (.const (.bool true)))⟩]) .ret))))
theorem law_spec_l11SameOptions {a0 a1 d : D} (h : code_spec_l11SameOptions.wp (CT Try.prog NoG) (endQ [(.t 4)] d) [a0, a1, .undef, .undef, .undef, .undef, .undef, .undef, .undef, .undef, .undef, .undef, .undef, .undef, .undef, .undef, .undef, .undef, .undef, .undef, .undef, .undef, .undef, .undef, .undef, .undef]) : Contract Try.prog NoG 30 [a0, a1] d :=
  contract_of noG Try.func30 (fun us W => by kernel_rfl) (c := Try.f30.body.getD .skip) (ms := [(mB 26 67108828)]) (ms' := []) (by kernel_rfl) (by kernel_rfl) (by kernel_rfl) h
def code_spec_SameProof : VCode := (.seq (.ops [
  ⟨(some 2), none, (.box (.tmp 0))⟩,
  ⟨(some 3), none, (.box (.tmp 1))⟩,
  ⟨(some 4), none, (.asg (.const (.bool false)))⟩]) (.seq (.seq (.ops [
  ⟨(some 6), none, (.fa 0 (.tmp 2))⟩,
  ⟨(some 7), none, (.load 1 false (.tmp 6))⟩,
  ⟨(some 8), none, (.fa 0 (.tmp 3))⟩,
  ⟨(some 9), none, (.load 1 false (.tmp 8))⟩,
  ⟨(some 10), none, (.bin .neq (.tmp 7) (.tmp 9))⟩,
  ⟨(some 11), none, (.mv (.tmp 10))⟩,
  ⟨(some 12), (some (11, false)), (.fa 1 (.tmp 2))⟩,
  ⟨(some 13), (some (11, false)), (.load 1 false (.tmp 12))⟩,
  ⟨(some 14), (some (11, false)), (.fa 1 (.tmp 3))⟩,
  ⟨(some 15), (some (11, false)), (.load 1 false (.tmp 14))⟩,
  ⟨(some 16), (some (11, false)), (.callX 30 [(.tmp 13), (.tmp 15)])⟩,
  ⟨(some 17), (some (11, false)), (.un .not (.tmp 16))⟩,
  ⟨(some 18), none, (.pick (.tmp 11) (.const (.bool true)) (.tmp 17))⟩,
  ⟨(some 19), none, (.mv (.tmp 18))⟩,
  ⟨(some 20), (some (19, false)), (.fa 2 (.tmp 2))⟩,
  ⟨(some 21), (some (19, false)), (.load 1 false (.tmp 20))⟩,
  ⟨(some 22), (some (19, false)), (.fa 2 (.tmp 3))⟩,
  ⟨(some 23), (some (19, false)), (.load 1 false (.tmp 22))⟩,
  ⟨(some 24), (some (19, false)), (.callX 30 [(.tmp 21), (.tmp 23)])⟩,
  ⟨(some 25), (some (19, false)), (.un .not (.tmp 24))⟩,
  ⟨(some 26), none, (.pick (.tmp 19) (.const (.bool true)) (.tmp 25))⟩,
  ⟨(some 27), none, (.mv (.tmp 26))⟩,
  ⟨(some 28), (some (27, false)), (.fa 3 (.tmp 2))⟩,
  ⟨(some 29), (some (27, false)), (.load 1 false (.tmp 28))⟩,
  ⟨(some 30), (some (27, false)), (.fa 3 (.tmp 3))⟩,
  ⟨(some 31), (some (27, false)), (.load 1 false (.tmp 30))⟩,
  ⟨(some 32), (some (27, false)), (.callX 31 [(.tmp 29), (.tmp 31)])⟩,
  ⟨(some 33), (some (27, false)), (.un .not (.tmp 32))⟩,
  ⟨(some 34), none, (.pick (.tmp 27) (.const (.bool true)) (.tmp 33))⟩,
  ⟨(some 35), none, (.mv (.tmp 34))⟩,
  ⟨(some 36), (some (35, false)), (.fa 4 (.tmp 2))⟩,
  ⟨(some 37), (some (35, false)), (.load 1 false (.tmp 36))⟩,
  ⟨(some 38), (some (35, false)), (.len (.tmp 37))⟩,
  ⟨(some 39), (some (35, false)), (.fa 4 (.tmp 3))⟩,
  ⟨(some 40), (some (35, false)), (.load 1 false (.tmp 39))⟩,
  ⟨(some 41), (some (35, false)), (.len (.tmp 40))⟩,
  ⟨(some 42), (some (35, false)), (.bin .neq (.tmp 38) (.tmp 41))⟩,
  ⟨(some 43), none, (.pick (.tmp 35) (.const (.bool true)) (.tmp 42))⟩]) (.cond (.tmp 43) (.seq (.ops [
  ⟨(some 4), none, (.asg (.const (.bool false)))⟩]) .ret) .skip)) (.seq (.seq (.ops [
  ⟨(some 5), none, (.asg (.const (.int .i64 0)))⟩]) (.block 0 (.loop (mB 63 9223372036854775763) (.seq (.seq (.ops [
  ⟨(some 44), none, (.mv (.tmp 5))⟩,
  ⟨(some 45), none, (.fa 4 (.tmp 2))⟩,
  ⟨(some 46), none, (.load 1 false (.tmp 45))⟩,
  ⟨(some 47), none, (.len (.tmp 46))⟩,
  ⟨(some 48), none, (.bin .lss (.tmp 44) (.tmp 47))⟩]) (.cond (.tmp 48) .skip (.exit 0))) (.seq (.block 1 (.seq (.draw (mB 61 2303591209400008704) [] [⟨0, (mB 61 2303591209400008704), [], ⟨(some 51), none, (.fa 4 (.tmp 2))⟩⟩, ⟨1, (mB 61 2301339409586323456), [], ⟨(some 52), none, (.load 1 false (.tmp 51))⟩⟩, ⟨2, (mB 61 2303591209400008704), [], ⟨(some 53), none, (.mv (.tmp 5))⟩⟩, ⟨3, (mB 61 2287828610704211968), [], ⟨(some 54), none, (.ia 1 (.tmp 52) (.tmp 53))⟩⟩, ⟨4, (mB 61 2269814212194729984), [], ⟨(some 55), none, (.load 1 false (.tmp 54))⟩⟩, ⟨5, (mB 61 2303591209400008704), [], ⟨(some 56), none, (.fa 4 (.tmp 3))⟩⟩, ⟨6, (mB 61 2231533615362080768), [], ⟨(some 57), none, (.load 1 false (.tmp 56))⟩⟩, ⟨7, (mB 61 2303591209400008704), [], ⟨(some 58), none, (.mv (.tmp 5))⟩⟩, ⟨8, (mB 61 1799188051134513152), [], ⟨(some 59), none, (.ia 1 (.tmp 57) (.tmp 58))⟩⟩, ⟨9, (mB 61 1222727298831089664), [], ⟨(some 60), none, (.load 1 false (.tmp 59))⟩⟩] [⟨(some 61), none, (.callX 31 [(.tmp 55), (.tmp 60)])⟩, ⟨(some 62), none, (.un .not (.tmp 61))⟩]) (.cond (.tmp 62) (.seq (.ops [
  ⟨(some 4), none, (.asg (.const (.bool false)))⟩]) .ret) .skip))) (.ops [
  ⟨(some 49), none, (.mv (.tmp 5))⟩,
  ⟨(some 50), none, (.bin .add (.tmp 49) (.const (.int .i64 1)))⟩,
  ⟨(some 5), none, (.asg (.tmp 50))⟩])))))) (.seq (.ops [
  ⟨(some 4), none, (.asg (.const (.bool true)))⟩]) .ret))))
theorem law_spec_SameProof {a0 a1 d : D} (h : code_spec_SameProof.wp (CT Try.prog NoG) (endQ [(.t 4)] d) [a0, a1, .undef, .undef, .undef, .undef, .undef, .undef, .undef, .undef, .undef, .undef, .undef, .undef, .undef, .undef, .undef, .undef, .undef, .undef, .undef, .undef, .undef, .undef, .undef, .undef, .undef, .undef, .undef, .undef, .undef, .undef, .undef, .undef, .undef, .undef, .undef, .undef, .undef, .undef, .undef, .undef, .undef, .undef, .undef, .undef, .undef, .undef, .undef, .undef, .undef, .undef, .undef, .undef, .undef, .undef, .undef, .undef, .undef, .undef, .undef, .undef, .undef]) : Contract Try.prog NoG 14 [a0, a1] d :=
  contract_of noG Try.func14 (fun us W => by kernel_rfl) (c := Try.f14.body.getD .skip) (ms := [(mB 63 9223372036854775763)]) (ms' := []) (by kernel_rfl) (by kernel_rfl) (by kernel_rfl) h
theorem v_l11SameOptions (xs ys : List Option) (hl : xs.length ≤ 1048576) : Contract Try.prog NoG 30 [.sl false 3 (xs.map (Option.td.d false)), .sl false 3 (ys.map (Option.td.d false))] (.v (.bool (decide (xs = ys)))) := by
  refine law_spec_l11SameOptions ?_; unfold code_spec_l11SameOptions; simp -implicitDefEqProofs (disch := omega) only [go_sem, ↓reduceIte , List.length_map]; refine cond_split ?_ ?_ <;> intro h
  · simp -implicitDefEqProofs (disch := omega) only [go_sem, ↓reduceIte]; have : xs ≠ ys := fun e => by subst e; simp at h
    simp [this]
  · have hl : xs.length = ys.length := (by simp at h; omega); simp -implicitDefEqProofs (disch := omega) only [go_sem, ↓reduceIte]; refine loop_st (fun i : Nat => [.sl false 3 (xs.map (Option.td.d false)), .sl false 3 (ys.map (Option.td.d false)), .undef, .undef, .undef, .v (.int .i64 i), .undef, .undef, .undef, .undef, .undef, .undef, .undef, .undef, .undef, .undef, .undef, .undef, .undef, .undef, .undef, .undef, .undef, .undef, .undef, .undef]) (fun i => i ≤ xs.length ∧ xs.take i = ys.take i) (fun i => xs.length - i) 0 (by (try simp -implicitDefEqProofs only [nleL_cc, nleL_nn, nle_self, nle_boxs, nle_aggs, nle_nils, and_self, and_true, true_and]) <;> repeat' (first | exact nle_of_eq rfl | exact nle_nil | apply And.intro | apply nle_sl | apply nleLL_cons | apply nleL_cons | exact nleL_nil | exact nleLL_nil | apply nle_box | apply nle_agg)) ⟨Nat.zero_le _, rfl⟩ ?_; rintro i ⟨hi, ht⟩; simp -implicitDefEqProofs (disch := omega) only [go_sem, ↓reduceIte , List.length_map, Int.toNat_natCast, Int.ofNat_lt, Int.natCast_nonneg, List.getElem?_map, Option.map_some]; refine cond_split ?_ ?_ <;> intro hlt
    · have h1 : i < xs.length := (by simpa using hlt); have h2 : i < ys.length := (by omega); have e1 := List.getElem?_eq_getElem h1; have e2 := List.getElem?_eq_getElem h2; simp -implicitDefEqProofs (disch := omega) only [go_sem, ↓reduceIte , List.length_map, Int.toNat_natCast, Int.ofNat_lt, Int.natCast_nonneg, List.getElem?_map, Option.map_some, h1, h2, e1, e2, Option.td_d, Option.eq_dec]; refine cond_split ?_ ?_ <;> intro hc
      · simp -implicitDefEqProofs (disch := omega) only [go_sem, ↓reduceIte]; have hne : xs[i] ≠ ys[i] := by simpa using hc
        have : xs ≠ ys := fun e => hne (by subst e; rfl); simp [this]
      · simp -implicitDefEqProofs (disch := omega) only [go_sem, ↓reduceIte , wrN]; have heq : xs[i] = ys[i] := by simpa using hc
        refine ⟨i + 1, by omega, ⟨h1, ?_⟩, by (try simp -implicitDefEqProofs only [nleL_cc, nleL_nn, nle_self, nle_boxs, nle_aggs, nle_nils, and_self, and_true, true_and]) <;> repeat' (first | exact nle_of_eq rfl | exact nle_nil | apply And.intro | apply nle_sl | apply nleLL_cons | apply nleL_cons | exact nleL_nil | exact nleLL_nil | apply nle_box | apply nle_agg)⟩; rw [List.take_succ_eq_append_getElem h1, List.take_succ_eq_append_getElem h2, ht, heq]
    · have hge : ¬ i < xs.length := (by simpa using hlt); simp -implicitDefEqProofs (disch := omega) only [go_sem, ↓reduceIte]; have : xs = ys := (by rw [List.take_of_length_le (by omega), List.take_of_length_le (by omega)] at ht; exact ht); simp [this]
set_option maxHeartbeats 2000000 in
theorem v_SameProof_spec (a b : Proof) (ha : proofLen a) : Contract Try.prog NoG 14 [.agg (Proof.td.d false a), .agg (Proof.td.d false b)] (.v (.bool (decide (a = b)))) := by
  obtain ⟨l1, l2, l3, l4, l5⟩ := ha; rw [← proof_dec]; rw [Proof.td_d, Proof.td_d]; refine law_spec_SameProof ?_; unfold code_spec_SameProof; simp -implicitDefEqProofs (disch := omega) only [go_sem, ↓reduceIte]; refine guard_split ?_ ?_ <;> intro h0
  · simp -implicitDefEqProofs (disch := omega) only [go_sem, ↓reduceIte , h0]; have h0 : decide (a.Kind = b.Kind) = false := by simpa using h0
    simp [h0]
  · simp -implicitDefEqProofs (disch := omega) only [go_sem, ↓reduceIte , h0]; have h0' : decide (a.Kind = b.Kind) = true := by simpa using h0
    refine call_leA (v_l11SameOptions a.Sequence b.Sequence l1) (by simp -implicitDefEqProofs (disch := omega) only [go_sem, ↓reduceIte, deep, TD.rows, immLL_rI, immLL_rB8, immLL_rS, immLL_rBo, immLL_rII, immLL_rIIt, h0]; exact rfl) (by repeat (first | exact leL_nil | refine leL_cons ?_ ?_ | exact le_of_eq rfl | exact le_iptrN (leL_of_eq rfl) | refine le_agg ?_ | exact le_slf rfl (TD.rows ..) | refine le_iptr ?_ | refine le_fn ?_ ?_)) (by first | exact .inl rfl | exact .inr rfl | exact .inl (by simp only [D.noImm, noImmL, go_sem, TD.nims, TD.nim, nim_rI, nim_rB8, nim_rBo, nim_rS])) ?_; simp -implicitDefEqProofs (disch := omega) only [go_sem, ↓reduceIte , h0]; refine guard_split ?_ ?_ <;> intro h1
    · simp -implicitDefEqProofs (disch := omega) only [go_sem, ↓reduceIte , h0, h1]; have h1 : decide (a.Sequence = b.Sequence) = false := by simpa using h1
      simp [h1]
    · simp -implicitDefEqProofs (disch := omega) only [go_sem, ↓reduceIte , h0, h1]; have h1' : decide (a.Sequence = b.Sequence) = true := by simpa using h1
      refine call_leA (v_l11SameOptions a.Other b.Other l2) (by simp -implicitDefEqProofs (disch := omega) only [go_sem, ↓reduceIte, deep, TD.rows, immLL_rI, immLL_rB8, immLL_rS, immLL_rBo, immLL_rII, immLL_rIIt, h0, h1]; exact rfl) (by repeat (first | exact leL_nil | refine leL_cons ?_ ?_ | exact le_of_eq rfl | exact le_iptrN (leL_of_eq rfl) | refine le_agg ?_ | exact le_slf rfl (TD.rows ..) | refine le_iptr ?_ | refine le_fn ?_ ?_)) (by first | exact .inl rfl | exact .inr rfl | exact .inl (by simp only [D.noImm, noImmL, go_sem, TD.nims, TD.nim, nim_rI, nim_rB8, nim_rBo, nim_rS])) ?_; simp -implicitDefEqProofs (disch := omega) only [go_sem, ↓reduceIte , h0, h1]; refine guard_split ?_ ?_ <;> intro h2
      · simp -implicitDefEqProofs (disch := omega) only [go_sem, ↓reduceIte , h0, h1, h2]; have h2 : decide (a.Other = b.Other) = false := by simpa using h2
        simp [h2]
      · simp -implicitDefEqProofs (disch := omega) only [go_sem, ↓reduceIte , h0, h1, h2]; have h2' : decide (a.Other = b.Other) = true := by simpa using h2
        refine call_leA (v_l00Same a.Part b.Part l3) (by simp -implicitDefEqProofs (disch := omega) only [go_sem, ↓reduceIte, deep, TD.rows, immLL_rI, immLL_rB8, immLL_rS, immLL_rBo, immLL_rII, immLL_rIIt, h0, h1, h2]; exact rfl) (by repeat (first | exact leL_nil | refine leL_cons ?_ ?_ | exact le_of_eq rfl | exact le_iptrN (leL_of_eq rfl) | refine le_agg ?_ | exact le_slf rfl (TD.rows ..) | refine le_iptr ?_ | refine le_fn ?_ ?_)) (by first | exact .inl rfl | exact .inr rfl | exact .inl (by simp only [D.noImm, noImmL, go_sem, TD.nims, TD.nim, nim_rI, nim_rB8, nim_rBo, nim_rS])) ?_; simp -implicitDefEqProofs (disch := omega) only [go_sem, ↓reduceIte , h0, h1, h2]; refine guard_split ?_ ?_ <;> intro h3
        · simp -implicitDefEqProofs (disch := omega) only [go_sem, ↓reduceIte , h0, h1, h2, h3]; have h3 : decide (a.Part = b.Part) = false := by simpa using h3
          simp [h3]
        · simp -implicitDefEqProofs (disch := omega) only [go_sem, ↓reduceIte , h0, h1, h2, h3, List.length_map]; have h3' : decide (a.Part = b.Part) = true := by simpa using h3
          refine cond_split ?_ ?_ <;> intro h4
          · simp -implicitDefEqProofs (disch := omega) only [go_sem, ↓reduceIte]; have : a.Flows ≠ b.Flows := fun e => by simp [e] at h4
            simp [this]
          · have hl : a.Flows.length = b.Flows.length := (by simp at h4; omega); simp -implicitDefEqProofs (disch := omega) only [go_sem, ↓reduceIte]; refine loop_st (fun i : Nat => [.undef, .undef, .box none (Proof.td.d false a), .box none (Proof.td.d false b), .undef, .v (.int .i64 i), .undef, .undef, .undef, .undef, .undef, .undef, .undef, .undef, .undef, .undef, .undef, .undef, .undef, .undef, .undef, .undef, .undef, .undef, .undef, .undef, .undef, .undef, .undef, .undef, .undef, .undef, .undef, .undef, .undef, .undef, .undef, .undef, .undef, .undef, .undef, .undef, .undef, .undef, .undef, .undef, .undef, .undef, .undef, .undef, .undef, .undef, .undef, .undef, .undef, .undef, .undef, .undef, .undef, .undef, .undef, .undef, .undef]) (fun i => i ≤ a.Flows.length ∧ a.Flows.take i = b.Flows.take i) (fun i => a.Flows.length - i) 0 (by (try simp -implicitDefEqProofs only [nleL_cc, nleL_nn, nle_self, nle_boxs, nle_aggs, nle_nils, and_self, and_true, true_and]) <;> repeat' (first | exact nle_of_eq rfl | exact nle_nil | apply And.intro | apply nle_sl | apply nleLL_cons | apply nleL_cons | exact nleL_nil | exact nleLL_nil | apply nle_box | apply nle_agg)) ⟨Nat.zero_le _, rfl⟩ ?_; rintro i ⟨hi, ht⟩; simp -implicitDefEqProofs (disch := omega) only [go_sem, ↓reduceIte , List.length_map, Int.toNat_natCast, Int.ofNat_lt, Int.natCast_nonneg, List.getElem?_map, Option.map_some, Proof.td_d]; refine cond_split ?_ ?_ <;> intro hlt
            · have h5 : i < a.Flows.length := (by simpa using hlt); have h6 : i < b.Flows.length := (by omega); have e1 := List.getElem?_eq_getElem h5; have e2 := List.getElem?_eq_getElem h6; simp -implicitDefEqProofs (disch := omega) only [go_sem, ↓reduceIte , List.length_map, Int.toNat_natCast, Int.ofNat_lt, Int.natCast_nonneg, List.getElem?_map, Option.map_some, h5, h6, e1, e2]; refine call_leA (v_l00Same a.Flows[i] b.Flows[i] (l5 _ (List.getElem_mem h5))) (by simp -implicitDefEqProofs (disch := omega) only [go_sem, ↓reduceIte, deep, TD.rows, immLL_rI, immLL_rB8, immLL_rS, immLL_rBo, immLL_rII, immLL_rIIt]; exact rfl) (by repeat (first | exact leL_nil | refine leL_cons ?_ ?_ | exact le_of_eq rfl | exact le_iptrN (leL_of_eq rfl) | refine le_agg ?_ | exact le_slf rfl (TD.rows ..) | refine le_iptr ?_ | refine le_fn ?_ ?_)) (by first | exact .inl rfl | exact .inr rfl | exact .inl (by simp only [D.noImm, noImmL, go_sem, TD.nims, TD.nim, nim_rI, nim_rB8, nim_rBo, nim_rS])) ?_; simp -implicitDefEqProofs (disch := omega) only [go_sem, ↓reduceIte]; refine cond_split ?_ ?_ <;> intro hc
              · simp -implicitDefEqProofs (disch := omega) only [go_sem, ↓reduceIte]; have hne : a.Flows[i] ≠ b.Flows[i] := by simpa using hc
                have : a.Flows ≠ b.Flows := fun e => hne (by simp [e]); simp [this]
              · simp -implicitDefEqProofs (disch := omega) only [go_sem, ↓reduceIte , wrN]; have heq : a.Flows[i] = b.Flows[i] := by simpa using hc
                refine ⟨i + 1, by omega, ⟨h5, ?_⟩, by (try simp -implicitDefEqProofs only [nleL_cc, nleL_nn, nle_self, nle_boxs, nle_aggs, nle_nils, and_self, and_true, true_and]) <;> repeat' (first | exact nle_of_eq rfl | exact nle_nil | apply And.intro | apply nle_sl | apply nleLL_cons | apply nleL_cons | exact nleL_nil | exact nleLL_nil | apply nle_box | apply nle_agg)⟩; rw [List.take_succ_eq_append_getElem h5, List.take_succ_eq_append_getElem h6, ht, heq]
            · have hge : ¬ i < a.Flows.length := (by simpa using hlt); simp -implicitDefEqProofs (disch := omega) only [go_sem, ↓reduceIte]; have : a.Flows = b.Flows := (by rw [List.take_of_length_le (by omega), List.take_of_length_le (by omega)] at ht; exact ht); simp [h0', h1', h2', h3', this]
def sameEntryR (a b : Entry) : Bool := decide (a = b)
theorem entry_lens {q : Entry} (h : Entry.cnt q ≤ 1048576) : sysLen q.System ∧ q.End.Tiles.length ≤ 1048576 ∧ proofLen q.Proof := by have hc : Entry.cnt q = q.Name.size + System.cnt q.System + Assembly.cnt q.End + Proof.cnt q.Proof := rfl; have hd : Assembly.cnt q.End = q.End.Tiles.length := rfl; exact ⟨sysLen_of (by omega), by omega, proofLen_of (by omega)⟩
def code_impl_SameEntry : VCode := (.seq (.ops [
  ⟨(some 2), none, (.box (.tmp 0))⟩,
  ⟨(some 3), none, (.box (.tmp 1))⟩,
  ⟨(some 4), none, (.asg (.const (.bool false)))⟩]) (.seq (.ops [
  ⟨(some 5), none, (.fa 0 (.tmp 2))⟩,
  ⟨(some 6), none, (.load 1 false (.tmp 5))⟩,
  ⟨(some 7), none, (.fa 0 (.tmp 3))⟩,
  ⟨(some 8), none, (.load 1 false (.tmp 7))⟩,
  ⟨(some 9), none, (.bin .eql (.tmp 6) (.tmp 8))⟩,
  ⟨(some 10), none, (.mv (.tmp 9))⟩,
  ⟨(some 11), (some (10, true)), (.fa 1 (.tmp 2))⟩,
  ⟨(some 12), (some (10, true)), (.load 4 true (.tmp 11))⟩,
  ⟨(some 13), (some (10, true)), (.fa 1 (.tmp 3))⟩,
  ⟨(some 14), (some (10, true)), (.load 4 true (.tmp 13))⟩,
  ⟨(some 15), (some (10, true)), (.callX 18 [(.tmp 12), (.tmp 14)])⟩,
  ⟨(some 16), none, (.pick (.tmp 10) (.tmp 15) (.const (.bool false)))⟩,
  ⟨(some 17), none, (.mv (.tmp 16))⟩,
  ⟨(some 18), (some (17, true)), (.fa 5 (.tmp 2))⟩,
  ⟨(some 19), (some (17, true)), (.load 1 true (.tmp 18))⟩,
  ⟨(some 20), (some (17, true)), (.fa 5 (.tmp 3))⟩,
  ⟨(some 21), (some (17, true)), (.load 1 true (.tmp 20))⟩,
  ⟨(some 22), (some (17, true)), (.callX 19 [(.tmp 19), (.tmp 21)])⟩,
  ⟨(some 23), none, (.pick (.tmp 17) (.tmp 22) (.const (.bool false)))⟩,
  ⟨(some 24), none, (.mv (.tmp 23))⟩,
  ⟨(some 25), (some (24, true)), (.fa 6 (.tmp 2))⟩,
  ⟨(some 26), (some (24, true)), (.load 5 true (.tmp 25))⟩,
  ⟨(some 27), (some (24, true)), (.fa 6 (.tmp 3))⟩,
  ⟨(some 28), (some (24, true)), (.load 5 true (.tmp 27))⟩,
  ⟨(some 29), (some (24, true)), (.callX 20 [(.tmp 26), (.tmp 28)])⟩,
  ⟨(some 30), none, (.pick (.tmp 24) (.tmp 29) (.const (.bool false)))⟩,
  ⟨(some 4), none, (.asg (.tmp 30))⟩]) .ret))
theorem law_impl_SameEntry {a0 a1 d : D} (h : code_impl_SameEntry.wp (CT Try.prog NoG) (endQ [(.t 4)] d) [a0, a1, .undef, .undef, .undef, .undef, .undef, .undef, .undef, .undef, .undef, .undef, .undef, .undef, .undef, .undef, .undef, .undef, .undef, .undef, .undef, .undef, .undef, .undef, .undef, .undef, .undef, .undef, .undef, .undef, .undef]) : Contract Try.prog NoG 7 [a0, a1] d :=
  contract_of noG Try.func7 (fun us W => by kernel_rfl) (c := Try.f7.body.getD .skip) (ms := []) (ms' := []) (by kernel_rfl) (by kernel_rfl) (by kernel_rfl) h
set_option maxHeartbeats 2000000 in
theorem vSameEntry_impl (q_aA : Entry) (q_aA_ok : Entry.td.ok q_aA) (q_aA_n : Entry.cnt q_aA ≤ 1048576) (q_aB : Entry) (q_aB_ok : Entry.td.ok q_aB) (q_aB_n : Entry.cnt q_aB ≤ 1048576) : Contract Try.prog NoG 7 [.agg (Entry.td.d false q_aA), .agg (Entry.td.d false q_aB)] (.v (.bool (sameEntryR q_aA q_aB))) := by
  obtain ⟨l1, l2, l3⟩ := entry_lens q_aA_n; unfold sameEntryR; rw [Entry.td_d, Entry.td_d, ← entry_dec]; refine law_impl_SameEntry ?_; unfold code_impl_SameEntry; simp -implicitDefEqProofs (disch := omega) only [go_sem, ↓reduceIte]; refine guard_split ?_ ?_ <;> intro h0
  · simp -implicitDefEqProofs (disch := omega) only [go_sem, ↓reduceIte , h0]; refine call_le (v_SameSystem q_aA.System q_aB.System l1) (leL_of_eq (by simp -implicitDefEqProofs (disch := omega) only [go_sem, ↓reduceIte, deep, TD.rows, immLL_rI, immLL_rB8, immLL_rS, immLL_rBo, System.td_d])) (by first | exact .inl rfl | exact .inr rfl | exact .inl (by simp only [D.noImm, noImmL, go_sem, TD.nims, TD.nim, nim_rI, nim_rB8, nim_rBo, nim_rS])) ?_; simp -implicitDefEqProofs (disch := omega) only [go_sem, ↓reduceIte , h0]; refine guard_split ?_ ?_ <;> intro h1
    · simp -implicitDefEqProofs (disch := omega) only [go_sem, ↓reduceIte , h0, h1]; refine call_le (v_SameAssembly q_aA.End q_aB.End l2) (leL_of_eq (by simp -implicitDefEqProofs (disch := omega) only [go_sem, ↓reduceIte, deep, TD.rows, immLL_rI, immLL_rB8, immLL_rS, immLL_rBo, Assembly.td_d])) (by first | exact .inl rfl | exact .inr rfl | exact .inl (by simp only [D.noImm, noImmL, go_sem, TD.nims, TD.nim, nim_rI, nim_rB8, nim_rBo, nim_rS])) ?_; simp -implicitDefEqProofs (disch := omega) only [go_sem, ↓reduceIte , h0, h1]; refine guard_split ?_ ?_ <;> intro h2
      · simp -implicitDefEqProofs (disch := omega) only [go_sem, ↓reduceIte , h0, h1, h2]; refine call_le (v_SameProof q_aA.Proof q_aB.Proof l3) (leL_of_eq (by simp -implicitDefEqProofs (disch := omega) only [go_sem, ↓reduceIte, deep, TD.rows, immLL_rI, immLL_rB8, immLL_rS, immLL_rBo, Proof.td_d, immLL_rII])) (by first | exact .inl rfl | exact .inr rfl | exact .inl (by simp only [D.noImm, noImmL, go_sem, TD.nims, TD.nim, nim_rI, nim_rB8, nim_rBo, nim_rS])) ?_; simp -implicitDefEqProofs (disch := omega) only [go_sem, ↓reduceIte , h0, h1, h2]
      · simp -implicitDefEqProofs (disch := omega) only [go_sem, ↓reduceIte , h0, h1, h2]
    · simp -implicitDefEqProofs (disch := omega) only [go_sem, ↓reduceIte , h0, h1]
  · simp -implicitDefEqProofs (disch := omega) only [go_sem, ↓reduceIte , h0]
def code_spec_SameEntry : VCode := (.seq (.ops [
  ⟨(some 2), none, (.box (.tmp 0))⟩,
  ⟨(some 3), none, (.box (.tmp 1))⟩,
  ⟨(some 4), none, (.asg (.const (.bool false)))⟩]) (.seq (.ops [
  ⟨(some 5), none, (.fa 0 (.tmp 2))⟩,
  ⟨(some 6), none, (.load 1 false (.tmp 5))⟩,
  ⟨(some 7), none, (.fa 0 (.tmp 3))⟩,
  ⟨(some 8), none, (.load 1 false (.tmp 7))⟩,
  ⟨(some 9), none, (.bin .eql (.tmp 6) (.tmp 8))⟩,
  ⟨(some 10), none, (.mv (.tmp 9))⟩,
  ⟨(some 11), (some (10, true)), (.fa 1 (.tmp 2))⟩,
  ⟨(some 12), (some (10, true)), (.load 4 true (.tmp 11))⟩,
  ⟨(some 13), (some (10, true)), (.fa 1 (.tmp 3))⟩,
  ⟨(some 14), (some (10, true)), (.load 4 true (.tmp 13))⟩,
  ⟨(some 15), (some (10, true)), (.callX 12 [(.tmp 12), (.tmp 14)])⟩,
  ⟨(some 16), none, (.pick (.tmp 10) (.tmp 15) (.const (.bool false)))⟩,
  ⟨(some 17), none, (.mv (.tmp 16))⟩,
  ⟨(some 18), (some (17, true)), (.fa 5 (.tmp 2))⟩,
  ⟨(some 19), (some (17, true)), (.fa 5 (.tmp 3))⟩,
  ⟨(some 20), (some (17, true)), (.callX 13 [(.tmp 18), (.tmp 19)])⟩,
  ⟨(some 21), none, (.pick (.tmp 17) (.tmp 20) (.const (.bool false)))⟩,
  ⟨(some 22), none, (.mv (.tmp 21))⟩,
  ⟨(some 23), (some (22, true)), (.fa 6 (.tmp 2))⟩,
  ⟨(some 24), (some (22, true)), (.load 5 true (.tmp 23))⟩,
  ⟨(some 25), (some (22, true)), (.fa 6 (.tmp 3))⟩,
  ⟨(some 26), (some (22, true)), (.load 5 true (.tmp 25))⟩,
  ⟨(some 27), (some (22, true)), (.callX 14 [(.tmp 24), (.tmp 26)])⟩,
  ⟨(some 28), none, (.pick (.tmp 22) (.tmp 27) (.const (.bool false)))⟩,
  ⟨(some 4), none, (.asg (.tmp 28))⟩]) .ret))
theorem law_spec_SameEntry {a0 a1 d : D} (h : code_spec_SameEntry.wp (CT Try.prog NoG) (endQ [(.t 4)] d) [a0, a1, .undef, .undef, .undef, .undef, .undef, .undef, .undef, .undef, .undef, .undef, .undef, .undef, .undef, .undef, .undef, .undef, .undef, .undef, .undef, .undef, .undef, .undef, .undef, .undef, .undef, .undef, .undef]) : Contract Try.prog NoG 5 [a0, a1] d :=
  contract_of noG Try.func5 (fun us W => by kernel_rfl) (c := Try.f5.body.getD .skip) (ms := []) (ms' := []) (by kernel_rfl) (by kernel_rfl) (by kernel_rfl) h
set_option maxHeartbeats 2000000 in
theorem vSameEntry_spec (q_aA : Entry) (q_aA_ok : Entry.td.ok q_aA) (q_aA_n : Entry.cnt q_aA ≤ 1048576) (q_aB : Entry) (q_aB_ok : Entry.td.ok q_aB) (q_aB_n : Entry.cnt q_aB ≤ 1048576) : Contract Try.prog NoG 5 [.agg (Entry.td.d false q_aA), .agg (Entry.td.d false q_aB)] (.v (.bool (sameEntryR q_aA q_aB))) := by
  obtain ⟨l1, l2, l3⟩ := entry_lens q_aA_n; unfold sameEntryR; rw [Entry.td_d, Entry.td_d, ← entry_dec]; refine law_spec_SameEntry ?_; unfold code_spec_SameEntry; simp -implicitDefEqProofs (disch := omega) only [go_sem, ↓reduceIte]; refine guard_split ?_ ?_ <;> intro h0
  · simp -implicitDefEqProofs (disch := omega) only [go_sem, ↓reduceIte , h0]; refine call_leA (v_SameSystem_spec q_aA.System q_aB.System l1) (by simp -implicitDefEqProofs (disch := omega) only [go_sem, ↓reduceIte, deep, TD.rows, immLL_rI, immLL_rB8, immLL_rS, immLL_rBo, immLL_rII, immLL_rIIt, h0]; exact rfl) (by repeat (first | exact leL_nil | refine leL_cons ?_ ?_ | exact le_of_eq rfl | exact le_iptrN (leL_of_eq rfl) | refine le_agg ?_ | exact le_slf rfl (TD.rows ..) | refine le_iptr ?_ | refine le_fn ?_ ?_)) (by first | exact .inl rfl | exact .inr rfl | exact .inl (by simp only [D.noImm, noImmL, go_sem, TD.nims, TD.nim, nim_rI, nim_rB8, nim_rBo, nim_rS])) ?_; simp -implicitDefEqProofs (disch := omega) only [go_sem, ↓reduceIte , h0]; refine guard_split ?_ ?_ <;> intro h1
    · simp -implicitDefEqProofs (disch := omega) only [go_sem, ↓reduceIte , h0, h1]; refine call_leA (v_l03Same q_aA.End q_aB.End l2) (by simp -implicitDefEqProofs (disch := omega) only [go_sem, ↓reduceIte, deep, TD.rows, immLL_rI, immLL_rB8, immLL_rS, immLL_rBo, immLL_rII, immLL_rIIt, h0, h1]; exact rfl) (by repeat (first | exact leL_nil | refine leL_cons ?_ ?_ | exact le_of_eq rfl | exact le_iptrN (leL_of_eq rfl) | refine le_agg ?_ | exact le_slf rfl (TD.rows ..) | refine le_iptr ?_ | refine le_fn ?_ ?_)) (by first | exact .inl rfl | exact .inr rfl | exact .inl (by simp only [D.noImm, noImmL, go_sem, TD.nims, TD.nim, nim_rI, nim_rB8, nim_rBo, nim_rS])) ?_; simp -implicitDefEqProofs (disch := omega) only [go_sem, ↓reduceIte , h0, h1]; refine guard_split ?_ ?_ <;> intro h2
      · simp -implicitDefEqProofs (disch := omega) only [go_sem, ↓reduceIte , h0, h1, h2]; refine call_leA (v_SameProof_spec q_aA.Proof q_aB.Proof l3) (by simp -implicitDefEqProofs (disch := omega) only [go_sem, ↓reduceIte, deep, TD.rows, immLL_rI, immLL_rB8, immLL_rS, immLL_rBo, immLL_rII, immLL_rIIt, h0, h1, h2]; exact rfl) (by repeat (first | exact leL_nil | refine leL_cons ?_ ?_ | exact le_of_eq rfl | exact le_iptrN (leL_of_eq rfl) | refine le_agg ?_ | exact le_slf rfl (TD.rows ..) | refine le_iptr ?_ | refine le_fn ?_ ?_)) (by first | exact .inl rfl | exact .inr rfl | exact .inl (by simp only [D.noImm, noImmL, go_sem, TD.nims, TD.nim, nim_rI, nim_rB8, nim_rBo, nim_rS])) ?_; simp -implicitDefEqProofs (disch := omega) only [go_sem, ↓reduceIte , h0, h1, h2]
      · simp -implicitDefEqProofs (disch := omega) only [go_sem, ↓reduceIte , h0, h1, h2]
    · simp -implicitDefEqProofs (disch := omega) only [go_sem, ↓reduceIte , h0, h1]
  · simp -implicitDefEqProofs (disch := omega) only [go_sem, ↓reduceIte , h0]
def code_laws_toGlue : VCode := (.seq (.ops [
  ⟨(some 1), none, (.box (.tmp 0))⟩,
  ⟨(some 2), none, (.alloc [(.string ⟨⟨[]⟩⟩), (.int .i64 0)])⟩]) (.seq (.ops [
  ⟨(some 3), none, (.alloc [(.string ⟨⟨[]⟩⟩), (.int .i64 0)])⟩]) (.seq (.ops [
  ⟨(some 4), none, (.fa 0 (.tmp 1))⟩,
  ⟨(some 5), none, (.load 1 false (.tmp 4))⟩,
  ⟨(some 6), none, (.fa 0 (.tmp 3))⟩,
  ⟨none, none, (.store 1 (.tmp 6) (.tmp 5))⟩]) (.seq (.ops [
  ⟨(some 7), none, (.fa 1 (.tmp 1))⟩,
  ⟨(some 8), none, (.load 1 false (.tmp 7))⟩,
  ⟨(some 9), none, (.fa 1 (.tmp 3))⟩,
  ⟨none, none, (.store 1 (.tmp 9) (.tmp 8))⟩]) (.seq (.ops [
  ⟨(some 10), none, (.load 2 true (.tmp 3))⟩,
  ⟨none, none, (.store 2 (.tmp 2) (.tmp 10))⟩]) .ret)))))
theorem law_laws_toGlue {a0 d : D} (h : code_laws_toGlue.wp (CT Try.prog NoG) (endQ [(.c 2 2 true)] d) [a0, .undef, .undef, .undef, .undef, .undef, .undef, .undef, .undef, .undef, .undef]) : Contract Try.prog NoG 62 [a0] d :=
  contract_of noG Try.func62 (fun us W => by kernel_rfl) (c := Try.f62.body.getD .skip) (ms := []) (ms' := []) (by kernel_rfl) (by kernel_rfl) (by kernel_rfl) h
set_option maxHeartbeats 2000000 in
theorem v_toGlue (q : Glue) (hn : Glue.cnt q ≤ 1048576) : Contract Try.prog NoG 62 [.agg (Glue.td.d false q)] (.agg (Glue.td.d true q)) := by rw [Glue.td_d, Glue.td_d]; refine law_laws_toGlue ?_; unfold code_laws_toGlue; have hn0 := hn; unfold Glue.cnt at hn; simp -implicitDefEqProofs (disch := omega) only [go_sem, ↓reduceIte]
def code_laws_toGlueS : VCode := (.seq (.ops [
  ⟨(some 2), none, (.asg (.const (.slice none 0 0)))⟩]) (.seq (.ops [
  ⟨(some 5), none, (.mv (.tmp 0))⟩,
  ⟨(some 6), none, (.len (.tmp 5))⟩,
  ⟨(some 7), none, (.mks 2 24 [(.string ⟨⟨[]⟩⟩), (.int .i64 0)] (.tmp 6) (.tmp 6))⟩,
  ⟨(some 3), none, (.asg (.tmp 7))⟩]) (.seq (.seq (.ops [
  ⟨(some 4), none, (.asg (.const (.int .i64 0)))⟩]) (.block 0 (.loop (mB 23 8388454) (.seq (.seq (.ops [
  ⟨(some 8), none, (.mv (.tmp 4))⟩,
  ⟨(some 9), none, (.mv (.tmp 0))⟩,
  ⟨(some 10), none, (.len (.tmp 9))⟩,
  ⟨(some 11), none, (.bin .lss (.tmp 8) (.tmp 10))⟩]) (.cond (.tmp 11) .skip (.exit 0))) (.seq (.block 1 (.ops [
  ⟨(some 14), none, (.mv (.tmp 3))⟩,
  ⟨(some 15), none, (.mv (.tmp 4))⟩,
  ⟨(some 16), none, (.mv (.tmp 0))⟩,
  ⟨(some 17), none, (.mv (.tmp 4))⟩,
  ⟨(some 18), none, (.ia 2 (.tmp 16) (.tmp 17))⟩,
  ⟨(some 19), none, (.load 2 true (.tmp 18))⟩,
  ⟨(some 20), none, (.callX 62 [(.tmp 19)])⟩,
  ⟨(some 21), none, (.ia 2 (.tmp 14) (.tmp 15))⟩,
  ⟨none, none, (.store 2 (.tmp 21) (.tmp 20))⟩])) (.ops [
  ⟨(some 12), none, (.mv (.tmp 4))⟩,
  ⟨(some 13), none, (.bin .add (.tmp 12) (.const (.int .i64 1)))⟩,
  ⟨(some 4), none, (.asg (.tmp 13))⟩])))))) (.seq (.ops [
  ⟨(some 22), none, (.mv (.tmp 3))⟩,
  ⟨(some 2), none, (.asg (.tmp 22))⟩]) .ret))))
theorem law_laws_toGlueS {a0 d : D} (h : code_laws_toGlueS.wp (CT Try.prog NoG) (endQ [(.t 2)] d) [a0, .undef, .undef, .undef, .undef, .undef, .undef, .undef, .undef, .undef, .undef, .undef, .undef, .undef, .undef, .undef, .undef, .undef, .undef, .undef, .undef, .undef, .undef]) : Contract Try.prog NoG 49 [a0] d :=
  contract_of noG Try.func49 (fun us W => by kernel_rfl) (c := Try.f49.body.getD .skip) (ms := [(mB 23 8388454)]) (ms' := []) (by kernel_rfl) (by kernel_rfl) (by kernel_rfl) h
set_option maxHeartbeats 2000000 in
theorem v_toGlueS (xs : List Glue) (hn : cntL Glue.cnt xs ≤ 1048576) : Contract Try.prog NoG 49 [.sl false 2 (xs.map (Glue.td.d false))] (.sl true 2 (xs.map (Glue.td.d true))) := by
  have hl : xs.length ≤ 1048576 := (by have := cntL_len Glue.cnt xs; omega); refine law_laws_toGlueS ?_; unfold code_laws_toGlueS; simp -implicitDefEqProofs (disch := omega) only [go_sem, ↓reduceIte , List.length_map, Int.toNat_natCast]; refine ⟨by omega, by omega, by omega, ?_⟩; refine loop_st (fun k : Nat => [.sl false 2 (xs.map (Glue.td.d false)), .undef, .undef, .sl true 2 ((xs.take k).map (Glue.td.d true) ++ List.replicate (xs.length - k) [D.v (.string ⟨⟨[]⟩⟩), D.v (.int .i64 0)]), .v (.int .i64 k), .undef, .undef, .undef, .undef, .undef, .undef, .undef, .undef, .undef, .undef, .undef, .undef, .undef, .undef, .undef, .undef, .undef, .undef]) (fun k => k ≤ xs.length) (fun k => xs.length - k) 0 (by (try simp -implicitDefEqProofs only [nleL_cc, nleL_nn, nle_self, nle_boxs, nle_aggs, nle_nils, and_self, and_true, true_and]) <;> repeat' (first | exact nle_of_eq rfl | exact nle_nil | apply And.intro | apply nle_sl | apply nleLL_cons | apply nleL_cons | exact nleL_nil | exact nleLL_nil | apply nle_box | apply nle_agg)) (Nat.zero_le _) ?_; intro k hk; simp -implicitDefEqProofs (disch := omega) only [go_sem, ↓reduceIte , List.length_map, Int.toNat_natCast, Int.ofNat_lt, Int.natCast_nonneg, List.getElem?_map, Option.map_some]; refine cond_split ?_ ?_ <;> intro hlt
  · have hlt : k < xs.length := (by simpa using hlt); have e1 := List.getElem?_eq_getElem hlt; have g1 := fill_len xs (Glue.td.d true) [D.v (.string ⟨⟨[]⟩⟩), D.v (.int .i64 0)] k; have g2 := fill_at xs (Glue.td.d true) [D.v (.string ⟨⟨[]⟩⟩), D.v (.int .i64 0)] k hlt; have g3 := fill_next xs (Glue.td.d true) [D.v (.string ⟨⟨[]⟩⟩), D.v (.int .i64 0)] k hlt; have g4 : k < ((xs.take k).map (Glue.td.d true) ++ List.replicate (xs.length - k) [D.v (.string ⟨⟨[]⟩⟩), D.v (.int .i64 0)]).length := (by rw [g1]; exact hlt); have hm := cntL_mem Glue.cnt xs k hlt; simp -implicitDefEqProofs (disch := omega) only [go_sem, ↓reduceIte , List.length_map, Int.toNat_natCast, Int.ofNat_lt, Int.natCast_nonneg, List.getElem?_map, Option.map_some, hlt, e1, g1, g2, List.set_set, List.getElem?_set_self g4, wrN, Glue.td_d]; refine call_leA (v_toGlue xs[k] (by omega)) (by simp -implicitDefEqProofs (disch := omega) only [go_sem, ↓reduceIte, deep, TD.rows, immLL_rI, immLL_rB8, immLL_rS, immLL_rBo, immLL_rII, immLL_rIIt, List.length_map, Int.toNat_natCast, Int.ofNat_lt, Int.natCast_nonneg, List.getElem?_map, Option.map_some, hlt, e1, g1, g2, List.set_set, List.getElem?_set_self g4, wrN, Glue.td_d]; exact rfl) (by repeat (first | exact leL_nil | refine leL_cons ?_ ?_ | exact le_of_eq rfl | exact le_iptrN (leL_of_eq rfl) | refine le_agg ?_ | exact le_slf rfl (TD.rows ..) | refine le_iptr ?_ | refine le_fn ?_ ?_)) (by first | exact .inl rfl | exact .inr rfl | exact .inl (by simp only [D.noImm, noImmL, go_sem, TD.nims, TD.nim, nim_rI, nim_rB8, nim_rBo, nim_rS])) ?_; simp -implicitDefEqProofs (disch := omega) only [go_sem, ↓reduceIte , List.length_map, Int.toNat_natCast, Int.ofNat_lt, Int.natCast_nonneg, List.getElem?_map, Option.map_some, hlt, e1, g1, g2, List.set_set, List.getElem?_set_self g4, wrN, Glue.td_d]; refine ⟨k + 1, by omega, hlt, ?_⟩; rw [← g3]; rw [Glue.td_d]
    (try simp -implicitDefEqProofs only [nleL_cc, nleL_nn, nle_self, nle_boxs, nle_aggs, nle_nils, and_self, and_true, true_and]) <;> repeat' (first | exact nle_of_eq rfl | exact nle_nil | apply And.intro | apply nle_sl | apply nleLL_cons | apply nleL_cons | exact nleL_nil | exact nleLL_nil | apply nle_box | apply nle_agg)
  · have hge : k = xs.length := (by have : ¬ k < xs.length := (by simpa using hlt); omega); subst hge; simp -implicitDefEqProofs (disch := omega) only [go_sem, ↓reduceIte , fill_end]
def code_laws_toTile : VCode := (.seq (.ops [
  ⟨(some 1), none, (.box (.tmp 0))⟩,
  ⟨(some 2), none, (.alloc [(.string ⟨⟨[]⟩⟩), (.slice none 0 0)])⟩]) (.seq (.ops [
  ⟨(some 3), none, (.alloc [(.string ⟨⟨[]⟩⟩), (.slice none 0 0)])⟩]) (.seq (.ops [
  ⟨(some 4), none, (.fa 0 (.tmp 1))⟩,
  ⟨(some 5), none, (.load 1 false (.tmp 4))⟩,
  ⟨(some 6), none, (.fa 0 (.tmp 3))⟩,
  ⟨none, none, (.store 1 (.tmp 6) (.tmp 5))⟩]) (.seq (.ops [
  ⟨(some 7), none, (.fa 1 (.tmp 1))⟩,
  ⟨(some 8), none, (.load 1 false (.tmp 7))⟩,
  ⟨(some 9), none, (.callX 35 [(.tmp 8)])⟩,
  ⟨(some 10), none, (.fa 1 (.tmp 3))⟩,
  ⟨none, none, (.store 1 (.tmp 10) (.tmp 9))⟩]) (.seq (.ops [
  ⟨(some 11), none, (.load 2 true (.tmp 3))⟩,
  ⟨none, none, (.store 2 (.tmp 2) (.tmp 11))⟩]) .ret)))))
theorem law_laws_toTile {a0 d : D} (h : code_laws_toTile.wp (CT Try.prog NoG) (endQ [(.c 2 2 true)] d) [a0, .undef, .undef, .undef, .undef, .undef, .undef, .undef, .undef, .undef, .undef, .undef]) : Contract Try.prog NoG 63 [a0] d :=
  contract_of noG Try.func63 (fun us W => by kernel_rfl) (c := Try.f63.body.getD .skip) (ms := []) (ms' := []) (by kernel_rfl) (by kernel_rfl) (by kernel_rfl) h
set_option maxHeartbeats 2000000 in
theorem v_toTile (q : Tile) (hn : Tile.cnt q ≤ 1048576) : Contract Try.prog NoG 63 [.agg (Tile.td.d false q)] (.agg (Tile.td.d true q)) := by rw [Tile.td_d, Tile.td_d]; refine law_laws_toTile ?_; unfold code_laws_toTile; have hn0 := hn; unfold Tile.cnt at hn; simp -implicitDefEqProofs (disch := omega) only [go_sem, ↓reduceIte]; refine call_leA (v_toInt64S q.Sides (by omega)) (by simp -implicitDefEqProofs (disch := omega) only [go_sem, ↓reduceIte, deep, TD.rows, immLL_rI, immLL_rB8, immLL_rS, immLL_rBo, immLL_rII, immLL_rIIt]; exact rfl) (by repeat (first | exact leL_nil | refine leL_cons ?_ ?_ | exact le_of_eq rfl | exact le_iptrN (leL_of_eq rfl) | refine le_agg ?_ | exact le_slf rfl (TD.rows ..) | refine le_iptr ?_ | refine le_fn ?_ ?_)) (by first | exact .inl rfl | exact .inr rfl | exact .inl (by simp only [D.noImm, noImmL, go_sem, TD.nims, TD.nim, nim_rI, nim_rB8, nim_rBo, nim_rS])) ?_; simp -implicitDefEqProofs (disch := omega) only [go_sem, ↓reduceIte]
def code_laws_toTileS : VCode := (.seq (.ops [
  ⟨(some 2), none, (.asg (.const (.slice none 0 0)))⟩]) (.seq (.ops [
  ⟨(some 5), none, (.mv (.tmp 0))⟩,
  ⟨(some 6), none, (.len (.tmp 5))⟩,
  ⟨(some 7), none, (.mks 2 40 [(.string ⟨⟨[]⟩⟩), (.slice none 0 0)] (.tmp 6) (.tmp 6))⟩,
  ⟨(some 3), none, (.asg (.tmp 7))⟩]) (.seq (.seq (.ops [
  ⟨(some 4), none, (.asg (.const (.int .i64 0)))⟩]) (.block 0 (.loop (mB 23 8388454) (.seq (.seq (.ops [
  ⟨(some 8), none, (.mv (.tmp 4))⟩,
  ⟨(some 9), none, (.mv (.tmp 0))⟩,
  ⟨(some 10), none, (.len (.tmp 9))⟩,
  ⟨(some 11), none, (.bin .lss (.tmp 8) (.tmp 10))⟩]) (.cond (.tmp 11) .skip (.exit 0))) (.seq (.block 1 (.ops [
  ⟨(some 14), none, (.mv (.tmp 3))⟩,
  ⟨(some 15), none, (.mv (.tmp 4))⟩,
  ⟨(some 16), none, (.mv (.tmp 0))⟩,
  ⟨(some 17), none, (.mv (.tmp 4))⟩,
  ⟨(some 18), none, (.ia 2 (.tmp 16) (.tmp 17))⟩,
  ⟨(some 19), none, (.load 2 true (.tmp 18))⟩,
  ⟨(some 20), none, (.callX 63 [(.tmp 19)])⟩,
  ⟨(some 21), none, (.ia 2 (.tmp 14) (.tmp 15))⟩,
  ⟨none, none, (.store 2 (.tmp 21) (.tmp 20))⟩])) (.ops [
  ⟨(some 12), none, (.mv (.tmp 4))⟩,
  ⟨(some 13), none, (.bin .add (.tmp 12) (.const (.int .i64 1)))⟩,
  ⟨(some 4), none, (.asg (.tmp 13))⟩])))))) (.seq (.ops [
  ⟨(some 22), none, (.mv (.tmp 3))⟩,
  ⟨(some 2), none, (.asg (.tmp 22))⟩]) .ret))))
theorem law_laws_toTileS {a0 d : D} (h : code_laws_toTileS.wp (CT Try.prog NoG) (endQ [(.t 2)] d) [a0, .undef, .undef, .undef, .undef, .undef, .undef, .undef, .undef, .undef, .undef, .undef, .undef, .undef, .undef, .undef, .undef, .undef, .undef, .undef, .undef, .undef, .undef]) : Contract Try.prog NoG 50 [a0] d :=
  contract_of noG Try.func50 (fun us W => by kernel_rfl) (c := Try.f50.body.getD .skip) (ms := [(mB 23 8388454)]) (ms' := []) (by kernel_rfl) (by kernel_rfl) (by kernel_rfl) h
set_option maxHeartbeats 2000000 in
theorem v_toTileS (xs : List Tile) (hn : cntL Tile.cnt xs ≤ 1048576) : Contract Try.prog NoG 50 [.sl false 2 (xs.map (Tile.td.d false))] (.sl true 2 (xs.map (Tile.td.d true))) := by
  have hl : xs.length ≤ 1048576 := (by have := cntL_len Tile.cnt xs; omega); refine law_laws_toTileS ?_; unfold code_laws_toTileS; simp -implicitDefEqProofs (disch := omega) only [go_sem, ↓reduceIte , List.length_map, Int.toNat_natCast]; refine ⟨by omega, by omega, by omega, ?_⟩; refine loop_st (fun k : Nat => [.sl false 2 (xs.map (Tile.td.d false)), .undef, .undef, .sl true 2 ((xs.take k).map (Tile.td.d true) ++ List.replicate (xs.length - k) [D.v (.string ⟨⟨[]⟩⟩), D.nils]), .v (.int .i64 k), .undef, .undef, .undef, .undef, .undef, .undef, .undef, .undef, .undef, .undef, .undef, .undef, .undef, .undef, .undef, .undef, .undef, .undef]) (fun k => k ≤ xs.length) (fun k => xs.length - k) 0 (by (try simp -implicitDefEqProofs only [nleL_cc, nleL_nn, nle_self, nle_boxs, nle_aggs, nle_nils, and_self, and_true, true_and]) <;> repeat' (first | exact nle_of_eq rfl | exact nle_nil | apply And.intro | apply nle_sl | apply nleLL_cons | apply nleL_cons | exact nleL_nil | exact nleLL_nil | apply nle_box | apply nle_agg)) (Nat.zero_le _) ?_; intro k hk; simp -implicitDefEqProofs (disch := omega) only [go_sem, ↓reduceIte , List.length_map, Int.toNat_natCast, Int.ofNat_lt, Int.natCast_nonneg, List.getElem?_map, Option.map_some]; refine cond_split ?_ ?_ <;> intro hlt
  · have hlt : k < xs.length := (by simpa using hlt); have e1 := List.getElem?_eq_getElem hlt; have g1 := fill_len xs (Tile.td.d true) [D.v (.string ⟨⟨[]⟩⟩), D.nils] k; have g2 := fill_at xs (Tile.td.d true) [D.v (.string ⟨⟨[]⟩⟩), D.nils] k hlt; have g3 := fill_next xs (Tile.td.d true) [D.v (.string ⟨⟨[]⟩⟩), D.nils] k hlt; have g4 : k < ((xs.take k).map (Tile.td.d true) ++ List.replicate (xs.length - k) [D.v (.string ⟨⟨[]⟩⟩), D.nils]).length := (by rw [g1]; exact hlt); have hm := cntL_mem Tile.cnt xs k hlt; simp -implicitDefEqProofs (disch := omega) only [go_sem, ↓reduceIte , List.length_map, Int.toNat_natCast, Int.ofNat_lt, Int.natCast_nonneg, List.getElem?_map, Option.map_some, hlt, e1, g1, g2, List.set_set, List.getElem?_set_self g4, wrN, Tile.td_d]; refine call_leA (v_toTile xs[k] (by omega)) (by simp -implicitDefEqProofs (disch := omega) only [go_sem, ↓reduceIte, deep, TD.rows, immLL_rI, immLL_rB8, immLL_rS, immLL_rBo, immLL_rII, immLL_rIIt, List.length_map, Int.toNat_natCast, Int.ofNat_lt, Int.natCast_nonneg, List.getElem?_map, Option.map_some, hlt, e1, g1, g2, List.set_set, List.getElem?_set_self g4, wrN, Tile.td_d]; exact rfl) (by repeat (first | exact leL_nil | refine leL_cons ?_ ?_ | exact le_of_eq rfl | exact le_iptrN (leL_of_eq rfl) | refine le_agg ?_ | exact le_slf rfl (TD.rows ..) | refine le_iptr ?_ | refine le_fn ?_ ?_)) (by first | exact .inl rfl | exact .inr rfl | exact .inl (by simp only [D.noImm, noImmL, go_sem, TD.nims, TD.nim, nim_rI, nim_rB8, nim_rBo, nim_rS])) ?_; simp -implicitDefEqProofs (disch := omega) only [go_sem, ↓reduceIte , List.length_map, Int.toNat_natCast, Int.ofNat_lt, Int.natCast_nonneg, List.getElem?_map, Option.map_some, hlt, e1, g1, g2, List.set_set, List.getElem?_set_self g4, wrN, Tile.td_d]; refine ⟨k + 1, by omega, hlt, ?_⟩; rw [← g3]; rw [Tile.td_d]
    (try simp -implicitDefEqProofs only [nleL_cc, nleL_nn, nle_self, nle_boxs, nle_aggs, nle_nils, and_self, and_true, true_and]) <;> repeat' (first | exact nle_of_eq rfl | exact nle_nil | apply And.intro | apply nle_sl | apply nleLL_cons | apply nleL_cons | exact nleL_nil | exact nleLL_nil | apply nle_box | apply nle_agg)
  · have hge : k = xs.length := (by have : ¬ k < xs.length := (by simpa using hlt); omega); subst hge; simp -implicitDefEqProofs (disch := omega) only [go_sem, ↓reduceIte , fill_end]
def code_laws_toTileSet : VCode := (.seq (.ops [
  ⟨(some 1), none, (.box (.tmp 0))⟩,
  ⟨(some 2), none, (.alloc [(.slice none 0 0), (.slice none 0 0)])⟩]) (.seq (.ops [
  ⟨(some 3), none, (.alloc [(.slice none 0 0), (.slice none 0 0)])⟩]) (.seq (.ops [
  ⟨(some 4), none, (.fa 0 (.tmp 1))⟩,
  ⟨(some 5), none, (.load 1 false (.tmp 4))⟩,
  ⟨(some 6), none, (.callX 49 [(.tmp 5)])⟩,
  ⟨(some 7), none, (.fa 0 (.tmp 3))⟩,
  ⟨none, none, (.store 1 (.tmp 7) (.tmp 6))⟩]) (.seq (.ops [
  ⟨(some 8), none, (.fa 1 (.tmp 1))⟩,
  ⟨(some 9), none, (.load 1 false (.tmp 8))⟩,
  ⟨(some 10), none, (.callX 50 [(.tmp 9)])⟩,
  ⟨(some 11), none, (.fa 1 (.tmp 3))⟩,
  ⟨none, none, (.store 1 (.tmp 11) (.tmp 10))⟩]) (.seq (.ops [
  ⟨(some 12), none, (.load 2 true (.tmp 3))⟩,
  ⟨none, none, (.store 2 (.tmp 2) (.tmp 12))⟩]) .ret)))))
theorem law_laws_toTileSet {a0 d : D} (h : code_laws_toTileSet.wp (CT Try.prog NoG) (endQ [(.c 2 2 true)] d) [a0, .undef, .undef, .undef, .undef, .undef, .undef, .undef, .undef, .undef, .undef, .undef, .undef]) : Contract Try.prog NoG 32 [a0] d :=
  contract_of noG Try.func32 (fun us W => by kernel_rfl) (c := Try.f32.body.getD .skip) (ms := []) (ms' := []) (by kernel_rfl) (by kernel_rfl) (by kernel_rfl) h
set_option maxHeartbeats 2000000 in
theorem v_toTileSet (q : TileSet) (hn : TileSet.cnt q ≤ 1048576) : Contract Try.prog NoG 32 [.agg (TileSet.td.d false q)] (.agg (TileSet.td.d true q)) := by rw [TileSet.td_d, TileSet.td_d]; refine law_laws_toTileSet ?_; unfold code_laws_toTileSet; have hn0 := hn; unfold TileSet.cnt at hn; simp -implicitDefEqProofs (disch := omega) only [go_sem, ↓reduceIte]; refine call_leA (v_toGlueS q.Glues (by omega)) (by simp -implicitDefEqProofs (disch := omega) only [go_sem, ↓reduceIte, deep, TD.rows, immLL_rI, immLL_rB8, immLL_rS, immLL_rBo, immLL_rII, immLL_rIIt]; exact rfl) (by repeat (first | exact leL_nil | refine leL_cons ?_ ?_ | exact le_of_eq rfl | exact le_iptrN (leL_of_eq rfl) | refine le_agg ?_ | exact le_slf rfl (TD.rows ..) | refine le_iptr ?_ | refine le_fn ?_ ?_)) (by first | exact .inl rfl | exact .inr rfl | exact .inl (by simp only [D.noImm, noImmL, go_sem, TD.nims, TD.nim, nim_rI, nim_rB8, nim_rBo, nim_rS])) ?_; simp -implicitDefEqProofs (disch := omega) only [go_sem, ↓reduceIte]; refine call_leA (v_toTileS q.Tiles (by omega)) (by simp -implicitDefEqProofs (disch := omega) only [go_sem, ↓reduceIte, deep, TD.rows, immLL_rI, immLL_rB8, immLL_rS, immLL_rBo, immLL_rII, immLL_rIIt]; exact rfl) (by repeat (first | exact leL_nil | refine leL_cons ?_ ?_ | exact le_of_eq rfl | exact le_iptrN (leL_of_eq rfl) | refine le_agg ?_ | exact le_slf rfl (TD.rows ..) | refine le_iptr ?_ | refine le_fn ?_ ?_)) (by first | exact .inl rfl | exact .inr rfl | exact .inl (by simp only [D.noImm, noImmL, go_sem, TD.nims, TD.nim, nim_rI, nim_rB8, nim_rBo, nim_rS])) ?_; simp -implicitDefEqProofs (disch := omega) only [go_sem, ↓reduceIte]
def code_laws_toPoint : VCode := (.seq (.ops [
  ⟨(some 1), none, (.box (.tmp 0))⟩,
  ⟨(some 2), none, (.alloc [(.int .i64 0), (.int .i64 0)])⟩]) (.seq (.ops [
  ⟨(some 3), none, (.alloc [(.int .i64 0), (.int .i64 0)])⟩]) (.seq (.ops [
  ⟨(some 4), none, (.fa 0 (.tmp 1))⟩,
  ⟨(some 5), none, (.load 1 false (.tmp 4))⟩,
  ⟨(some 6), none, (.fa 0 (.tmp 3))⟩,
  ⟨none, none, (.store 1 (.tmp 6) (.tmp 5))⟩]) (.seq (.ops [
  ⟨(some 7), none, (.fa 1 (.tmp 1))⟩,
  ⟨(some 8), none, (.load 1 false (.tmp 7))⟩,
  ⟨(some 9), none, (.fa 1 (.tmp 3))⟩,
  ⟨none, none, (.store 1 (.tmp 9) (.tmp 8))⟩]) (.seq (.ops [
  ⟨(some 10), none, (.load 2 true (.tmp 3))⟩,
  ⟨none, none, (.store 2 (.tmp 2) (.tmp 10))⟩]) .ret)))))
theorem law_laws_toPoint {a0 d : D} (h : code_laws_toPoint.wp (CT Try.prog NoG) (endQ [(.c 2 2 true)] d) [a0, .undef, .undef, .undef, .undef, .undef, .undef, .undef, .undef, .undef, .undef]) : Contract Try.prog NoG 64 [a0] d :=
  contract_of noG Try.func64 (fun us W => by kernel_rfl) (c := Try.f64.body.getD .skip) (ms := []) (ms' := []) (by kernel_rfl) (by kernel_rfl) (by kernel_rfl) h
set_option maxHeartbeats 2000000 in
theorem v_toPoint (q : Point) : Contract Try.prog NoG 64 [.agg (Point.td.d false q)] (.agg (Point.td.d true q)) := by rw [Point.td_d, Point.td_d]; refine law_laws_toPoint ?_; unfold code_laws_toPoint; simp -implicitDefEqProofs (disch := omega) only [go_sem, ↓reduceIte]
def code_laws_toPlaced : VCode := (.seq (.ops [
  ⟨(some 1), none, (.box (.tmp 0))⟩,
  ⟨(some 2), none, (.alloc [(.int .i64 0), (.int .i64 0), (.int .i64 0)])⟩]) (.seq (.ops [
  ⟨(some 3), none, (.alloc [(.int .i64 0), (.int .i64 0), (.int .i64 0)])⟩]) (.seq (.ops [
  ⟨(some 4), none, (.fa 0 (.tmp 1))⟩,
  ⟨(some 5), none, (.load 2 true (.tmp 4))⟩,
  ⟨(some 6), none, (.callX 64 [(.tmp 5)])⟩,
  ⟨(some 7), none, (.fa 0 (.tmp 3))⟩,
  ⟨none, none, (.store 2 (.tmp 7) (.tmp 6))⟩]) (.seq (.ops [
  ⟨(some 8), none, (.fa 2 (.tmp 1))⟩,
  ⟨(some 9), none, (.load 1 false (.tmp 8))⟩,
  ⟨(some 10), none, (.fa 2 (.tmp 3))⟩,
  ⟨none, none, (.store 1 (.tmp 10) (.tmp 9))⟩]) (.seq (.ops [
  ⟨(some 11), none, (.load 3 true (.tmp 3))⟩,
  ⟨none, none, (.store 3 (.tmp 2) (.tmp 11))⟩]) .ret)))))
theorem law_laws_toPlaced {a0 d : D} (h : code_laws_toPlaced.wp (CT Try.prog NoG) (endQ [(.c 2 3 true)] d) [a0, .undef, .undef, .undef, .undef, .undef, .undef, .undef, .undef, .undef, .undef, .undef]) : Contract Try.prog NoG 51 [a0] d :=
  contract_of noG Try.func51 (fun us W => by kernel_rfl) (c := Try.f51.body.getD .skip) (ms := []) (ms' := []) (by kernel_rfl) (by kernel_rfl) (by kernel_rfl) h
set_option maxHeartbeats 2000000 in
theorem v_toPlaced (q : Placed) : Contract Try.prog NoG 51 [.agg (Placed.td.d false q)] (.agg (Placed.td.d true q)) := by rw [Placed.td_d, Placed.td_d]; refine law_laws_toPlaced ?_; unfold code_laws_toPlaced; simp -implicitDefEqProofs (disch := omega) only [go_sem, ↓reduceIte , Point.td_d]; refine call_leA (v_toPoint q.At) (by simp -implicitDefEqProofs (disch := omega) only [go_sem, ↓reduceIte, deep, TD.rows, immLL_rI, immLL_rB8, immLL_rS, immLL_rBo, immLL_rII, immLL_rIIt, Point.td_d]; exact rfl) (by repeat (first | exact leL_nil | refine leL_cons ?_ ?_ | exact le_of_eq rfl | exact le_iptrN (leL_of_eq rfl) | refine le_agg ?_ | exact le_slf rfl (TD.rows ..) | refine le_iptr ?_ | refine le_fn ?_ ?_)) (by first | exact .inl rfl | exact .inr rfl | exact .inl (by simp only [D.noImm, noImmL, go_sem, TD.nims, TD.nim, nim_rI, nim_rB8, nim_rBo, nim_rS])) ?_; simp -implicitDefEqProofs (disch := omega) only [go_sem, ↓reduceIte , Point.td_d]
def code_laws_toPlacedS : VCode := (.seq (.ops [
  ⟨(some 2), none, (.asg (.const (.slice none 0 0)))⟩]) (.seq (.ops [
  ⟨(some 5), none, (.mv (.tmp 0))⟩,
  ⟨(some 6), none, (.len (.tmp 5))⟩,
  ⟨(some 7), none, (.mks 3 24 [(.int .i64 0), (.int .i64 0), (.int .i64 0)] (.tmp 6) (.tmp 6))⟩,
  ⟨(some 3), none, (.asg (.tmp 7))⟩]) (.seq (.seq (.ops [
  ⟨(some 4), none, (.asg (.const (.int .i64 0)))⟩]) (.block 0 (.loop (mB 23 8388454) (.seq (.seq (.ops [
  ⟨(some 8), none, (.mv (.tmp 4))⟩,
  ⟨(some 9), none, (.mv (.tmp 0))⟩,
  ⟨(some 10), none, (.len (.tmp 9))⟩,
  ⟨(some 11), none, (.bin .lss (.tmp 8) (.tmp 10))⟩]) (.cond (.tmp 11) .skip (.exit 0))) (.seq (.block 1 (.ops [
  ⟨(some 14), none, (.mv (.tmp 3))⟩,
  ⟨(some 15), none, (.mv (.tmp 4))⟩,
  ⟨(some 16), none, (.mv (.tmp 0))⟩,
  ⟨(some 17), none, (.mv (.tmp 4))⟩,
  ⟨(some 18), none, (.ia 3 (.tmp 16) (.tmp 17))⟩,
  ⟨(some 19), none, (.load 3 true (.tmp 18))⟩,
  ⟨(some 20), none, (.callX 51 [(.tmp 19)])⟩,
  ⟨(some 21), none, (.ia 3 (.tmp 14) (.tmp 15))⟩,
  ⟨none, none, (.store 3 (.tmp 21) (.tmp 20))⟩])) (.ops [
  ⟨(some 12), none, (.mv (.tmp 4))⟩,
  ⟨(some 13), none, (.bin .add (.tmp 12) (.const (.int .i64 1)))⟩,
  ⟨(some 4), none, (.asg (.tmp 13))⟩])))))) (.seq (.ops [
  ⟨(some 22), none, (.mv (.tmp 3))⟩,
  ⟨(some 2), none, (.asg (.tmp 22))⟩]) .ret))))
theorem law_laws_toPlacedS {a0 d : D} (h : code_laws_toPlacedS.wp (CT Try.prog NoG) (endQ [(.t 2)] d) [a0, .undef, .undef, .undef, .undef, .undef, .undef, .undef, .undef, .undef, .undef, .undef, .undef, .undef, .undef, .undef, .undef, .undef, .undef, .undef, .undef, .undef, .undef]) : Contract Try.prog NoG 33 [a0] d :=
  contract_of noG Try.func33 (fun us W => by kernel_rfl) (c := Try.f33.body.getD .skip) (ms := [(mB 23 8388454)]) (ms' := []) (by kernel_rfl) (by kernel_rfl) (by kernel_rfl) h
set_option maxHeartbeats 2000000 in
theorem v_toPlacedS (xs : List Placed) (hn : xs.length ≤ 1048576) : Contract Try.prog NoG 33 [.sl false 3 (xs.map (Placed.td.d false))] (.sl true 3 (xs.map (Placed.td.d true))) := by
  have hl : xs.length ≤ 1048576 := (by exact hn); refine law_laws_toPlacedS ?_; unfold code_laws_toPlacedS; simp -implicitDefEqProofs (disch := omega) only [go_sem, ↓reduceIte , List.length_map, Int.toNat_natCast]; refine ⟨by omega, by omega, by omega, ?_⟩; refine loop_st (fun k : Nat => [.sl false 3 (xs.map (Placed.td.d false)), .undef, .undef, .sl true 3 ((xs.take k).map (Placed.td.d true) ++ List.replicate (xs.length - k) [D.v (.int .i64 0), D.v (.int .i64 0), D.v (.int .i64 0)]), .v (.int .i64 k), .undef, .undef, .undef, .undef, .undef, .undef, .undef, .undef, .undef, .undef, .undef, .undef, .undef, .undef, .undef, .undef, .undef, .undef]) (fun k => k ≤ xs.length) (fun k => xs.length - k) 0 (by (try simp -implicitDefEqProofs only [nleL_cc, nleL_nn, nle_self, nle_boxs, nle_aggs, nle_nils, and_self, and_true, true_and]) <;> repeat' (first | exact nle_of_eq rfl | exact nle_nil | apply And.intro | apply nle_sl | apply nleLL_cons | apply nleL_cons | exact nleL_nil | exact nleLL_nil | apply nle_box | apply nle_agg)) (Nat.zero_le _) ?_; intro k hk; simp -implicitDefEqProofs (disch := omega) only [go_sem, ↓reduceIte , List.length_map, Int.toNat_natCast, Int.ofNat_lt, Int.natCast_nonneg, List.getElem?_map, Option.map_some]; refine cond_split ?_ ?_ <;> intro hlt
  · have hlt : k < xs.length := (by simpa using hlt); have e1 := List.getElem?_eq_getElem hlt; have g1 := fill_len xs (Placed.td.d true) [D.v (.int .i64 0), D.v (.int .i64 0), D.v (.int .i64 0)] k; have g2 := fill_at xs (Placed.td.d true) [D.v (.int .i64 0), D.v (.int .i64 0), D.v (.int .i64 0)] k hlt; have g3 := fill_next xs (Placed.td.d true) [D.v (.int .i64 0), D.v (.int .i64 0), D.v (.int .i64 0)] k hlt; have g4 : k < ((xs.take k).map (Placed.td.d true) ++ List.replicate (xs.length - k) [D.v (.int .i64 0), D.v (.int .i64 0), D.v (.int .i64 0)]).length := (by rw [g1]; exact hlt); simp -implicitDefEqProofs (disch := omega) only [go_sem, ↓reduceIte , List.length_map, Int.toNat_natCast, Int.ofNat_lt, Int.natCast_nonneg, List.getElem?_map, Option.map_some, hlt, e1, g1, g2, List.set_set, List.getElem?_set_self g4, wrN, Placed.td_d]; refine call_leA (v_toPlaced xs[k]) (by simp -implicitDefEqProofs (disch := omega) only [go_sem, ↓reduceIte, deep, TD.rows, immLL_rI, immLL_rB8, immLL_rS, immLL_rBo, immLL_rII, immLL_rIIt, List.length_map, Int.toNat_natCast, Int.ofNat_lt, Int.natCast_nonneg, List.getElem?_map, Option.map_some, hlt, e1, g1, g2, List.set_set, List.getElem?_set_self g4, wrN, Placed.td_d]; exact rfl) (by repeat (first | exact leL_nil | refine leL_cons ?_ ?_ | exact le_of_eq rfl | exact le_iptrN (leL_of_eq rfl) | refine le_agg ?_ | exact le_slf rfl (TD.rows ..) | refine le_iptr ?_ | refine le_fn ?_ ?_)) (by first | exact .inl rfl | exact .inr rfl | exact .inl (by simp only [D.noImm, noImmL, go_sem, TD.nims, TD.nim, nim_rI, nim_rB8, nim_rBo, nim_rS])) ?_; simp -implicitDefEqProofs (disch := omega) only [go_sem, ↓reduceIte , List.length_map, Int.toNat_natCast, Int.ofNat_lt, Int.natCast_nonneg, List.getElem?_map, Option.map_some, hlt, e1, g1, g2, List.set_set, List.getElem?_set_self g4, wrN, Placed.td_d]; refine ⟨k + 1, by omega, hlt, ?_⟩; rw [← g3]; rw [Placed.td_d]
    (try simp -implicitDefEqProofs only [nleL_cc, nleL_nn, nle_self, nle_boxs, nle_aggs, nle_nils, and_self, and_true, true_and]) <;> repeat' (first | exact nle_of_eq rfl | exact nle_nil | apply And.intro | apply nle_sl | apply nleLL_cons | apply nleL_cons | exact nleL_nil | exact nleLL_nil | apply nle_box | apply nle_agg)
  · have hge : k = xs.length := (by have : ¬ k < xs.length := (by simpa using hlt); omega); subst hge; simp -implicitDefEqProofs (disch := omega) only [go_sem, ↓reduceIte , fill_end]
def code_laws_toAssembly : VCode := (.seq (.ops [
  ⟨(some 1), none, (.box (.tmp 0))⟩,
  ⟨(some 2), none, (.alloc [(.slice none 0 0)])⟩]) (.seq (.ops [
  ⟨(some 3), none, (.alloc [(.slice none 0 0)])⟩]) (.seq (.ops [
  ⟨(some 4), none, (.fa 0 (.tmp 1))⟩,
  ⟨(some 5), none, (.load 1 false (.tmp 4))⟩,
  ⟨(some 6), none, (.callX 33 [(.tmp 5)])⟩,
  ⟨(some 7), none, (.fa 0 (.tmp 3))⟩,
  ⟨none, none, (.store 1 (.tmp 7) (.tmp 6))⟩]) (.seq (.ops [
  ⟨(some 8), none, (.load 1 true (.tmp 3))⟩,
  ⟨none, none, (.store 1 (.tmp 2) (.tmp 8))⟩]) .ret))))
theorem law_laws_toAssembly {a0 d : D} (h : code_laws_toAssembly.wp (CT Try.prog NoG) (endQ [(.c 2 1 true)] d) [a0, .undef, .undef, .undef, .undef, .undef, .undef, .undef, .undef]) : Contract Try.prog NoG 16 [a0] d :=
  contract_of noG Try.func16 (fun us W => by kernel_rfl) (c := Try.f16.body.getD .skip) (ms := []) (ms' := []) (by kernel_rfl) (by kernel_rfl) (by kernel_rfl) h
set_option maxHeartbeats 2000000 in
theorem v_toAssembly (q : Assembly) (hn : Assembly.cnt q ≤ 1048576) : Contract Try.prog NoG 16 [.agg (Assembly.td.d false q)] (.agg (Assembly.td.d true q)) := by rw [Assembly.td_d, Assembly.td_d]; refine law_laws_toAssembly ?_; unfold code_laws_toAssembly; have hn0 := hn; unfold Assembly.cnt at hn; simp -implicitDefEqProofs (disch := omega) only [go_sem, ↓reduceIte]; refine call_leA (v_toPlacedS q.Tiles (by omega)) (by simp -implicitDefEqProofs (disch := omega) only [go_sem, ↓reduceIte, deep, TD.rows, immLL_rI, immLL_rB8, immLL_rS, immLL_rBo, immLL_rII, immLL_rIIt]; exact rfl) (by repeat (first | exact leL_nil | refine leL_cons ?_ ?_ | exact le_of_eq rfl | exact le_iptrN (leL_of_eq rfl) | refine le_agg ?_ | exact le_slf rfl (TD.rows ..) | refine le_iptr ?_ | refine le_fn ?_ ?_)) (by first | exact .inl rfl | exact .inr rfl | exact .inl (by simp only [D.noImm, noImmL, go_sem, TD.nims, TD.nim, nim_rI, nim_rB8, nim_rBo, nim_rS])) ?_; simp -implicitDefEqProofs (disch := omega) only [go_sem, ↓reduceIte]
def code_laws_toSystem : VCode := (.seq (.ops [
  ⟨(some 1), none, (.box (.tmp 0))⟩,
  ⟨(some 2), none, (.alloc [(.slice none 0 0), (.slice none 0 0), (.slice none 0 0), (.int .i64 0)])⟩]) (.seq (.ops [
  ⟨(some 3), none, (.alloc [(.slice none 0 0), (.slice none 0 0), (.slice none 0 0), (.int .i64 0)])⟩]) (.seq (.ops [
  ⟨(some 4), none, (.fa 0 (.tmp 1))⟩,
  ⟨(some 5), none, (.load 2 true (.tmp 4))⟩,
  ⟨(some 6), none, (.callX 32 [(.tmp 5)])⟩,
  ⟨(some 7), none, (.fa 0 (.tmp 3))⟩,
  ⟨none, none, (.store 2 (.tmp 7) (.tmp 6))⟩]) (.seq (.ops [
  ⟨(some 8), none, (.fa 2 (.tmp 1))⟩,
  ⟨(some 9), none, (.load 1 true (.tmp 8))⟩,
  ⟨(some 10), none, (.callX 16 [(.tmp 9)])⟩,
  ⟨(some 11), none, (.fa 2 (.tmp 3))⟩,
  ⟨none, none, (.store 1 (.tmp 11) (.tmp 10))⟩]) (.seq (.ops [
  ⟨(some 12), none, (.fa 3 (.tmp 1))⟩,
  ⟨(some 13), none, (.load 1 false (.tmp 12))⟩,
  ⟨(some 14), none, (.fa 3 (.tmp 3))⟩,
  ⟨none, none, (.store 1 (.tmp 14) (.tmp 13))⟩]) (.seq (.ops [
  ⟨(some 15), none, (.load 4 true (.tmp 3))⟩,
  ⟨none, none, (.store 4 (.tmp 2) (.tmp 15))⟩]) .ret))))))
theorem law_laws_toSystem {a0 d : D} (h : code_laws_toSystem.wp (CT Try.prog NoG) (endQ [(.c 2 4 true)] d) [a0, .undef, .undef, .undef, .undef, .undef, .undef, .undef, .undef, .undef, .undef, .undef, .undef, .undef, .undef, .undef]) : Contract Try.prog NoG 15 [a0] d :=
  contract_of noG Try.func15 (fun us W => by kernel_rfl) (c := Try.f15.body.getD .skip) (ms := []) (ms' := []) (by kernel_rfl) (by kernel_rfl) (by kernel_rfl) h
set_option maxHeartbeats 2000000 in
theorem v_toSystem (q : System) (hn : System.cnt q ≤ 1048576) : Contract Try.prog NoG 15 [.agg (System.td.d false q)] (.agg (System.td.d true q)) := by rw [System.td_d, System.td_d]; refine law_laws_toSystem ?_; unfold code_laws_toSystem; have hn0 := hn; unfold System.cnt at hn; simp -implicitDefEqProofs (disch := omega) only [go_sem, ↓reduceIte , TileSet.td_d, Assembly.td_d]; refine call_leA (v_toTileSet q.Set (by omega)) (by simp -implicitDefEqProofs (disch := omega) only [go_sem, ↓reduceIte, deep, TD.rows, immLL_rI, immLL_rB8, immLL_rS, immLL_rBo, immLL_rII, immLL_rIIt, TileSet.td_d, Assembly.td_d]; exact rfl) (by repeat (first | exact leL_nil | refine leL_cons ?_ ?_ | exact le_of_eq rfl | exact le_iptrN (leL_of_eq rfl) | refine le_agg ?_ | exact le_slf rfl (TD.rows ..) | refine le_iptr ?_ | refine le_fn ?_ ?_)) (by first | exact .inl rfl | exact .inr rfl | exact .inl (by simp only [D.noImm, noImmL, go_sem, TD.nims, TD.nim, nim_rI, nim_rB8, nim_rBo, nim_rS])) ?_; simp -implicitDefEqProofs (disch := omega) only [go_sem, ↓reduceIte , TileSet.td_d, Assembly.td_d]; refine call_leA (v_toAssembly q.Seed (by omega)) (by simp -implicitDefEqProofs (disch := omega) only [go_sem, ↓reduceIte, deep, TD.rows, immLL_rI, immLL_rB8, immLL_rS, immLL_rBo, immLL_rII, immLL_rIIt, TileSet.td_d, Assembly.td_d]; exact rfl) (by repeat (first | exact leL_nil | refine leL_cons ?_ ?_ | exact le_of_eq rfl | exact le_iptrN (leL_of_eq rfl) | refine le_agg ?_ | exact le_slf rfl (TD.rows ..) | refine le_iptr ?_ | refine le_fn ?_ ?_)) (by first | exact .inl rfl | exact .inr rfl | exact .inl (by simp only [D.noImm, noImmL, go_sem, TD.nims, TD.nim, nim_rI, nim_rB8, nim_rBo, nim_rS])) ?_; simp -implicitDefEqProofs (disch := omega) only [go_sem, ↓reduceIte , TileSet.td_d, Assembly.td_d]
def code_laws_toOption : VCode := (.seq (.ops [
  ⟨(some 1), none, (.box (.tmp 0))⟩,
  ⟨(some 2), none, (.alloc [(.int .i64 0), (.int .i64 0), (.int .i64 0)])⟩]) (.seq (.ops [
  ⟨(some 3), none, (.alloc [(.int .i64 0), (.int .i64 0), (.int .i64 0)])⟩]) (.seq (.ops [
  ⟨(some 4), none, (.fa 0 (.tmp 1))⟩,
  ⟨(some 5), none, (.load 2 true (.tmp 4))⟩,
  ⟨(some 6), none, (.callX 64 [(.tmp 5)])⟩,
  ⟨(some 7), none, (.fa 0 (.tmp 3))⟩,
  ⟨none, none, (.store 2 (.tmp 7) (.tmp 6))⟩]) (.seq (.ops [
  ⟨(some 8), none, (.fa 2 (.tmp 1))⟩,
  ⟨(some 9), none, (.load 1 false (.tmp 8))⟩,
  ⟨(some 10), none, (.fa 2 (.tmp 3))⟩,
  ⟨none, none, (.store 1 (.tmp 10) (.tmp 9))⟩]) (.seq (.ops [
  ⟨(some 11), none, (.load 3 true (.tmp 3))⟩,
  ⟨none, none, (.store 3 (.tmp 2) (.tmp 11))⟩]) .ret)))))
theorem law_laws_toOption {a0 d : D} (h : code_laws_toOption.wp (CT Try.prog NoG) (endQ [(.c 2 3 true)] d) [a0, .undef, .undef, .undef, .undef, .undef, .undef, .undef, .undef, .undef, .undef, .undef]) : Contract Try.prog NoG 52 [a0] d :=
  contract_of noG Try.func52 (fun us W => by kernel_rfl) (c := Try.f52.body.getD .skip) (ms := []) (ms' := []) (by kernel_rfl) (by kernel_rfl) (by kernel_rfl) h
set_option maxHeartbeats 2000000 in
theorem v_toOption (q : Option) : Contract Try.prog NoG 52 [.agg (Option.td.d false q)] (.agg (Option.td.d true q)) := by rw [Option.td_d, Option.td_d]; refine law_laws_toOption ?_; unfold code_laws_toOption; simp -implicitDefEqProofs (disch := omega) only [go_sem, ↓reduceIte , Point.td_d]; refine call_leA (v_toPoint q.At) (by simp -implicitDefEqProofs (disch := omega) only [go_sem, ↓reduceIte, deep, TD.rows, immLL_rI, immLL_rB8, immLL_rS, immLL_rBo, immLL_rII, immLL_rIIt, Point.td_d]; exact rfl) (by repeat (first | exact leL_nil | refine leL_cons ?_ ?_ | exact le_of_eq rfl | exact le_iptrN (leL_of_eq rfl) | refine le_agg ?_ | exact le_slf rfl (TD.rows ..) | refine le_iptr ?_ | refine le_fn ?_ ?_)) (by first | exact .inl rfl | exact .inr rfl | exact .inl (by simp only [D.noImm, noImmL, go_sem, TD.nims, TD.nim, nim_rI, nim_rB8, nim_rBo, nim_rS])) ?_; simp -implicitDefEqProofs (disch := omega) only [go_sem, ↓reduceIte , Point.td_d]
def code_laws_toOptionS : VCode := (.seq (.ops [
  ⟨(some 2), none, (.asg (.const (.slice none 0 0)))⟩]) (.seq (.ops [
  ⟨(some 5), none, (.mv (.tmp 0))⟩,
  ⟨(some 6), none, (.len (.tmp 5))⟩,
  ⟨(some 7), none, (.mks 3 24 [(.int .i64 0), (.int .i64 0), (.int .i64 0)] (.tmp 6) (.tmp 6))⟩,
  ⟨(some 3), none, (.asg (.tmp 7))⟩]) (.seq (.seq (.ops [
  ⟨(some 4), none, (.asg (.const (.int .i64 0)))⟩]) (.block 0 (.loop (mB 23 8388454) (.seq (.seq (.ops [
  ⟨(some 8), none, (.mv (.tmp 4))⟩,
  ⟨(some 9), none, (.mv (.tmp 0))⟩,
  ⟨(some 10), none, (.len (.tmp 9))⟩,
  ⟨(some 11), none, (.bin .lss (.tmp 8) (.tmp 10))⟩]) (.cond (.tmp 11) .skip (.exit 0))) (.seq (.block 1 (.ops [
  ⟨(some 14), none, (.mv (.tmp 3))⟩,
  ⟨(some 15), none, (.mv (.tmp 4))⟩,
  ⟨(some 16), none, (.mv (.tmp 0))⟩,
  ⟨(some 17), none, (.mv (.tmp 4))⟩,
  ⟨(some 18), none, (.ia 3 (.tmp 16) (.tmp 17))⟩,
  ⟨(some 19), none, (.load 3 true (.tmp 18))⟩,
  ⟨(some 20), none, (.callX 52 [(.tmp 19)])⟩,
  ⟨(some 21), none, (.ia 3 (.tmp 14) (.tmp 15))⟩,
  ⟨none, none, (.store 3 (.tmp 21) (.tmp 20))⟩])) (.ops [
  ⟨(some 12), none, (.mv (.tmp 4))⟩,
  ⟨(some 13), none, (.bin .add (.tmp 12) (.const (.int .i64 1)))⟩,
  ⟨(some 4), none, (.asg (.tmp 13))⟩])))))) (.seq (.ops [
  ⟨(some 22), none, (.mv (.tmp 3))⟩,
  ⟨(some 2), none, (.asg (.tmp 22))⟩]) .ret))))
theorem law_laws_toOptionS {a0 d : D} (h : code_laws_toOptionS.wp (CT Try.prog NoG) (endQ [(.t 2)] d) [a0, .undef, .undef, .undef, .undef, .undef, .undef, .undef, .undef, .undef, .undef, .undef, .undef, .undef, .undef, .undef, .undef, .undef, .undef, .undef, .undef, .undef, .undef]) : Contract Try.prog NoG 34 [a0] d :=
  contract_of noG Try.func34 (fun us W => by kernel_rfl) (c := Try.f34.body.getD .skip) (ms := [(mB 23 8388454)]) (ms' := []) (by kernel_rfl) (by kernel_rfl) (by kernel_rfl) h
set_option maxHeartbeats 2000000 in
theorem v_toOptionS (xs : List Option) (hn : xs.length ≤ 1048576) : Contract Try.prog NoG 34 [.sl false 3 (xs.map (Option.td.d false))] (.sl true 3 (xs.map (Option.td.d true))) := by
  have hl : xs.length ≤ 1048576 := (by exact hn); refine law_laws_toOptionS ?_; unfold code_laws_toOptionS; simp -implicitDefEqProofs (disch := omega) only [go_sem, ↓reduceIte , List.length_map, Int.toNat_natCast]; refine ⟨by omega, by omega, by omega, ?_⟩; refine loop_st (fun k : Nat => [.sl false 3 (xs.map (Option.td.d false)), .undef, .undef, .sl true 3 ((xs.take k).map (Option.td.d true) ++ List.replicate (xs.length - k) [D.v (.int .i64 0), D.v (.int .i64 0), D.v (.int .i64 0)]), .v (.int .i64 k), .undef, .undef, .undef, .undef, .undef, .undef, .undef, .undef, .undef, .undef, .undef, .undef, .undef, .undef, .undef, .undef, .undef, .undef]) (fun k => k ≤ xs.length) (fun k => xs.length - k) 0 (by (try simp -implicitDefEqProofs only [nleL_cc, nleL_nn, nle_self, nle_boxs, nle_aggs, nle_nils, and_self, and_true, true_and]) <;> repeat' (first | exact nle_of_eq rfl | exact nle_nil | apply And.intro | apply nle_sl | apply nleLL_cons | apply nleL_cons | exact nleL_nil | exact nleLL_nil | apply nle_box | apply nle_agg)) (Nat.zero_le _) ?_; intro k hk; simp -implicitDefEqProofs (disch := omega) only [go_sem, ↓reduceIte , List.length_map, Int.toNat_natCast, Int.ofNat_lt, Int.natCast_nonneg, List.getElem?_map, Option.map_some]; refine cond_split ?_ ?_ <;> intro hlt
  · have hlt : k < xs.length := (by simpa using hlt); have e1 := List.getElem?_eq_getElem hlt; have g1 := fill_len xs (Option.td.d true) [D.v (.int .i64 0), D.v (.int .i64 0), D.v (.int .i64 0)] k; have g2 := fill_at xs (Option.td.d true) [D.v (.int .i64 0), D.v (.int .i64 0), D.v (.int .i64 0)] k hlt; have g3 := fill_next xs (Option.td.d true) [D.v (.int .i64 0), D.v (.int .i64 0), D.v (.int .i64 0)] k hlt; have g4 : k < ((xs.take k).map (Option.td.d true) ++ List.replicate (xs.length - k) [D.v (.int .i64 0), D.v (.int .i64 0), D.v (.int .i64 0)]).length := (by rw [g1]; exact hlt); simp -implicitDefEqProofs (disch := omega) only [go_sem, ↓reduceIte , List.length_map, Int.toNat_natCast, Int.ofNat_lt, Int.natCast_nonneg, List.getElem?_map, Option.map_some, hlt, e1, g1, g2, List.set_set, List.getElem?_set_self g4, wrN, Option.td_d]; refine call_leA (v_toOption xs[k]) (by simp -implicitDefEqProofs (disch := omega) only [go_sem, ↓reduceIte, deep, TD.rows, immLL_rI, immLL_rB8, immLL_rS, immLL_rBo, immLL_rII, immLL_rIIt, List.length_map, Int.toNat_natCast, Int.ofNat_lt, Int.natCast_nonneg, List.getElem?_map, Option.map_some, hlt, e1, g1, g2, List.set_set, List.getElem?_set_self g4, wrN, Option.td_d]; exact rfl) (by repeat (first | exact leL_nil | refine leL_cons ?_ ?_ | exact le_of_eq rfl | exact le_iptrN (leL_of_eq rfl) | refine le_agg ?_ | exact le_slf rfl (TD.rows ..) | refine le_iptr ?_ | refine le_fn ?_ ?_)) (by first | exact .inl rfl | exact .inr rfl | exact .inl (by simp only [D.noImm, noImmL, go_sem, TD.nims, TD.nim, nim_rI, nim_rB8, nim_rBo, nim_rS])) ?_; simp -implicitDefEqProofs (disch := omega) only [go_sem, ↓reduceIte , List.length_map, Int.toNat_natCast, Int.ofNat_lt, Int.natCast_nonneg, List.getElem?_map, Option.map_some, hlt, e1, g1, g2, List.set_set, List.getElem?_set_self g4, wrN, Option.td_d]; refine ⟨k + 1, by omega, hlt, ?_⟩; rw [← g3]; rw [Option.td_d]
    (try simp -implicitDefEqProofs only [nleL_cc, nleL_nn, nle_self, nle_boxs, nle_aggs, nle_nils, and_self, and_true, true_and]) <;> repeat' (first | exact nle_of_eq rfl | exact nle_nil | apply And.intro | apply nle_sl | apply nleLL_cons | apply nleL_cons | exact nleL_nil | exact nleLL_nil | apply nle_box | apply nle_agg)
  · have hge : k = xs.length := (by have : ¬ k < xs.length := (by simpa using hlt); omega); subst hge; simp -implicitDefEqProofs (disch := omega) only [go_sem, ↓reduceIte , fill_end]
def code_laws_toProof : VCode := (.seq (.ops [
  ⟨(some 1), none, (.box (.tmp 0))⟩,
  ⟨(some 2), none, (.alloc [(.int .i64 0), (.slice none 0 0), (.slice none 0 0), (.slice none 0 0), (.slice none 0 0)])⟩]) (.seq (.ops [
  ⟨(some 3), none, (.alloc [(.int .i64 0), (.slice none 0 0), (.slice none 0 0), (.slice none 0 0), (.slice none 0 0)])⟩]) (.seq (.ops [
  ⟨(some 4), none, (.fa 0 (.tmp 1))⟩,
  ⟨(some 5), none, (.load 1 false (.tmp 4))⟩,
  ⟨(some 6), none, (.fa 0 (.tmp 3))⟩,
  ⟨none, none, (.store 1 (.tmp 6) (.tmp 5))⟩]) (.seq (.ops [
  ⟨(some 7), none, (.fa 1 (.tmp 1))⟩,
  ⟨(some 8), none, (.load 1 false (.tmp 7))⟩,
  ⟨(some 9), none, (.callX 34 [(.tmp 8)])⟩,
  ⟨(some 10), none, (.fa 1 (.tmp 3))⟩,
  ⟨none, none, (.store 1 (.tmp 10) (.tmp 9))⟩]) (.seq (.ops [
  ⟨(some 11), none, (.fa 2 (.tmp 1))⟩,
  ⟨(some 12), none, (.load 1 false (.tmp 11))⟩,
  ⟨(some 13), none, (.callX 34 [(.tmp 12)])⟩,
  ⟨(some 14), none, (.fa 2 (.tmp 3))⟩,
  ⟨none, none, (.store 1 (.tmp 14) (.tmp 13))⟩]) (.seq (.ops [
  ⟨(some 15), none, (.fa 3 (.tmp 1))⟩,
  ⟨(some 16), none, (.load 1 false (.tmp 15))⟩,
  ⟨(some 17), none, (.callX 35 [(.tmp 16)])⟩,
  ⟨(some 18), none, (.fa 3 (.tmp 3))⟩,
  ⟨none, none, (.store 1 (.tmp 18) (.tmp 17))⟩]) (.seq (.ops [
  ⟨(some 19), none, (.fa 4 (.tmp 1))⟩,
  ⟨(some 20), none, (.load 1 false (.tmp 19))⟩,
  ⟨(some 21), none, (.callX 36 [(.tmp 20)])⟩,
  ⟨(some 22), none, (.fa 4 (.tmp 3))⟩,
  ⟨none, none, (.store 1 (.tmp 22) (.tmp 21))⟩]) (.seq (.ops [
  ⟨(some 23), none, (.load 5 true (.tmp 3))⟩,
  ⟨none, none, (.store 5 (.tmp 2) (.tmp 23))⟩]) .ret))))))))
theorem law_laws_toProof {a0 d : D} (h : code_laws_toProof.wp (CT Try.prog NoG) (endQ [(.c 2 5 true)] d) [a0, .undef, .undef, .undef, .undef, .undef, .undef, .undef, .undef, .undef, .undef, .undef, .undef, .undef, .undef, .undef, .undef, .undef, .undef, .undef, .undef, .undef, .undef, .undef]) : Contract Try.prog NoG 17 [a0] d :=
  contract_of noG Try.func17 (fun us W => by kernel_rfl) (c := Try.f17.body.getD .skip) (ms := []) (ms' := []) (by kernel_rfl) (by kernel_rfl) (by kernel_rfl) h
set_option maxHeartbeats 2000000 in
theorem v_toProof (q : Proof) (hn : Proof.cnt q ≤ 1048576) : Contract Try.prog NoG 17 [.agg (Proof.td.d false q)] (.agg (Proof.td.d true q)) := by rw [Proof.td_d, Proof.td_d]; refine law_laws_toProof ?_; unfold code_laws_toProof; have hn0 := hn; unfold Proof.cnt at hn; simp -implicitDefEqProofs (disch := omega) only [go_sem, ↓reduceIte]; refine call_leA (v_toOptionS q.Sequence (by omega)) (by simp -implicitDefEqProofs (disch := omega) only [go_sem, ↓reduceIte, deep, TD.rows, immLL_rI, immLL_rB8, immLL_rS, immLL_rBo, immLL_rII, immLL_rIIt]; exact rfl) (by repeat (first | exact leL_nil | refine leL_cons ?_ ?_ | exact le_of_eq rfl | exact le_iptrN (leL_of_eq rfl) | refine le_agg ?_ | exact le_slf rfl (TD.rows ..) | refine le_iptr ?_ | refine le_fn ?_ ?_)) (by first | exact .inl rfl | exact .inr rfl | exact .inl (by simp only [D.noImm, noImmL, go_sem, TD.nims, TD.nim, nim_rI, nim_rB8, nim_rBo, nim_rS])) ?_; simp -implicitDefEqProofs (disch := omega) only [go_sem, ↓reduceIte]; refine call_leA (v_toOptionS q.Other (by omega)) (by simp -implicitDefEqProofs (disch := omega) only [go_sem, ↓reduceIte, deep, TD.rows, immLL_rI, immLL_rB8, immLL_rS, immLL_rBo, immLL_rII, immLL_rIIt]; exact rfl) (by repeat (first | exact leL_nil | refine leL_cons ?_ ?_ | exact le_of_eq rfl | exact le_iptrN (leL_of_eq rfl) | refine le_agg ?_ | exact le_slf rfl (TD.rows ..) | refine le_iptr ?_ | refine le_fn ?_ ?_)) (by first | exact .inl rfl | exact .inr rfl | exact .inl (by simp only [D.noImm, noImmL, go_sem, TD.nims, TD.nim, nim_rI, nim_rB8, nim_rBo, nim_rS])) ?_; simp -implicitDefEqProofs (disch := omega) only [go_sem, ↓reduceIte]; refine call_leA (v_toInt64S q.Part (by omega)) (by simp -implicitDefEqProofs (disch := omega) only [go_sem, ↓reduceIte, deep, TD.rows, immLL_rI, immLL_rB8, immLL_rS, immLL_rBo, immLL_rII, immLL_rIIt]; exact rfl) (by repeat (first | exact leL_nil | refine leL_cons ?_ ?_ | exact le_of_eq rfl | exact le_iptrN (leL_of_eq rfl) | refine le_agg ?_ | exact le_slf rfl (TD.rows ..) | refine le_iptr ?_ | refine le_fn ?_ ?_)) (by first | exact .inl rfl | exact .inr rfl | exact .inl (by simp only [D.noImm, noImmL, go_sem, TD.nims, TD.nim, nim_rI, nim_rB8, nim_rBo, nim_rS])) ?_; simp -implicitDefEqProofs (disch := omega) only [go_sem, ↓reduceIte]; refine call_leA (v_toInt64SS q.Flows (by omega)) (by simp -implicitDefEqProofs (disch := omega) only [go_sem, ↓reduceIte, deep, TD.rows, immLL_rI, immLL_rB8, immLL_rS, immLL_rBo, immLL_rII, immLL_rIIt]; exact rfl) (by repeat (first | exact leL_nil | refine leL_cons ?_ ?_ | exact le_of_eq rfl | exact le_iptrN (leL_of_eq rfl) | refine le_agg ?_ | exact le_slf rfl (TD.rows ..) | refine le_iptr ?_ | refine le_fn ?_ ?_)) (by first | exact .inl rfl | exact .inr rfl | exact .inl (by simp only [D.noImm, noImmL, go_sem, TD.nims, TD.nim, nim_rI, nim_rB8, nim_rBo, nim_rS])) ?_; simp -implicitDefEqProofs (disch := omega) only [go_sem, ↓reduceIte]
def code_laws_toEntry : VCode := (.seq (.ops [
  ⟨(some 1), none, (.box (.tmp 0))⟩,
  ⟨(some 2), none, (.alloc [(.string ⟨⟨[]⟩⟩), (.slice none 0 0), (.slice none 0 0), (.slice none 0 0), (.int .i64 0), (.slice none 0 0), (.int .i64 0), (.slice none 0 0), (.slice none 0 0), (.slice none 0 0), (.slice none 0 0)])⟩]) (.seq (.ops [
  ⟨(some 3), none, (.alloc [(.string ⟨⟨[]⟩⟩), (.slice none 0 0), (.slice none 0 0), (.slice none 0 0), (.int .i64 0), (.slice none 0 0), (.int .i64 0), (.slice none 0 0), (.slice none 0 0), (.slice none 0 0), (.slice none 0 0)])⟩]) (.seq (.ops [
  ⟨(some 4), none, (.fa 0 (.tmp 1))⟩,
  ⟨(some 5), none, (.load 1 false (.tmp 4))⟩,
  ⟨(some 6), none, (.fa 0 (.tmp 3))⟩,
  ⟨none, none, (.store 1 (.tmp 6) (.tmp 5))⟩]) (.seq (.ops [
  ⟨(some 7), none, (.fa 1 (.tmp 1))⟩,
  ⟨(some 8), none, (.load 4 true (.tmp 7))⟩,
  ⟨(some 9), none, (.callX 15 [(.tmp 8)])⟩,
  ⟨(some 10), none, (.fa 1 (.tmp 3))⟩,
  ⟨none, none, (.store 4 (.tmp 10) (.tmp 9))⟩]) (.seq (.ops [
  ⟨(some 11), none, (.fa 5 (.tmp 1))⟩,
  ⟨(some 12), none, (.load 1 true (.tmp 11))⟩,
  ⟨(some 13), none, (.callX 16 [(.tmp 12)])⟩,
  ⟨(some 14), none, (.fa 5 (.tmp 3))⟩,
  ⟨none, none, (.store 1 (.tmp 14) (.tmp 13))⟩]) (.seq (.ops [
  ⟨(some 15), none, (.fa 6 (.tmp 1))⟩,
  ⟨(some 16), none, (.load 5 true (.tmp 15))⟩,
  ⟨(some 17), none, (.callX 17 [(.tmp 16)])⟩,
  ⟨(some 18), none, (.fa 6 (.tmp 3))⟩,
  ⟨none, none, (.store 5 (.tmp 18) (.tmp 17))⟩]) (.seq (.ops [
  ⟨(some 19), none, (.load 11 true (.tmp 3))⟩,
  ⟨none, none, (.store 11 (.tmp 2) (.tmp 19))⟩]) .ret)))))))
theorem law_laws_toEntry {a0 d : D} (h : code_laws_toEntry.wp (CT Try.prog NoG) (endQ [(.c 2 11 true)] d) [a0, .undef, .undef, .undef, .undef, .undef, .undef, .undef, .undef, .undef, .undef, .undef, .undef, .undef, .undef, .undef, .undef, .undef, .undef, .undef]) : Contract Try.prog NoG 6 [a0] d :=
  contract_of noG Try.func6 (fun us W => by kernel_rfl) (c := Try.f6.body.getD .skip) (ms := []) (ms' := []) (by kernel_rfl) (by kernel_rfl) (by kernel_rfl) h
set_option maxHeartbeats 2000000 in
theorem v_toEntry (q : Entry) (hn : Entry.cnt q ≤ 1048576) : Contract Try.prog NoG 6 [.agg (Entry.td.d false q)] (.agg (Entry.td.d true q)) := by rw [Entry.td_d, Entry.td_d]; refine law_laws_toEntry ?_; unfold code_laws_toEntry; have hn0 := hn; unfold Entry.cnt at hn; simp -implicitDefEqProofs (disch := omega) only [go_sem, ↓reduceIte , System.td_d, Assembly.td_d, Proof.td_d]; refine call_leA (v_toSystem q.System (by omega)) (by simp -implicitDefEqProofs (disch := omega) only [go_sem, ↓reduceIte, deep, TD.rows, immLL_rI, immLL_rB8, immLL_rS, immLL_rBo, immLL_rII, immLL_rIIt, System.td_d, Assembly.td_d, Proof.td_d]; exact rfl) (by repeat (first | exact leL_nil | refine leL_cons ?_ ?_ | exact le_of_eq rfl | exact le_iptrN (leL_of_eq rfl) | refine le_agg ?_ | exact le_slf rfl (TD.rows ..) | refine le_iptr ?_ | refine le_fn ?_ ?_)) (by first | exact .inl rfl | exact .inr rfl | exact .inl (by simp only [D.noImm, noImmL, go_sem, TD.nims, TD.nim, nim_rI, nim_rB8, nim_rBo, nim_rS])) ?_; simp -implicitDefEqProofs (disch := omega) only [go_sem, ↓reduceIte , System.td_d, Assembly.td_d, Proof.td_d]; refine call_leA (v_toAssembly q.End (by omega)) (by simp -implicitDefEqProofs (disch := omega) only [go_sem, ↓reduceIte, deep, TD.rows, immLL_rI, immLL_rB8, immLL_rS, immLL_rBo, immLL_rII, immLL_rIIt, System.td_d, Assembly.td_d, Proof.td_d]; exact rfl) (by repeat (first | exact leL_nil | refine leL_cons ?_ ?_ | exact le_of_eq rfl | exact le_iptrN (leL_of_eq rfl) | refine le_agg ?_ | exact le_slf rfl (TD.rows ..) | refine le_iptr ?_ | refine le_fn ?_ ?_)) (by first | exact .inl rfl | exact .inr rfl | exact .inl (by simp only [D.noImm, noImmL, go_sem, TD.nims, TD.nim, nim_rI, nim_rB8, nim_rBo, nim_rS])) ?_; simp -implicitDefEqProofs (disch := omega) only [go_sem, ↓reduceIte , System.td_d, Assembly.td_d, Proof.td_d]; refine call_leA (v_toProof q.Proof (by omega)) (by simp -implicitDefEqProofs (disch := omega) only [go_sem, ↓reduceIte, deep, TD.rows, immLL_rI, immLL_rB8, immLL_rS, immLL_rBo, immLL_rII, immLL_rIIt, System.td_d, Assembly.td_d, Proof.td_d]; exact rfl) (by repeat (first | exact leL_nil | refine leL_cons ?_ ?_ | exact le_of_eq rfl | exact le_iptrN (leL_of_eq rfl) | refine le_agg ?_ | exact le_slf rfl (TD.rows ..) | refine le_iptr ?_ | refine le_fn ?_ ?_)) (by first | exact .inl rfl | exact .inr rfl | exact .inl (by simp only [D.noImm, noImmL, go_sem, TD.nims, TD.nim, nim_rI, nim_rB8, nim_rBo, nim_rS])) ?_; simp -implicitDefEqProofs (disch := omega) only [go_sem, ↓reduceIte , System.td_d, Assembly.td_d, Proof.td_d]
end Go.Proofs.Ytkaehgnnhookpaa
