/- Made by vtogen.py: laws.to.. for TileSet. -/
import Derived.Test.YtmgkmkbjmaapeaaZTdTileSet
import Derived.Test.YtmgkmkbjmaapeaaZVToBase
import Derived.Test.YtmgkmkbjmaapeaaZVToGlue
import Derived.Test.YtmgkmkbjmaapeaaZVToTile
set_option linter.all false
namespace Go.Proofs.Ytmgkmkbjmaapeaa
open Go.RowKit Go.V
attribute [local go_sem] List.getElem?_cons_succ List.getElem?_cons_zero List.set_cons_succ List.set_cons_zero List.map_cons List.map_nil List.length_cons List.length_nil List.all_cons List.all_nil List.drop_succ_cons List.drop_zero List.take_succ_cons List.take_zero List.flatMap_cons List.flatMap_nil List.cons_append List.nil_append List.append_nil List.headD_cons Value.oneCell' Bool.and_true Bool.true_and Bool.or_false Bool.false_or Bool.and_self Bool.not_true Bool.not_false and_true true_and beq_self_eq_true Bool.false_eq_true if_true if_false Nat.zero_add Nat.le_refl Option.isSome_some Option.isSome_none not_true_eq_false not_false_eq_true ne_eq List.reverse_nil bne_self_eq_false List.isPrefixOf Bool.not_eq_true Bool.and_false Bool.false_and Bool.true_or Bool.or_true decide_true decide_false List.replicate_succ List.replicate_zero exists_eq_left' exists_eq_left or_false or_true true_or false_or Option.map_some Option.map_none
set_option maxRecDepth 100000
def code_laws_toTileSet : VCode := (.seq (.ops [
  ⟨(some 1), none, (.box (.tmp 0))⟩,
  ⟨(some 2), none, (.alloc [(.slice none 0 0), (.slice none 0 0)])⟩]) (.seq (.ops [
  ⟨(some 3), none, (.alloc [(.slice none 0 0), (.slice none 0 0)])⟩]) (.seq (.ops [
  ⟨(some 4), none, (.fa 0 (.tmp 1))⟩,
  ⟨(some 5), none, (.load 1 false (.tmp 4))⟩,
  ⟨(some 6), none, (.callX 53 [(.tmp 5)])⟩,
  ⟨(some 7), none, (.fa 0 (.tmp 3))⟩,
  ⟨none, none, (.store 1 (.tmp 7) (.tmp 6))⟩]) (.seq (.ops [
  ⟨(some 8), none, (.fa 1 (.tmp 1))⟩,
  ⟨(some 9), none, (.load 1 false (.tmp 8))⟩,
  ⟨(some 10), none, (.callX 54 [(.tmp 9)])⟩,
  ⟨(some 11), none, (.fa 1 (.tmp 3))⟩,
  ⟨none, none, (.store 1 (.tmp 11) (.tmp 10))⟩]) (.seq (.ops [
  ⟨(some 12), none, (.load 2 true (.tmp 3))⟩,
  ⟨none, none, (.store 2 (.tmp 2) (.tmp 12))⟩]) .ret)))))
theorem law_laws_toTileSet {a0 d : D} (h : code_laws_toTileSet.wp (CT Try.prog NoG) (endQ [(.c 2 2 true)] d) [a0, .undef, .undef, .undef, .undef, .undef, .undef, .undef, .undef, .undef, .undef, .undef, .undef]) : Contract Try.prog NoG 22 [a0] d :=
  contract_of noG Try.func22 (fun us W => by kernel_rfl) (c := Try.f22.body.getD .skip) (ms := []) (ms' := []) (by kernel_rfl) (by kernel_rfl) (by kernel_rfl) h
set_option maxHeartbeats 2000000 in
theorem v_toTileSet (q : TileSet) (hn : TileSet.cnt q ≤ 1048576) : Contract Try.prog NoG 22 [.agg (TileSet.td.d false q)] (.agg (TileSet.td.d true q)) := by
  rw [TileSet.td_d, TileSet.td_d]
  refine law_laws_toTileSet ?_
  unfold code_laws_toTileSet
  have hn0 := hn
  unfold TileSet.cnt at hn
  simp -implicitDefEqProofs (disch := omega) only [go_sem, ↓reduceIte, Nat.reduceAdd, Nat.reduceMul, Nat.reduceLeDiff, reduceCtorEq, Nat.reduceEqDiff, Nat.reduceBEq, Nat.reduceBNe, Option.some.injEq]
  refine call_leA (v_toGlueS q.Glues (by omega)) (by simp -implicitDefEqProofs (disch := omega) only [go_sem, ↓reduceIte, Nat.reduceAdd, Nat.reduceMul, Nat.reduceLeDiff, reduceCtorEq, Nat.reduceEqDiff, Nat.reduceBEq, Nat.reduceBNe, Option.some.injEq, deep, TD.rows, immLL_rI, immLL_rB8, immLL_rS, immLL_rBo, immLL_rII]; exact rfl) (by repeat (first | exact leL_nil | refine leL_cons ?_ ?_ | exact le_of_eq rfl | exact le_iptrN (leL_of_eq rfl) | refine le_agg ?_ | exact le_slf rfl (TD.rows _ _ _) | refine le_iptr ?_ | refine le_fn ?_ ?_)) (by first | exact .inl rfl | exact .inr rfl | exact .inl (by simp only [D.noImm, noImmL, Bool.and_true, Bool.true_and, TD.nims, TD.nim, nim_rI, nim_rB8, nim_rBo, nim_rS])) ?_
  simp -implicitDefEqProofs (disch := omega) only [go_sem, ↓reduceIte, Nat.reduceAdd, Nat.reduceMul, Nat.reduceLeDiff, reduceCtorEq, Nat.reduceEqDiff, Nat.reduceBEq, Nat.reduceBNe, Option.some.injEq]
  refine call_leA (v_toTileS q.Tiles (by omega)) (by simp -implicitDefEqProofs (disch := omega) only [go_sem, ↓reduceIte, Nat.reduceAdd, Nat.reduceMul, Nat.reduceLeDiff, reduceCtorEq, Nat.reduceEqDiff, Nat.reduceBEq, Nat.reduceBNe, Option.some.injEq, deep, TD.rows, immLL_rI, immLL_rB8, immLL_rS, immLL_rBo, immLL_rII]; exact rfl) (by repeat (first | exact leL_nil | refine leL_cons ?_ ?_ | exact le_of_eq rfl | exact le_iptrN (leL_of_eq rfl) | refine le_agg ?_ | exact le_slf rfl (TD.rows _ _ _) | refine le_iptr ?_ | refine le_fn ?_ ?_)) (by first | exact .inl rfl | exact .inr rfl | exact .inl (by simp only [D.noImm, noImmL, Bool.and_true, Bool.true_and, TD.nims, TD.nim, nim_rI, nim_rB8, nim_rBo, nim_rS])) ?_
  simp -implicitDefEqProofs (disch := omega) only [go_sem, ↓reduceIte, Nat.reduceAdd, Nat.reduceMul, Nat.reduceLeDiff, reduceCtorEq, Nat.reduceEqDiff, Nat.reduceBEq, Nat.reduceBNe, Option.some.injEq]
end Go.Proofs.Ytmgkmkbjmaapeaa
