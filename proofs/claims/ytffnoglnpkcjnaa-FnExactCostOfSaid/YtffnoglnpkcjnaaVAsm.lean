/- Points and assemblies: whether they are in order. -/
import Derived.Test.YtffnoglnpkcjnaaVSet
import Derived.Test.YtffnoglnpkcjnaaVPoint
import Derived.Test.YtffnoglnpkcjnaaTdAssembly
import Derived.Test.YtffnoglnpkcjnaaVSlPlaced
set_option linter.all false
namespace Go.Proofs.Ytffnoglnpkcjnaa
open Go.RowKit Go.V
attribute [local go_sem] List.getElem?_cons_succ List.getElem?_cons_zero List.set_cons_succ List.set_cons_zero List.map_cons List.map_nil List.length_cons List.length_nil List.all_cons List.all_nil List.drop_succ_cons List.drop_zero List.take_succ_cons List.take_zero List.flatMap_cons List.flatMap_nil List.cons_append List.nil_append List.append_nil List.headD_cons Value.oneCell' Bool.and_true Bool.true_and Bool.or_false Bool.false_or Bool.and_self Bool.not_true Bool.not_false and_true true_and beq_self_eq_true Bool.false_eq_true if_true if_false Nat.zero_add Nat.le_refl Option.isSome_some Option.isSome_none not_true_eq_false not_false_eq_true ne_eq List.reverse_nil bne_self_eq_false List.isPrefixOf Bool.not_eq_true Bool.and_false Bool.false_and Bool.true_or Bool.or_true decide_true decide_false List.replicate_succ List.replicate_zero exists_eq_left' exists_eq_left or_false or_true true_or false_or Option.map_some Option.map_none
set_option maxRecDepth 100000
theorem asm_len {b : Assembly} (h : Assembly.cnt b ≤ 1048576) : b.Tiles.length ≤ 1048576 := h
def ptOK (p : Point) : Bool := inR (-60) 60 p.X && inR (-60) 60 p.Y
/-- impl.ValidPoint -/
def code_impl_ValidPoint : VCode := (.seq (.ops [
  ⟨(some 1), none, (.box (.tmp 0))⟩,
  ⟨(some 2), none, (.asg (.const (.bool false)))⟩]) (.seq (.ops [
  ⟨(some 3), none, (.fa 0 (.tmp 1))⟩,
  ⟨(some 4), none, (.load 1 false (.tmp 3))⟩,
  ⟨(some 5), none, (.callX 58 [(.tmp 4), (.const (.int .i64 (-60))), (.const (.int .i64 60))])⟩,
  ⟨(some 6), none, (.mv (.tmp 5))⟩,
  ⟨(some 7), (some (6, true)), (.fa 1 (.tmp 1))⟩,
  ⟨(some 8), (some (6, true)), (.load 1 false (.tmp 7))⟩,
  ⟨(some 9), (some (6, true)), (.callX 58 [(.tmp 8), (.const (.int .i64 (-60))), (.const (.int .i64 60))])⟩,
  ⟨(some 10), none, (.pick (.tmp 6) (.tmp 9) (.const (.bool false)))⟩,
  ⟨(some 2), none, (.asg (.tmp 10))⟩]) .ret))
theorem law_impl_ValidPoint {a0 d : D} (h : code_impl_ValidPoint.wp (CT Try.prog NoG) (endQ [(.t 2)] d) [a0, .undef, .undef, .undef, .undef, .undef, .undef, .undef, .undef, .undef, .undef]) : Contract Try.prog NoG 71 [a0] d :=
  contract_of noG Try.func71 (fun us W => by kernel_rfl) (c := Try.f71.body.getD .skip) (ms := []) (ms' := []) (by kernel_rfl) (by kernel_rfl) (by kernel_rfl) h
theorem v_ValidPoint (p : Point) : Contract Try.prog NoG 71 [.agg (Point.td.d false p)] (.v (.bool (ptOK p))) := by
  rw [Point.td_d]
  refine law_impl_ValidPoint ?_
  unfold code_impl_ValidPoint ptOK
  simp -implicitDefEqProofs (disch := omega) only [go_sem, ↓reduceIte, Nat.reduceAdd, Nat.reduceMul, Nat.reduceLeDiff, reduceCtorEq, Nat.reduceEqDiff, Nat.reduceBEq, Nat.reduceBNe, Option.some.injEq]
  refine call_leA (v_within _ _ _) (by simp -implicitDefEqProofs (disch := omega) only [go_sem, ↓reduceIte, Nat.reduceAdd, Nat.reduceMul, Nat.reduceLeDiff, reduceCtorEq, Nat.reduceEqDiff, Nat.reduceBEq, Nat.reduceBNe, Option.some.injEq, deep, TD.rows, immLL_rI, immLL_rB8, immLL_rS, immLL_rBo, immLL_rII]; exact rfl) (by repeat (first | exact leL_nil | refine leL_cons ?_ ?_ | exact le_of_eq rfl | exact le_slf rfl (by first | rfl | exact TD.rows _ _ _) | refine le_agg ?_ | (refine le_iptrN ?_; simp only [List.drop_succ_cons, List.drop_zero, List.take_succ_cons, List.take_zero, List.take_nil, List.length_cons, List.length_nil, Nat.zero_add, Nat.reduceAdd]) | refine le_iptr ?_ | refine le_fn ?_ ?_)) (by first | exact .inl rfl | exact .inl (by simp only [D.noImm, noImmL, Bool.and_true, Bool.true_and, TD.nims, TD.nim, nim_rI, nim_rB8, nim_rBo, nim_rS])) ?_
  simp -implicitDefEqProofs (disch := omega) only [go_sem, ↓reduceIte, Nat.reduceAdd, Nat.reduceMul, Nat.reduceLeDiff, reduceCtorEq, Nat.reduceEqDiff, Nat.reduceBEq, Nat.reduceBNe, Option.some.injEq]
  refine guard_split ?_ ?_ <;> intro h
  · simp -implicitDefEqProofs (disch := omega) only [go_sem, ↓reduceIte, Nat.reduceAdd, Nat.reduceMul, Nat.reduceLeDiff, reduceCtorEq, Nat.reduceEqDiff, Nat.reduceBEq, Nat.reduceBNe, Option.some.injEq , h]
    refine call_leA (v_within _ _ _) (by simp -implicitDefEqProofs (disch := omega) only [go_sem, ↓reduceIte, Nat.reduceAdd, Nat.reduceMul, Nat.reduceLeDiff, reduceCtorEq, Nat.reduceEqDiff, Nat.reduceBEq, Nat.reduceBNe, Option.some.injEq, deep, TD.rows, immLL_rI, immLL_rB8, immLL_rS, immLL_rBo, immLL_rII, h]; exact rfl) (by repeat (first | exact leL_nil | refine leL_cons ?_ ?_ | exact le_of_eq rfl | exact le_slf rfl (by first | rfl | exact TD.rows _ _ _) | refine le_agg ?_ | (refine le_iptrN ?_; simp only [List.drop_succ_cons, List.drop_zero, List.take_succ_cons, List.take_zero, List.take_nil, List.length_cons, List.length_nil, Nat.zero_add, Nat.reduceAdd]) | refine le_iptr ?_ | refine le_fn ?_ ?_)) (by first | exact .inl rfl | exact .inl (by simp only [D.noImm, noImmL, Bool.and_true, Bool.true_and, TD.nims, TD.nim, nim_rI, nim_rB8, nim_rBo, nim_rS])) ?_
    simp -implicitDefEqProofs (disch := omega) only [go_sem, ↓reduceIte, Nat.reduceAdd, Nat.reduceMul, Nat.reduceLeDiff, reduceCtorEq, Nat.reduceEqDiff, Nat.reduceBEq, Nat.reduceBNe, Option.some.injEq , h]
  · simp -implicitDefEqProofs (disch := omega) only [go_sem, ↓reduceIte, Nat.reduceAdd, Nat.reduceMul, Nat.reduceLeDiff, reduceCtorEq, Nat.reduceEqDiff, Nat.reduceBEq, Nat.reduceBNe, Option.some.injEq , h]
/-- spec.l01Point -/
def code_spec_l01Point : VCode := (.seq (.ops [
  ⟨(some 1), none, (.box (.tmp 0))⟩,
  ⟨(some 2), none, (.asg (.const (.bool false)))⟩]) (.seq (.ops [
  ⟨(some 3), none, (.fa 0 (.tmp 1))⟩,
  ⟨(some 4), none, (.load 1 false (.tmp 3))⟩,
  ⟨(some 5), none, (.callX 50 [(.tmp 4), (.const (.int .i64 (-60))), (.const (.int .i64 60))])⟩,
  ⟨(some 6), none, (.mv (.tmp 5))⟩,
  ⟨(some 7), (some (6, true)), (.fa 1 (.tmp 1))⟩,
  ⟨(some 8), (some (6, true)), (.load 1 false (.tmp 7))⟩,
  ⟨(some 9), (some (6, true)), (.callX 50 [(.tmp 8), (.const (.int .i64 (-60))), (.const (.int .i64 60))])⟩,
  ⟨(some 10), none, (.pick (.tmp 6) (.tmp 9) (.const (.bool false)))⟩,
  ⟨(some 2), none, (.asg (.tmp 10))⟩]) .ret))
theorem law_spec_l01Point {a0 d : D} (h : code_spec_l01Point.wp (CT Try.prog NoG) (endQ [(.t 2)] d) [a0, .undef, .undef, .undef, .undef, .undef, .undef, .undef, .undef, .undef, .undef]) : Contract Try.prog NoG 68 [a0] d :=
  contract_of noG Try.func68 (fun us W => by kernel_rfl) (c := Try.f68.body.getD .skip) (ms := []) (ms' := []) (by kernel_rfl) (by kernel_rfl) (by kernel_rfl) h
theorem v_l01Point (p : Point) : Contract Try.prog NoG 68 [.agg (Point.td.d false p)] (.v (.bool (ptOK p))) := by
  rw [Point.td_d]
  refine law_spec_l01Point ?_
  unfold code_spec_l01Point ptOK
  simp -implicitDefEqProofs (disch := omega) only [go_sem, ↓reduceIte, Nat.reduceAdd, Nat.reduceMul, Nat.reduceLeDiff, reduceCtorEq, Nat.reduceEqDiff, Nat.reduceBEq, Nat.reduceBNe, Option.some.injEq]
  refine call_leA (v_l00In _ _ _) (by simp -implicitDefEqProofs (disch := omega) only [go_sem, ↓reduceIte, Nat.reduceAdd, Nat.reduceMul, Nat.reduceLeDiff, reduceCtorEq, Nat.reduceEqDiff, Nat.reduceBEq, Nat.reduceBNe, Option.some.injEq, deep, TD.rows, immLL_rI, immLL_rB8, immLL_rS, immLL_rBo, immLL_rII]; exact rfl) (by repeat (first | exact leL_nil | refine leL_cons ?_ ?_ | exact le_of_eq rfl | exact le_slf rfl (by first | rfl | exact TD.rows _ _ _) | refine le_agg ?_ | (refine le_iptrN ?_; simp only [List.drop_succ_cons, List.drop_zero, List.take_succ_cons, List.take_zero, List.take_nil, List.length_cons, List.length_nil, Nat.zero_add, Nat.reduceAdd]) | refine le_iptr ?_ | refine le_fn ?_ ?_)) (by first | exact .inl rfl | exact .inl (by simp only [D.noImm, noImmL, Bool.and_true, Bool.true_and, TD.nims, TD.nim, nim_rI, nim_rB8, nim_rBo, nim_rS])) ?_
  simp -implicitDefEqProofs (disch := omega) only [go_sem, ↓reduceIte, Nat.reduceAdd, Nat.reduceMul, Nat.reduceLeDiff, reduceCtorEq, Nat.reduceEqDiff, Nat.reduceBEq, Nat.reduceBNe, Option.some.injEq]
  refine guard_split ?_ ?_ <;> intro h
  · simp -implicitDefEqProofs (disch := omega) only [go_sem, ↓reduceIte, Nat.reduceAdd, Nat.reduceMul, Nat.reduceLeDiff, reduceCtorEq, Nat.reduceEqDiff, Nat.reduceBEq, Nat.reduceBNe, Option.some.injEq , h]
    refine call_leA (v_l00In _ _ _) (by simp -implicitDefEqProofs (disch := omega) only [go_sem, ↓reduceIte, Nat.reduceAdd, Nat.reduceMul, Nat.reduceLeDiff, reduceCtorEq, Nat.reduceEqDiff, Nat.reduceBEq, Nat.reduceBNe, Option.some.injEq, deep, TD.rows, immLL_rI, immLL_rB8, immLL_rS, immLL_rBo, immLL_rII, h]; exact rfl) (by repeat (first | exact leL_nil | refine leL_cons ?_ ?_ | exact le_of_eq rfl | exact le_slf rfl (by first | rfl | exact TD.rows _ _ _) | refine le_agg ?_ | (refine le_iptrN ?_; simp only [List.drop_succ_cons, List.drop_zero, List.take_succ_cons, List.take_zero, List.take_nil, List.length_cons, List.length_nil, Nat.zero_add, Nat.reduceAdd]) | refine le_iptr ?_ | refine le_fn ?_ ?_)) (by first | exact .inl rfl | exact .inl (by simp only [D.noImm, noImmL, Bool.and_true, Bool.true_and, TD.nims, TD.nim, nim_rI, nim_rB8, nim_rBo, nim_rS])) ?_
    simp -implicitDefEqProofs (disch := omega) only [go_sem, ↓reduceIte, Nat.reduceAdd, Nat.reduceMul, Nat.reduceLeDiff, reduceCtorEq, Nat.reduceEqDiff, Nat.reduceBEq, Nat.reduceBNe, Option.some.injEq , h]
  · simp -implicitDefEqProofs (disch := omega) only [go_sem, ↓reduceIte, Nat.reduceAdd, Nat.reduceMul, Nat.reduceLeDiff, reduceCtorEq, Nat.reduceEqDiff, Nat.reduceBEq, Nat.reduceBNe, Option.some.injEq , h]
/-- impl.isIndex -/
def code_impl_isIndex : VCode := (.seq (.ops [
  ⟨(some 4), none, (.asg (.const (.bool false)))⟩]) (.seq (.ops [
  ⟨(some 5), none, (.mv (.tmp 0))⟩,
  ⟨(some 6), none, (.mv (.tmp 1))⟩,
  ⟨(some 7), none, (.bin .sub (.tmp 6) (.const (.int .i64 1)))⟩,
  ⟨(some 8), none, (.callX 58 [(.tmp 5), (.const (.int .i64 0)), (.tmp 7)])⟩,
  ⟨(some 4), none, (.asg (.tmp 8))⟩]) .ret))
theorem law_impl_isIndex {a0 a1 d : D} (h : code_impl_isIndex.wp (CT Try.prog NoG) (endQ [(.t 4)] d) [a0, a1, .undef, .undef, .undef, .undef, .undef, .undef, .undef]) : Contract Try.prog NoG 118 [a0, a1] d :=
  contract_of noG Try.func118 (fun us W => by kernel_rfl) (c := Try.f118.body.getD .skip) (ms := []) (ms' := []) (by kernel_rfl) (by kernel_rfl) (by kernel_rfl) h
theorem v_isIndex (i n : Int) (h1 : 0 ≤ n) (h2 : n ≤ 1099511627776) : Contract Try.prog NoG 118 [.v (.int .i64 i), .v (.int .i64 n)] (.v (.bool (inR 0 (n - 1) i))) := by
  refine law_impl_isIndex ?_
  unfold code_impl_isIndex
  have hw : IntKind.i64.wrap (n - 1) = n - 1 := wrI (by omega) (by omega)
  simp -implicitDefEqProofs (disch := omega) only [go_sem, ↓reduceIte, Nat.reduceAdd, Nat.reduceMul, Nat.reduceLeDiff, reduceCtorEq, Nat.reduceEqDiff, Nat.reduceBEq, Nat.reduceBNe, Option.some.injEq , hw]
  refine call_leA (v_within _ _ _) (by simp -implicitDefEqProofs (disch := omega) only [go_sem, ↓reduceIte, Nat.reduceAdd, Nat.reduceMul, Nat.reduceLeDiff, reduceCtorEq, Nat.reduceEqDiff, Nat.reduceBEq, Nat.reduceBNe, Option.some.injEq, deep, TD.rows, immLL_rI, immLL_rB8, immLL_rS, immLL_rBo, immLL_rII]; exact rfl) (by repeat (first | exact leL_nil | refine leL_cons ?_ ?_ | exact le_of_eq rfl | exact le_slf rfl (by first | rfl | exact TD.rows _ _ _) | refine le_agg ?_ | (refine le_iptrN ?_; simp only [List.drop_succ_cons, List.drop_zero, List.take_succ_cons, List.take_zero, List.take_nil, List.length_cons, List.length_nil, Nat.zero_add, Nat.reduceAdd]) | refine le_iptr ?_ | refine le_fn ?_ ?_)) (by first | exact .inl rfl | exact .inl (by simp only [D.noImm, noImmL, Bool.and_true, Bool.true_and, TD.nims, TD.nim, nim_rI, nim_rB8, nim_rBo, nim_rS])) ?_
  simp -implicitDefEqProofs (disch := omega) only [go_sem, ↓reduceIte, Nat.reduceAdd, Nat.reduceMul, Nat.reduceLeDiff, reduceCtorEq, Nat.reduceEqDiff, Nat.reduceBEq, Nat.reduceBNe, Option.some.injEq]
/-- (impl.TileSet).isTile -/
def code_impl_TileSet_isTile : VCode := (.seq (.ops [
  ⟨(some 2), none, (.box (.tmp 0))⟩,
  ⟨(some 4), none, (.asg (.const (.bool false)))⟩]) (.seq (.ops [
  ⟨(some 5), none, (.mv (.tmp 1))⟩,
  ⟨(some 6), none, (.fa 1 (.tmp 2))⟩,
  ⟨(some 7), none, (.load 1 false (.tmp 6))⟩,
  ⟨(some 8), none, (.len (.tmp 7))⟩,
  ⟨(some 9), none, (.callX 118 [(.tmp 5), (.tmp 8)])⟩,
  ⟨(some 4), none, (.asg (.tmp 9))⟩]) .ret))
theorem law_impl_TileSet_isTile {a0 a1 d : D} (h : code_impl_TileSet_isTile.wp (CT Try.prog NoG) (endQ [(.t 4)] d) [a0, a1, .undef, .undef, .undef, .undef, .undef, .undef, .undef, .undef]) : Contract Try.prog NoG 72 [a0, a1] d :=
  contract_of noG Try.func72 (fun us W => by kernel_rfl) (c := Try.f72.body.getD .skip) (ms := []) (ms' := []) (by kernel_rfl) (by kernel_rfl) (by kernel_rfl) h
theorem v_isTile (a : TileSet) (i : Int) (hn : a.Tiles.length ≤ 1048576) : Contract Try.prog NoG 72 [.agg (TileSet.td.d false a), .v (.int .i64 i)] (.v (.bool (inR 0 ((a.Tiles.length : Int) - 1) i))) := by
  rw [TileSet.td_d]
  refine law_impl_TileSet_isTile ?_
  unfold code_impl_TileSet_isTile
  simp -implicitDefEqProofs (disch := omega) only [go_sem, ↓reduceIte, Nat.reduceAdd, Nat.reduceMul, Nat.reduceLeDiff, reduceCtorEq, Nat.reduceEqDiff, Nat.reduceBEq, Nat.reduceBNe, Option.some.injEq , List.length_map]
  refine call_leA (v_isIndex i a.Tiles.length (by omega) (by omega)) (by simp -implicitDefEqProofs (disch := omega) only [go_sem, ↓reduceIte, Nat.reduceAdd, Nat.reduceMul, Nat.reduceLeDiff, reduceCtorEq, Nat.reduceEqDiff, Nat.reduceBEq, Nat.reduceBNe, Option.some.injEq, deep, TD.rows, immLL_rI, immLL_rB8, immLL_rS, immLL_rBo, immLL_rII]; exact rfl) (by repeat (first | exact leL_nil | refine leL_cons ?_ ?_ | exact le_of_eq rfl | exact le_slf rfl (by first | rfl | exact TD.rows _ _ _) | refine le_agg ?_ | (refine le_iptrN ?_; simp only [List.drop_succ_cons, List.drop_zero, List.take_succ_cons, List.take_zero, List.take_nil, List.length_cons, List.length_nil, Nat.zero_add, Nat.reduceAdd]) | refine le_iptr ?_ | refine le_fn ?_ ?_)) (by first | exact .inl rfl | exact .inl (by simp only [D.noImm, noImmL, Bool.and_true, Bool.true_and, TD.nims, TD.nim, nim_rI, nim_rB8, nim_rBo, nim_rS])) ?_
  simp -implicitDefEqProofs (disch := omega) only [go_sem, ↓reduceIte, Nat.reduceAdd, Nat.reduceMul, Nat.reduceLeDiff, reduceCtorEq, Nat.reduceEqDiff, Nat.reduceBEq, Nat.reduceBNe, Option.some.injEq]
/-- spec.l02Index -/
def code_spec_l02Index : VCode := (.seq (.ops [
  ⟨(some 4), none, (.asg (.const (.bool false)))⟩]) (.seq (.ops [
  ⟨(some 5), none, (.mv (.tmp 1))⟩,
  ⟨(some 6), none, (.mv (.tmp 0))⟩,
  ⟨(some 7), none, (.nilc (.tmp 6))⟩,
  ⟨(some 8), none, (.fa 1 (.tmp 7))⟩,
  ⟨(some 9), none, (.load 1 false (.tmp 8))⟩,
  ⟨(some 10), none, (.len (.tmp 9))⟩,
  ⟨(some 11), none, (.bin .sub (.tmp 10) (.const (.int .i64 1)))⟩,
  ⟨(some 12), none, (.callX 50 [(.tmp 5), (.const (.int .i64 0)), (.tmp 11)])⟩,
  ⟨(some 4), none, (.asg (.tmp 12))⟩]) .ret))
theorem law_spec_l02Index {a0 a1 d : D} (h : code_spec_l02Index.wp (CT Try.prog NoG) (endQ [(.t 4)] d) [a0, a1, .undef, .undef, .undef, .undef, .undef, .undef, .undef, .undef, .undef, .undef, .undef]) : Contract Try.prog NoG 69 [a0, a1] d :=
  contract_of noG Try.func69 (fun us W => by kernel_rfl) (c := Try.f69.body.getD .skip) (ms := []) (ms' := []) (by kernel_rfl) (by kernel_rfl) (by kernel_rfl) h
theorem v_l02Index (a : TileSet) (i : Int) (hn : a.Tiles.length ≤ 1048576) : Contract Try.prog NoG 69 [.iptr (TileSet.td.d false a) 0, .v (.int .i64 i)] (.v (.bool (inR 0 ((a.Tiles.length : Int) - 1) i))) := by
  rw [TileSet.td_d]
  refine law_spec_l02Index ?_
  unfold code_spec_l02Index
  have hw : IntKind.i64.wrap ((a.Tiles.length : Int) - 1) = (a.Tiles.length : Int) - 1 := wrI (by omega) (by omega)
  simp -implicitDefEqProofs (disch := omega) only [go_sem, ↓reduceIte, Nat.reduceAdd, Nat.reduceMul, Nat.reduceLeDiff, reduceCtorEq, Nat.reduceEqDiff, Nat.reduceBEq, Nat.reduceBNe, Option.some.injEq , List.length_map, hw]
  refine call_leA (v_l00In _ _ _) (by simp -implicitDefEqProofs (disch := omega) only [go_sem, ↓reduceIte, Nat.reduceAdd, Nat.reduceMul, Nat.reduceLeDiff, reduceCtorEq, Nat.reduceEqDiff, Nat.reduceBEq, Nat.reduceBNe, Option.some.injEq, deep, TD.rows, immLL_rI, immLL_rB8, immLL_rS, immLL_rBo, immLL_rII]; exact rfl) (by repeat (first | exact leL_nil | refine leL_cons ?_ ?_ | exact le_of_eq rfl | exact le_slf rfl (by first | rfl | exact TD.rows _ _ _) | refine le_agg ?_ | (refine le_iptrN ?_; simp only [List.drop_succ_cons, List.drop_zero, List.take_succ_cons, List.take_zero, List.take_nil, List.length_cons, List.length_nil, Nat.zero_add, Nat.reduceAdd]) | refine le_iptr ?_ | refine le_fn ?_ ?_)) (by first | exact .inl rfl | exact .inl (by simp only [D.noImm, noImmL, Bool.and_true, Bool.true_and, TD.nims, TD.nim, nim_rI, nim_rB8, nim_rBo, nim_rS])) ?_
  simp -implicitDefEqProofs (disch := omega) only [go_sem, ↓reduceIte, Nat.reduceAdd, Nat.reduceMul, Nat.reduceLeDiff, reduceCtorEq, Nat.reduceEqDiff, Nat.reduceBEq, Nat.reduceBNe, Option.some.injEq]
/-- Whether a placed tile has the form of one, and stands behind the one ahead of it. -/
def okP (ps : List Placed) (i : Nat) : Bool := match ps[i]? with
  | some x => ptOK x.At && (inR 0 159 x.Tile && (decide (i = 0) || match ps[i - 1]? with
    | some y => lessP y.At x.At
    | none => false))
  | none => false
def okForm (ps : List Placed) : Bool := decide (ps.length ≤ 500) && (List.range ps.length).all (okP ps)
def okAsm (a : TileSet) (b : Assembly) : Bool := okForm b.Tiles && b.Tiles.all (fun t => inR 0 ((a.Tiles.length : Int) - 1) t.Tile)
theorem okP_zero {ps : List Placed} (h : 0 < ps.length) : okP ps 0 = (ptOK ps[0].At && inR 0 159 ps[0].Tile) := by
  unfold okP
  rw [List.getElem?_eq_getElem h]
  simp
theorem okP_succ {ps : List Placed} {i : Nat} (h : i + 1 < ps.length) : okP ps (i + 1) = (ptOK ps[i + 1].At && (inR 0 159 ps[i + 1].Tile && lessP ps[i].At ps[i + 1].At)) := by
  unfold okP
  rw [List.getElem?_eq_getElem h]
  simp only [Nat.add_sub_cancel]
  rw [List.getElem?_eq_getElem (by omega)]
  simp
theorem okForm_no {ps : List Placed} {i : Nat} (hi : i < ps.length) (h : okP ps i = false) : okForm ps = false := by
  unfold okForm
  have : (List.range ps.length).all (okP ps) = false := by rw [List.all_eq_false]; exact ⟨i, by simpa using hi, by simp [h]⟩
  rw [this, Bool.and_false]
theorem okForm_yes {ps : List Placed} (h : (List.range ps.length).all (okP ps) = true) : okForm ps = decide (ps.length ≤ 500) := by
  unfold okForm; rw [h, Bool.and_true]
abbrev mk_impl_hasForm_0 : List Bool := [true, false, true, true, true, false, false, false, false, true, true, true, true, true, true, true, true, true, true, true, true, true, true, true, true, true, true, true, true, true, true, true, true, true, true, true, true, true, true, true, true, true, true, true, true]
abbrev mk_impl_hasForm_1 : List Bool := [false, false, false, false, false, false, false, false, false, false, false, false, false, true, true, true, true, true, true, true, true, true, true, true, true, true, true, true, true, true, true, true, true, true, true, true]
abbrev mk_impl_hasForm_2 : List Bool := [false, false, false, false, false, false, false, false, false, false, false, false, false, false, true, true, true, true, true, true, true, true, true, true, true, true, true, true, true, true, true, true, true, true, true, true]
abbrev mk_impl_hasForm_3 : List Bool := [false, false, false, false, false, false, false, false, false, false, false, false, false, false, false, true, true, true, true, true, true, true, true, true, true, true, true, true, true, true, true, true, true, true, true, true]
abbrev mk_impl_hasForm_4 : List Bool := [false, false, false, false, false, false, false, false, false, false, false, false, false, false, false, false, true, true, true, true, true, true, true, true, true, true, true, true, true, true, true, true, true, true, true, true]
abbrev mk_impl_hasForm_5 : List Bool := [false, false, false, false, false, false, false, false, false, false, false, false, false, false, false, false, false, true, true, true, true, true, true, true, true, true, true, true, true, true, true, true, true, true, true, true]
abbrev mk_impl_hasForm_6 : List Bool := [false, false, false, false, false, false, false, false, false, false, false, false, false, false, false, false, false, false, true, true, true, true, true, true, true, true, true, true, true, true, true, true, true, true, true, true]
abbrev mk_impl_hasForm_7 : List Bool := [false, false, false, false, false, false, false, false, false, false, false, false, false, false, false, false, false, false, false, true, true, true, true, true, true, true, true, true, true, true, true, true, true, true, true, true]
abbrev mk_impl_hasForm_8 : List Bool := [false, false, false, false, false, false, false, false, false, false, false, false, false, false, false, false, false, false, false, false, true, true, true, true, true, true, true, true, true, true, true, true, true, true, true, true]
abbrev mk_impl_hasForm_9 : List Bool := [false, false, false, false, false, false, false, false, false, false, false, false, false, false, false, false, false, false, false, false, false, true, true, true, true, true, true, true, true, true, true, true, true, true, true, true]
abbrev mk_impl_hasForm_10 : List Bool := [false, false, false, false, false, false, false, false, false, false, false, false, false, false, false, false, false, false, false, false, false, false, true, true, true, true, true, true, true, true, true, true, true, true, true, true]
abbrev mk_impl_hasForm_11 : List Bool := [false, false, false, false, false, false, false, false, false, false, false, false, false, false, false, false, false, false, false, false, false, false, false, true, true, true, true, true, true, true, true, true, true, true, true, true]
abbrev mk_impl_hasForm_12 : List Bool := [false, false, false, false, false, false, false, false, false, false, false, false, false, false, false, false, false, false, false, false, false, false, false, false, true, true, true, true, true, true, true, true, true, true, true, true]
abbrev mk_impl_hasForm_13 : List Bool := [false, false, false, false, false, false, false, false, false, false, false, false, false, false, false, false, false, false, false, false, false, false, false, false, false, true, true, true, true, true, true, true, true, true, true, true]
abbrev mk_impl_hasForm_14 : List Bool := [false, false, false, false, false, false, false, false, false, false, false, false, false, false, false, false, false, false, false, false, false, false, false, false, false, false, true, true, true, true, true, true, true, true, true, true]
abbrev mk_impl_hasForm_15 : List Bool := [false, false, false, false, false, false, false, false, false, false, false, false, false, false, false, false, false, false, false, false, false, false, false, false, false, false, false, true, true, true, true, true, true, true, true, true]
abbrev mk_impl_hasForm_16 : List Bool := [false, false, false, false, false, false, false, false, false, false, false, false, false, false, false, false, false, false, false, false, false, false, false, false, false, false, false, false, true, true, true, true, true, true, true, true]
abbrev mk_impl_hasForm_17 : List Bool := [false, false, false, false, false, false, false, false, false, false, false, false, false, false, false, false, false, false, false, false, false, false, false, false, false, false, false, true, true, false, true, true, true, true, true, true]
abbrev mk_impl_hasForm_18 : List Bool := [false, false, false, false, false, false, false, false, false, false, false, false, false, false, false, false, false, false, false, false, false, false, false, false, false, false, false, false, false, false, false, true, true, true, true, true]
abbrev mk_impl_hasForm_19 : List Bool := [false, false, false, false, false, false, false, false, false, false, false, false, false, false, false, false, false, false, false, false, false, false, false, false, false, false, false, false, false, false, false, false, true, true, true, true]
abbrev mk_impl_hasForm_20 : List Bool := [false, false, false, false, false, false, false, false, false, false, false, false, false, false, false, false, false, false, false, false, false, false, false, false, false, false, false, false, false, false, false, false, false, true, true, true]
abbrev mk_impl_hasForm_21 : List Bool := [false, false, false, false, false, false, false, false, false, false, false, false, false, false, false, false, false, false, false, false, false, false, false, false, false, false, false, true, true, true, true, true, true, true, false, true]
/-- impl.hasForm -/
def code_impl_hasForm : VCode := (.seq (.ops [
  ⟨(some 1), none, (.box (.tmp 0))⟩,
  ⟨(some 2), none, (.asg (.const (.bool false)))⟩]) (.seq (.seq (.ops [
  ⟨(some 5), none, (.fa 0 (.tmp 1))⟩,
  ⟨(some 6), none, (.load 1 false (.tmp 5))⟩,
  ⟨(some 7), none, (.len (.tmp 6))⟩,
  ⟨(some 8), none, (.mv (.const (.int .i64 0)))⟩]) (.block 0 (.loop mk_impl_hasForm_0 (.seq (.ops [
  ⟨(some 9), none, (.bin .lss (.tmp 8) (.tmp 7))⟩]) (.seq (.cond (.tmp 9) .skip (.exit 0)) (.seq (.block 1 (.seq (.ops [
  ⟨(some 10), none, (.mv (.tmp 8))⟩,
  ⟨(some 11), none, (.ia 3 (.tmp 6) (.tmp 8))⟩,
  ⟨(some 12), none, (.load 3 true (.tmp 11))⟩,
  ⟨(some 4), none, (.alloc [(.int .i64 0), (.int .i64 0), (.int .i64 0)])⟩,
  ⟨(some 3), none, (.asg (.tmp 10))⟩,
  ⟨none, none, (.store 3 (.tmp 4) (.tmp 12))⟩]) (.seq (.draw mk_impl_hasForm_1 [] [⟨0, mk_impl_hasForm_1, [], ⟨(some 13), none, (.fa 0 (.tmp 4))⟩⟩, ⟨1, mk_impl_hasForm_2, [], ⟨(some 14), none, (.load 2 true (.tmp 13))⟩⟩, ⟨2, mk_impl_hasForm_3, [], ⟨(some 15), none, (.call 71 [(.tmp 14)])⟩⟩, ⟨3, mk_impl_hasForm_4, [], ⟨(some 16), none, (.un .not (.tmp 15))⟩⟩, ⟨4, mk_impl_hasForm_5, [], ⟨(some 17), none, (.mv (.tmp 16))⟩⟩, ⟨5, mk_impl_hasForm_6, [], ⟨(some 18), (some (17, false)), (.fa 2 (.tmp 4))⟩⟩, ⟨6, mk_impl_hasForm_7, [], ⟨(some 19), (some (17, false)), (.load 1 false (.tmp 18))⟩⟩, ⟨7, mk_impl_hasForm_8, [], ⟨(some 20), (some (17, false)), (.call 118 [(.tmp 19), (.const (.int .i64 160))])⟩⟩, ⟨8, mk_impl_hasForm_9, [], ⟨(some 21), (some (17, false)), (.un .not (.tmp 20))⟩⟩, ⟨9, mk_impl_hasForm_10, [], ⟨(some 22), none, (.pick (.tmp 17) (.const (.bool true)) (.tmp 21))⟩⟩, ⟨10, mk_impl_hasForm_11, [], ⟨(some 23), none, (.mv (.tmp 22))⟩⟩, ⟨11, mk_impl_hasForm_12, [], ⟨(some 24), (some (23, false)), (.mv (.tmp 3))⟩⟩, ⟨12, mk_impl_hasForm_13, [], ⟨(some 25), (some (23, false)), (.bin .gtr (.tmp 24) (.const (.int .i64 0)))⟩⟩, ⟨13, mk_impl_hasForm_14, [], ⟨(some 26), (some (23, false)), (.mv (.tmp 25))⟩⟩, ⟨14, mk_impl_hasForm_15, [], ⟨(some 27), (some (26, true)), (.fa 0 (.tmp 1))⟩⟩, ⟨15, mk_impl_hasForm_16, [], ⟨(some 28), (some (26, true)), (.load 1 false (.tmp 27))⟩⟩, ⟨16, mk_impl_hasForm_15, [], ⟨(some 29), (some (26, true)), (.mv (.tmp 3))⟩⟩, ⟨17, mk_impl_hasForm_17, [], ⟨(some 30), (some (26, true)), (.bin .sub (.tmp 29) (.const (.int .i64 1)))⟩⟩, ⟨18, mk_impl_hasForm_18, [], ⟨(some 31), (some (26, true)), (.ia 3 (.tmp 28) (.tmp 30))⟩⟩, ⟨19, mk_impl_hasForm_19, [], ⟨(some 32), (some (26, true)), (.fa 0 (.tmp 31))⟩⟩, ⟨20, mk_impl_hasForm_20, [], ⟨(some 33), (some (26, true)), (.load 2 true (.tmp 32))⟩⟩, ⟨21, mk_impl_hasForm_15, [], ⟨(some 34), (some (26, true)), (.fa 0 (.tmp 4))⟩⟩, ⟨22, mk_impl_hasForm_21, [], ⟨(some 35), (some (26, true)), (.load 2 true (.tmp 34))⟩⟩] [⟨(some 36), (some (26, true)), (.callX 113 [(.tmp 33), (.tmp 35)])⟩, ⟨(some 37), (some (26, true)), (.un .not (.tmp 36))⟩, ⟨(some 38), (some (23, false)), (.pick (.tmp 26) (.tmp 37) (.const (.bool false)))⟩, ⟨(some 39), none, (.pick (.tmp 23) (.const (.bool true)) (.tmp 38))⟩]) (.cond (.tmp 39) (.seq (.ops [
  ⟨(some 2), none, (.asg (.const (.bool false)))⟩]) .ret) .skip)))) (.ops [
  ⟨(some 40), none, (.bin .add (.tmp 8) (.const (.int .i64 1)))⟩,
  ⟨(some 8), none, (.mv (.tmp 40))⟩]))))))) (.seq (.ops [
  ⟨(some 41), none, (.fa 0 (.tmp 1))⟩,
  ⟨(some 42), none, (.load 1 false (.tmp 41))⟩,
  ⟨(some 43), none, (.len (.tmp 42))⟩,
  ⟨(some 44), none, (.bin .leq (.tmp 43) (.const (.int .i64 500)))⟩,
  ⟨(some 2), none, (.asg (.tmp 44))⟩]) .ret)))
theorem law_impl_hasForm {a0 d : D} (h : code_impl_hasForm.wp (CT Try.prog NoG) (endQ [(.t 2)] d) [a0, .undef, .undef, .undef, .undef, .undef, .undef, .undef, .undef, .undef, .undef, .undef, .undef, .undef, .undef, .undef, .undef, .undef, .undef, .undef, .undef, .undef, .undef, .undef, .undef, .undef, .undef, .undef, .undef, .undef, .undef, .undef, .undef, .undef, .undef, .undef, .undef, .undef, .undef, .undef, .undef, .undef, .undef, .undef, .undef]) : Contract Try.prog NoG 80 [a0] d :=
  contract_of noG Try.func80 (fun us W => by kernel_rfl) (c := Try.f80.body.getD .skip) (ms := [mk_impl_hasForm_0]) (ms' := []) (by kernel_rfl) (by kernel_rfl) (by kernel_rfl) h
set_option maxHeartbeats 2000000 in
theorem v_hasForm (b : Assembly) (hn : b.Tiles.length ≤ 1048576) : Contract Try.prog NoG 80 [.agg (Assembly.td.d false b)] (.v (.bool (okForm b.Tiles))) := by
  rw [Assembly.td_d]
  refine law_impl_hasForm ?_
  unfold code_impl_hasForm
  simp -implicitDefEqProofs (disch := omega) only [go_sem, ↓reduceIte, Nat.reduceAdd, Nat.reduceMul, Nat.reduceLeDiff, reduceCtorEq, Nat.reduceEqDiff, Nat.reduceBEq, Nat.reduceBNe, Option.some.injEq , List.length_map]
  refine loop_ov (by simp -implicitDefEqProofs (disch := omega) only [go_sem, ↓reduceIte, Nat.reduceAdd, Nat.reduceMul, Nat.reduceLeDiff, reduceCtorEq, Nat.reduceEqDiff, Nat.reduceBEq, Nat.reduceBNe, Option.some.injEq]; exact rfl) (fun i : Nat => [(8, .v (.int .i64 (i : Nat)))]) (fun _ => by simp only [ovr_nil, ovr_cons, List.set_cons_zero, List.set_cons_succ]; exact rfl) (fun i : Nat => i ≤ b.Tiles.length ∧ (List.range i).all (okP b.Tiles) = true) (fun i : Nat => b.Tiles.length - i) (0) (by (try simp -implicitDefEqProofs only [nleL_cc, nleL_nn, nle_self, nle_boxs, nle_aggs, nle_nils, and_self, and_true, true_and]) <;> repeat' (first | exact nle_of_eq rfl | exact nle_nil | refine And.intro ?_ ?_ | refine nle_box ?_ | refine nle_agg ?_ | refine nle_sl ?_ | exact nleLL_nil | refine nleLL_cons ?_ ?_ | exact nleL_nil | refine nleL_cons ?_ ?_ | exact nle_rfl _)) (?_) ?_
  · exact ⟨Nat.zero_le _, rfl⟩
  rintro i ⟨hi, hal⟩
  simp -implicitDefEqProofs (disch := omega) only [go_sem, ↓reduceIte, Nat.reduceAdd, Nat.reduceMul, Nat.reduceLeDiff, reduceCtorEq, Nat.reduceEqDiff, Nat.reduceBEq, Nat.reduceBNe, Option.some.injEq , List.length_map, Int.toNat_natCast, Int.ofNat_lt, Int.natCast_nonneg, List.getElem?_map, Option.map_some]
  refine cond_split ?_ ?_ <;> intro hlt
  · have hlt : i < b.Tiles.length := by simpa using hlt
    have e1 := List.getElem?_eq_getElem hlt
    have key : ∀ v, okP b.Tiles i = v → (v = false → okForm b.Tiles = false) ∧ (v = true → (List.range (i + 1)).all (okP b.Tiles) = true) := fun v hv => ⟨fun h => okForm_no hlt (hv.trans h), fun h => all_next hal (hv.trans h)⟩
    simp -implicitDefEqProofs (disch := omega) only [go_sem, ↓reduceIte, Nat.reduceAdd, Nat.reduceMul, Nat.reduceLeDiff, reduceCtorEq, Nat.reduceEqDiff, Nat.reduceBEq, Nat.reduceBNe, Option.some.injEq , List.length_map, Int.toNat_natCast, Int.ofNat_lt, Int.natCast_nonneg, List.getElem?_map, Option.map_some, hlt, e1, Placed.td_d]
    cases c1 : ptOK b.Tiles[i].At with
    | false =>
      have hno : okForm b.Tiles = false := (key _ rfl).1 (by unfold okP; rw [e1]; simp only [c1, Bool.false_and])
      refine call_leNA (v_ValidPoint b.Tiles[i].At) (by simp -implicitDefEqProofs (disch := omega) only [go_sem, ↓reduceIte, Nat.reduceAdd, Nat.reduceMul, Nat.reduceLeDiff, reduceCtorEq, Nat.reduceEqDiff, Nat.reduceBEq, Nat.reduceBNe, Option.some.injEq, deep, TD.rows, immLL_rI, immLL_rB8, immLL_rS, immLL_rBo, immLL_rII, c1, hno]; exact rfl) (by repeat (first | exact leL_nil | refine leL_cons ?_ ?_ | exact le_of_eq rfl | exact le_slf rfl (by first | rfl | exact TD.rows _ _ _) | refine le_agg ?_ | (refine le_iptrN ?_; simp only [List.drop_succ_cons, List.drop_zero, List.take_succ_cons, List.take_zero, List.take_nil, List.length_cons, List.length_nil, Nat.zero_add, Nat.reduceAdd]) | refine le_iptr ?_ | refine le_fn ?_ ?_)) (by first | exact .inl rfl | exact .inl (by simp only [D.noImm, noImmL, Bool.and_true, Bool.true_and, TD.nims, TD.nim, nim_rI, nim_rB8, nim_rBo, nim_rS])) ?_
      simp -implicitDefEqProofs (disch := omega) only [go_sem, ↓reduceIte, Nat.reduceAdd, Nat.reduceMul, Nat.reduceLeDiff, reduceCtorEq, Nat.reduceEqDiff, Nat.reduceBEq, Nat.reduceBNe, Option.some.injEq , c1, hno]
    | true =>
    cases c2 : inR 0 159 b.Tiles[i].Tile with
    | false =>
      have hno : okForm b.Tiles = false := (key _ rfl).1 (by unfold okP; rw [e1]; simp only [c2, Bool.false_and, Bool.and_false])
      refine call_leNA (v_ValidPoint b.Tiles[i].At) (by simp -implicitDefEqProofs (disch := omega) only [go_sem, ↓reduceIte, Nat.reduceAdd, Nat.reduceMul, Nat.reduceLeDiff, reduceCtorEq, Nat.reduceEqDiff, Nat.reduceBEq, Nat.reduceBNe, Option.some.injEq, deep, TD.rows, immLL_rI, immLL_rB8, immLL_rS, immLL_rBo, immLL_rII, c1]; exact rfl) (by repeat (first | exact leL_nil | refine leL_cons ?_ ?_ | exact le_of_eq rfl | exact le_slf rfl (by first | rfl | exact TD.rows _ _ _) | refine le_agg ?_ | (refine le_iptrN ?_; simp only [List.drop_succ_cons, List.drop_zero, List.take_succ_cons, List.take_zero, List.take_nil, List.length_cons, List.length_nil, Nat.zero_add, Nat.reduceAdd]) | refine le_iptr ?_ | refine le_fn ?_ ?_)) (by first | exact .inl rfl | exact .inl (by simp only [D.noImm, noImmL, Bool.and_true, Bool.true_and, TD.nims, TD.nim, nim_rI, nim_rB8, nim_rBo, nim_rS])) ?_
      simp -implicitDefEqProofs (disch := omega) only [go_sem, ↓reduceIte, Nat.reduceAdd, Nat.reduceMul, Nat.reduceLeDiff, reduceCtorEq, Nat.reduceEqDiff, Nat.reduceBEq, Nat.reduceBNe, Option.some.injEq , c1]
      refine call_leNA (v_isIndex b.Tiles[i].Tile 160 (by decide) (by decide)) (by simp -implicitDefEqProofs (disch := omega) only [go_sem, ↓reduceIte, Nat.reduceAdd, Nat.reduceMul, Nat.reduceLeDiff, reduceCtorEq, Nat.reduceEqDiff, Nat.reduceBEq, Nat.reduceBNe, Option.some.injEq, deep, TD.rows, immLL_rI, immLL_rB8, immLL_rS, immLL_rBo, immLL_rII, Int.reduceSub, c2, hno]; exact rfl) (by repeat (first | exact leL_nil | refine leL_cons ?_ ?_ | exact le_of_eq rfl | exact le_slf rfl (by first | rfl | exact TD.rows _ _ _) | refine le_agg ?_ | (refine le_iptrN ?_; simp only [List.drop_succ_cons, List.drop_zero, List.take_succ_cons, List.take_zero, List.take_nil, List.length_cons, List.length_nil, Nat.zero_add, Nat.reduceAdd]) | refine le_iptr ?_ | refine le_fn ?_ ?_)) (by first | exact .inl rfl | exact .inl (by simp only [D.noImm, noImmL, Bool.and_true, Bool.true_and, TD.nims, TD.nim, nim_rI, nim_rB8, nim_rBo, nim_rS])) ?_
      simp -implicitDefEqProofs (disch := omega) only [go_sem, ↓reduceIte, Nat.reduceAdd, Nat.reduceMul, Nat.reduceLeDiff, reduceCtorEq, Nat.reduceEqDiff, Nat.reduceBEq, Nat.reduceBNe, Option.some.injEq , Int.reduceSub, c2, hno]
    | true =>
    cases i with
    | zero =>
      have hok := (key _ (okP_zero hlt)).2 (by rw [c1, c2]; rfl)
      refine call_leNA (v_ValidPoint b.Tiles[0].At) (by simp -implicitDefEqProofs (disch := omega) only [go_sem, ↓reduceIte, Nat.reduceAdd, Nat.reduceMul, Nat.reduceLeDiff, reduceCtorEq, Nat.reduceEqDiff, Nat.reduceBEq, Nat.reduceBNe, Option.some.injEq, deep, TD.rows, immLL_rI, immLL_rB8, immLL_rS, immLL_rBo, immLL_rII, c1]; exact rfl) (by repeat (first | exact leL_nil | refine leL_cons ?_ ?_ | exact le_of_eq rfl | exact le_slf rfl (by first | rfl | exact TD.rows _ _ _) | refine le_agg ?_ | (refine le_iptrN ?_; simp only [List.drop_succ_cons, List.drop_zero, List.take_succ_cons, List.take_zero, List.take_nil, List.length_cons, List.length_nil, Nat.zero_add, Nat.reduceAdd]) | refine le_iptr ?_ | refine le_fn ?_ ?_)) (by first | exact .inl rfl | exact .inl (by simp only [D.noImm, noImmL, Bool.and_true, Bool.true_and, TD.nims, TD.nim, nim_rI, nim_rB8, nim_rBo, nim_rS])) ?_
      simp -implicitDefEqProofs (disch := omega) only [go_sem, ↓reduceIte, Nat.reduceAdd, Nat.reduceMul, Nat.reduceLeDiff, reduceCtorEq, Nat.reduceEqDiff, Nat.reduceBEq, Nat.reduceBNe, Option.some.injEq , c1]
      refine call_leNA (v_isIndex b.Tiles[0].Tile 160 (by decide) (by decide)) (by simp -implicitDefEqProofs (disch := omega) only [go_sem, ↓reduceIte, Nat.reduceAdd, Nat.reduceMul, Nat.reduceLeDiff, reduceCtorEq, Nat.reduceEqDiff, Nat.reduceBEq, Nat.reduceBNe, Option.some.injEq, deep, TD.rows, immLL_rI, immLL_rB8, immLL_rS, immLL_rBo, immLL_rII, Int.reduceSub, c2, Int.natCast_zero, Int.natCast_one, Int.cast_ofNat_Int, Int.ofNat_le, Int.toNat_zero, Nat.sub_zero, Int.le_refl, Int.reduceLT, Int.reduceLE, Int.reduceEq, Int.reduceAdd, Int.reduceSub, Int.reduceMul, Int.reduceToNat, Int.reduceNeg, Int.lt_irrefl]; exact rfl) (by repeat (first | exact leL_nil | refine leL_cons ?_ ?_ | exact le_of_eq rfl | exact le_slf rfl (by first | rfl | exact TD.rows _ _ _) | refine le_agg ?_ | (refine le_iptrN ?_; simp only [List.drop_succ_cons, List.drop_zero, List.take_succ_cons, List.take_zero, List.take_nil, List.length_cons, List.length_nil, Nat.zero_add, Nat.reduceAdd]) | refine le_iptr ?_ | refine le_fn ?_ ?_)) (by first | exact .inl rfl | exact .inl (by simp only [D.noImm, noImmL, Bool.and_true, Bool.true_and, TD.nims, TD.nim, nim_rI, nim_rB8, nim_rBo, nim_rS])) ?_
      simp -implicitDefEqProofs (disch := omega) only [go_sem, ↓reduceIte, Nat.reduceAdd, Nat.reduceMul, Nat.reduceLeDiff, reduceCtorEq, Nat.reduceEqDiff, Nat.reduceBEq, Nat.reduceBNe, Option.some.injEq , Int.reduceSub, c2, Int.natCast_zero, Int.natCast_one, Int.cast_ofNat_Int, Int.ofNat_le, Int.toNat_zero, Nat.sub_zero, Int.le_refl, Int.reduceLT, Int.reduceLE, Int.reduceEq, Int.reduceAdd, Int.reduceSub, Int.reduceMul, Int.reduceToNat, Int.reduceNeg, Int.lt_irrefl]
      exact ⟨1, by omega, ⟨by omega, hok⟩, by (try simp -implicitDefEqProofs only [nleL_cc, nleL_nn, nle_self, nle_boxs, nle_aggs, nle_nils, and_self, and_true, true_and]) <;> repeat' (first | exact nle_of_eq rfl | exact nle_nil | refine And.intro ?_ ?_ | refine nle_box ?_ | refine nle_agg ?_ | refine nle_sl ?_ | exact nleLL_nil | refine nleLL_cons ?_ ?_ | exact nleL_nil | refine nleL_cons ?_ ?_ | exact nle_rfl _)⟩
    | succ k =>
      have hk : k < b.Tiles.length := by omega
      have e2 := List.getElem?_eq_getElem hk
      have w1 : IntKind.i64.wrap (((k + 1 : Nat) : Int) - 1) = (k : Int) := by rw [wrI (by omega) (by omega)]; omega
      have d1 : decide ((0 : Int) < ((k + 1 : Nat) : Int)) = true := by rw [decide_eq_true_eq]; omega
      cases c3 : lessP b.Tiles[k].At b.Tiles[k + 1].At with
      | false =>
        have hno := (key _ (okP_succ hlt)).1 (by rw [c1, c2, c3]; rfl)
        refine call_leNA (v_ValidPoint b.Tiles[k + 1].At) (by simp -implicitDefEqProofs (disch := omega) only [go_sem, ↓reduceIte, Nat.reduceAdd, Nat.reduceMul, Nat.reduceLeDiff, reduceCtorEq, Nat.reduceEqDiff, Nat.reduceBEq, Nat.reduceBNe, Option.some.injEq, deep, TD.rows, immLL_rI, immLL_rB8, immLL_rS, immLL_rBo, immLL_rII, c1]; exact rfl) (by repeat (first | exact leL_nil | refine leL_cons ?_ ?_ | exact le_of_eq rfl | exact le_slf rfl (by first | rfl | exact TD.rows _ _ _) | refine le_agg ?_ | (refine le_iptrN ?_; simp only [List.drop_succ_cons, List.drop_zero, List.take_succ_cons, List.take_zero, List.take_nil, List.length_cons, List.length_nil, Nat.zero_add, Nat.reduceAdd]) | refine le_iptr ?_ | refine le_fn ?_ ?_)) (by first | exact .inl rfl | exact .inl (by simp only [D.noImm, noImmL, Bool.and_true, Bool.true_and, TD.nims, TD.nim, nim_rI, nim_rB8, nim_rBo, nim_rS])) ?_
        simp -implicitDefEqProofs (disch := omega) only [go_sem, ↓reduceIte, Nat.reduceAdd, Nat.reduceMul, Nat.reduceLeDiff, reduceCtorEq, Nat.reduceEqDiff, Nat.reduceBEq, Nat.reduceBNe, Option.some.injEq , c1]
        refine call_leNA (v_isIndex b.Tiles[k + 1].Tile 160 (by decide) (by decide)) (by simp -implicitDefEqProofs (disch := omega) only [go_sem, ↓reduceIte, Nat.reduceAdd, Nat.reduceMul, Nat.reduceLeDiff, reduceCtorEq, Nat.reduceEqDiff, Nat.reduceBEq, Nat.reduceBNe, Option.some.injEq, deep, TD.rows, immLL_rI, immLL_rB8, immLL_rS, immLL_rBo, immLL_rII, Int.reduceSub, c2, d1, w1, hk, e2, List.length_map, Int.toNat_natCast, Int.ofNat_lt, Int.natCast_nonneg, List.getElem?_map, Option.map_some, Placed.td_d]; exact rfl) (by repeat (first | exact leL_nil | refine leL_cons ?_ ?_ | exact le_of_eq rfl | exact le_slf rfl (by first | rfl | exact TD.rows _ _ _) | refine le_agg ?_ | (refine le_iptrN ?_; simp only [List.drop_succ_cons, List.drop_zero, List.take_succ_cons, List.take_zero, List.take_nil, List.length_cons, List.length_nil, Nat.zero_add, Nat.reduceAdd]) | refine le_iptr ?_ | refine le_fn ?_ ?_)) (by first | exact .inl rfl | exact .inl (by simp only [D.noImm, noImmL, Bool.and_true, Bool.true_and, TD.nims, TD.nim, nim_rI, nim_rB8, nim_rBo, nim_rS])) ?_
        simp -implicitDefEqProofs (disch := omega) only [go_sem, ↓reduceIte, Nat.reduceAdd, Nat.reduceMul, Nat.reduceLeDiff, reduceCtorEq, Nat.reduceEqDiff, Nat.reduceBEq, Nat.reduceBNe, Option.some.injEq , Int.reduceSub, c2, d1, w1, hk, e2, List.length_map, Int.toNat_natCast, Int.ofNat_lt, Int.natCast_nonneg, List.getElem?_map, Option.map_some, Placed.td_d]
        refine call_leA (v_LessPoint b.Tiles[k].At b.Tiles[k + 1].At) (by simp -implicitDefEqProofs (disch := omega) only [go_sem, ↓reduceIte, Nat.reduceAdd, Nat.reduceMul, Nat.reduceLeDiff, reduceCtorEq, Nat.reduceEqDiff, Nat.reduceBEq, Nat.reduceBNe, Option.some.injEq, deep, TD.rows, immLL_rI, immLL_rB8, immLL_rS, immLL_rBo, immLL_rII, c3, hno]; exact rfl) (by repeat (first | exact leL_nil | refine leL_cons ?_ ?_ | exact le_of_eq rfl | exact le_slf rfl (by first | rfl | exact TD.rows _ _ _) | refine le_agg ?_ | (refine le_iptrN ?_; simp only [List.drop_succ_cons, List.drop_zero, List.take_succ_cons, List.take_zero, List.take_nil, List.length_cons, List.length_nil, Nat.zero_add, Nat.reduceAdd]) | refine le_iptr ?_ | refine le_fn ?_ ?_)) (by first | exact .inl rfl | exact .inl (by simp only [D.noImm, noImmL, Bool.and_true, Bool.true_and, TD.nims, TD.nim, nim_rI, nim_rB8, nim_rBo, nim_rS])) ?_
        simp -implicitDefEqProofs (disch := omega) only [go_sem, ↓reduceIte, Nat.reduceAdd, Nat.reduceMul, Nat.reduceLeDiff, reduceCtorEq, Nat.reduceEqDiff, Nat.reduceBEq, Nat.reduceBNe, Option.some.injEq , c3, hno]
      | true =>
        have hok := (key _ (okP_succ hlt)).2 (by rw [c1, c2, c3]; rfl)
        refine call_leNA (v_ValidPoint b.Tiles[k + 1].At) (by simp -implicitDefEqProofs (disch := omega) only [go_sem, ↓reduceIte, Nat.reduceAdd, Nat.reduceMul, Nat.reduceLeDiff, reduceCtorEq, Nat.reduceEqDiff, Nat.reduceBEq, Nat.reduceBNe, Option.some.injEq, deep, TD.rows, immLL_rI, immLL_rB8, immLL_rS, immLL_rBo, immLL_rII, c1]; exact rfl) (by repeat (first | exact leL_nil | refine leL_cons ?_ ?_ | exact le_of_eq rfl | exact le_slf rfl (by first | rfl | exact TD.rows _ _ _) | refine le_agg ?_ | (refine le_iptrN ?_; simp only [List.drop_succ_cons, List.drop_zero, List.take_succ_cons, List.take_zero, List.take_nil, List.length_cons, List.length_nil, Nat.zero_add, Nat.reduceAdd]) | refine le_iptr ?_ | refine le_fn ?_ ?_)) (by first | exact .inl rfl | exact .inl (by simp only [D.noImm, noImmL, Bool.and_true, Bool.true_and, TD.nims, TD.nim, nim_rI, nim_rB8, nim_rBo, nim_rS])) ?_
        simp -implicitDefEqProofs (disch := omega) only [go_sem, ↓reduceIte, Nat.reduceAdd, Nat.reduceMul, Nat.reduceLeDiff, reduceCtorEq, Nat.reduceEqDiff, Nat.reduceBEq, Nat.reduceBNe, Option.some.injEq , c1]
        refine call_leNA (v_isIndex b.Tiles[k + 1].Tile 160 (by decide) (by decide)) (by simp -implicitDefEqProofs (disch := omega) only [go_sem, ↓reduceIte, Nat.reduceAdd, Nat.reduceMul, Nat.reduceLeDiff, reduceCtorEq, Nat.reduceEqDiff, Nat.reduceBEq, Nat.reduceBNe, Option.some.injEq, deep, TD.rows, immLL_rI, immLL_rB8, immLL_rS, immLL_rBo, immLL_rII, Int.reduceSub, c2, d1, w1, hk, e2, List.length_map, Int.toNat_natCast, Int.ofNat_lt, Int.natCast_nonneg, List.getElem?_map, Option.map_some, Placed.td_d]; exact rfl) (by repeat (first | exact leL_nil | refine leL_cons ?_ ?_ | exact le_of_eq rfl | exact le_slf rfl (by first | rfl | exact TD.rows _ _ _) | refine le_agg ?_ | (refine le_iptrN ?_; simp only [List.drop_succ_cons, List.drop_zero, List.take_succ_cons, List.take_zero, List.take_nil, List.length_cons, List.length_nil, Nat.zero_add, Nat.reduceAdd]) | refine le_iptr ?_ | refine le_fn ?_ ?_)) (by first | exact .inl rfl | exact .inl (by simp only [D.noImm, noImmL, Bool.and_true, Bool.true_and, TD.nims, TD.nim, nim_rI, nim_rB8, nim_rBo, nim_rS])) ?_
        simp -implicitDefEqProofs (disch := omega) only [go_sem, ↓reduceIte, Nat.reduceAdd, Nat.reduceMul, Nat.reduceLeDiff, reduceCtorEq, Nat.reduceEqDiff, Nat.reduceBEq, Nat.reduceBNe, Option.some.injEq , Int.reduceSub, c2, d1, w1, hk, e2, List.length_map, Int.toNat_natCast, Int.ofNat_lt, Int.natCast_nonneg, List.getElem?_map, Option.map_some, Placed.td_d]
        refine call_leA (v_LessPoint b.Tiles[k].At b.Tiles[k + 1].At) (by simp -implicitDefEqProofs (disch := omega) only [go_sem, ↓reduceIte, Nat.reduceAdd, Nat.reduceMul, Nat.reduceLeDiff, reduceCtorEq, Nat.reduceEqDiff, Nat.reduceBEq, Nat.reduceBNe, Option.some.injEq, deep, TD.rows, immLL_rI, immLL_rB8, immLL_rS, immLL_rBo, immLL_rII, c3, wrN]; exact rfl) (by repeat (first | exact leL_nil | refine leL_cons ?_ ?_ | exact le_of_eq rfl | exact le_slf rfl (by first | rfl | exact TD.rows _ _ _) | refine le_agg ?_ | (refine le_iptrN ?_; simp only [List.drop_succ_cons, List.drop_zero, List.take_succ_cons, List.take_zero, List.take_nil, List.length_cons, List.length_nil, Nat.zero_add, Nat.reduceAdd]) | refine le_iptr ?_ | refine le_fn ?_ ?_)) (by first | exact .inl rfl | exact .inl (by simp only [D.noImm, noImmL, Bool.and_true, Bool.true_and, TD.nims, TD.nim, nim_rI, nim_rB8, nim_rBo, nim_rS])) ?_
        simp -implicitDefEqProofs (disch := omega) only [go_sem, ↓reduceIte, Nat.reduceAdd, Nat.reduceMul, Nat.reduceLeDiff, reduceCtorEq, Nat.reduceEqDiff, Nat.reduceBEq, Nat.reduceBNe, Option.some.injEq , c3, wrN]
        exact ⟨k + 1 + 1, by omega, ⟨by omega, hok⟩, by (try simp -implicitDefEqProofs only [nleL_cc, nleL_nn, nle_self, nle_boxs, nle_aggs, nle_nils, and_self, and_true, true_and]) <;> repeat' (first | exact nle_of_eq rfl | exact nle_nil | refine And.intro ?_ ?_ | refine nle_box ?_ | refine nle_agg ?_ | refine nle_sl ?_ | exact nleLL_nil | refine nleLL_cons ?_ ?_ | exact nleL_nil | refine nleL_cons ?_ ?_ | exact nle_rfl _)⟩
  · obtain rfl : i = b.Tiles.length := by
      have : ¬ i < b.Tiles.length := by simpa using hlt
      omega
    simp -implicitDefEqProofs (disch := omega) only [go_sem, ↓reduceIte, Nat.reduceAdd, Nat.reduceMul, Nat.reduceLeDiff, reduceCtorEq, Nat.reduceEqDiff, Nat.reduceBEq, Nat.reduceBNe, Option.some.injEq , List.length_map, okForm_yes hal]
    exact congrArg Value.bool (by rw [decide_eq_decide]; omega)
abbrev mk_spec_l03Form_0 : List Bool := [false, true, true, false, true, true, true, true, true, true, true, true, true, true, true, true, true, true, true, true, true, true, true, true, true, true, true, true, true, true, true, true, true, true, true, true, true, true, true, true, true, true, true, true, true, true, true, true, true, true, true, true, true, true, true, true]
abbrev mk_spec_l03Form_1 : List Bool := [false, false, false, false, false, false, false, false, false, false, false, false, false, false, false, false, false, false, false, false, false, false, false, false, false, false, false, true, true, true, true, true, true, true, true, true, true, true, true, true, true, true, true, true, true, true, true, true, true, true, true, true]
abbrev mk_spec_l03Form_2 : List Bool := [false, false, false, false, false, false, false, false, false, false, false, false, false, false, false, false, false, false, false, false, false, false, false, false, false, false, false, false, true, true, true, true, true, true, true, true, true, true, true, true, true, true, true, true, true, true, true, true, true, true, true, true]
abbrev mk_spec_l03Form_3 : List Bool := [false, false, false, false, false, false, false, false, false, false, false, false, false, false, false, false, false, false, false, false, false, false, false, false, false, false, false, false, false, true, true, true, true, true, true, true, true, true, true, true, true, true, true, true, true, true, true, true, true, true, true, true]
abbrev mk_spec_l03Form_4 : List Bool := [false, false, false, false, false, false, false, false, false, false, false, false, false, false, false, false, false, false, false, false, false, false, false, false, false, false, false, false, false, false, true, true, true, true, true, true, true, true, true, true, true, true, true, true, true, true, true, true, true, true, true, true]
abbrev mk_spec_l03Form_5 : List Bool := [false, false, false, false, false, false, false, false, false, false, false, false, false, false, false, false, false, false, false, false, false, false, false, false, false, false, false, false, false, false, false, true, true, true, true, true, true, true, true, true, true, true, true, true, true, true, true, true, true, true, true, true]
abbrev mk_spec_l03Form_6 : List Bool := [false, false, false, false, false, false, false, false, false, false, false, false, false, false, false, false, false, false, false, false, false, false, false, false, false, false, false, false, false, false, false, false, true, true, true, true, true, true, true, true, true, true, true, true, true, true, true, true, true, true, true, true]
abbrev mk_spec_l03Form_7 : List Bool := [false, false, false, false, false, false, false, false, false, false, false, false, false, false, false, false, false, false, false, false, false, false, false, false, false, false, false, false, false, false, false, false, false, true, true, true, true, true, true, true, true, true, true, true, true, true, true, true, true, true, true, true]
abbrev mk_spec_l03Form_8 : List Bool := [false, false, false, false, false, false, false, false, false, false, false, false, false, false, false, false, false, false, false, false, false, false, false, false, false, false, false, false, false, false, false, false, false, false, true, true, true, true, true, true, true, true, true, true, true, true, true, true, true, true, true, true]
abbrev mk_spec_l03Form_9 : List Bool := [false, false, false, false, false, false, false, false, false, false, false, false, false, false, false, false, false, false, false, false, false, false, false, false, false, false, false, false, false, false, false, false, false, false, false, true, true, true, true, true, true, true, true, true, true, true, true, true, true, true, true, true]
abbrev mk_spec_l03Form_10 : List Bool := [false, false, false, false, false, false, false, false, false, false, false, false, false, false, false, false, false, false, false, false, false, false, false, false, false, false, false, false, false, false, false, false, false, false, false, false, true, true, true, true, true, true, true, true, true, true, true, true, true, true, true, true]
abbrev mk_spec_l03Form_11 : List Bool := [false, false, false, false, false, false, false, false, false, false, false, false, false, false, false, false, false, false, false, false, false, false, false, false, false, false, false, false, false, false, false, false, false, false, false, false, false, true, true, true, true, true, true, true, true, true, true, true, true, true, true, true]
abbrev mk_spec_l03Form_12 : List Bool := [false, false, false, false, false, false, false, false, false, false, false, false, false, false, false, false, false, false, false, false, false, false, false, false, false, false, false, false, false, false, false, false, false, false, false, false, false, false, true, true, true, true, true, true, true, true, true, true, true, true, true, true]
abbrev mk_spec_l03Form_13 : List Bool := [false, false, false, false, false, false, false, false, false, false, false, false, false, false, false, false, false, false, false, false, false, false, false, false, false, false, false, false, false, false, false, false, false, false, false, false, false, false, false, true, true, true, true, true, true, true, true, true, true, true, true, true]
abbrev mk_spec_l03Form_14 : List Bool := [false, false, false, false, false, false, false, false, false, false, false, false, false, false, false, false, false, false, false, false, false, false, false, false, false, false, false, false, false, false, false, false, false, false, false, false, false, false, false, false, true, true, true, true, true, true, true, true, true, true, true, true]
abbrev mk_spec_l03Form_15 : List Bool := [false, false, false, false, false, false, false, false, false, false, false, false, false, false, false, false, false, false, false, false, false, false, false, false, false, false, false, false, false, false, false, false, false, false, false, false, false, false, false, false, false, true, true, true, true, true, true, true, true, true, true, true]
abbrev mk_spec_l03Form_16 : List Bool := [false, false, false, false, false, false, false, false, false, false, false, false, false, false, false, false, false, false, false, false, false, false, false, false, false, false, false, false, false, false, false, false, false, false, false, false, false, false, false, false, false, false, true, true, true, true, true, true, true, true, true, true]
abbrev mk_spec_l03Form_17 : List Bool := [false, false, false, false, false, false, false, false, false, false, false, false, false, false, false, false, false, false, false, false, false, false, false, false, false, false, false, false, false, false, false, false, false, false, false, false, false, false, false, false, false, false, false, true, true, true, true, true, true, true, true, true]
abbrev mk_spec_l03Form_18 : List Bool := [false, false, false, false, false, false, false, false, false, false, false, false, false, false, false, false, false, false, false, false, false, false, false, false, false, false, false, false, false, false, false, false, false, false, false, false, false, false, false, false, false, false, false, false, true, true, true, true, true, true, true, true]
abbrev mk_spec_l03Form_19 : List Bool := [false, false, false, false, false, false, false, false, false, false, false, false, false, false, false, false, false, false, false, false, false, false, false, false, false, false, false, false, false, false, false, false, false, false, false, false, false, false, false, false, false, true, true, true, true, false, true, true, true, true, true, true]
abbrev mk_spec_l03Form_20 : List Bool := [false, false, false, false, false, false, false, false, false, false, false, false, false, false, false, false, false, false, false, false, false, false, false, false, false, false, false, false, false, false, false, false, false, false, false, false, false, false, false, false, false, false, false, false, false, false, false, true, true, true, true, true]
abbrev mk_spec_l03Form_21 : List Bool := [false, false, false, false, false, false, false, false, false, false, false, false, false, false, false, false, false, false, false, false, false, false, false, false, false, false, false, false, false, false, false, false, false, false, false, false, false, false, false, false, false, false, false, false, false, false, false, false, true, true, true, true]
abbrev mk_spec_l03Form_22 : List Bool := [false, false, false, false, false, false, false, false, false, false, false, false, false, false, false, false, false, false, false, false, false, false, false, false, false, false, false, false, false, false, false, false, false, false, false, false, false, false, false, false, false, false, false, false, false, false, false, false, false, true, true, true]
abbrev mk_spec_l03Form_23 : List Bool := [false, false, false, false, false, false, false, false, false, false, false, false, false, false, false, false, false, false, false, false, false, false, false, false, false, false, false, false, false, false, false, false, false, false, false, false, false, false, false, false, false, true, true, true, true, true, true, true, true, true, false, true]
/-- spec.l03Form -/
def code_spec_l03Form : VCode := (.seq (.ops [
  ⟨(some 2), none, (.asg (.const (.bool false)))⟩]) (.seq (.seq (.ops [
  ⟨(some 5), none, (.mv (.tmp 0))⟩,
  ⟨(some 6), none, (.nilc (.tmp 5))⟩,
  ⟨(some 7), none, (.fa 0 (.tmp 6))⟩,
  ⟨(some 8), none, (.load 1 false (.tmp 7))⟩,
  ⟨(some 9), none, (.len (.tmp 8))⟩,
  ⟨(some 10), none, (.bin .gtr (.tmp 9) (.const (.int .i64 500)))⟩]) (.cond (.tmp 10) (.seq (.ops [
  ⟨(some 2), none, (.asg (.const (.bool false)))⟩]) .ret) .skip)) (.seq (.seq (.ops [
  ⟨(some 3), none, (.asg (.const (.int .i64 0)))⟩]) (.block 0 (.loop mk_spec_l03Form_0 (.seq (.seq (.ops [
  ⟨(some 11), none, (.mv (.tmp 3))⟩,
  ⟨(some 12), none, (.mv (.tmp 0))⟩,
  ⟨(some 13), none, (.nilc (.tmp 12))⟩,
  ⟨(some 14), none, (.fa 0 (.tmp 13))⟩,
  ⟨(some 15), none, (.load 1 false (.tmp 14))⟩,
  ⟨(some 16), none, (.len (.tmp 15))⟩,
  ⟨(some 17), none, (.bin .lss (.tmp 11) (.tmp 16))⟩]) (.cond (.tmp 17) .skip (.exit 0))) (.seq (.block 1 (.seq (.ops [
  ⟨(some 20), none, (.mv (.tmp 0))⟩,
  ⟨(some 21), none, (.nilc (.tmp 20))⟩,
  ⟨(some 22), none, (.fa 0 (.tmp 21))⟩,
  ⟨(some 23), none, (.load 1 false (.tmp 22))⟩,
  ⟨(some 24), none, (.mv (.tmp 3))⟩,
  ⟨(some 25), none, (.ia 3 (.tmp 23) (.tmp 24))⟩,
  ⟨(some 26), none, (.load 3 true (.tmp 25))⟩,
  ⟨(some 4), none, (.alloc [(.int .i64 0), (.int .i64 0), (.int .i64 0)])⟩,
  ⟨none, none, (.store 3 (.tmp 4) (.tmp 26))⟩]) (.seq (.draw mk_spec_l03Form_1 [] [⟨0, mk_spec_l03Form_1, [], ⟨(some 27), none, (.fa 0 (.tmp 4))⟩⟩, ⟨1, mk_spec_l03Form_2, [], ⟨(some 28), none, (.load 2 true (.tmp 27))⟩⟩, ⟨2, mk_spec_l03Form_3, [], ⟨(some 29), none, (.call 68 [(.tmp 28)])⟩⟩, ⟨3, mk_spec_l03Form_4, [], ⟨(some 30), none, (.un .not (.tmp 29))⟩⟩, ⟨4, mk_spec_l03Form_5, [], ⟨(some 31), none, (.mv (.tmp 30))⟩⟩, ⟨5, mk_spec_l03Form_6, [], ⟨(some 32), (some (31, false)), (.fa 2 (.tmp 4))⟩⟩, ⟨6, mk_spec_l03Form_7, [], ⟨(some 33), (some (31, false)), (.load 1 false (.tmp 32))⟩⟩, ⟨7, mk_spec_l03Form_8, [], ⟨(some 34), (some (31, false)), (.call 50 [(.tmp 33), (.const (.int .i64 0)), (.const (.int .i64 159))])⟩⟩, ⟨8, mk_spec_l03Form_9, [], ⟨(some 35), (some (31, false)), (.un .not (.tmp 34))⟩⟩, ⟨9, mk_spec_l03Form_10, [], ⟨(some 36), none, (.pick (.tmp 31) (.const (.bool true)) (.tmp 35))⟩⟩, ⟨10, mk_spec_l03Form_11, [], ⟨(some 37), none, (.mv (.tmp 36))⟩⟩, ⟨11, mk_spec_l03Form_12, [], ⟨(some 38), (some (37, false)), (.mv (.tmp 3))⟩⟩, ⟨12, mk_spec_l03Form_13, [], ⟨(some 39), (some (37, false)), (.bin .gtr (.tmp 38) (.const (.int .i64 0)))⟩⟩, ⟨13, mk_spec_l03Form_14, [], ⟨(some 40), (some (37, false)), (.mv (.tmp 39))⟩⟩, ⟨14, mk_spec_l03Form_15, [], ⟨(some 41), (some (40, true)), (.mv (.tmp 0))⟩⟩, ⟨15, mk_spec_l03Form_16, [], ⟨(some 42), (some (40, true)), (.nilc (.tmp 41))⟩⟩, ⟨16, mk_spec_l03Form_17, [], ⟨(some 43), (some (40, true)), (.fa 0 (.tmp 42))⟩⟩, ⟨17, mk_spec_l03Form_18, [], ⟨(some 44), (some (40, true)), (.load 1 false (.tmp 43))⟩⟩, ⟨18, mk_spec_l03Form_15, [], ⟨(some 45), (some (40, true)), (.mv (.tmp 3))⟩⟩, ⟨19, mk_spec_l03Form_19, [], ⟨(some 46), (some (40, true)), (.bin .sub (.tmp 45) (.const (.int .i64 1)))⟩⟩, ⟨20, mk_spec_l03Form_20, [], ⟨(some 47), (some (40, true)), (.ia 3 (.tmp 44) (.tmp 46))⟩⟩, ⟨21, mk_spec_l03Form_21, [], ⟨(some 48), (some (40, true)), (.fa 0 (.tmp 47))⟩⟩, ⟨22, mk_spec_l03Form_22, [], ⟨(some 49), (some (40, true)), (.load 2 true (.tmp 48))⟩⟩, ⟨23, mk_spec_l03Form_15, [], ⟨(some 50), (some (40, true)), (.fa 0 (.tmp 4))⟩⟩, ⟨24, mk_spec_l03Form_23, [], ⟨(some 51), (some (40, true)), (.load 2 true (.tmp 50))⟩⟩] [⟨(some 52), (some (40, true)), (.callX 111 [(.tmp 49), (.tmp 51)])⟩, ⟨(some 53), (some (40, true)), (.un .not (.tmp 52))⟩, ⟨(some 54), (some (37, false)), (.pick (.tmp 40) (.tmp 53) (.const (.bool false)))⟩, ⟨(some 55), none, (.pick (.tmp 37) (.const (.bool true)) (.tmp 54))⟩]) (.cond (.tmp 55) (.seq (.ops [
  ⟨(some 2), none, (.asg (.const (.bool false)))⟩]) .ret) .skip)))) (.ops [
  ⟨(some 18), none, (.mv (.tmp 3))⟩,
  ⟨(some 19), none, (.bin .add (.tmp 18) (.const (.int .i64 1)))⟩,
  ⟨(some 3), none, (.asg (.tmp 19))⟩])))))) (.seq (.ops [
  ⟨(some 2), none, (.asg (.const (.bool true)))⟩]) .ret))))
theorem law_spec_l03Form {a0 d : D} (h : code_spec_l03Form.wp (CT Try.prog NoG) (endQ [(.t 2)] d) [a0, .undef, .undef, .undef, .undef, .undef, .undef, .undef, .undef, .undef, .undef, .undef, .undef, .undef, .undef, .undef, .undef, .undef, .undef, .undef, .undef, .undef, .undef, .undef, .undef, .undef, .undef, .undef, .undef, .undef, .undef, .undef, .undef, .undef, .undef, .undef, .undef, .undef, .undef, .undef, .undef, .undef, .undef, .undef, .undef, .undef, .undef, .undef, .undef, .undef, .undef, .undef, .undef, .undef, .undef, .undef]) : Contract Try.prog NoG 78 [a0] d :=
  contract_of noG Try.func78 (fun us W => by kernel_rfl) (c := Try.f78.body.getD .skip) (ms := [mk_spec_l03Form_0]) (ms' := []) (by kernel_rfl) (by kernel_rfl) (by kernel_rfl) h
set_option maxHeartbeats 2000000 in
theorem v_l03Form (b : Assembly) (hn : b.Tiles.length ≤ 1048576) : Contract Try.prog NoG 78 [.iptr (Assembly.td.d false b) 0] (.v (.bool (okForm b.Tiles))) := by
  rw [Assembly.td_d]
  refine law_spec_l03Form ?_
  unfold code_spec_l03Form
  by_cases h5 : b.Tiles.length ≤ 500
  · have d5 : decide ((500 : Int) < (b.Tiles.length : Int)) = false := by rw [decide_eq_false_iff_not]; omega
    simp -implicitDefEqProofs (disch := omega) only [go_sem, ↓reduceIte, Nat.reduceAdd, Nat.reduceMul, Nat.reduceLeDiff, reduceCtorEq, Nat.reduceEqDiff, Nat.reduceBEq, Nat.reduceBNe, Option.some.injEq , List.length_map, d5]
    refine loop_ov (by simp -implicitDefEqProofs (disch := omega) only [go_sem, ↓reduceIte, Nat.reduceAdd, Nat.reduceMul, Nat.reduceLeDiff, reduceCtorEq, Nat.reduceEqDiff, Nat.reduceBEq, Nat.reduceBNe, Option.some.injEq]; exact rfl) (fun i : Nat => [(3, .v (.int .i64 (i : Nat)))]) (fun _ => by simp only [ovr_nil, ovr_cons, List.set_cons_zero, List.set_cons_succ]; exact rfl) (fun i : Nat => i ≤ b.Tiles.length ∧ (List.range i).all (okP b.Tiles) = true) (fun i : Nat => b.Tiles.length - i) (0) (by (try simp -implicitDefEqProofs only [nleL_cc, nleL_nn, nle_self, nle_boxs, nle_aggs, nle_nils, and_self, and_true, true_and]) <;> repeat' (first | exact nle_of_eq rfl | exact nle_nil | refine And.intro ?_ ?_ | refine nle_box ?_ | refine nle_agg ?_ | refine nle_sl ?_ | exact nleLL_nil | refine nleLL_cons ?_ ?_ | exact nleL_nil | refine nleL_cons ?_ ?_ | exact nle_rfl _)) (?_) ?_
    · exact ⟨Nat.zero_le _, rfl⟩
    rintro i ⟨hi, hal⟩
    simp -implicitDefEqProofs (disch := omega) only [go_sem, ↓reduceIte, Nat.reduceAdd, Nat.reduceMul, Nat.reduceLeDiff, reduceCtorEq, Nat.reduceEqDiff, Nat.reduceBEq, Nat.reduceBNe, Option.some.injEq , List.length_map, Int.toNat_natCast, Int.ofNat_lt, Int.natCast_nonneg, List.getElem?_map, Option.map_some]
    refine cond_split ?_ ?_ <;> intro hlt
    · have hlt : i < b.Tiles.length := by simpa using hlt
      have e1 := List.getElem?_eq_getElem hlt
      have key : ∀ v, okP b.Tiles i = v → (v = false → okForm b.Tiles = false) ∧ (v = true → (List.range (i + 1)).all (okP b.Tiles) = true) := fun v hv => ⟨fun h => okForm_no hlt (hv.trans h), fun h => all_next hal (hv.trans h)⟩
      simp -implicitDefEqProofs (disch := omega) only [go_sem, ↓reduceIte, Nat.reduceAdd, Nat.reduceMul, Nat.reduceLeDiff, reduceCtorEq, Nat.reduceEqDiff, Nat.reduceBEq, Nat.reduceBNe, Option.some.injEq , List.length_map, Int.toNat_natCast, Int.ofNat_lt, Int.natCast_nonneg, List.getElem?_map, Option.map_some, hlt, e1, Placed.td_d]
      cases c1 : ptOK b.Tiles[i].At with
      | false =>
        have hno : okForm b.Tiles = false := (key _ rfl).1 (by unfold okP; rw [e1]; simp only [c1, Bool.false_and])
        refine call_leNA (v_l01Point b.Tiles[i].At) (by simp -implicitDefEqProofs (disch := omega) only [go_sem, ↓reduceIte, Nat.reduceAdd, Nat.reduceMul, Nat.reduceLeDiff, reduceCtorEq, Nat.reduceEqDiff, Nat.reduceBEq, Nat.reduceBNe, Option.some.injEq, deep, TD.rows, immLL_rI, immLL_rB8, immLL_rS, immLL_rBo, immLL_rII, c1, hno]; exact rfl) (by repeat (first | exact leL_nil | refine leL_cons ?_ ?_ | exact le_of_eq rfl | exact le_slf rfl (by first | rfl | exact TD.rows _ _ _) | refine le_agg ?_ | (refine le_iptrN ?_; simp only [List.drop_succ_cons, List.drop_zero, List.take_succ_cons, List.take_zero, List.take_nil, List.length_cons, List.length_nil, Nat.zero_add, Nat.reduceAdd]) | refine le_iptr ?_ | refine le_fn ?_ ?_)) (by first | exact .inl rfl | exact .inl (by simp only [D.noImm, noImmL, Bool.and_true, Bool.true_and, TD.nims, TD.nim, nim_rI, nim_rB8, nim_rBo, nim_rS])) ?_
        simp -implicitDefEqProofs (disch := omega) only [go_sem, ↓reduceIte, Nat.reduceAdd, Nat.reduceMul, Nat.reduceLeDiff, reduceCtorEq, Nat.reduceEqDiff, Nat.reduceBEq, Nat.reduceBNe, Option.some.injEq , c1, hno]
      | true =>
      cases c2 : inR 0 159 b.Tiles[i].Tile with
      | false =>
        have hno : okForm b.Tiles = false := (key _ rfl).1 (by unfold okP; rw [e1]; simp only [c2, Bool.false_and, Bool.and_false])
        refine call_leNA (v_l01Point b.Tiles[i].At) (by simp -implicitDefEqProofs (disch := omega) only [go_sem, ↓reduceIte, Nat.reduceAdd, Nat.reduceMul, Nat.reduceLeDiff, reduceCtorEq, Nat.reduceEqDiff, Nat.reduceBEq, Nat.reduceBNe, Option.some.injEq, deep, TD.rows, immLL_rI, immLL_rB8, immLL_rS, immLL_rBo, immLL_rII, c1]; exact rfl) (by repeat (first | exact leL_nil | refine leL_cons ?_ ?_ | exact le_of_eq rfl | exact le_slf rfl (by first | rfl | exact TD.rows _ _ _) | refine le_agg ?_ | (refine le_iptrN ?_; simp only [List.drop_succ_cons, List.drop_zero, List.take_succ_cons, List.take_zero, List.take_nil, List.length_cons, List.length_nil, Nat.zero_add, Nat.reduceAdd]) | refine le_iptr ?_ | refine le_fn ?_ ?_)) (by first | exact .inl rfl | exact .inl (by simp only [D.noImm, noImmL, Bool.and_true, Bool.true_and, TD.nims, TD.nim, nim_rI, nim_rB8, nim_rBo, nim_rS])) ?_
        simp -implicitDefEqProofs (disch := omega) only [go_sem, ↓reduceIte, Nat.reduceAdd, Nat.reduceMul, Nat.reduceLeDiff, reduceCtorEq, Nat.reduceEqDiff, Nat.reduceBEq, Nat.reduceBNe, Option.some.injEq , c1]
        refine call_leNA (v_l00In b.Tiles[i].Tile 0 159) (by simp -implicitDefEqProofs (disch := omega) only [go_sem, ↓reduceIte, Nat.reduceAdd, Nat.reduceMul, Nat.reduceLeDiff, reduceCtorEq, Nat.reduceEqDiff, Nat.reduceBEq, Nat.reduceBNe, Option.some.injEq, deep, TD.rows, immLL_rI, immLL_rB8, immLL_rS, immLL_rBo, immLL_rII, c2, hno]; exact rfl) (by repeat (first | exact leL_nil | refine leL_cons ?_ ?_ | exact le_of_eq rfl | exact le_slf rfl (by first | rfl | exact TD.rows _ _ _) | refine le_agg ?_ | (refine le_iptrN ?_; simp only [List.drop_succ_cons, List.drop_zero, List.take_succ_cons, List.take_zero, List.take_nil, List.length_cons, List.length_nil, Nat.zero_add, Nat.reduceAdd]) | refine le_iptr ?_ | refine le_fn ?_ ?_)) (by first | exact .inl rfl | exact .inl (by simp only [D.noImm, noImmL, Bool.and_true, Bool.true_and, TD.nims, TD.nim, nim_rI, nim_rB8, nim_rBo, nim_rS])) ?_
        simp -implicitDefEqProofs (disch := omega) only [go_sem, ↓reduceIte, Nat.reduceAdd, Nat.reduceMul, Nat.reduceLeDiff, reduceCtorEq, Nat.reduceEqDiff, Nat.reduceBEq, Nat.reduceBNe, Option.some.injEq , c2, hno]
      | true =>
      cases i with
      | zero =>
        have hok := (key _ (okP_zero hlt)).2 (by rw [c1, c2]; rfl)
        refine call_leNA (v_l01Point b.Tiles[0].At) (by simp -implicitDefEqProofs (disch := omega) only [go_sem, ↓reduceIte, Nat.reduceAdd, Nat.reduceMul, Nat.reduceLeDiff, reduceCtorEq, Nat.reduceEqDiff, Nat.reduceBEq, Nat.reduceBNe, Option.some.injEq, deep, TD.rows, immLL_rI, immLL_rB8, immLL_rS, immLL_rBo, immLL_rII, c1]; exact rfl) (by repeat (first | exact leL_nil | refine leL_cons ?_ ?_ | exact le_of_eq rfl | exact le_slf rfl (by first | rfl | exact TD.rows _ _ _) | refine le_agg ?_ | (refine le_iptrN ?_; simp only [List.drop_succ_cons, List.drop_zero, List.take_succ_cons, List.take_zero, List.take_nil, List.length_cons, List.length_nil, Nat.zero_add, Nat.reduceAdd]) | refine le_iptr ?_ | refine le_fn ?_ ?_)) (by first | exact .inl rfl | exact .inl (by simp only [D.noImm, noImmL, Bool.and_true, Bool.true_and, TD.nims, TD.nim, nim_rI, nim_rB8, nim_rBo, nim_rS])) ?_
        simp -implicitDefEqProofs (disch := omega) only [go_sem, ↓reduceIte, Nat.reduceAdd, Nat.reduceMul, Nat.reduceLeDiff, reduceCtorEq, Nat.reduceEqDiff, Nat.reduceBEq, Nat.reduceBNe, Option.some.injEq , c1]
        refine call_leNA (v_l00In b.Tiles[0].Tile 0 159) (by simp -implicitDefEqProofs (disch := omega) only [go_sem, ↓reduceIte, Nat.reduceAdd, Nat.reduceMul, Nat.reduceLeDiff, reduceCtorEq, Nat.reduceEqDiff, Nat.reduceBEq, Nat.reduceBNe, Option.some.injEq, deep, TD.rows, immLL_rI, immLL_rB8, immLL_rS, immLL_rBo, immLL_rII, c2, Int.natCast_zero, Int.natCast_one, Int.cast_ofNat_Int, Int.ofNat_le, Int.toNat_zero, Nat.sub_zero, Int.le_refl, Int.reduceLT, Int.reduceLE, Int.reduceEq, Int.reduceAdd, Int.reduceSub, Int.reduceMul, Int.reduceToNat, Int.reduceNeg, Int.lt_irrefl]; exact rfl) (by repeat (first | exact leL_nil | refine leL_cons ?_ ?_ | exact le_of_eq rfl | exact le_slf rfl (by first | rfl | exact TD.rows _ _ _) | refine le_agg ?_ | (refine le_iptrN ?_; simp only [List.drop_succ_cons, List.drop_zero, List.take_succ_cons, List.take_zero, List.take_nil, List.length_cons, List.length_nil, Nat.zero_add, Nat.reduceAdd]) | refine le_iptr ?_ | refine le_fn ?_ ?_)) (by first | exact .inl rfl | exact .inl (by simp only [D.noImm, noImmL, Bool.and_true, Bool.true_and, TD.nims, TD.nim, nim_rI, nim_rB8, nim_rBo, nim_rS])) ?_
        simp -implicitDefEqProofs (disch := omega) only [go_sem, ↓reduceIte, Nat.reduceAdd, Nat.reduceMul, Nat.reduceLeDiff, reduceCtorEq, Nat.reduceEqDiff, Nat.reduceBEq, Nat.reduceBNe, Option.some.injEq , c2, Int.natCast_zero, Int.natCast_one, Int.cast_ofNat_Int, Int.ofNat_le, Int.toNat_zero, Nat.sub_zero, Int.le_refl, Int.reduceLT, Int.reduceLE, Int.reduceEq, Int.reduceAdd, Int.reduceSub, Int.reduceMul, Int.reduceToNat, Int.reduceNeg, Int.lt_irrefl]
        exact ⟨1, by omega, ⟨by omega, hok⟩, by (try simp -implicitDefEqProofs only [nleL_cc, nleL_nn, nle_self, nle_boxs, nle_aggs, nle_nils, and_self, and_true, true_and]) <;> repeat' (first | exact nle_of_eq rfl | exact nle_nil | refine And.intro ?_ ?_ | refine nle_box ?_ | refine nle_agg ?_ | refine nle_sl ?_ | exact nleLL_nil | refine nleLL_cons ?_ ?_ | exact nleL_nil | refine nleL_cons ?_ ?_ | exact nle_rfl _)⟩
      | succ k =>
        have hk : k < b.Tiles.length := by omega
        have e2 := List.getElem?_eq_getElem hk
        have w1 : IntKind.i64.wrap (((k + 1 : Nat) : Int) - 1) = (k : Int) := by rw [wrI (by omega) (by omega)]; omega
        have d1 : decide ((0 : Int) < ((k + 1 : Nat) : Int)) = true := by rw [decide_eq_true_eq]; omega
        cases c3 : lessP b.Tiles[k].At b.Tiles[k + 1].At with
        | false =>
          have hno := (key _ (okP_succ hlt)).1 (by rw [c1, c2, c3]; rfl)
          refine call_leNA (v_l01Point b.Tiles[k + 1].At) (by simp -implicitDefEqProofs (disch := omega) only [go_sem, ↓reduceIte, Nat.reduceAdd, Nat.reduceMul, Nat.reduceLeDiff, reduceCtorEq, Nat.reduceEqDiff, Nat.reduceBEq, Nat.reduceBNe, Option.some.injEq, deep, TD.rows, immLL_rI, immLL_rB8, immLL_rS, immLL_rBo, immLL_rII, c1]; exact rfl) (by repeat (first | exact leL_nil | refine leL_cons ?_ ?_ | exact le_of_eq rfl | exact le_slf rfl (by first | rfl | exact TD.rows _ _ _) | refine le_agg ?_ | (refine le_iptrN ?_; simp only [List.drop_succ_cons, List.drop_zero, List.take_succ_cons, List.take_zero, List.take_nil, List.length_cons, List.length_nil, Nat.zero_add, Nat.reduceAdd]) | refine le_iptr ?_ | refine le_fn ?_ ?_)) (by first | exact .inl rfl | exact .inl (by simp only [D.noImm, noImmL, Bool.and_true, Bool.true_and, TD.nims, TD.nim, nim_rI, nim_rB8, nim_rBo, nim_rS])) ?_
          simp -implicitDefEqProofs (disch := omega) only [go_sem, ↓reduceIte, Nat.reduceAdd, Nat.reduceMul, Nat.reduceLeDiff, reduceCtorEq, Nat.reduceEqDiff, Nat.reduceBEq, Nat.reduceBNe, Option.some.injEq , c1]
          refine call_leNA (v_l00In b.Tiles[k + 1].Tile 0 159) (by simp -implicitDefEqProofs (disch := omega) only [go_sem, ↓reduceIte, Nat.reduceAdd, Nat.reduceMul, Nat.reduceLeDiff, reduceCtorEq, Nat.reduceEqDiff, Nat.reduceBEq, Nat.reduceBNe, Option.some.injEq, deep, TD.rows, immLL_rI, immLL_rB8, immLL_rS, immLL_rBo, immLL_rII, c2, d1, w1, hk, e2, List.length_map, Int.toNat_natCast, Int.ofNat_lt, Int.natCast_nonneg, List.getElem?_map, Option.map_some, Placed.td_d]; exact rfl) (by repeat (first | exact leL_nil | refine leL_cons ?_ ?_ | exact le_of_eq rfl | exact le_slf rfl (by first | rfl | exact TD.rows _ _ _) | refine le_agg ?_ | (refine le_iptrN ?_; simp only [List.drop_succ_cons, List.drop_zero, List.take_succ_cons, List.take_zero, List.take_nil, List.length_cons, List.length_nil, Nat.zero_add, Nat.reduceAdd]) | refine le_iptr ?_ | refine le_fn ?_ ?_)) (by first | exact .inl rfl | exact .inl (by simp only [D.noImm, noImmL, Bool.and_true, Bool.true_and, TD.nims, TD.nim, nim_rI, nim_rB8, nim_rBo, nim_rS])) ?_
          simp -implicitDefEqProofs (disch := omega) only [go_sem, ↓reduceIte, Nat.reduceAdd, Nat.reduceMul, Nat.reduceLeDiff, reduceCtorEq, Nat.reduceEqDiff, Nat.reduceBEq, Nat.reduceBNe, Option.some.injEq , c2, d1, w1, hk, e2, List.length_map, Int.toNat_natCast, Int.ofNat_lt, Int.natCast_nonneg, List.getElem?_map, Option.map_some, Placed.td_d]
          refine call_leA (v_LessPoint_spec b.Tiles[k].At b.Tiles[k + 1].At) (by simp -implicitDefEqProofs (disch := omega) only [go_sem, ↓reduceIte, Nat.reduceAdd, Nat.reduceMul, Nat.reduceLeDiff, reduceCtorEq, Nat.reduceEqDiff, Nat.reduceBEq, Nat.reduceBNe, Option.some.injEq, deep, TD.rows, immLL_rI, immLL_rB8, immLL_rS, immLL_rBo, immLL_rII, c3, hno]; exact rfl) (by repeat (first | exact leL_nil | refine leL_cons ?_ ?_ | exact le_of_eq rfl | exact le_slf rfl (by first | rfl | exact TD.rows _ _ _) | refine le_agg ?_ | (refine le_iptrN ?_; simp only [List.drop_succ_cons, List.drop_zero, List.take_succ_cons, List.take_zero, List.take_nil, List.length_cons, List.length_nil, Nat.zero_add, Nat.reduceAdd]) | refine le_iptr ?_ | refine le_fn ?_ ?_)) (by first | exact .inl rfl | exact .inl (by simp only [D.noImm, noImmL, Bool.and_true, Bool.true_and, TD.nims, TD.nim, nim_rI, nim_rB8, nim_rBo, nim_rS])) ?_
          simp -implicitDefEqProofs (disch := omega) only [go_sem, ↓reduceIte, Nat.reduceAdd, Nat.reduceMul, Nat.reduceLeDiff, reduceCtorEq, Nat.reduceEqDiff, Nat.reduceBEq, Nat.reduceBNe, Option.some.injEq , c3, hno]
        | true =>
          have hok := (key _ (okP_succ hlt)).2 (by rw [c1, c2, c3]; rfl)
          refine call_leNA (v_l01Point b.Tiles[k + 1].At) (by simp -implicitDefEqProofs (disch := omega) only [go_sem, ↓reduceIte, Nat.reduceAdd, Nat.reduceMul, Nat.reduceLeDiff, reduceCtorEq, Nat.reduceEqDiff, Nat.reduceBEq, Nat.reduceBNe, Option.some.injEq, deep, TD.rows, immLL_rI, immLL_rB8, immLL_rS, immLL_rBo, immLL_rII, c1]; exact rfl) (by repeat (first | exact leL_nil | refine leL_cons ?_ ?_ | exact le_of_eq rfl | exact le_slf rfl (by first | rfl | exact TD.rows _ _ _) | refine le_agg ?_ | (refine le_iptrN ?_; simp only [List.drop_succ_cons, List.drop_zero, List.take_succ_cons, List.take_zero, List.take_nil, List.length_cons, List.length_nil, Nat.zero_add, Nat.reduceAdd]) | refine le_iptr ?_ | refine le_fn ?_ ?_)) (by first | exact .inl rfl | exact .inl (by simp only [D.noImm, noImmL, Bool.and_true, Bool.true_and, TD.nims, TD.nim, nim_rI, nim_rB8, nim_rBo, nim_rS])) ?_
          simp -implicitDefEqProofs (disch := omega) only [go_sem, ↓reduceIte, Nat.reduceAdd, Nat.reduceMul, Nat.reduceLeDiff, reduceCtorEq, Nat.reduceEqDiff, Nat.reduceBEq, Nat.reduceBNe, Option.some.injEq , c1]
          refine call_leNA (v_l00In b.Tiles[k + 1].Tile 0 159) (by simp -implicitDefEqProofs (disch := omega) only [go_sem, ↓reduceIte, Nat.reduceAdd, Nat.reduceMul, Nat.reduceLeDiff, reduceCtorEq, Nat.reduceEqDiff, Nat.reduceBEq, Nat.reduceBNe, Option.some.injEq, deep, TD.rows, immLL_rI, immLL_rB8, immLL_rS, immLL_rBo, immLL_rII, c2, d1, w1, hk, e2, List.length_map, Int.toNat_natCast, Int.ofNat_lt, Int.natCast_nonneg, List.getElem?_map, Option.map_some, Placed.td_d]; exact rfl) (by repeat (first | exact leL_nil | refine leL_cons ?_ ?_ | exact le_of_eq rfl | exact le_slf rfl (by first | rfl | exact TD.rows _ _ _) | refine le_agg ?_ | (refine le_iptrN ?_; simp only [List.drop_succ_cons, List.drop_zero, List.take_succ_cons, List.take_zero, List.take_nil, List.length_cons, List.length_nil, Nat.zero_add, Nat.reduceAdd]) | refine le_iptr ?_ | refine le_fn ?_ ?_)) (by first | exact .inl rfl | exact .inl (by simp only [D.noImm, noImmL, Bool.and_true, Bool.true_and, TD.nims, TD.nim, nim_rI, nim_rB8, nim_rBo, nim_rS])) ?_
          simp -implicitDefEqProofs (disch := omega) only [go_sem, ↓reduceIte, Nat.reduceAdd, Nat.reduceMul, Nat.reduceLeDiff, reduceCtorEq, Nat.reduceEqDiff, Nat.reduceBEq, Nat.reduceBNe, Option.some.injEq , c2, d1, w1, hk, e2, List.length_map, Int.toNat_natCast, Int.ofNat_lt, Int.natCast_nonneg, List.getElem?_map, Option.map_some, Placed.td_d]
          refine call_leA (v_LessPoint_spec b.Tiles[k].At b.Tiles[k + 1].At) (by simp -implicitDefEqProofs (disch := omega) only [go_sem, ↓reduceIte, Nat.reduceAdd, Nat.reduceMul, Nat.reduceLeDiff, reduceCtorEq, Nat.reduceEqDiff, Nat.reduceBEq, Nat.reduceBNe, Option.some.injEq, deep, TD.rows, immLL_rI, immLL_rB8, immLL_rS, immLL_rBo, immLL_rII, c3, wrN]; exact rfl) (by repeat (first | exact leL_nil | refine leL_cons ?_ ?_ | exact le_of_eq rfl | exact le_slf rfl (by first | rfl | exact TD.rows _ _ _) | refine le_agg ?_ | (refine le_iptrN ?_; simp only [List.drop_succ_cons, List.drop_zero, List.take_succ_cons, List.take_zero, List.take_nil, List.length_cons, List.length_nil, Nat.zero_add, Nat.reduceAdd]) | refine le_iptr ?_ | refine le_fn ?_ ?_)) (by first | exact .inl rfl | exact .inl (by simp only [D.noImm, noImmL, Bool.and_true, Bool.true_and, TD.nims, TD.nim, nim_rI, nim_rB8, nim_rBo, nim_rS])) ?_
          simp -implicitDefEqProofs (disch := omega) only [go_sem, ↓reduceIte, Nat.reduceAdd, Nat.reduceMul, Nat.reduceLeDiff, reduceCtorEq, Nat.reduceEqDiff, Nat.reduceBEq, Nat.reduceBNe, Option.some.injEq , c3, wrN]
          exact ⟨k + 1 + 1, by omega, ⟨by omega, hok⟩, by (try simp -implicitDefEqProofs only [nleL_cc, nleL_nn, nle_self, nle_boxs, nle_aggs, nle_nils, and_self, and_true, true_and]) <;> repeat' (first | exact nle_of_eq rfl | exact nle_nil | refine And.intro ?_ ?_ | refine nle_box ?_ | refine nle_agg ?_ | refine nle_sl ?_ | exact nleLL_nil | refine nleLL_cons ?_ ?_ | exact nleL_nil | refine nleL_cons ?_ ?_ | exact nle_rfl _)⟩
    · obtain rfl : i = b.Tiles.length := by
        have : ¬ i < b.Tiles.length := by simpa using hlt
        omega
      have d6 : decide (b.Tiles.length ≤ 500) = true := decide_eq_true h5
      simp -implicitDefEqProofs (disch := omega) only [go_sem, ↓reduceIte, Nat.reduceAdd, Nat.reduceMul, Nat.reduceLeDiff, reduceCtorEq, Nat.reduceEqDiff, Nat.reduceBEq, Nat.reduceBNe, Option.some.injEq , okForm_yes hal, d6]
  · have d5 : decide ((500 : Int) < (b.Tiles.length : Int)) = true := by rw [decide_eq_true_eq]; omega
    have hno : okForm b.Tiles = false := by unfold okForm; rw [decide_eq_false h5]; rfl
    simp -implicitDefEqProofs (disch := omega) only [go_sem, ↓reduceIte, Nat.reduceAdd, Nat.reduceMul, Nat.reduceLeDiff, reduceCtorEq, Nat.reduceEqDiff, Nat.reduceBEq, Nat.reduceBNe, Option.some.injEq , List.length_map, d5, hno]
abbrev mk_spec_l03Ok_0 : List Bool := [false, false, true, true, true, false, true, true, true, true, true, true, true, true, true, true, true, true, true, true, true, true, true, true, true, true, true, true, true]
/-- spec.l03Ok -/
def code_spec_l03Ok : VCode := (.seq (.ops [
  ⟨(some 4), none, (.asg (.const (.bool false)))⟩]) (.seq (.seq (.ops [
  ⟨(some 6), none, (.mv (.tmp 1))⟩,
  ⟨(some 7), none, (.callX 78 [(.tmp 6)])⟩,
  ⟨(some 8), none, (.un .not (.tmp 7))⟩]) (.cond (.tmp 8) (.seq (.ops [
  ⟨(some 4), none, (.asg (.const (.bool false)))⟩]) .ret) .skip)) (.seq (.seq (.ops [
  ⟨(some 5), none, (.asg (.const (.int .i64 0)))⟩]) (.block 0 (.loop mk_spec_l03Ok_0 (.seq (.seq (.ops [
  ⟨(some 9), none, (.mv (.tmp 5))⟩,
  ⟨(some 10), none, (.mv (.tmp 1))⟩,
  ⟨(some 11), none, (.nilc (.tmp 10))⟩,
  ⟨(some 12), none, (.fa 0 (.tmp 11))⟩,
  ⟨(some 13), none, (.load 1 false (.tmp 12))⟩,
  ⟨(some 14), none, (.len (.tmp 13))⟩,
  ⟨(some 15), none, (.bin .lss (.tmp 9) (.tmp 14))⟩]) (.cond (.tmp 15) .skip (.exit 0))) (.seq (.block 1 (.seq (.ops [
  ⟨(some 18), none, (.mv (.tmp 0))⟩,
  ⟨(some 19), none, (.mv (.tmp 1))⟩,
  ⟨(some 20), none, (.nilc (.tmp 19))⟩,
  ⟨(some 21), none, (.fa 0 (.tmp 20))⟩,
  ⟨(some 22), none, (.load 1 false (.tmp 21))⟩,
  ⟨(some 23), none, (.mv (.tmp 5))⟩,
  ⟨(some 24), none, (.ia 3 (.tmp 22) (.tmp 23))⟩,
  ⟨(some 25), none, (.fa 2 (.tmp 24))⟩,
  ⟨(some 26), none, (.load 1 false (.tmp 25))⟩,
  ⟨(some 27), none, (.callX 69 [(.tmp 18), (.tmp 26)])⟩,
  ⟨(some 28), none, (.un .not (.tmp 27))⟩]) (.cond (.tmp 28) (.seq (.ops [
  ⟨(some 4), none, (.asg (.const (.bool false)))⟩]) .ret) .skip))) (.ops [
  ⟨(some 16), none, (.mv (.tmp 5))⟩,
  ⟨(some 17), none, (.bin .add (.tmp 16) (.const (.int .i64 1)))⟩,
  ⟨(some 5), none, (.asg (.tmp 17))⟩])))))) (.seq (.ops [
  ⟨(some 4), none, (.asg (.const (.bool true)))⟩]) .ret))))
theorem law_spec_l03Ok {a0 a1 d : D} (h : code_spec_l03Ok.wp (CT Try.prog NoG) (endQ [(.t 4)] d) [a0, a1, .undef, .undef, .undef, .undef, .undef, .undef, .undef, .undef, .undef, .undef, .undef, .undef, .undef, .undef, .undef, .undef, .undef, .undef, .undef, .undef, .undef, .undef, .undef, .undef, .undef, .undef, .undef]) : Contract Try.prog NoG 100 [a0, a1] d :=
  contract_of noG Try.func100 (fun us W => by kernel_rfl) (c := Try.f100.body.getD .skip) (ms := [mk_spec_l03Ok_0]) (ms' := []) (by kernel_rfl) (by kernel_rfl) (by kernel_rfl) h
set_option maxHeartbeats 2000000 in
theorem v_l03Ok (a : TileSet) (b : Assembly) (ha : a.Tiles.length ≤ 1048576) (hn : b.Tiles.length ≤ 1048576) : Contract Try.prog NoG 100 [.iptr (TileSet.td.d false a) 0, .iptr (Assembly.td.d false b) 0] (.v (.bool (okAsm a b))) := by
  rw [TileSet.td_d, Assembly.td_d]
  refine law_spec_l03Ok ?_
  unfold code_spec_l03Ok
  simp -implicitDefEqProofs (disch := omega) only [go_sem, ↓reduceIte, Nat.reduceAdd, Nat.reduceMul, Nat.reduceLeDiff, reduceCtorEq, Nat.reduceEqDiff, Nat.reduceBEq, Nat.reduceBNe, Option.some.injEq]
  cases h1 : okForm b.Tiles with
  | false =>
    refine call_leA (v_l03Form b hn) (by simp -implicitDefEqProofs (disch := omega) only [go_sem, ↓reduceIte, Nat.reduceAdd, Nat.reduceMul, Nat.reduceLeDiff, reduceCtorEq, Nat.reduceEqDiff, Nat.reduceBEq, Nat.reduceBNe, Option.some.injEq, deep, TD.rows, immLL_rI, immLL_rB8, immLL_rS, immLL_rBo, immLL_rII, h1, okAsm]; exact rfl) (by repeat (first | exact leL_nil | refine leL_cons ?_ ?_ | exact le_of_eq rfl | exact le_slf rfl (by first | rfl | exact TD.rows _ _ _) | refine le_agg ?_ | (refine le_iptrN ?_; simp only [List.drop_succ_cons, List.drop_zero, List.take_succ_cons, List.take_zero, List.take_nil, List.length_cons, List.length_nil, Nat.zero_add, Nat.reduceAdd]) | refine le_iptr ?_ | refine le_fn ?_ ?_)) (by first | exact .inl rfl | exact .inl (by simp only [D.noImm, noImmL, Bool.and_true, Bool.true_and, TD.nims, TD.nim, nim_rI, nim_rB8, nim_rBo, nim_rS])) ?_
    simp -implicitDefEqProofs (disch := omega) only [go_sem, ↓reduceIte, Nat.reduceAdd, Nat.reduceMul, Nat.reduceLeDiff, reduceCtorEq, Nat.reduceEqDiff, Nat.reduceBEq, Nat.reduceBNe, Option.some.injEq , h1, okAsm]
  | true =>
  refine call_leA (v_l03Form b hn) (by simp -implicitDefEqProofs (disch := omega) only [go_sem, ↓reduceIte, Nat.reduceAdd, Nat.reduceMul, Nat.reduceLeDiff, reduceCtorEq, Nat.reduceEqDiff, Nat.reduceBEq, Nat.reduceBNe, Option.some.injEq, deep, TD.rows, immLL_rI, immLL_rB8, immLL_rS, immLL_rBo, immLL_rII, h1]; exact rfl) (by repeat (first | exact leL_nil | refine leL_cons ?_ ?_ | exact le_of_eq rfl | exact le_slf rfl (by first | rfl | exact TD.rows _ _ _) | refine le_agg ?_ | (refine le_iptrN ?_; simp only [List.drop_succ_cons, List.drop_zero, List.take_succ_cons, List.take_zero, List.take_nil, List.length_cons, List.length_nil, Nat.zero_add, Nat.reduceAdd]) | refine le_iptr ?_ | refine le_fn ?_ ?_)) (by first | exact .inl rfl | exact .inl (by simp only [D.noImm, noImmL, Bool.and_true, Bool.true_and, TD.nims, TD.nim, nim_rI, nim_rB8, nim_rBo, nim_rS])) ?_
  simp -implicitDefEqProofs (disch := omega) only [go_sem, ↓reduceIte, Nat.reduceAdd, Nat.reduceMul, Nat.reduceLeDiff, reduceCtorEq, Nat.reduceEqDiff, Nat.reduceBEq, Nat.reduceBNe, Option.some.injEq , h1]
  refine loop_ov (by simp -implicitDefEqProofs (disch := omega) only [go_sem, ↓reduceIte, Nat.reduceAdd, Nat.reduceMul, Nat.reduceLeDiff, reduceCtorEq, Nat.reduceEqDiff, Nat.reduceBEq, Nat.reduceBNe, Option.some.injEq]; exact rfl) (fun i : Nat => [(5, .v (.int .i64 (i : Nat)))]) (fun _ => by simp only [ovr_nil, ovr_cons, List.set_cons_zero, List.set_cons_succ]; exact rfl) (fun i : Nat => i ≤ b.Tiles.length ∧ (b.Tiles.take i).all (fun t => inR 0 ((a.Tiles.length : Int) - 1) t.Tile) = true) (fun i : Nat => b.Tiles.length - i) (0) (by (try simp -implicitDefEqProofs only [nleL_cc, nleL_nn, nle_self, nle_boxs, nle_aggs, nle_nils, and_self, and_true, true_and]) <;> repeat' (first | exact nle_of_eq rfl | exact nle_nil | refine And.intro ?_ ?_ | refine nle_box ?_ | refine nle_agg ?_ | refine nle_sl ?_ | exact nleLL_nil | refine nleLL_cons ?_ ?_ | exact nleL_nil | refine nleL_cons ?_ ?_ | exact nle_rfl _)) (?_) ?_
  · exact ⟨Nat.zero_le _, rfl⟩
  rintro i ⟨hi, hal⟩
  simp -implicitDefEqProofs (disch := omega) only [go_sem, ↓reduceIte, Nat.reduceAdd, Nat.reduceMul, Nat.reduceLeDiff, reduceCtorEq, Nat.reduceEqDiff, Nat.reduceBEq, Nat.reduceBNe, Option.some.injEq , List.length_map, Int.toNat_natCast, Int.ofNat_lt, Int.natCast_nonneg, List.getElem?_map, Option.map_some]
  refine cond_split ?_ ?_ <;> intro hlt
  · have hlt : i < b.Tiles.length := by simpa using hlt
    have e1 := List.getElem?_eq_getElem hlt
    simp -implicitDefEqProofs (disch := omega) only [go_sem, ↓reduceIte, Nat.reduceAdd, Nat.reduceMul, Nat.reduceLeDiff, reduceCtorEq, Nat.reduceEqDiff, Nat.reduceBEq, Nat.reduceBNe, Option.some.injEq , List.length_map, Int.toNat_natCast, Int.ofNat_lt, Int.natCast_nonneg, List.getElem?_map, Option.map_some, hlt, e1, Placed.td_d]
    cases c1 : inR 0 ((a.Tiles.length : Int) - 1) b.Tiles[i].Tile with
    | false =>
      have hno : b.Tiles.all (fun t => inR 0 ((a.Tiles.length : Int) - 1) t.Tile) = false := by rw [List.all_eq_false]; exact ⟨_, List.getElem_mem hlt, by simp [c1]⟩
      refine call_leA (v_l02Index a b.Tiles[i].Tile ha) (by simp -implicitDefEqProofs (disch := omega) only [go_sem, ↓reduceIte, Nat.reduceAdd, Nat.reduceMul, Nat.reduceLeDiff, reduceCtorEq, Nat.reduceEqDiff, Nat.reduceBEq, Nat.reduceBNe, Option.some.injEq, deep, TD.rows, immLL_rI, immLL_rB8, immLL_rS, immLL_rBo, immLL_rII, c1, okAsm, hno]; exact rfl) (by repeat (first | exact leL_nil | refine leL_cons ?_ ?_ | exact le_of_eq rfl | exact le_slf rfl (by first | rfl | exact TD.rows _ _ _) | refine le_agg ?_ | (refine le_iptrN ?_; simp only [List.drop_succ_cons, List.drop_zero, List.take_succ_cons, List.take_zero, List.take_nil, List.length_cons, List.length_nil, Nat.zero_add, Nat.reduceAdd]) | refine le_iptr ?_ | refine le_fn ?_ ?_)) (by first | exact .inl rfl | exact .inl (by simp only [D.noImm, noImmL, Bool.and_true, Bool.true_and, TD.nims, TD.nim, nim_rI, nim_rB8, nim_rBo, nim_rS])) ?_
      simp -implicitDefEqProofs (disch := omega) only [go_sem, ↓reduceIte, Nat.reduceAdd, Nat.reduceMul, Nat.reduceLeDiff, reduceCtorEq, Nat.reduceEqDiff, Nat.reduceBEq, Nat.reduceBNe, Option.some.injEq , c1, okAsm, hno]
    | true =>
      refine call_leA (v_l02Index a b.Tiles[i].Tile ha) (by simp -implicitDefEqProofs (disch := omega) only [go_sem, ↓reduceIte, Nat.reduceAdd, Nat.reduceMul, Nat.reduceLeDiff, reduceCtorEq, Nat.reduceEqDiff, Nat.reduceBEq, Nat.reduceBNe, Option.some.injEq, deep, TD.rows, immLL_rI, immLL_rB8, immLL_rS, immLL_rBo, immLL_rII, c1, wrN]; exact rfl) (by repeat (first | exact leL_nil | refine leL_cons ?_ ?_ | exact le_of_eq rfl | exact le_slf rfl (by first | rfl | exact TD.rows _ _ _) | refine le_agg ?_ | (refine le_iptrN ?_; simp only [List.drop_succ_cons, List.drop_zero, List.take_succ_cons, List.take_zero, List.take_nil, List.length_cons, List.length_nil, Nat.zero_add, Nat.reduceAdd]) | refine le_iptr ?_ | refine le_fn ?_ ?_)) (by first | exact .inl rfl | exact .inl (by simp only [D.noImm, noImmL, Bool.and_true, Bool.true_and, TD.nims, TD.nim, nim_rI, nim_rB8, nim_rBo, nim_rS])) ?_
      simp -implicitDefEqProofs (disch := omega) only [go_sem, ↓reduceIte, Nat.reduceAdd, Nat.reduceMul, Nat.reduceLeDiff, reduceCtorEq, Nat.reduceEqDiff, Nat.reduceBEq, Nat.reduceBNe, Option.some.injEq , c1, wrN]
      refine ⟨i + 1, by omega, ⟨hlt, ?_⟩, by (try simp -implicitDefEqProofs only [nleL_cc, nleL_nn, nle_self, nle_boxs, nle_aggs, nle_nils, and_self, and_true, true_and]) <;> repeat' (first | exact nle_of_eq rfl | exact nle_nil | refine And.intro ?_ ?_ | refine nle_box ?_ | refine nle_agg ?_ | refine nle_sl ?_ | exact nleLL_nil | refine nleLL_cons ?_ ?_ | exact nleL_nil | refine nleL_cons ?_ ?_ | exact nle_rfl _)⟩
      rw [List.take_succ_eq_append_getElem hlt, List.all_append, hal]
      simp [c1]
  · obtain rfl : i = b.Tiles.length := by
      have : ¬ i < b.Tiles.length := by simpa using hlt
      omega
    rw [List.take_length] at hal
    simp -implicitDefEqProofs (disch := omega) only [go_sem, ↓reduceIte, Nat.reduceAdd, Nat.reduceMul, Nat.reduceLeDiff, reduceCtorEq, Nat.reduceEqDiff, Nat.reduceBEq, Nat.reduceBNe, Option.some.injEq , okAsm, h1, hal]
/-- spec.l06Asked -/
def code_spec_l06Asked : VCode := (.seq (.ops [
  ⟨(some 4), none, (.asg (.const (.int .i64 0)))⟩]) (.seq (.seq (.ops [
  ⟨(some 5), none, (.mv (.tmp 0))⟩,
  ⟨(some 6), none, (.callX 99 [(.tmp 5)])⟩,
  ⟨(some 7), none, (.un .not (.tmp 6))⟩,
  ⟨(some 8), none, (.mv (.tmp 7))⟩,
  ⟨(some 9), (some (8, false)), (.mv (.tmp 0))⟩,
  ⟨(some 10), (some (8, false)), (.mv (.tmp 1))⟩,
  ⟨(some 11), (some (8, false)), (.callX 100 [(.tmp 9), (.tmp 10)])⟩,
  ⟨(some 12), (some (8, false)), (.un .not (.tmp 11))⟩,
  ⟨(some 13), none, (.pick (.tmp 8) (.const (.bool true)) (.tmp 12))⟩]) (.cond (.tmp 13) (.seq (.ops [
  ⟨(some 4), none, (.asg (.const (.int .i64 1)))⟩]) .ret) .skip)) (.seq (.ops [
  ⟨(some 4), none, (.asg (.const (.int .i64 0)))⟩]) .ret)))
theorem law_spec_l06Asked {a0 a1 d : D} (h : code_spec_l06Asked.wp (CT Try.prog NoG) (endQ [(.t 4)] d) [a0, a1, .undef, .undef, .undef, .undef, .undef, .undef, .undef, .undef, .undef, .undef, .undef, .undef]) : Contract Try.prog NoG 49 [a0, a1] d :=
  contract_of noG Try.func49 (fun us W => by kernel_rfl) (c := Try.f49.body.getD .skip) (ms := []) (ms' := []) (by kernel_rfl) (by kernel_rfl) (by kernel_rfl) h
set_option maxHeartbeats 2000000 in
theorem v_l06Asked (a : TileSet) (b : Assembly) (ha : setB a) (hn : b.Tiles.length ≤ 1048576) : Contract Try.prog NoG 49 [.iptr (TileSet.td.d false a) 0, .iptr (Assembly.td.d false b) 0] (.v (.int .i64 (if okSet a && okAsm a b then 0 else 1))) := by
  have hat := ha.t
  rw [TileSet.td_d, Assembly.td_d]
  refine law_spec_l06Asked ?_
  unfold code_spec_l06Asked
  simp -implicitDefEqProofs (disch := omega) only [go_sem, ↓reduceIte, Nat.reduceAdd, Nat.reduceMul, Nat.reduceLeDiff, reduceCtorEq, Nat.reduceEqDiff, Nat.reduceBEq, Nat.reduceBNe, Option.some.injEq]
  cases h1 : okSet a with
  | false =>
    refine call_leA (v_l02Ok a ha) (by simp -implicitDefEqProofs (disch := omega) only [go_sem, ↓reduceIte, Nat.reduceAdd, Nat.reduceMul, Nat.reduceLeDiff, reduceCtorEq, Nat.reduceEqDiff, Nat.reduceBEq, Nat.reduceBNe, Option.some.injEq, deep, TD.rows, immLL_rI, immLL_rB8, immLL_rS, immLL_rBo, immLL_rII, h1]; exact rfl) (by repeat (first | exact leL_nil | refine leL_cons ?_ ?_ | exact le_of_eq rfl | exact le_slf rfl (by first | rfl | exact TD.rows _ _ _) | refine le_agg ?_ | (refine le_iptrN ?_; simp only [List.drop_succ_cons, List.drop_zero, List.take_succ_cons, List.take_zero, List.take_nil, List.length_cons, List.length_nil, Nat.zero_add, Nat.reduceAdd]) | refine le_iptr ?_ | refine le_fn ?_ ?_)) (by first | exact .inl rfl | exact .inl (by simp only [D.noImm, noImmL, Bool.and_true, Bool.true_and, TD.nims, TD.nim, nim_rI, nim_rB8, nim_rBo, nim_rS])) ?_
    simp -implicitDefEqProofs (disch := omega) only [go_sem, ↓reduceIte, Nat.reduceAdd, Nat.reduceMul, Nat.reduceLeDiff, reduceCtorEq, Nat.reduceEqDiff, Nat.reduceBEq, Nat.reduceBNe, Option.some.injEq , h1]
  | true =>
  cases h2 : okAsm a b with
  | false =>
    refine call_leA (v_l02Ok a ha) (by simp -implicitDefEqProofs (disch := omega) only [go_sem, ↓reduceIte, Nat.reduceAdd, Nat.reduceMul, Nat.reduceLeDiff, reduceCtorEq, Nat.reduceEqDiff, Nat.reduceBEq, Nat.reduceBNe, Option.some.injEq, deep, TD.rows, immLL_rI, immLL_rB8, immLL_rS, immLL_rBo, immLL_rII, h1]; exact rfl) (by repeat (first | exact leL_nil | refine leL_cons ?_ ?_ | exact le_of_eq rfl | exact le_slf rfl (by first | rfl | exact TD.rows _ _ _) | refine le_agg ?_ | (refine le_iptrN ?_; simp only [List.drop_succ_cons, List.drop_zero, List.take_succ_cons, List.take_zero, List.take_nil, List.length_cons, List.length_nil, Nat.zero_add, Nat.reduceAdd]) | refine le_iptr ?_ | refine le_fn ?_ ?_)) (by first | exact .inl rfl | exact .inl (by simp only [D.noImm, noImmL, Bool.and_true, Bool.true_and, TD.nims, TD.nim, nim_rI, nim_rB8, nim_rBo, nim_rS])) ?_
    simp -implicitDefEqProofs (disch := omega) only [go_sem, ↓reduceIte, Nat.reduceAdd, Nat.reduceMul, Nat.reduceLeDiff, reduceCtorEq, Nat.reduceEqDiff, Nat.reduceBEq, Nat.reduceBNe, Option.some.injEq , h1]
    refine call_leA (v_l03Ok a b hat hn) (by simp -implicitDefEqProofs (disch := omega) only [go_sem, ↓reduceIte, Nat.reduceAdd, Nat.reduceMul, Nat.reduceLeDiff, reduceCtorEq, Nat.reduceEqDiff, Nat.reduceBEq, Nat.reduceBNe, Option.some.injEq, deep, TD.rows, immLL_rI, immLL_rB8, immLL_rS, immLL_rBo, immLL_rII, h2]; exact rfl) (by repeat (first | exact leL_nil | refine leL_cons ?_ ?_ | exact le_of_eq rfl | exact le_slf rfl (by first | rfl | exact TD.rows _ _ _) | refine le_agg ?_ | (refine le_iptrN ?_; simp only [List.drop_succ_cons, List.drop_zero, List.take_succ_cons, List.take_zero, List.take_nil, List.length_cons, List.length_nil, Nat.zero_add, Nat.reduceAdd]) | refine le_iptr ?_ | refine le_fn ?_ ?_)) (by first | exact .inl rfl | exact .inl (by simp only [D.noImm, noImmL, Bool.and_true, Bool.true_and, TD.nims, TD.nim, nim_rI, nim_rB8, nim_rBo, nim_rS])) ?_
    simp -implicitDefEqProofs (disch := omega) only [go_sem, ↓reduceIte, Nat.reduceAdd, Nat.reduceMul, Nat.reduceLeDiff, reduceCtorEq, Nat.reduceEqDiff, Nat.reduceBEq, Nat.reduceBNe, Option.some.injEq , h2]
  | true =>
    refine call_leA (v_l02Ok a ha) (by simp -implicitDefEqProofs (disch := omega) only [go_sem, ↓reduceIte, Nat.reduceAdd, Nat.reduceMul, Nat.reduceLeDiff, reduceCtorEq, Nat.reduceEqDiff, Nat.reduceBEq, Nat.reduceBNe, Option.some.injEq, deep, TD.rows, immLL_rI, immLL_rB8, immLL_rS, immLL_rBo, immLL_rII, h1]; exact rfl) (by repeat (first | exact leL_nil | refine leL_cons ?_ ?_ | exact le_of_eq rfl | exact le_slf rfl (by first | rfl | exact TD.rows _ _ _) | refine le_agg ?_ | (refine le_iptrN ?_; simp only [List.drop_succ_cons, List.drop_zero, List.take_succ_cons, List.take_zero, List.take_nil, List.length_cons, List.length_nil, Nat.zero_add, Nat.reduceAdd]) | refine le_iptr ?_ | refine le_fn ?_ ?_)) (by first | exact .inl rfl | exact .inl (by simp only [D.noImm, noImmL, Bool.and_true, Bool.true_and, TD.nims, TD.nim, nim_rI, nim_rB8, nim_rBo, nim_rS])) ?_
    simp -implicitDefEqProofs (disch := omega) only [go_sem, ↓reduceIte, Nat.reduceAdd, Nat.reduceMul, Nat.reduceLeDiff, reduceCtorEq, Nat.reduceEqDiff, Nat.reduceBEq, Nat.reduceBNe, Option.some.injEq , h1]
    refine call_leA (v_l03Ok a b hat hn) (by simp -implicitDefEqProofs (disch := omega) only [go_sem, ↓reduceIte, Nat.reduceAdd, Nat.reduceMul, Nat.reduceLeDiff, reduceCtorEq, Nat.reduceEqDiff, Nat.reduceBEq, Nat.reduceBNe, Option.some.injEq, deep, TD.rows, immLL_rI, immLL_rB8, immLL_rS, immLL_rBo, immLL_rII, h2]; exact rfl) (by repeat (first | exact leL_nil | refine leL_cons ?_ ?_ | exact le_of_eq rfl | exact le_slf rfl (by first | rfl | exact TD.rows _ _ _) | refine le_agg ?_ | (refine le_iptrN ?_; simp only [List.drop_succ_cons, List.drop_zero, List.take_succ_cons, List.take_zero, List.take_nil, List.length_cons, List.length_nil, Nat.zero_add, Nat.reduceAdd]) | refine le_iptr ?_ | refine le_fn ?_ ?_)) (by first | exact .inl rfl | exact .inl (by simp only [D.noImm, noImmL, Bool.and_true, Bool.true_and, TD.nims, TD.nim, nim_rI, nim_rB8, nim_rBo, nim_rS])) ?_
    simp -implicitDefEqProofs (disch := omega) only [go_sem, ↓reduceIte, Nat.reduceAdd, Nat.reduceMul, Nat.reduceLeDiff, reduceCtorEq, Nat.reduceEqDiff, Nat.reduceBEq, Nat.reduceBNe, Option.some.injEq , h2]
/-- impl.ValidAssembly$1 -/
def code_impl_ValidAssembly_1 : VCode := (.seq (.ops [
  ⟨(some 2), none, (.box (.tmp 0))⟩,
  ⟨(some 3), none, (.asg (.const (.bool false)))⟩]) (.seq (.ops [
  ⟨(some 4), none, (.load 2 true (.tmp 1))⟩,
  ⟨(some 5), none, (.fa 2 (.tmp 2))⟩,
  ⟨(some 6), none, (.load 1 false (.tmp 5))⟩,
  ⟨(some 7), none, (.callX 72 [(.tmp 4), (.tmp 6)])⟩,
  ⟨(some 8), none, (.un .not (.tmp 7))⟩,
  ⟨(some 3), none, (.asg (.tmp 8))⟩]) .ret))
theorem law_impl_ValidAssembly_1 {a0 a1 d : D} (h : code_impl_ValidAssembly_1.wp (CT Try.prog NoG) (endQ [(.t 3)] d) [a0, a1, .undef, .undef, .undef, .undef, .undef, .undef, .undef]) : Contract Try.prog NoG 105 [a0, a1] d :=
  contract_of noG Try.func105 (fun us W => by kernel_rfl) (c := Try.f105.body.getD .skip) (ms := []) (ms' := []) (by kernel_rfl) (by kernel_rfl) (by kernel_rfl) h
/-- impl.ValidAssembly -/
def code_impl_ValidAssembly : VCode := (.seq (.ops [
  ⟨(some 2), none, (.box (.tmp 0))⟩,
  ⟨(some 3), none, (.box (.tmp 1))⟩,
  ⟨(some 4), none, (.asg (.const (.bool false)))⟩]) (.seq (.ops [
  ⟨(some 5), none, (.load 2 true (.tmp 2))⟩,
  ⟨(some 6), none, (.callX 104 [(.tmp 5)])⟩,
  ⟨(some 7), none, (.mv (.tmp 6))⟩,
  ⟨(some 8), (some (7, true)), (.load 1 true (.tmp 3))⟩,
  ⟨(some 9), (some (7, true)), (.callX 80 [(.tmp 8)])⟩,
  ⟨(some 10), none, (.pick (.tmp 7) (.tmp 9) (.const (.bool false)))⟩,
  ⟨(some 11), none, (.mv (.tmp 10))⟩,
  ⟨(some 12), (some (11, true)), (.fa 0 (.tmp 3))⟩,
  ⟨(some 13), (some (11, true)), (.load 1 false (.tmp 12))⟩,
  ⟨(some 14), (some (11, true)), (.mkf 105 [] [(.tmp 2)])⟩,
  ⟨(some 15), (some (11, true)), (.callX 95 [(.tmp 13), (.tmp 14)])⟩,
  ⟨(some 16), (some (11, true)), (.un .not (.tmp 15))⟩,
  ⟨(some 17), none, (.pick (.tmp 11) (.tmp 16) (.const (.bool false)))⟩,
  ⟨(some 4), none, (.asg (.tmp 17))⟩]) .ret))
theorem law_impl_ValidAssembly {a0 a1 d : D} (h : code_impl_ValidAssembly.wp (CT Try.prog NoG) (endQ [(.t 4)] d) [a0, a1, .undef, .undef, .undef, .undef, .undef, .undef, .undef, .undef, .undef, .undef, .undef, .undef, .undef, .undef, .undef, .undef]) : Contract Try.prog NoG 56 [a0, a1] d :=
  contract_of noG Try.func56 (fun us W => by kernel_rfl) (c := Try.f56.body.getD .skip) (ms := []) (ms' := []) (by kernel_rfl) (by kernel_rfl) (by kernel_rfl) h
theorem v_ValidAssembly1 (a : TileSet) (t : Placed) (ha : a.Tiles.length ≤ 1048576) : Contract Try.prog NoG 105 [.agg (Placed.td.d false t), .iptr (TileSet.td.d false a) 0] (.v (.bool (!inR 0 ((a.Tiles.length : Int) - 1) t.Tile))) := by
  rw [Placed.td_d, TileSet.td_d]
  refine law_impl_ValidAssembly_1 ?_
  unfold code_impl_ValidAssembly_1
  simp -implicitDefEqProofs (disch := omega) only [go_sem, ↓reduceIte, Nat.reduceAdd, Nat.reduceMul, Nat.reduceLeDiff, reduceCtorEq, Nat.reduceEqDiff, Nat.reduceBEq, Nat.reduceBNe, Option.some.injEq]
  refine call_leA (v_isTile a t.Tile ha) (by simp -implicitDefEqProofs (disch := omega) only [go_sem, ↓reduceIte, Nat.reduceAdd, Nat.reduceMul, Nat.reduceLeDiff, reduceCtorEq, Nat.reduceEqDiff, Nat.reduceBEq, Nat.reduceBNe, Option.some.injEq, deep, TD.rows, immLL_rI, immLL_rB8, immLL_rS, immLL_rBo, immLL_rII]; exact rfl) (by repeat (first | exact leL_nil | refine leL_cons ?_ ?_ | exact le_of_eq rfl | exact le_slf rfl (by first | rfl | exact TD.rows _ _ _) | refine le_agg ?_ | (refine le_iptrN ?_; simp only [List.drop_succ_cons, List.drop_zero, List.take_succ_cons, List.take_zero, List.take_nil, List.length_cons, List.length_nil, Nat.zero_add, Nat.reduceAdd]) | refine le_iptr ?_ | refine le_fn ?_ ?_)) (by first | exact .inl rfl | exact .inl (by simp only [D.noImm, noImmL, Bool.and_true, Bool.true_and, TD.nims, TD.nim, nim_rI, nim_rB8, nim_rBo, nim_rS])) ?_
  simp -implicitDefEqProofs (disch := omega) only [go_sem, ↓reduceIte, Nat.reduceAdd, Nat.reduceMul, Nat.reduceLeDiff, reduceCtorEq, Nat.reduceEqDiff, Nat.reduceBEq, Nat.reduceBNe, Option.some.injEq]
theorem any_not {α : Type} (p : α → Bool) (xs : List α) : xs.any (fun x => !p x) = !xs.all p := by
  induction xs with
  | nil => rfl
  | cons x xs ih => simp only [List.any_cons, List.all_cons, ih, Bool.not_and]
set_option maxHeartbeats 2000000 in
theorem v_ValidAssembly (a : TileSet) (b : Assembly) (ha : setB a) (hn : b.Tiles.length ≤ 1048576) : Contract Try.prog NoG 56 [.agg (TileSet.td.d false a), .agg (Assembly.td.d false b)] (.v (.bool (okSet a && okAsm a b))) := by
  have hat := ha.t
  rw [TileSet.td_d, Assembly.td_d]
  refine law_impl_ValidAssembly ?_
  unfold code_impl_ValidAssembly
  simp -implicitDefEqProofs (disch := omega) only [go_sem, ↓reduceIte, Nat.reduceAdd, Nat.reduceMul, Nat.reduceLeDiff, reduceCtorEq, Nat.reduceEqDiff, Nat.reduceBEq, Nat.reduceBNe, Option.some.injEq]
  cases h1 : okSet a with
  | false =>
    refine call_leA (v_ValidSet a ha) (by simp -implicitDefEqProofs (disch := omega) only [go_sem, ↓reduceIte, Nat.reduceAdd, Nat.reduceMul, Nat.reduceLeDiff, reduceCtorEq, Nat.reduceEqDiff, Nat.reduceBEq, Nat.reduceBNe, Option.some.injEq, deep, TD.rows, immLL_rI, immLL_rB8, immLL_rS, immLL_rBo, immLL_rII, h1]; exact rfl) (by repeat (first | exact leL_nil | refine leL_cons ?_ ?_ | exact le_of_eq rfl | exact le_slf rfl (by first | rfl | exact TD.rows _ _ _) | refine le_agg ?_ | (refine le_iptrN ?_; simp only [List.drop_succ_cons, List.drop_zero, List.take_succ_cons, List.take_zero, List.take_nil, List.length_cons, List.length_nil, Nat.zero_add, Nat.reduceAdd]) | refine le_iptr ?_ | refine le_fn ?_ ?_)) (by first | exact .inl rfl | exact .inl (by simp only [D.noImm, noImmL, Bool.and_true, Bool.true_and, TD.nims, TD.nim, nim_rI, nim_rB8, nim_rBo, nim_rS])) ?_
    simp -implicitDefEqProofs (disch := omega) only [go_sem, ↓reduceIte, Nat.reduceAdd, Nat.reduceMul, Nat.reduceLeDiff, reduceCtorEq, Nat.reduceEqDiff, Nat.reduceBEq, Nat.reduceBNe, Option.some.injEq , h1]
  | true =>
  cases h2 : okForm b.Tiles with
  | false =>
    refine call_leA (v_ValidSet a ha) (by simp -implicitDefEqProofs (disch := omega) only [go_sem, ↓reduceIte, Nat.reduceAdd, Nat.reduceMul, Nat.reduceLeDiff, reduceCtorEq, Nat.reduceEqDiff, Nat.reduceBEq, Nat.reduceBNe, Option.some.injEq, deep, TD.rows, immLL_rI, immLL_rB8, immLL_rS, immLL_rBo, immLL_rII, h1]; exact rfl) (by repeat (first | exact leL_nil | refine leL_cons ?_ ?_ | exact le_of_eq rfl | exact le_slf rfl (by first | rfl | exact TD.rows _ _ _) | refine le_agg ?_ | (refine le_iptrN ?_; simp only [List.drop_succ_cons, List.drop_zero, List.take_succ_cons, List.take_zero, List.take_nil, List.length_cons, List.length_nil, Nat.zero_add, Nat.reduceAdd]) | refine le_iptr ?_ | refine le_fn ?_ ?_)) (by first | exact .inl rfl | exact .inl (by simp only [D.noImm, noImmL, Bool.and_true, Bool.true_and, TD.nims, TD.nim, nim_rI, nim_rB8, nim_rBo, nim_rS])) ?_
    simp -implicitDefEqProofs (disch := omega) only [go_sem, ↓reduceIte, Nat.reduceAdd, Nat.reduceMul, Nat.reduceLeDiff, reduceCtorEq, Nat.reduceEqDiff, Nat.reduceBEq, Nat.reduceBNe, Option.some.injEq , h1]
    refine call_leA (v_hasForm b hn) (by simp -implicitDefEqProofs (disch := omega) only [go_sem, ↓reduceIte, Nat.reduceAdd, Nat.reduceMul, Nat.reduceLeDiff, reduceCtorEq, Nat.reduceEqDiff, Nat.reduceBEq, Nat.reduceBNe, Option.some.injEq, deep, TD.rows, immLL_rI, immLL_rB8, immLL_rS, immLL_rBo, immLL_rII, h2, okAsm]; exact rfl) (by repeat (first | exact leL_nil | refine leL_cons ?_ ?_ | exact le_of_eq rfl | exact le_slf rfl (by first | rfl | exact TD.rows _ _ _) | refine le_agg ?_ | (refine le_iptrN ?_; simp only [List.drop_succ_cons, List.drop_zero, List.take_succ_cons, List.take_zero, List.take_nil, List.length_cons, List.length_nil, Nat.zero_add, Nat.reduceAdd]) | refine le_iptr ?_ | refine le_fn ?_ ?_)) (by first | exact .inl rfl | exact .inl (by simp only [D.noImm, noImmL, Bool.and_true, Bool.true_and, TD.nims, TD.nim, nim_rI, nim_rB8, nim_rBo, nim_rS])) ?_
    simp -implicitDefEqProofs (disch := omega) only [go_sem, ↓reduceIte, Nat.reduceAdd, Nat.reduceMul, Nat.reduceLeDiff, reduceCtorEq, Nat.reduceEqDiff, Nat.reduceBEq, Nat.reduceBNe, Option.some.injEq , h2, okAsm]
  | true =>
    refine call_leA (v_ValidSet a ha) (by simp -implicitDefEqProofs (disch := omega) only [go_sem, ↓reduceIte, Nat.reduceAdd, Nat.reduceMul, Nat.reduceLeDiff, reduceCtorEq, Nat.reduceEqDiff, Nat.reduceBEq, Nat.reduceBNe, Option.some.injEq, deep, TD.rows, immLL_rI, immLL_rB8, immLL_rS, immLL_rBo, immLL_rII, h1]; exact rfl) (by repeat (first | exact leL_nil | refine leL_cons ?_ ?_ | exact le_of_eq rfl | exact le_slf rfl (by first | rfl | exact TD.rows _ _ _) | refine le_agg ?_ | (refine le_iptrN ?_; simp only [List.drop_succ_cons, List.drop_zero, List.take_succ_cons, List.take_zero, List.take_nil, List.length_cons, List.length_nil, Nat.zero_add, Nat.reduceAdd]) | refine le_iptr ?_ | refine le_fn ?_ ?_)) (by first | exact .inl rfl | exact .inl (by simp only [D.noImm, noImmL, Bool.and_true, Bool.true_and, TD.nims, TD.nim, nim_rI, nim_rB8, nim_rBo, nim_rS])) ?_
    simp -implicitDefEqProofs (disch := omega) only [go_sem, ↓reduceIte, Nat.reduceAdd, Nat.reduceMul, Nat.reduceLeDiff, reduceCtorEq, Nat.reduceEqDiff, Nat.reduceBEq, Nat.reduceBNe, Option.some.injEq , h1]
    refine call_leA (v_hasForm b hn) (by simp -implicitDefEqProofs (disch := omega) only [go_sem, ↓reduceIte, Nat.reduceAdd, Nat.reduceMul, Nat.reduceLeDiff, reduceCtorEq, Nat.reduceEqDiff, Nat.reduceBEq, Nat.reduceBNe, Option.some.injEq, deep, TD.rows, immLL_rI, immLL_rB8, immLL_rS, immLL_rBo, immLL_rII, h2]; exact rfl) (by repeat (first | exact leL_nil | refine leL_cons ?_ ?_ | exact le_of_eq rfl | exact le_slf rfl (by first | rfl | exact TD.rows _ _ _) | refine le_agg ?_ | (refine le_iptrN ?_; simp only [List.drop_succ_cons, List.drop_zero, List.take_succ_cons, List.take_zero, List.take_nil, List.length_cons, List.length_nil, Nat.zero_add, Nat.reduceAdd]) | refine le_iptr ?_ | refine le_fn ?_ ?_)) (by first | exact .inl rfl | exact .inl (by simp only [D.noImm, noImmL, Bool.and_true, Bool.true_and, TD.nims, TD.nim, nim_rI, nim_rB8, nim_rBo, nim_rS])) ?_
    simp -implicitDefEqProofs (disch := omega) only [go_sem, ↓reduceIte, Nat.reduceAdd, Nat.reduceMul, Nat.reduceLeDiff, reduceCtorEq, Nat.reduceEqDiff, Nat.reduceBEq, Nat.reduceBNe, Option.some.injEq , h2]
    refine call_leA (v_ContainsFunc_Placed _ [.iptr (TileSet.td.d false a) 0] ⟨rfl, fun _ => rfl, fun _ => rfl, fun _ => rfl⟩ b.Tiles (fun t => !inR 0 ((a.Tiles.length : Int) - 1) t.Tile) (fun x _ => v_ValidAssembly1 a x hat) (by omega)) (by simp -implicitDefEqProofs (disch := omega) only [go_sem, ↓reduceIte, Nat.reduceAdd, Nat.reduceMul, Nat.reduceLeDiff, reduceCtorEq, Nat.reduceEqDiff, Nat.reduceBEq, Nat.reduceBNe, Option.some.injEq, deep, TD.rows, immLL_rI, immLL_rB8, immLL_rS, immLL_rBo, immLL_rII, any_not, Bool.not_not, okAsm, h2]; exact rfl) (by repeat (first | exact leL_nil | refine leL_cons ?_ ?_ | exact le_of_eq rfl | exact le_slf rfl (by first | rfl | exact TD.rows _ _ _) | refine le_agg ?_ | (refine le_iptrN ?_; simp only [List.drop_succ_cons, List.drop_zero, List.take_succ_cons, List.take_zero, List.take_nil, List.length_cons, List.length_nil, Nat.zero_add, Nat.reduceAdd]) | refine le_iptr ?_ | refine le_fn ?_ ?_)) (by first | exact .inl rfl | exact .inl (by simp only [D.noImm, noImmL, Bool.and_true, Bool.true_and, TD.nims, TD.nim, nim_rI, nim_rB8, nim_rBo, nim_rS])) ?_
    simp -implicitDefEqProofs (disch := omega) only [go_sem, ↓reduceIte, Nat.reduceAdd, Nat.reduceMul, Nat.reduceLeDiff, reduceCtorEq, Nat.reduceEqDiff, Nat.reduceBEq, Nat.reduceBNe, Option.some.injEq , any_not, Bool.not_not, okAsm, h2]
/-- The placed tile at a point, by a search among the sorted. -/
def bsA (ps : List Placed) (p : Point) : Nat := bsP (ps.map (·.At)) p
def atP (ps : List Placed) (p : Point) : Bool := match ps[bsA ps p]? with
  | some x => decide (x.At = p)
  | none => false
def idxA (ps : List Placed) (p : Point) : Int := if atP ps p then (bsA ps p : Nat) else -1
def tileA (ps : List Placed) (p : Point) : Int := if atP ps p then (match ps[bsA ps p]? with | some x => x.Tile | none => -1) else -1
theorem lessAt_pl {ps : List Placed} {p : Point} {k : Nat} (hk : k < ps.length) : lessAt (ps.map (·.At)) p k = lessP ps[k].At p := by
  unfold lessAt
  rw [List.getElem?_map, List.getElem?_eq_getElem hk]
  rfl
theorem bsA_le (ps : List Placed) (p : Point) : bsA ps p ≤ ps.length := by
  have := bsP_le (ps.map (·.At)) p
  rwa [List.length_map] at this
/-- impl.comparePlaced -/
def code_impl_comparePlaced : VCode := (.seq (.ops [
  ⟨(some 2), none, (.box (.tmp 0))⟩,
  ⟨(some 3), none, (.box (.tmp 1))⟩,
  ⟨(some 4), none, (.asg (.const (.int .i64 0)))⟩]) (.seq (.ops [
  ⟨(some 5), none, (.fa 0 (.tmp 2))⟩,
  ⟨(some 6), none, (.load 2 true (.tmp 5))⟩,
  ⟨(some 7), none, (.load 2 true (.tmp 3))⟩,
  ⟨(some 8), none, (.callX 145 [(.tmp 6), (.tmp 7)])⟩,
  ⟨(some 4), none, (.asg (.tmp 8))⟩]) .ret))
theorem law_impl_comparePlaced {a0 a1 d : D} (h : code_impl_comparePlaced.wp (CT Try.prog NoG) (endQ [(.t 4)] d) [a0, a1, .undef, .undef, .undef, .undef, .undef, .undef, .undef]) : Contract Try.prog NoG 122 [a0, a1] d :=
  contract_of noG Try.func122 (fun us W => by kernel_rfl) (c := Try.f122.body.getD .skip) (ms := []) (ms' := []) (by kernel_rfl) (by kernel_rfl) (by kernel_rfl) h
theorem v_comparePlaced (t : Placed) (p : Point) : Contract Try.prog NoG 122 [.agg (Placed.td.d false t), .agg (Point.td.d false p)] (.v (.int .i64 (cmpP t.At p))) := by
  rw [Placed.td_d, Point.td_d]
  refine law_impl_comparePlaced ?_
  unfold code_impl_comparePlaced
  simp -implicitDefEqProofs (disch := omega) only [go_sem, ↓reduceIte, Nat.reduceAdd, Nat.reduceMul, Nat.reduceLeDiff, reduceCtorEq, Nat.reduceEqDiff, Nat.reduceBEq, Nat.reduceBNe, Option.some.injEq]
  refine call_leA (v_comparePoints t.At p) (by simp -implicitDefEqProofs (disch := omega) only [go_sem, ↓reduceIte, Nat.reduceAdd, Nat.reduceMul, Nat.reduceLeDiff, reduceCtorEq, Nat.reduceEqDiff, Nat.reduceBEq, Nat.reduceBNe, Option.some.injEq, deep, TD.rows, immLL_rI, immLL_rB8, immLL_rS, immLL_rBo, immLL_rII]; exact rfl) (by repeat (first | exact leL_nil | refine leL_cons ?_ ?_ | exact le_of_eq rfl | exact le_slf rfl (by first | rfl | exact TD.rows _ _ _) | refine le_agg ?_ | (refine le_iptrN ?_; simp only [List.drop_succ_cons, List.drop_zero, List.take_succ_cons, List.take_zero, List.take_nil, List.length_cons, List.length_nil, Nat.zero_add, Nat.reduceAdd]) | refine le_iptr ?_ | refine le_fn ?_ ?_)) (by first | exact .inl rfl | exact .inl (by simp only [D.noImm, noImmL, Bool.and_true, Bool.true_and, TD.nims, TD.nim, nim_rI, nim_rB8, nim_rBo, nim_rS])) ?_
  simp -implicitDefEqProofs (disch := omega) only [go_sem, ↓reduceIte, Nat.reduceAdd, Nat.reduceMul, Nat.reduceLeDiff, reduceCtorEq, Nat.reduceEqDiff, Nat.reduceBEq, Nat.reduceBNe, Option.some.injEq]
abbrev mk_slices_BinarySearchFunc_impl_Placed_impl_Placed_impl_Point_0 : List Bool := [false, true, false, true, false, true, true, true, false, false, false, true, true, true, true, true, true, true, true, true, true, true, true, true, true, true, true, true, true, true, true, true, true, true, true, true, true, true, true, true, true, true, true, true, true, true, true, true, true]
abbrev mk_slices_BinarySearchFunc_impl_Placed_impl_Placed_impl_Point_1 : List Bool := [false, false, false, false, false, false, false, false, false, false, false, false, false, false, false, false, false, false, false, false, false, false, false, false, true, true, true, true, true, true]
abbrev mk_slices_BinarySearchFunc_impl_Placed_impl_Placed_impl_Point_2 : List Bool := [false, false, false, false, false, false, false, false, false, false, false, false, false, false, false, false, false, false, false, false, false, false, false, false, true, false, false, true, true, true]
abbrev mk_slices_BinarySearchFunc_impl_Placed_impl_Placed_impl_Point_3 : List Bool := [false, false, false, false, false, false, false, false, false, false, false, false, false, false, false, false, false, false, false, false, false, false, false, false, true, false, false, false, true, true]
abbrev mk_slices_BinarySearchFunc_impl_Placed_impl_Placed_impl_Point_4 : List Bool := [false, false, false, false, false, false, true, false, false, false, false, false, false, false, false, false, false, false, false, false, false, false, false, false, false, false, false, false, false, false, false, false, false, false, false, true, true, true, true, true, true, true, true, true, true, true, true, true, true]
abbrev mk_slices_BinarySearchFunc_impl_Placed_impl_Placed_impl_Point_5 : List Bool := [false, false, false, false, false, false, false, false, false, false, false, false, false, false, false, false, false, false, false, false, false, false, false, false, false, false, false, false, false, false, false, false, false, false, false, true]
abbrev mk_slices_BinarySearchFunc_impl_Placed_impl_Placed_impl_Point_6 : List Bool := [false, false, false, false, false, false, true, false, false, false, false, false, false, false, false, false, false, false, false, false, false, false, false, false, false, false, false, false, false, false, false, false, false, false, false, true, false, false, true, true, true, true, true, true, true, true, true, true, true]
abbrev mk_slices_BinarySearchFunc_impl_Placed_impl_Placed_impl_Point_7 : List Bool := [false, false, false, false, false, false, true, false, false, false, false, false, false, false, false, false, false, false, false, false, false, false, false, false, false, false, false, false, false, false, false, false, false, false, false, true, false, false, false, true, true, true, true, true, true, true, true, true, true]
abbrev mk_slices_BinarySearchFunc_impl_Placed_impl_Placed_impl_Point_8 : List Bool := [false, false, false, false, false, false, true, false, false, false, false, false, false, false, false, false, false, false, false, false, false, false, false, false, false, false, false, false, false, false, false, false, false, false, false, true, false, false, false, false, true, true, true, true, true, true, true, true, true]
abbrev mk_slices_BinarySearchFunc_impl_Placed_impl_Placed_impl_Point_9 : List Bool := [false, false, false, false, false, false, true, false, false, false, false, false, false, false, false, false, false, false, false, false, false, false, false, false, false, false, false, false, false, false, false, false, false, false, false, true, false, false, false, false, true, false, false, true, true, true, true, true, true]
abbrev mk_slices_BinarySearchFunc_impl_Placed_impl_Placed_impl_Point_10 : List Bool := [false, false, false, false, false, false, true, false, false, false, false, false, false, false, false, false, false, false, false, false, false, false, false, false, false, false, false, false, false, false, false, false, false, false, false, true, false, false, false, false, true, false, false, false, true, true, true, true, true]
abbrev mk_slices_BinarySearchFunc_impl_Placed_impl_Placed_impl_Point_11 : List Bool := [false, false, false, false, false, false, true, false, false, false, false, false, false, false, false, false, false, false, false, false, false, false, false, false, false, false, false, false, false, false, false, false, false, false, false, true, false, false, false, false, false, false, false, false, false, false, true, true, true]
abbrev mk_slices_BinarySearchFunc_impl_Placed_impl_Placed_impl_Point_12 : List Bool := [false, false, false, false, false, false, true, false, false, false, false, false, false, false, false, false, false, false, false, false, false, false, false, false, false, false, false, false, false, false, false, false, false, false, false, true, false, false, false, false, false, false, false, false, false, false, false, true, true]
abbrev mk_slices_BinarySearchFunc_impl_Placed_impl_Placed_impl_Point_13 : List Bool := [false, false, false, false, false, false, true, false, false, false, false, false, false, false, false, false, false, false, false, false, false, false, false, false, false, false, false, false, false, false, false, false, false, false, false, true, false, false, false, false, false, false, false, false, false, false, false, false, true]
abbrev mk_slices_BinarySearchFunc_impl_Placed_impl_Placed_impl_Point_14 : List Bool := [false, false, false, false, false, false, true, false, false, false, false, false, false, false, false, false, false, false, false, false, false, false, false, false, false, false, false, false, false, false, false, false, false, false, false, false, false, false, false, false, false, false, false, false, false, false, false, true, true]
/-- slices.BinarySearchFunc[[]impl.Placed,impl.Placed,impl.Point] -/
def code_slices_BinarySearchFunc_impl_Placed_impl_Placed_impl_Point : VCode := (.seq (.ops [
  ⟨(some 4), none, (.box (.tmp 1))⟩,
  ⟨(some 6), none, (.asg (.const (.int .i64 0)))⟩,
  ⟨(some 7), none, (.asg (.const (.bool false)))⟩]) (.seq (.ops [
  ⟨(some 12), none, (.mv (.tmp 0))⟩,
  ⟨(some 13), none, (.len (.tmp 12))⟩,
  ⟨(some 8), none, (.asg (.tmp 13))⟩]) (.seq (.ops [
  ⟨(some 14), none, (.mv (.tmp 8))⟩,
  ⟨(some 9), none, (.asg (.const (.int .i64 0)))⟩,
  ⟨(some 10), none, (.asg (.tmp 14))⟩]) (.seq (.block 0 (.loop mk_slices_BinarySearchFunc_impl_Placed_impl_Placed_impl_Point_0 (.seq (.seq (.ops [
  ⟨(some 15), none, (.mv (.tmp 9))⟩,
  ⟨(some 16), none, (.mv (.tmp 10))⟩,
  ⟨(some 17), none, (.bin .lss (.tmp 15) (.tmp 16))⟩]) (.cond (.tmp 17) .skip (.exit 0))) (.block 1 (.seq (.ops [
  ⟨(some 18), none, (.mv (.tmp 9))⟩,
  ⟨(some 19), none, (.mv (.tmp 10))⟩,
  ⟨(some 20), none, (.bin .add (.tmp 18) (.tmp 19))⟩,
  ⟨(some 21), none, (.conv .u64 (.tmp 20))⟩,
  ⟨(some 22), none, (.bin .shr (.tmp 21) (.const (.int .u64 1)))⟩,
  ⟨(some 23), none, (.conv .i64 (.tmp 22))⟩,
  ⟨(some 11), none, (.asg (.tmp 23))⟩]) (.seq (.draw mk_slices_BinarySearchFunc_impl_Placed_impl_Placed_impl_Point_1 [] [⟨0, mk_slices_BinarySearchFunc_impl_Placed_impl_Placed_impl_Point_1, [], ⟨(some 24), none, (.mv (.tmp 2))⟩⟩, ⟨1, mk_slices_BinarySearchFunc_impl_Placed_impl_Placed_impl_Point_1, [], ⟨(some 25), none, (.mv (.tmp 0))⟩⟩, ⟨2, mk_slices_BinarySearchFunc_impl_Placed_impl_Placed_impl_Point_1, [], ⟨(some 26), none, (.mv (.tmp 11))⟩⟩, ⟨3, mk_slices_BinarySearchFunc_impl_Placed_impl_Placed_impl_Point_2, [], ⟨(some 27), none, (.ia 3 (.tmp 25) (.tmp 26))⟩⟩, ⟨4, mk_slices_BinarySearchFunc_impl_Placed_impl_Placed_impl_Point_3, [], ⟨(some 28), none, (.load 3 true (.tmp 27))⟩⟩, ⟨5, mk_slices_BinarySearchFunc_impl_Placed_impl_Placed_impl_Point_1, [], ⟨(some 29), none, (.load 2 true (.tmp 4))⟩⟩] [⟨(some 30), none, (.callvX (.tmp 24) [(.tmp 28), (.tmp 29)])⟩, ⟨(some 31), none, (.bin .lss (.tmp 30) (.const (.int .i64 0)))⟩]) (.cond (.tmp 31) (.ops [
  ⟨(some 32), none, (.mv (.tmp 11))⟩,
  ⟨(some 33), none, (.bin .add (.tmp 32) (.const (.int .i64 1)))⟩,
  ⟨(some 9), none, (.asg (.tmp 33))⟩]) (.ops [
  ⟨(some 34), none, (.mv (.tmp 11))⟩,
  ⟨(some 10), none, (.asg (.tmp 34))⟩])))))))) (.seq (.draw mk_slices_BinarySearchFunc_impl_Placed_impl_Placed_impl_Point_4 mk_slices_BinarySearchFunc_impl_Placed_impl_Placed_impl_Point_5 [⟨0, mk_slices_BinarySearchFunc_impl_Placed_impl_Placed_impl_Point_4, [], ⟨(some 35), none, (.mv (.tmp 9))⟩⟩, ⟨1, mk_slices_BinarySearchFunc_impl_Placed_impl_Placed_impl_Point_4, [], ⟨(some 36), none, (.mv (.tmp 9))⟩⟩, ⟨2, mk_slices_BinarySearchFunc_impl_Placed_impl_Placed_impl_Point_4, [], ⟨(some 37), none, (.mv (.tmp 8))⟩⟩, ⟨3, mk_slices_BinarySearchFunc_impl_Placed_impl_Placed_impl_Point_6, [], ⟨(some 38), none, (.bin .lss (.tmp 36) (.tmp 37))⟩⟩, ⟨4, mk_slices_BinarySearchFunc_impl_Placed_impl_Placed_impl_Point_7, [], ⟨(some 39), none, (.mv (.tmp 38))⟩⟩, ⟨5, mk_slices_BinarySearchFunc_impl_Placed_impl_Placed_impl_Point_8, [], ⟨(some 40), (some (39, true)), (.mv (.tmp 2))⟩⟩, ⟨6, mk_slices_BinarySearchFunc_impl_Placed_impl_Placed_impl_Point_8, [], ⟨(some 41), (some (39, true)), (.mv (.tmp 0))⟩⟩, ⟨7, mk_slices_BinarySearchFunc_impl_Placed_impl_Placed_impl_Point_8, [], ⟨(some 42), (some (39, true)), (.mv (.tmp 9))⟩⟩, ⟨8, mk_slices_BinarySearchFunc_impl_Placed_impl_Placed_impl_Point_9, [], ⟨(some 43), (some (39, true)), (.ia 3 (.tmp 41) (.tmp 42))⟩⟩, ⟨9, mk_slices_BinarySearchFunc_impl_Placed_impl_Placed_impl_Point_10, [], ⟨(some 44), (some (39, true)), (.load 3 true (.tmp 43))⟩⟩, ⟨10, mk_slices_BinarySearchFunc_impl_Placed_impl_Placed_impl_Point_8, [], ⟨(some 45), (some (39, true)), (.load 2 true (.tmp 4))⟩⟩, ⟨11, mk_slices_BinarySearchFunc_impl_Placed_impl_Placed_impl_Point_11, [], ⟨(some 46), (some (39, true)), (.callv (.tmp 40) [(.tmp 44), (.tmp 45)])⟩⟩, ⟨12, mk_slices_BinarySearchFunc_impl_Placed_impl_Placed_impl_Point_12, [], ⟨(some 47), (some (39, true)), (.bin .eql (.tmp 46) (.const (.int .i64 0)))⟩⟩, ⟨13, mk_slices_BinarySearchFunc_impl_Placed_impl_Placed_impl_Point_13, [], ⟨(some 48), none, (.pick (.tmp 39) (.tmp 47) (.const (.bool false)))⟩⟩, ⟨14, mk_slices_BinarySearchFunc_impl_Placed_impl_Placed_impl_Point_14, mk_slices_BinarySearchFunc_impl_Placed_impl_Placed_impl_Point_5, ⟨(some 6), none, (.asg (.tmp 35))⟩⟩] [⟨(some 7), none, (.asg (.tmp 48))⟩]) .ret)))))
theorem law_slices_BinarySearchFunc_impl_Placed_impl_Placed_impl_Point {a0 a1 a2 d : D} (h : code_slices_BinarySearchFunc_impl_Placed_impl_Placed_impl_Point.wp (CT Try.prog NoG) (endQ [(.t 6), (.t 7)] d) [a0, a1, a2, .undef, .undef, .undef, .undef, .undef, .undef, .undef, .undef, .undef, .undef, .undef, .undef, .undef, .undef, .undef, .undef, .undef, .undef, .undef, .undef, .undef, .undef, .undef, .undef, .undef, .undef, .undef, .undef, .undef, .undef, .undef, .undef, .undef, .undef, .undef, .undef, .undef, .undef, .undef, .undef, .undef, .undef, .undef, .undef, .undef, .undef]) : Contract Try.prog NoG 121 [a0, a1, a2] d :=
  contract_of noG Try.func121 (fun us W => by kernel_rfl) (c := Try.f121.body.getD .skip) (ms := [mk_slices_BinarySearchFunc_impl_Placed_impl_Placed_impl_Point_0]) (ms' := []) (by kernel_rfl) (by kernel_rfl) (by kernel_rfl) h
set_option maxHeartbeats 2000000 in
theorem v_BinarySearch_Placed (xs : List Placed) (p : Point) (hn : xs.length ≤ 1048576) : Contract Try.prog NoG 121 [.sl false 3 (xs.map (Placed.td.d false)), .agg (Point.td.d false p), .fn 122 [] []] (.tup [.v (.int .i64 (bsA xs p : Nat)), .v (.bool (atP xs p))]) := by
  rw [Point.td_d]
  refine law_slices_BinarySearchFunc_impl_Placed_impl_Placed_impl_Point ?_
  unfold code_slices_BinarySearchFunc_impl_Placed_impl_Placed_impl_Point
  simp -implicitDefEqProofs (disch := omega) only [go_sem, ↓reduceIte, Nat.reduceAdd, Nat.reduceMul, Nat.reduceLeDiff, reduceCtorEq, Nat.reduceEqDiff, Nat.reduceBEq, Nat.reduceBNe, Option.some.injEq , List.length_map]
  refine loop_ov (by simp -implicitDefEqProofs (disch := omega) only [go_sem, ↓reduceIte, Nat.reduceAdd, Nat.reduceMul, Nat.reduceLeDiff, reduceCtorEq, Nat.reduceEqDiff, Nat.reduceBEq, Nat.reduceBNe, Option.some.injEq]; exact rfl) (fun z : Nat × Nat => [(9, .v (.int .i64 z.1)), (10, .v (.int .i64 z.2))]) (fun _ => by simp only [ovr_nil, ovr_cons, List.set_cons_zero, List.set_cons_succ]; exact rfl) (fun z : Nat × Nat => z.1 ≤ z.2 ∧ z.2 ≤ xs.length ∧ ∃ n, z.2 - z.1 ≤ n ∧ bsF (lessAt (xs.map (·.At)) p) n z.1 z.2 = bsA xs p) (fun z : Nat × Nat => z.2 - z.1) ((0, xs.length)) (by (try simp -implicitDefEqProofs only [nleL_cc, nleL_nn, nle_self, nle_boxs, nle_aggs, nle_nils, and_self, and_true, true_and]) <;> repeat' (first | exact nle_of_eq rfl | exact nle_nil | refine And.intro ?_ ?_ | refine nle_box ?_ | refine nle_agg ?_ | refine nle_sl ?_ | exact nleLL_nil | refine nleLL_cons ?_ ?_ | exact nleL_nil | refine nleL_cons ?_ ?_ | exact nle_rfl _)) (?_) ?_
  · exact ⟨Nat.zero_le _, Nat.le_refl _, (xs.map (·.At)).length, by rw [List.length_map]; omega, by unfold bsA bsP; rw [List.length_map]⟩
  rintro ⟨i, j⟩ ⟨h1, h2, n, h3, h4⟩
  simp only at h1 h2 h3 h4
  simp -implicitDefEqProofs (disch := omega) only [go_sem, ↓reduceIte, Nat.reduceAdd, Nat.reduceMul, Nat.reduceLeDiff, reduceCtorEq, Nat.reduceEqDiff, Nat.reduceBEq, Nat.reduceBNe, Option.some.injEq , List.length_map, Int.toNat_natCast, Int.ofNat_lt, Int.natCast_nonneg, List.getElem?_map, Option.map_some]
  refine cond_split ?_ ?_ <;> intro hlt
  · have hlt : i < j := by simpa using hlt
    have hm : (i + j) / 2 < xs.length := by omega
    have e1 := List.getElem?_eq_getElem hm
    have hs := shr_half (i := i) (j := j) (by omega) (by omega)
    have hl := lessAt_pl (p := p) hm
    obtain ⟨n, rfl⟩ : ∃ m, n = m + 1 := ⟨n - 1, by omega⟩
    rw [bsF, if_pos hlt] at h4
    simp -implicitDefEqProofs (disch := omega) only [go_sem, ↓reduceIte, Nat.reduceAdd, Nat.reduceMul, Nat.reduceLeDiff, reduceCtorEq, Nat.reduceEqDiff, Nat.reduceBEq, Nat.reduceBNe, Option.some.injEq , List.length_map, Int.toNat_natCast, Int.ofNat_lt, Int.natCast_nonneg, List.getElem?_map, Option.map_some, hs, hm, e1, Placed.td_d, Int.reduceLE]
    have hcx := v_comparePlaced xs[(i + j) / 2] p
    rw [Placed.td_d, Point.td_d] at hcx
    refine callv_le (f := 122) (first := []) (caps := []) rfl hcx (leL_of_eq rfl) (.inl rfl) ?_
    simp -implicitDefEqProofs (disch := omega) only [go_sem, ↓reduceIte, Nat.reduceAdd, Nat.reduceMul, Nat.reduceLeDiff, reduceCtorEq, Nat.reduceEqDiff, Nat.reduceBEq, Nat.reduceBNe, Option.some.injEq , cmpP_lt]
    refine cond_split ?_ ?_ <;> intro hc
    · simp -implicitDefEqProofs (disch := omega) only [go_sem, ↓reduceIte, Nat.reduceAdd, Nat.reduceMul, Nat.reduceLeDiff, reduceCtorEq, Nat.reduceEqDiff, Nat.reduceBEq, Nat.reduceBNe, Option.some.injEq , wrN]
      rw [hl, hc, if_pos rfl] at h4
      exact ⟨((i + j) / 2 + 1, j), by simp only; omega, ⟨by simp only; omega, h2, n, by simp only; omega, h4⟩, by (try simp -implicitDefEqProofs only [nleL_cc, nleL_nn, nle_self, nle_boxs, nle_aggs, nle_nils, and_self, and_true, true_and]) <;> repeat' (first | exact nle_of_eq rfl | exact nle_nil | refine And.intro ?_ ?_ | refine nle_box ?_ | refine nle_agg ?_ | refine nle_sl ?_ | exact nleLL_nil | refine nleLL_cons ?_ ?_ | exact nleL_nil | refine nleL_cons ?_ ?_ | exact nle_rfl _)⟩
    · simp -implicitDefEqProofs (disch := omega) only [go_sem, ↓reduceIte, Nat.reduceAdd, Nat.reduceMul, Nat.reduceLeDiff, reduceCtorEq, Nat.reduceEqDiff, Nat.reduceBEq, Nat.reduceBNe, Option.some.injEq]
      rw [hl, hc, if_neg (by decide)] at h4
      exact ⟨(i, (i + j) / 2), by simp only; omega, ⟨by simp only; omega, by simp only; omega, n, by simp only; omega, h4⟩, by (try simp -implicitDefEqProofs only [nleL_cc, nleL_nn, nle_self, nle_boxs, nle_aggs, nle_nils, and_self, and_true, true_and]) <;> repeat' (first | exact nle_of_eq rfl | exact nle_nil | refine And.intro ?_ ?_ | refine nle_box ?_ | refine nle_agg ?_ | refine nle_sl ?_ | exact nleLL_nil | refine nleLL_cons ?_ ?_ | exact nleL_nil | refine nleL_cons ?_ ?_ | exact nle_rfl _)⟩
  · have hge : ¬ i < j := by simpa using hlt
    have hb : bsA xs p = i := by rw [← h4, bsF_end hge]
    simp -implicitDefEqProofs (disch := omega) only [go_sem, ↓reduceIte, Nat.reduceAdd, Nat.reduceMul, Nat.reduceLeDiff, reduceCtorEq, Nat.reduceEqDiff, Nat.reduceBEq, Nat.reduceBNe, Option.some.injEq , List.length_map, Int.toNat_natCast, Int.ofNat_lt, Int.natCast_nonneg, List.getElem?_map, Option.map_some]
    refine gd_split ?_ ?_ <;> intro hi
    · have hi : i < xs.length := by simpa using hi
      have e1 := List.getElem?_eq_getElem hi
      have hh : atP xs p = decide (xs[i].At = p) := by unfold atP; rw [hb, e1]
      simp -implicitDefEqProofs (disch := omega) only [go_sem, ↓reduceIte, Nat.reduceAdd, Nat.reduceMul, Nat.reduceLeDiff, reduceCtorEq, Nat.reduceEqDiff, Nat.reduceBEq, Nat.reduceBNe, Option.some.injEq , List.length_map, Int.toNat_natCast, Int.ofNat_lt, Int.natCast_nonneg, List.getElem?_map, Option.map_some, hi, e1, Placed.td_d]
      have hcx := v_comparePlaced xs[i] p
      rw [Placed.td_d, Point.td_d] at hcx
      refine callv_leN (f := 122) (first := []) (caps := []) rfl hcx (leL_of_eq rfl) (.inl rfl) ?_
      simp -implicitDefEqProofs (disch := omega) only [go_sem, ↓reduceIte, Nat.reduceAdd, Nat.reduceMul, Nat.reduceLeDiff, reduceCtorEq, Nat.reduceEqDiff, Nat.reduceBEq, Nat.reduceBNe, Option.some.injEq , cmpP_eq, hi, hb, hh]
    · have hi : ¬ i < xs.length := by simpa using hi
      have hh : atP xs p = false := by unfold atP; rw [hb, List.getElem?_eq_none (Nat.le_of_not_lt hi)]
      simp -implicitDefEqProofs (disch := omega) only [go_sem, ↓reduceIte, Nat.reduceAdd, Nat.reduceMul, Nat.reduceLeDiff, reduceCtorEq, Nat.reduceEqDiff, Nat.reduceBEq, Nat.reduceBNe, Option.some.injEq , hi, hb, hh]
theorem atP_lt {ps : List Placed} {p : Point} (h : atP ps p = true) : ∃ hb : bsA ps p < ps.length, ps[bsA ps p].At = p := by
  unfold atP at h
  split at h
  · rename_i x hx
    obtain ⟨h1, h2⟩ := List.getElem?_eq_some_iff.1 hx
    exact ⟨h1, by rw [h2]; exact of_decide_eq_true h⟩
  · cases h
/-- (impl.Assembly).at -/
def code_impl_Assembly_at : VCode := (.seq (.ops [
  ⟨(some 2), none, (.box (.tmp 0))⟩,
  ⟨(some 3), none, (.box (.tmp 1))⟩,
  ⟨(some 4), none, (.asg (.const (.int .i64 0)))⟩]) (.seq (.seq (.ops [
  ⟨(some 8), none, (.fa 0 (.tmp 2))⟩,
  ⟨(some 9), none, (.load 1 false (.tmp 8))⟩,
  ⟨(some 10), none, (.load 2 true (.tmp 3))⟩,
  ⟨(some 11), none, (.callX 121 [(.tmp 9), (.tmp 10), (.func 122)])⟩,
  ⟨(some 7), none, (.mv (.tmp 11))⟩,
  ⟨(some 12), none, (.ext (.tmp 7) 0)⟩,
  ⟨(some 13), none, (.ext (.tmp 7) 1)⟩,
  ⟨(some 5), none, (.asg (.tmp 12))⟩,
  ⟨(some 6), none, (.asg (.tmp 13))⟩]) (.seq (.ops [
  ⟨(some 14), none, (.mv (.tmp 6))⟩]) (.cond (.tmp 14) (.seq (.ops [
  ⟨(some 15), none, (.fa 0 (.tmp 2))⟩,
  ⟨(some 16), none, (.load 1 false (.tmp 15))⟩,
  ⟨(some 17), none, (.mv (.tmp 5))⟩,
  ⟨(some 18), none, (.ia 3 (.tmp 16) (.tmp 17))⟩,
  ⟨(some 19), none, (.fa 2 (.tmp 18))⟩,
  ⟨(some 20), none, (.load 1 false (.tmp 19))⟩,
  ⟨(some 4), none, (.asg (.tmp 20))⟩]) .ret) .skip))) (.seq (.ops [
  ⟨(some 4), none, (.asg (.const (.int .i64 (-1))))⟩]) .ret)))
theorem law_impl_Assembly_at {a0 a1 d : D} (h : code_impl_Assembly_at.wp (CT Try.prog NoG) (endQ [(.t 4)] d) [a0, a1, .undef, .undef, .undef, .undef, .undef, .undef, .undef, .undef, .undef, .undef, .undef, .undef, .undef, .undef, .undef, .undef, .undef, .undef, .undef]) : Contract Try.prog NoG 74 [a0, a1] d :=
  contract_of noG Try.func74 (fun us W => by kernel_rfl) (c := Try.f74.body.getD .skip) (ms := []) (ms' := []) (by kernel_rfl) (by kernel_rfl) (by kernel_rfl) h
theorem v_at (b : Assembly) (p : Point) (hn : b.Tiles.length ≤ 1048576) : Contract Try.prog NoG 74 [.agg (Assembly.td.d false b), .agg (Point.td.d false p)] (.v (.int .i64 (tileA b.Tiles p))) := by
  rw [Assembly.td_d, Point.td_d]
  refine law_impl_Assembly_at ?_
  unfold code_impl_Assembly_at
  simp -implicitDefEqProofs (disch := omega) only [go_sem, ↓reduceIte, Nat.reduceAdd, Nat.reduceMul, Nat.reduceLeDiff, reduceCtorEq, Nat.reduceEqDiff, Nat.reduceBEq, Nat.reduceBNe, Option.some.injEq]
  cases h : atP b.Tiles p with
  | false =>
    refine call_leA (v_BinarySearch_Placed b.Tiles p hn) (by simp -implicitDefEqProofs (disch := omega) only [go_sem, ↓reduceIte, Nat.reduceAdd, Nat.reduceMul, Nat.reduceLeDiff, reduceCtorEq, Nat.reduceEqDiff, Nat.reduceBEq, Nat.reduceBNe, Option.some.injEq, deep, TD.rows, immLL_rI, immLL_rB8, immLL_rS, immLL_rBo, immLL_rII, lkF_tup, h, tileA]; exact rfl) (by repeat (first | exact leL_nil | refine leL_cons ?_ ?_ | exact le_of_eq rfl | exact le_slf rfl (by first | rfl | exact TD.rows _ _ _) | refine le_agg ?_ | (refine le_iptrN ?_; simp only [List.drop_succ_cons, List.drop_zero, List.take_succ_cons, List.take_zero, List.take_nil, List.length_cons, List.length_nil, Nat.zero_add, Nat.reduceAdd]) | refine le_iptr ?_ | refine le_fn ?_ ?_)) (by first | exact .inl rfl | exact .inl (by simp only [D.noImm, noImmL, Bool.and_true, Bool.true_and, TD.nims, TD.nim, nim_rI, nim_rB8, nim_rBo, nim_rS])) ?_
    simp -implicitDefEqProofs (disch := omega) only [go_sem, ↓reduceIte, Nat.reduceAdd, Nat.reduceMul, Nat.reduceLeDiff, reduceCtorEq, Nat.reduceEqDiff, Nat.reduceBEq, Nat.reduceBNe, Option.some.injEq , lkF_tup, h, tileA]
  | true =>
    obtain ⟨hb, _⟩ := atP_lt h
    have e1 := List.getElem?_eq_getElem hb
    refine call_leA (v_BinarySearch_Placed b.Tiles p hn) (by simp -implicitDefEqProofs (disch := omega) only [go_sem, ↓reduceIte, Nat.reduceAdd, Nat.reduceMul, Nat.reduceLeDiff, reduceCtorEq, Nat.reduceEqDiff, Nat.reduceBEq, Nat.reduceBNe, Option.some.injEq, deep, TD.rows, immLL_rI, immLL_rB8, immLL_rS, immLL_rBo, immLL_rII, lkF_tup, h, tileA, List.length_map, Int.toNat_natCast, Int.ofNat_lt, Int.natCast_nonneg, List.getElem?_map, Option.map_some, hb, e1, Placed.td_d]; exact rfl) (by repeat (first | exact leL_nil | refine leL_cons ?_ ?_ | exact le_of_eq rfl | exact le_slf rfl (by first | rfl | exact TD.rows _ _ _) | refine le_agg ?_ | (refine le_iptrN ?_; simp only [List.drop_succ_cons, List.drop_zero, List.take_succ_cons, List.take_zero, List.take_nil, List.length_cons, List.length_nil, Nat.zero_add, Nat.reduceAdd]) | refine le_iptr ?_ | refine le_fn ?_ ?_)) (by first | exact .inl rfl | exact .inl (by simp only [D.noImm, noImmL, Bool.and_true, Bool.true_and, TD.nims, TD.nim, nim_rI, nim_rB8, nim_rBo, nim_rS])) ?_
    simp -implicitDefEqProofs (disch := omega) only [go_sem, ↓reduceIte, Nat.reduceAdd, Nat.reduceMul, Nat.reduceLeDiff, reduceCtorEq, Nat.reduceEqDiff, Nat.reduceBEq, Nat.reduceBNe, Option.some.injEq , lkF_tup, h, tileA, List.length_map, Int.toNat_natCast, Int.ofNat_lt, Int.natCast_nonneg, List.getElem?_map, Option.map_some, hb, e1, Placed.td_d]
/-- (impl.Assembly).placeAt -/
def code_impl_Assembly_placeAt : VCode := (.seq (.ops [
  ⟨(some 2), none, (.box (.tmp 0))⟩,
  ⟨(some 3), none, (.box (.tmp 1))⟩,
  ⟨(some 4), none, (.asg (.const (.int .i64 0)))⟩]) (.seq (.seq (.ops [
  ⟨(some 8), none, (.fa 0 (.tmp 2))⟩,
  ⟨(some 9), none, (.load 1 false (.tmp 8))⟩,
  ⟨(some 10), none, (.load 2 true (.tmp 3))⟩,
  ⟨(some 11), none, (.callX 121 [(.tmp 9), (.tmp 10), (.func 122)])⟩,
  ⟨(some 7), none, (.mv (.tmp 11))⟩,
  ⟨(some 12), none, (.ext (.tmp 7) 0)⟩,
  ⟨(some 13), none, (.ext (.tmp 7) 1)⟩,
  ⟨(some 5), none, (.asg (.tmp 12))⟩,
  ⟨(some 6), none, (.asg (.tmp 13))⟩]) (.seq (.ops [
  ⟨(some 14), none, (.mv (.tmp 6))⟩]) (.cond (.tmp 14) (.seq (.ops [
  ⟨(some 15), none, (.mv (.tmp 5))⟩,
  ⟨(some 4), none, (.asg (.tmp 15))⟩]) .ret) .skip))) (.seq (.ops [
  ⟨(some 4), none, (.asg (.const (.int .i64 (-1))))⟩]) .ret)))
theorem law_impl_Assembly_placeAt {a0 a1 d : D} (h : code_impl_Assembly_placeAt.wp (CT Try.prog NoG) (endQ [(.t 4)] d) [a0, a1, .undef, .undef, .undef, .undef, .undef, .undef, .undef, .undef, .undef, .undef, .undef, .undef, .undef, .undef]) : Contract Try.prog NoG 153 [a0, a1] d :=
  contract_of noG Try.func153 (fun us W => by kernel_rfl) (c := Try.f153.body.getD .skip) (ms := []) (ms' := []) (by kernel_rfl) (by kernel_rfl) (by kernel_rfl) h
theorem v_placeAt (b : Assembly) (p : Point) (hn : b.Tiles.length ≤ 1048576) : Contract Try.prog NoG 153 [.agg (Assembly.td.d false b), .agg (Point.td.d false p)] (.v (.int .i64 (idxA b.Tiles p))) := by
  rw [Assembly.td_d, Point.td_d]
  refine law_impl_Assembly_placeAt ?_
  unfold code_impl_Assembly_placeAt
  simp -implicitDefEqProofs (disch := omega) only [go_sem, ↓reduceIte, Nat.reduceAdd, Nat.reduceMul, Nat.reduceLeDiff, reduceCtorEq, Nat.reduceEqDiff, Nat.reduceBEq, Nat.reduceBNe, Option.some.injEq]
  cases h : atP b.Tiles p with
  | false =>
    refine call_leA (v_BinarySearch_Placed b.Tiles p hn) (by simp -implicitDefEqProofs (disch := omega) only [go_sem, ↓reduceIte, Nat.reduceAdd, Nat.reduceMul, Nat.reduceLeDiff, reduceCtorEq, Nat.reduceEqDiff, Nat.reduceBEq, Nat.reduceBNe, Option.some.injEq, deep, TD.rows, immLL_rI, immLL_rB8, immLL_rS, immLL_rBo, immLL_rII, lkF_tup, h, idxA]; exact rfl) (by repeat (first | exact leL_nil | refine leL_cons ?_ ?_ | exact le_of_eq rfl | exact le_slf rfl (by first | rfl | exact TD.rows _ _ _) | refine le_agg ?_ | (refine le_iptrN ?_; simp only [List.drop_succ_cons, List.drop_zero, List.take_succ_cons, List.take_zero, List.take_nil, List.length_cons, List.length_nil, Nat.zero_add, Nat.reduceAdd]) | refine le_iptr ?_ | refine le_fn ?_ ?_)) (by first | exact .inl rfl | exact .inl (by simp only [D.noImm, noImmL, Bool.and_true, Bool.true_and, TD.nims, TD.nim, nim_rI, nim_rB8, nim_rBo, nim_rS])) ?_
    simp -implicitDefEqProofs (disch := omega) only [go_sem, ↓reduceIte, Nat.reduceAdd, Nat.reduceMul, Nat.reduceLeDiff, reduceCtorEq, Nat.reduceEqDiff, Nat.reduceBEq, Nat.reduceBNe, Option.some.injEq , lkF_tup, h, idxA]
  | true =>
    refine call_leA (v_BinarySearch_Placed b.Tiles p hn) (by simp -implicitDefEqProofs (disch := omega) only [go_sem, ↓reduceIte, Nat.reduceAdd, Nat.reduceMul, Nat.reduceLeDiff, reduceCtorEq, Nat.reduceEqDiff, Nat.reduceBEq, Nat.reduceBNe, Option.some.injEq, deep, TD.rows, immLL_rI, immLL_rB8, immLL_rS, immLL_rBo, immLL_rII, lkF_tup, h, idxA]; exact rfl) (by repeat (first | exact leL_nil | refine leL_cons ?_ ?_ | exact le_of_eq rfl | exact le_slf rfl (by first | rfl | exact TD.rows _ _ _) | refine le_agg ?_ | (refine le_iptrN ?_; simp only [List.drop_succ_cons, List.drop_zero, List.take_succ_cons, List.take_zero, List.take_nil, List.length_cons, List.length_nil, Nat.zero_add, Nat.reduceAdd]) | refine le_iptr ?_ | refine le_fn ?_ ?_)) (by first | exact .inl rfl | exact .inl (by simp only [D.noImm, noImmL, Bool.and_true, Bool.true_and, TD.nims, TD.nim, nim_rI, nim_rB8, nim_rBo, nim_rS])) ?_
    simp -implicitDefEqProofs (disch := omega) only [go_sem, ↓reduceIte, Nat.reduceAdd, Nat.reduceMul, Nat.reduceLeDiff, reduceCtorEq, Nat.reduceEqDiff, Nat.reduceBEq, Nat.reduceBNe, Option.some.injEq , lkF_tup, h, idxA]
abbrev mk_spec_l03Index_0 : List Bool := [false, true, true, false, true, false, false, true, true, true, true, true, true, true, true, true, true, true, true, true, true, true, true, true, true, true, true, true, true, true, true, true, true, true, true, true, true, true, true, true, true, true, true, true, true, true, true, true, true, true, true, true, true]
abbrev mk_spec_l03Index_1 : List Bool := [false, false, false, false, false, false, false, false, false, false, false, false, false, false, false, false, false, false, false, false, true, true, true, true, true, true, true, true, true]
abbrev mk_spec_l03Index_2 : List Bool := [false, false, false, false, false, false, false, false, false, false, false, false, false, false, false, false, false, false, false, false, false, true, true, true, true, true, true, true, true]
abbrev mk_spec_l03Index_3 : List Bool := [false, false, false, false, false, false, false, false, false, false, false, false, false, false, false, false, false, false, false, false, false, false, true, true, true, true, true, true, true]
abbrev mk_spec_l03Index_4 : List Bool := [false, false, false, false, false, false, false, false, false, false, false, false, false, false, false, false, false, false, false, false, false, false, false, true, true, true, true, true, true]
abbrev mk_spec_l03Index_5 : List Bool := [false, false, false, false, false, false, false, false, false, false, false, false, false, false, false, false, false, false, false, false, false, false, false, false, false, true, true, true, true]
abbrev mk_spec_l03Index_6 : List Bool := [false, false, false, false, false, false, false, false, false, false, false, false, false, false, false, false, false, false, false, false, false, false, false, false, false, false, true, true, true]
abbrev mk_spec_l03Index_7 : List Bool := [false, false, false, false, false, false, false, false, false, false, false, false, false, false, false, false, false, false, false, false, false, false, false, false, false, false, false, true, true]
abbrev mk_spec_l03Index_8 : List Bool := [false, false, false, false, false, false, false, false, false, false, false, false, false, false, false, false, false, false, false, false, false, false, false, false, false, false, false, false, false, false, false, false, false, true, true, true, true, true, true, true, true, true, true, true, true, true, true, true, true, true]
abbrev mk_spec_l03Index_9 : List Bool := [false, false, false, false, false, false, false, false, false, false, false, false, false, false, false, false, false, false, false, false, false, false, false, false, false, false, false, false, false, false, false, false, false, true, false, true, true, true, true, true, true, true, true, true, true, true, true, true, true, true]
abbrev mk_spec_l03Index_10 : List Bool := [false, false, false, false, false, false, false, false, false, false, false, false, false, false, false, false, false, false, false, false, false, false, false, false, false, false, false, false, false, false, false, false, false, true, false, false, true, true, true, true, true, true, true, true, true, true, true, true, true, true]
abbrev mk_spec_l03Index_11 : List Bool := [false, false, false, false, false, false, false, false, false, false, false, false, false, false, false, false, false, false, false, false, false, false, false, false, false, false, false, false, false, false, false, false, false, true, false, false, false, true, true, true, true, true, true, true, true, true, true, true, true, true]
abbrev mk_spec_l03Index_12 : List Bool := [false, false, false, false, false, false, false, false, false, false, false, false, false, false, false, false, false, false, false, false, false, false, false, false, false, false, false, false, false, false, false, false, false, true, false, false, false, false, true, true, true, true, true, true, true, true, true, true, true, true]
abbrev mk_spec_l03Index_13 : List Bool := [false, false, false, false, false, false, false, false, false, false, false, false, false, false, false, false, false, false, false, false, false, false, false, false, false, false, false, false, false, false, false, false, false, false, false, false, false, false, false, true, true, true, true, true, true, true, true, true, true, true]
abbrev mk_spec_l03Index_14 : List Bool := [false, false, false, false, false, false, false, false, false, false, false, false, false, false, false, false, false, false, false, false, false, false, false, false, false, false, false, false, false, false, false, false, false, false, false, false, false, false, false, false, true, true, true, true, true, true, true, true, true, true]
abbrev mk_spec_l03Index_15 : List Bool := [false, false, false, false, false, false, false, false, false, false, false, false, false, false, false, false, false, false, false, false, false, false, false, false, false, false, false, false, false, false, false, false, false, false, false, false, false, false, false, false, false, true, true, true, true, true, true, true, true, true]
abbrev mk_spec_l03Index_16 : List Bool := [false, false, false, false, false, false, false, false, false, false, false, false, false, false, false, false, false, false, false, false, false, false, false, false, false, false, false, false, false, false, false, false, false, false, false, false, false, false, false, false, false, false, true, true, true, true, true, true, true, true]
abbrev mk_spec_l03Index_17 : List Bool := [false, false, false, false, false, false, false, false, false, false, false, false, false, false, false, false, false, false, false, false, false, false, false, false, false, false, false, false, false, false, false, false, false, false, false, false, false, false, false, false, false, false, false, true, true, true, true, true, true, true]
abbrev mk_spec_l03Index_18 : List Bool := [false, false, false, false, false, false, false, false, false, false, false, false, false, false, false, false, false, false, false, false, false, false, false, false, false, false, false, false, false, false, false, false, false, false, false, false, false, false, false, false, false, false, false, false, true, true, true, true, true, true]
abbrev mk_spec_l03Index_19 : List Bool := [false, false, false, false, false, false, false, false, false, false, false, false, false, false, false, false, false, false, false, false, false, false, false, false, false, false, false, false, false, false, false, false, false, false, false, false, false, false, false, false, false, false, false, false, false, false, true, true, true, true]
abbrev mk_spec_l03Index_20 : List Bool := [false, false, false, false, false, false, false, false, false, false, false, false, false, false, false, false, false, false, false, false, false, false, false, false, false, false, false, false, false, false, false, false, false, false, false, false, false, false, false, false, false, false, false, false, false, false, false, true, true, true]
abbrev mk_spec_l03Index_21 : List Bool := [false, false, false, false, false, false, false, false, false, false, false, false, false, false, false, false, false, false, false, false, false, false, false, false, false, false, false, false, false, false, false, false, false, false, false, false, false, false, false, false, false, false, false, false, false, false, false, false, true, true]
/-- spec.l03Index -/
def code_spec_l03Index : VCode := (.seq (.ops [
  ⟨(some 3), none, (.box (.tmp 1))⟩,
  ⟨(some 4), none, (.asg (.const (.int .i64 0)))⟩]) (.seq (.ops [
  ⟨(some 5), none, (.asg (.const (.int .i64 0)))⟩]) (.seq (.ops [
  ⟨(some 8), none, (.mv (.tmp 0))⟩,
  ⟨(some 9), none, (.nilc (.tmp 8))⟩,
  ⟨(some 10), none, (.fa 0 (.tmp 9))⟩,
  ⟨(some 11), none, (.load 1 false (.tmp 10))⟩,
  ⟨(some 12), none, (.len (.tmp 11))⟩,
  ⟨(some 6), none, (.asg (.tmp 12))⟩]) (.seq (.block 0 (.loop mk_spec_l03Index_0 (.seq (.seq (.ops [
  ⟨(some 13), none, (.mv (.tmp 5))⟩,
  ⟨(some 14), none, (.mv (.tmp 6))⟩,
  ⟨(some 15), none, (.bin .lss (.tmp 13) (.tmp 14))⟩]) (.cond (.tmp 15) .skip (.exit 0))) (.block 1 (.seq (.ops [
  ⟨(some 16), none, (.mv (.tmp 5))⟩,
  ⟨(some 17), none, (.mv (.tmp 6))⟩,
  ⟨(some 18), none, (.bin .add (.tmp 16) (.tmp 17))⟩,
  ⟨(some 19), none, (.bin .quo (.tmp 18) (.const (.int .i64 2)))⟩,
  ⟨(some 7), none, (.asg (.tmp 19))⟩]) (.seq (.draw mk_spec_l03Index_1 [] [⟨0, mk_spec_l03Index_1, [], ⟨(some 20), none, (.mv (.tmp 0))⟩⟩, ⟨1, mk_spec_l03Index_2, [], ⟨(some 21), none, (.nilc (.tmp 20))⟩⟩, ⟨2, mk_spec_l03Index_3, [], ⟨(some 22), none, (.fa 0 (.tmp 21))⟩⟩, ⟨3, mk_spec_l03Index_4, [], ⟨(some 23), none, (.load 1 false (.tmp 22))⟩⟩, ⟨4, mk_spec_l03Index_1, [], ⟨(some 24), none, (.mv (.tmp 7))⟩⟩, ⟨5, mk_spec_l03Index_5, [], ⟨(some 25), none, (.ia 3 (.tmp 23) (.tmp 24))⟩⟩, ⟨6, mk_spec_l03Index_6, [], ⟨(some 26), none, (.fa 0 (.tmp 25))⟩⟩, ⟨7, mk_spec_l03Index_7, [], ⟨(some 27), none, (.load 2 true (.tmp 26))⟩⟩, ⟨8, mk_spec_l03Index_1, [], ⟨(some 28), none, (.load 2 true (.tmp 3))⟩⟩] [⟨(some 29), none, (.callX 111 [(.tmp 27), (.tmp 28)])⟩]) (.cond (.tmp 29) (.ops [
  ⟨(some 30), none, (.mv (.tmp 7))⟩,
  ⟨(some 31), none, (.bin .add (.tmp 30) (.const (.int .i64 1)))⟩,
  ⟨(some 5), none, (.asg (.tmp 31))⟩]) (.ops [
  ⟨(some 32), none, (.mv (.tmp 7))⟩,
  ⟨(some 6), none, (.asg (.tmp 32))⟩])))))))) (.seq (.seq (.draw mk_spec_l03Index_8 [] [⟨0, mk_spec_l03Index_8, [], ⟨(some 33), none, (.mv (.tmp 5))⟩⟩, ⟨1, mk_spec_l03Index_8, [], ⟨(some 34), none, (.mv (.tmp 0))⟩⟩, ⟨2, mk_spec_l03Index_9, [], ⟨(some 35), none, (.nilc (.tmp 34))⟩⟩, ⟨3, mk_spec_l03Index_10, [], ⟨(some 36), none, (.fa 0 (.tmp 35))⟩⟩, ⟨4, mk_spec_l03Index_11, [], ⟨(some 37), none, (.load 1 false (.tmp 36))⟩⟩, ⟨5, mk_spec_l03Index_12, [], ⟨(some 38), none, (.len (.tmp 37))⟩⟩, ⟨6, mk_spec_l03Index_13, [], ⟨(some 39), none, (.bin .lss (.tmp 33) (.tmp 38))⟩⟩, ⟨7, mk_spec_l03Index_14, [], ⟨(some 40), none, (.mv (.tmp 39))⟩⟩, ⟨8, mk_spec_l03Index_15, [], ⟨(some 41), (some (40, true)), (.mv (.tmp 0))⟩⟩, ⟨9, mk_spec_l03Index_16, [], ⟨(some 42), (some (40, true)), (.nilc (.tmp 41))⟩⟩, ⟨10, mk_spec_l03Index_17, [], ⟨(some 43), (some (40, true)), (.fa 0 (.tmp 42))⟩⟩, ⟨11, mk_spec_l03Index_18, [], ⟨(some 44), (some (40, true)), (.load 1 false (.tmp 43))⟩⟩, ⟨12, mk_spec_l03Index_15, [], ⟨(some 45), (some (40, true)), (.mv (.tmp 5))⟩⟩, ⟨13, mk_spec_l03Index_19, [], ⟨(some 46), (some (40, true)), (.ia 3 (.tmp 44) (.tmp 45))⟩⟩, ⟨14, mk_spec_l03Index_20, [], ⟨(some 47), (some (40, true)), (.fa 0 (.tmp 46))⟩⟩, ⟨15, mk_spec_l03Index_21, [], ⟨(some 48), (some (40, true)), (.load 2 true (.tmp 47))⟩⟩, ⟨16, mk_spec_l03Index_15, [], ⟨(some 49), (some (40, true)), (.load 2 true (.tmp 3))⟩⟩] [⟨(some 50), (some (40, true)), (.eqs false [1, 1] (.tmp 48) (.tmp 49))⟩, ⟨(some 51), none, (.pick (.tmp 40) (.tmp 50) (.const (.bool false)))⟩]) (.cond (.tmp 51) (.seq (.ops [
  ⟨(some 52), none, (.mv (.tmp 5))⟩,
  ⟨(some 4), none, (.asg (.tmp 52))⟩]) .ret) .skip)) (.seq (.ops [
  ⟨(some 4), none, (.asg (.const (.int .i64 (-1))))⟩]) .ret))))))
theorem law_spec_l03Index {a0 a1 d : D} (h : code_spec_l03Index.wp (CT Try.prog NoG) (endQ [(.t 4)] d) [a0, a1, .undef, .undef, .undef, .undef, .undef, .undef, .undef, .undef, .undef, .undef, .undef, .undef, .undef, .undef, .undef, .undef, .undef, .undef, .undef, .undef, .undef, .undef, .undef, .undef, .undef, .undef, .undef, .undef, .undef, .undef, .undef, .undef, .undef, .undef, .undef, .undef, .undef, .undef, .undef, .undef, .undef, .undef, .undef, .undef, .undef, .undef, .undef, .undef, .undef, .undef, .undef]) : Contract Try.prog NoG 144 [a0, a1] d :=
  contract_of noG Try.func144 (fun us W => by kernel_rfl) (c := Try.f144.body.getD .skip) (ms := [mk_spec_l03Index_0]) (ms' := []) (by kernel_rfl) (by kernel_rfl) (by kernel_rfl) h
set_option maxHeartbeats 2000000 in
theorem v_l03Index (b : Assembly) (p : Point) (hn : b.Tiles.length ≤ 1048576) : Contract Try.prog NoG 144 [.iptr (Assembly.td.d false b) 0, .agg (Point.td.d false p)] (.v (.int .i64 (idxA b.Tiles p))) := by
  rw [Assembly.td_d, Point.td_d]
  refine law_spec_l03Index ?_
  unfold code_spec_l03Index
  simp -implicitDefEqProofs (disch := omega) only [go_sem, ↓reduceIte, Nat.reduceAdd, Nat.reduceMul, Nat.reduceLeDiff, reduceCtorEq, Nat.reduceEqDiff, Nat.reduceBEq, Nat.reduceBNe, Option.some.injEq , List.length_map]
  refine loop_ov (by simp -implicitDefEqProofs (disch := omega) only [go_sem, ↓reduceIte, Nat.reduceAdd, Nat.reduceMul, Nat.reduceLeDiff, reduceCtorEq, Nat.reduceEqDiff, Nat.reduceBEq, Nat.reduceBNe, Option.some.injEq]; exact rfl) (fun z : Nat × Nat => [(5, .v (.int .i64 z.1)), (6, .v (.int .i64 z.2))]) (fun _ => by simp only [ovr_nil, ovr_cons, List.set_cons_zero, List.set_cons_succ]; exact rfl) (fun z : Nat × Nat => z.1 ≤ z.2 ∧ z.2 ≤ b.Tiles.length ∧ ∃ n, z.2 - z.1 ≤ n ∧ bsF (lessAt (b.Tiles.map (·.At)) p) n z.1 z.2 = bsA b.Tiles p) (fun z : Nat × Nat => z.2 - z.1) ((0, b.Tiles.length)) (by (try simp -implicitDefEqProofs only [nleL_cc, nleL_nn, nle_self, nle_boxs, nle_aggs, nle_nils, and_self, and_true, true_and]) <;> repeat' (first | exact nle_of_eq rfl | exact nle_nil | refine And.intro ?_ ?_ | refine nle_box ?_ | refine nle_agg ?_ | refine nle_sl ?_ | exact nleLL_nil | refine nleLL_cons ?_ ?_ | exact nleL_nil | refine nleL_cons ?_ ?_ | exact nle_rfl _)) (?_) ?_
  · exact ⟨Nat.zero_le _, Nat.le_refl _, (b.Tiles.map (·.At)).length, by rw [List.length_map]; omega, by unfold bsA bsP; rw [List.length_map]⟩
  rintro ⟨i, j⟩ ⟨h1, h2, n, h3, h4⟩
  simp only at h1 h2 h3 h4
  simp -implicitDefEqProofs (disch := omega) only [go_sem, ↓reduceIte, Nat.reduceAdd, Nat.reduceMul, Nat.reduceLeDiff, reduceCtorEq, Nat.reduceEqDiff, Nat.reduceBEq, Nat.reduceBNe, Option.some.injEq , List.length_map, Int.toNat_natCast, Int.ofNat_lt, Int.natCast_nonneg, List.getElem?_map, Option.map_some]
  refine cond_split ?_ ?_ <;> intro hlt
  · have hlt : i < j := by simpa using hlt
    have hm : (i + j) / 2 < b.Tiles.length := by omega
    have e1 := List.getElem?_eq_getElem hm
    have hs := quo_half (i := i) (j := j) (by omega) (by omega)
    have hl := lessAt_pl (p := p) hm
    obtain ⟨n, rfl⟩ : ∃ m, n = m + 1 := ⟨n - 1, by omega⟩
    rw [bsF, if_pos hlt] at h4
    simp -implicitDefEqProofs (disch := omega) only [go_sem, ↓reduceIte, Nat.reduceAdd, Nat.reduceMul, Nat.reduceLeDiff, reduceCtorEq, Nat.reduceEqDiff, Nat.reduceBEq, Nat.reduceBNe, Option.some.injEq , List.length_map, Int.toNat_natCast, Int.ofNat_lt, Int.natCast_nonneg, List.getElem?_map, Option.map_some, hs, hm, e1, Placed.td_d, Int.reduceEq]
    refine call_leA (v_LessPoint_spec b.Tiles[(i + j) / 2].At p) (by simp -implicitDefEqProofs (disch := omega) only [go_sem, ↓reduceIte, Nat.reduceAdd, Nat.reduceMul, Nat.reduceLeDiff, reduceCtorEq, Nat.reduceEqDiff, Nat.reduceBEq, Nat.reduceBNe, Option.some.injEq, deep, TD.rows, immLL_rI, immLL_rB8, immLL_rS, immLL_rBo, immLL_rII]; exact rfl) (by repeat (first | exact leL_nil | refine leL_cons ?_ ?_ | exact le_of_eq rfl | exact le_slf rfl (by first | rfl | exact TD.rows _ _ _) | refine le_agg ?_ | (refine le_iptrN ?_; simp only [List.drop_succ_cons, List.drop_zero, List.take_succ_cons, List.take_zero, List.take_nil, List.length_cons, List.length_nil, Nat.zero_add, Nat.reduceAdd]) | refine le_iptr ?_ | refine le_fn ?_ ?_)) (by first | exact .inl rfl | exact .inl (by simp only [D.noImm, noImmL, Bool.and_true, Bool.true_and, TD.nims, TD.nim, nim_rI, nim_rB8, nim_rBo, nim_rS])) ?_
    simp -implicitDefEqProofs (disch := omega) only [go_sem, ↓reduceIte, Nat.reduceAdd, Nat.reduceMul, Nat.reduceLeDiff, reduceCtorEq, Nat.reduceEqDiff, Nat.reduceBEq, Nat.reduceBNe, Option.some.injEq]
    refine cond_split ?_ ?_ <;> intro hc
    · simp -implicitDefEqProofs (disch := omega) only [go_sem, ↓reduceIte, Nat.reduceAdd, Nat.reduceMul, Nat.reduceLeDiff, reduceCtorEq, Nat.reduceEqDiff, Nat.reduceBEq, Nat.reduceBNe, Option.some.injEq , wrN]
      rw [hl, hc, if_pos rfl] at h4
      exact ⟨((i + j) / 2 + 1, j), by simp only; omega, ⟨by simp only; omega, h2, n, by simp only; omega, h4⟩, by (try simp -implicitDefEqProofs only [nleL_cc, nleL_nn, nle_self, nle_boxs, nle_aggs, nle_nils, and_self, and_true, true_and]) <;> repeat' (first | exact nle_of_eq rfl | exact nle_nil | refine And.intro ?_ ?_ | refine nle_box ?_ | refine nle_agg ?_ | refine nle_sl ?_ | exact nleLL_nil | refine nleLL_cons ?_ ?_ | exact nleL_nil | refine nleL_cons ?_ ?_ | exact nle_rfl _)⟩
    · simp -implicitDefEqProofs (disch := omega) only [go_sem, ↓reduceIte, Nat.reduceAdd, Nat.reduceMul, Nat.reduceLeDiff, reduceCtorEq, Nat.reduceEqDiff, Nat.reduceBEq, Nat.reduceBNe, Option.some.injEq]
      rw [hl, hc, if_neg (by decide)] at h4
      exact ⟨(i, (i + j) / 2), by simp only; omega, ⟨by simp only; omega, by simp only; omega, n, by simp only; omega, h4⟩, by (try simp -implicitDefEqProofs only [nleL_cc, nleL_nn, nle_self, nle_boxs, nle_aggs, nle_nils, and_self, and_true, true_and]) <;> repeat' (first | exact nle_of_eq rfl | exact nle_nil | refine And.intro ?_ ?_ | refine nle_box ?_ | refine nle_agg ?_ | refine nle_sl ?_ | exact nleLL_nil | refine nleLL_cons ?_ ?_ | exact nleL_nil | refine nleL_cons ?_ ?_ | exact nle_rfl _)⟩
  · have hge : ¬ i < j := by simpa using hlt
    have hb : bsA b.Tiles p = i := by rw [← h4, bsF_end hge]
    simp -implicitDefEqProofs (disch := omega) only [go_sem, ↓reduceIte, Nat.reduceAdd, Nat.reduceMul, Nat.reduceLeDiff, reduceCtorEq, Nat.reduceEqDiff, Nat.reduceBEq, Nat.reduceBNe, Option.some.injEq , List.length_map, Int.toNat_natCast, Int.ofNat_lt, Int.natCast_nonneg, List.getElem?_map, Option.map_some]
    refine gd_split ?_ ?_ <;> intro hi
    · have hi : i < b.Tiles.length := by simpa using hi
      have e1 := List.getElem?_eq_getElem hi
      have hh : atP b.Tiles p = decide (b.Tiles[i].At = p) := by unfold atP; rw [hb, e1]
      have hd : (decide (b.Tiles[i].At.X = p.X) && decide (b.Tiles[i].At.Y = p.Y)) = decide (b.Tiles[i].At = p) := Point.eq_dec _ _
      cases hc : decide (b.Tiles[i].At = p) with
      | false =>
        rw [hc] at hd hh
        simp -implicitDefEqProofs (disch := omega) only [go_sem, ↓reduceIte, Nat.reduceAdd, Nat.reduceMul, Nat.reduceLeDiff, reduceCtorEq, Nat.reduceEqDiff, Nat.reduceBEq, Nat.reduceBNe, Option.some.injEq , List.length_map, Int.toNat_natCast, Int.ofNat_lt, Int.natCast_nonneg, List.getElem?_map, Option.map_some, hi, e1, Placed.td_d, hd, idxA, hh]
      | true =>
        rw [hc] at hd hh
        simp -implicitDefEqProofs (disch := omega) only [go_sem, ↓reduceIte, Nat.reduceAdd, Nat.reduceMul, Nat.reduceLeDiff, reduceCtorEq, Nat.reduceEqDiff, Nat.reduceBEq, Nat.reduceBNe, Option.some.injEq , List.length_map, Int.toNat_natCast, Int.ofNat_lt, Int.natCast_nonneg, List.getElem?_map, Option.map_some, hi, e1, Placed.td_d, hd, idxA, hh, hb]
    · have hi : ¬ i < b.Tiles.length := by simpa using hi
      have hh : atP b.Tiles p = false := by unfold atP; rw [hb, List.getElem?_eq_none (Nat.le_of_not_lt hi)]
      simp -implicitDefEqProofs (disch := omega) only [go_sem, ↓reduceIte, Nat.reduceAdd, Nat.reduceMul, Nat.reduceLeDiff, reduceCtorEq, Nat.reduceEqDiff, Nat.reduceBEq, Nat.reduceBNe, Option.some.injEq , hi, idxA, hh]
end Go.Proofs.Ytffnoglnpkcjnaa
