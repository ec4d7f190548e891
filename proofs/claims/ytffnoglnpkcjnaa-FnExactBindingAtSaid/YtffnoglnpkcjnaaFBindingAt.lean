/- BindingAt: what the program's and the reference's compute. -/
import Derived.Test.YtffnoglnpkcjnaaVBond
set_option linter.all false
namespace Go.Proofs.Ytffnoglnpkcjnaa
open Go.RowKit Go.V
attribute [local go_sem] List.getElem?_cons_succ List.getElem?_cons_zero List.set_cons_succ List.set_cons_zero List.map_cons List.map_nil List.length_cons List.length_nil List.all_cons List.all_nil List.drop_succ_cons List.drop_zero List.take_succ_cons List.take_zero List.flatMap_cons List.flatMap_nil List.cons_append List.nil_append List.append_nil List.headD_cons Value.oneCell' Bool.and_true Bool.true_and Bool.or_false Bool.false_or Bool.and_self Bool.not_true Bool.not_false and_true true_and beq_self_eq_true Bool.false_eq_true if_true if_false Nat.zero_add Nat.le_refl Option.isSome_some Option.isSome_none not_true_eq_false not_false_eq_true ne_eq List.reverse_nil bne_self_eq_false List.isPrefixOf Bool.not_eq_true Bool.and_false Bool.false_and Bool.true_or Bool.or_true decide_true decide_false List.replicate_succ List.replicate_zero exists_eq_left' exists_eq_left or_false or_true true_or false_or Option.map_some Option.map_none
set_option maxRecDepth 100000
def bindOK (a : TileSet) (b : Assembly) : Bool := okSet a && okAsm a b
def bindIn (a : TileSet) (p : Point) (t : Int) : Bool := ptOK p && inR 0 ((a.Tiles.length : Int) - 1) t
def BindingAtR (a : TileSet) (b : Assembly) (p : Point) (t : Int) : Int := if bindOK a b && bindIn a p t then bindS a b.Tiles p t.toNat 4 else 0
def BindingAtC (a : TileSet) (b : Assembly) (p : Point) (t : Int) : Int := if bindOK a b then (if bindIn a p t then 0 else 2) else 1
/-- spec.BindingAt -/
def code_spec_BindingAt : VCode := (.seq (.ops [
  ⟨(some 4), none, (.box (.tmp 0))⟩,
  ⟨(some 5), none, (.box (.tmp 1))⟩,
  ⟨(some 6), none, (.box (.tmp 2))⟩,
  ⟨(some 8), none, (.asg (.const (.int .i64 0)))⟩,
  ⟨(some 9), none, (.asg (.const (.int .i64 0)))⟩]) (.seq (.ops [
  ⟨(some 11), none, (.callX 49 [(.tmp 4), (.tmp 5)])⟩,
  ⟨(some 10), none, (.asg (.tmp 11))⟩]) (.seq (.seq (.ops [
  ⟨(some 12), none, (.mv (.tmp 10))⟩,
  ⟨(some 13), none, (.bin .neq (.tmp 12) (.const (.int .i64 0)))⟩]) (.cond (.tmp 13) (.seq (.ops [
  ⟨(some 14), none, (.mv (.tmp 10))⟩,
  ⟨(some 8), none, (.asg (.const (.int .i64 0)))⟩,
  ⟨(some 9), none, (.asg (.tmp 14))⟩]) .ret) .skip)) (.seq (.seq (.ops [
  ⟨(some 15), none, (.load 2 true (.tmp 6))⟩,
  ⟨(some 16), none, (.callX 68 [(.tmp 15)])⟩,
  ⟨(some 17), none, (.un .not (.tmp 16))⟩,
  ⟨(some 18), none, (.mv (.tmp 17))⟩,
  ⟨(some 19), (some (18, false)), (.mv (.tmp 3))⟩,
  ⟨(some 20), (some (18, false)), (.callX 69 [(.tmp 4), (.tmp 19)])⟩,
  ⟨(some 21), (some (18, false)), (.un .not (.tmp 20))⟩,
  ⟨(some 22), none, (.pick (.tmp 18) (.const (.bool true)) (.tmp 21))⟩]) (.cond (.tmp 22) (.seq (.ops [
  ⟨(some 8), none, (.asg (.const (.int .i64 0)))⟩,
  ⟨(some 9), none, (.asg (.const (.int .i64 2)))⟩]) .ret) .skip)) (.seq (.ops [
  ⟨(some 23), none, (.load 2 true (.tmp 6))⟩,
  ⟨(some 24), none, (.mv (.tmp 3))⟩,
  ⟨(some 25), none, (.callX 70 [(.tmp 4), (.tmp 5), (.tmp 23), (.tmp 24)])⟩,
  ⟨(some 8), none, (.asg (.tmp 25))⟩,
  ⟨(some 9), none, (.asg (.const (.int .i64 0)))⟩]) .ret)))))
theorem law_spec_BindingAt {a0 a1 a2 a3 d : D} (h : code_spec_BindingAt.wp (CT Try.prog NoG) (endQ [(.t 8), (.t 9)] d) [a0, a1, a2, a3, .undef, .undef, .undef, .undef, .undef, .undef, .undef, .undef, .undef, .undef, .undef, .undef, .undef, .undef, .undef, .undef, .undef, .undef, .undef, .undef, .undef, .undef]) : Contract Try.prog NoG 25 [a0, a1, a2, a3] d :=
  contract_of noG Try.func25 (fun us W => by kernel_rfl) (c := Try.f25.body.getD .skip) (ms := []) (ms' := []) (by kernel_rfl) (by kernel_rfl) (by kernel_rfl) h
/-- impl.BindingAt -/
def code_impl_BindingAt : VCode := (.seq (.ops [
  ⟨(some 4), none, (.box (.tmp 0))⟩,
  ⟨(some 5), none, (.box (.tmp 1))⟩,
  ⟨(some 6), none, (.box (.tmp 2))⟩,
  ⟨(some 8), none, (.asg (.const (.int .i64 0)))⟩,
  ⟨(some 9), none, (.asg (.const (.int .i64 0)))⟩]) (.seq (.block 0 (.seq (.ops [
  ⟨(some 11), none, (.load 2 true (.tmp 4))⟩,
  ⟨(some 12), none, (.load 1 true (.tmp 5))⟩,
  ⟨(some 13), none, (.callX 56 [(.tmp 11), (.tmp 12)])⟩,
  ⟨(some 14), none, (.un .not (.tmp 13))⟩,
  ⟨(some 10), none, (.asg (.tmp 14))⟩]) (.cond (.tmp 10) (.seq (.ops [
  ⟨(some 8), none, (.asg (.const (.int .i64 0)))⟩,
  ⟨(some 9), none, (.asg (.const (.int .i64 1)))⟩]) .ret) (.seq (.ops [
  ⟨(some 16), none, (.load 2 true (.tmp 6))⟩,
  ⟨(some 17), none, (.callX 71 [(.tmp 16)])⟩,
  ⟨(some 18), none, (.un .not (.tmp 17))⟩,
  ⟨(some 19), none, (.mv (.tmp 18))⟩,
  ⟨(some 20), (some (19, false)), (.load 2 true (.tmp 4))⟩,
  ⟨(some 21), (some (19, false)), (.mv (.tmp 3))⟩,
  ⟨(some 22), (some (19, false)), (.callX 72 [(.tmp 20), (.tmp 21)])⟩,
  ⟨(some 23), (some (19, false)), (.un .not (.tmp 22))⟩,
  ⟨(some 24), none, (.pick (.tmp 19) (.const (.bool true)) (.tmp 23))⟩,
  ⟨(some 15), none, (.asg (.tmp 24))⟩]) (.cond (.tmp 15) (.seq (.ops [
  ⟨(some 8), none, (.asg (.const (.int .i64 0)))⟩,
  ⟨(some 9), none, (.asg (.const (.int .i64 2)))⟩]) .ret) .skip))))) (.seq (.ops [
  ⟨(some 25), none, (.load 2 true (.tmp 4))⟩,
  ⟨(some 26), none, (.load 2 true (.tmp 6))⟩,
  ⟨(some 27), none, (.mv (.tmp 3))⟩,
  ⟨(some 28), none, (.load 1 true (.tmp 5))⟩,
  ⟨(some 29), none, (.mkf 74 [(.tmp 28)] [])⟩,
  ⟨(some 30), none, (.callX 73 [(.tmp 25), (.tmp 26), (.tmp 27), (.tmp 29)])⟩,
  ⟨(some 8), none, (.asg (.tmp 30))⟩,
  ⟨(some 9), none, (.asg (.const (.int .i64 0)))⟩]) .ret)))
theorem law_impl_BindingAt {a0 a1 a2 a3 d : D} (h : code_impl_BindingAt.wp (CT Try.prog NoG) (endQ [(.t 8), (.t 9)] d) [a0, a1, a2, a3, .undef, .undef, .undef, .undef, .undef, .undef, .undef, .undef, .undef, .undef, .undef, .undef, .undef, .undef, .undef, .undef, .undef, .undef, .undef, .undef, .undef, .undef, .undef, .undef, .undef, .undef, .undef]) : Contract Try.prog NoG 27 [a0, a1, a2, a3] d :=
  contract_of noG Try.func27 (fun us W => by kernel_rfl) (c := Try.f27.body.getD .skip) (ms := []) (ms' := []) (by kernel_rfl) (by kernel_rfl) (by kernel_rfl) h
set_option maxHeartbeats 1000000 in
theorem vBindingAt_impl (q_aSet : TileSet) (q_aSet_ok : TileSet.td.ok q_aSet) (q_aSet_n : TileSet.cnt q_aSet ≤ 1048576) (q_aA : Assembly) (q_aA_ok : Assembly.td.ok q_aA) (q_aA_n : Assembly.cnt q_aA ≤ 1048576) (q_aP : Point) (q_aP_ok : Point.td.ok q_aP) (q_aTile : Int) (q_aTile_ok : InK .i64 q_aTile) : Contract Try.prog NoG 27 [.agg (TileSet.td.d false q_aSet), .agg (Assembly.td.d false q_aA), .agg (Point.td.d false q_aP), .v (.int .i64 q_aTile)] (.tup [.v (.int .i64 (BindingAtR q_aSet q_aA q_aP q_aTile)), .v (.int .i64 (BindingAtC q_aSet q_aA q_aP q_aTile))]) := by
  have ha := setB_of q_aSet_n
  have hat := ha.t
  have hn := asm_len q_aA_n
  rw [TileSet.td_d, Assembly.td_d, Point.td_d]
  refine law_impl_BindingAt ?_
  unfold code_impl_BindingAt
  simp -implicitDefEqProofs (disch := omega) only [go_sem, ↓reduceIte, Nat.reduceAdd, Nat.reduceMul, Nat.reduceLeDiff, reduceCtorEq, Nat.reduceEqDiff, Nat.reduceBEq, Nat.reduceBNe, Option.some.injEq]
  cases h1 : okSet q_aSet && okAsm q_aSet q_aA with
  | false =>
    refine call_leA (v_ValidAssembly q_aSet q_aA ha hn) (by simp -implicitDefEqProofs (disch := omega) only [go_sem, ↓reduceIte, Nat.reduceAdd, Nat.reduceMul, Nat.reduceLeDiff, reduceCtorEq, Nat.reduceEqDiff, Nat.reduceBEq, Nat.reduceBNe, Option.some.injEq, deep, TD.rows, immLL_rI, immLL_rB8, immLL_rS, immLL_rBo, immLL_rII, h1, BindingAtR, BindingAtC, bindOK]; exact rfl) (by repeat (first | exact leL_nil | refine leL_cons ?_ ?_ | exact le_of_eq rfl | exact le_slf rfl (by first | rfl | exact TD.rows _ _ _) | refine le_agg ?_ | (refine le_iptrN ?_; simp only [List.drop_succ_cons, List.drop_zero, List.take_succ_cons, List.take_zero, List.take_nil, List.length_cons, List.length_nil, Nat.zero_add, Nat.reduceAdd]) | refine le_iptr ?_ | refine le_fn ?_ ?_)) (by first | exact .inl rfl | exact .inl (by simp only [D.noImm, noImmL, Bool.and_true, Bool.true_and, TD.nims, TD.nim, nim_rI, nim_rB8, nim_rBo, nim_rS])) ?_
    simp -implicitDefEqProofs (disch := omega) only [go_sem, ↓reduceIte, Nat.reduceAdd, Nat.reduceMul, Nat.reduceLeDiff, reduceCtorEq, Nat.reduceEqDiff, Nat.reduceBEq, Nat.reduceBNe, Option.some.injEq , h1, BindingAtR, BindingAtC, bindOK]
  | true =>
  obtain ⟨h2, h3⟩ : okSet q_aSet = true ∧ okAsm q_aSet q_aA = true := by simpa using h1
  refine call_leA (v_ValidAssembly q_aSet q_aA ha hn) (by simp -implicitDefEqProofs (disch := omega) only [go_sem, ↓reduceIte, Nat.reduceAdd, Nat.reduceMul, Nat.reduceLeDiff, reduceCtorEq, Nat.reduceEqDiff, Nat.reduceBEq, Nat.reduceBNe, Option.some.injEq, deep, TD.rows, immLL_rI, immLL_rB8, immLL_rS, immLL_rBo, immLL_rII, h1]; exact rfl) (by repeat (first | exact leL_nil | refine leL_cons ?_ ?_ | exact le_of_eq rfl | exact le_slf rfl (by first | rfl | exact TD.rows _ _ _) | refine le_agg ?_ | (refine le_iptrN ?_; simp only [List.drop_succ_cons, List.drop_zero, List.take_succ_cons, List.take_zero, List.take_nil, List.length_cons, List.length_nil, Nat.zero_add, Nat.reduceAdd]) | refine le_iptr ?_ | refine le_fn ?_ ?_)) (by first | exact .inl rfl | exact .inl (by simp only [D.noImm, noImmL, Bool.and_true, Bool.true_and, TD.nims, TD.nim, nim_rI, nim_rB8, nim_rBo, nim_rS])) ?_
  simp -implicitDefEqProofs (disch := omega) only [go_sem, ↓reduceIte, Nat.reduceAdd, Nat.reduceMul, Nat.reduceLeDiff, reduceCtorEq, Nat.reduceEqDiff, Nat.reduceBEq, Nat.reduceBNe, Option.some.injEq , h1]
  cases h4 : ptOK q_aP with
  | false =>
    refine call_leA (v_ValidPoint q_aP) (by simp -implicitDefEqProofs (disch := omega) only [go_sem, ↓reduceIte, Nat.reduceAdd, Nat.reduceMul, Nat.reduceLeDiff, reduceCtorEq, Nat.reduceEqDiff, Nat.reduceBEq, Nat.reduceBNe, Option.some.injEq, deep, TD.rows, immLL_rI, immLL_rB8, immLL_rS, immLL_rBo, immLL_rII, h4, h1, BindingAtR, BindingAtC, bindOK, bindIn]; exact rfl) (by repeat (first | exact leL_nil | refine leL_cons ?_ ?_ | exact le_of_eq rfl | exact le_slf rfl (by first | rfl | exact TD.rows _ _ _) | refine le_agg ?_ | (refine le_iptrN ?_; simp only [List.drop_succ_cons, List.drop_zero, List.take_succ_cons, List.take_zero, List.take_nil, List.length_cons, List.length_nil, Nat.zero_add, Nat.reduceAdd]) | refine le_iptr ?_ | refine le_fn ?_ ?_)) (by first | exact .inl rfl | exact .inl (by simp only [D.noImm, noImmL, Bool.and_true, Bool.true_and, TD.nims, TD.nim, nim_rI, nim_rB8, nim_rBo, nim_rS])) ?_
    simp -implicitDefEqProofs (disch := omega) only [go_sem, ↓reduceIte, Nat.reduceAdd, Nat.reduceMul, Nat.reduceLeDiff, reduceCtorEq, Nat.reduceEqDiff, Nat.reduceBEq, Nat.reduceBNe, Option.some.injEq , h4, h1, BindingAtR, BindingAtC, bindOK, bindIn]
  | true =>
  refine call_leA (v_ValidPoint q_aP) (by simp -implicitDefEqProofs (disch := omega) only [go_sem, ↓reduceIte, Nat.reduceAdd, Nat.reduceMul, Nat.reduceLeDiff, reduceCtorEq, Nat.reduceEqDiff, Nat.reduceBEq, Nat.reduceBNe, Option.some.injEq, deep, TD.rows, immLL_rI, immLL_rB8, immLL_rS, immLL_rBo, immLL_rII, h4]; exact rfl) (by repeat (first | exact leL_nil | refine leL_cons ?_ ?_ | exact le_of_eq rfl | exact le_slf rfl (by first | rfl | exact TD.rows _ _ _) | refine le_agg ?_ | (refine le_iptrN ?_; simp only [List.drop_succ_cons, List.drop_zero, List.take_succ_cons, List.take_zero, List.take_nil, List.length_cons, List.length_nil, Nat.zero_add, Nat.reduceAdd]) | refine le_iptr ?_ | refine le_fn ?_ ?_)) (by first | exact .inl rfl | exact .inl (by simp only [D.noImm, noImmL, Bool.and_true, Bool.true_and, TD.nims, TD.nim, nim_rI, nim_rB8, nim_rBo, nim_rS])) ?_
  simp -implicitDefEqProofs (disch := omega) only [go_sem, ↓reduceIte, Nat.reduceAdd, Nat.reduceMul, Nat.reduceLeDiff, reduceCtorEq, Nat.reduceEqDiff, Nat.reduceBEq, Nat.reduceBNe, Option.some.injEq , h4]
  cases h5 : inR 0 ((q_aSet.Tiles.length : Int) - 1) q_aTile with
  | false =>
    refine call_leA (v_isTile q_aSet q_aTile hat) (by simp -implicitDefEqProofs (disch := omega) only [go_sem, ↓reduceIte, Nat.reduceAdd, Nat.reduceMul, Nat.reduceLeDiff, reduceCtorEq, Nat.reduceEqDiff, Nat.reduceBEq, Nat.reduceBNe, Option.some.injEq, deep, TD.rows, immLL_rI, immLL_rB8, immLL_rS, immLL_rBo, immLL_rII, h5, h4, h1, BindingAtR, BindingAtC, bindOK, bindIn]; exact rfl) (by repeat (first | exact leL_nil | refine leL_cons ?_ ?_ | exact le_of_eq rfl | exact le_slf rfl (by first | rfl | exact TD.rows _ _ _) | refine le_agg ?_ | (refine le_iptrN ?_; simp only [List.drop_succ_cons, List.drop_zero, List.take_succ_cons, List.take_zero, List.take_nil, List.length_cons, List.length_nil, Nat.zero_add, Nat.reduceAdd]) | refine le_iptr ?_ | refine le_fn ?_ ?_)) (by first | exact .inl rfl | exact .inl (by simp only [D.noImm, noImmL, Bool.and_true, Bool.true_and, TD.nims, TD.nim, nim_rI, nim_rB8, nim_rBo, nim_rS])) ?_
    simp -implicitDefEqProofs (disch := omega) only [go_sem, ↓reduceIte, Nat.reduceAdd, Nat.reduceMul, Nat.reduceLeDiff, reduceCtorEq, Nat.reduceEqDiff, Nat.reduceBEq, Nat.reduceBNe, Option.some.injEq , h5, h4, h1, BindingAtR, BindingAtC, bindOK, bindIn]
  | true =>
  obtain ⟨t, ht, htl⟩ : ∃ t : Nat, q_aTile = (t : Int) ∧ t < q_aSet.Tiles.length := ⟨q_aTile.toNat, by have := inR_iff.1 h5; omega, by have := inR_iff.1 h5; omega⟩
  subst ht
  refine call_leA (v_isTile q_aSet (t : Int) hat) (by simp -implicitDefEqProofs (disch := omega) only [go_sem, ↓reduceIte, Nat.reduceAdd, Nat.reduceMul, Nat.reduceLeDiff, reduceCtorEq, Nat.reduceEqDiff, Nat.reduceBEq, Nat.reduceBNe, Option.some.injEq, deep, TD.rows, immLL_rI, immLL_rB8, immLL_rS, immLL_rBo, immLL_rII, h5]; exact rfl) (by repeat (first | exact leL_nil | refine leL_cons ?_ ?_ | exact le_of_eq rfl | exact le_slf rfl (by first | rfl | exact TD.rows _ _ _) | refine le_agg ?_ | (refine le_iptrN ?_; simp only [List.drop_succ_cons, List.drop_zero, List.take_succ_cons, List.take_zero, List.take_nil, List.length_cons, List.length_nil, Nat.zero_add, Nat.reduceAdd]) | refine le_iptr ?_ | refine le_fn ?_ ?_)) (by first | exact .inl rfl | exact .inl (by simp only [D.noImm, noImmL, Bool.and_true, Bool.true_and, TD.nims, TD.nim, nim_rI, nim_rB8, nim_rBo, nim_rS])) ?_
  simp -implicitDefEqProofs (disch := omega) only [go_sem, ↓reduceIte, Nat.reduceAdd, Nat.reduceMul, Nat.reduceLeDiff, reduceCtorEq, Nat.reduceEqDiff, Nat.reduceBEq, Nat.reduceBNe, Option.some.injEq , h5]
  refine call_leA (v_binding q_aSet q_aA q_aP t h2 h3 hn q_aP_ok htl) (by simp -implicitDefEqProofs (disch := omega) only [go_sem, ↓reduceIte, Nat.reduceAdd, Nat.reduceMul, Nat.reduceLeDiff, reduceCtorEq, Nat.reduceEqDiff, Nat.reduceBEq, Nat.reduceBNe, Option.some.injEq, deep, TD.rows, immLL_rI, immLL_rB8, immLL_rS, immLL_rBo, immLL_rII, h5, h4, h1, BindingAtR, BindingAtC, bindOK, bindIn, Int.toNat_natCast]; exact rfl) (by repeat (first | exact leL_nil | refine leL_cons ?_ ?_ | exact le_of_eq rfl | exact le_slf rfl (by first | rfl | exact TD.rows _ _ _) | refine le_agg ?_ | (refine le_iptrN ?_; simp only [List.drop_succ_cons, List.drop_zero, List.take_succ_cons, List.take_zero, List.take_nil, List.length_cons, List.length_nil, Nat.zero_add, Nat.reduceAdd]) | refine le_iptr ?_ | refine le_fn ?_ ?_)) (by first | exact .inl rfl | exact .inl (by simp only [D.noImm, noImmL, Bool.and_true, Bool.true_and, TD.nims, TD.nim, nim_rI, nim_rB8, nim_rBo, nim_rS])) ?_
  simp -implicitDefEqProofs (disch := omega) only [go_sem, ↓reduceIte, Nat.reduceAdd, Nat.reduceMul, Nat.reduceLeDiff, reduceCtorEq, Nat.reduceEqDiff, Nat.reduceBEq, Nat.reduceBNe, Option.some.injEq , h5, h4, h1, BindingAtR, BindingAtC, bindOK, bindIn, Int.toNat_natCast]
set_option maxHeartbeats 1000000 in
theorem vBindingAt_spec (q_aSet : TileSet) (q_aSet_ok : TileSet.td.ok q_aSet) (q_aSet_n : TileSet.cnt q_aSet ≤ 1048576) (q_aA : Assembly) (q_aA_ok : Assembly.td.ok q_aA) (q_aA_n : Assembly.cnt q_aA ≤ 1048576) (q_aP : Point) (q_aP_ok : Point.td.ok q_aP) (q_aTile : Int) (q_aTile_ok : InK .i64 q_aTile) : Contract Try.prog NoG 25 [.agg (TileSet.td.d false q_aSet), .agg (Assembly.td.d false q_aA), .agg (Point.td.d false q_aP), .v (.int .i64 q_aTile)] (.tup [.v (.int .i64 (BindingAtR q_aSet q_aA q_aP q_aTile)), .v (.int .i64 (BindingAtC q_aSet q_aA q_aP q_aTile))]) := by
  have ha := setB_of q_aSet_n
  have hat := ha.t
  have hn := asm_len q_aA_n
  rw [TileSet.td_d, Assembly.td_d, Point.td_d]
  refine law_spec_BindingAt ?_
  unfold code_spec_BindingAt
  simp -implicitDefEqProofs (disch := omega) only [go_sem, ↓reduceIte, Nat.reduceAdd, Nat.reduceMul, Nat.reduceLeDiff, reduceCtorEq, Nat.reduceEqDiff, Nat.reduceBEq, Nat.reduceBNe, Option.some.injEq]
  cases h1 : okSet q_aSet && okAsm q_aSet q_aA with
  | false =>
    refine call_leA (v_l06Asked q_aSet q_aA ha hn) (by simp -implicitDefEqProofs (disch := omega) only [go_sem, ↓reduceIte, Nat.reduceAdd, Nat.reduceMul, Nat.reduceLeDiff, reduceCtorEq, Nat.reduceEqDiff, Nat.reduceBEq, Nat.reduceBNe, Option.some.injEq, deep, TD.rows, immLL_rI, immLL_rB8, immLL_rS, immLL_rBo, immLL_rII, h1, BindingAtR, BindingAtC, bindOK, Int.natCast_zero, Int.natCast_one, Int.cast_ofNat_Int, Int.ofNat_le, Int.toNat_zero, Nat.sub_zero, Int.le_refl, Int.reduceLT, Int.reduceLE, Int.reduceEq, Int.reduceAdd, Int.reduceSub, Int.reduceMul, Int.reduceToNat, Int.reduceNeg]; exact rfl) (by repeat (first | exact leL_nil | refine leL_cons ?_ ?_ | exact le_of_eq rfl | exact le_slf rfl (by first | rfl | exact TD.rows _ _ _) | refine le_agg ?_ | (refine le_iptrN ?_; simp only [List.drop_succ_cons, List.drop_zero, List.take_succ_cons, List.take_zero, List.take_nil, List.length_cons, List.length_nil, Nat.zero_add, Nat.reduceAdd]) | refine le_iptr ?_ | refine le_fn ?_ ?_)) (by first | exact .inl rfl | exact .inl (by simp only [D.noImm, noImmL, Bool.and_true, Bool.true_and, TD.nims, TD.nim, nim_rI, nim_rB8, nim_rBo, nim_rS])) ?_
    simp -implicitDefEqProofs (disch := omega) only [go_sem, ↓reduceIte, Nat.reduceAdd, Nat.reduceMul, Nat.reduceLeDiff, reduceCtorEq, Nat.reduceEqDiff, Nat.reduceBEq, Nat.reduceBNe, Option.some.injEq , h1, BindingAtR, BindingAtC, bindOK, Int.natCast_zero, Int.natCast_one, Int.cast_ofNat_Int, Int.ofNat_le, Int.toNat_zero, Nat.sub_zero, Int.le_refl, Int.reduceLT, Int.reduceLE, Int.reduceEq, Int.reduceAdd, Int.reduceSub, Int.reduceMul, Int.reduceToNat, Int.reduceNeg]
  | true =>
  obtain ⟨h2, h3⟩ : okSet q_aSet = true ∧ okAsm q_aSet q_aA = true := by simpa using h1
  refine call_leA (v_l06Asked q_aSet q_aA ha hn) (by simp -implicitDefEqProofs (disch := omega) only [go_sem, ↓reduceIte, Nat.reduceAdd, Nat.reduceMul, Nat.reduceLeDiff, reduceCtorEq, Nat.reduceEqDiff, Nat.reduceBEq, Nat.reduceBNe, Option.some.injEq, deep, TD.rows, immLL_rI, immLL_rB8, immLL_rS, immLL_rBo, immLL_rII, h1, Int.natCast_zero, Int.natCast_one, Int.cast_ofNat_Int, Int.ofNat_le, Int.toNat_zero, Nat.sub_zero, Int.le_refl, Int.reduceLT, Int.reduceLE, Int.reduceEq, Int.reduceAdd, Int.reduceSub, Int.reduceMul, Int.reduceToNat, Int.reduceNeg]; exact rfl) (by repeat (first | exact leL_nil | refine leL_cons ?_ ?_ | exact le_of_eq rfl | exact le_slf rfl (by first | rfl | exact TD.rows _ _ _) | refine le_agg ?_ | (refine le_iptrN ?_; simp only [List.drop_succ_cons, List.drop_zero, List.take_succ_cons, List.take_zero, List.take_nil, List.length_cons, List.length_nil, Nat.zero_add, Nat.reduceAdd]) | refine le_iptr ?_ | refine le_fn ?_ ?_)) (by first | exact .inl rfl | exact .inl (by simp only [D.noImm, noImmL, Bool.and_true, Bool.true_and, TD.nims, TD.nim, nim_rI, nim_rB8, nim_rBo, nim_rS])) ?_
  simp -implicitDefEqProofs (disch := omega) only [go_sem, ↓reduceIte, Nat.reduceAdd, Nat.reduceMul, Nat.reduceLeDiff, reduceCtorEq, Nat.reduceEqDiff, Nat.reduceBEq, Nat.reduceBNe, Option.some.injEq , h1, Int.natCast_zero, Int.natCast_one, Int.cast_ofNat_Int, Int.ofNat_le, Int.toNat_zero, Nat.sub_zero, Int.le_refl, Int.reduceLT, Int.reduceLE, Int.reduceEq, Int.reduceAdd, Int.reduceSub, Int.reduceMul, Int.reduceToNat, Int.reduceNeg]
  cases h4 : ptOK q_aP with
  | false =>
    refine call_leA (v_l01Point q_aP) (by simp -implicitDefEqProofs (disch := omega) only [go_sem, ↓reduceIte, Nat.reduceAdd, Nat.reduceMul, Nat.reduceLeDiff, reduceCtorEq, Nat.reduceEqDiff, Nat.reduceBEq, Nat.reduceBNe, Option.some.injEq, deep, TD.rows, immLL_rI, immLL_rB8, immLL_rS, immLL_rBo, immLL_rII, h4, h1, BindingAtR, BindingAtC, bindOK, bindIn]; exact rfl) (by repeat (first | exact leL_nil | refine leL_cons ?_ ?_ | exact le_of_eq rfl | exact le_slf rfl (by first | rfl | exact TD.rows _ _ _) | refine le_agg ?_ | (refine le_iptrN ?_; simp only [List.drop_succ_cons, List.drop_zero, List.take_succ_cons, List.take_zero, List.take_nil, List.length_cons, List.length_nil, Nat.zero_add, Nat.reduceAdd]) | refine le_iptr ?_ | refine le_fn ?_ ?_)) (by first | exact .inl rfl | exact .inl (by simp only [D.noImm, noImmL, Bool.and_true, Bool.true_and, TD.nims, TD.nim, nim_rI, nim_rB8, nim_rBo, nim_rS])) ?_
    simp -implicitDefEqProofs (disch := omega) only [go_sem, ↓reduceIte, Nat.reduceAdd, Nat.reduceMul, Nat.reduceLeDiff, reduceCtorEq, Nat.reduceEqDiff, Nat.reduceBEq, Nat.reduceBNe, Option.some.injEq , h4, h1, BindingAtR, BindingAtC, bindOK, bindIn]
  | true =>
  refine call_leA (v_l01Point q_aP) (by simp -implicitDefEqProofs (disch := omega) only [go_sem, ↓reduceIte, Nat.reduceAdd, Nat.reduceMul, Nat.reduceLeDiff, reduceCtorEq, Nat.reduceEqDiff, Nat.reduceBEq, Nat.reduceBNe, Option.some.injEq, deep, TD.rows, immLL_rI, immLL_rB8, immLL_rS, immLL_rBo, immLL_rII, h4]; exact rfl) (by repeat (first | exact leL_nil | refine leL_cons ?_ ?_ | exact le_of_eq rfl | exact le_slf rfl (by first | rfl | exact TD.rows _ _ _) | refine le_agg ?_ | (refine le_iptrN ?_; simp only [List.drop_succ_cons, List.drop_zero, List.take_succ_cons, List.take_zero, List.take_nil, List.length_cons, List.length_nil, Nat.zero_add, Nat.reduceAdd]) | refine le_iptr ?_ | refine le_fn ?_ ?_)) (by first | exact .inl rfl | exact .inl (by simp only [D.noImm, noImmL, Bool.and_true, Bool.true_and, TD.nims, TD.nim, nim_rI, nim_rB8, nim_rBo, nim_rS])) ?_
  simp -implicitDefEqProofs (disch := omega) only [go_sem, ↓reduceIte, Nat.reduceAdd, Nat.reduceMul, Nat.reduceLeDiff, reduceCtorEq, Nat.reduceEqDiff, Nat.reduceBEq, Nat.reduceBNe, Option.some.injEq , h4]
  cases h5 : inR 0 ((q_aSet.Tiles.length : Int) - 1) q_aTile with
  | false =>
    refine call_leA (v_l02Index q_aSet q_aTile hat) (by simp -implicitDefEqProofs (disch := omega) only [go_sem, ↓reduceIte, Nat.reduceAdd, Nat.reduceMul, Nat.reduceLeDiff, reduceCtorEq, Nat.reduceEqDiff, Nat.reduceBEq, Nat.reduceBNe, Option.some.injEq, deep, TD.rows, immLL_rI, immLL_rB8, immLL_rS, immLL_rBo, immLL_rII, h5, h4, h1, BindingAtR, BindingAtC, bindOK, bindIn]; exact rfl) (by repeat (first | exact leL_nil | refine leL_cons ?_ ?_ | exact le_of_eq rfl | exact le_slf rfl (by first | rfl | exact TD.rows _ _ _) | refine le_agg ?_ | (refine le_iptrN ?_; simp only [List.drop_succ_cons, List.drop_zero, List.take_succ_cons, List.take_zero, List.take_nil, List.length_cons, List.length_nil, Nat.zero_add, Nat.reduceAdd]) | refine le_iptr ?_ | refine le_fn ?_ ?_)) (by first | exact .inl rfl | exact .inl (by simp only [D.noImm, noImmL, Bool.and_true, Bool.true_and, TD.nims, TD.nim, nim_rI, nim_rB8, nim_rBo, nim_rS])) ?_
    simp -implicitDefEqProofs (disch := omega) only [go_sem, ↓reduceIte, Nat.reduceAdd, Nat.reduceMul, Nat.reduceLeDiff, reduceCtorEq, Nat.reduceEqDiff, Nat.reduceBEq, Nat.reduceBNe, Option.some.injEq , h5, h4, h1, BindingAtR, BindingAtC, bindOK, bindIn]
  | true =>
  obtain ⟨t, ht, htl⟩ : ∃ t : Nat, q_aTile = (t : Int) ∧ t < q_aSet.Tiles.length := ⟨q_aTile.toNat, by have := inR_iff.1 h5; omega, by have := inR_iff.1 h5; omega⟩
  subst ht
  refine call_leA (v_l02Index q_aSet (t : Int) hat) (by simp -implicitDefEqProofs (disch := omega) only [go_sem, ↓reduceIte, Nat.reduceAdd, Nat.reduceMul, Nat.reduceLeDiff, reduceCtorEq, Nat.reduceEqDiff, Nat.reduceBEq, Nat.reduceBNe, Option.some.injEq, deep, TD.rows, immLL_rI, immLL_rB8, immLL_rS, immLL_rBo, immLL_rII, h5]; exact rfl) (by repeat (first | exact leL_nil | refine leL_cons ?_ ?_ | exact le_of_eq rfl | exact le_slf rfl (by first | rfl | exact TD.rows _ _ _) | refine le_agg ?_ | (refine le_iptrN ?_; simp only [List.drop_succ_cons, List.drop_zero, List.take_succ_cons, List.take_zero, List.take_nil, List.length_cons, List.length_nil, Nat.zero_add, Nat.reduceAdd]) | refine le_iptr ?_ | refine le_fn ?_ ?_)) (by first | exact .inl rfl | exact .inl (by simp only [D.noImm, noImmL, Bool.and_true, Bool.true_and, TD.nims, TD.nim, nim_rI, nim_rB8, nim_rBo, nim_rS])) ?_
  simp -implicitDefEqProofs (disch := omega) only [go_sem, ↓reduceIte, Nat.reduceAdd, Nat.reduceMul, Nat.reduceLeDiff, reduceCtorEq, Nat.reduceEqDiff, Nat.reduceBEq, Nat.reduceBNe, Option.some.injEq , h5]
  refine call_leA (v_l06Binding q_aSet q_aA q_aP t h2 h3 hn htl) (by simp -implicitDefEqProofs (disch := omega) only [go_sem, ↓reduceIte, Nat.reduceAdd, Nat.reduceMul, Nat.reduceLeDiff, reduceCtorEq, Nat.reduceEqDiff, Nat.reduceBEq, Nat.reduceBNe, Option.some.injEq, deep, TD.rows, immLL_rI, immLL_rB8, immLL_rS, immLL_rBo, immLL_rII, h5, h4, h1, BindingAtR, BindingAtC, bindOK, bindIn, Int.toNat_natCast]; exact rfl) (by repeat (first | exact leL_nil | refine leL_cons ?_ ?_ | exact le_of_eq rfl | exact le_slf rfl (by first | rfl | exact TD.rows _ _ _) | refine le_agg ?_ | (refine le_iptrN ?_; simp only [List.drop_succ_cons, List.drop_zero, List.take_succ_cons, List.take_zero, List.take_nil, List.length_cons, List.length_nil, Nat.zero_add, Nat.reduceAdd]) | refine le_iptr ?_ | refine le_fn ?_ ?_)) (by first | exact .inl rfl | exact .inl (by simp only [D.noImm, noImmL, Bool.and_true, Bool.true_and, TD.nims, TD.nim, nim_rI, nim_rB8, nim_rBo, nim_rS])) ?_
  simp -implicitDefEqProofs (disch := omega) only [go_sem, ↓reduceIte, Nat.reduceAdd, Nat.reduceMul, Nat.reduceLeDiff, reduceCtorEq, Nat.reduceEqDiff, Nat.reduceBEq, Nat.reduceBNe, Option.some.injEq , h5, h4, h1, BindingAtR, BindingAtC, bindOK, bindIn, Int.toNat_natCast]
end Go.Proofs.Ytffnoglnpkcjnaa
