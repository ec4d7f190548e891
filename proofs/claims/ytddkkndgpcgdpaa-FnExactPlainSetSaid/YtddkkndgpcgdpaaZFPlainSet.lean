/- Laws that the proof stands on. -/
import Derived.Test.YtddkkndgpcgdpaaZVSig
import Derived.Test.YtddkkndgpcgdpaaZVSetR
set_option linter.all false
namespace Go.Proofs.Ytddkkndgpcgdpaa
open Go.RowKit Go.V
attribute [local go_sem] List.getElem?_cons_succ List.getElem?_cons_zero List.set_cons_succ List.set_cons_zero List.map_cons List.map_nil List.length_cons List.length_nil List.all_cons List.all_nil List.drop_succ_cons List.drop_zero List.take_succ_cons List.take_zero List.flatMap_cons List.flatMap_nil List.cons_append List.nil_append List.append_nil List.headD_cons Value.oneCell' Bool.and_true Bool.true_and Bool.or_false Bool.false_or Bool.and_self Bool.not_true Bool.not_false and_true true_and beq_self_eq_true Bool.false_eq_true if_true if_false Nat.zero_add Nat.reduceAdd Nat.reduceMul Nat.reduceLeDiff Nat.le_refl Option.isSome_some Option.isSome_none not_true_eq_false not_false_eq_true ne_eq reduceCtorEq List.reverse_nil bne_self_eq_false Nat.reduceEqDiff List.isPrefixOf Bool.not_eq_true Bool.and_false Bool.false_and Bool.true_or Bool.or_true decide_true decide_false Nat.reduceBEq Nat.reduceBNe List.replicate_succ List.replicate_zero exists_eq_left' exists_eq_left Option.some.injEq or_false or_true true_or false_or Option.map_some Option.map_none mB Nat.reduceMod Nat.reduceDiv
set_option maxRecDepth 100000
def PlainSetR (s : SignalSet) : TileSet := if okSigSet s then plS s else ⟨[], []⟩
def PlainSetC (s : SignalSet) : Int := if okSigSet s then 0 else 1
theorem plS_ok {s : SignalSet} (h : SignalSet.td.ok s) : TileSet.td.ok (plS s) := by rw [SignalSet.td_ok] at h; rw [TileSet.td_ok]; refine ⟨h.1, fun y hy => ?_⟩; obtain ⟨x, hx, rfl⟩ := List.mem_map.1 hy; have := h.2 x hx; rw [SignalTile.td_ok] at this; rw [Tile.td_ok]; exact ⟨this.1, this.2.1⟩
theorem PlainSetR_ok (s : SignalSet) (hs : SignalSet.td.ok s) (_ : SignalSet.cnt s ≤ 1048576) : TileSet.td.ok (PlainSetR s) := by
  unfold PlainSetR; split
  · exact plS_ok hs
  · exact set0_ok
theorem PlainSetR_cn (s : SignalSet) (hn : SignalSet.cnt s ≤ 1048576) : (PlainSetR s).cnT ≤ 1000000000000 := by
  unfold PlainSetR; split
  · have := pl_cnt hn; exact setR_cn (by omega)
  · exact setR_cn (by decide)
def code_impl_PlainSet : VCode := (.seq (.ops [
  ⟨(some 1), none, (.box (.tmp 0))⟩,
  ⟨(some 2), none, (.alloc [(.slice none 0 0), (.slice none 0 0)])⟩,
  ⟨(some 3), none, (.asg (.const (.int .i64 0)))⟩]) (.seq (.seq (.ops [
  ⟨(some 4), none, (.load 2 true (.tmp 1))⟩,
  ⟨(some 5), none, (.callX 19 [(.tmp 4)])⟩,
  ⟨(some 6), none, (.un .not (.tmp 5))⟩]) (.cond (.tmp 6) (.seq (.ops [
  ⟨(some 7), none, (.build [(.slice none 0 0), (.slice none 0 0)] [])⟩,
  ⟨none, none, (.store 2 (.tmp 2) (.tmp 7))⟩,
  ⟨(some 3), none, (.asg (.const (.int .i64 1)))⟩]) .ret) .skip)) (.seq (.ops [
  ⟨(some 8), none, (.load 2 true (.tmp 1))⟩,
  ⟨(some 9), none, (.callX 20 [(.tmp 8)])⟩,
  ⟨none, none, (.store 2 (.tmp 2) (.tmp 9))⟩,
  ⟨(some 3), none, (.asg (.const (.int .i64 0)))⟩]) .ret)))
theorem law_impl_PlainSet {a0 d : D} (h : code_impl_PlainSet.wp (CT Try.prog NoG) (endQ [(.c 2 2 true), (.t 3)] d) [a0, .undef, .undef, .undef, .undef, .undef, .undef, .undef, .undef, .undef]) : Contract Try.prog NoG 7 [a0] d :=
  contract_of (pt := 0) noG Try.func7 (fun us W => by kernel_rfl) (c := Try.f7.body.getD .skip) (ms := []) (ms' := []) (by kernel_rfl) (by kernel_rfl) (by kernel_rfl) h
def code_spec_PlainSet : VCode := (.seq (.ops [
  ⟨(some 1), none, (.box (.tmp 0))⟩,
  ⟨(some 2), none, (.alloc [(.slice none 0 0), (.slice none 0 0)])⟩,
  ⟨(some 3), none, (.asg (.const (.int .i64 0)))⟩]) (.seq (.seq (.ops [
  ⟨(some 4), none, (.callX 15 [(.tmp 1)])⟩,
  ⟨(some 5), none, (.un .not (.tmp 4))⟩]) (.cond (.tmp 5) (.seq (.ops [
  ⟨(some 6), none, (.build [(.slice none 0 0), (.slice none 0 0)] [])⟩,
  ⟨none, none, (.store 2 (.tmp 2) (.tmp 6))⟩,
  ⟨(some 3), none, (.asg (.const (.int .i64 1)))⟩]) .ret) .skip)) (.seq (.ops [
  ⟨(some 7), none, (.callX 16 [(.tmp 1)])⟩,
  ⟨none, none, (.store 2 (.tmp 2) (.tmp 7))⟩,
  ⟨(some 3), none, (.asg (.const (.int .i64 0)))⟩]) .ret)))
theorem law_spec_PlainSet {a0 d : D} (h : code_spec_PlainSet.wp (CT Try.prog NoG) (endQ [(.c 2 2 true), (.t 3)] d) [a0, .undef, .undef, .undef, .undef, .undef, .undef, .undef]) : Contract Try.prog NoG 5 [a0] d :=
  contract_of (pt := 0) noG Try.func5 (fun us W => by kernel_rfl) (c := Try.f5.body.getD .skip) (ms := []) (ms' := []) (by kernel_rfl) (by kernel_rfl) (by kernel_rfl) h
theorem vPlainSet_impl (q_aSet : SignalSet) (q_aSet_ok : SignalSet.td.ok q_aSet) (q_aSet_n : SignalSet.cnt q_aSet ≤ 1048576) : Contract Try.prog NoG 7 [.agg (SignalSet.td.d false q_aSet)] (.tup [.agg (TileSet.td.d true (PlainSetR q_aSet)), .v (.int .i64 (PlainSetC q_aSet))]) := by
  have hb := sigB_of q_aSet_n; rw [SignalSet.td_d]; refine law_impl_PlainSet ?_; unfold code_impl_PlainSet PlainSetR PlainSetC; simp -implicitDefEqProofs (disch := omega) only [go_sem, ↓reduceIte]; cases h : okSigSet q_aSet with
  | false => rw [if_neg (by decide), if_neg (by decide), TileSet.td_d]; refine call_leA (v_ValidSignalSet q_aSet hb) (by simp -implicitDefEqProofs (disch := omega) only [go_sem, ↓reduceIte, deep, TD.rows, immLL_rI, immLL_rB8, immLL_rS, immLL_rBo, immLL_rII, immLL_rIIt, h]; exact rfl) (by repeat (first | exact leL_nil | refine leL_cons ?_ ?_ | exact le_of_eq rfl | exact le_iptrN (leL_of_eq rfl) | refine le_agg ?_ | exact le_slf rfl (TD.rows ..) | refine le_iptr ?_ | refine le_fn ?_ ?_ | exact le_nilsl_)) (by first | exact .inl rfl | exact .inr rfl | exact .inl (by simp only [D.noImm, noImmL, go_sem, TD.nims, TD.nim, nim_rI, nim_rB8, nim_rBo, nim_rS])) ?_; simp -implicitDefEqProofs (disch := omega) only [go_sem, ↓reduceIte , h]
  | true => rw [if_pos rfl, if_pos rfl, TileSet.td_d]; refine call_leA (v_ValidSignalSet q_aSet hb) (by simp -implicitDefEqProofs (disch := omega) only [go_sem, ↓reduceIte, deep, TD.rows, immLL_rI, immLL_rB8, immLL_rS, immLL_rBo, immLL_rII, immLL_rIIt, h]; exact rfl) (by repeat (first | exact leL_nil | refine leL_cons ?_ ?_ | exact le_of_eq rfl | exact le_iptrN (leL_of_eq rfl) | refine le_agg ?_ | exact le_slf rfl (TD.rows ..) | refine le_iptr ?_ | refine le_fn ?_ ?_ | exact le_nilsl_)) (by first | exact .inl rfl | exact .inr rfl | exact .inl (by simp only [D.noImm, noImmL, go_sem, TD.nims, TD.nim, nim_rI, nim_rB8, nim_rBo, nim_rS])) ?_; simp -implicitDefEqProofs (disch := omega) only [go_sem, ↓reduceIte , h]; refine call_leA (v_plain q_aSet hb) (by simp -implicitDefEqProofs (disch := omega) only [go_sem, ↓reduceIte, deep, TD.rows, immLL_rI, immLL_rB8, immLL_rS, immLL_rBo, immLL_rII, immLL_rIIt, TileSet.td_d]; exact rfl) (by repeat (first | exact leL_nil | refine leL_cons ?_ ?_ | exact le_of_eq rfl | exact le_iptrN (leL_of_eq rfl) | refine le_agg ?_ | exact le_slf rfl (TD.rows ..) | refine le_iptr ?_ | refine le_fn ?_ ?_ | exact le_nilsl_)) (by first | exact .inl rfl | exact .inr rfl | exact .inl (by simp only [D.noImm, noImmL, go_sem, TD.nims, TD.nim, nim_rI, nim_rB8, nim_rBo, nim_rS])) ?_; simp -implicitDefEqProofs (disch := omega) only [go_sem, ↓reduceIte , TileSet.td_d]
set_option maxHeartbeats 1000000 in
theorem vPlainSet_spec (q_aSet : SignalSet) (q_aSet_ok : SignalSet.td.ok q_aSet) (q_aSet_n : SignalSet.cnt q_aSet ≤ 1048576) : Contract Try.prog NoG 5 [.agg (SignalSet.td.d false q_aSet)] (.tup [.agg (TileSet.td.d true (PlainSetR q_aSet)), .v (.int .i64 (PlainSetC q_aSet))]) := by
  have hb := sigB_of q_aSet_n; rw [SignalSet.td_d]; refine law_spec_PlainSet ?_; unfold code_spec_PlainSet PlainSetR PlainSetC; simp -implicitDefEqProofs (disch := omega) only [go_sem, ↓reduceIte]; cases h : okSigSet q_aSet with
  | false => rw [if_neg (by decide), if_neg (by decide), TileSet.td_d]; refine call_leA (v_l31Set q_aSet hb) (by simp -implicitDefEqProofs (disch := omega) only [go_sem, ↓reduceIte, deep, TD.rows, immLL_rI, immLL_rB8, immLL_rS, immLL_rBo, immLL_rII, immLL_rIIt, h]; exact rfl) (by repeat (first | exact leL_nil | refine leL_cons ?_ ?_ | exact le_of_eq rfl | exact le_iptrN (leL_of_eq rfl) | refine le_agg ?_ | exact le_slf rfl (TD.rows ..) | refine le_iptr ?_ | refine le_fn ?_ ?_ | exact le_nilsl_)) (by first | exact .inl rfl | exact .inr rfl | exact .inl (by simp only [D.noImm, noImmL, go_sem, TD.nims, TD.nim, nim_rI, nim_rB8, nim_rBo, nim_rS])) ?_; simp -implicitDefEqProofs (disch := omega) only [go_sem, ↓reduceIte , h]
  | true => rw [if_pos rfl, if_pos rfl, TileSet.td_d]; refine call_leA (v_l31Set q_aSet hb) (by simp -implicitDefEqProofs (disch := omega) only [go_sem, ↓reduceIte, deep, TD.rows, immLL_rI, immLL_rB8, immLL_rS, immLL_rBo, immLL_rII, immLL_rIIt, h]; exact rfl) (by repeat (first | exact leL_nil | refine leL_cons ?_ ?_ | exact le_of_eq rfl | exact le_iptrN (leL_of_eq rfl) | refine le_agg ?_ | exact le_slf rfl (TD.rows ..) | refine le_iptr ?_ | refine le_fn ?_ ?_ | exact le_nilsl_)) (by first | exact .inl rfl | exact .inr rfl | exact .inl (by simp only [D.noImm, noImmL, go_sem, TD.nims, TD.nim, nim_rI, nim_rB8, nim_rBo, nim_rS])) ?_; simp -implicitDefEqProofs (disch := omega) only [go_sem, ↓reduceIte , h]; refine call_leA (v_l31Plain q_aSet hb) (by simp -implicitDefEqProofs (disch := omega) only [go_sem, ↓reduceIte, deep, TD.rows, immLL_rI, immLL_rB8, immLL_rS, immLL_rBo, immLL_rII, immLL_rIIt, TileSet.td_d]; exact rfl) (by repeat (first | exact leL_nil | refine leL_cons ?_ ?_ | exact le_of_eq rfl | exact le_iptrN (leL_of_eq rfl) | refine le_agg ?_ | exact le_slf rfl (TD.rows ..) | refine le_iptr ?_ | refine le_fn ?_ ?_ | exact le_nilsl_)) (by first | exact .inl rfl | exact .inr rfl | exact .inl (by simp only [D.noImm, noImmL, go_sem, TD.nims, TD.nim, nim_rI, nim_rB8, nim_rBo, nim_rS])) ?_; simp -implicitDefEqProofs (disch := omega) only [go_sem, ↓reduceIte , TileSet.td_d]
end Go.Proofs.Ytddkkndgpcgdpaa
