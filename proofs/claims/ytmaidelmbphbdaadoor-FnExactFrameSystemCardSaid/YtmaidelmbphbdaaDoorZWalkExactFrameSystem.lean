/- Laws that the proof stands on. -/
import Derived.Test.YtmaidelmbphbdaaDoorZFFrameSystem
import Derived.Test.YtmaidelmbphbdaaDoorZg17
import Derived.Test.YtmaidelmbphbdaaDoorZg15
import Derived.Test.YtmaidelmbphbdaaDoorZVTab
set_option linter.all false
namespace Go.Proofs.YtmaidelmbphbdaaDoor
open Go.RowKit Go.V
attribute [local go_sem] List.getElem?_cons_succ List.getElem?_cons_zero List.set_cons_succ List.set_cons_zero List.map_cons List.map_nil List.length_cons List.length_nil List.all_cons List.all_nil List.drop_succ_cons List.drop_zero List.take_succ_cons List.take_zero List.flatMap_cons List.flatMap_nil List.cons_append List.nil_append List.append_nil List.headD_cons Value.oneCell' Bool.and_true Bool.true_and Bool.or_false Bool.false_or Bool.and_self Bool.not_true Bool.not_false and_true true_and beq_self_eq_true Bool.false_eq_true if_true if_false Nat.zero_add Nat.reduceAdd Nat.reduceMul Nat.reduceLeDiff Nat.le_refl Option.isSome_some Option.isSome_none not_true_eq_false not_false_eq_true ne_eq reduceCtorEq List.reverse_nil bne_self_eq_false Nat.reduceEqDiff List.isPrefixOf Bool.not_eq_true Bool.and_false Bool.false_and Bool.true_or Bool.or_true decide_true decide_false Nat.reduceBEq Nat.reduceBNe List.replicate_succ List.replicate_zero exists_eq_left' exists_eq_left Option.some.injEq or_false or_true true_or false_or Option.map_some Option.map_none mB Nat.reduceMod Nat.reduceDiv
set_option maxRecDepth 100000
attribute [local go_sem] List.length_map decide_true decide_false Int.reduceLT Int.reduceNeg Assembly.td_d System.td_d TileSet.td_d
def code_laws_FnExactFrameSystem : VCode := (.seq (.ops [
  ⟨(some 4), none, (.asg (.const (.bool false)))⟩]) (.seq (.ops [
  ⟨(some 14), none, (.mv (.tmp 0))⟩,
  ⟨(some 15), none, (.mv (.tmp 1))⟩,
  ⟨(some 16), none, (.callX 8 [(.tmp 14), (.tmp 15)])⟩,
  ⟨(some 13), none, (.mv (.tmp 16))⟩,
  ⟨(some 17), none, (.ext (.tmp 13) 0)⟩,
  ⟨(some 18), none, (.ext (.tmp 13) 1)⟩,
  ⟨(some 5), none, (.alloc [(.slice none 0 0), (.slice none 0 0), (.slice none 0 0), (.int .i64 0)])⟩,
  ⟨none, none, (.store 4 (.tmp 5) (.tmp 17))⟩,
  ⟨(some 6), none, (.asg (.tmp 18))⟩]) (.seq (.ops [
  ⟨(some 20), none, (.mv (.tmp 0))⟩,
  ⟨(some 21), none, (.mv (.tmp 1))⟩,
  ⟨(some 22), none, (.callX 9 [(.tmp 20), (.tmp 21)])⟩,
  ⟨(some 19), none, (.mv (.tmp 22))⟩,
  ⟨(some 23), none, (.ext (.tmp 19) 0)⟩,
  ⟨(some 24), none, (.ext (.tmp 19) 1)⟩,
  ⟨(some 7), none, (.alloc [(.slice none 0 0), (.slice none 0 0), (.slice none 0 0), (.int .i64 0)])⟩,
  ⟨none, none, (.store 4 (.tmp 7) (.tmp 23))⟩,
  ⟨(some 8), none, (.asg (.tmp 24))⟩]) (.seq (.seq (.ops [
  ⟨(some 25), none, (.load 4 true (.tmp 7))⟩,
  ⟨(some 26), none, (.load 4 true (.tmp 5))⟩,
  ⟨(some 27), none, (.callX 10 [(.tmp 25), (.tmp 26)])⟩,
  ⟨(some 28), none, (.un .not (.tmp 27))⟩,
  ⟨(some 29), none, (.mv (.tmp 28))⟩,
  ⟨(some 30), (some (29, false)), (.mv (.tmp 8))⟩,
  ⟨(some 31), (some (29, false)), (.mv (.tmp 6))⟩,
  ⟨(some 32), (some (29, false)), (.bin .neq (.tmp 30) (.tmp 31))⟩,
  ⟨(some 33), none, (.pick (.tmp 29) (.const (.bool true)) (.tmp 32))⟩]) (.cond (.tmp 33) (.seq (.ops [
  ⟨(some 4), none, (.asg (.const (.bool false)))⟩]) .ret) .skip)) (.seq (.ops [
  ⟨(some 9), none, (.asg (.const (.int .i64 1)))⟩]) (.seq (.ops [
  ⟨(some 34), none, (.load 4 true (.tmp 7))⟩,
  ⟨(some 35), none, (.mv (.tmp 9))⟩,
  ⟨(some 36), none, (.callX 11 [(.tmp 34), (.tmp 35)])⟩,
  ⟨(some 9), none, (.asg (.tmp 36))⟩]) (.seq (.ops [
  ⟨(some 10), none, (.asg (.const (.int .i64 1)))⟩]) (.seq (.ops [
  ⟨(some 37), none, (.load 4 true (.tmp 7))⟩,
  ⟨(some 38), none, (.mv (.tmp 10))⟩,
  ⟨(some 39), none, (.callX 12 [(.tmp 37), (.tmp 38)])⟩,
  ⟨(some 10), none, (.asg (.tmp 39))⟩]) (.seq (.seq (.ops [
  ⟨(some 40), none, (.mv (.tmp 10))⟩,
  ⟨(some 41), none, (.bin .lss (.tmp 40) (.const (.int .i64 0)))⟩]) (.cond (.tmp 41) (.seq (.ops [
  ⟨(some 4), none, (.asg (.const (.bool false)))⟩]) .ret) .skip)) (.seq (.seq (.ops [
  ⟨(some 42), none, (.mv (.tmp 10))⟩,
  ⟨(some 43), none, (.mv (.tmp 9))⟩,
  ⟨(some 44), none, (.bin .neq (.tmp 42) (.tmp 43))⟩]) (.cond (.tmp 44) (.seq (.ops [
  ⟨(some 4), none, (.asg (.const (.bool false)))⟩]) .ret) .skip)) (.seq (.ops [
  ⟨(some 46), none, (.mv (.tmp 0))⟩,
  ⟨(some 47), none, (.mv (.tmp 1))⟩,
  ⟨(some 48), none, (.callX 9 [(.tmp 46), (.tmp 47)])⟩,
  ⟨(some 45), none, (.mv (.tmp 48))⟩,
  ⟨(some 49), none, (.ext (.tmp 45) 0)⟩,
  ⟨(some 50), none, (.ext (.tmp 45) 1)⟩,
  ⟨(some 11), none, (.alloc [(.slice none 0 0), (.slice none 0 0), (.slice none 0 0), (.int .i64 0)])⟩,
  ⟨none, none, (.store 4 (.tmp 11) (.tmp 49))⟩,
  ⟨(some 12), none, (.asg (.tmp 50))⟩]) (.seq (.seq (.ops [
  ⟨(some 51), none, (.load 4 true (.tmp 11))⟩,
  ⟨(some 52), none, (.load 4 true (.tmp 5))⟩,
  ⟨(some 53), none, (.callX 10 [(.tmp 51), (.tmp 52)])⟩,
  ⟨(some 54), none, (.un .not (.tmp 53))⟩,
  ⟨(some 55), none, (.mv (.tmp 54))⟩,
  ⟨(some 56), (some (55, false)), (.mv (.tmp 12))⟩,
  ⟨(some 57), (some (55, false)), (.mv (.tmp 6))⟩,
  ⟨(some 58), (some (55, false)), (.bin .neq (.tmp 56) (.tmp 57))⟩,
  ⟨(some 59), none, (.pick (.tmp 55) (.const (.bool true)) (.tmp 58))⟩]) (.cond (.tmp 59) (.seq (.ops [
  ⟨(some 4), none, (.asg (.const (.bool false)))⟩]) .ret) .skip)) (.seq (.ops [
  ⟨(some 10), none, (.asg (.const (.int .i64 1)))⟩]) (.seq (.ops [
  ⟨(some 60), none, (.load 4 true (.tmp 7))⟩,
  ⟨(some 61), none, (.mv (.tmp 10))⟩,
  ⟨(some 62), none, (.callX 12 [(.tmp 60), (.tmp 61)])⟩,
  ⟨(some 10), none, (.asg (.tmp 62))⟩]) (.seq (.seq (.ops [
  ⟨(some 63), none, (.mv (.tmp 10))⟩,
  ⟨(some 64), none, (.bin .lss (.tmp 63) (.const (.int .i64 0)))⟩]) (.cond (.tmp 64) (.seq (.ops [
  ⟨(some 4), none, (.asg (.const (.bool false)))⟩]) .ret) .skip)) (.seq (.seq (.ops [
  ⟨(some 65), none, (.mv (.tmp 10))⟩,
  ⟨(some 66), none, (.mv (.tmp 9))⟩,
  ⟨(some 67), none, (.bin .neq (.tmp 65) (.tmp 66))⟩]) (.cond (.tmp 67) (.seq (.ops [
  ⟨(some 4), none, (.asg (.const (.bool false)))⟩]) .ret) .skip)) (.seq (.ops [
  ⟨(some 4), none, (.asg (.const (.bool true)))⟩]) .ret)))))))))))))))))
theorem law_laws_FnExactFrameSystem {a0 a1 d : D} (h : code_laws_FnExactFrameSystem.wp (CT Tryd.prog TabG) (endQ [(.t 4)] d) [a0, a1, .undef, .undef, .undef, .undef, .undef, .undef, .undef, .undef, .undef, .undef, .undef, .undef, .undef, .undef, .undef, .undef, .undef, .undef, .undef, .undef, .undef, .undef, .undef, .undef, .undef, .undef, .undef, .undef, .undef, .undef, .undef, .undef, .undef, .undef, .undef, .undef, .undef, .undef, .undef, .undef, .undef, .undef, .undef, .undef, .undef, .undef, .undef, .undef, .undef, .undef, .undef, .undef, .undef, .undef, .undef, .undef, .undef, .undef, .undef, .undef, .undef, .undef, .undef, .undef, .undef, .undef]) : Contract Tryd.prog TabG 3 [a0, a1] d :=
  contract_of (pt := 0) tabG Tryd.func3 (fun us W => by kernel_rfl) (c := Tryd.f3.body.getD .skip) (ms := []) (ms' := []) (by kernel_rfl) (by kernel_rfl) (by kernel_rfl) h
set_option maxHeartbeats 8000000 in
theorem vlawFrameSystem (q_aWidth : Int) (q_aWidth_ok : InK .i64 q_aWidth) (q_aHeight : Int) (q_aHeight_ok : InK .i64 q_aHeight) : Contract Tryd.prog TabG 3 [.v (.int .i64 q_aWidth), .v (.int .i64 q_aHeight)] (.v (.bool true)) := by
  have hr0 := (FrameSystemR_ok q_aWidth q_aWidth_ok q_aHeight q_aHeight_ok)
  have hm_0 := (show (System.cnT (FrameSystemR q_aWidth q_aHeight)) ≤ 1000000000000 from FrameSystemR_cn q_aWidth q_aHeight)
  have dm0 : decide (((1 + (System.cnT (FrameSystemR q_aWidth q_aHeight) : Nat)) : Int) < 0) = false := (by rw [decide_eq_false_iff_not]; omega); refine law_laws_FnExactFrameSystem ?_; unfold code_laws_FnExactFrameSystem; simp -implicitDefEqProofs (disch := omega) only [go_sem, ↓reduceIte , decide_true, dm0]; refine call_leA (vFrameSystem_spec q_aWidth q_aWidth_ok q_aHeight q_aHeight_ok) (by simp -implicitDefEqProofs (disch := omega) only [go_sem, ↓reduceIte, deep, TD.rows, immLL_rI, immLL_rB8, immLL_rS, immLL_rBo, immLL_rII, immLL_rIIt, decide_true, dm0]; exact rfl) (by repeat (first | exact leL_nil | refine leL_cons ?_ ?_ | exact le_of_eq rfl | exact le_iptrN (leL_of_eq rfl) | refine le_agg ?_ | exact le_slf rfl (TD.rows ..) | refine le_iptr ?_ | refine le_fn ?_ ?_ | exact le_nilsl_)) (by first | exact .inl rfl | exact .inr rfl | exact .inl (by simp only [D.noImm, noImmL, go_sem, TD.nims, TD.nim, nim_rI, nim_rB8, nim_rBo, nim_rS])) ?_; simp -implicitDefEqProofs (disch := omega) only [go_sem, ↓reduceIte , decide_true, dm0]; refine call_leA (vFrameSystem_impl q_aWidth q_aWidth_ok q_aHeight q_aHeight_ok) (by simp -implicitDefEqProofs (disch := omega) only [go_sem, ↓reduceIte, deep, TD.rows, immLL_rI, immLL_rB8, immLL_rS, immLL_rBo, immLL_rII, immLL_rIIt, decide_true, dm0]; exact rfl) (by repeat (first | exact leL_nil | refine leL_cons ?_ ?_ | exact le_of_eq rfl | exact le_iptrN (leL_of_eq rfl) | refine le_agg ?_ | exact le_slf rfl (TD.rows ..) | refine le_iptr ?_ | refine le_fn ?_ ?_ | exact le_nilsl_)) (by first | exact .inl rfl | exact .inr rfl | exact .inl (by simp only [D.noImm, noImmL, go_sem, TD.nims, TD.nim, nim_rI, nim_rB8, nim_rBo, nim_rS])) ?_; simp -implicitDefEqProofs (disch := omega) only [go_sem, ↓reduceIte , decide_true, dm0]; refine call_leA (v_eqSystem (FrameSystemR q_aWidth q_aHeight) hr0) (by simp -implicitDefEqProofs (disch := omega) only [go_sem, ↓reduceIte, deep, TD.rows, immLL_rI, immLL_rB8, immLL_rS, immLL_rBo, immLL_rII, immLL_rIIt, decide_true, dm0]; exact rfl) (by repeat (first | exact leL_nil | refine leL_cons ?_ ?_ | exact le_of_eq rfl | exact le_iptrN (leL_of_eq rfl) | refine le_agg ?_ | exact le_slf rfl (TD.rows ..) | refine le_iptr ?_ | refine le_fn ?_ ?_ | exact le_nilsl_)) (by first | exact .inl rfl | exact .inr rfl | exact .inl (by simp only [D.noImm, noImmL, go_sem, TD.nims, TD.nim, nim_rI, nim_rB8, nim_rBo, nim_rS])) ?_; simp -implicitDefEqProofs (disch := omega) only [go_sem, ↓reduceIte , decide_true, dm0]; refine call_markB (r := 7) (v_markSystem (FrameSystemR q_aWidth q_aHeight) hr0 (1) (by omega) (by omega)) rfl rfl rfl rfl ?_; simp -implicitDefEqProofs (disch := omega) only [go_sem, ↓reduceIte , decide_true, dm0]; refine call_leA (v_heldSystem (FrameSystemR q_aWidth q_aHeight) hr0 (1) (by omega) (by omega)) (by simp -implicitDefEqProofs (disch := omega) only [go_sem, ↓reduceIte, deep, TD.rows, immLL_rI, immLL_rB8, immLL_rS, immLL_rBo, immLL_rII, immLL_rIIt, decide_true, dm0]; exact rfl) (by repeat (first | exact leL_nil | refine leL_cons ?_ ?_ | exact le_of_eq rfl | exact le_iptrN (leL_of_eq rfl) | refine le_agg ?_ | exact le_slf rfl (TD.rows ..) | refine le_iptr ?_ | refine le_fn ?_ ?_ | exact le_nilsl_)) (by first | exact .inl rfl | exact .inr rfl | exact .inl (by simp only [D.noImm, noImmL, go_sem, TD.nims, TD.nim, nim_rI, nim_rB8, nim_rBo, nim_rS])) ?_; simp -implicitDefEqProofs (disch := omega) only [go_sem, ↓reduceIte , decide_true, dm0]; refine call_leA (vFrameSystem_impl q_aWidth q_aWidth_ok q_aHeight q_aHeight_ok) (by simp -implicitDefEqProofs (disch := omega) only [go_sem, ↓reduceIte, deep, TD.rows, immLL_rI, immLL_rB8, immLL_rS, immLL_rBo, immLL_rII, immLL_rIIt, decide_true, dm0]; exact rfl) (by repeat (first | exact leL_nil | refine leL_cons ?_ ?_ | exact le_of_eq rfl | exact le_iptrN (leL_of_eq rfl) | refine le_agg ?_ | exact le_slf rfl (TD.rows ..) | refine le_iptr ?_ | refine le_fn ?_ ?_ | exact le_nilsl_)) (by first | exact .inl rfl | exact .inr rfl | exact .inl (by simp only [D.noImm, noImmL, go_sem, TD.nims, TD.nim, nim_rI, nim_rB8, nim_rBo, nim_rS])) ?_; simp -implicitDefEqProofs (disch := omega) only [go_sem, ↓reduceIte , decide_true, dm0]; refine call_leA (v_eqSystem (FrameSystemR q_aWidth q_aHeight) hr0) (by simp -implicitDefEqProofs (disch := omega) only [go_sem, ↓reduceIte, deep, TD.rows, immLL_rI, immLL_rB8, immLL_rS, immLL_rBo, immLL_rII, immLL_rIIt, decide_true, dm0]; exact rfl) (by repeat (first | exact leL_nil | refine leL_cons ?_ ?_ | exact le_of_eq rfl | exact le_iptrN (leL_of_eq rfl) | refine le_agg ?_ | exact le_slf rfl (TD.rows ..) | refine le_iptr ?_ | refine le_fn ?_ ?_ | exact le_nilsl_)) (by first | exact .inl rfl | exact .inr rfl | exact .inl (by simp only [D.noImm, noImmL, go_sem, TD.nims, TD.nim, nim_rI, nim_rB8, nim_rBo, nim_rS])) ?_; simp -implicitDefEqProofs (disch := omega) only [go_sem, ↓reduceIte , decide_true, dm0]; refine call_leA (v_heldSystem (FrameSystemR q_aWidth q_aHeight) hr0 (1) (by omega) (by omega)) (by simp -implicitDefEqProofs (disch := omega) only [go_sem, ↓reduceIte, deep, TD.rows, immLL_rI, immLL_rB8, immLL_rS, immLL_rBo, immLL_rII, immLL_rIIt, decide_true, dm0]; exact rfl) (by repeat (first | exact leL_nil | refine leL_cons ?_ ?_ | exact le_of_eq rfl | exact le_iptrN (leL_of_eq rfl) | refine le_agg ?_ | exact le_slf rfl (TD.rows ..) | refine le_iptr ?_ | refine le_fn ?_ ?_ | exact le_nilsl_)) (by first | exact .inl rfl | exact .inr rfl | exact .inl (by simp only [D.noImm, noImmL, go_sem, TD.nims, TD.nim, nim_rI, nim_rB8, nim_rBo, nim_rS])) ?_; simp -implicitDefEqProofs (disch := omega) only [go_sem, ↓reduceIte , decide_true, dm0]
theorem walk_fnExactFrameSystem (q_aWidth : Int) (q_aHeight : Int) (w : World) (hTab : GI TabG w (fun b => b < w.heap.size)) (q_aWidth_p : InK .i64 q_aWidth) (q_aHeight_p : InK .i64 q_aHeight) :
    Calls Tryd.prog 3 #[.int .i64 q_aWidth, .int .i64 q_aHeight] w fun e w' => e = .returned (.bool true) ∧ Below w.heap.size w w' := by
  refine (Contract.at (vlawFrameSystem q_aWidth q_aWidth_p q_aHeight q_aHeight_p) hTab (Nat.le_refl _) (vals_cons (vals_v _) (vals_cons (vals_v _) vals_nil))).mono ?_; rintro e w' ⟨⟨v, I, F, rfl, hT, hn, hF⟩, hb⟩; obtain rfl := T_v hT; exact ⟨rfl, hb⟩
end Go.Proofs.YtmaidelmbphbdaaDoor
