/- Laws that the proof stands on. -/
import Derived.Test.YtbflchedmfeghaaDoorZFCounterSystem
import Derived.Test.YtbflchedmfeghaaDoorZg14
import Derived.Test.YtbflchedmfeghaaDoorZg12
import Derived.Test.YtbflchedmfeghaaDoorZVTab
set_option linter.all false
namespace Go.Proofs.YtbflchedmfeghaaDoor
open Go.RowKit Go.V
attribute [local go_sem] List.getElem?_cons_succ List.getElem?_cons_zero List.set_cons_succ List.set_cons_zero List.map_cons List.map_nil List.length_cons List.length_nil List.all_cons List.all_nil List.drop_succ_cons List.drop_zero List.take_succ_cons List.take_zero List.flatMap_cons List.flatMap_nil List.cons_append List.nil_append List.append_nil List.headD_cons Value.oneCell' Bool.and_true Bool.true_and Bool.or_false Bool.false_or Bool.and_self Bool.not_true Bool.not_false and_true true_and beq_self_eq_true Bool.false_eq_true if_true if_false Nat.zero_add Nat.reduceAdd Nat.reduceMul Nat.reduceLeDiff Nat.le_refl Option.isSome_some Option.isSome_none not_true_eq_false not_false_eq_true ne_eq reduceCtorEq List.reverse_nil bne_self_eq_false Nat.reduceEqDiff List.isPrefixOf Bool.not_eq_true Bool.and_false Bool.false_and Bool.true_or Bool.or_true decide_true decide_false Nat.reduceBEq Nat.reduceBNe List.replicate_succ List.replicate_zero exists_eq_left' exists_eq_left Option.some.injEq or_false or_true true_or false_or Option.map_some Option.map_none mB Nat.reduceMod Nat.reduceDiv
set_option maxRecDepth 100000
attribute [local go_sem] List.length_map decide_true decide_false Int.reduceLT Int.reduceNeg Assembly.td_d System.td_d TileSet.td_d
def code_laws_FnExactCounterSystem : VCode := (.seq (.ops [
  ⟨(some 8), none, (.asg (.const (.bool false)))⟩]) (.seq (.ops [
  ⟨(some 18), none, (.mv (.tmp 0))⟩,
  ⟨(some 19), none, (.mv (.tmp 1))⟩,
  ⟨(some 20), none, (.mv (.tmp 2))⟩,
  ⟨(some 21), none, (.mv (.tmp 3))⟩,
  ⟨(some 22), none, (.callX 6 [(.tmp 18), (.tmp 19), (.tmp 20), (.tmp 21)])⟩,
  ⟨(some 17), none, (.mv (.tmp 22))⟩,
  ⟨(some 23), none, (.ext (.tmp 17) 0)⟩,
  ⟨(some 24), none, (.ext (.tmp 17) 1)⟩,
  ⟨(some 9), none, (.alloc [(.slice none 0 0), (.slice none 0 0), (.slice none 0 0), (.int .i64 0)])⟩,
  ⟨none, none, (.store 4 (.tmp 9) (.tmp 23))⟩,
  ⟨(some 10), none, (.asg (.tmp 24))⟩]) (.seq (.ops [
  ⟨(some 26), none, (.mv (.tmp 0))⟩,
  ⟨(some 27), none, (.mv (.tmp 1))⟩,
  ⟨(some 28), none, (.mv (.tmp 2))⟩,
  ⟨(some 29), none, (.mv (.tmp 3))⟩,
  ⟨(some 30), none, (.callX 7 [(.tmp 26), (.tmp 27), (.tmp 28), (.tmp 29)])⟩,
  ⟨(some 25), none, (.mv (.tmp 30))⟩,
  ⟨(some 31), none, (.ext (.tmp 25) 0)⟩,
  ⟨(some 32), none, (.ext (.tmp 25) 1)⟩,
  ⟨(some 11), none, (.alloc [(.slice none 0 0), (.slice none 0 0), (.slice none 0 0), (.int .i64 0)])⟩,
  ⟨none, none, (.store 4 (.tmp 11) (.tmp 31))⟩,
  ⟨(some 12), none, (.asg (.tmp 32))⟩]) (.seq (.seq (.ops [
  ⟨(some 33), none, (.load 4 true (.tmp 11))⟩,
  ⟨(some 34), none, (.load 4 true (.tmp 9))⟩,
  ⟨(some 35), none, (.callX 8 [(.tmp 33), (.tmp 34)])⟩,
  ⟨(some 36), none, (.un .not (.tmp 35))⟩,
  ⟨(some 37), none, (.mv (.tmp 36))⟩,
  ⟨(some 38), (some (37, false)), (.mv (.tmp 12))⟩,
  ⟨(some 39), (some (37, false)), (.mv (.tmp 10))⟩,
  ⟨(some 40), (some (37, false)), (.bin .neq (.tmp 38) (.tmp 39))⟩,
  ⟨(some 41), none, (.pick (.tmp 37) (.const (.bool true)) (.tmp 40))⟩]) (.cond (.tmp 41) (.seq (.ops [
  ⟨(some 8), none, (.asg (.const (.bool false)))⟩]) .ret) .skip)) (.seq (.ops [
  ⟨(some 13), none, (.asg (.const (.int .i64 1)))⟩]) (.seq (.ops [
  ⟨(some 42), none, (.load 4 true (.tmp 11))⟩,
  ⟨(some 43), none, (.mv (.tmp 13))⟩,
  ⟨(some 44), none, (.callX 9 [(.tmp 42), (.tmp 43)])⟩,
  ⟨(some 13), none, (.asg (.tmp 44))⟩]) (.seq (.ops [
  ⟨(some 14), none, (.asg (.const (.int .i64 1)))⟩]) (.seq (.ops [
  ⟨(some 45), none, (.load 4 true (.tmp 11))⟩,
  ⟨(some 46), none, (.mv (.tmp 14))⟩,
  ⟨(some 47), none, (.callX 10 [(.tmp 45), (.tmp 46)])⟩,
  ⟨(some 14), none, (.asg (.tmp 47))⟩]) (.seq (.seq (.ops [
  ⟨(some 48), none, (.mv (.tmp 14))⟩,
  ⟨(some 49), none, (.bin .lss (.tmp 48) (.const (.int .i64 0)))⟩]) (.cond (.tmp 49) (.seq (.ops [
  ⟨(some 8), none, (.asg (.const (.bool false)))⟩]) .ret) .skip)) (.seq (.seq (.ops [
  ⟨(some 50), none, (.mv (.tmp 14))⟩,
  ⟨(some 51), none, (.mv (.tmp 13))⟩,
  ⟨(some 52), none, (.bin .neq (.tmp 50) (.tmp 51))⟩]) (.cond (.tmp 52) (.seq (.ops [
  ⟨(some 8), none, (.asg (.const (.bool false)))⟩]) .ret) .skip)) (.seq (.ops [
  ⟨(some 54), none, (.mv (.tmp 0))⟩,
  ⟨(some 55), none, (.mv (.tmp 1))⟩,
  ⟨(some 56), none, (.mv (.tmp 2))⟩,
  ⟨(some 57), none, (.mv (.tmp 3))⟩,
  ⟨(some 58), none, (.callX 7 [(.tmp 54), (.tmp 55), (.tmp 56), (.tmp 57)])⟩,
  ⟨(some 53), none, (.mv (.tmp 58))⟩,
  ⟨(some 59), none, (.ext (.tmp 53) 0)⟩,
  ⟨(some 60), none, (.ext (.tmp 53) 1)⟩,
  ⟨(some 15), none, (.alloc [(.slice none 0 0), (.slice none 0 0), (.slice none 0 0), (.int .i64 0)])⟩,
  ⟨none, none, (.store 4 (.tmp 15) (.tmp 59))⟩,
  ⟨(some 16), none, (.asg (.tmp 60))⟩]) (.seq (.seq (.ops [
  ⟨(some 61), none, (.load 4 true (.tmp 15))⟩,
  ⟨(some 62), none, (.load 4 true (.tmp 9))⟩,
  ⟨(some 63), none, (.callX 8 [(.tmp 61), (.tmp 62)])⟩,
  ⟨(some 64), none, (.un .not (.tmp 63))⟩,
  ⟨(some 65), none, (.mv (.tmp 64))⟩,
  ⟨(some 66), (some (65, false)), (.mv (.tmp 16))⟩,
  ⟨(some 67), (some (65, false)), (.mv (.tmp 10))⟩,
  ⟨(some 68), (some (65, false)), (.bin .neq (.tmp 66) (.tmp 67))⟩,
  ⟨(some 69), none, (.pick (.tmp 65) (.const (.bool true)) (.tmp 68))⟩]) (.cond (.tmp 69) (.seq (.ops [
  ⟨(some 8), none, (.asg (.const (.bool false)))⟩]) .ret) .skip)) (.seq (.ops [
  ⟨(some 14), none, (.asg (.const (.int .i64 1)))⟩]) (.seq (.ops [
  ⟨(some 70), none, (.load 4 true (.tmp 11))⟩,
  ⟨(some 71), none, (.mv (.tmp 14))⟩,
  ⟨(some 72), none, (.callX 10 [(.tmp 70), (.tmp 71)])⟩,
  ⟨(some 14), none, (.asg (.tmp 72))⟩]) (.seq (.seq (.ops [
  ⟨(some 73), none, (.mv (.tmp 14))⟩,
  ⟨(some 74), none, (.bin .lss (.tmp 73) (.const (.int .i64 0)))⟩]) (.cond (.tmp 74) (.seq (.ops [
  ⟨(some 8), none, (.asg (.const (.bool false)))⟩]) .ret) .skip)) (.seq (.seq (.ops [
  ⟨(some 75), none, (.mv (.tmp 14))⟩,
  ⟨(some 76), none, (.mv (.tmp 13))⟩,
  ⟨(some 77), none, (.bin .neq (.tmp 75) (.tmp 76))⟩]) (.cond (.tmp 77) (.seq (.ops [
  ⟨(some 8), none, (.asg (.const (.bool false)))⟩]) .ret) .skip)) (.seq (.ops [
  ⟨(some 8), none, (.asg (.const (.bool true)))⟩]) .ret)))))))))))))))))
theorem law_laws_FnExactCounterSystem {a0 a1 a2 a3 d : D} (h : code_laws_FnExactCounterSystem.wp (CT Tryd.prog TabG) (endQ [(.t 8)] d) [a0, a1, a2, a3, .undef, .undef, .undef, .undef, .undef, .undef, .undef, .undef, .undef, .undef, .undef, .undef, .undef, .undef, .undef, .undef, .undef, .undef, .undef, .undef, .undef, .undef, .undef, .undef, .undef, .undef, .undef, .undef, .undef, .undef, .undef, .undef, .undef, .undef, .undef, .undef, .undef, .undef, .undef, .undef, .undef, .undef, .undef, .undef, .undef, .undef, .undef, .undef, .undef, .undef, .undef, .undef, .undef, .undef, .undef, .undef, .undef, .undef, .undef, .undef, .undef, .undef, .undef, .undef, .undef, .undef, .undef, .undef, .undef, .undef, .undef, .undef, .undef, .undef]) : Contract Tryd.prog TabG 3 [a0, a1, a2, a3] d :=
  contract_of (pt := 0) tabG Tryd.func3 (fun us W => by kernel_rfl) (c := Tryd.f3.body.getD .skip) (ms := []) (ms' := []) (by kernel_rfl) (by kernel_rfl) (by kernel_rfl) h
set_option maxHeartbeats 8000000 in
theorem vlawCounterSystem (q_aBase : Int) (q_aBase_ok : InK .i64 q_aBase) (q_aDigits : Int) (q_aDigits_ok : InK .i64 q_aDigits) (q_aStart : Int) (q_aStart_ok : InK .i64 q_aStart) (q_aRows : Int) (q_aRows_ok : InK .i64 q_aRows) : Contract Tryd.prog TabG 3 [.v (.int .i64 q_aBase), .v (.int .i64 q_aDigits), .v (.int .i64 q_aStart), .v (.int .i64 q_aRows)] (.v (.bool true)) := by
  have hr0 := (CounterR_ok q_aBase q_aBase_ok q_aDigits q_aDigits_ok q_aStart q_aStart_ok q_aRows q_aRows_ok)
  have hm_0 := (show (System.cnT (CounterR q_aBase q_aDigits q_aStart q_aRows)) ≤ 1000000000000 from CounterR_cn q_aBase q_aDigits q_aStart q_aRows)
  have dm0 : decide (((1 + (System.cnT (CounterR q_aBase q_aDigits q_aStart q_aRows) : Nat)) : Int) < 0) = false := (by rw [decide_eq_false_iff_not]; omega); refine law_laws_FnExactCounterSystem ?_; unfold code_laws_FnExactCounterSystem; simp -implicitDefEqProofs (disch := omega) only [go_sem, ↓reduceIte , decide_true, dm0]; refine call_B (vCounterSystem_spec q_aBase q_aBase_ok q_aDigits q_aDigits_ok q_aStart q_aStart_ok q_aRows q_aRows_ok) (by simp -implicitDefEqProofs (disch := omega) only [go_sem, ↓reduceIte, deep, TD.rows, immLL_rI, immLL_rB8, immLL_rS, immLL_rBo, immLL_rII, immLL_rIIt, decide_true, dm0]; exact rfl) ?_; simp -implicitDefEqProofs (disch := omega) only [go_sem, ↓reduceIte , decide_true, dm0]; refine call_B (vCounterSystem_impl q_aBase q_aBase_ok q_aDigits q_aDigits_ok q_aStart q_aStart_ok q_aRows q_aRows_ok) (by simp -implicitDefEqProofs (disch := omega) only [go_sem, ↓reduceIte, deep, TD.rows, immLL_rI, immLL_rB8, immLL_rS, immLL_rBo, immLL_rII, immLL_rIIt, decide_true, dm0]; exact rfl) ?_; simp -implicitDefEqProofs (disch := omega) only [go_sem, ↓reduceIte , decide_true, dm0]; refine call_B (v_eqSystem (CounterR q_aBase q_aDigits q_aStart q_aRows) hr0) (by simp -implicitDefEqProofs (disch := omega) only [go_sem, ↓reduceIte, deep, TD.rows, immLL_rI, immLL_rB8, immLL_rS, immLL_rBo, immLL_rII, immLL_rIIt, decide_true, dm0]; exact rfl) ?_; simp -implicitDefEqProofs (disch := omega) only [go_sem, ↓reduceIte , decide_true, dm0]; refine call_markB (r := 11) (v_markSystem (CounterR q_aBase q_aDigits q_aStart q_aRows) hr0 (1) (by omega) (by omega)) rfl rfl rfl rfl ?_; simp -implicitDefEqProofs (disch := omega) only [go_sem, ↓reduceIte , decide_true, dm0]; refine call_B (v_heldSystem (CounterR q_aBase q_aDigits q_aStart q_aRows) hr0 (1) (by omega) (by omega)) (by simp -implicitDefEqProofs (disch := omega) only [go_sem, ↓reduceIte, deep, TD.rows, immLL_rI, immLL_rB8, immLL_rS, immLL_rBo, immLL_rII, immLL_rIIt, decide_true, dm0]; exact rfl) ?_; simp -implicitDefEqProofs (disch := omega) only [go_sem, ↓reduceIte , decide_true, dm0]; refine call_B (vCounterSystem_impl q_aBase q_aBase_ok q_aDigits q_aDigits_ok q_aStart q_aStart_ok q_aRows q_aRows_ok) (by simp -implicitDefEqProofs (disch := omega) only [go_sem, ↓reduceIte, deep, TD.rows, immLL_rI, immLL_rB8, immLL_rS, immLL_rBo, immLL_rII, immLL_rIIt, decide_true, dm0]; exact rfl) ?_; simp -implicitDefEqProofs (disch := omega) only [go_sem, ↓reduceIte , decide_true, dm0]; refine call_B (v_eqSystem (CounterR q_aBase q_aDigits q_aStart q_aRows) hr0) (by simp -implicitDefEqProofs (disch := omega) only [go_sem, ↓reduceIte, deep, TD.rows, immLL_rI, immLL_rB8, immLL_rS, immLL_rBo, immLL_rII, immLL_rIIt, decide_true, dm0]; exact rfl) ?_; simp -implicitDefEqProofs (disch := omega) only [go_sem, ↓reduceIte , decide_true, dm0]; refine call_B (v_heldSystem (CounterR q_aBase q_aDigits q_aStart q_aRows) hr0 (1) (by omega) (by omega)) (by simp -implicitDefEqProofs (disch := omega) only [go_sem, ↓reduceIte, deep, TD.rows, immLL_rI, immLL_rB8, immLL_rS, immLL_rBo, immLL_rII, immLL_rIIt, decide_true, dm0]; exact rfl) ?_; simp -implicitDefEqProofs (disch := omega) only [go_sem, ↓reduceIte , decide_true, dm0]
theorem walk_fnExactCounterSystem (q_aBase : Int) (q_aDigits : Int) (q_aStart : Int) (q_aRows : Int) (w : World) (hTab : GI TabG w (fun b => b < w.heap.size)) (q_aBase_p : InK .i64 q_aBase) (q_aDigits_p : InK .i64 q_aDigits) (q_aStart_p : InK .i64 q_aStart) (q_aRows_p : InK .i64 q_aRows) :
    Calls Tryd.prog 3 #[.int .i64 q_aBase, .int .i64 q_aDigits, .int .i64 q_aStart, .int .i64 q_aRows] w fun e w' => e = .returned (.bool true) ∧ Below w.heap.size w w' := by
  refine (Contract.at (vlawCounterSystem q_aBase q_aBase_p q_aDigits q_aDigits_p q_aStart q_aStart_p q_aRows q_aRows_p) hTab (Nat.le_refl _) (vals_cons (vals_v _) (vals_cons (vals_v _) (vals_cons (vals_v _) (vals_cons (vals_v _) vals_nil))))).mono ?_; rintro e w' ⟨⟨v, I, F, rfl, hT, hn, hF⟩, hb⟩; obtain rfl := T_v hT; exact ⟨rfl, hb⟩
end Go.Proofs.YtbflchedmfeghaaDoor
