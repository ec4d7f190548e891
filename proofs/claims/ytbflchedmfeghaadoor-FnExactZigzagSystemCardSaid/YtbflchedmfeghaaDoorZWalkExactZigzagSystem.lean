/- Laws that the proof stands on. -/
import Derived.Test.YtbflchedmfeghaaDoorZFZigzagSystem
import Derived.Test.YtbflchedmfeghaaDoorZg14
import Derived.Test.YtbflchedmfeghaaDoorZg12
import Derived.Test.YtbflchedmfeghaaDoorZVTab
set_option linter.all false
namespace Go.Proofs.YtbflchedmfeghaaDoor
open Go.RowKit Go.V
attribute [local go_sem] List.getElem?_cons_succ List.getElem?_cons_zero List.set_cons_succ List.set_cons_zero List.map_cons List.map_nil List.length_cons List.length_nil List.all_cons List.all_nil List.drop_succ_cons List.drop_zero List.take_succ_cons List.take_zero List.flatMap_cons List.flatMap_nil List.cons_append List.nil_append List.append_nil List.headD_cons Value.oneCell' Bool.and_true Bool.true_and Bool.or_false Bool.false_or Bool.and_self Bool.not_true Bool.not_false and_true true_and beq_self_eq_true Bool.false_eq_true if_true if_false Nat.zero_add Nat.reduceAdd Nat.reduceMul Nat.reduceLeDiff Nat.le_refl Option.isSome_some Option.isSome_none not_true_eq_false not_false_eq_true ne_eq reduceCtorEq List.reverse_nil bne_self_eq_false Nat.reduceEqDiff List.isPrefixOf Bool.not_eq_true Bool.and_false Bool.false_and Bool.true_or Bool.or_true decide_true decide_false Nat.reduceBEq Nat.reduceBNe List.replicate_succ List.replicate_zero exists_eq_left' exists_eq_left Option.some.injEq or_false or_true true_or false_or Option.map_some Option.map_none mB Nat.reduceMod Nat.reduceDiv
set_option maxRecDepth 100000
attribute [local go_sem] List.length_map decide_true decide_false Int.reduceLT Int.reduceNeg Assembly.td_d System.td_d TileSet.td_d
def code_laws_FnExactZigzagSystem : VCode := (.seq (.ops [
  ⟨(some 6), none, (.asg (.const (.bool false)))⟩]) (.seq (.ops [
  ⟨(some 16), none, (.mv (.tmp 0))⟩,
  ⟨(some 17), none, (.mv (.tmp 1))⟩,
  ⟨(some 18), none, (.mv (.tmp 2))⟩,
  ⟨(some 19), none, (.callX 11 [(.tmp 16), (.tmp 17), (.tmp 18)])⟩,
  ⟨(some 15), none, (.mv (.tmp 19))⟩,
  ⟨(some 20), none, (.ext (.tmp 15) 0)⟩,
  ⟨(some 21), none, (.ext (.tmp 15) 1)⟩,
  ⟨(some 7), none, (.alloc [(.slice none 0 0), (.slice none 0 0), (.slice none 0 0), (.int .i64 0)])⟩,
  ⟨none, none, (.store 4 (.tmp 7) (.tmp 20))⟩,
  ⟨(some 8), none, (.asg (.tmp 21))⟩]) (.seq (.ops [
  ⟨(some 23), none, (.mv (.tmp 0))⟩,
  ⟨(some 24), none, (.mv (.tmp 1))⟩,
  ⟨(some 25), none, (.mv (.tmp 2))⟩,
  ⟨(some 26), none, (.callX 12 [(.tmp 23), (.tmp 24), (.tmp 25)])⟩,
  ⟨(some 22), none, (.mv (.tmp 26))⟩,
  ⟨(some 27), none, (.ext (.tmp 22) 0)⟩,
  ⟨(some 28), none, (.ext (.tmp 22) 1)⟩,
  ⟨(some 9), none, (.alloc [(.slice none 0 0), (.slice none 0 0), (.slice none 0 0), (.int .i64 0)])⟩,
  ⟨none, none, (.store 4 (.tmp 9) (.tmp 27))⟩,
  ⟨(some 10), none, (.asg (.tmp 28))⟩]) (.seq (.seq (.ops [
  ⟨(some 29), none, (.load 4 true (.tmp 9))⟩,
  ⟨(some 30), none, (.load 4 true (.tmp 7))⟩,
  ⟨(some 31), none, (.callX 8 [(.tmp 29), (.tmp 30)])⟩,
  ⟨(some 32), none, (.un .not (.tmp 31))⟩,
  ⟨(some 33), none, (.mv (.tmp 32))⟩,
  ⟨(some 34), (some (33, false)), (.mv (.tmp 10))⟩,
  ⟨(some 35), (some (33, false)), (.mv (.tmp 8))⟩,
  ⟨(some 36), (some (33, false)), (.bin .neq (.tmp 34) (.tmp 35))⟩,
  ⟨(some 37), none, (.pick (.tmp 33) (.const (.bool true)) (.tmp 36))⟩]) (.cond (.tmp 37) (.seq (.ops [
  ⟨(some 6), none, (.asg (.const (.bool false)))⟩]) .ret) .skip)) (.seq (.ops [
  ⟨(some 11), none, (.asg (.const (.int .i64 1)))⟩]) (.seq (.ops [
  ⟨(some 38), none, (.load 4 true (.tmp 9))⟩,
  ⟨(some 39), none, (.mv (.tmp 11))⟩,
  ⟨(some 40), none, (.callX 9 [(.tmp 38), (.tmp 39)])⟩,
  ⟨(some 11), none, (.asg (.tmp 40))⟩]) (.seq (.ops [
  ⟨(some 12), none, (.asg (.const (.int .i64 1)))⟩]) (.seq (.ops [
  ⟨(some 41), none, (.load 4 true (.tmp 9))⟩,
  ⟨(some 42), none, (.mv (.tmp 12))⟩,
  ⟨(some 43), none, (.callX 10 [(.tmp 41), (.tmp 42)])⟩,
  ⟨(some 12), none, (.asg (.tmp 43))⟩]) (.seq (.seq (.ops [
  ⟨(some 44), none, (.mv (.tmp 12))⟩,
  ⟨(some 45), none, (.bin .lss (.tmp 44) (.const (.int .i64 0)))⟩]) (.cond (.tmp 45) (.seq (.ops [
  ⟨(some 6), none, (.asg (.const (.bool false)))⟩]) .ret) .skip)) (.seq (.seq (.ops [
  ⟨(some 46), none, (.mv (.tmp 12))⟩,
  ⟨(some 47), none, (.mv (.tmp 11))⟩,
  ⟨(some 48), none, (.bin .neq (.tmp 46) (.tmp 47))⟩]) (.cond (.tmp 48) (.seq (.ops [
  ⟨(some 6), none, (.asg (.const (.bool false)))⟩]) .ret) .skip)) (.seq (.ops [
  ⟨(some 50), none, (.mv (.tmp 0))⟩,
  ⟨(some 51), none, (.mv (.tmp 1))⟩,
  ⟨(some 52), none, (.mv (.tmp 2))⟩,
  ⟨(some 53), none, (.callX 12 [(.tmp 50), (.tmp 51), (.tmp 52)])⟩,
  ⟨(some 49), none, (.mv (.tmp 53))⟩,
  ⟨(some 54), none, (.ext (.tmp 49) 0)⟩,
  ⟨(some 55), none, (.ext (.tmp 49) 1)⟩,
  ⟨(some 13), none, (.alloc [(.slice none 0 0), (.slice none 0 0), (.slice none 0 0), (.int .i64 0)])⟩,
  ⟨none, none, (.store 4 (.tmp 13) (.tmp 54))⟩,
  ⟨(some 14), none, (.asg (.tmp 55))⟩]) (.seq (.seq (.ops [
  ⟨(some 56), none, (.load 4 true (.tmp 13))⟩,
  ⟨(some 57), none, (.load 4 true (.tmp 7))⟩,
  ⟨(some 58), none, (.callX 8 [(.tmp 56), (.tmp 57)])⟩,
  ⟨(some 59), none, (.un .not (.tmp 58))⟩,
  ⟨(some 60), none, (.mv (.tmp 59))⟩,
  ⟨(some 61), (some (60, false)), (.mv (.tmp 14))⟩,
  ⟨(some 62), (some (60, false)), (.mv (.tmp 8))⟩,
  ⟨(some 63), (some (60, false)), (.bin .neq (.tmp 61) (.tmp 62))⟩,
  ⟨(some 64), none, (.pick (.tmp 60) (.const (.bool true)) (.tmp 63))⟩]) (.cond (.tmp 64) (.seq (.ops [
  ⟨(some 6), none, (.asg (.const (.bool false)))⟩]) .ret) .skip)) (.seq (.ops [
  ⟨(some 12), none, (.asg (.const (.int .i64 1)))⟩]) (.seq (.ops [
  ⟨(some 65), none, (.load 4 true (.tmp 9))⟩,
  ⟨(some 66), none, (.mv (.tmp 12))⟩,
  ⟨(some 67), none, (.callX 10 [(.tmp 65), (.tmp 66)])⟩,
  ⟨(some 12), none, (.asg (.tmp 67))⟩]) (.seq (.seq (.ops [
  ⟨(some 68), none, (.mv (.tmp 12))⟩,
  ⟨(some 69), none, (.bin .lss (.tmp 68) (.const (.int .i64 0)))⟩]) (.cond (.tmp 69) (.seq (.ops [
  ⟨(some 6), none, (.asg (.const (.bool false)))⟩]) .ret) .skip)) (.seq (.seq (.ops [
  ⟨(some 70), none, (.mv (.tmp 12))⟩,
  ⟨(some 71), none, (.mv (.tmp 11))⟩,
  ⟨(some 72), none, (.bin .neq (.tmp 70) (.tmp 71))⟩]) (.cond (.tmp 72) (.seq (.ops [
  ⟨(some 6), none, (.asg (.const (.bool false)))⟩]) .ret) .skip)) (.seq (.ops [
  ⟨(some 6), none, (.asg (.const (.bool true)))⟩]) .ret)))))))))))))))))
theorem law_laws_FnExactZigzagSystem {a0 a1 a2 d : D} (h : code_laws_FnExactZigzagSystem.wp (CT Tryd.prog TabG) (endQ [(.t 6)] d) [a0, a1, a2, .undef, .undef, .undef, .undef, .undef, .undef, .undef, .undef, .undef, .undef, .undef, .undef, .undef, .undef, .undef, .undef, .undef, .undef, .undef, .undef, .undef, .undef, .undef, .undef, .undef, .undef, .undef, .undef, .undef, .undef, .undef, .undef, .undef, .undef, .undef, .undef, .undef, .undef, .undef, .undef, .undef, .undef, .undef, .undef, .undef, .undef, .undef, .undef, .undef, .undef, .undef, .undef, .undef, .undef, .undef, .undef, .undef, .undef, .undef, .undef, .undef, .undef, .undef, .undef, .undef, .undef, .undef, .undef, .undef, .undef]) : Contract Tryd.prog TabG 4 [a0, a1, a2] d :=
  contract_of (pt := 0) tabG Tryd.func4 (fun us W => by kernel_rfl) (c := Tryd.f4.body.getD .skip) (ms := []) (ms' := []) (by kernel_rfl) (by kernel_rfl) (by kernel_rfl) h
set_option maxHeartbeats 8000000 in
theorem vlawZigzagSystem (q_aBase : Int) (q_aBase_ok : InK .i64 q_aBase) (q_aDigits : Int) (q_aDigits_ok : InK .i64 q_aDigits) (q_aStart : Int) (q_aStart_ok : InK .i64 q_aStart) : Contract Tryd.prog TabG 4 [.v (.int .i64 q_aBase), .v (.int .i64 q_aDigits), .v (.int .i64 q_aStart)] (.v (.bool true)) := by
  have hr0 := (ZigR_ok q_aBase q_aBase_ok q_aDigits q_aDigits_ok q_aStart q_aStart_ok)
  have hm_0 := (show (System.cnT (ZigR q_aBase q_aDigits q_aStart)) ≤ 1000000000000 from ZigR_cn q_aBase q_aDigits q_aStart)
  have dm0 : decide (((1 + (System.cnT (ZigR q_aBase q_aDigits q_aStart) : Nat)) : Int) < 0) = false := (by rw [decide_eq_false_iff_not]; omega); refine law_laws_FnExactZigzagSystem ?_; unfold code_laws_FnExactZigzagSystem; simp -implicitDefEqProofs (disch := omega) only [go_sem, ↓reduceIte , decide_true, dm0]; refine call_B (vZigzagSystem_spec q_aBase q_aBase_ok q_aDigits q_aDigits_ok q_aStart q_aStart_ok) (by simp -implicitDefEqProofs (disch := omega) only [go_sem, ↓reduceIte, deep, TD.rows, immLL_rI, immLL_rB8, immLL_rS, immLL_rBo, immLL_rII, immLL_rIIt, decide_true, dm0]; exact rfl) ?_; simp -implicitDefEqProofs (disch := omega) only [go_sem, ↓reduceIte , decide_true, dm0]; refine call_B (vZigzagSystem_impl q_aBase q_aBase_ok q_aDigits q_aDigits_ok q_aStart q_aStart_ok) (by simp -implicitDefEqProofs (disch := omega) only [go_sem, ↓reduceIte, deep, TD.rows, immLL_rI, immLL_rB8, immLL_rS, immLL_rBo, immLL_rII, immLL_rIIt, decide_true, dm0]; exact rfl) ?_; simp -implicitDefEqProofs (disch := omega) only [go_sem, ↓reduceIte , decide_true, dm0]; refine call_B (v_eqSystem (ZigR q_aBase q_aDigits q_aStart) hr0) (by simp -implicitDefEqProofs (disch := omega) only [go_sem, ↓reduceIte, deep, TD.rows, immLL_rI, immLL_rB8, immLL_rS, immLL_rBo, immLL_rII, immLL_rIIt, decide_true, dm0]; exact rfl) ?_; simp -implicitDefEqProofs (disch := omega) only [go_sem, ↓reduceIte , decide_true, dm0]; refine call_markB (r := 9) (v_markSystem (ZigR q_aBase q_aDigits q_aStart) hr0 (1) (by omega) (by omega)) rfl rfl rfl rfl ?_; simp -implicitDefEqProofs (disch := omega) only [go_sem, ↓reduceIte , decide_true, dm0]; refine call_B (v_heldSystem (ZigR q_aBase q_aDigits q_aStart) hr0 (1) (by omega) (by omega)) (by simp -implicitDefEqProofs (disch := omega) only [go_sem, ↓reduceIte, deep, TD.rows, immLL_rI, immLL_rB8, immLL_rS, immLL_rBo, immLL_rII, immLL_rIIt, decide_true, dm0]; exact rfl) ?_; simp -implicitDefEqProofs (disch := omega) only [go_sem, ↓reduceIte , decide_true, dm0]; refine call_B (vZigzagSystem_impl q_aBase q_aBase_ok q_aDigits q_aDigits_ok q_aStart q_aStart_ok) (by simp -implicitDefEqProofs (disch := omega) only [go_sem, ↓reduceIte, deep, TD.rows, immLL_rI, immLL_rB8, immLL_rS, immLL_rBo, immLL_rII, immLL_rIIt, decide_true, dm0]; exact rfl) ?_; simp -implicitDefEqProofs (disch := omega) only [go_sem, ↓reduceIte , decide_true, dm0]; refine call_B (v_eqSystem (ZigR q_aBase q_aDigits q_aStart) hr0) (by simp -implicitDefEqProofs (disch := omega) only [go_sem, ↓reduceIte, deep, TD.rows, immLL_rI, immLL_rB8, immLL_rS, immLL_rBo, immLL_rII, immLL_rIIt, decide_true, dm0]; exact rfl) ?_; simp -implicitDefEqProofs (disch := omega) only [go_sem, ↓reduceIte , decide_true, dm0]; refine call_B (v_heldSystem (ZigR q_aBase q_aDigits q_aStart) hr0 (1) (by omega) (by omega)) (by simp -implicitDefEqProofs (disch := omega) only [go_sem, ↓reduceIte, deep, TD.rows, immLL_rI, immLL_rB8, immLL_rS, immLL_rBo, immLL_rII, immLL_rIIt, decide_true, dm0]; exact rfl) ?_; simp -implicitDefEqProofs (disch := omega) only [go_sem, ↓reduceIte , decide_true, dm0]
theorem walk_fnExactZigzagSystem (q_aBase : Int) (q_aDigits : Int) (q_aStart : Int) (w : World) (hTab : GI TabG w (fun b => b < w.heap.size)) (q_aBase_p : InK .i64 q_aBase) (q_aDigits_p : InK .i64 q_aDigits) (q_aStart_p : InK .i64 q_aStart) :
    Calls Tryd.prog 4 #[.int .i64 q_aBase, .int .i64 q_aDigits, .int .i64 q_aStart] w fun e w' => e = .returned (.bool true) ∧ Below w.heap.size w w' := by
  refine (Contract.at (vlawZigzagSystem q_aBase q_aBase_p q_aDigits q_aDigits_p q_aStart q_aStart_p) hTab (Nat.le_refl _) (vals_cons (vals_v _) (vals_cons (vals_v _) (vals_cons (vals_v _) vals_nil)))).mono ?_; rintro e w' ⟨⟨v, I, F, rfl, hT, hn, hF⟩, hb⟩; obtain rfl := T_v hT; exact ⟨rfl, hb⟩
end Go.Proofs.YtbflchedmfeghaaDoor
