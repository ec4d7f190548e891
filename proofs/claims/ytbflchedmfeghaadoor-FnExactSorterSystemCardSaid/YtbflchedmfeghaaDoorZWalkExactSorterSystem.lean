/- Laws that the proof stands on. -/
import Derived.Test.YtbflchedmfeghaaDoorZFSorterSystem
import Derived.Test.YtbflchedmfeghaaDoorZg14
import Derived.Test.YtbflchedmfeghaaDoorZg12
import Derived.Test.YtbflchedmfeghaaDoorZg11
import Derived.Test.YtbflchedmfeghaaDoorZVTab
set_option linter.all false
namespace Go.Proofs.YtbflchedmfeghaaDoor
open Go.RowKit Go.V
attribute [local go_sem] List.getElem?_cons_succ List.getElem?_cons_zero List.set_cons_succ List.set_cons_zero List.map_cons List.map_nil List.length_cons List.length_nil List.all_cons List.all_nil List.drop_succ_cons List.drop_zero List.take_succ_cons List.take_zero List.flatMap_cons List.flatMap_nil List.cons_append List.nil_append List.append_nil List.headD_cons Value.oneCell' Bool.and_true Bool.true_and Bool.or_false Bool.false_or Bool.and_self Bool.not_true Bool.not_false and_true true_and beq_self_eq_true Bool.false_eq_true if_true if_false Nat.zero_add Nat.reduceAdd Nat.reduceMul Nat.reduceLeDiff Nat.le_refl Option.isSome_some Option.isSome_none not_true_eq_false not_false_eq_true ne_eq reduceCtorEq List.reverse_nil bne_self_eq_false Nat.reduceEqDiff List.isPrefixOf Bool.not_eq_true Bool.and_false Bool.false_and Bool.true_or Bool.or_true decide_true decide_false Nat.reduceBEq Nat.reduceBNe List.replicate_succ List.replicate_zero exists_eq_left' exists_eq_left Option.some.injEq or_false or_true true_or false_or Option.map_some Option.map_none mB Nat.reduceMod Nat.reduceDiv
set_option maxRecDepth 100000
attribute [local go_sem] List.length_map decide_true decide_false Int.reduceLT Int.reduceNeg Assembly.td_d System.td_d TileSet.td_d
def code_laws_FnExactSorterSystem : VCode := (.seq (.ops [
  ⟨(some 4), none, (.asg (.const (.bool false)))⟩]) (.seq (.seq (.ops [
  ⟨(some 15), none, (.mv (.tmp 1))⟩,
  ⟨(some 16), none, (.len (.tmp 15))⟩,
  ⟨(some 17), none, (.bin .gtr (.tmp 16) (.const (.int .i64 1048576)))⟩]) (.cond (.tmp 17) (.seq (.ops [
  ⟨(some 4), none, (.asg (.const (.bool true)))⟩]) .ret) .skip)) (.seq (.ops [
  ⟨(some 19), none, (.mv (.tmp 0))⟩,
  ⟨(some 20), none, (.mv (.tmp 1))⟩,
  ⟨(some 21), none, (.callX 14 [(.tmp 20)])⟩,
  ⟨(some 22), none, (.callX 13 [(.tmp 19), (.tmp 21)])⟩,
  ⟨(some 18), none, (.mv (.tmp 22))⟩,
  ⟨(some 23), none, (.ext (.tmp 18) 0)⟩,
  ⟨(some 24), none, (.ext (.tmp 18) 1)⟩,
  ⟨(some 5), none, (.alloc [(.slice none 0 0), (.slice none 0 0), (.slice none 0 0), (.int .i64 0)])⟩,
  ⟨none, none, (.store 4 (.tmp 5) (.tmp 23))⟩,
  ⟨(some 6), none, (.asg (.tmp 24))⟩]) (.seq (.ops [
  ⟨(some 25), none, (.mv (.tmp 1))⟩,
  ⟨(some 26), none, (.callX 14 [(.tmp 25)])⟩,
  ⟨(some 7), none, (.asg (.tmp 26))⟩]) (.seq (.ops [
  ⟨(some 28), none, (.mv (.tmp 0))⟩,
  ⟨(some 29), none, (.mv (.tmp 7))⟩,
  ⟨(some 30), none, (.callX 15 [(.tmp 28), (.tmp 29)])⟩,
  ⟨(some 27), none, (.mv (.tmp 30))⟩,
  ⟨(some 31), none, (.ext (.tmp 27) 0)⟩,
  ⟨(some 32), none, (.ext (.tmp 27) 1)⟩,
  ⟨(some 8), none, (.alloc [(.slice none 0 0), (.slice none 0 0), (.slice none 0 0), (.int .i64 0)])⟩,
  ⟨none, none, (.store 4 (.tmp 8) (.tmp 31))⟩,
  ⟨(some 9), none, (.asg (.tmp 32))⟩]) (.seq (.seq (.ops [
  ⟨(some 33), none, (.load 4 true (.tmp 8))⟩,
  ⟨(some 34), none, (.load 4 true (.tmp 5))⟩,
  ⟨(some 35), none, (.callX 8 [(.tmp 33), (.tmp 34)])⟩,
  ⟨(some 36), none, (.un .not (.tmp 35))⟩,
  ⟨(some 37), none, (.mv (.tmp 36))⟩,
  ⟨(some 38), (some (37, false)), (.mv (.tmp 9))⟩,
  ⟨(some 39), (some (37, false)), (.mv (.tmp 6))⟩,
  ⟨(some 40), (some (37, false)), (.bin .neq (.tmp 38) (.tmp 39))⟩,
  ⟨(some 41), none, (.pick (.tmp 37) (.const (.bool true)) (.tmp 40))⟩]) (.cond (.tmp 41) (.seq (.ops [
  ⟨(some 4), none, (.asg (.const (.bool false)))⟩]) .ret) .skip)) (.seq (.seq (.ops [
  ⟨(some 42), none, (.mv (.tmp 7))⟩,
  ⟨(some 43), none, (.mv (.tmp 1))⟩,
  ⟨(some 44), none, (.callX 14 [(.tmp 43)])⟩,
  ⟨(some 45), none, (.callX 16 [(.tmp 42), (.tmp 44)])⟩,
  ⟨(some 46), none, (.un .not (.tmp 45))⟩]) (.cond (.tmp 46) (.seq (.ops [
  ⟨(some 4), none, (.asg (.const (.bool false)))⟩]) .ret) .skip)) (.seq (.ops [
  ⟨(some 10), none, (.asg (.const (.int .i64 1)))⟩]) (.seq (.ops [
  ⟨(some 47), none, (.mv (.tmp 7))⟩,
  ⟨(some 48), none, (.mv (.tmp 10))⟩,
  ⟨(some 49), none, (.callX 17 [(.tmp 47), (.tmp 48)])⟩,
  ⟨(some 10), none, (.asg (.tmp 49))⟩]) (.seq (.seq (.ops [
  ⟨(some 50), none, (.mv (.tmp 10))⟩,
  ⟨(some 51), none, (.bin .lss (.tmp 50) (.const (.int .i64 0)))⟩,
  ⟨(some 52), none, (.mv (.tmp 51))⟩,
  ⟨(some 53), (some (52, false)), (.load 4 true (.tmp 8))⟩,
  ⟨(some 54), (some (52, false)), (.load 4 true (.tmp 5))⟩,
  ⟨(some 55), (some (52, false)), (.callX 8 [(.tmp 53), (.tmp 54)])⟩,
  ⟨(some 56), (some (52, false)), (.un .not (.tmp 55))⟩,
  ⟨(some 57), none, (.pick (.tmp 52) (.const (.bool true)) (.tmp 56))⟩,
  ⟨(some 58), none, (.mv (.tmp 57))⟩,
  ⟨(some 59), (some (58, false)), (.mv (.tmp 9))⟩,
  ⟨(some 60), (some (58, false)), (.mv (.tmp 6))⟩,
  ⟨(some 61), (some (58, false)), (.bin .neq (.tmp 59) (.tmp 60))⟩,
  ⟨(some 62), none, (.pick (.tmp 58) (.const (.bool true)) (.tmp 61))⟩]) (.cond (.tmp 62) (.seq (.ops [
  ⟨(some 4), none, (.asg (.const (.bool false)))⟩]) .ret) .skip)) (.seq (.ops [
  ⟨(some 11), none, (.asg (.const (.int .i64 1)))⟩]) (.seq (.ops [
  ⟨(some 63), none, (.load 4 true (.tmp 8))⟩,
  ⟨(some 64), none, (.mv (.tmp 11))⟩,
  ⟨(some 65), none, (.callX 9 [(.tmp 63), (.tmp 64)])⟩,
  ⟨(some 11), none, (.asg (.tmp 65))⟩]) (.seq (.ops [
  ⟨(some 12), none, (.asg (.const (.int .i64 1)))⟩]) (.seq (.ops [
  ⟨(some 66), none, (.load 4 true (.tmp 8))⟩,
  ⟨(some 67), none, (.mv (.tmp 12))⟩,
  ⟨(some 68), none, (.callX 10 [(.tmp 66), (.tmp 67)])⟩,
  ⟨(some 12), none, (.asg (.tmp 68))⟩]) (.seq (.seq (.ops [
  ⟨(some 69), none, (.mv (.tmp 12))⟩,
  ⟨(some 70), none, (.bin .lss (.tmp 69) (.const (.int .i64 0)))⟩]) (.cond (.tmp 70) (.seq (.ops [
  ⟨(some 4), none, (.asg (.const (.bool false)))⟩]) .ret) .skip)) (.seq (.seq (.ops [
  ⟨(some 71), none, (.mv (.tmp 12))⟩,
  ⟨(some 72), none, (.mv (.tmp 11))⟩,
  ⟨(some 73), none, (.bin .neq (.tmp 71) (.tmp 72))⟩]) (.cond (.tmp 73) (.seq (.ops [
  ⟨(some 4), none, (.asg (.const (.bool false)))⟩]) .ret) .skip)) (.seq (.ops [
  ⟨(some 75), none, (.mv (.tmp 0))⟩,
  ⟨(some 76), none, (.mv (.tmp 1))⟩,
  ⟨(some 77), none, (.callX 14 [(.tmp 76)])⟩,
  ⟨(some 78), none, (.callX 15 [(.tmp 75), (.tmp 77)])⟩,
  ⟨(some 74), none, (.mv (.tmp 78))⟩,
  ⟨(some 79), none, (.ext (.tmp 74) 0)⟩,
  ⟨(some 80), none, (.ext (.tmp 74) 1)⟩,
  ⟨(some 13), none, (.alloc [(.slice none 0 0), (.slice none 0 0), (.slice none 0 0), (.int .i64 0)])⟩,
  ⟨none, none, (.store 4 (.tmp 13) (.tmp 79))⟩,
  ⟨(some 14), none, (.asg (.tmp 80))⟩]) (.seq (.seq (.ops [
  ⟨(some 81), none, (.load 4 true (.tmp 13))⟩,
  ⟨(some 82), none, (.load 4 true (.tmp 5))⟩,
  ⟨(some 83), none, (.callX 8 [(.tmp 81), (.tmp 82)])⟩,
  ⟨(some 84), none, (.un .not (.tmp 83))⟩,
  ⟨(some 85), none, (.mv (.tmp 84))⟩,
  ⟨(some 86), (some (85, false)), (.mv (.tmp 14))⟩,
  ⟨(some 87), (some (85, false)), (.mv (.tmp 6))⟩,
  ⟨(some 88), (some (85, false)), (.bin .neq (.tmp 86) (.tmp 87))⟩,
  ⟨(some 89), none, (.pick (.tmp 85) (.const (.bool true)) (.tmp 88))⟩]) (.cond (.tmp 89) (.seq (.ops [
  ⟨(some 4), none, (.asg (.const (.bool false)))⟩]) .ret) .skip)) (.seq (.ops [
  ⟨(some 12), none, (.asg (.const (.int .i64 1)))⟩]) (.seq (.ops [
  ⟨(some 90), none, (.load 4 true (.tmp 8))⟩,
  ⟨(some 91), none, (.mv (.tmp 12))⟩,
  ⟨(some 92), none, (.callX 10 [(.tmp 90), (.tmp 91)])⟩,
  ⟨(some 12), none, (.asg (.tmp 92))⟩]) (.seq (.seq (.ops [
  ⟨(some 93), none, (.mv (.tmp 12))⟩,
  ⟨(some 94), none, (.bin .lss (.tmp 93) (.const (.int .i64 0)))⟩]) (.cond (.tmp 94) (.seq (.ops [
  ⟨(some 4), none, (.asg (.const (.bool false)))⟩]) .ret) .skip)) (.seq (.seq (.ops [
  ⟨(some 95), none, (.mv (.tmp 12))⟩,
  ⟨(some 96), none, (.mv (.tmp 11))⟩,
  ⟨(some 97), none, (.bin .neq (.tmp 95) (.tmp 96))⟩]) (.cond (.tmp 97) (.seq (.ops [
  ⟨(some 4), none, (.asg (.const (.bool false)))⟩]) .ret) .skip)) (.seq (.ops [
  ⟨(some 4), none, (.asg (.const (.bool true)))⟩]) .ret)))))))))))))))))))))))
theorem law_laws_FnExactSorterSystem {a0 a1 d : D} (h : code_laws_FnExactSorterSystem.wp (CT Tryd.prog TabG) (endQ [(.t 4)] d) [a0, a1, .undef, .undef, .undef, .undef, .undef, .undef, .undef, .undef, .undef, .undef, .undef, .undef, .undef, .undef, .undef, .undef, .undef, .undef, .undef, .undef, .undef, .undef, .undef, .undef, .undef, .undef, .undef, .undef, .undef, .undef, .undef, .undef, .undef, .undef, .undef, .undef, .undef, .undef, .undef, .undef, .undef, .undef, .undef, .undef, .undef, .undef, .undef, .undef, .undef, .undef, .undef, .undef, .undef, .undef, .undef, .undef, .undef, .undef, .undef, .undef, .undef, .undef, .undef, .undef, .undef, .undef, .undef, .undef, .undef, .undef, .undef, .undef, .undef, .undef, .undef, .undef, .undef, .undef, .undef, .undef, .undef, .undef, .undef, .undef, .undef, .undef, .undef, .undef, .undef, .undef, .undef, .undef, .undef, .undef, .undef, .undef]) : Contract Tryd.prog TabG 5 [a0, a1] d :=
  contract_of (pt := 0) tabG Tryd.func5 (fun us W => by kernel_rfl) (c := Tryd.f5.body.getD .skip) (ms := []) (ms' := []) (by kernel_rfl) (by kernel_rfl) (by kernel_rfl) h
set_option maxHeartbeats 8000000 in
theorem vlawSorterSystem (q_aBase : Int) (q_aBase_ok : InK .i64 q_aBase) (q_aList : List Int) (q_aList_ok : ∀ y, y ∈ q_aList → InK .i64 y) : Contract Tryd.prog TabG 5 [.v (.int .i64 q_aBase), .sl false 1 (q_aList.map (rI))] (.v (.bool true)) := by
  by_cases g0 : q_aList.length ≤ 1048576
  · have q_aList_n : q_aList.length ≤ 1048576 := (by omega); have hr0 := (SorterR_ok q_aBase q_aBase_ok q_aList q_aList_ok q_aList_n)
    have n0 : decide ((1048576 : Int) < (q_aList.length : Nat)) = false := (by rw [decide_eq_false_iff_not]; omega); have hm_0 := cnS_len (K := 1) (fun _ => Nat.le_refl 1) q_aList; have hm_1 := (show (System.cnT (SorterR q_aBase q_aList)) ≤ 1000000000000 from SorterR_cn q_aBase q_aList)
    have dm0 : decide (((1 + (cnS (fun _ => 1) q_aList : Nat)) : Int) < 0) = false := (by rw [decide_eq_false_iff_not]; omega); have dm1 : decide (((1 + (System.cnT (SorterR q_aBase q_aList) : Nat)) : Int) < 0) = false := (by rw [decide_eq_false_iff_not]; omega); refine law_laws_FnExactSorterSystem ?_; unfold code_laws_FnExactSorterSystem; simp -implicitDefEqProofs (disch := omega) only [go_sem, ↓reduceIte , decide_true, n0, dm0, dm1]; refine call_B (v_toInt64S q_aList q_aList_n) (by simp -implicitDefEqProofs (disch := omega) only [go_sem, ↓reduceIte, deep, TD.rows, immLL_rI, immLL_rB8, immLL_rS, immLL_rBo, immLL_rII, immLL_rIIt, decide_true, n0, dm0, dm1]; exact rfl) ?_; simp -implicitDefEqProofs (disch := omega) only [go_sem, ↓reduceIte , decide_true, n0, dm0, dm1]; refine call_B (vSorterSystem_spec q_aBase q_aBase_ok q_aList q_aList_ok q_aList_n) (by simp -implicitDefEqProofs (disch := omega) only [go_sem, ↓reduceIte, deep, TD.rows, immLL_rI, immLL_rB8, immLL_rS, immLL_rBo, immLL_rII, immLL_rIIt, decide_true, n0, dm0, dm1]; exact rfl) ?_; simp -implicitDefEqProofs (disch := omega) only [go_sem, ↓reduceIte , decide_true, n0, dm0, dm1]; refine call_B (v_toInt64S q_aList q_aList_n) (by simp -implicitDefEqProofs (disch := omega) only [go_sem, ↓reduceIte, deep, TD.rows, immLL_rI, immLL_rB8, immLL_rS, immLL_rBo, immLL_rII, immLL_rIIt, decide_true, n0, dm0, dm1]; exact rfl) ?_; simp -implicitDefEqProofs (disch := omega) only [go_sem, ↓reduceIte , decide_true, n0, dm0, dm1]; refine call_B (vSorterSystem_impl q_aBase q_aBase_ok q_aList q_aList_ok q_aList_n) (by simp -implicitDefEqProofs (disch := omega) only [go_sem, ↓reduceIte, deep, TD.rows, immLL_rI, immLL_rB8, immLL_rS, immLL_rBo, immLL_rII, immLL_rIIt, decide_true, n0, dm0, dm1]; exact rfl) ?_; simp -implicitDefEqProofs (disch := omega) only [go_sem, ↓reduceIte , decide_true, n0, dm0, dm1]; refine call_B (v_eqSystem (SorterR q_aBase q_aList) hr0) (by simp -implicitDefEqProofs (disch := omega) only [go_sem, ↓reduceIte, deep, TD.rows, immLL_rI, immLL_rB8, immLL_rS, immLL_rBo, immLL_rII, immLL_rIIt, decide_true, n0, dm0, dm1]; exact rfl) ?_; simp -implicitDefEqProofs (disch := omega) only [go_sem, ↓reduceIte , decide_true, n0, dm0, dm1]; refine call_B (v_toInt64S q_aList q_aList_n) (by simp -implicitDefEqProofs (disch := omega) only [go_sem, ↓reduceIte, deep, TD.rows, immLL_rI, immLL_rB8, immLL_rS, immLL_rBo, immLL_rII, immLL_rIIt, decide_true, n0, dm0, dm1]; exact rfl) ?_; simp -implicitDefEqProofs (disch := omega) only [go_sem, ↓reduceIte , decide_true, n0, dm0, dm1]; refine call_B (v_eqInt64S q_aList q_aList_ok) (by simp -implicitDefEqProofs (disch := omega) only [go_sem, ↓reduceIte, deep, TD.rows, immLL_rI, immLL_rB8, immLL_rS, immLL_rBo, immLL_rII, immLL_rIIt, decide_true, n0, dm0, dm1]; exact rfl) ?_; simp -implicitDefEqProofs (disch := omega) only [go_sem, ↓reduceIte , decide_true, n0, dm0, dm1]; refine call_markS (r := 7) (v_markInt64S q_aList q_aList_ok (1) (by omega) (by omega)) rfl rfl rfl rfl ?_; simp -implicitDefEqProofs (disch := omega) only [go_sem, ↓reduceIte , decide_true, n0, dm0, dm1]; refine call_B (v_eqSystem (SorterR q_aBase q_aList) hr0) (by simp -implicitDefEqProofs (disch := omega) only [go_sem, ↓reduceIte, deep, TD.rows, immLL_rI, immLL_rB8, immLL_rS, immLL_rBo, immLL_rII, immLL_rIIt, decide_true, n0, dm0, dm1]; exact rfl) ?_; simp -implicitDefEqProofs (disch := omega) only [go_sem, ↓reduceIte , decide_true, n0, dm0, dm1]; refine call_markB (r := 8) (v_markSystem (SorterR q_aBase q_aList) hr0 (1) (by omega) (by omega)) rfl rfl rfl rfl ?_; simp -implicitDefEqProofs (disch := omega) only [go_sem, ↓reduceIte , decide_true, n0, dm0, dm1]; refine call_B (v_heldSystem (SorterR q_aBase q_aList) hr0 (1) (by omega) (by omega)) (by simp -implicitDefEqProofs (disch := omega) only [go_sem, ↓reduceIte, deep, TD.rows, immLL_rI, immLL_rB8, immLL_rS, immLL_rBo, immLL_rII, immLL_rIIt, decide_true, n0, dm0, dm1]; exact rfl) ?_; simp -implicitDefEqProofs (disch := omega) only [go_sem, ↓reduceIte , decide_true, n0, dm0, dm1]; refine call_B (v_toInt64S q_aList q_aList_n) (by simp -implicitDefEqProofs (disch := omega) only [go_sem, ↓reduceIte, deep, TD.rows, immLL_rI, immLL_rB8, immLL_rS, immLL_rBo, immLL_rII, immLL_rIIt, decide_true, n0, dm0, dm1]; exact rfl) ?_; simp -implicitDefEqProofs (disch := omega) only [go_sem, ↓reduceIte , decide_true, n0, dm0, dm1]; refine call_B (vSorterSystem_impl q_aBase q_aBase_ok q_aList q_aList_ok q_aList_n) (by simp -implicitDefEqProofs (disch := omega) only [go_sem, ↓reduceIte, deep, TD.rows, immLL_rI, immLL_rB8, immLL_rS, immLL_rBo, immLL_rII, immLL_rIIt, decide_true, n0, dm0, dm1]; exact rfl) ?_; simp -implicitDefEqProofs (disch := omega) only [go_sem, ↓reduceIte , decide_true, n0, dm0, dm1]; refine call_B (v_eqSystem (SorterR q_aBase q_aList) hr0) (by simp -implicitDefEqProofs (disch := omega) only [go_sem, ↓reduceIte, deep, TD.rows, immLL_rI, immLL_rB8, immLL_rS, immLL_rBo, immLL_rII, immLL_rIIt, decide_true, n0, dm0, dm1]; exact rfl) ?_; simp -implicitDefEqProofs (disch := omega) only [go_sem, ↓reduceIte , decide_true, n0, dm0, dm1]; refine call_B (v_heldSystem (SorterR q_aBase q_aList) hr0 (1) (by omega) (by omega)) (by simp -implicitDefEqProofs (disch := omega) only [go_sem, ↓reduceIte, deep, TD.rows, immLL_rI, immLL_rB8, immLL_rS, immLL_rBo, immLL_rII, immLL_rIIt, decide_true, n0, dm0, dm1]; exact rfl) ?_; simp -implicitDefEqProofs (disch := omega) only [go_sem, ↓reduceIte , decide_true, n0, dm0, dm1]
  · have n0 : decide ((1048576 : Int) < (q_aList.length : Nat)) = true := (by rw [decide_eq_true_eq]; omega); refine law_laws_FnExactSorterSystem ?_; unfold code_laws_FnExactSorterSystem; simp -implicitDefEqProofs (disch := omega) only [go_sem, ↓reduceIte , decide_true, n0]
theorem walk_fnExactSorterSystem (q_aBase : Int) (q_aList_v : Value) (q_aList : List Int) (w : World) (hTab : GI TabG w (fun b => b < w.heap.size)) (q_aBase_p : InK .i64 q_aBase) (q_aList_h : (Ty.slice 2 (Ty.int .i64)).rep w w.heap.size [q_aList_v] q_aList) :
    Calls Tryd.prog 5 #[.int .i64 q_aBase, q_aList_v] w fun e w' => e = .returned (.bool true) ∧ Below w.heap.size w w' := by
  refine (Contract.at (vlawSorterSystem q_aBase q_aBase_p q_aList ((TD.slice 2 (TD.int .i64)).rep_ok q_aList_h)) hTab (Nat.le_refl _) (vals_cons (vals_v _) (vals_cons (TD.arg_slice (TD.int .i64) q_aList_h) vals_nil))).mono ?_; rintro e w' ⟨⟨v, I, F, rfl, hT, hn, hF⟩, hb⟩; obtain rfl := T_v hT; exact ⟨rfl, hb⟩
end Go.Proofs.YtbflchedmfeghaaDoor
