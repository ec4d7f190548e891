/- Laws that the proof stands on. -/
import Derived.Test.YtjalagigmelcaaaZg18
import Derived.Test.YtjalagigmelcaaaZg13
import Derived.Test.YtjalagigmelcaaaZg14
set_option linter.all false
namespace Go.Proofs.Ytjalagigmelcaaa
open Go.RowKit Go.V
attribute [local go_sem] List.getElem?_cons_succ List.getElem?_cons_zero List.set_cons_succ List.set_cons_zero List.map_cons List.map_nil List.length_cons List.length_nil List.all_cons List.all_nil List.drop_succ_cons List.drop_zero List.take_succ_cons List.take_zero List.flatMap_cons List.flatMap_nil List.cons_append List.nil_append List.append_nil List.headD_cons Value.oneCell' Bool.and_true Bool.true_and Bool.or_false Bool.false_or Bool.and_self Bool.not_true Bool.not_false and_true true_and beq_self_eq_true Bool.false_eq_true if_true if_false Nat.zero_add Nat.reduceAdd Nat.reduceMul Nat.reduceLeDiff Nat.le_refl Option.isSome_some Option.isSome_none not_true_eq_false not_false_eq_true ne_eq reduceCtorEq List.reverse_nil bne_self_eq_false Nat.reduceEqDiff List.isPrefixOf Bool.not_eq_true Bool.and_false Bool.false_and Bool.true_or Bool.or_true decide_true decide_false Nat.reduceBEq Nat.reduceBNe List.replicate_succ List.replicate_zero exists_eq_left' exists_eq_left Option.some.injEq or_false or_true true_or false_or Option.map_some Option.map_none mB Nat.reduceMod Nat.reduceDiv
set_option maxRecDepth 100000
attribute [local go_sem] List.length_map decide_true decide_false Int.reduceLT Int.reduceNeg Assembly.td_d
def code_laws_FnExactJoinAssemblies : VCode := (.seq (.ops [
  ⟨(some 2), none, (.box (.tmp 0))⟩,
  ⟨(some 3), none, (.box (.tmp 1))⟩,
  ⟨(some 4), none, (.asg (.const (.bool false)))⟩]) (.seq (.ops [
  ⟨(some 5), none, (.asg (.const (.int .i64 1048576)))⟩]) (.seq (.ops [
  ⟨(some 17), none, (.load 1 true (.tmp 2))⟩,
  ⟨(some 18), none, (.mv (.tmp 5))⟩,
  ⟨(some 19), none, (.callX 5 [(.tmp 17), (.tmp 18)])⟩,
  ⟨(some 5), none, (.asg (.tmp 19))⟩]) (.seq (.seq (.ops [
  ⟨(some 20), none, (.mv (.tmp 5))⟩,
  ⟨(some 21), none, (.bin .lss (.tmp 20) (.const (.int .i64 0)))⟩]) (.cond (.tmp 21) (.seq (.ops [
  ⟨(some 4), none, (.asg (.const (.bool true)))⟩]) .ret) .skip)) (.seq (.ops [
  ⟨(some 22), none, (.load 1 true (.tmp 3))⟩,
  ⟨(some 23), none, (.mv (.tmp 5))⟩,
  ⟨(some 24), none, (.callX 5 [(.tmp 22), (.tmp 23)])⟩,
  ⟨(some 5), none, (.asg (.tmp 24))⟩]) (.seq (.seq (.ops [
  ⟨(some 25), none, (.mv (.tmp 5))⟩,
  ⟨(some 26), none, (.bin .lss (.tmp 25) (.const (.int .i64 0)))⟩]) (.cond (.tmp 26) (.seq (.ops [
  ⟨(some 4), none, (.asg (.const (.bool true)))⟩]) .ret) .skip)) (.seq (.drawB [] [(6, 1)] (mB 35 34225520704) (mB 34 8589934592) [⟨0, (mB 35 34225520704), [], ⟨(some 28), none, (.load 1 true (.tmp 2))⟩⟩, ⟨1, (mB 35 33957085248), [], ⟨(some 29), none, (.call 7 [(.tmp 28)])⟩⟩, ⟨2, (mB 35 34225520704), [], ⟨(some 30), none, (.load 1 true (.tmp 3))⟩⟩, ⟨3, (mB 35 32346472512), [], ⟨(some 31), none, (.call 7 [(.tmp 30)])⟩⟩, ⟨4, (mB 35 30198988864), [], ⟨(some 32), none, (.call 6 [(.tmp 29), (.tmp 31)])⟩⟩, ⟨5, (mB 35 25904021568), [], ⟨(some 27), none, (.mv (.tmp 32))⟩⟩, ⟨6, (mB 35 25769803840), [], ⟨(some 33), none, (.extN (.tmp 27) 0)⟩⟩, ⟨7, (mB 35 25769803840), [], ⟨(some 34), none, (.extN (.tmp 27) 1)⟩⟩, ⟨8, (mB 35 34225520704), [], ⟨none, none, (.mv (.const (.tuple ⟨[]⟩)))⟩⟩, ⟨9, (mB 35 17179869248), (mB 34 8589934592), ⟨(some 6), none, (.box (.tmp 33))⟩⟩] [⟨(some 7), none, (.asg (.tmp 34))⟩]) (.seq (.ops [
  ⟨(some 35), none, (.load 1 true (.tmp 2))⟩,
  ⟨(some 36), none, (.callX 7 [(.tmp 35)])⟩,
  ⟨(some 8), none, (.alloc [(.slice none 0 0)])⟩,
  ⟨none, none, (.store 1 (.tmp 8) (.tmp 36))⟩]) (.seq (.ops [
  ⟨(some 37), none, (.load 1 true (.tmp 3))⟩,
  ⟨(some 38), none, (.callX 7 [(.tmp 37)])⟩,
  ⟨(some 9), none, (.alloc [(.slice none 0 0)])⟩,
  ⟨none, none, (.store 1 (.tmp 9) (.tmp 38))⟩]) (.seq (.ops [
  ⟨(some 40), none, (.load 1 true (.tmp 8))⟩,
  ⟨(some 41), none, (.load 1 true (.tmp 9))⟩,
  ⟨(some 42), none, (.callX 8 [(.tmp 40), (.tmp 41)])⟩,
  ⟨(some 39), none, (.mv (.tmp 42))⟩,
  ⟨(some 43), none, (.ext (.tmp 39) 0)⟩,
  ⟨(some 44), none, (.ext (.tmp 39) 1)⟩,
  ⟨(some 10), none, (.alloc [(.slice none 0 0)])⟩,
  ⟨none, none, (.store 1 (.tmp 10) (.tmp 43))⟩,
  ⟨(some 11), none, (.asg (.tmp 44))⟩]) (.seq (.seq (.ops [
  ⟨(some 45), none, (.load 1 true (.tmp 10))⟩,
  ⟨(some 46), none, (.load 1 true (.tmp 6))⟩,
  ⟨(some 47), none, (.callX 9 [(.tmp 45), (.tmp 46)])⟩,
  ⟨(some 48), none, (.un .not (.tmp 47))⟩,
  ⟨(some 49), none, (.mv (.tmp 48))⟩,
  ⟨(some 50), (some (49, false)), (.mv (.tmp 11))⟩,
  ⟨(some 51), (some (49, false)), (.mv (.tmp 7))⟩,
  ⟨(some 52), (some (49, false)), (.bin .neq (.tmp 50) (.tmp 51))⟩,
  ⟨(some 53), none, (.pick (.tmp 49) (.const (.bool true)) (.tmp 52))⟩]) (.cond (.tmp 53) (.seq (.ops [
  ⟨(some 4), none, (.asg (.const (.bool false)))⟩]) .ret) .skip)) (.seq (.seq (.draw (mB 57 126100789566373888) [] [⟨0, (mB 57 126100789566373888), [], ⟨(some 54), none, (.load 1 true (.tmp 8))⟩⟩, ⟨1, (mB 57 126100789566373888), [], ⟨(some 55), none, (.load 1 true (.tmp 2))⟩⟩, ⟨2, (mB 57 90071992547409920), [], ⟨(some 56), none, (.call 7 [(.tmp 55)])⟩⟩] [⟨(some 57), none, (.callX 9 [(.tmp 54), (.tmp 56)])⟩, ⟨(some 58), none, (.un .not (.tmp 57))⟩]) (.cond (.tmp 58) (.seq (.ops [
  ⟨(some 4), none, (.asg (.const (.bool false)))⟩]) .ret) .skip)) (.seq (.seq (.draw (mB 62 4035225266123964416) [] [⟨0, (mB 62 4035225266123964416), [], ⟨(some 59), none, (.load 1 true (.tmp 9))⟩⟩, ⟨1, (mB 62 4035225266123964416), [], ⟨(some 60), none, (.load 1 true (.tmp 3))⟩⟩, ⟨2, (mB 62 2882303761517117440), [], ⟨(some 61), none, (.call 7 [(.tmp 60)])⟩⟩] [⟨(some 62), none, (.callX 9 [(.tmp 59), (.tmp 61)])⟩, ⟨(some 63), none, (.un .not (.tmp 62))⟩]) (.cond (.tmp 63) (.seq (.ops [
  ⟨(some 4), none, (.asg (.const (.bool false)))⟩]) .ret) .skip)) (.seq (.ops [
  ⟨(some 12), none, (.asg (.const (.int .i64 1)))⟩]) (.seq (.ops [
  ⟨(some 64), none, (.load 1 true (.tmp 8))⟩,
  ⟨(some 65), none, (.mv (.tmp 12))⟩,
  ⟨(some 66), none, (.callX 10 [(.tmp 64), (.tmp 65)])⟩,
  ⟨(some 12), none, (.asg (.tmp 66))⟩]) (.seq (.ops [
  ⟨(some 67), none, (.load 1 true (.tmp 9))⟩,
  ⟨(some 68), none, (.mv (.tmp 12))⟩,
  ⟨(some 69), none, (.callX 10 [(.tmp 67), (.tmp 68)])⟩,
  ⟨(some 12), none, (.asg (.tmp 69))⟩]) (.seq (.seq (.ops [
  ⟨(some 70), none, (.mv (.tmp 12))⟩,
  ⟨(some 71), none, (.bin .lss (.tmp 70) (.const (.int .i64 0)))⟩,
  ⟨(some 72), none, (.mv (.tmp 71))⟩,
  ⟨(some 73), (some (72, false)), (.load 1 true (.tmp 10))⟩,
  ⟨(some 74), (some (72, false)), (.load 1 true (.tmp 6))⟩,
  ⟨(some 75), (some (72, false)), (.callX 9 [(.tmp 73), (.tmp 74)])⟩,
  ⟨(some 76), (some (72, false)), (.un .not (.tmp 75))⟩,
  ⟨(some 77), none, (.pick (.tmp 72) (.const (.bool true)) (.tmp 76))⟩,
  ⟨(some 78), none, (.mv (.tmp 77))⟩,
  ⟨(some 79), (some (78, false)), (.mv (.tmp 11))⟩,
  ⟨(some 80), (some (78, false)), (.mv (.tmp 7))⟩,
  ⟨(some 81), (some (78, false)), (.bin .neq (.tmp 79) (.tmp 80))⟩,
  ⟨(some 82), none, (.pick (.tmp 78) (.const (.bool true)) (.tmp 81))⟩]) (.cond (.tmp 82) (.seq (.ops [
  ⟨(some 4), none, (.asg (.const (.bool false)))⟩]) .ret) .skip)) (.seq (.ops [
  ⟨(some 13), none, (.asg (.const (.int .i64 1)))⟩]) (.seq (.ops [
  ⟨(some 83), none, (.load 1 true (.tmp 10))⟩,
  ⟨(some 84), none, (.mv (.tmp 13))⟩,
  ⟨(some 85), none, (.callX 10 [(.tmp 83), (.tmp 84)])⟩,
  ⟨(some 13), none, (.asg (.tmp 85))⟩]) (.seq (.ops [
  ⟨(some 14), none, (.asg (.const (.int .i64 1)))⟩]) (.seq (.ops [
  ⟨(some 86), none, (.load 1 true (.tmp 10))⟩,
  ⟨(some 87), none, (.mv (.tmp 14))⟩,
  ⟨(some 88), none, (.callX 11 [(.tmp 86), (.tmp 87)])⟩,
  ⟨(some 14), none, (.asg (.tmp 88))⟩]) (.seq (.seq (.ops [
  ⟨(some 89), none, (.mv (.tmp 14))⟩,
  ⟨(some 90), none, (.bin .lss (.tmp 89) (.const (.int .i64 0)))⟩]) (.cond (.tmp 90) (.seq (.ops [
  ⟨(some 4), none, (.asg (.const (.bool false)))⟩]) .ret) .skip)) (.seq (.seq (.ops [
  ⟨(some 91), none, (.mv (.tmp 14))⟩,
  ⟨(some 92), none, (.mv (.tmp 13))⟩,
  ⟨(some 93), none, (.bin .neq (.tmp 91) (.tmp 92))⟩]) (.cond (.tmp 93) (.seq (.ops [
  ⟨(some 4), none, (.asg (.const (.bool false)))⟩]) .ret) .skip)) (.seq (.drawB [] [(15, 1)] (mB 102 5050795360284351521588426866688) (mB 101 1267650600228229401496703205376) [⟨0, (mB 102 5050795360284351521588426866688), [], ⟨(some 95), none, (.load 1 true (.tmp 2))⟩⟩, ⟨1, (mB 102 5011181279027219352791654891520), [], ⟨(some 96), none, (.call 7 [(.tmp 95)])⟩⟩, ⟨2, (mB 102 5050795360284351521588426866688), [], ⟨(some 97), none, (.load 1 true (.tmp 3))⟩⟩, ⟨3, (mB 102 4773496791484426340011023040512), [], ⟨(some 98), none, (.call 7 [(.tmp 97)])⟩⟩, ⟨4, (mB 102 4456584141427368989636847239168), [], ⟨(some 99), none, (.call 8 [(.tmp 96), (.tmp 98)])⟩⟩, ⟨5, (mB 102 3822758841313254288888495636480), [], ⟨(some 94), none, (.mv (.tmp 99))⟩⟩, ⟨6, (mB 102 3802951800684688204490109648896), [], ⟨(some 100), none, (.extN (.tmp 94) 0)⟩⟩, ⟨7, (mB 102 3802951800684688204490109648896), [], ⟨(some 101), none, (.extN (.tmp 94) 1)⟩⟩, ⟨8, (mB 102 5050795360284351521588426866688), [], ⟨none, none, (.mv (.const (.tuple ⟨[]⟩)))⟩⟩, ⟨9, (mB 102 2535301200456458802993406443520), (mB 101 1267650600228229401496703205376), ⟨(some 15), none, (.box (.tmp 100))⟩⟩] [⟨(some 16), none, (.asg (.tmp 101))⟩]) (.seq (.seq (.ops [
  ⟨(some 102), none, (.load 1 true (.tmp 15))⟩,
  ⟨(some 103), none, (.load 1 true (.tmp 6))⟩,
  ⟨(some 104), none, (.callX 9 [(.tmp 102), (.tmp 103)])⟩,
  ⟨(some 105), none, (.un .not (.tmp 104))⟩,
  ⟨(some 106), none, (.mv (.tmp 105))⟩,
  ⟨(some 107), (some (106, false)), (.mv (.tmp 16))⟩,
  ⟨(some 108), (some (106, false)), (.mv (.tmp 7))⟩,
  ⟨(some 109), (some (106, false)), (.bin .neq (.tmp 107) (.tmp 108))⟩,
  ⟨(some 110), none, (.pick (.tmp 106) (.const (.bool true)) (.tmp 109))⟩]) (.cond (.tmp 110) (.seq (.ops [
  ⟨(some 4), none, (.asg (.const (.bool false)))⟩]) .ret) .skip)) (.seq (.ops [
  ⟨(some 14), none, (.asg (.const (.int .i64 1)))⟩]) (.seq (.ops [
  ⟨(some 111), none, (.load 1 true (.tmp 10))⟩,
  ⟨(some 112), none, (.mv (.tmp 14))⟩,
  ⟨(some 113), none, (.callX 11 [(.tmp 111), (.tmp 112)])⟩,
  ⟨(some 14), none, (.asg (.tmp 113))⟩]) (.seq (.seq (.ops [
  ⟨(some 114), none, (.mv (.tmp 14))⟩,
  ⟨(some 115), none, (.bin .lss (.tmp 114) (.const (.int .i64 0)))⟩]) (.cond (.tmp 115) (.seq (.ops [
  ⟨(some 4), none, (.asg (.const (.bool false)))⟩]) .ret) .skip)) (.seq (.seq (.ops [
  ⟨(some 116), none, (.mv (.tmp 14))⟩,
  ⟨(some 117), none, (.mv (.tmp 13))⟩,
  ⟨(some 118), none, (.bin .neq (.tmp 116) (.tmp 117))⟩]) (.cond (.tmp 118) (.seq (.ops [
  ⟨(some 4), none, (.asg (.const (.bool false)))⟩]) .ret) .skip)) (.seq (.ops [
  ⟨(some 4), none, (.asg (.const (.bool true)))⟩]) .ret))))))))))))))))))))))))))))))
theorem law_laws_FnExactJoinAssemblies {a0 a1 d : D} (h : code_laws_FnExactJoinAssemblies.wp (CT Try.prog NoG) (endQ [(.t 4)] d) [a0, a1, .undef, .undef, .undef, .undef, .undef, .undef, .undef, .undef, .undef, .undef, .undef, .undef, .undef, .undef, .undef, .undef, .undef, .undef, .undef, .undef, .undef, .undef, .undef, .undef, .undef, .undef, .undef, .undef, .undef, .undef, .undef, .undef, .undef, .undef, .undef, .undef, .undef, .undef, .undef, .undef, .undef, .undef, .undef, .undef, .undef, .undef, .undef, .undef, .undef, .undef, .undef, .undef, .undef, .undef, .undef, .undef, .undef, .undef, .undef, .undef, .undef, .undef, .undef, .undef, .undef, .undef, .undef, .undef, .undef, .undef, .undef, .undef, .undef, .undef, .undef, .undef, .undef, .undef, .undef, .undef, .undef, .undef, .undef, .undef, .undef, .undef, .undef, .undef, .undef, .undef, .undef, .undef, .undef, .undef, .undef, .undef, .undef, .undef, .undef, .undef, .undef, .undef, .undef, .undef, .undef, .undef, .undef, .undef, .undef, .undef, .undef, .undef, .undef, .undef, .undef, .undef, .undef]) : Contract Try.prog NoG 3 [a0, a1] d :=
  contract_of (pt := 0) noG Try.func3 (fun us W => by kernel_rfl) (c := Try.f3.body.getD .skip) (ms := []) (ms' := []) (by kernel_rfl) (by kernel_rfl) (by kernel_rfl) h
set_option maxHeartbeats 8000000 in
theorem vlawJoinAssemblies (q_aA : Assembly) (q_aA_ok : Assembly.td.ok q_aA) (q_aB : Assembly) (q_aB_ok : Assembly.td.ok q_aB) : Contract Try.prog NoG 3 [.agg (Assembly.td.d false q_aA), .agg (Assembly.td.d false q_aB)] (.v (.bool true)) := by
  by_cases g0 : ((Assembly.cnt q_aA : Nat) : Int) ≤ 1048576
  · by_cases g1 : ((Assembly.cnt q_aB : Nat) : Int) ≤ 1048576 - (Assembly.cnt q_aA : Nat)
    · have q_aA_n : Assembly.cnt q_aA ≤ 1048576 := (by omega); have q_aB_n : Assembly.cnt q_aB ≤ 1048576 := (by omega); have hr0 := (joinA_ok q_aA q_aA_ok q_aA_n q_aB q_aB_ok q_aB_n)
      have e0 : szR (1048576) (Assembly.cnt q_aA) = 1048576 - (Assembly.cnt q_aA : Nat) := (by rw [szR_ok g0]); have n0 : decide ((1048576 - (Assembly.cnt q_aA : Nat) : Int) < 0) = false := (by rw [decide_eq_false_iff_not]; omega); have e1 : szR (1048576 - (Assembly.cnt q_aA : Nat)) (Assembly.cnt q_aB) = 1048576 - (Assembly.cnt q_aA : Nat) - (Assembly.cnt q_aB : Nat) := (by rw [szR_ok g1]); have n1 : decide ((1048576 - (Assembly.cnt q_aA : Nat) - (Assembly.cnt q_aB : Nat) : Int) < 0) = false := (by rw [decide_eq_false_iff_not]; omega); have hi0 := (v_toAssembly q_aA q_aA_n).imm; simp only [D.imm, immL, TD.imm, TD.rows, immLL_rI, immLL_rB8, immLL_rS, immLL_rBo, immLL_rII, immLL_rIIt] at hi0; have hi1 := (v_toAssembly q_aB q_aB_n).imm; simp only [D.imm, immL, TD.imm, TD.rows, immLL_rI, immLL_rB8, immLL_rS, immLL_rBo, immLL_rII, immLL_rIIt] at hi1; have hi2 := (vJoinAssemblies_spec q_aA q_aA_ok q_aA_n q_aB q_aB_ok q_aB_n).imm; simp only [D.imm, immL, TD.imm, TD.rows, immLL_rI, immLL_rB8, immLL_rS, immLL_rBo, immLL_rII, immLL_rIIt] at hi2; have hm_0 := Assembly.cnT_le q_aA; have hm_1 := Assembly.cnT_le q_aB; have hm_2 := (show (Assembly.cnT (joinA q_aA q_aB)) ≤ 1000000000000 from joinA_cn q_aA q_aB)
      have hi3 := (vJoinAssemblies_impl q_aA q_aA_ok q_aA_n q_aB q_aB_ok q_aB_n).imm; simp only [D.imm, immL, TD.imm, TD.rows, immLL_rI, immLL_rB8, immLL_rS, immLL_rBo, immLL_rII, immLL_rIIt] at hi3; have dm0 : decide (((1 + (Assembly.cnT q_aA : Nat)) : Int) < 0) = false := (by rw [decide_eq_false_iff_not]; omega); have dm1 : decide ((((1 + (Assembly.cnT q_aA : Nat)) + (Assembly.cnT q_aB : Nat)) : Int) < 0) = false := (by rw [decide_eq_false_iff_not]; omega); have dm2 : decide (((1 + (Assembly.cnT (joinA q_aA q_aB) : Nat)) : Int) < 0) = false := (by rw [decide_eq_false_iff_not]; omega); rw [Assembly.td_d]; refine law_laws_FnExactJoinAssemblies ?_; unfold code_laws_FnExactJoinAssemblies; simp -implicitDefEqProofs (disch := omega) only [go_sem, ↓reduceIte , decide_true, e0, n0, e1, n1, dm0, dm1, dm2]; refine call_B (v_szAssembly q_aA q_aA_ok (1048576) (by omega) (by omega)) (by simp -implicitDefEqProofs (disch := omega) only [go_sem, ↓reduceIte, deep, TD.rows, immLL_rI, immLL_rB8, immLL_rS, immLL_rBo, immLL_rII, immLL_rIIt, decide_true, e0, n0, e1, n1, dm0, dm1, dm2]; exact rfl) ?_; simp -implicitDefEqProofs (disch := omega) only [go_sem, ↓reduceIte , decide_true, e0, n0, e1, n1, dm0, dm1, dm2]; refine call_B (v_szAssembly q_aB q_aB_ok (1048576 - (Assembly.cnt q_aA : Nat)) (by omega) (by omega)) (by simp -implicitDefEqProofs (disch := omega) only [go_sem, ↓reduceIte, deep, TD.rows, immLL_rI, immLL_rB8, immLL_rS, immLL_rBo, immLL_rII, immLL_rIIt, decide_true, e0, n0, e1, n1, dm0, dm1, dm2]; exact rfl) ?_; simp -implicitDefEqProofs (disch := omega) only [go_sem, ↓reduceIte , decide_true, e0, n0, e1, n1, dm0, dm1, dm2]; refine call_NB (hi0) (by simp -implicitDefEqProofs (disch := omega) only [go_sem, ↓reduceIte, deep, TD.rows, immLL_rI, immLL_rB8, immLL_rS, immLL_rBo, immLL_rII, immLL_rIIt, decide_true, e0, n0, e1, n1, dm0, dm1, dm2]; exact rfl) ?_; simp -implicitDefEqProofs (disch := omega) only [go_sem, ↓reduceIte , decide_true, e0, n0, e1, n1, dm0, dm1, dm2]; refine call_NB (hi1) (by simp -implicitDefEqProofs (disch := omega) only [go_sem, ↓reduceIte, deep, TD.rows, immLL_rI, immLL_rB8, immLL_rS, immLL_rBo, immLL_rII, immLL_rIIt, decide_true, e0, n0, e1, n1, dm0, dm1, dm2]; exact rfl) ?_; simp -implicitDefEqProofs (disch := omega) only [go_sem, ↓reduceIte , decide_true, e0, n0, e1, n1, dm0, dm1, dm2]; refine call_NB (hi2) (by simp -implicitDefEqProofs (disch := omega) only [go_sem, ↓reduceIte, deep, TD.rows, immLL_rI, immLL_rB8, immLL_rS, immLL_rBo, immLL_rII, immLL_rIIt, decide_true, e0, n0, e1, n1, dm0, dm1, dm2]; exact rfl) ?_; simp -implicitDefEqProofs (disch := omega) only [go_sem, ↓reduceIte , decide_true, e0, n0, e1, n1, dm0, dm1, dm2]; refine call_B (v_toAssembly q_aA q_aA_n) (by simp -implicitDefEqProofs (disch := omega) only [go_sem, ↓reduceIte, deep, TD.rows, immLL_rI, immLL_rB8, immLL_rS, immLL_rBo, immLL_rII, immLL_rIIt, decide_true, e0, n0, e1, n1, dm0, dm1, dm2]; exact rfl) ?_; simp -implicitDefEqProofs (disch := omega) only [go_sem, ↓reduceIte , decide_true, e0, n0, e1, n1, dm0, dm1, dm2]; refine call_B (v_toAssembly q_aB q_aB_n) (by simp -implicitDefEqProofs (disch := omega) only [go_sem, ↓reduceIte, deep, TD.rows, immLL_rI, immLL_rB8, immLL_rS, immLL_rBo, immLL_rII, immLL_rIIt, decide_true, e0, n0, e1, n1, dm0, dm1, dm2]; exact rfl) ?_; simp -implicitDefEqProofs (disch := omega) only [go_sem, ↓reduceIte , decide_true, e0, n0, e1, n1, dm0, dm1, dm2]; refine call_B (vJoinAssemblies_impl q_aA q_aA_ok q_aA_n q_aB q_aB_ok q_aB_n) (by simp -implicitDefEqProofs (disch := omega) only [go_sem, ↓reduceIte, deep, TD.rows, immLL_rI, immLL_rB8, immLL_rS, immLL_rBo, immLL_rII, immLL_rIIt, decide_true, e0, n0, e1, n1, dm0, dm1, dm2]; exact rfl) ?_; simp -implicitDefEqProofs (disch := omega) only [go_sem, ↓reduceIte , decide_true, e0, n0, e1, n1, dm0, dm1, dm2]; refine call_B (v_eqAssembly (joinA q_aA q_aB) hr0) (by simp -implicitDefEqProofs (disch := omega) only [go_sem, ↓reduceIte, deep, TD.rows, immLL_rI, immLL_rB8, immLL_rS, immLL_rBo, immLL_rII, immLL_rIIt, decide_true, e0, n0, e1, n1, dm0, dm1, dm2]; exact rfl) ?_; simp -implicitDefEqProofs (disch := omega) only [go_sem, ↓reduceIte , decide_true, e0, n0, e1, n1, dm0, dm1, dm2]; refine call_NB (hi0) (by simp -implicitDefEqProofs (disch := omega) only [go_sem, ↓reduceIte, deep, TD.rows, immLL_rI, immLL_rB8, immLL_rS, immLL_rBo, immLL_rII, immLL_rIIt, decide_true, e0, n0, e1, n1, dm0, dm1, dm2]; exact rfl) ?_; simp -implicitDefEqProofs (disch := omega) only [go_sem, ↓reduceIte , decide_true, e0, n0, e1, n1, dm0, dm1, dm2]; refine call_B (v_eqAssembly q_aA q_aA_ok) (by simp -implicitDefEqProofs (disch := omega) only [go_sem, ↓reduceIte, deep, TD.rows, immLL_rI, immLL_rB8, immLL_rS, immLL_rBo, immLL_rII, immLL_rIIt, decide_true, e0, n0, e1, n1, dm0, dm1, dm2]; exact rfl) ?_; simp -implicitDefEqProofs (disch := omega) only [go_sem, ↓reduceIte , decide_true, e0, n0, e1, n1, dm0, dm1, dm2]; refine call_NB (hi1) (by simp -implicitDefEqProofs (disch := omega) only [go_sem, ↓reduceIte, deep, TD.rows, immLL_rI, immLL_rB8, immLL_rS, immLL_rBo, immLL_rII, immLL_rIIt, decide_true, e0, n0, e1, n1, dm0, dm1, dm2]; exact rfl) ?_; simp -implicitDefEqProofs (disch := omega) only [go_sem, ↓reduceIte , decide_true, e0, n0, e1, n1, dm0, dm1, dm2]; refine call_B (v_eqAssembly q_aB q_aB_ok) (by simp -implicitDefEqProofs (disch := omega) only [go_sem, ↓reduceIte, deep, TD.rows, immLL_rI, immLL_rB8, immLL_rS, immLL_rBo, immLL_rII, immLL_rIIt, decide_true, e0, n0, e1, n1, dm0, dm1, dm2]; exact rfl) ?_; simp -implicitDefEqProofs (disch := omega) only [go_sem, ↓reduceIte , decide_true, e0, n0, e1, n1, dm0, dm1, dm2]; refine call_markB (r := 8) (v_markAssembly q_aA q_aA_ok (1) (by omega) (by omega)) rfl rfl rfl rfl ?_; simp -implicitDefEqProofs (disch := omega) only [go_sem, ↓reduceIte , decide_true, e0, n0, e1, n1, dm0, dm1, dm2]; refine call_markB (r := 9) (v_markAssembly q_aB q_aB_ok ((1 + (Assembly.cnT q_aA : Nat))) (by omega) (by omega)) rfl rfl rfl rfl ?_; simp -implicitDefEqProofs (disch := omega) only [go_sem, ↓reduceIte , decide_true, e0, n0, e1, n1, dm0, dm1, dm2]; refine call_B (v_eqAssembly (joinA q_aA q_aB) hr0) (by simp -implicitDefEqProofs (disch := omega) only [go_sem, ↓reduceIte, deep, TD.rows, immLL_rI, immLL_rB8, immLL_rS, immLL_rBo, immLL_rII, immLL_rIIt, decide_true, e0, n0, e1, n1, dm0, dm1, dm2]; exact rfl) ?_; simp -implicitDefEqProofs (disch := omega) only [go_sem, ↓reduceIte , decide_true, e0, n0, e1, n1, dm0, dm1, dm2]; refine call_markB (r := 10) (v_markAssembly (joinA q_aA q_aB) hr0 (1) (by omega) (by omega)) rfl rfl rfl rfl ?_; simp -implicitDefEqProofs (disch := omega) only [go_sem, ↓reduceIte , decide_true, e0, n0, e1, n1, dm0, dm1, dm2]; refine call_B (v_heldAssembly (joinA q_aA q_aB) hr0 (1) (by omega) (by omega)) (by simp -implicitDefEqProofs (disch := omega) only [go_sem, ↓reduceIte, deep, TD.rows, immLL_rI, immLL_rB8, immLL_rS, immLL_rBo, immLL_rII, immLL_rIIt, decide_true, e0, n0, e1, n1, dm0, dm1, dm2]; exact rfl) ?_; simp -implicitDefEqProofs (disch := omega) only [go_sem, ↓reduceIte , decide_true, e0, n0, e1, n1, dm0, dm1, dm2]; refine call_NB (hi0) (by simp -implicitDefEqProofs (disch := omega) only [go_sem, ↓reduceIte, deep, TD.rows, immLL_rI, immLL_rB8, immLL_rS, immLL_rBo, immLL_rII, immLL_rIIt, decide_true, e0, n0, e1, n1, dm0, dm1, dm2]; exact rfl) ?_; simp -implicitDefEqProofs (disch := omega) only [go_sem, ↓reduceIte , decide_true, e0, n0, e1, n1, dm0, dm1, dm2]; refine call_NB (hi1) (by simp -implicitDefEqProofs (disch := omega) only [go_sem, ↓reduceIte, deep, TD.rows, immLL_rI, immLL_rB8, immLL_rS, immLL_rBo, immLL_rII, immLL_rIIt, decide_true, e0, n0, e1, n1, dm0, dm1, dm2]; exact rfl) ?_; simp -implicitDefEqProofs (disch := omega) only [go_sem, ↓reduceIte , decide_true, e0, n0, e1, n1, dm0, dm1, dm2]; refine call_NB (hi3) (by simp -implicitDefEqProofs (disch := omega) only [go_sem, ↓reduceIte, deep, TD.rows, immLL_rI, immLL_rB8, immLL_rS, immLL_rBo, immLL_rII, immLL_rIIt, decide_true, e0, n0, e1, n1, dm0, dm1, dm2]; exact rfl) ?_; simp -implicitDefEqProofs (disch := omega) only [go_sem, ↓reduceIte , decide_true, e0, n0, e1, n1, dm0, dm1, dm2]; refine call_B (v_eqAssembly (joinA q_aA q_aB) hr0) (by simp -implicitDefEqProofs (disch := omega) only [go_sem, ↓reduceIte, deep, TD.rows, immLL_rI, immLL_rB8, immLL_rS, immLL_rBo, immLL_rII, immLL_rIIt, decide_true, e0, n0, e1, n1, dm0, dm1, dm2]; exact rfl) ?_; simp -implicitDefEqProofs (disch := omega) only [go_sem, ↓reduceIte , decide_true, e0, n0, e1, n1, dm0, dm1, dm2]; refine call_B (v_heldAssembly (joinA q_aA q_aB) hr0 (1) (by omega) (by omega)) (by simp -implicitDefEqProofs (disch := omega) only [go_sem, ↓reduceIte, deep, TD.rows, immLL_rI, immLL_rB8, immLL_rS, immLL_rBo, immLL_rII, immLL_rIIt, decide_true, e0, n0, e1, n1, dm0, dm1, dm2]; exact rfl) ?_; simp -implicitDefEqProofs (disch := omega) only [go_sem, ↓reduceIte , decide_true, e0, n0, e1, n1, dm0, dm1, dm2]
    · have e0 : szR (1048576) (Assembly.cnt q_aA) = 1048576 - (Assembly.cnt q_aA : Nat) := (by rw [szR_ok g0]); have n0 : decide ((1048576 - (Assembly.cnt q_aA : Nat) : Int) < 0) = false := (by rw [decide_eq_false_iff_not]; omega); have e1 : szR (1048576 - (Assembly.cnt q_aA : Nat)) (Assembly.cnt q_aB) = -1 := (by rw [szR_no g1]); rw [Assembly.td_d]; refine law_laws_FnExactJoinAssemblies ?_; unfold code_laws_FnExactJoinAssemblies; simp -implicitDefEqProofs (disch := omega) only [go_sem, ↓reduceIte , decide_true, e0, n0, e1]; refine call_B (v_szAssembly q_aA q_aA_ok (1048576) (by omega) (by omega)) (by simp -implicitDefEqProofs (disch := omega) only [go_sem, ↓reduceIte, deep, TD.rows, immLL_rI, immLL_rB8, immLL_rS, immLL_rBo, immLL_rII, immLL_rIIt, decide_true, e0, n0, e1]; exact rfl) ?_; simp -implicitDefEqProofs (disch := omega) only [go_sem, ↓reduceIte , decide_true, e0, n0, e1]; refine call_B (v_szAssembly q_aB q_aB_ok (1048576 - (Assembly.cnt q_aA : Nat)) (by omega) (by omega)) (by simp -implicitDefEqProofs (disch := omega) only [go_sem, ↓reduceIte, deep, TD.rows, immLL_rI, immLL_rB8, immLL_rS, immLL_rBo, immLL_rII, immLL_rIIt, decide_true, e0, n0, e1]; exact rfl) ?_; simp -implicitDefEqProofs (disch := omega) only [go_sem, ↓reduceIte , decide_true, e0, n0, e1]
  · have e0 : szR (1048576) (Assembly.cnt q_aA) = -1 := (by rw [szR_no g0]); rw [Assembly.td_d]; refine law_laws_FnExactJoinAssemblies ?_; unfold code_laws_FnExactJoinAssemblies; simp -implicitDefEqProofs (disch := omega) only [go_sem, ↓reduceIte , decide_true, e0]; refine call_B (v_szAssembly q_aA q_aA_ok (1048576) (by omega) (by omega)) (by simp -implicitDefEqProofs (disch := omega) only [go_sem, ↓reduceIte, deep, TD.rows, immLL_rI, immLL_rB8, immLL_rS, immLL_rBo, immLL_rII, immLL_rIIt, decide_true, e0]; exact rfl) ?_; simp -implicitDefEqProofs (disch := omega) only [go_sem, ↓reduceIte , decide_true, e0]
theorem walk_fnExactJoinAssemblies (q_aA_v0 : Value) (q_aA : Assembly) (q_aB_v0 : Value) (q_aB : Assembly) (w : World) (q_aA_h0 : (Ty.slice 60 Placed.ty).rep w w.heap.size [q_aA_v0] q_aA.Tiles) (q_aB_h0 : (Ty.slice 60 Placed.ty).rep w w.heap.size [q_aB_v0] q_aB.Tiles) :
    Calls Try.prog 3 #[.agg #[q_aA_v0], .agg #[q_aB_v0]] w fun e w' => e = .returned (.bool true) ∧ Below w.heap.size w w' := by
  have hr_q_aA := Assembly.rep_mk (w := w) (B := w.heap.size) q_aA_h0; have hr_q_aB := Assembly.rep_mk (w := w) (B := w.heap.size) q_aB_h0; refine (Contract.at (vlawJoinAssemblies q_aA (Assembly.td.rep_ok hr_q_aA) q_aB (Assembly.td.rep_ok hr_q_aB)) gI (Nat.le_refl _) (vals_cons (TD.arg_agg Assembly.td hr_q_aA) (vals_cons (TD.arg_agg Assembly.td hr_q_aB) vals_nil))).mono ?_; rintro e w' ⟨⟨v, I, F, rfl, hT, hn, hF⟩, hb⟩; obtain rfl := T_v hT; exact ⟨rfl, hb⟩
end Go.Proofs.Ytjalagigmelcaaa
