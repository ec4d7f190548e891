/- Laws that the proof stands on. -/
import Derived.Test.YtjalagigmelcaaaZVJoinL
import Derived.Test.YtjalagigmelcaaaZg15
set_option linter.all false
namespace Go.Proofs.Ytjalagigmelcaaa
open Go.RowKit Go.V
attribute [local go_sem] List.getElem?_cons_succ List.getElem?_cons_zero List.set_cons_succ List.set_cons_zero List.map_cons List.map_nil List.length_cons List.length_nil List.all_cons List.all_nil List.drop_succ_cons List.drop_zero List.take_succ_cons List.take_zero List.flatMap_cons List.flatMap_nil List.cons_append List.nil_append List.append_nil List.headD_cons Value.oneCell' Bool.and_true Bool.true_and Bool.or_false Bool.false_or Bool.and_self Bool.not_true Bool.not_false and_true true_and beq_self_eq_true Bool.false_eq_true if_true if_false Nat.zero_add Nat.reduceAdd Nat.reduceMul Nat.reduceLeDiff Nat.le_refl Option.isSome_some Option.isSome_none not_true_eq_false not_false_eq_true ne_eq reduceCtorEq List.reverse_nil bne_self_eq_false Nat.reduceEqDiff List.isPrefixOf Bool.not_eq_true Bool.and_false Bool.false_and Bool.true_or Bool.or_true decide_true decide_false Nat.reduceBEq Nat.reduceBNe List.replicate_succ List.replicate_zero exists_eq_left' exists_eq_left Option.some.injEq or_false or_true true_or false_or Option.map_some Option.map_none mB Nat.reduceMod Nat.reduceDiv
set_option maxRecDepth 100000
def code_laws_f6big : VCode := (.seq (.ops [
  ⟨(some 2), none, (.asg (.const (.bool false)))⟩]) (.seq (.ops [
  ⟨(some 3), none, (.mv (.tmp 0))⟩,
  ⟨(some 4), none, (.len (.tmp 3))⟩,
  ⟨(some 5), none, (.bin .gtr (.tmp 4) (.const (.int .i64 4096)))⟩,
  ⟨(some 2), none, (.asg (.tmp 5))⟩]) .ret))
theorem law_laws_f6big {a0 d : D} (h : code_laws_f6big.wp (CT Try.prog NoG) (endQ [(.t 2)] d) [a0, .undef, .undef, .undef, .undef, .undef]) : Contract Try.prog NoG 12 [a0] d :=
  contract_of (pt := 0) noG Try.func12 (fun us W => by kernel_rfl) (c := Try.f12.body.getD .skip) (ms := []) (ms' := []) (by kernel_rfl) (by kernel_rfl) (by kernel_rfl) h
def code_spec_SameAssembly : VCode := (.seq (.ops [
  ⟨(some 2), none, (.box (.tmp 0))⟩,
  ⟨(some 3), none, (.box (.tmp 1))⟩,
  ⟨(some 4), none, (.asg (.const (.bool false)))⟩]) (.seq (.ops [
  ⟨(some 5), none, (.callX 29 [(.tmp 2), (.tmp 3)])⟩,
  ⟨(some 4), none, (.asg (.tmp 5))⟩]) .ret))
theorem law_spec_SameAssembly {a0 a1 d : D} (h : code_spec_SameAssembly.wp (CT Try.prog NoG) (endQ [(.t 4)] d) [a0, a1, .undef, .undef, .undef, .undef]) : Contract Try.prog NoG 14 [a0, a1] d :=
  contract_of (pt := 0) noG Try.func14 (fun us W => by kernel_rfl) (c := Try.f14.body.getD .skip) (ms := []) (ms' := []) (by kernel_rfl) (by kernel_rfl) (by kernel_rfl) h
def code_laws_FnJoined : VCode := (.seq (.ops [
  ⟨(some 2), none, (.asg (.const (.bool false)))⟩]) (.seq (.seq (.ops [
  ⟨(some 17), none, (.mv (.tmp 0))⟩,
  ⟨(some 18), none, (.callX 12 [(.tmp 17)])⟩]) (.cond (.tmp 18) (.seq (.ops [
  ⟨(some 2), none, (.asg (.const (.bool true)))⟩]) .ret) .skip)) (.seq (.ops [
  ⟨(some 20), none, (.mv (.tmp 0))⟩,
  ⟨(some 21), none, (.callX 13 [(.tmp 20)])⟩,
  ⟨(some 19), none, (.mv (.tmp 21))⟩,
  ⟨(some 22), none, (.ext (.tmp 19) 0)⟩,
  ⟨(some 23), none, (.ext (.tmp 19) 1)⟩,
  ⟨(some 3), none, (.alloc [(.slice none 0 0)])⟩,
  ⟨(some 4), none, (.alloc [(.slice none 0 0)])⟩,
  ⟨none, none, (.store 1 (.tmp 3) (.tmp 22))⟩,
  ⟨none, none, (.store 1 (.tmp 4) (.tmp 23))⟩]) (.seq (.ops [
  ⟨(some 25), none, (.load 1 true (.tmp 3))⟩,
  ⟨(some 26), none, (.load 1 true (.tmp 4))⟩,
  ⟨(some 27), none, (.callX 8 [(.tmp 25), (.tmp 26)])⟩,
  ⟨(some 24), none, (.mv (.tmp 27))⟩,
  ⟨(some 28), none, (.ext (.tmp 24) 0)⟩,
  ⟨(some 29), none, (.ext (.tmp 24) 1)⟩,
  ⟨(some 5), none, (.alloc [(.slice none 0 0)])⟩,
  ⟨none, none, (.store 1 (.tmp 5) (.tmp 28))⟩,
  ⟨(some 6), none, (.asg (.tmp 29))⟩]) (.seq (.ops [
  ⟨(some 31), none, (.load 1 true (.tmp 3))⟩,
  ⟨(some 32), none, (.load 1 true (.tmp 4))⟩,
  ⟨(some 33), none, (.callX 6 [(.tmp 31), (.tmp 32)])⟩,
  ⟨(some 30), none, (.mv (.tmp 33))⟩,
  ⟨(some 34), none, (.ext (.tmp 30) 0)⟩,
  ⟨(some 35), none, (.ext (.tmp 30) 1)⟩,
  ⟨(some 7), none, (.alloc [(.slice none 0 0)])⟩,
  ⟨none, none, (.store 1 (.tmp 7) (.tmp 34))⟩,
  ⟨(some 8), none, (.asg (.tmp 35))⟩]) (.seq (.seq (.ops [
  ⟨(some 36), none, (.mv (.tmp 6))⟩,
  ⟨(some 37), none, (.mv (.tmp 8))⟩,
  ⟨(some 38), none, (.bin .neq (.tmp 36) (.tmp 37))⟩,
  ⟨(some 39), none, (.mv (.tmp 38))⟩,
  ⟨(some 40), (some (39, false)), (.load 1 true (.tmp 5))⟩,
  ⟨(some 41), (some (39, false)), (.load 1 true (.tmp 7))⟩,
  ⟨(some 42), (some (39, false)), (.callX 14 [(.tmp 40), (.tmp 41)])⟩,
  ⟨(some 43), (some (39, false)), (.un .not (.tmp 42))⟩,
  ⟨(some 44), none, (.pick (.tmp 39) (.const (.bool true)) (.tmp 43))⟩]) (.cond (.tmp 44) (.seq (.ops [
  ⟨(some 2), none, (.asg (.const (.bool false)))⟩]) .ret) .skip)) (.seq (.ops [
  ⟨(some 46), none, (.load 1 true (.tmp 3))⟩,
  ⟨(some 47), none, (.load 1 true (.tmp 4))⟩,
  ⟨(some 48), none, (.callX 15 [(.tmp 46), (.tmp 47)])⟩,
  ⟨(some 45), none, (.mv (.tmp 48))⟩,
  ⟨(some 49), none, (.ext (.tmp 45) 0)⟩,
  ⟨(some 50), none, (.ext (.tmp 45) 1)⟩,
  ⟨(some 9), none, (.alloc [(.int .i64 0), (.int .i64 0)])⟩,
  ⟨none, none, (.store 2 (.tmp 9) (.tmp 49))⟩,
  ⟨(some 10), none, (.asg (.tmp 50))⟩]) (.seq (.seq (.ops [
  ⟨(some 51), none, (.mv (.tmp 6))⟩,
  ⟨(some 52), none, (.bin .eql (.tmp 51) (.const (.int .i64 7)))⟩]) (.cond (.tmp 52) (.seq (.ops [
  ⟨(some 54), none, (.load 1 true (.tmp 3))⟩,
  ⟨(some 55), none, (.load 2 true (.tmp 9))⟩,
  ⟨(some 56), none, (.callX 16 [(.tmp 54), (.tmp 55)])⟩,
  ⟨(some 53), none, (.mv (.tmp 56))⟩,
  ⟨(some 57), none, (.ext (.tmp 53) 0)⟩,
  ⟨(some 58), none, (.ext (.tmp 53) 1)⟩,
  ⟨(some 11), none, (.asg (.tmp 57))⟩,
  ⟨(some 12), none, (.asg (.tmp 58))⟩]) (.seq (.ops [
  ⟨(some 60), none, (.load 1 true (.tmp 4))⟩,
  ⟨(some 61), none, (.load 2 true (.tmp 9))⟩,
  ⟨(some 62), none, (.callX 16 [(.tmp 60), (.tmp 61)])⟩,
  ⟨(some 59), none, (.mv (.tmp 62))⟩,
  ⟨(some 63), none, (.ext (.tmp 59) 0)⟩,
  ⟨(some 64), none, (.ext (.tmp 59) 1)⟩,
  ⟨(some 13), none, (.asg (.tmp 63))⟩,
  ⟨(some 14), none, (.asg (.tmp 64))⟩]) (.seq (.ops [
  ⟨(some 65), none, (.mv (.tmp 10))⟩,
  ⟨(some 66), none, (.bin .eql (.tmp 65) (.const (.int .i64 0)))⟩,
  ⟨(some 67), none, (.mv (.tmp 66))⟩,
  ⟨(some 68), (some (67, true)), (.mv (.tmp 12))⟩,
  ⟨(some 69), none, (.pick (.tmp 67) (.tmp 68) (.const (.bool false)))⟩,
  ⟨(some 70), none, (.mv (.tmp 69))⟩,
  ⟨(some 71), (some (70, true)), (.mv (.tmp 14))⟩,
  ⟨(some 72), none, (.pick (.tmp 70) (.tmp 71) (.const (.bool false)))⟩,
  ⟨(some 73), none, (.mv (.tmp 72))⟩,
  ⟨(some 74), (some (73, true)), (.mv (.tmp 11))⟩,
  ⟨(some 75), (some (73, true)), (.mv (.tmp 13))⟩,
  ⟨(some 76), (some (73, true)), (.bin .neq (.tmp 74) (.tmp 75))⟩,
  ⟨(some 77), none, (.pick (.tmp 73) (.tmp 76) (.const (.bool false)))⟩,
  ⟨(some 2), none, (.asg (.tmp 77))⟩]) .ret))) .skip)) (.seq (.seq (.ops [
  ⟨(some 78), none, (.mv (.tmp 6))⟩,
  ⟨(some 79), none, (.bin .neq (.tmp 78) (.const (.int .i64 0)))⟩]) (.cond (.tmp 79) (.seq (.ops [
  ⟨(some 2), none, (.asg (.const (.bool true)))⟩]) .ret) .skip)) (.seq (.ops [
  ⟨(some 81), none, (.load 1 true (.tmp 4))⟩,
  ⟨(some 82), none, (.load 1 true (.tmp 3))⟩,
  ⟨(some 83), none, (.callX 8 [(.tmp 81), (.tmp 82)])⟩,
  ⟨(some 80), none, (.mv (.tmp 83))⟩,
  ⟨(some 84), none, (.ext (.tmp 80) 0)⟩,
  ⟨(some 85), none, (.ext (.tmp 80) 1)⟩,
  ⟨(some 15), none, (.alloc [(.slice none 0 0)])⟩,
  ⟨none, none, (.store 1 (.tmp 15) (.tmp 84))⟩,
  ⟨(some 16), none, (.asg (.tmp 85))⟩]) (.seq (.ops [
  ⟨(some 86), none, (.mv (.tmp 10))⟩,
  ⟨(some 87), none, (.bin .eql (.tmp 86) (.const (.int .i64 3)))⟩,
  ⟨(some 88), none, (.mv (.tmp 87))⟩,
  ⟨(some 89), (some (88, true)), (.mv (.tmp 16))⟩,
  ⟨(some 90), (some (88, true)), (.bin .eql (.tmp 89) (.const (.int .i64 0)))⟩,
  ⟨(some 91), none, (.pick (.tmp 88) (.tmp 90) (.const (.bool false)))⟩,
  ⟨(some 92), none, (.mv (.tmp 91))⟩,
  ⟨(some 93), (some (92, true)), (.load 1 true (.tmp 15))⟩,
  ⟨(some 94), (some (92, true)), (.load 1 true (.tmp 7))⟩,
  ⟨(some 95), (some (92, true)), (.callX 14 [(.tmp 93), (.tmp 94)])⟩,
  ⟨(some 96), none, (.pick (.tmp 92) (.tmp 95) (.const (.bool false)))⟩,
  ⟨(some 97), none, (.mv (.tmp 96))⟩,
  ⟨(some 98), (some (97, true)), (.load 1 true (.tmp 3))⟩,
  ⟨(some 99), (some (97, true)), (.load 1 true (.tmp 7))⟩,
  ⟨(some 100), (some (97, true)), (.callX 17 [(.tmp 98), (.tmp 99)])⟩,
  ⟨(some 101), none, (.pick (.tmp 97) (.tmp 100) (.const (.bool false)))⟩,
  ⟨(some 102), none, (.mv (.tmp 101))⟩,
  ⟨(some 103), (some (102, true)), (.load 1 true (.tmp 4))⟩,
  ⟨(some 104), (some (102, true)), (.load 1 true (.tmp 7))⟩,
  ⟨(some 105), (some (102, true)), (.callX 17 [(.tmp 103), (.tmp 104)])⟩,
  ⟨(some 106), none, (.pick (.tmp 102) (.tmp 105) (.const (.bool false)))⟩,
  ⟨(some 2), none, (.asg (.tmp 106))⟩]) .ret)))))))))))
theorem law_laws_FnJoined {a0 d : D} (h : code_laws_FnJoined.wp (CT Try.prog NoG) (endQ [(.t 2)] d) [a0, .undef, .undef, .undef, .undef, .undef, .undef, .undef, .undef, .undef, .undef, .undef, .undef, .undef, .undef, .undef, .undef, .undef, .undef, .undef, .undef, .undef, .undef, .undef, .undef, .undef, .undef, .undef, .undef, .undef, .undef, .undef, .undef, .undef, .undef, .undef, .undef, .undef, .undef, .undef, .undef, .undef, .undef, .undef, .undef, .undef, .undef, .undef, .undef, .undef, .undef, .undef, .undef, .undef, .undef, .undef, .undef, .undef, .undef, .undef, .undef, .undef, .undef, .undef, .undef, .undef, .undef, .undef, .undef, .undef, .undef, .undef, .undef, .undef, .undef, .undef, .undef, .undef, .undef, .undef, .undef, .undef, .undef, .undef, .undef, .undef, .undef, .undef, .undef, .undef, .undef, .undef, .undef, .undef, .undef, .undef, .undef, .undef, .undef, .undef, .undef, .undef, .undef, .undef, .undef, .undef, .undef]) : Contract Try.prog NoG 4 [a0] d :=
  contract_of (pt := 0) noG Try.func4 (fun us W => by kernel_rfl) (c := Try.f4.body.getD .skip) (ms := []) (ms' := []) (by kernel_rfl) (by kernel_rfl) (by kernel_rfl) h
theorem v_f6big (a : List Int) : Contract Try.prog NoG 12 [.sl false 1 (a.map rB8)] (.v (.bool (decide (4096 < (a.length : Int))))) := by refine law_laws_f6big ?_; unfold code_laws_f6big; simp -implicitDefEqProofs (disch := omega) only [go_sem, ↓reduceIte , List.length_map]
theorem v_SameAssembly (a b : Assembly) (ha : a.Tiles.length ≤ 1048576) : Contract Try.prog NoG 14 [.agg (Assembly.td.d false a), .agg (Assembly.td.d false b)] (.v (.bool (decide (a = b)))) := by have h := v_l03Same a b ha; simp only [Assembly.td_d] at h ⊢; refine law_spec_SameAssembly ?_; unfold code_spec_SameAssembly; simp -implicitDefEqProofs (disch := omega) only [go_sem, ↓reduceIte]; refine call_B (h) (by simp -implicitDefEqProofs (disch := omega) only [go_sem, ↓reduceIte, deep, TD.rows, immLL_rI, immLL_rB8, immLL_rS, immLL_rBo, immLL_rII, immLL_rIIt]; exact rfl) ?_; simp -implicitDefEqProofs (disch := omega) only [go_sem, ↓reduceIte]
set_option maxHeartbeats 8000000 in
theorem vlawJoined (q_code : List Int) (hc : ∀ x, x ∈ q_code → InK .u8 x) : Contract Try.prog NoG 4 [.sl false 1 (q_code.map rB8)] (.v (.bool true)) := by
  refine law_laws_FnJoined ?_; unfold code_laws_FnJoined; simp -implicitDefEqProofs (disch := omega) only [go_sem, ↓reduceIte]; by_cases hl : (4096 : Int) < (q_code.length : Int)
  · have d0 := decide_eq_true hl; refine call_B (v_f6big q_code) (by simp -implicitDefEqProofs (disch := omega) only [go_sem, ↓reduceIte, deep, TD.rows, immLL_rI, immLL_rB8, immLL_rS, immLL_rBo, immLL_rII, immLL_rIIt, d0]; exact rfl) ?_; simp -implicitDefEqProofs (disch := omega) only [go_sem, ↓reduceIte , d0]
  · have d0 := decide_eq_false hl; refine call_B (v_f6big q_code) (by simp -implicitDefEqProofs (disch := omega) only [go_sem, ↓reduceIte, deep, TD.rows, immLL_rI, immLL_rB8, immLL_rS, immLL_rBo, immLL_rII, immLL_rIIt, d0]; exact rfl) ?_; simp -implicitDefEqProofs (disch := omega) only [go_sem, ↓reduceIte , d0]; obtain ⟨ps, qs, hg1, hg2, hD⟩ := v_DrawJoinAssemblies q_code (fun x hx => by have := hc x hx; unfold InK at this; omega) (by omega); obtain ⟨a, rfl⟩ : ∃ a : Assembly, ps = a.Tiles := ⟨⟨ps⟩, rfl⟩
    obtain ⟨b, rfl⟩ : ∃ b : Assembly, qs = b.Tiles := ⟨⟨qs⟩, rfl⟩
    have oa : Assembly.td.ok a := (by rw [Assembly.td_ok]; exact hg1.2); have ob : Assembly.td.ok b := (by rw [Assembly.td_ok]; exact hg2.2); have na : Assembly.cnt a ≤ 1048576 := (by show a.Tiles.length ≤ _; have := hg1.1; omega); have nb : Assembly.cnt b ≤ 1048576 := (by show b.Tiles.length ≤ _; have := hg2.1; omega); have hI := vJoinAssemblies_impl a oa na b ob nb; have hS := (vJoinAssemblies_spec a oa na b ob nb).imm; have hI2 := vJoinAssemblies_impl b ob nb a oa na; have hE := fun x : Assembly => v_SameAssembly x (joinA a b); have ln : (joinA a b).Tiles.length ≤ 500 := by
      cases hl : (joinA a b).Tiles with
      | nil => exact Nat.zero_le _
      | cons x l => rw [← hl]; exact (joinA_mem (x := x) (by rw [hl]; simp)).2.2.2
    have hE1 := hE (joinA a b) (by omega); rw [decide_eq_true rfl] at hE1; have himm : ∀ xs : List Placed, immLL (xs.map (Placed.td.d true)) = xs.map (Placed.td.d false) := fun xs => immLL_map (fun x => rfl) xs; simp only [Assembly.td_d, D.imm, immL, himm] at hD hI hS hI2 hE1; by_cases h7 : joinC a b = 7
    · obtain ⟨fa, fb, hbad⟩ := join_clash h7; obtain ⟨t, hd, ta, tb, hne⟩ := dif_clash fa fb hbad; have hF := v_FirstDifference a b fa fb; have hTa := v_TileAt a t.At fa ta; have hTb := v_TileAt b t.At fb tb; have dne := decide_eq_false hne; rw [hd] at hF; rw [h7] at hI hS; simp only [Assembly.td_d, Point.td_d] at hF hTa hTb; refine call_B (hD) (by simp -implicitDefEqProofs (disch := omega) only [go_sem, ↓reduceIte, deep, TD.rows, immLL_rI, immLL_rB8, immLL_rS, immLL_rBo, immLL_rII, immLL_rIIt]; exact rfl) ?_; simp -implicitDefEqProofs (disch := omega) only [go_sem, ↓reduceIte]; refine call_B (hI) (by simp -implicitDefEqProofs (disch := omega) only [go_sem, ↓reduceIte, deep, TD.rows, immLL_rI, immLL_rB8, immLL_rS, immLL_rBo, immLL_rII, immLL_rIIt]; exact rfl) ?_; simp -implicitDefEqProofs (disch := omega) only [go_sem, ↓reduceIte]; refine call_B (hS) (by simp -implicitDefEqProofs (disch := omega) only [go_sem, ↓reduceIte, deep, TD.rows, immLL_rI, immLL_rB8, immLL_rS, immLL_rBo, immLL_rII, immLL_rIIt, Int.natCast_zero, Int.natCast_one, Int.cast_ofNat_Int, Int.ofNat_le, Int.toNat_zero, Nat.sub_zero, Int.le_refl, Int.reduceLT, Int.reduceLE, Int.reduceEq, Int.reduceAdd, Int.reduceSub, Int.reduceMul, Int.reduceToNat, Int.reduceNeg]; exact rfl) ?_; simp -implicitDefEqProofs (disch := omega) only [go_sem, ↓reduceIte , Int.natCast_zero, Int.natCast_one, Int.cast_ofNat_Int, Int.ofNat_le, Int.toNat_zero, Nat.sub_zero, Int.le_refl, Int.reduceLT, Int.reduceLE, Int.reduceEq, Int.reduceAdd, Int.reduceSub, Int.reduceMul, Int.reduceToNat, Int.reduceNeg]; refine call_B (hE1) (by simp -implicitDefEqProofs (disch := omega) only [go_sem, ↓reduceIte, deep, TD.rows, immLL_rI, immLL_rB8, immLL_rS, immLL_rBo, immLL_rII, immLL_rIIt]; exact rfl) ?_; simp -implicitDefEqProofs (disch := omega) only [go_sem, ↓reduceIte]; refine call_B (hF) (by simp -implicitDefEqProofs (disch := omega) only [go_sem, ↓reduceIte, deep, TD.rows, immLL_rI, immLL_rB8, immLL_rS, immLL_rBo, immLL_rII, immLL_rIIt, Int.natCast_zero, Int.natCast_one, Int.cast_ofNat_Int, Int.ofNat_le, Int.toNat_zero, Nat.sub_zero, Int.le_refl, Int.reduceLT, Int.reduceLE, Int.reduceEq, Int.reduceAdd, Int.reduceSub, Int.reduceMul, Int.reduceToNat, Int.reduceNeg]; exact rfl) ?_; simp -implicitDefEqProofs (disch := omega) only [go_sem, ↓reduceIte , Int.natCast_zero, Int.natCast_one, Int.cast_ofNat_Int, Int.ofNat_le, Int.toNat_zero, Nat.sub_zero, Int.le_refl, Int.reduceLT, Int.reduceLE, Int.reduceEq, Int.reduceAdd, Int.reduceSub, Int.reduceMul, Int.reduceToNat, Int.reduceNeg]; refine call_B (hTa) (by simp -implicitDefEqProofs (disch := omega) only [go_sem, ↓reduceIte, deep, TD.rows, immLL_rI, immLL_rB8, immLL_rS, immLL_rBo, immLL_rII, immLL_rIIt]; exact rfl) ?_; simp -implicitDefEqProofs (disch := omega) only [go_sem, ↓reduceIte]; refine call_B (hTb) (by simp -implicitDefEqProofs (disch := omega) only [go_sem, ↓reduceIte, deep, TD.rows, immLL_rI, immLL_rB8, immLL_rS, immLL_rBo, immLL_rII, immLL_rIIt, Int.natCast_zero, Int.natCast_one, Int.cast_ofNat_Int, Int.ofNat_le, Int.toNat_zero, Nat.sub_zero, Int.le_refl, Int.reduceLT, Int.reduceLE, Int.reduceEq, Int.reduceAdd, Int.reduceSub, Int.reduceMul, Int.reduceToNat, Int.reduceNeg, dne]; exact rfl) ?_; simp -implicitDefEqProofs (disch := omega) only [go_sem, ↓reduceIte , Int.natCast_zero, Int.natCast_one, Int.cast_ofNat_Int, Int.ofNat_le, Int.toNat_zero, Nat.sub_zero, Int.le_refl, Int.reduceLT, Int.reduceLE, Int.reduceEq, Int.reduceAdd, Int.reduceSub, Int.reduceMul, Int.reduceToNat, Int.reduceNeg, dne]
    · by_cases h0 : joinC a b = 0
      · obtain ⟨fa, fb⟩ := joinC_ok h0; obtain ⟨hf, hmem, hn, hst⟩ := join_all fa fb h0; obtain ⟨e1, e2⟩ := join_swap fa fb h0; have hF := v_FirstDifference a b fa fb; rw [dif_one fb hn] at hF; have hWa := v_IsWithin a (joinA a b) fa hf (fun t ht => (atP_yes hst ((hmem t).2 (.inl ht))).2); have hWb := v_IsWithin b (joinA a b) fb hf (fun t ht => (atP_yes hst ((hmem t).2 (.inr ht))).2); rw [h0] at hI hS; rw [e1, e2] at hI2; simp only [Assembly.td_d, Point.td_d] at hF hWa hWb; refine call_B (hD) (by simp -implicitDefEqProofs (disch := omega) only [go_sem, ↓reduceIte, deep, TD.rows, immLL_rI, immLL_rB8, immLL_rS, immLL_rBo, immLL_rII, immLL_rIIt]; exact rfl) ?_; simp -implicitDefEqProofs (disch := omega) only [go_sem, ↓reduceIte]; refine call_B (hI) (by simp -implicitDefEqProofs (disch := omega) only [go_sem, ↓reduceIte, deep, TD.rows, immLL_rI, immLL_rB8, immLL_rS, immLL_rBo, immLL_rII, immLL_rIIt]; exact rfl) ?_; simp -implicitDefEqProofs (disch := omega) only [go_sem, ↓reduceIte]; refine call_B (hS) (by simp -implicitDefEqProofs (disch := omega) only [go_sem, ↓reduceIte, deep, TD.rows, immLL_rI, immLL_rB8, immLL_rS, immLL_rBo, immLL_rII, immLL_rIIt, Int.natCast_zero, Int.natCast_one, Int.cast_ofNat_Int, Int.ofNat_le, Int.toNat_zero, Nat.sub_zero, Int.le_refl, Int.reduceLT, Int.reduceLE, Int.reduceEq, Int.reduceAdd, Int.reduceSub, Int.reduceMul, Int.reduceToNat, Int.reduceNeg]; exact rfl) ?_; simp -implicitDefEqProofs (disch := omega) only [go_sem, ↓reduceIte , Int.natCast_zero, Int.natCast_one, Int.cast_ofNat_Int, Int.ofNat_le, Int.toNat_zero, Nat.sub_zero, Int.le_refl, Int.reduceLT, Int.reduceLE, Int.reduceEq, Int.reduceAdd, Int.reduceSub, Int.reduceMul, Int.reduceToNat, Int.reduceNeg]; refine call_B (hE1) (by simp -implicitDefEqProofs (disch := omega) only [go_sem, ↓reduceIte, deep, TD.rows, immLL_rI, immLL_rB8, immLL_rS, immLL_rBo, immLL_rII, immLL_rIIt]; exact rfl) ?_; simp -implicitDefEqProofs (disch := omega) only [go_sem, ↓reduceIte]; refine call_B (hF) (by simp -implicitDefEqProofs (disch := omega) only [go_sem, ↓reduceIte, deep, TD.rows, immLL_rI, immLL_rB8, immLL_rS, immLL_rBo, immLL_rII, immLL_rIIt, Int.natCast_zero, Int.natCast_one, Int.cast_ofNat_Int, Int.ofNat_le, Int.toNat_zero, Nat.sub_zero, Int.le_refl, Int.reduceLT, Int.reduceLE, Int.reduceEq, Int.reduceAdd, Int.reduceSub, Int.reduceMul, Int.reduceToNat, Int.reduceNeg]; exact rfl) ?_; simp -implicitDefEqProofs (disch := omega) only [go_sem, ↓reduceIte , Int.natCast_zero, Int.natCast_one, Int.cast_ofNat_Int, Int.ofNat_le, Int.toNat_zero, Nat.sub_zero, Int.le_refl, Int.reduceLT, Int.reduceLE, Int.reduceEq, Int.reduceAdd, Int.reduceSub, Int.reduceMul, Int.reduceToNat, Int.reduceNeg]; refine call_B (hI2) (by simp -implicitDefEqProofs (disch := omega) only [go_sem, ↓reduceIte, deep, TD.rows, immLL_rI, immLL_rB8, immLL_rS, immLL_rBo, immLL_rII, immLL_rIIt, Int.natCast_zero, Int.natCast_one, Int.cast_ofNat_Int, Int.ofNat_le, Int.toNat_zero, Nat.sub_zero, Int.le_refl, Int.reduceLT, Int.reduceLE, Int.reduceEq, Int.reduceAdd, Int.reduceSub, Int.reduceMul, Int.reduceToNat, Int.reduceNeg]; exact rfl) ?_; simp -implicitDefEqProofs (disch := omega) only [go_sem, ↓reduceIte , Int.natCast_zero, Int.natCast_one, Int.cast_ofNat_Int, Int.ofNat_le, Int.toNat_zero, Nat.sub_zero, Int.le_refl, Int.reduceLT, Int.reduceLE, Int.reduceEq, Int.reduceAdd, Int.reduceSub, Int.reduceMul, Int.reduceToNat, Int.reduceNeg]; refine call_B (hE1) (by simp -implicitDefEqProofs (disch := omega) only [go_sem, ↓reduceIte, deep, TD.rows, immLL_rI, immLL_rB8, immLL_rS, immLL_rBo, immLL_rII, immLL_rIIt]; exact rfl) ?_; simp -implicitDefEqProofs (disch := omega) only [go_sem, ↓reduceIte]; refine call_B (hWa) (by simp -implicitDefEqProofs (disch := omega) only [go_sem, ↓reduceIte, deep, TD.rows, immLL_rI, immLL_rB8, immLL_rS, immLL_rBo, immLL_rII, immLL_rIIt]; exact rfl) ?_; simp -implicitDefEqProofs (disch := omega) only [go_sem, ↓reduceIte]; refine call_B (hWb) (by simp -implicitDefEqProofs (disch := omega) only [go_sem, ↓reduceIte, deep, TD.rows, immLL_rI, immLL_rB8, immLL_rS, immLL_rBo, immLL_rII, immLL_rIIt]; exact rfl) ?_; simp -implicitDefEqProofs (disch := omega) only [go_sem, ↓reduceIte]
      · have dz : decide (joinC a b = 0) = false := decide_eq_false h0; have d7 : decide (joinC a b = 7) = false := decide_eq_false h7; have dself : decide (joinC a b = joinC a b) = true := (by simp); cases hab : (okForm a.Tiles && okForm b.Tiles) with
        | true => rw [Bool.and_eq_true] at hab; have hF := v_FirstDifference a b hab.1 hab.2; simp only [Assembly.td_d, Point.td_d] at hF; refine call_B (hD) (by simp -implicitDefEqProofs (disch := omega) only [go_sem, ↓reduceIte, deep, TD.rows, immLL_rI, immLL_rB8, immLL_rS, immLL_rBo, immLL_rII, immLL_rIIt]; exact rfl) ?_; simp -implicitDefEqProofs (disch := omega) only [go_sem, ↓reduceIte]; refine call_B (hI) (by simp -implicitDefEqProofs (disch := omega) only [go_sem, ↓reduceIte, deep, TD.rows, immLL_rI, immLL_rB8, immLL_rS, immLL_rBo, immLL_rII, immLL_rIIt]; exact rfl) ?_; simp -implicitDefEqProofs (disch := omega) only [go_sem, ↓reduceIte]; refine call_B (hS) (by simp -implicitDefEqProofs (disch := omega) only [go_sem, ↓reduceIte, deep, TD.rows, immLL_rI, immLL_rB8, immLL_rS, immLL_rBo, immLL_rII, immLL_rIIt, dself]; exact rfl) ?_; simp -implicitDefEqProofs (disch := omega) only [go_sem, ↓reduceIte , dself]; refine call_B (hE1) (by simp -implicitDefEqProofs (disch := omega) only [go_sem, ↓reduceIte, deep, TD.rows, immLL_rI, immLL_rB8, immLL_rS, immLL_rBo, immLL_rII, immLL_rIIt]; exact rfl) ?_; simp -implicitDefEqProofs (disch := omega) only [go_sem, ↓reduceIte]; refine call_B (hF) (by simp -implicitDefEqProofs (disch := omega) only [go_sem, ↓reduceIte, deep, TD.rows, immLL_rI, immLL_rB8, immLL_rS, immLL_rBo, immLL_rII, immLL_rIIt, dz, d7]; exact rfl) ?_; simp -implicitDefEqProofs (disch := omega) only [go_sem, ↓reduceIte , dz, d7]
        | false => have hF := v_FirstDifference_bad a b na nb hab; simp only [Assembly.td_d, Point.td_d] at hF; refine call_B (hD) (by simp -implicitDefEqProofs (disch := omega) only [go_sem, ↓reduceIte, deep, TD.rows, immLL_rI, immLL_rB8, immLL_rS, immLL_rBo, immLL_rII, immLL_rIIt]; exact rfl) ?_; simp -implicitDefEqProofs (disch := omega) only [go_sem, ↓reduceIte]; refine call_B (hI) (by simp -implicitDefEqProofs (disch := omega) only [go_sem, ↓reduceIte, deep, TD.rows, immLL_rI, immLL_rB8, immLL_rS, immLL_rBo, immLL_rII, immLL_rIIt]; exact rfl) ?_; simp -implicitDefEqProofs (disch := omega) only [go_sem, ↓reduceIte]; refine call_B (hS) (by simp -implicitDefEqProofs (disch := omega) only [go_sem, ↓reduceIte, deep, TD.rows, immLL_rI, immLL_rB8, immLL_rS, immLL_rBo, immLL_rII, immLL_rIIt, dself]; exact rfl) ?_; simp -implicitDefEqProofs (disch := omega) only [go_sem, ↓reduceIte , dself]; refine call_B (hE1) (by simp -implicitDefEqProofs (disch := omega) only [go_sem, ↓reduceIte, deep, TD.rows, immLL_rI, immLL_rB8, immLL_rS, immLL_rBo, immLL_rII, immLL_rIIt]; exact rfl) ?_; simp -implicitDefEqProofs (disch := omega) only [go_sem, ↓reduceIte]; refine call_B (hF) (by simp -implicitDefEqProofs (disch := omega) only [go_sem, ↓reduceIte, deep, TD.rows, immLL_rI, immLL_rB8, immLL_rS, immLL_rBo, immLL_rII, immLL_rIIt, dz, d7]; exact rfl) ?_; simp -implicitDefEqProofs (disch := omega) only [go_sem, ↓reduceIte , dz, d7]
theorem walk_fnJoined (q_code_v : Value) (q_code : List Int) (w : World) (q_code_h : (Ty.slice 5 (Ty.int .u8)).rep w w.heap.size [q_code_v] q_code) : Calls Try.prog 4 #[q_code_v] w fun e w' => e = .returned (.bool true) ∧ Below w.heap.size w w' := by refine (Contract.at (vlawJoined q_code ((TD.slice 5 (TD.int .u8)).rep_ok q_code_h)) gI (Nat.le_refl _) (vals_cons (TD.arg_slice (TD.int .u8) q_code_h) vals_nil)).mono ?_; rintro e w' ⟨⟨v, I, F, rfl, hT, hn, hF⟩, hb⟩; obtain rfl := T_v hT; exact ⟨rfl, hb⟩
end Go.Proofs.Ytjalagigmelcaaa
