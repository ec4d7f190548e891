/- Laws that the proof stands on. -/
import Derived.Test.YtgnlikamelfmjaaZg11
import Derived.Test.YtgnlikamelfmjaaZg10
import Derived.Test.YtgnlikamelfmjaaZVB
import Derived.Test.YtgnlikamelfmjaaProg
import Derived.Test.YtgnlikamelfmjaaZg12
set_option linter.all false
namespace Go.Proofs.Ytgnlikamelfmjaa
open Go.RowKit Go.V
attribute [local go_sem] List.getElem?_cons_succ List.getElem?_cons_zero List.set_cons_succ List.set_cons_zero List.map_cons List.map_nil List.length_cons List.length_nil List.all_cons List.all_nil List.drop_succ_cons List.drop_zero List.take_succ_cons List.take_zero List.flatMap_cons List.flatMap_nil List.cons_append List.nil_append List.append_nil List.headD_cons Value.oneCell' Bool.and_true Bool.true_and Bool.or_false Bool.false_or Bool.and_self Bool.not_true Bool.not_false and_true true_and beq_self_eq_true Bool.false_eq_true if_true if_false Nat.zero_add Nat.reduceAdd Nat.reduceMul Nat.reduceLeDiff Nat.le_refl Option.isSome_some Option.isSome_none not_true_eq_false not_false_eq_true ne_eq reduceCtorEq List.reverse_nil bne_self_eq_false Nat.reduceEqDiff List.isPrefixOf Bool.not_eq_true Bool.and_false Bool.false_and Bool.true_or Bool.or_true decide_true decide_false Nat.reduceBEq Nat.reduceBNe List.replicate_succ List.replicate_zero exists_eq_left' exists_eq_left Option.some.injEq or_false or_true true_or false_or Option.map_some Option.map_none mB Nat.reduceMod Nat.reduceDiv
set_option maxRecDepth 100000
def rN (x : Nat) : List D := [.v (.int .i64 (x : Int))]
def rowsG (xs : List Point) (t : Nat) : List (List Nat) := (List.range (outG xs xs.length).2.length).map fun (g : Nat) => (List.range t).filter fun i => decide ((outG xs xs.length).1[i]? = some ((g : Int) + 1))
def rL (p : List Nat) : List D := [.sl true 1 (p.map rN)]
def code_spec_l03Parts : VCode := (.seq (.ops [
  ⟨(some 2), none, (.asg (.const (.slice none 0 0)))⟩]) (.seq (.ops [
  ⟨(some 11), none, (.bsl 1 [])⟩,
  ⟨(some 3), none, (.asg (.tmp 11))⟩]) (.seq (.ops [
  ⟨(some 12), none, (.mv (.tmp 0))⟩,
  ⟨(some 13), none, (.nilc (.tmp 12))⟩,
  ⟨(some 14), none, (.fa 0 (.tmp 13))⟩,
  ⟨(some 15), none, (.load 1 false (.tmp 14))⟩,
  ⟨(some 16), none, (.len (.tmp 15))⟩,
  ⟨(some 17), none, (.mks 1 8 [(.int .i64 0)] (.tmp 16) (.tmp 16))⟩,
  ⟨(some 4), none, (.asg (.tmp 17))⟩]) (.seq (.seq (.ops [
  ⟨(some 5), none, (.asg (.const (.int .i64 0)))⟩]) (.block 0 (.loop (mB 113 10384593717069655257060928233797574) (.seq (.seq (.ops [
  ⟨(some 18), none, (.mv (.tmp 5))⟩,
  ⟨(some 19), none, (.mv (.tmp 0))⟩,
  ⟨(some 20), none, (.nilc (.tmp 19))⟩,
  ⟨(some 21), none, (.fa 0 (.tmp 20))⟩,
  ⟨(some 22), none, (.load 1 false (.tmp 21))⟩,
  ⟨(some 23), none, (.len (.tmp 22))⟩,
  ⟨(some 24), none, (.bin .lss (.tmp 18) (.tmp 23))⟩]) (.cond (.tmp 24) .skip (.exit 0))) (.seq (.block 1 (.seq (.seq (.ops [
  ⟨(some 27), none, (.mv (.tmp 4))⟩,
  ⟨(some 28), none, (.mv (.tmp 5))⟩,
  ⟨(some 29), none, (.ia 1 (.tmp 27) (.tmp 28))⟩,
  ⟨(some 30), none, (.load 1 false (.tmp 29))⟩,
  ⟨(some 31), none, (.bin .gtr (.tmp 30) (.const (.int .i64 0)))⟩]) (.cond (.tmp 31) (.exit 1) .skip)) (.seq (.ops [
  ⟨(some 32), none, (.mv (.tmp 3))⟩,
  ⟨(some 33), none, (.bsl 1 [])⟩,
  ⟨(some 34), none, (.bsl 1 [(.tmp 33)])⟩,
  ⟨(some 35), none, (.app 1 24 (.tmp 32) (.tmp 34))⟩,
  ⟨(some 3), none, (.asg (.tmp 35))⟩]) (.seq (.ops [
  ⟨(some 36), none, (.mv (.tmp 4))⟩,
  ⟨(some 37), none, (.mv (.tmp 5))⟩,
  ⟨(some 38), none, (.mv (.tmp 3))⟩,
  ⟨(some 39), none, (.len (.tmp 38))⟩,
  ⟨(some 40), none, (.ia 1 (.tmp 36) (.tmp 37))⟩,
  ⟨none, none, (.store 1 (.tmp 40) (.tmp 39))⟩]) (.seq (.ops [
  ⟨(some 41), none, (.mv (.tmp 5))⟩,
  ⟨(some 42), none, (.bsl 1 [(.tmp 41)])⟩,
  ⟨(some 6), none, (.asg (.tmp 42))⟩]) (.seq (.ops [
  ⟨(some 7), none, (.asg (.const (.int .i64 0)))⟩]) (.block 2 (.loop (mB 113 10384593465613084777213661848401670) (.seq (.seq (.ops [
  ⟨(some 43), none, (.mv (.tmp 7))⟩,
  ⟨(some 44), none, (.mv (.tmp 6))⟩,
  ⟨(some 45), none, (.len (.tmp 44))⟩,
  ⟨(some 46), none, (.bin .lss (.tmp 43) (.tmp 45))⟩]) (.cond (.tmp 46) .skip (.exit 2))) (.seq (.block 3 (.seq (.ops [
  ⟨(some 8), none, (.asg (.const (.int .i64 0)))⟩]) (.block 4 (.loop (mB 113 10384593465613084777213661848401414) (.seq (.seq (.ops [
  ⟨(some 49), none, (.mv (.tmp 8))⟩,
  ⟨(some 50), none, (.bin .lss (.tmp 49) (.const (.int .i64 4)))⟩]) (.cond (.tmp 50) .skip (.exit 4))) (.seq (.block 5 (.seq (.draw (mB 67 147564945390421671936) [] [⟨0, (mB 67 147564945390421671936), [], ⟨(some 53), none, (.mv (.tmp 0))⟩⟩, ⟨1, (mB 67 147564945390421671936), [], ⟨(some 54), none, (.mv (.tmp 0))⟩⟩, ⟨2, (mB 67 147546930991912189952), [], ⟨(some 55), none, (.nilc (.tmp 54))⟩⟩, ⟨3, (mB 67 147510902194893225984), [], ⟨(some 56), none, (.fa 0 (.tmp 55))⟩⟩, ⟨4, (mB 67 147438844600855298048), [], ⟨(some 57), none, (.load 1 false (.tmp 56))⟩⟩, ⟨5, (mB 67 147564945390421671936), [], ⟨(some 58), none, (.mv (.tmp 6))⟩⟩, ⟨6, (mB 67 147564945390421671936), [], ⟨(some 59), none, (.mv (.tmp 7))⟩⟩, ⟨7, (mB 67 146700254261966536704), [], ⟨(some 60), none, (.ia 1 (.tmp 58) (.tmp 59))⟩⟩, ⟨8, (mB 67 145547332757359689728), [], ⟨(some 61), none, (.load 1 false (.tmp 60))⟩⟩, ⟨9, (mB 67 142971273770503766016), [], ⟨(some 62), none, (.ia 3 (.tmp 57) (.tmp 61))⟩⟩, ⟨10, (mB 67 138359587752076378112), [], ⟨(some 63), none, (.fa 0 (.tmp 62))⟩⟩, ⟨11, (mB 67 129136215715221602304), [], ⟨(some 64), none, (.load 2 true (.tmp 63))⟩⟩, ⟨12, (mB 67 147564945390421671936), [], ⟨(some 65), none, (.mv (.tmp 8))⟩⟩, ⟨13, (mB 67 73795983494092947456), [], ⟨(some 66), none, (.call 97 [(.tmp 64), (.tmp 65)])⟩⟩] [⟨(some 67), none, (.callX 96 [(.tmp 53), (.tmp 66)])⟩, ⟨(some 9), none, (.asg (.tmp 67))⟩]) (.seq (.ops [
  ⟨(some 68), none, (.mv (.tmp 9))⟩,
  ⟨(some 69), none, (.bin .geq (.tmp 68) (.const (.int .i64 0)))⟩,
  ⟨(some 70), none, (.mv (.tmp 69))⟩,
  ⟨(some 71), (some (70, true)), (.mv (.tmp 4))⟩,
  ⟨(some 72), (some (70, true)), (.mv (.tmp 9))⟩,
  ⟨(some 73), (some (70, true)), (.ia 1 (.tmp 71) (.tmp 72))⟩,
  ⟨(some 74), (some (70, true)), (.load 1 false (.tmp 73))⟩,
  ⟨(some 75), (some (70, true)), (.bin .eql (.tmp 74) (.const (.int .i64 0)))⟩,
  ⟨(some 76), none, (.pick (.tmp 70) (.tmp 75) (.const (.bool false)))⟩]) (.cond (.tmp 76) (.seq (.ops [
  ⟨(some 77), none, (.mv (.tmp 4))⟩,
  ⟨(some 78), none, (.mv (.tmp 9))⟩,
  ⟨(some 79), none, (.mv (.tmp 4))⟩,
  ⟨(some 80), none, (.mv (.tmp 5))⟩,
  ⟨(some 81), none, (.ia 1 (.tmp 79) (.tmp 80))⟩,
  ⟨(some 82), none, (.load 1 false (.tmp 81))⟩,
  ⟨(some 83), none, (.ia 1 (.tmp 77) (.tmp 78))⟩,
  ⟨none, none, (.store 1 (.tmp 83) (.tmp 82))⟩]) (.ops [
  ⟨(some 84), none, (.mv (.tmp 6))⟩,
  ⟨(some 85), none, (.mv (.tmp 9))⟩,
  ⟨(some 86), none, (.bsl 1 [(.tmp 85)])⟩,
  ⟨(some 87), none, (.app 1 8 (.tmp 84) (.tmp 86))⟩,
  ⟨(some 6), none, (.asg (.tmp 87))⟩])) .skip)))) (.ops [
  ⟨(some 51), none, (.mv (.tmp 8))⟩,
  ⟨(some 52), none, (.bin .add (.tmp 51) (.const (.int .i64 1)))⟩,
  ⟨(some 8), none, (.asg (.tmp 52))⟩]))))))) (.ops [
  ⟨(some 47), none, (.mv (.tmp 7))⟩,
  ⟨(some 48), none, (.bin .add (.tmp 47) (.const (.int .i64 1)))⟩,
  ⟨(some 7), none, (.asg (.tmp 48))⟩]))))))))))) (.ops [
  ⟨(some 25), none, (.mv (.tmp 5))⟩,
  ⟨(some 26), none, (.bin .add (.tmp 25) (.const (.int .i64 1)))⟩,
  ⟨(some 5), none, (.asg (.tmp 26))⟩])))))) (.seq (.seq (.ops [
  ⟨(some 10), none, (.asg (.const (.int .i64 0)))⟩]) (.block 6 (.loop (mB 113 10384593717069655257060928233796583) (.seq (.seq (.ops [
  ⟨(some 88), none, (.mv (.tmp 10))⟩,
  ⟨(some 89), none, (.mv (.tmp 4))⟩,
  ⟨(some 90), none, (.len (.tmp 89))⟩,
  ⟨(some 91), none, (.bin .lss (.tmp 88) (.tmp 90))⟩]) (.cond (.tmp 91) .skip (.exit 6))) (.seq (.block 7 (.drawW (mB 111 2596128622226785248180849778622464) (mB 110 1135814937804493543741046072016896) [⟨6, (mB 111 2596128622226785248180849778622464), [], ⟨(some 100), none, (.mv (.tmp 3))⟩⟩, ⟨7, (mB 111 2596128622226785248180849778622464), [], ⟨(some 101), none, (.mv (.tmp 4))⟩⟩, ⟨8, (mB 111 2596128622226785248180849778622464), [], ⟨(some 102), none, (.mv (.tmp 10))⟩⟩, ⟨9, (mB 111 2588522718625415871771869559390208), [], ⟨(some 103), none, (.ia 1 (.tmp 101) (.tmp 102))⟩⟩, ⟨10, (mB 111 2578381513823590036559895933747200), [], ⟨(some 104), none, (.load 1 false (.tmp 103))⟩⟩, ⟨11, (mB 111 2558099104219938366135948682461184), [], ⟨(some 105), none, (.bin .sub (.tmp 104) (.const (.int .i64 1)))⟩⟩, ⟨12, (mB 111 2516266634412406795886557476683776), [], ⟨(some 106), none, (.ia 1 (.tmp 100) (.tmp 105))⟩⟩, ⟨13, (mB 111 2435136995997800114190768471539712), [], ⟨(some 107), none, (.load 1 false (.tmp 106))⟩⟩, ⟨14, (mB 111 2596128622226785248180849778622464), [], ⟨(some 108), none, (.mv (.tmp 10))⟩⟩, ⟨15, (mB 111 2271610068568358521397693758046208), (mB 109 324518553658426726783156020576256), ⟨(some 109), none, (.bslN 1 [(.tmp 108)])⟩⟩] ⟨16, (mB 111 1623840611851733297232878420099072), (mB 110 811296384146066816957890051440640), ⟨(some 110), none, (.app 1 8 (.tmp 107) (.tmp 109))⟩⟩ [⟨0, (mB 111 2596128622226785248180849778622464), [], ⟨(some 94), none, (.mv (.tmp 3))⟩⟩, ⟨1, (mB 111 2596128622226785248180849778622464), [], ⟨(some 95), none, (.mv (.tmp 4))⟩⟩, ⟨2, (mB 111 2596128622226785248180849778622464), [], ⟨(some 96), none, (.mv (.tmp 10))⟩⟩, ⟨3, (mB 111 2596009779983013851674459462696960), [], ⟨(some 97), none, (.ia 1 (.tmp 95) (.tmp 96))⟩⟩, ⟨4, (mB 111 2595851323657985322999272374796288), [], ⟨(some 98), none, (.load 1 false (.tmp 97))⟩⟩, ⟨5, (mB 111 2595534411007928265648898198994944), [], ⟨(some 99), none, (.bin .sub (.tmp 98) (.const (.int .i64 1)))⟩⟩] [⟨(some 111), none, (.ia 1 (.tmp 94) (.tmp 99))⟩, ⟨none, none, (.store 1 (.tmp 111) (.tmp 110))⟩])) (.ops [
  ⟨(some 92), none, (.mv (.tmp 10))⟩,
  ⟨(some 93), none, (.bin .add (.tmp 92) (.const (.int .i64 1)))⟩,
  ⟨(some 10), none, (.asg (.tmp 93))⟩])))))) (.seq (.ops [
  ⟨(some 112), none, (.mv (.tmp 3))⟩,
  ⟨(some 2), none, (.asg (.tmp 112))⟩]) .ret))))))
theorem law_spec_l03Parts {a0 d : D} (h : code_spec_l03Parts.wp (CT Try.prog NoG) (endQ [(.t 2)] d) [a0, .undef, .undef, .undef, .undef, .undef, .undef, .undef, .undef, .undef, .undef, .undef, .undef, .undef, .undef, .undef, .undef, .undef, .undef, .undef, .undef, .undef, .undef, .undef, .undef, .undef, .undef, .undef, .undef, .undef, .undef, .undef, .undef, .undef, .undef, .undef, .undef, .undef, .undef, .undef, .undef, .undef, .undef, .undef, .undef, .undef, .undef, .undef, .undef, .undef, .undef, .undef, .undef, .undef, .undef, .undef, .undef, .undef, .undef, .undef, .undef, .undef, .undef, .undef, .undef, .undef, .undef, .undef, .undef, .undef, .undef, .undef, .undef, .undef, .undef, .undef, .undef, .undef, .undef, .undef, .undef, .undef, .undef, .undef, .undef, .undef, .undef, .undef, .undef, .undef, .undef, .undef, .undef, .undef, .undef, .undef, .undef, .undef, .undef, .undef, .undef, .undef, .undef, .undef, .undef, .undef, .undef, .undef, .undef, .undef, .undef, .undef, .undef]) : Contract Try.prog NoG 64 [a0] d :=
  contract_of (pt := 0) noG Try.func64 (fun us W => by kernel_rfl) (c := Try.f64.body.getD .skip) (ms := [(mB 113 10384593717069655257060928233797574), (mB 113 10384593465613084777213661848401670), (mB 113 10384593465613084777213661848401414), (mB 113 10384593717069655257060928233796583)]) (ms' := []) (by kernel_rfl) (by kernel_rfl) (by kernel_rfl) h
set_option maxHeartbeats 8000000 in
theorem v_l03Parts (xs : List Point) (hs : strictQ xs) (hn : xs.length ≤ 500) : Contract Try.prog NoG 64 [.iptr [.sl false 3 ((plc xs).map (Placed.td.d false))] 0] (.sl true 1 ((rowsG xs xs.length).map rL)) := by
  have hpl : (plc xs).length = xs.length := (by unfold plc; rw [List.length_map]); have h00a : (outG xs 0).2 = [] := rfl; have h00b : List.map rI (outG xs 0).1 = List.replicate ((xs.length : Int)).toNat [D.v (.int .i64 0)] := (by rw [Int.toNat_natCast]; exact List.map_replicate ..); refine law_spec_l03Parts ?_; unfold code_spec_l03Parts; simp -implicitDefEqProofs (disch := omega) only [go_sem, ↓reduceIte , List.length_map, hpl]; refine ⟨by omega, by omega, by omega, ?_⟩; refine loop_ov (by simp -implicitDefEqProofs (disch := omega) only [go_sem, ↓reduceIte]; exact rfl) (fun i : Nat => [(3, .sl true 1 ((outG xs i).2.map (fun _ => rL []))), (4, .sl true 1 ((outG xs i).1.map rI)), (5, .v (.int .i64 (i : Nat)))]) (fun _ => by simp only [ovr_nil, ovr_cons, List.set_cons_zero, List.set_cons_succ]; exact rfl) (fun i : Nat => i ≤ xs.length) (fun i : Nat => xs.length - i) (0) (by rw [h00a, h00b]; (try simp -implicitDefEqProofs only [nleL_cc, nleL_nn, nle_self, nle_boxs, nle_aggs, nle_nils, and_self, and_true, true_and]) <;> repeat' (first | exact nle_of_eq rfl | exact nle_nil | apply And.intro | apply nle_sl | apply nleLL_cons | apply nleL_cons | exact nleL_nil | exact nleLL_nil | apply nle_box | apply nle_agg)) (?_) ?_
  · exact Nat.zero_le _
  intro i hi; have hO : okO xs i (outG xs i) := outG_ok (xs := xs) i hi; have hO1 : outG xs (i + 1) = if (outG xs i).1[i]? = some 0 then
      ((walkG xs (((outG xs i).2.length : Int) + 1) xs.length 0 ((outG xs i).1.set i (((outG xs i).2.length : Int) + 1), [i])).1, (outG xs i).2 ++ [(walkG xs (((outG xs i).2.length : Int) + 1) xs.length 0 ((outG xs i).1.set i (((outG xs i).2.length : Int) + 1), [i])).2])
    else outG xs i := rfl
  have hend : i = xs.length → outG xs xs.length = outG xs i := fun h => by rw [h]
  generalize hz1 : outG xs (i + 1) = z1 at *; generalize hz : outG xs i = z at *; obtain ⟨nm, ps⟩ := z; simp only at hO1; have hlen := hO.len; have hfew := hO.few; simp only at hlen hfew; have hq : (List.map (fun (_ : List Nat) => rL []) ps).length = ps.length := List.length_map ..; simp -implicitDefEqProofs (disch := omega) only [go_sem, ↓reduceIte , List.length_map, Int.toNat_natCast, Int.ofNat_lt, Int.natCast_nonneg, List.getElem?_map, Option.map_some, List.length_map, hpl]; refine cond_split ?_ ?_ <;> intro hlt
  · have hlt : i < xs.length := (by simpa using hlt); have hnl : i < nm.length := (by omega); have e1 := List.getElem?_eq_getElem hnl; have hx := hO.nm nm[i] (List.getElem_mem hnl); simp only at hx; by_cases h0 : nm[i] = 0
    · have d0 : decide (0 < nm[i]) = false := (by rw [decide_eq_false_iff_not]; omega); have e0 : nm[i]? = some 0 := (by rw [e1, h0]); rw [if_pos e0] at hO1; have hst := startG hO hlt e0; simp only at hst; have eG : ((ps.length + 1 : Nat) : Int) = (ps.length : Int) + 1 := (by omega); rw [← eG] at hO1; generalize hG : ps.length + 1 = G at *; simp -implicitDefEqProofs (disch := omega) only [go_sem, ↓reduceIte , List.length_map, Int.toNat_natCast, Int.ofNat_lt, Int.natCast_nonneg, List.getElem?_map, Option.map_some, hnl, e1, rI, d0, hq, List.length_append, List.length_cons, List.length_nil, hG]; refine ⟨by omega, ?_⟩; have hcn := cnt0_le nm; have hG1 : 1 ≤ G := (by omega); have hset : List.map rI (nm.set i (G : Int)) = (List.map rI nm).set i [D.v (.int .i64 (G : Int))] := List.map_set; generalize hR : walkG xs (G : Int) xs.length 0 (nm.set i (G : Int), [i]) = R at *; generalize hc : cnt0 nm = c at *; refine loop_ov (by simp -implicitDefEqProofs (disch := omega) only [go_sem, ↓reduceIte]; exact rfl) (fun w : Nat × List Int × List Nat => [(4, .sl true 1 (w.2.1.map rI)), (6, .sl true 1 (w.2.2.map rN)), (7, .v (.int .i64 (w.1 : Nat)))]) (fun _ => by simp only [ovr_nil, ovr_cons, List.set_cons_zero, List.set_cons_succ]; exact rfl) (fun w : Nat × List Int × List Nat => okG xs G c w.2 ∧ w.2.1[i]? = some (G : Int) ∧ ∃ f, c - w.1 ≤ f ∧ walkG xs (G : Int) f w.1 w.2 = R) (fun w : Nat × List Int × List Nat => c - w.1) ((0, nm.set i (G : Int), [i])) (by rw [hset]; (try simp -implicitDefEqProofs only [nleL_cc, nleL_nn, nle_self, nle_boxs, nle_aggs, nle_nils, and_self, and_true, true_and]) <;> repeat' (first | exact nle_of_eq rfl | exact nle_nil | apply And.intro | apply nle_sl | apply nleLL_cons | apply nleL_cons | exact nleL_nil | exact nleLL_nil | apply nle_box | apply nle_agg)) (?_) ?_
      · exact ⟨hst, by simp [hnl], xs.length, by simp only; omega, hR⟩
      rintro ⟨k, y⟩ ⟨hok, hyi, f, hf, hW⟩; simp only at hok hyi hf hW; have hsum := hok.sum; have hyl := hok.len; simp -implicitDefEqProofs (disch := omega) only [go_sem, ↓reduceIte , List.length_map]; refine cond_split ?_ ?_ <;> intro hlt2
      · have hlt2 : k < y.2.length := (by simpa using hlt2); simp -implicitDefEqProofs (disch := omega) only [go_sem, ↓reduceIte]; refine loop_ov (by simp -implicitDefEqProofs (disch := omega) only [go_sem, ↓reduceIte]; exact rfl) (fun d : Nat => [(4, .sl true 1 ((dirsG xs (G : Int) k y d).1.map rI)), (6, .sl true 1 ((dirsG xs (G : Int) k y d).2.map rN)), (8, .v (.int .i64 (d : Nat)))]) (fun _ => by simp only [ovr_nil, ovr_cons, List.set_cons_zero, List.set_cons_succ]; exact rfl) (fun d : Nat => d ≤ 4) (fun d : Nat => 4 - d) (0) (nleA) (?_) ?_
        · exact Nat.zero_le _
        intro d hd; obtain ⟨hk1, hk2, hk3⟩ := dirsG_ok hG1 hok k d; have hyi2 := hk2 i (G : Int) hyi (by omega); have hD1 : dirsG xs (G : Int) k y (d + 1) = stepG xs (G : Int) (dirsG xs (G : Int) k y d) k d := rfl; have hD4 : d = 4 → dirsG xs (G : Int) k y 4 = dirsG xs (G : Int) k y d := fun h => by rw [h]
        generalize hd1 : dirsG xs (G : Int) k y (d + 1) = v1 at *; generalize hd4 : dirsG xs (G : Int) k y 4 = v4 at *; generalize dirsG xs (G : Int) k y d = v at *; obtain ⟨vn, vp⟩ := v; simp only at hk3 hyi2; have hvl := hk1.len; have hvs := hk1.sum; simp only at hvl hvs; simp -implicitDefEqProofs (disch := omega) only [go_sem, ↓reduceIte , List.length_map]; refine cond_split ?_ ?_ <;> intro hlt3
        · have hlt3 : d < 4 := (by have := of_decide_eq_true hlt3; omega); have hkv : k < vp.length := Nat.lt_of_lt_of_le hlt2 hk3.length_le; have e2 := List.getElem?_eq_getElem hkv; have hj0 := hk1.lt vp[k] (List.getElem_mem hkv); have hpj : (plc xs)[vp[k]]? = some ⟨xs[vp[k]], 0⟩ := (by unfold plc; rw [List.getElem?_map, List.getElem?_eq_getElem hj0]; rfl); have hpj2 : vp[k] < (plc xs).length := (by omega); have hS := v_l01Step xs[vp[k]] d hlt3; have hI := v_l03Index ⟨plc xs⟩ (stepP xs[vp[k]] d) (by simp only; omega); simp only [idx_atQ hs] at hI; simp only [Assembly.td_d, Point.td_d] at hS hI; have hst1 : v1 = match atQ xs (stepP xs[vp[k]] d) with
              | some j => if vn[j]? = some 0 then (vn.set j (G : Int), vp ++ [j]) else (vn, vp)
              | none => (vn, vp) := by
            rw [hD1]; unfold stepG; simp only [e2, List.getElem?_eq_getElem hj0]; cases atQ xs (stepP xs[vp[k]] d) <;> rfl
          generalize stepP xs[vp[k]] d = q at *; simp -implicitDefEqProofs (disch := omega) only [go_sem, ↓reduceIte , List.length_map, Int.toNat_natCast, Int.ofNat_lt, Int.natCast_nonneg, List.getElem?_map, Option.map_some, hkv, e2, rN, hpj, hpj2, Placed.td_d, List.length_map]; refine call_NB (hS) (by simp -implicitDefEqProofs (disch := omega) only [go_sem, ↓reduceIte, deep, TD.rows, immLL_rI, immLL_rB8, immLL_rS, immLL_rBo, immLL_rII, immLL_rIIt, List.length_map, Int.toNat_natCast, Int.ofNat_lt, Int.natCast_nonneg, List.getElem?_map, Option.map_some, hkv, e2, rN, hpj, hpj2, Placed.td_d]; exact rfl) ?_; simp -implicitDefEqProofs (disch := omega) only [go_sem, ↓reduceIte , List.length_map, Int.toNat_natCast, Int.ofNat_lt, Int.natCast_nonneg, List.getElem?_map, Option.map_some, hkv, e2, rN, hpj, hpj2, Placed.td_d]; cases hq : atQ xs q with
          | none =>
            rw [hq] at hI hst1; simp only at hI hst1; refine call_B (hI) (by simp -implicitDefEqProofs (disch := omega) only [go_sem, ↓reduceIte, deep, TD.rows, immLL_rI, immLL_rB8, immLL_rS, immLL_rBo, immLL_rII, immLL_rIIt, Int.natCast_zero, Int.natCast_one, Int.cast_ofNat_Int, Int.ofNat_le, Int.toNat_zero, Nat.sub_zero, Int.le_refl, Int.reduceLT, Int.reduceLE, Int.reduceEq, Int.reduceAdd, Int.reduceSub, Int.reduceMul, Int.reduceToNat, Int.reduceNeg, wrN]; exact rfl) ?_; simp -implicitDefEqProofs (disch := omega) only [go_sem, ↓reduceIte , Int.natCast_zero, Int.natCast_one, Int.cast_ofNat_Int, Int.ofNat_le, Int.toNat_zero, Nat.sub_zero, Int.le_refl, Int.reduceLT, Int.reduceLE, Int.reduceEq, Int.reduceAdd, Int.reduceSub, Int.reduceMul, Int.reduceToNat, Int.reduceNeg, wrN]; refine ⟨d + 1, by omega, hlt3, ?_⟩; rw [hd1, hst1]
            (try simp -implicitDefEqProofs only [nleL_cc, nleL_nn, nle_self, nle_boxs, nle_aggs, nle_nils, and_self, and_true, true_and]) <;> repeat' (first | exact nle_of_eq rfl | exact nle_nil | apply And.intro | apply nle_sl | apply nleLL_cons | apply nleL_cons | exact nleL_nil | exact nleLL_nil | apply nle_box | apply nle_agg)
          | some j =>
            rw [hq] at hI hst1; simp only at hI hst1; obtain ⟨hj, _⟩ := atQ_some hq; have hjl : j < vn.length := by omega
            have e3 := List.getElem?_eq_getElem hjl; have hil : i < vn.length := (by omega); have dj : decide ((0 : Int) ≤ (j : Int)) = true := (by rw [decide_eq_true_eq]; omega); by_cases hv0 : vn[j] = 0
            · have dv : decide (vn[j] = 0) = true := decide_eq_true hv0; rw [if_pos (by rw [e3, hv0])] at hst1; have hset2 : List.map rI (vn.set j (G : Int)) = (List.map rI vn).set j [D.v (.int .i64 (G : Int))] := List.map_set; have hq2 : (List.map rN vp).length ≤ 500 := (by rw [List.length_map]; omega); refine call_B (hI) (by simp -implicitDefEqProofs (disch := omega) only [go_sem, ↓reduceIte, deep, TD.rows, immLL_rI, immLL_rB8, immLL_rS, immLL_rBo, immLL_rII, immLL_rIIt, dj, List.length_map, Int.toNat_natCast, Int.ofNat_lt, Int.natCast_nonneg, List.getElem?_map, Option.map_some, hjl, e3, rI, dv, hil, hyi2, wrN]; exact rfl) ?_; simp -implicitDefEqProofs (disch := omega) only [go_sem, ↓reduceIte , dj, List.length_map, Int.toNat_natCast, Int.ofNat_lt, Int.natCast_nonneg, List.getElem?_map, Option.map_some, hjl, e3, rI, dv, hil, hyi2, wrN]; refine ⟨by omega, ?_⟩; refine ⟨d + 1, by omega, hlt3, ?_⟩; rw [hd1, hst1]; simp only [hset2, List.map_append, List.map_cons, List.map_nil, rN]
              (try simp -implicitDefEqProofs only [nleL_cc, nleL_nn, nle_self, nle_boxs, nle_aggs, nle_nils, and_self, and_true, true_and]) <;> repeat' (first | exact nle_of_eq rfl | exact nle_nil | apply And.intro | apply nle_sl | apply nleLL_cons | apply nleL_cons | exact nleL_nil | exact nleLL_nil | apply nle_box | apply nle_agg)
            · have dv : decide (vn[j] = 0) = false := decide_eq_false hv0; rw [if_neg (by rw [e3]; simpa using hv0)] at hst1; refine call_B (hI) (by simp -implicitDefEqProofs (disch := omega) only [go_sem, ↓reduceIte, deep, TD.rows, immLL_rI, immLL_rB8, immLL_rS, immLL_rBo, immLL_rII, immLL_rIIt, dj, List.length_map, Int.toNat_natCast, Int.ofNat_lt, Int.natCast_nonneg, List.getElem?_map, Option.map_some, hjl, e3, rI, dv, wrN]; exact rfl) ?_; simp -implicitDefEqProofs (disch := omega) only [go_sem, ↓reduceIte , dj, List.length_map, Int.toNat_natCast, Int.ofNat_lt, Int.natCast_nonneg, List.getElem?_map, Option.map_some, hjl, e3, rI, dv, wrN]; refine ⟨d + 1, by omega, hlt3, ?_⟩; rw [hd1, hst1]
              (try simp -implicitDefEqProofs only [nleL_cc, nleL_nn, nle_self, nle_boxs, nle_aggs, nle_nils, and_self, and_true, true_and]) <;> repeat' (first | exact nle_of_eq rfl | exact nle_nil | apply And.intro | apply nle_sl | apply nleLL_cons | apply nleL_cons | exact nleL_nil | exact nleLL_nil | apply nle_box | apply nle_agg)
        · have hlt3 : d = 4 := (by have := of_decide_eq_false hlt3; omega); have hv4 := hD4 hlt3; simp -implicitDefEqProofs (disch := omega) only [go_sem, ↓reduceIte , wrN]; have hf1 : ∃ f', f = f' + 1 := ⟨f - 1, by omega⟩
          obtain ⟨f', rfl⟩ := hf1; rw [walkG, if_pos hlt2, hd4, hv4] at hW; exact ⟨(k + 1, vn, vp), by simp only; omega, ⟨hk1, hyi2, f', by simp only; omega, hW⟩, nleA⟩
      · have hlt2 : ¬ k < y.2.length := (by simpa using hlt2); rw [walkG_end hlt2] at hW; simp -implicitDefEqProofs (disch := omega) only [go_sem, ↓reduceIte , wrN]; refine ⟨i + 1, by omega, hlt, ?_⟩; rw [hz1, hO1, ← hW]; simp only [List.map_append, List.map_cons, List.map_nil, rL]
        (try simp -implicitDefEqProofs only [nleL_cc, nleL_nn, nle_self, nle_boxs, nle_aggs, nle_nils, and_self, and_true, true_and]) <;> repeat' (first | exact nle_of_eq rfl | exact nle_nil | apply And.intro | apply nle_sl | apply nleLL_cons | apply nleL_cons | exact nleL_nil | exact nleLL_nil | apply nle_box | apply nle_agg)
    · have d0 : decide (0 < nm[i]) = true := (by rw [decide_eq_true_eq]; omega); rw [if_neg (by rw [e1]; simp [h0])] at hO1; simp -implicitDefEqProofs (disch := omega) only [go_sem, ↓reduceIte , List.length_map, Int.toNat_natCast, Int.ofNat_lt, Int.natCast_nonneg, List.getElem?_map, Option.map_some, hnl, e1, rI, d0, wrN]; refine ⟨i + 1, by omega, hlt, ?_⟩; rw [hz1, hO1]
      (try simp -implicitDefEqProofs only [nleL_cc, nleL_nn, nle_self, nle_boxs, nle_aggs, nle_nils, and_self, and_true, true_and]) <;> repeat' (first | exact nle_of_eq rfl | exact nle_nil | apply And.intro | apply nle_sl | apply nleLL_cons | apply nleL_cons | exact nleL_nil | exact nleLL_nil | apply nle_box | apply nle_agg)
  · obtain rfl : i = xs.length := (by have : ¬ i < xs.length := (by simpa using hlt); omega); have hall := hO.all; have hnmx := hO.nm; simp only at hall hnmx; have hE := hend rfl; have hrow : ∀ t, rowsG xs t = (List.range ps.length).map fun (g : Nat) => (List.range t).filter fun i => decide (nm[i]? = some ((g : Int) + 1)) := fun t => by unfold rowsG; rw [hE]
    have hR0 : (rowsG xs 0).map rL = List.map (fun (_ : List Nat) => rL []) ps := (by rw [hrow, List.map_map]; refine List.ext_getElem (by simp) (fun k h1 h2 => ?_); simp [rL]); clear hO1 hz1 hz hend hE; simp -implicitDefEqProofs (disch := omega) only [go_sem, ↓reduceIte , List.length_map]; refine loop_ov (by simp -implicitDefEqProofs (disch := omega) only [go_sem, ↓reduceIte]; exact rfl) (fun t : Nat => [(3, .sl true 1 ((rowsG xs t).map rL)), (10, .v (.int .i64 (t : Nat)))]) (fun _ => by simp only [ovr_nil, ovr_cons, List.set_cons_zero, List.set_cons_succ]; exact rfl) (fun t : Nat => t ≤ xs.length) (fun t : Nat => xs.length - t) (0) (by rw [hR0]; (try simp -implicitDefEqProofs only [nleL_cc, nleL_nn, nle_self, nle_boxs, nle_aggs, nle_nils, and_self, and_true, true_and]) <;> repeat' (first | exact nle_of_eq rfl | exact nle_nil | apply And.intro | apply nle_sl | apply nleLL_cons | apply nleL_cons | exact nleL_nil | exact nleLL_nil | apply nle_box | apply nle_agg)) (?_) ?_
    · exact Nat.zero_le _
    intro t ht; have hrl : (rowsG xs t).length = ps.length := by rw [hrow]; simp
    simp -implicitDefEqProofs (disch := omega) only [go_sem, ↓reduceIte , List.length_map]; refine cond_split ?_ ?_ <;> intro hlt2
    · have hlt2 : t < xs.length := by have : t < nm.length := by simpa using hlt2
                                      omega
      have htn : t < nm.length := (by omega); have e1 := List.getElem?_eq_getElem htn; have hx := hnmx nm[t] (List.getElem_mem htn); have hx0 := hall t hlt2 _ e1; obtain ⟨g, hg⟩ : ∃ g : Nat, nm[t] = (g : Int) + 1 := ⟨(nm[t] - 1).toNat, by omega⟩
      have hgl : g < (rowsG xs t).length := (by omega); have e2 := List.getElem?_eq_getElem hgl; have hw : IntKind.i64.wrap ((g : Int) + 1 - 1) = (g : Int) := (by rw [wrI (by omega) (by omega)]; omega); have hnext : rowsG xs (t + 1) = (rowsG xs t).set g ((rowsG xs t)[g] ++ [t]) := by
        refine List.ext_getElem (by simp [hrow]) (fun k h1 h2 => ?_); simp only [hrow, List.getElem_map, List.getElem_range, List.range_succ, List.filter_append, List.getElem_set, List.filter_cons, List.filter_nil, e1, hg]; by_cases hk : g = k
        · subst hk; simp
        · have hne : ¬ ((g : Int) + 1 = (k : Int) + 1) := (by omega); simp [hk, hne]
      have hgr : (rowsG xs t)[g].length ≤ 500 := (by simp only [hrow, List.getElem_map]; exact Nat.le_trans (List.length_filter_le _ _) (by simp; omega)); generalize (rowsG xs t)[g] = row at *; rw [hg] at e1; have hqr : (List.map rN row).length ≤ 500 := (by rw [List.length_map]; omega); have hgm : g < (List.map rL (rowsG xs t)).length := (by rw [List.length_map]; exact hgl); have hgs : ((List.map rL (rowsG xs t)).set g [D.undef])[g]? = some [D.undef] := List.getElem?_set_self hgm; simp -implicitDefEqProofs (disch := omega) only [go_sem, ↓reduceIte , List.length_map, Int.toNat_natCast, Int.ofNat_lt, Int.natCast_nonneg, List.getElem?_map, Option.map_some, htn, e1, rI, hw, hgl, e2, rL, wrN, List.length_map, List.length_set, hgs, List.set_set]; refine ⟨by omega, t + 1, by omega, hlt2, ?_⟩; have hmap : List.map rL (rowsG xs (t + 1)) = (List.map rL (rowsG xs t)).set g (rL (row ++ [t])) := (by rw [hnext, List.map_set]); rw [hmap]; simp only [rL, List.map_append, List.map_cons, List.map_nil, rN]
      (try simp -implicitDefEqProofs only [nleL_cc, nleL_nn, nle_self, nle_boxs, nle_aggs, nle_nils, and_self, and_true, true_and]) <;> repeat' (first | exact nle_of_eq rfl | exact nle_nil | apply And.intro | apply nle_sl | apply nleLL_cons | apply nleL_cons | exact nleL_nil | exact nleLL_nil | apply nle_box | apply nle_agg)
    · obtain rfl : t = xs.length := (by have : ¬ t < nm.length := (by simpa using hlt2); omega); simp -implicitDefEqProofs (disch := omega) only [go_sem, ↓reduceIte]
def rQ (xs : List Point) (p : List Nat) : List D := [.sl true 2 ((ptsG xs p).map (Point.td.d true))]
theorem rowsG_lt {xs : List Point} {p : List Nat} (h : p ∈ rowsG xs xs.length) : p.length ≤ xs.length ∧ ∀ j, j ∈ p → j < xs.length := by obtain ⟨g, _, rfl⟩ := List.mem_map.1 h; exact ⟨Nat.le_trans (List.length_filter_le _ _) (by simp), fun j hj => List.mem_range.1 (List.mem_filter.1 hj).1⟩
def code_spec_l04Parts : VCode := (.seq (.ops [
  ⟨(some 2), none, (.asg (.const (.slice none 0 0)))⟩]) (.seq (.ops [
  ⟨(some 10), none, (.build [(.slice none 0 0)] [])⟩,
  ⟨(some 3), none, (.alloc [(.slice none 0 0)])⟩,
  ⟨none, none, (.store 1 (.tmp 3) (.tmp 10))⟩]) (.seq (.seq (.ops [
  ⟨(some 4), none, (.asg (.const (.int .i64 0)))⟩]) (.block 0 (.loop (mB 63 9223372036854775782) (.seq (.seq (.ops [
  ⟨(some 11), none, (.mv (.tmp 4))⟩,
  ⟨(some 12), none, (.mv (.tmp 0))⟩,
  ⟨(some 13), none, (.len (.tmp 12))⟩,
  ⟨(some 14), none, (.bin .lss (.tmp 11) (.tmp 13))⟩]) (.cond (.tmp 14) .skip (.exit 0))) (.seq (.block 1 (.draw (mB 25 33423360) (mB 24 12582912) [⟨0, (mB 25 33423360), [], ⟨(some 17), none, (.fa 0 (.tmp 3))⟩⟩, ⟨1, (mB 25 33292288), [], ⟨(some 18), none, (.load 1 false (.tmp 17))⟩⟩, ⟨2, (mB 25 33423360), [], ⟨(some 19), none, (.mv (.tmp 0))⟩⟩, ⟨3, (mB 25 33423360), [], ⟨(some 20), none, (.mv (.tmp 4))⟩⟩, ⟨4, (mB 25 31850496), [], ⟨(some 21), none, (.ia 2 (.tmp 19) (.tmp 20))⟩⟩, ⟨5, (mB 25 29753344), [], ⟨(some 22), none, (.load 2 true (.tmp 21))⟩⟩, ⟨6, (mB 25 25559040), (mB 23 4194304), ⟨(some 23), none, (.build [(.int .i64 0), (.int .i64 0), (.int .i64 0)] [(0, 2, (.tmp 22))])⟩⟩, ⟨7, (mB 25 21364736), (mB 24 8388608), ⟨(some 24), none, (.bslN 3 [(.tmp 23)])⟩⟩] [⟨(some 25), none, (.app 3 24 (.tmp 18) (.tmp 24))⟩, ⟨(some 26), none, (.fa 0 (.tmp 3))⟩, ⟨none, none, (.store 1 (.tmp 26) (.tmp 25))⟩])) (.ops [
  ⟨(some 15), none, (.mv (.tmp 4))⟩,
  ⟨(some 16), none, (.bin .add (.tmp 15) (.const (.int .i64 1)))⟩,
  ⟨(some 4), none, (.asg (.tmp 16))⟩])))))) (.seq (.ops [
  ⟨(some 27), none, (.callX 64 [(.tmp 3)])⟩,
  ⟨(some 5), none, (.asg (.tmp 27))⟩]) (.seq (.ops [
  ⟨(some 28), none, (.bsl 1 [])⟩,
  ⟨(some 6), none, (.asg (.tmp 28))⟩]) (.seq (.seq (.ops [
  ⟨(some 7), none, (.asg (.const (.int .i64 0)))⟩]) (.block 2 (.loop (mB 63 4683708393330834966) (.seq (.seq (.ops [
  ⟨(some 29), none, (.mv (.tmp 7))⟩,
  ⟨(some 30), none, (.mv (.tmp 5))⟩,
  ⟨(some 31), none, (.len (.tmp 30))⟩,
  ⟨(some 32), none, (.bin .lss (.tmp 29) (.tmp 31))⟩]) (.cond (.tmp 32) .skip (.exit 2))) (.seq (.block 3 (.seq (.ops [
  ⟨(some 35), none, (.bsl 2 [])⟩,
  ⟨(some 8), none, (.asg (.tmp 35))⟩]) (.seq (.seq (.ops [
  ⟨(some 9), none, (.asg (.const (.int .i64 0)))⟩]) (.block 4 (.loop (mB 63 4683708393330834454) (.seq (.seq (.ops [
  ⟨(some 36), none, (.mv (.tmp 9))⟩,
  ⟨(some 37), none, (.mv (.tmp 5))⟩,
  ⟨(some 38), none, (.mv (.tmp 7))⟩,
  ⟨(some 39), none, (.ia 1 (.tmp 37) (.tmp 38))⟩,
  ⟨(some 40), none, (.load 1 false (.tmp 39))⟩,
  ⟨(some 41), none, (.len (.tmp 40))⟩,
  ⟨(some 42), none, (.bin .lss (.tmp 36) (.tmp 41))⟩]) (.cond (.tmp 42) .skip (.exit 4))) (.seq (.block 5 (.ops [
  ⟨(some 45), none, (.mv (.tmp 8))⟩,
  ⟨(some 46), none, (.mv (.tmp 0))⟩,
  ⟨(some 47), none, (.mv (.tmp 5))⟩,
  ⟨(some 48), none, (.mv (.tmp 7))⟩,
  ⟨(some 49), none, (.ia 1 (.tmp 47) (.tmp 48))⟩,
  ⟨(some 50), none, (.load 1 false (.tmp 49))⟩,
  ⟨(some 51), none, (.mv (.tmp 9))⟩,
  ⟨(some 52), none, (.ia 1 (.tmp 50) (.tmp 51))⟩,
  ⟨(some 53), none, (.load 1 false (.tmp 52))⟩,
  ⟨(some 54), none, (.ia 2 (.tmp 46) (.tmp 53))⟩,
  ⟨(some 55), none, (.load 2 true (.tmp 54))⟩,
  ⟨(some 56), none, (.bsl 2 [(.tmp 55)])⟩,
  ⟨(some 57), none, (.app 2 16 (.tmp 45) (.tmp 56))⟩,
  ⟨(some 8), none, (.asg (.tmp 57))⟩])) (.ops [
  ⟨(some 43), none, (.mv (.tmp 9))⟩,
  ⟨(some 44), none, (.bin .add (.tmp 43) (.const (.int .i64 1)))⟩,
  ⟨(some 9), none, (.asg (.tmp 44))⟩])))))) (.ops [
  ⟨(some 58), none, (.mv (.tmp 6))⟩,
  ⟨(some 59), none, (.mv (.tmp 8))⟩,
  ⟨(some 60), none, (.bsl 1 [(.tmp 59)])⟩,
  ⟨(some 61), none, (.app 1 24 (.tmp 58) (.tmp 60))⟩,
  ⟨(some 6), none, (.asg (.tmp 61))⟩])))) (.ops [
  ⟨(some 33), none, (.mv (.tmp 7))⟩,
  ⟨(some 34), none, (.bin .add (.tmp 33) (.const (.int .i64 1)))⟩,
  ⟨(some 7), none, (.asg (.tmp 34))⟩])))))) (.seq (.ops [
  ⟨(some 62), none, (.mv (.tmp 6))⟩,
  ⟨(some 2), none, (.asg (.tmp 62))⟩]) .ret)))))))
theorem law_spec_l04Parts {a0 d : D} (h : code_spec_l04Parts.wp (CT Try.prog NoG) (endQ [(.t 2)] d) [a0, .undef, .undef, .undef, .undef, .undef, .undef, .undef, .undef, .undef, .undef, .undef, .undef, .undef, .undef, .undef, .undef, .undef, .undef, .undef, .undef, .undef, .undef, .undef, .undef, .undef, .undef, .undef, .undef, .undef, .undef, .undef, .undef, .undef, .undef, .undef, .undef, .undef, .undef, .undef, .undef, .undef, .undef, .undef, .undef, .undef, .undef, .undef, .undef, .undef, .undef, .undef, .undef, .undef, .undef, .undef, .undef, .undef, .undef, .undef, .undef, .undef, .undef]) : Contract Try.prog NoG 31 [a0] d :=
  contract_of (pt := 0) noG Try.func31 (fun us W => by kernel_rfl) (c := Try.f31.body.getD .skip) (ms := [(mB 63 9223372036854775782), (mB 63 4683708393330834966), (mB 63 4683708393330834454)]) (ms' := []) (by kernel_rfl) (by kernel_rfl) (by kernel_rfl) h
def code_spec_IsConnected : VCode := (.seq (.ops [
  ⟨(some 2), none, (.asg (.const (.bool false)))⟩]) (.seq (.ops [
  ⟨(some 3), none, (.mv (.tmp 0))⟩,
  ⟨(some 4), none, (.callX 30 [(.tmp 3)])⟩,
  ⟨(some 5), none, (.mv (.tmp 4))⟩,
  ⟨(some 6), (some (5, true)), (.mv (.tmp 0))⟩,
  ⟨(some 7), (some (5, true)), (.callX 31 [(.tmp 6)])⟩,
  ⟨(some 8), (some (5, true)), (.len (.tmp 7))⟩,
  ⟨(some 9), (some (5, true)), (.bin .eql (.tmp 8) (.const (.int .i64 1)))⟩,
  ⟨(some 10), none, (.pick (.tmp 5) (.tmp 9) (.const (.bool false)))⟩,
  ⟨(some 2), none, (.asg (.tmp 10))⟩]) .ret))
theorem law_spec_IsConnected {a0 d : D} (h : code_spec_IsConnected.wp (CT Try.prog NoG) (endQ [(.t 2)] d) [a0, .undef, .undef, .undef, .undef, .undef, .undef, .undef, .undef, .undef, .undef]) : Contract Try.prog NoG 8 [a0] d :=
  contract_of (pt := 0) noG Try.func8 (fun us W => by kernel_rfl) (c := Try.f8.body.getD .skip) (ms := []) (ms' := []) (by kernel_rfl) (by kernel_rfl) (by kernel_rfl) h
set_option maxHeartbeats 8000000 in
theorem v_l04Parts (xs : List Point) (hs : strictQ xs) (hn : xs.length ≤ 500) : Contract Try.prog NoG 31 [.sl false 2 (xs.map (Point.td.d false))] (.sl true 1 ((rowsG xs xs.length).map (rQ xs))) := by
  have hP := v_l03Parts xs hs hn; have hrl : (rowsG xs xs.length).length ≤ 500 := (by have h1 : (rowsG xs xs.length).length = (outG xs xs.length).2.length := (by unfold rowsG; simp); have h2 := (outG_ok (xs := xs) xs.length (Nat.le_refl _)).few; omega); have hlt0 : ∀ p, p ∈ rowsG xs xs.length → p.length ≤ xs.length ∧ ∀ j, j ∈ p → j < xs.length := fun p hp => rowsG_lt hp; refine law_spec_l04Parts ?_; unfold code_spec_l04Parts; generalize rowsG xs xs.length = ps at *; simp -implicitDefEqProofs (disch := omega) only [go_sem, ↓reduceIte]; refine loop_ov (by simp -implicitDefEqProofs (disch := omega) only [go_sem, ↓reduceIte]; exact rfl) (fun i : Nat => [(3, .box none [.sl true 3 ((plc (xs.take i)).map (Placed.td.d true))]), (4, .v (.int .i64 (i : Nat)))]) (fun _ => by simp only [ovr_nil, ovr_cons, List.set_cons_zero, List.set_cons_succ]; exact rfl) (fun i : Nat => i ≤ xs.length) (fun i : Nat => xs.length - i) (0) (nleA) (?_) ?_
  · exact Nat.zero_le _
  intro i hi; have hq : ((plc (xs.take i)).map (Placed.td.d true)).length = i := by unfold plc; simp; omega
  simp -implicitDefEqProofs (disch := omega) only [go_sem, ↓reduceIte , List.length_map, Int.toNat_natCast, Int.ofNat_lt, Int.natCast_nonneg, List.getElem?_map, Option.map_some, List.length_map]; refine cond_split ?_ ?_ <;> intro hlt
  · have hlt : i < xs.length := (by simpa using hlt); have e1 := List.getElem?_eq_getElem hlt; simp -implicitDefEqProofs (disch := omega) only [go_sem, ↓reduceIte , List.length_map, Int.toNat_natCast, Int.ofNat_lt, Int.natCast_nonneg, List.getElem?_map, Option.map_some, hlt, e1, Point.td_d, wrN, hq]; refine ⟨by omega, i + 1, by omega, hlt, ?_⟩; have : (plc (xs.take (i + 1))).map (Placed.td.d true) = (plc (xs.take i)).map (Placed.td.d true) ++ [Placed.td.d true ⟨xs[i], 0⟩] := (by unfold plc; rw [List.take_succ_eq_append_getElem hlt, List.map_append, List.map_append]; rfl); rw [this, Placed.td_d]
    (try simp -implicitDefEqProofs only [nleL_cc, nleL_nn, nle_self, nle_boxs, nle_aggs, nle_nils, and_self, and_true, true_and]) <;> repeat' (first | exact nle_of_eq rfl | exact nle_nil | apply And.intro | apply nle_sl | apply nleLL_cons | apply nleL_cons | exact nleL_nil | exact nleLL_nil | apply nle_box | apply nle_agg)
  obtain rfl : i = xs.length := (by have : ¬ i < xs.length := (by simpa using hlt); omega); rw [List.take_length]; simp -implicitDefEqProofs (disch := omega) only [go_sem, ↓reduceIte]; have hnim : (D.sl true 1 (ps.map rL)).noImm = true := (by simp only [D.noImm]; exact noImmLL_map (fun x => by simp [rL, noImmL, D.noImm, noImmLL_map (f := rN) (fun _ => by simp [rN, noImmL, D.noImm])]) ps); refine call_leA hP (by simp -implicitDefEqProofs (disch := omega) only [go_sem, ↓reduceIte, deep, TD.rows, immLL_rI, immLL_rB8, immLL_rS, immLL_rBo, immLL_rII, immLL_rIIt, List.length_map]; exact rfl) (by repeat (first | exact leL_nil | refine leL_cons ?_ ?_ | exact le_of_eq rfl | exact le_iptrN (leL_of_eq rfl) | refine le_agg ?_ | exact le_slf rfl (TD.rows ..) | refine le_iptr ?_ | refine le_fn ?_ ?_ | exact le_nilsl_)) (.inl hnim) ?_; simp -implicitDefEqProofs (disch := omega) only [go_sem, ↓reduceIte , List.length_map]; refine loop_ov (by simp -implicitDefEqProofs (disch := omega) only [go_sem, ↓reduceIte]; exact rfl) (fun i : Nat => [(6, .sl true 1 ((ps.take i).map (rQ xs))), (7, .v (.int .i64 (i : Nat)))]) (fun _ => by simp only [ovr_nil, ovr_cons, List.set_cons_zero, List.set_cons_succ]; exact rfl) (fun i : Nat => i ≤ ps.length) (fun i : Nat => ps.length - i) (0) (nleA) (?_) ?_
  · exact Nat.zero_le _
  intro i hi; have hq2 : ((ps.take i).map (rQ xs)).length = i := by simp; omega
  simp -implicitDefEqProofs (disch := omega) only [go_sem, ↓reduceIte , List.length_map, Int.toNat_natCast, Int.ofNat_lt, Int.natCast_nonneg, List.getElem?_map, Option.map_some, List.length_map]; refine cond_split ?_ ?_ <;> intro hlt2
  · have hlt2 : i < ps.length := (by simpa using hlt2); have e2 := List.getElem?_eq_getElem hlt2; obtain ⟨hpl, hpj⟩ := hlt0 ps[i] (List.getElem_mem hlt2); have hnext : (ps.take (i + 1)).map (rQ xs) = (ps.take i).map (rQ xs) ++ [rQ xs ps[i]] := (by rw [List.take_succ_eq_append_getElem hlt2, List.map_append]; rfl); generalize ps[i] = part at *; have hgl : (ptsG xs part).length = part.length := (by unfold ptsG; rw [List.length_map]); simp -implicitDefEqProofs (disch := omega) only [go_sem, ↓reduceIte]; refine loop_ov (by simp -implicitDefEqProofs (disch := omega) only [go_sem, ↓reduceIte]; exact rfl) (fun k : Nat => [(8, .sl true 2 (((ptsG xs part).take k).map (Point.td.d true))), (9, .v (.int .i64 (k : Nat)))]) (fun _ => by simp only [ovr_nil, ovr_cons, List.set_cons_zero, List.set_cons_succ]; exact rfl) (fun k : Nat => k ≤ part.length) (fun k : Nat => part.length - k) (0) (nleA) (?_) ?_
    · exact Nat.zero_le _
    intro k hk; have hq3 : (((ptsG xs part).take k).map (Point.td.d true)).length = k := by simp; omega
    simp -implicitDefEqProofs (disch := omega) only [go_sem, ↓reduceIte , List.length_map, Int.toNat_natCast, Int.ofNat_lt, Int.natCast_nonneg, List.getElem?_map, Option.map_some, hlt2, e2, rL, List.length_map]; refine cond_split ?_ ?_ <;> intro hlt3
    · have hlt3 : k < part.length := (by simpa using hlt3); have e3 := List.getElem?_eq_getElem hlt3; have hj := hpj part[k] (List.getElem_mem hlt3); have e4 := List.getElem?_eq_getElem hj; have hk4 : k < (ptsG xs part).length := (by omega); have e5 : (ptsG xs part)[k] = xs[part[k]] := (by simp only [ptsG, List.getElem_map]; rw [List.getD_eq_getElem?_getD, e4]; rfl); simp -implicitDefEqProofs (disch := omega) only [go_sem, ↓reduceIte , List.length_map, Int.toNat_natCast, Int.ofNat_lt, Int.natCast_nonneg, List.getElem?_map, Option.map_some, hlt2, e2, rL, List.length_map, hlt3, e3, rN, hj, e4, Point.td_d, wrN, hq3]; refine ⟨by omega, k + 1, by omega, hlt3, ?_⟩; rw [List.take_succ_eq_append_getElem hk4, List.map_append, e5]; simp only [List.map_cons, List.map_nil, Point.td_d]
      (try simp -implicitDefEqProofs only [nleL_cc, nleL_nn, nle_self, nle_boxs, nle_aggs, nle_nils, and_self, and_true, true_and]) <;> repeat' (first | exact nle_of_eq rfl | exact nle_nil | apply And.intro | apply nle_sl | apply nleLL_cons | apply nleL_cons | exact nleL_nil | exact nleLL_nil | apply nle_box | apply nle_agg)
    · obtain rfl : k = part.length := (by have : ¬ k < part.length := (by simpa using hlt3); omega); rw [List.take_of_length_le (l := ptsG xs part) (by omega)]; simp -implicitDefEqProofs (disch := omega) only [go_sem, ↓reduceIte , wrN, hq2]; refine ⟨by omega, i + 1, by omega, hlt2, ?_⟩; rw [hnext]; unfold rQ
      (try simp -implicitDefEqProofs only [nleL_cc, nleL_nn, nle_self, nle_boxs, nle_aggs, nle_nils, and_self, and_true, true_and]) <;> repeat' (first | exact nle_of_eq rfl | exact nle_nil | apply And.intro | apply nle_sl | apply nleLL_cons | apply nleL_cons | exact nleL_nil | exact nleLL_nil | apply nle_box | apply nle_agg)
  · obtain rfl : i = ps.length := (by have : ¬ i < ps.length := (by simpa using hlt2); omega); rw [List.take_length]; simp -implicitDefEqProofs (disch := omega) only [go_sem, ↓reduceIte]
theorem v_IsConnected_spec (xs : List Point) (hn : xs.length ≤ 1048576) : Contract Try.prog NoG 8 [.sl false 2 (xs.map (Point.td.d false))] (.v (.bool (okShape xs && decide ((outG xs xs.length).2.length = 1)))) := by
  have hO := v_l04Ok xs hn; refine law_spec_IsConnected ?_; unfold code_spec_IsConnected; simp -implicitDefEqProofs (disch := omega) only [go_sem, ↓reduceIte]; cases h : okShape xs with
  | false => rw [h] at hO; refine call_B (hO) (by simp -implicitDefEqProofs (disch := omega) only [go_sem, ↓reduceIte, deep, TD.rows, immLL_rI, immLL_rB8, immLL_rS, immLL_rBo, immLL_rII, immLL_rIIt]; exact rfl) ?_; simp -implicitDefEqProofs (disch := omega) only [go_sem, ↓reduceIte]
  | true =>
    rw [h] at hO; obtain ⟨hs, _, hl⟩ := shape_strict h; have hP := v_l04Parts xs hs hl; have hlen : (List.map (rQ xs) (rowsG xs xs.length)).length = (outG xs xs.length).2.length := by rw [List.length_map]; unfold rowsG; simp
    refine call_B (hO) (by simp -implicitDefEqProofs (disch := omega) only [go_sem, ↓reduceIte, deep, TD.rows, immLL_rI, immLL_rB8, immLL_rS, immLL_rBo, immLL_rII, immLL_rIIt]; exact rfl) ?_; simp -implicitDefEqProofs (disch := omega) only [go_sem, ↓reduceIte]; have dd : decide (((outG xs xs.length).2.length : Int) = 1) = decide ((outG xs xs.length).2.length = 1) := by rw [Bool.eq_iff_iff, decide_eq_true_eq, decide_eq_true_eq]; omega
    refine call_B (hP) (by simp -implicitDefEqProofs (disch := omega) only [go_sem, ↓reduceIte, deep, TD.rows, immLL_rI, immLL_rB8, immLL_rS, immLL_rBo, immLL_rII, immLL_rIIt, hlen, dd]; exact rfl) ?_; simp -implicitDefEqProofs (disch := omega) only [go_sem, ↓reduceIte , hlen, dd]
    try rfl
end Go.Proofs.Ytgnlikamelfmjaa
