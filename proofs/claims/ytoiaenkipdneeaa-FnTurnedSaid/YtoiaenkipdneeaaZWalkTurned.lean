/- Laws that the proof stands on. -/
import Derived.Test.YtoiaenkipdneeaaZVTurnL
import Derived.Test.YtoiaenkipdneeaaZg15
import Derived.Test.YtoiaenkipdneeaaZg10
set_option linter.all false
namespace Go.Proofs.Ytoiaenkipdneeaa
open Go.RowKit Go.V
attribute [local go_sem] List.getElem?_cons_succ List.getElem?_cons_zero List.set_cons_succ List.set_cons_zero List.map_cons List.map_nil List.length_cons List.length_nil List.all_cons List.all_nil List.drop_succ_cons List.drop_zero List.take_succ_cons List.take_zero List.flatMap_cons List.flatMap_nil List.cons_append List.nil_append List.append_nil List.headD_cons Value.oneCell' Bool.and_true Bool.true_and Bool.or_false Bool.false_or Bool.and_self Bool.not_true Bool.not_false and_true true_and beq_self_eq_true Bool.false_eq_true if_true if_false Nat.zero_add Nat.reduceAdd Nat.reduceMul Nat.reduceLeDiff Nat.le_refl Option.isSome_some Option.isSome_none not_true_eq_false not_false_eq_true ne_eq reduceCtorEq List.reverse_nil bne_self_eq_false Nat.reduceEqDiff List.isPrefixOf Bool.not_eq_true Bool.and_false Bool.false_and Bool.true_or Bool.or_true decide_true decide_false Nat.reduceBEq Nat.reduceBNe List.replicate_succ List.replicate_zero exists_eq_left' exists_eq_left Option.some.injEq or_false or_true true_or false_or Option.map_some Option.map_none mB Nat.reduceMod Nat.reduceDiv
set_option maxRecDepth 100000
def code_laws_f6big : VCode := (.seq (.ops [
  ⟨(some 2), none, (.asg (.const (.bool false)))⟩]) (.seq (.ops [
  ⟨(some 3), none, (.mv (.tmp 0))⟩,
  ⟨(some 4), none, (.len (.tmp 3))⟩,
  ⟨(some 5), none, (.bin .gtr (.tmp 4) (.const (.int .i64 4096)))⟩,
  ⟨(some 2), none, (.asg (.tmp 5))⟩]) .ret))
theorem law_laws_f6big {a0 d : D} (h : code_laws_f6big.wp (CT Try.prog NoG) (endQ [(.t 2)] d) [a0, .undef, .undef, .undef, .undef, .undef]) : Contract Try.prog NoG 6 [a0] d :=
  contract_of (pt := 0) noG Try.func6 (fun us W => by kernel_rfl) (c := Try.f6.body.getD .skip) (ms := []) (ms' := []) (by kernel_rfl) (by kernel_rfl) (by kernel_rfl) h
def code_spec_SameSet : VCode := (.seq (.ops [
  ⟨(some 2), none, (.box (.tmp 0))⟩,
  ⟨(some 3), none, (.box (.tmp 1))⟩,
  ⟨(some 4), none, (.asg (.const (.bool false)))⟩]) (.seq (.ops [
  ⟨(some 5), none, (.callX 37 [(.tmp 2), (.tmp 3)])⟩,
  ⟨(some 4), none, (.asg (.tmp 5))⟩]) .ret))
theorem law_spec_SameSet {a0 a1 d : D} (h : code_spec_SameSet.wp (CT Try.prog NoG) (endQ [(.t 4)] d) [a0, a1, .undef, .undef, .undef, .undef]) : Contract Try.prog NoG 12 [a0, a1] d :=
  contract_of (pt := 0) noG Try.func12 (fun us W => by kernel_rfl) (c := Try.f12.body.getD .skip) (ms := []) (ms' := []) (by kernel_rfl) (by kernel_rfl) (by kernel_rfl) h
def code_impl_Opposite : VCode := (.seq (.ops [
  ⟨(some 2), none, (.asg (.const (.int .i64 0)))⟩]) (.seq (.seq (.ops [
  ⟨(some 3), none, (.mv (.tmp 0))⟩,
  ⟨(some 4), none, (.callX 43 [(.tmp 3)])⟩,
  ⟨(some 5), none, (.un .not (.tmp 4))⟩]) (.cond (.tmp 5) (.seq (.ops [
  ⟨(some 2), none, (.asg (.const (.int .i64 (-1))))⟩]) .ret) .skip)) (.seq (.ops [
  ⟨(some 6), none, (.mv (.tmp 0))⟩,
  ⟨(some 7), none, (.callX 45 [(.tmp 6)])⟩,
  ⟨(some 2), none, (.asg (.tmp 7))⟩]) .ret)))
theorem law_impl_Opposite {a0 d : D} (h : code_impl_Opposite.wp (CT Try.prog NoG) (endQ [(.t 2)] d) [a0, .undef, .undef, .undef, .undef, .undef, .undef, .undef]) : Contract Try.prog NoG 16 [a0] d :=
  contract_of (pt := 0) noG Try.func16 (fun us W => by kernel_rfl) (c := Try.f16.body.getD .skip) (ms := []) (ms' := []) (by kernel_rfl) (by kernel_rfl) (by kernel_rfl) h
def code_laws_FnTurned : VCode := (.seq (.ops [
  ⟨(some 4), none, (.asg (.const (.bool false)))⟩]) (.seq (.seq (.ops [
  ⟨(some 33), none, (.mv (.tmp 0))⟩,
  ⟨(some 34), none, (.callX 6 [(.tmp 33)])⟩,
  ⟨(some 35), none, (.mv (.tmp 34))⟩,
  ⟨(some 36), (some (35, false)), (.mv (.tmp 1))⟩,
  ⟨(some 37), (some (35, false)), (.callX 6 [(.tmp 36)])⟩,
  ⟨(some 38), none, (.pick (.tmp 35) (.const (.bool true)) (.tmp 37))⟩]) (.cond (.tmp 38) (.seq (.ops [
  ⟨(some 4), none, (.asg (.const (.bool true)))⟩]) .ret) .skip)) (.seq (.ops [
  ⟨(some 39), none, (.mv (.tmp 0))⟩,
  ⟨(some 40), none, (.callX 7 [(.tmp 39)])⟩,
  ⟨(some 5), none, (.alloc [(.slice none 0 0), (.slice none 0 0)])⟩,
  ⟨none, none, (.store 2 (.tmp 5) (.tmp 40))⟩]) (.seq (.ops [
  ⟨(some 41), none, (.mv (.tmp 1))⟩,
  ⟨(some 42), none, (.callX 8 [(.tmp 41), (.const (.int .i64 4))])⟩,
  ⟨(some 6), none, (.asg (.tmp 42))⟩]) (.seq (.ops [
  ⟨(some 44), none, (.load 2 true (.tmp 5))⟩,
  ⟨(some 45), none, (.mv (.tmp 6))⟩,
  ⟨(some 46), none, (.callX 9 [(.tmp 44), (.tmp 45)])⟩,
  ⟨(some 43), none, (.mv (.tmp 46))⟩,
  ⟨(some 47), none, (.ext (.tmp 43) 0)⟩,
  ⟨(some 48), none, (.ext (.tmp 43) 1)⟩,
  ⟨(some 7), none, (.alloc [(.slice none 0 0), (.slice none 0 0)])⟩,
  ⟨none, none, (.store 2 (.tmp 7) (.tmp 47))⟩,
  ⟨(some 8), none, (.asg (.tmp 48))⟩]) (.seq (.ops [
  ⟨(some 50), none, (.load 2 true (.tmp 5))⟩,
  ⟨(some 51), none, (.mv (.tmp 6))⟩,
  ⟨(some 52), none, (.callX 10 [(.tmp 50), (.tmp 51)])⟩,
  ⟨(some 49), none, (.mv (.tmp 52))⟩,
  ⟨(some 53), none, (.ext (.tmp 49) 0)⟩,
  ⟨(some 54), none, (.ext (.tmp 49) 1)⟩,
  ⟨(some 9), none, (.alloc [(.slice none 0 0), (.slice none 0 0)])⟩,
  ⟨none, none, (.store 2 (.tmp 9) (.tmp 53))⟩,
  ⟨(some 10), none, (.asg (.tmp 54))⟩]) (.seq (.ops [
  ⟨(some 56), none, (.load 2 true (.tmp 5))⟩,
  ⟨(some 57), none, (.callX 11 [(.tmp 56)])⟩,
  ⟨(some 55), none, (.mv (.tmp 57))⟩,
  ⟨(some 58), none, (.ext (.tmp 55) 0)⟩,
  ⟨(some 59), none, (.ext (.tmp 55) 1)⟩,
  ⟨(some 11), none, (.alloc [(.slice none 0 0), (.slice none 0 0)])⟩,
  ⟨none, none, (.store 2 (.tmp 11) (.tmp 58))⟩,
  ⟨(some 12), none, (.asg (.tmp 59))⟩]) (.seq (.seq (.ops [
  ⟨(some 60), none, (.mv (.tmp 8))⟩,
  ⟨(some 61), none, (.mv (.tmp 10))⟩,
  ⟨(some 62), none, (.bin .neq (.tmp 60) (.tmp 61))⟩,
  ⟨(some 63), none, (.mv (.tmp 62))⟩,
  ⟨(some 64), (some (63, false)), (.load 2 true (.tmp 7))⟩,
  ⟨(some 65), (some (63, false)), (.load 2 true (.tmp 9))⟩,
  ⟨(some 66), (some (63, false)), (.callX 12 [(.tmp 64), (.tmp 65)])⟩,
  ⟨(some 67), (some (63, false)), (.un .not (.tmp 66))⟩,
  ⟨(some 68), none, (.pick (.tmp 63) (.const (.bool true)) (.tmp 67))⟩,
  ⟨(some 69), none, (.mv (.tmp 68))⟩,
  ⟨(some 70), (some (69, false)), (.mv (.tmp 8))⟩,
  ⟨(some 71), (some (69, false)), (.bin .neq (.tmp 70) (.const (.int .i64 0)))⟩,
  ⟨(some 72), none, (.pick (.tmp 69) (.const (.bool true)) (.tmp 71))⟩,
  ⟨(some 73), none, (.mv (.tmp 72))⟩,
  ⟨(some 74), (some (73, false)), (.mv (.tmp 12))⟩,
  ⟨(some 75), (some (73, false)), (.bin .neq (.tmp 74) (.const (.int .i64 0)))⟩,
  ⟨(some 76), none, (.pick (.tmp 73) (.const (.bool true)) (.tmp 75))⟩]) (.cond (.tmp 76) (.seq (.ops [
  ⟨(some 4), none, (.asg (.const (.bool false)))⟩]) .ret) .skip)) (.seq (.ops [
  ⟨(some 78), none, (.load 2 true (.tmp 9))⟩,
  ⟨(some 79), none, (.mv (.tmp 6))⟩,
  ⟨(some 80), none, (.bin .sub (.const (.int .i64 4)) (.tmp 79))⟩,
  ⟨(some 81), none, (.bin .rem (.tmp 80) (.const (.int .i64 4)))⟩,
  ⟨(some 82), none, (.callX 9 [(.tmp 78), (.tmp 81)])⟩,
  ⟨(some 77), none, (.mv (.tmp 82))⟩,
  ⟨(some 83), none, (.ext (.tmp 77) 0)⟩,
  ⟨(some 84), none, (.ext (.tmp 77) 1)⟩,
  ⟨(some 13), none, (.alloc [(.slice none 0 0), (.slice none 0 0)])⟩,
  ⟨none, none, (.store 2 (.tmp 13) (.tmp 83))⟩,
  ⟨(some 14), none, (.asg (.tmp 84))⟩]) (.seq (.ops [
  ⟨(some 86), none, (.load 2 true (.tmp 11))⟩,
  ⟨(some 87), none, (.callX 11 [(.tmp 86)])⟩,
  ⟨(some 85), none, (.mv (.tmp 87))⟩,
  ⟨(some 88), none, (.ext (.tmp 85) 0)⟩,
  ⟨(some 89), none, (.ext (.tmp 85) 1)⟩,
  ⟨(some 15), none, (.alloc [(.slice none 0 0), (.slice none 0 0)])⟩,
  ⟨none, none, (.store 2 (.tmp 15) (.tmp 88))⟩,
  ⟨(some 16), none, (.asg (.tmp 89))⟩]) (.seq (.ops [
  ⟨(some 91), none, (.load 2 true (.tmp 5))⟩,
  ⟨(some 92), none, (.callX 13 [(.tmp 91)])⟩,
  ⟨(some 90), none, (.mv (.tmp 92))⟩,
  ⟨(some 93), none, (.ext (.tmp 90) 0)⟩,
  ⟨(some 94), none, (.ext (.tmp 90) 1)⟩,
  ⟨(some 17), none, (.alloc [(.slice none 0 0), (.slice none 0 0)])⟩,
  ⟨none, none, (.store 2 (.tmp 17) (.tmp 93))⟩,
  ⟨(some 18), none, (.asg (.tmp 94))⟩]) (.seq (.seq (.ops [
  ⟨(some 95), none, (.mv (.tmp 14))⟩,
  ⟨(some 96), none, (.bin .neq (.tmp 95) (.const (.int .i64 0)))⟩,
  ⟨(some 97), none, (.mv (.tmp 96))⟩,
  ⟨(some 98), (some (97, false)), (.load 2 true (.tmp 13))⟩,
  ⟨(some 99), (some (97, false)), (.load 2 true (.tmp 5))⟩,
  ⟨(some 100), (some (97, false)), (.callX 12 [(.tmp 98), (.tmp 99)])⟩,
  ⟨(some 101), (some (97, false)), (.un .not (.tmp 100))⟩,
  ⟨(some 102), none, (.pick (.tmp 97) (.const (.bool true)) (.tmp 101))⟩,
  ⟨(some 103), none, (.mv (.tmp 102))⟩,
  ⟨(some 104), (some (103, false)), (.mv (.tmp 16))⟩,
  ⟨(some 105), (some (103, false)), (.bin .neq (.tmp 104) (.const (.int .i64 0)))⟩,
  ⟨(some 106), none, (.pick (.tmp 103) (.const (.bool true)) (.tmp 105))⟩,
  ⟨(some 107), none, (.mv (.tmp 106))⟩,
  ⟨(some 108), (some (107, false)), (.load 2 true (.tmp 15))⟩,
  ⟨(some 109), (some (107, false)), (.load 2 true (.tmp 5))⟩,
  ⟨(some 110), (some (107, false)), (.callX 12 [(.tmp 108), (.tmp 109)])⟩,
  ⟨(some 111), (some (107, false)), (.un .not (.tmp 110))⟩,
  ⟨(some 112), none, (.pick (.tmp 107) (.const (.bool true)) (.tmp 111))⟩,
  ⟨(some 113), none, (.mv (.tmp 112))⟩,
  ⟨(some 114), (some (113, false)), (.mv (.tmp 18))⟩,
  ⟨(some 115), (some (113, false)), (.bin .neq (.tmp 114) (.const (.int .i64 0)))⟩,
  ⟨(some 116), none, (.pick (.tmp 113) (.const (.bool true)) (.tmp 115))⟩]) (.cond (.tmp 116) (.seq (.ops [
  ⟨(some 4), none, (.asg (.const (.bool false)))⟩]) .ret) .skip)) (.seq (.ops [
  ⟨(some 117), none, (.fa 1 (.tmp 5))⟩,
  ⟨(some 118), none, (.load 1 false (.tmp 117))⟩,
  ⟨(some 119), none, (.len (.tmp 118))⟩,
  ⟨(some 19), none, (.asg (.tmp 119))⟩]) (.seq (.seq (.ops [
  ⟨(some 20), none, (.asg (.const (.int .i64 0)))⟩]) (.block 0 (.loop (mB 222 6739986666787659948666753771754907668409286105635143120275900855711) (.seq (.seq (.ops [
  ⟨(some 120), none, (.mv (.tmp 20))⟩,
  ⟨(some 121), none, (.mv (.tmp 19))⟩,
  ⟨(some 122), none, (.bin .lss (.tmp 120) (.tmp 121))⟩]) (.cond (.tmp 122) .skip (.exit 0))) (.seq (.block 1 (.seq (.ops [
  ⟨(some 21), none, (.asg (.const (.int .i64 0)))⟩]) (.block 2 (.loop (mB 222 6739986666787659948666753771754907668409286105635143120275898758559) (.seq (.seq (.ops [
  ⟨(some 125), none, (.mv (.tmp 21))⟩,
  ⟨(some 126), none, (.mv (.tmp 19))⟩,
  ⟨(some 127), none, (.bin .lss (.tmp 125) (.tmp 126))⟩]) (.cond (.tmp 127) .skip (.exit 2))) (.seq (.block 3 (.seq (.ops [
  ⟨(some 22), none, (.asg (.const (.int .i64 0)))⟩]) (.block 4 (.loop (mB 222 6739986666787659948666753771754907668409286105635143120275894564255) (.seq (.seq (.ops [
  ⟨(some 130), none, (.mv (.tmp 22))⟩,
  ⟨(some 131), none, (.bin .lss (.tmp 130) (.const (.int .i64 4)))⟩]) (.cond (.tmp 131) .skip (.exit 4))) (.seq (.block 5 (.seq (.ops [
  ⟨(some 135), none, (.load 2 true (.tmp 5))⟩,
  ⟨(some 136), none, (.mv (.tmp 20))⟩,
  ⟨(some 137), none, (.mv (.tmp 22))⟩,
  ⟨(some 138), none, (.mv (.tmp 21))⟩,
  ⟨(some 139), none, (.callX 14 [(.tmp 135), (.tmp 136), (.tmp 137), (.tmp 138)])⟩,
  ⟨(some 134), none, (.mv (.tmp 139))⟩,
  ⟨(some 140), none, (.ext (.tmp 134) 0)⟩,
  ⟨(some 141), none, (.ext (.tmp 134) 1)⟩,
  ⟨(some 23), none, (.asg (.tmp 140))⟩,
  ⟨(some 24), none, (.asg (.tmp 141))⟩]) (.seq (.ops [
  ⟨(some 143), none, (.load 2 true (.tmp 9))⟩,
  ⟨(some 144), none, (.mv (.tmp 20))⟩,
  ⟨(some 145), none, (.mv (.tmp 22))⟩,
  ⟨(some 146), none, (.mv (.tmp 6))⟩,
  ⟨(some 147), none, (.bin .add (.tmp 145) (.tmp 146))⟩,
  ⟨(some 148), none, (.bin .rem (.tmp 147) (.const (.int .i64 4)))⟩,
  ⟨(some 149), none, (.mv (.tmp 21))⟩,
  ⟨(some 150), none, (.callX 15 [(.tmp 143), (.tmp 144), (.tmp 148), (.tmp 149)])⟩,
  ⟨(some 142), none, (.mv (.tmp 150))⟩,
  ⟨(some 151), none, (.ext (.tmp 142) 0)⟩,
  ⟨(some 152), none, (.ext (.tmp 142) 1)⟩,
  ⟨(some 25), none, (.asg (.tmp 151))⟩,
  ⟨(some 26), none, (.asg (.tmp 152))⟩]) (.seq (.draw (mB 164 23372608215752799012210491035704932353403992932352) (mB 163 5846006549323611672814739330865132078623730171904) [⟨0, (mB 164 23372608215752799012210491035704932353403992932352), [], ⟨(some 154), none, (.load 2 true (.tmp 11))⟩⟩, ⟨1, (mB 164 23372608215752799012210491035704932353403992932352), [], ⟨(some 155), none, (.mv (.tmp 20))⟩⟩, ⟨2, (mB 164 23372608215752799012210491035704932353403992932352), [], ⟨(some 156), none, (.bslN 1 [(.const (.int .i64 0)), (.const (.int .i64 3)), (.const (.int .i64 2)), (.const (.int .i64 1))])⟩⟩, ⟨3, (mB 164 23372608215752799012210491035704932353403992932352), [], ⟨(some 157), none, (.mv (.tmp 22))⟩⟩, ⟨4, (mB 164 23098576658753254715047300129570629287218505580544), [], ⟨(some 158), none, (.ia 1 (.tmp 156) (.tmp 157))⟩⟩, ⟨5, (mB 164 22733201249420528985496378921391558532304522444800), [], ⟨(some 159), none, (.load 1 false (.tmp 158))⟩⟩, ⟨6, (mB 164 23372608215752799012210491035704932353403992932352), [], ⟨(some 160), none, (.mv (.tmp 21))⟩⟩, ⟨7, (mB 164 20472440904174288533900053945783558236274251792384), [], ⟨(some 161), none, (.call 15 [(.tmp 154), (.tmp 155), (.tmp 159), (.tmp 160)])⟩⟩, ⟨8, (mB 164 17549437629512482697492684280350992196962386706432), [], ⟨(some 153), none, (.mv (.tmp 161))⟩⟩, ⟨9, (mB 164 17538019647970835018444217992595396235871324733440), [], ⟨(some 162), none, (.extN (.tmp 153) 0)⟩⟩, ⟨10, (mB 164 17538019647970835018444217992595396235871324733440), [], ⟨(some 163), none, (.extN (.tmp 153) 1)⟩⟩, ⟨11, (mB 164 11692013098647223345629478661730264157247594561536), (mB 163 5846006549323611672814739330865132078623730171904), ⟨(some 27), none, (.asg (.tmp 162))⟩⟩] [⟨(some 28), none, (.asg (.tmp 163))⟩]) (.seq (.draw (mB 175 47867101625861732377007085641123701459771103184420864) (mB 174 11972621413014756705924586149611790497021399392059392) [⟨0, (mB 175 47867101625861732377007085641123701459771103184420864), [], ⟨(some 165), none, (.load 2 true (.tmp 17))⟩⟩, ⟨1, (mB 175 47867101625861732377007085641123701459771103184420864), [], ⟨(some 166), none, (.mv (.tmp 20))⟩⟩, ⟨2, (mB 175 47867101625861732377007085641123701459771103184420864), [], ⟨(some 167), none, (.bslN 1 [(.const (.int .i64 1)), (.const (.int .i64 0)), (.const (.int .i64 3)), (.const (.int .i64 2))])⟩⟩, ⟨3, (mB 175 47867101625861732377007085641123701459771103184420864), [], ⟨(some 168), none, (.mv (.tmp 22))⟩⟩, ⟨4, (mB 175 47305884997126665656416870665360648780223225087918080), [], ⟨(some 169), none, (.ia 1 (.tmp 167) (.tmp 168))⟩⟩, ⟨5, (mB 175 46557596158813243362296584031009911874159387625914368), [], ⟨(some 170), none, (.load 1 false (.tmp 169))⟩⟩, ⟨6, (mB 175 47867101625861732377007085641123701459771103184420864), [], ⟨(some 171), none, (.mv (.tmp 21))⟩⟩, ⟨7, (mB 175 41927558971748942917427310480964727267889393329766400), [], ⟨(some 172), none, (.call 15 [(.tmp 165), (.tmp 166), (.tmp 170), (.tmp 171)])⟩⟩, ⟨8, (mB 175 35941248265241564564465017406158832019378693633736704), [], ⟨(some 164), none, (.mv (.tmp 172))⟩⟩, ⟨9, (mB 175 35917864239044270117773758448835371491064198713049088), [], ⟨(some 173), none, (.extN (.tmp 164) 0)⟩⟩, ⟨10, (mB 175 35917864239044270117773758448835371491064198713049088), [], ⟨(some 174), none, (.extN (.tmp 164) 1)⟩⟩, ⟨11, (mB 175 23945242826029513411849172299223580994042799320989696), (mB 174 11972621413014756705924586149611790497021399392059392), ⟨(some 29), none, (.asg (.tmp 173))⟩⟩] [⟨(some 30), none, (.asg (.tmp 174))⟩]) (.seq (.draw (mB 184 24472038168202162706909854089806499775911740359516880896) (mB 183 6129982163463555433433388108601236734474956488734408704) [⟨0, (mB 184 24472038168202162706909854089806499775911740359516880896), [], ⟨(some 176), none, (.load 2 true (.tmp 5))⟩⟩, ⟨1, (mB 184 24472038168202162706909854089806499775911740359516880896), [], ⟨(some 177), none, (.mv (.tmp 21))⟩⟩, ⟨2, (mB 184 24472038168202162706909854089806499775911740359516880896), [], ⟨(some 178), none, (.mv (.tmp 22))⟩⟩, ⟨3, (mB 184 24088914282985690492320267333018922480007055578970980352), [], ⟨(some 179), none, (.call 16 [(.tmp 178)])⟩⟩, ⟨4, (mB 184 24472038168202162706909854089806499775911740359516880896), [], ⟨(some 180), none, (.mv (.tmp 20))⟩⟩, ⟨5, (mB 184 21502828057774503043840556724702775732650433310286151680), [], ⟨(some 181), none, (.call 15 [(.tmp 176), (.tmp 177), (.tmp 179), (.tmp 180)])⟩⟩, ⟨6, (mB 184 18437836976042725327123862670402157365412955065918947328), [], ⟨(some 175), none, (.mv (.tmp 181))⟩⟩, ⟨7, (mB 184 18389946490390666300300164325803710203424869468350709760), [], ⟨(some 182), none, (.extN (.tmp 175) 0)⟩⟩, ⟨8, (mB 184 18389946490390666300300164325803710203424869468350709760), [], ⟨(some 183), none, (.extN (.tmp 175) 1)⟩⟩, ⟨9, (mB 184 12259964326927110866866776217202473468949912979616301056), (mB 183 6129982163463555433433388108601236734474956488734408704), ⟨(some 31), none, (.asg (.tmp 182))⟩⟩] [⟨(some 32), none, (.asg (.tmp 183))⟩]) (.seq (.ops [
  ⟨(some 184), none, (.mv (.tmp 24))⟩,
  ⟨(some 185), none, (.bin .neq (.tmp 184) (.const (.int .i64 0)))⟩,
  ⟨(some 186), none, (.mv (.tmp 185))⟩,
  ⟨(some 187), (some (186, false)), (.mv (.tmp 26))⟩,
  ⟨(some 188), (some (186, false)), (.bin .neq (.tmp 187) (.const (.int .i64 0)))⟩,
  ⟨(some 189), none, (.pick (.tmp 186) (.const (.bool true)) (.tmp 188))⟩,
  ⟨(some 190), none, (.mv (.tmp 189))⟩,
  ⟨(some 191), (some (190, false)), (.mv (.tmp 28))⟩,
  ⟨(some 192), (some (190, false)), (.bin .neq (.tmp 191) (.const (.int .i64 0)))⟩,
  ⟨(some 193), none, (.pick (.tmp 190) (.const (.bool true)) (.tmp 192))⟩,
  ⟨(some 194), none, (.mv (.tmp 193))⟩,
  ⟨(some 195), (some (194, false)), (.mv (.tmp 30))⟩,
  ⟨(some 196), (some (194, false)), (.bin .neq (.tmp 195) (.const (.int .i64 0)))⟩,
  ⟨(some 197), none, (.pick (.tmp 194) (.const (.bool true)) (.tmp 196))⟩,
  ⟨(some 198), none, (.mv (.tmp 197))⟩,
  ⟨(some 199), (some (198, false)), (.mv (.tmp 32))⟩,
  ⟨(some 200), (some (198, false)), (.bin .neq (.tmp 199) (.const (.int .i64 0)))⟩,
  ⟨(some 201), none, (.pick (.tmp 198) (.const (.bool true)) (.tmp 200))⟩,
  ⟨(some 202), none, (.mv (.tmp 201))⟩,
  ⟨(some 203), (some (202, false)), (.mv (.tmp 23))⟩,
  ⟨(some 204), (some (202, false)), (.mv (.tmp 25))⟩,
  ⟨(some 205), (some (202, false)), (.bin .neq (.tmp 203) (.tmp 204))⟩,
  ⟨(some 206), none, (.pick (.tmp 202) (.const (.bool true)) (.tmp 205))⟩,
  ⟨(some 207), none, (.mv (.tmp 206))⟩,
  ⟨(some 208), (some (207, false)), (.mv (.tmp 23))⟩,
  ⟨(some 209), (some (207, false)), (.mv (.tmp 27))⟩,
  ⟨(some 210), (some (207, false)), (.bin .neq (.tmp 208) (.tmp 209))⟩,
  ⟨(some 211), none, (.pick (.tmp 207) (.const (.bool true)) (.tmp 210))⟩,
  ⟨(some 212), none, (.mv (.tmp 211))⟩,
  ⟨(some 213), (some (212, false)), (.mv (.tmp 23))⟩,
  ⟨(some 214), (some (212, false)), (.mv (.tmp 29))⟩,
  ⟨(some 215), (some (212, false)), (.bin .neq (.tmp 213) (.tmp 214))⟩,
  ⟨(some 216), none, (.pick (.tmp 212) (.const (.bool true)) (.tmp 215))⟩,
  ⟨(some 217), none, (.mv (.tmp 216))⟩,
  ⟨(some 218), (some (217, false)), (.mv (.tmp 23))⟩,
  ⟨(some 219), (some (217, false)), (.mv (.tmp 31))⟩,
  ⟨(some 220), (some (217, false)), (.bin .neq (.tmp 218) (.tmp 219))⟩,
  ⟨(some 221), none, (.pick (.tmp 217) (.const (.bool true)) (.tmp 220))⟩]) (.cond (.tmp 221) (.seq (.ops [
  ⟨(some 4), none, (.asg (.const (.bool false)))⟩]) .ret) .skip)))))))) (.ops [
  ⟨(some 132), none, (.mv (.tmp 22))⟩,
  ⟨(some 133), none, (.bin .add (.tmp 132) (.const (.int .i64 1)))⟩,
  ⟨(some 22), none, (.asg (.tmp 133))⟩]))))))) (.ops [
  ⟨(some 128), none, (.mv (.tmp 21))⟩,
  ⟨(some 129), none, (.bin .add (.tmp 128) (.const (.int .i64 1)))⟩,
  ⟨(some 21), none, (.asg (.tmp 129))⟩]))))))) (.ops [
  ⟨(some 123), none, (.mv (.tmp 20))⟩,
  ⟨(some 124), none, (.bin .add (.tmp 123) (.const (.int .i64 1)))⟩,
  ⟨(some 20), none, (.asg (.tmp 124))⟩])))))) (.seq (.ops [
  ⟨(some 4), none, (.asg (.const (.bool true)))⟩]) .ret)))))))))))))))
theorem law_laws_FnTurned {a0 a1 d : D} (h : code_laws_FnTurned.wp (CT Try.prog NoG) (endQ [(.t 4)] d) [a0, a1, .undef, .undef, .undef, .undef, .undef, .undef, .undef, .undef, .undef, .undef, .undef, .undef, .undef, .undef, .undef, .undef, .undef, .undef, .undef, .undef, .undef, .undef, .undef, .undef, .undef, .undef, .undef, .undef, .undef, .undef, .undef, .undef, .undef, .undef, .undef, .undef, .undef, .undef, .undef, .undef, .undef, .undef, .undef, .undef, .undef, .undef, .undef, .undef, .undef, .undef, .undef, .undef, .undef, .undef, .undef, .undef, .undef, .undef, .undef, .undef, .undef, .undef, .undef, .undef, .undef, .undef, .undef, .undef, .undef, .undef, .undef, .undef, .undef, .undef, .undef, .undef, .undef, .undef, .undef, .undef, .undef, .undef, .undef, .undef, .undef, .undef, .undef, .undef, .undef, .undef, .undef, .undef, .undef, .undef, .undef, .undef, .undef, .undef, .undef, .undef, .undef, .undef, .undef, .undef, .undef, .undef, .undef, .undef, .undef, .undef, .undef, .undef, .undef, .undef, .undef, .undef, .undef, .undef, .undef, .undef, .undef, .undef, .undef, .undef, .undef, .undef, .undef, .undef, .undef, .undef, .undef, .undef, .undef, .undef, .undef, .undef, .undef, .undef, .undef, .undef, .undef, .undef, .undef, .undef, .undef, .undef, .undef, .undef, .undef, .undef, .undef, .undef, .undef, .undef, .undef, .undef, .undef, .undef, .undef, .undef, .undef, .undef, .undef, .undef, .undef, .undef, .undef, .undef, .undef, .undef, .undef, .undef, .undef, .undef, .undef, .undef, .undef, .undef, .undef, .undef, .undef, .undef, .undef, .undef, .undef, .undef, .undef, .undef, .undef, .undef, .undef, .undef, .undef, .undef, .undef, .undef, .undef, .undef, .undef, .undef, .undef, .undef, .undef, .undef, .undef, .undef, .undef, .undef, .undef, .undef, .undef, .undef, .undef, .undef, .undef, .undef, .undef, .undef, .undef, .undef]) : Contract Try.prog NoG 3 [a0, a1] d :=
  contract_of (pt := 0) noG Try.func3 (fun us W => by kernel_rfl) (c := Try.f3.body.getD .skip) (ms := [(mB 222 6739986666787659948666753771754907668409286105635143120275900855711), (mB 222 6739986666787659948666753771754907668409286105635143120275898758559), (mB 222 6739986666787659948666753771754907668409286105635143120275894564255)]) (ms' := []) (by kernel_rfl) (by kernel_rfl) (by kernel_rfl) h
theorem v_f6big (a : List Int) : Contract Try.prog NoG 6 [.sl false 1 (a.map rB8)] (.v (.bool (decide (4096 < (a.length : Int))))) := by refine law_laws_f6big ?_; unfold code_laws_f6big; simp -implicitDefEqProofs (disch := omega) only [go_sem, ↓reduceIte , List.length_map]
theorem v_SameSet (a b : TileSet) (ha : setLen a) : Contract Try.prog NoG 12 [.agg [.sl false 2 (a.Glues.map (Glue.td.d false)), .sl false 2 (a.Tiles.map (Tile.td.d false))], .agg [.sl false 2 (b.Glues.map (Glue.td.d false)), .sl false 2 (b.Tiles.map (Tile.td.d false))]] (.v (.bool (decide (a = b)))) := by refine law_spec_SameSet ?_; unfold code_spec_SameSet; simp -implicitDefEqProofs (disch := omega) only [go_sem, ↓reduceIte]; refine call_B (v_l02Same a b ha) (by simp -implicitDefEqProofs (disch := omega) only [go_sem, ↓reduceIte, deep, TD.rows, immLL_rI, immLL_rB8, immLL_rS, immLL_rBo, immLL_rII, immLL_rIIt]; exact rfl) ?_; simp -implicitDefEqProofs (disch := omega) only [go_sem, ↓reduceIte]
theorem v_OppositeI (d : Nat) (hd : d < 4) : Contract Try.prog NoG 16 [.v (.int .i64 (d : Int))] (.v (.int .i64 (((d + 2) % 4 : Nat) : Int))) := by have h3 : inR 0 3 (d : Int) = true := inR_iff.2 (by omega); refine law_impl_Opposite ?_; unfold code_impl_Opposite; simp -implicitDefEqProofs (disch := omega) only [go_sem, ↓reduceIte]; refine call_B (v_isDirB (d : Int)) (by simp -implicitDefEqProofs (disch := omega) only [go_sem, ↓reduceIte, deep, TD.rows, immLL_rI, immLL_rB8, immLL_rS, immLL_rBo, immLL_rII, immLL_rIIt, h3]; exact rfl) ?_; simp -implicitDefEqProofs (disch := omega) only [go_sem, ↓reduceIte , h3]; refine call_B (v_opposite d hd) (by simp -implicitDefEqProofs (disch := omega) only [go_sem, ↓reduceIte, deep, TD.rows, immLL_rI, immLL_rB8, immLL_rS, immLL_rBo, immLL_rII, immLL_rIIt]; exact rfl) ?_; simp -implicitDefEqProofs (disch := omega) only [go_sem, ↓reduceIte]
theorem setLen_B {a : TileSet} (h : setB a) : setLen a := ⟨h.g, h.t, h.ts⟩
set_option maxHeartbeats 8000000 in
theorem vlawTurned (q_code : List Int) (hc : ∀ x, x ∈ q_code → InK .u8 x) (q_more : List Int) (hc2 : ∀ x, x ∈ q_more → InK .u8 x) : Contract Try.prog NoG 3 [.sl false 1 (q_code.map rB8), .sl false 1 (q_more.map rB8)] (.v (.bool true)) := by
  refine law_laws_FnTurned ?_; unfold code_laws_FnTurned; simp -implicitDefEqProofs (disch := omega) only [go_sem, ↓reduceIte]; by_cases hl : (4096 : Int) < (q_code.length : Int)
  · have d0 := decide_eq_true hl; refine call_B (v_f6big q_code) (by simp -implicitDefEqProofs (disch := omega) only [go_sem, ↓reduceIte, deep, TD.rows, immLL_rI, immLL_rB8, immLL_rS, immLL_rBo, immLL_rII, immLL_rIIt, d0]; exact rfl) ?_; simp -implicitDefEqProofs (disch := omega) only [go_sem, ↓reduceIte , d0]
  · have d0 := decide_eq_false hl; by_cases hl2 : (4096 : Int) < (q_more.length : Int)
    · have d1 := decide_eq_true hl2; refine call_B (v_f6big q_code) (by simp -implicitDefEqProofs (disch := omega) only [go_sem, ↓reduceIte, deep, TD.rows, immLL_rI, immLL_rB8, immLL_rS, immLL_rBo, immLL_rII, immLL_rIIt, d0]; exact rfl) ?_; simp -implicitDefEqProofs (disch := omega) only [go_sem, ↓reduceIte , d0]; refine call_B (v_f6big q_more) (by simp -implicitDefEqProofs (disch := omega) only [go_sem, ↓reduceIte, deep, TD.rows, immLL_rI, immLL_rB8, immLL_rS, immLL_rBo, immLL_rII, immLL_rIIt, d1]; exact rfl) ?_; simp -implicitDefEqProofs (disch := omega) only [go_sem, ↓reduceIte , d1]
    · have d1 := decide_eq_false hl2; refine call_B (v_f6big q_code) (by simp -implicitDefEqProofs (disch := omega) only [go_sem, ↓reduceIte, deep, TD.rows, immLL_rI, immLL_rB8, immLL_rS, immLL_rBo, immLL_rII, immLL_rIIt, d0]; exact rfl) ?_; simp -implicitDefEqProofs (disch := omega) only [go_sem, ↓reduceIte , d0]; refine call_B (v_f6big q_more) (by simp -implicitDefEqProofs (disch := omega) only [go_sem, ↓reduceIte, deep, TD.rows, immLL_rI, immLL_rB8, immLL_rS, immLL_rBo, immLL_rII, immLL_rIIt, d1]; exact rfl) ?_; simp -implicitDefEqProofs (disch := omega) only [go_sem, ↓reduceIte , d1]; obtain ⟨a, hg, h, hD⟩ := v_LawSet q_code (fun x hx => by have := hc x hx; unfold InK at this; omega) (by omega); obtain ⟨q, hq, hL⟩ := v_LawPick q_more (fun x hx => by have := hc2 x hx; unfold InK at this; omega) (by omega); have hok := good_ok hg; have hcn := good_cnt hg; have hB := setB_of hcn; have hqk : InK .i64 (q : Int) := inI (by omega); have hR := vRotateSet_impl a hok hcn (q : Int) hqk; have hRs := vRotateSet_spec a hok hcn (q : Int) hqk; rw [(rotate_is h hq).1, (rotate_is h hq).2] at hR hRs; have m1 := rot_mov hq; have hm := mov_ok m1 h; have hbk : (4 - q) % 4 < 4 := Nat.mod_lt _ (by omega); have hR2 := vRotateSet_impl (movS (fun s => rotP q s 4) a) (mov_okd m1 h hok) (by rw [mov_cnt m1 h]; exact hcn) (((4 - q) % 4 : Nat) : Int) (inI (by omega)); rw [(rotate_is hm hbk).1, (rotate_is hm hbk).2, mov_mov h (fun s hs => rot_back hq s hs)] at hR2; have hM := vMirrorSet_impl a hok hcn; have t1 : MirrorSetC a = 0 := (by unfold MirrorSetC; rw [h]; rfl); rw [mirror_is h, t1] at hM; have hmi := mov_ok mir_mov h; have hM2 := vMirrorSet_impl (movS mirL a) (mov_okd mir_mov h hok) (by rw [mov_cnt mir_mov h]; exact hcn); have t2 : MirrorSetC (movS mirL a) = 0 := (by unfold MirrorSetC; rw [hmi]; rfl); rw [mirror_is hmi, t2, mov_mov h mir_mir] at hM2; have hT := vTransposeSet_impl a hok hcn; have t3 : TransposeSetC a = 0 := (by unfold TransposeSetC; rw [h]; rfl); rw [transp_is h, t3] at hT; have hti := mov_ok tur_mov h; have hBm := mov_B m1 h hB; have hBi := mov_B mir_mov h hB; have hBt := mov_B tur_mov h hB; have bY : ∀ {i j d : Nat}, i < a.Tiles.length → j < a.Tiles.length → d < 4 → bondN (movS (fun s => rotP q s 4) a) i ((d + q) % 4) j = bondN a i d j := fun hi hj hd => rot_bond h hq hd hi hj; have bZ : ∀ {i j d : Nat}, i < a.Tiles.length → j < a.Tiles.length → d < 4 → bondN (movS mirL a) i (mirD d) j = bondN a i d j := fun hi hj hd => mir_bond h hd hi hj; have bW : ∀ {i j d : Nat}, i < a.Tiles.length → j < a.Tiles.length → d < 4 → bondN (movS turnedL a) i (turD d) j = bondN a i d j := fun hi hj hd => tur_bond h hd hi hj; have l1 : (movS (fun s => rotP q s 4) a).Tiles.length = a.Tiles.length := List.length_map ..; have l2 : (movS mirL a).Tiles.length = a.Tiles.length := List.length_map ..; have l3 : (movS turnedL a).Tiles.length = a.Tiles.length := List.length_map ..; generalize movS (fun s => rotP q s 4) a = m at *; generalize movS mirL a = mi at *; generalize movS turnedL a = tu at *; have hlen := okSet_len h; have hE := v_SameSet m m (setLen_B hBm); have hE1 : decide (m = m) = true := (by simp); rw [hE1] at hE; have hE2 := v_SameSet a a (setLen_B hB); have hE3 : decide (a = a) = true := (by simp); rw [hE3] at hE2; have hw1 : IntKind.i64.wrap (4 - (q : Int)) = ((4 - q : Nat) : Int) := (by rw [wrI (by omega) (by omega)]; omega); have hw2 : ((4 - q : Nat) : Int).tmod 4 = (((4 - q) % 4 : Nat) : Int) := rfl; have c1 := fun (i d j : Nat) (hi : i < a.Tiles.length) (hd : d < 4) (hj : j < a.Tiles.length) => v_BondOf_spec a hB h i d j hi hd hj; have c2 := fun (i d j : Nat) (hi : i < m.Tiles.length) (hd : d < 4) (hj : j < m.Tiles.length) => v_BondOf_impl m hBm hm i d j hi hd hj; have c3 := fun (i d j : Nat) (hi : i < mi.Tiles.length) (hd : d < 4) (hj : j < mi.Tiles.length) => v_BondOf_impl mi hBi hmi i d j hi hd hj; have c4 := fun (i d j : Nat) (hi : i < tu.Tiles.length) (hd : d < 4) (hj : j < tu.Tiles.length) => v_BondOf_impl tu hBt hti i d j hi hd hj; have c5 := fun (i d j : Nat) (hi : i < a.Tiles.length) (hd : d < 4) (hj : j < a.Tiles.length) => v_BondOf_impl a hB h i d j hi hd hj; simp only [TileSet.td_d] at hD hR hRs hR2 hM hM2 hT c1 c2 c3 c4 c5; refine call_B (hD) (by simp -implicitDefEqProofs (disch := omega) only [go_sem, ↓reduceIte, deep, TD.rows, immLL_rI, immLL_rB8, immLL_rS, immLL_rBo, immLL_rII, immLL_rIIt]; exact rfl) ?_; simp -implicitDefEqProofs (disch := omega) only [go_sem, ↓reduceIte]; refine call_B (hL) (by simp -implicitDefEqProofs (disch := omega) only [go_sem, ↓reduceIte, deep, TD.rows, immLL_rI, immLL_rB8, immLL_rS, immLL_rBo, immLL_rII, immLL_rIIt]; exact rfl) ?_; simp -implicitDefEqProofs (disch := omega) only [go_sem, ↓reduceIte]; refine call_B (hR) (by simp -implicitDefEqProofs (disch := omega) only [go_sem, ↓reduceIte, deep, TD.rows, immLL_rI, immLL_rB8, immLL_rS, immLL_rBo, immLL_rII, immLL_rIIt]; exact rfl) ?_; simp -implicitDefEqProofs (disch := omega) only [go_sem, ↓reduceIte]; refine call_B (hRs) (by simp -implicitDefEqProofs (disch := omega) only [go_sem, ↓reduceIte, deep, TD.rows, immLL_rI, immLL_rB8, immLL_rS, immLL_rBo, immLL_rII, immLL_rIIt]; exact rfl) ?_; simp -implicitDefEqProofs (disch := omega) only [go_sem, ↓reduceIte]; refine call_B (hM) (by simp -implicitDefEqProofs (disch := omega) only [go_sem, ↓reduceIte, deep, TD.rows, immLL_rI, immLL_rB8, immLL_rS, immLL_rBo, immLL_rII, immLL_rIIt, Int.reduceEq, decide_true, decide_false]; exact rfl) ?_; simp -implicitDefEqProofs (disch := omega) only [go_sem, ↓reduceIte , Int.reduceEq, decide_true, decide_false]; refine call_B (hE) (by simp -implicitDefEqProofs (disch := omega) only [go_sem, ↓reduceIte, deep, TD.rows, immLL_rI, immLL_rB8, immLL_rS, immLL_rBo, immLL_rII, immLL_rIIt, Int.reduceEq, decide_true, decide_false, hw1, hw2]; exact rfl) ?_; simp -implicitDefEqProofs (disch := omega) only [go_sem, ↓reduceIte , Int.reduceEq, decide_true, decide_false, hw1, hw2]; refine call_B (hR2) (by simp -implicitDefEqProofs (disch := omega) only [go_sem, ↓reduceIte, deep, TD.rows, immLL_rI, immLL_rB8, immLL_rS, immLL_rBo, immLL_rII, immLL_rIIt]; exact rfl) ?_; simp -implicitDefEqProofs (disch := omega) only [go_sem, ↓reduceIte]; refine call_B (hM2) (by simp -implicitDefEqProofs (disch := omega) only [go_sem, ↓reduceIte, deep, TD.rows, immLL_rI, immLL_rB8, immLL_rS, immLL_rBo, immLL_rII, immLL_rIIt]; exact rfl) ?_; simp -implicitDefEqProofs (disch := omega) only [go_sem, ↓reduceIte]; refine call_B (hT) (by simp -implicitDefEqProofs (disch := omega) only [go_sem, ↓reduceIte, deep, TD.rows, immLL_rI, immLL_rB8, immLL_rS, immLL_rBo, immLL_rII, immLL_rIIt, Int.reduceEq, decide_true, decide_false]; exact rfl) ?_; simp -implicitDefEqProofs (disch := omega) only [go_sem, ↓reduceIte , Int.reduceEq, decide_true, decide_false]; refine call_B (hE2) (by simp -implicitDefEqProofs (disch := omega) only [go_sem, ↓reduceIte, deep, TD.rows, immLL_rI, immLL_rB8, immLL_rS, immLL_rBo, immLL_rII, immLL_rIIt, Int.reduceEq, decide_true, decide_false]; exact rfl) ?_; simp -implicitDefEqProofs (disch := omega) only [go_sem, ↓reduceIte , Int.reduceEq, decide_true, decide_false]; refine call_B (hE2) (by simp -implicitDefEqProofs (disch := omega) only [go_sem, ↓reduceIte, deep, TD.rows, immLL_rI, immLL_rB8, immLL_rS, immLL_rBo, immLL_rII, immLL_rIIt, Int.reduceEq, decide_true, decide_false, List.length_map]; exact rfl) ?_; simp -implicitDefEqProofs (disch := omega) only [go_sem, ↓reduceIte , Int.reduceEq, decide_true, decide_false, List.length_map]; refine loop_ov (by simp -implicitDefEqProofs (disch := omega) only [go_sem, ↓reduceIte]; exact rfl) (fun i : Nat => [(20, .v (.int .i64 (i : Nat)))]) (fun _ => by simp only [ovr_nil, ovr_cons, List.set_cons_zero, List.set_cons_succ]; exact rfl) (fun i : Nat => i ≤ a.Tiles.length) (fun i : Nat => a.Tiles.length - i) (0) (nleA) (?_) ?_
      · exact Nat.zero_le _
      intro i hi; simp -implicitDefEqProofs (disch := omega) only [go_sem, ↓reduceIte]; refine cond_split ?_ ?_ <;> intro hlt
      · have hlt : i < a.Tiles.length := (by simpa using hlt); simp -implicitDefEqProofs (disch := omega) only [go_sem, ↓reduceIte]; refine loop_ov (by simp -implicitDefEqProofs (disch := omega) only [go_sem, ↓reduceIte]; exact rfl) (fun j : Nat => [(21, .v (.int .i64 (j : Nat)))]) (fun _ => by simp only [ovr_nil, ovr_cons, List.set_cons_zero, List.set_cons_succ]; exact rfl) (fun j : Nat => j ≤ a.Tiles.length) (fun j : Nat => a.Tiles.length - j) (0) (nleA) (?_) ?_
        · exact Nat.zero_le _
        intro j hj; simp -implicitDefEqProofs (disch := omega) only [go_sem, ↓reduceIte]; refine cond_split ?_ ?_ <;> intro hltj
        · have hltj : j < a.Tiles.length := (by simpa using hltj); simp -implicitDefEqProofs (disch := omega) only [go_sem, ↓reduceIte]; refine loop_ov (by simp -implicitDefEqProofs (disch := omega) only [go_sem, ↓reduceIte]; exact rfl) (fun d : Nat => [(22, .v (.int .i64 (d : Nat)))]) (fun _ => by simp only [ovr_nil, ovr_cons, List.set_cons_zero, List.set_cons_succ]; exact rfl) (fun d : Nat => d ≤ 4) (fun d : Nat => 4 - d) (0) (nleA) (?_) ?_
          · exact Nat.zero_le _
          intro d hd; simp -implicitDefEqProofs (disch := omega) only [go_sem, ↓reduceIte]; refine cond_split ?_ ?_ <;> intro hltd
          · have hltd : d < 4 := (by have := of_decide_eq_true hltd; omega); have hdI : (d : Int) < 4 := (by omega); have hd2 : (d + 2) % 4 < 4 := Nat.mod_lt _ (by omega); have hdq : (d + q) % 4 < 4 := Nat.mod_lt _ (by omega); have hdm : mirD d < 4 ∧ turD d < 4 := by have : d = 0 ∨ d = 1 ∨ d = 2 ∨ d = 3 := (by omega); rcases this with rfl | rfl | rfl | rfl <;> decide
            have hX := c1 i d j hlt hltd hltj; have hY := c2 i ((d + q) % 4) j (by omega) hdq (by omega); rw [bY hlt hltj hltd] at hY; have hZ := c3 i (mirD d) j (by omega) hdm.1 (by omega); rw [bZ hlt hltj hltd] at hZ; have hW := c4 i (turD d) j (by omega) hdm.2 (by omega); rw [bW hlt hltj hltd] at hW; have hV := c5 j ((d + 2) % 4) i hltj hd2 hlt; rw [bond_sym hltd] at hV; obtain ⟨i1, i2⟩ := rot_idx hltd (show q ≤ 3 by omega); have hself : decide (bondN a i d j = bondN a i d j) = true := (by simp); have hO := v_OppositeI d hltd; have r1 : ([[.v (.int .i64 0)], [.v (.int .i64 3)], [.v (.int .i64 2)], [.v (.int .i64 1)]] : List (List D))[d]? = some [.v (.int .i64 (mirD d : Nat))] := by have : d = 0 ∨ d = 1 ∨ d = 2 ∨ d = 3 := (by omega); rcases this with rfl | rfl | rfl | rfl <;> rfl
            have r2 : ([[.v (.int .i64 1)], [.v (.int .i64 0)], [.v (.int .i64 3)], [.v (.int .i64 2)]] : List (List D))[d]? = some [.v (.int .i64 (turD d : Nat))] := by have : d = 0 ∨ d = 1 ∨ d = 2 ∨ d = 3 := (by omega); rcases this with rfl | rfl | rfl | rfl <;> rfl
            simp -implicitDefEqProofs (disch := omega) only [go_sem, ↓reduceIte]; refine call_B (hX) (by simp -implicitDefEqProofs (disch := omega) only [go_sem, ↓reduceIte, deep, TD.rows, immLL_rI, immLL_rB8, immLL_rS, immLL_rBo, immLL_rII, immLL_rIIt, i1, i2, Int.reduceEq, decide_true, decide_false]; exact rfl) ?_; simp -implicitDefEqProofs (disch := omega) only [go_sem, ↓reduceIte , i1, i2, Int.reduceEq, decide_true, decide_false]; refine call_B (hY) (by simp -implicitDefEqProofs (disch := omega) only [go_sem, ↓reduceIte, deep, TD.rows, immLL_rI, immLL_rB8, immLL_rS, immLL_rBo, immLL_rII, immLL_rIIt, List.length_map, Int.toNat_natCast, Int.ofNat_lt, Int.natCast_nonneg, List.getElem?_map, Option.map_some, Int.natCast_zero, Int.natCast_one, Int.cast_ofNat_Int, Int.ofNat_le, Int.toNat_zero, Nat.sub_zero, Int.le_refl, Int.reduceLT, Int.reduceLE, Int.reduceEq, Int.reduceAdd, Int.reduceSub, Int.reduceMul, Int.reduceToNat, Int.reduceNeg, hltd, hdI, r1, List.length_cons, List.length_nil, Nat.reduceAdd, Nat.zero_add, Int.cast_ofNat_Int]; exact rfl) ?_; simp -implicitDefEqProofs (disch := omega) only [go_sem, ↓reduceIte , List.length_map, Int.toNat_natCast, Int.ofNat_lt, Int.natCast_nonneg, List.getElem?_map, Option.map_some, Int.natCast_zero, Int.natCast_one, Int.cast_ofNat_Int, Int.ofNat_le, Int.toNat_zero, Nat.sub_zero, Int.le_refl, Int.reduceLT, Int.reduceLE, Int.reduceEq, Int.reduceAdd, Int.reduceSub, Int.reduceMul, Int.reduceToNat, Int.reduceNeg, hltd, hdI, r1, List.length_cons, List.length_nil, Nat.reduceAdd, Nat.zero_add, Int.cast_ofNat_Int]; refine call_NB (hZ) (by simp -implicitDefEqProofs (disch := omega) only [go_sem, ↓reduceIte, deep, TD.rows, immLL_rI, immLL_rB8, immLL_rS, immLL_rBo, immLL_rII, immLL_rIIt, List.length_map, Int.toNat_natCast, Int.ofNat_lt, Int.natCast_nonneg, List.getElem?_map, Option.map_some, Int.natCast_zero, Int.natCast_one, Int.cast_ofNat_Int, Int.ofNat_le, Int.toNat_zero, Nat.sub_zero, Int.le_refl, Int.reduceLT, Int.reduceLE, Int.reduceEq, Int.reduceAdd, Int.reduceSub, Int.reduceMul, Int.reduceToNat, Int.reduceNeg, hltd, hdI, r2, List.length_cons, List.length_nil, Nat.reduceAdd, Nat.zero_add, Int.cast_ofNat_Int]; exact rfl) ?_; simp -implicitDefEqProofs (disch := omega) only [go_sem, ↓reduceIte , List.length_map, Int.toNat_natCast, Int.ofNat_lt, Int.natCast_nonneg, List.getElem?_map, Option.map_some, Int.natCast_zero, Int.natCast_one, Int.cast_ofNat_Int, Int.ofNat_le, Int.toNat_zero, Nat.sub_zero, Int.le_refl, Int.reduceLT, Int.reduceLE, Int.reduceEq, Int.reduceAdd, Int.reduceSub, Int.reduceMul, Int.reduceToNat, Int.reduceNeg, hltd, hdI, r2, List.length_cons, List.length_nil, Nat.reduceAdd, Nat.zero_add, Int.cast_ofNat_Int]; refine call_NB (hW) (by simp -implicitDefEqProofs (disch := omega) only [go_sem, ↓reduceIte, deep, TD.rows, immLL_rI, immLL_rB8, immLL_rS, immLL_rBo, immLL_rII, immLL_rIIt]; exact rfl) ?_; simp -implicitDefEqProofs (disch := omega) only [go_sem, ↓reduceIte]; refine call_NB (hO) (by simp -implicitDefEqProofs (disch := omega) only [go_sem, ↓reduceIte, deep, TD.rows, immLL_rI, immLL_rB8, immLL_rS, immLL_rBo, immLL_rII, immLL_rIIt]; exact rfl) ?_; simp -implicitDefEqProofs (disch := omega) only [go_sem, ↓reduceIte]; refine call_NB (hV) (by simp -implicitDefEqProofs (disch := omega) only [go_sem, ↓reduceIte, deep, TD.rows, immLL_rI, immLL_rB8, immLL_rS, immLL_rBo, immLL_rII, immLL_rIIt, Int.reduceEq, decide_true, decide_false, hself, wrN]; exact rfl) ?_; simp -implicitDefEqProofs (disch := omega) only [go_sem, ↓reduceIte , Int.reduceEq, decide_true, decide_false, hself, wrN]; exact ⟨d + 1, by omega, hltd, nleA⟩
          · simp -implicitDefEqProofs (disch := omega) only [go_sem, ↓reduceIte , wrN]; exact ⟨j + 1, by omega, hltj, nleA⟩
        · simp -implicitDefEqProofs (disch := omega) only [go_sem, ↓reduceIte , wrN]; exact ⟨i + 1, by omega, hlt, nleA⟩
      · simp -implicitDefEqProofs (disch := omega) only [go_sem, ↓reduceIte]
theorem walk_fnTurned (q_code_v : Value) (q_code : List Int) (q_more_v : Value) (q_more : List Int) (w : World) (q_code_h : (Ty.slice 5 (Ty.int .u8)).rep w w.heap.size [q_code_v] q_code) (q_more_h : (Ty.slice 5 (Ty.int .u8)).rep w w.heap.size [q_more_v] q_more) : Calls Try.prog 3 #[q_code_v, q_more_v] w fun e w' => e = .returned (.bool true) ∧ Below w.heap.size w w' := by refine (Contract.at (vlawTurned q_code ((TD.slice 5 (TD.int .u8)).rep_ok q_code_h) q_more ((TD.slice 5 (TD.int .u8)).rep_ok q_more_h)) gI (Nat.le_refl _) (vals_cons (TD.arg_slice (TD.int .u8) q_code_h) (vals_cons (TD.arg_slice (TD.int .u8) q_more_h) vals_nil))).mono ?_; rintro e w' ⟨⟨v, I, F, rfl, hT, hn, hF⟩, hb⟩; obtain rfl := T_v hT; exact ⟨rfl, hb⟩
end Go.Proofs.Ytoiaenkipdneeaa
