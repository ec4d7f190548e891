/- Laws that the proof stands on. -/
import Derived.Test.YtlmkgjigldmbaaaDoorZVPTxtP
import Derived.Test.YtlmkgjigldmbaaaDoorZg13
import Derived.Test.YtlmkgjigldmbaaaDoorZVTab
set_option linter.all false
namespace Go.Proofs.YtlmkgjigldmbaaaDoor
open Go.RowKit Go.V
attribute [local go_sem] List.getElem?_cons_succ List.getElem?_cons_zero List.set_cons_succ List.set_cons_zero List.map_cons List.map_nil List.length_cons List.length_nil List.all_cons List.all_nil List.drop_succ_cons List.drop_zero List.take_succ_cons List.take_zero List.flatMap_cons List.flatMap_nil List.cons_append List.nil_append List.append_nil List.headD_cons Value.oneCell' Bool.and_true Bool.true_and Bool.or_false Bool.false_or Bool.and_self Bool.not_true Bool.not_false and_true true_and beq_self_eq_true Bool.false_eq_true if_true if_false Nat.zero_add Nat.reduceAdd Nat.reduceMul Nat.reduceLeDiff Nat.le_refl Option.isSome_some Option.isSome_none not_true_eq_false not_false_eq_true ne_eq reduceCtorEq List.reverse_nil bne_self_eq_false Nat.reduceEqDiff List.isPrefixOf Bool.not_eq_true Bool.and_false Bool.false_and Bool.true_or Bool.or_true decide_true decide_false Nat.reduceBEq Nat.reduceBNe List.replicate_succ List.replicate_zero exists_eq_left' exists_eq_left Option.some.injEq or_false or_true true_or false_or Option.map_some Option.map_none mB Nat.reduceMod Nat.reduceDiv
set_option maxRecDepth 100000
section
variable {P : Program} {G : World → (Nat → Prop) → Prop} {s : List D} {K : D → List D → Prop}
theorem call_own1 {f r : Nat} {x : Operand} {d d' res : D} (hC : ContractL P G f 0 [.undef] d res d') (hs : s[r]? = some d) (hx : lk s x = .ref r []) (he : d.exact = true) (hK : K res ((pruneL (notRoot r) s).set r d')) : evalK (CT P G) s (.callX f [x]) K :=
  call_lend (x := x) true hC rfl (by unfold lendP; rw [hs]; exact .inl ⟨.inr hx, he, rfl, rfl⟩) (by simp [D.owny, ownyL]) (by simp [D.prune, deep, leL, D.le, pruneL]) (.inr ⟨rfl, by simp [D.prune, D.noRef, pruneL, noRefL]⟩) hK
end
def code_spec_ProofName : VCode := (.seq (.ops [
  ⟨(some 2), none, (.asg (.const (.string ⟨⟨[]⟩⟩)))⟩]) (.seq (.seq (.ops [
  ⟨(some 3), none, (.mv (.tmp 0))⟩,
  ⟨(some 4), none, (.callX 55 [(.tmp 3), (.const (.int .i64 1)), (.const (.int .i64 6))])⟩,
  ⟨(some 5), none, (.un .not (.tmp 4))⟩]) (.cond (.tmp 5) (.seq (.ops [
  ⟨(some 2), none, (.asg (.const (.string ⟨⟨[]⟩⟩)))⟩]) .ret) .skip)) (.seq (.ops [
  ⟨(some 6), none, (.bsl 1 [(.const (.string ⟨⟨[103, 114, 111, 119, 110]⟩⟩)), (.const (.string ⟨⟨[116, 101, 114, 109, 105, 110, 97, 108]⟩⟩)), (.const (.string ⟨⟨[117, 110, 105, 113, 117, 101]⟩⟩)), (.const (.string ⟨⟨[99, 111, 110, 102, 108, 105, 99, 116]⟩⟩)), (.const (.string ⟨⟨[115, 116, 97, 98, 108, 101]⟩⟩)), (.const (.string ⟨⟨[108, 111, 111, 115, 101]⟩⟩))])⟩,
  ⟨(some 7), none, (.mv (.tmp 0))⟩,
  ⟨(some 8), none, (.bin .sub (.tmp 7) (.const (.int .i64 1)))⟩,
  ⟨(some 9), none, (.ia 1 (.tmp 6) (.tmp 8))⟩,
  ⟨(some 10), none, (.load 1 false (.tmp 9))⟩,
  ⟨(some 2), none, (.asg (.tmp 10))⟩]) .ret)))
theorem law_spec_ProofName {a0 d : D} (h : code_spec_ProofName.wp (CT Tryd.prog TabG) (endQ [(.t 2)] d) [a0, .undef, .undef, .undef, .undef, .undef, .undef, .undef, .undef, .undef, .undef]) : Contract Tryd.prog TabG 21 [a0] d :=
  contract_of (pt := 0) tabG Tryd.func21 (fun us W => by kernel_rfl) (c := Tryd.f21.body.getD .skip) (ms := []) (ms' := []) (by kernel_rfl) (by kernel_rfl) (by kernel_rfl) h
def code_impl_ProofName : VCode := (.seq (.ops [
  ⟨(some 2), none, (.asg (.const (.string ⟨⟨[]⟩⟩)))⟩]) (.seq (.seq (.ops [
  ⟨(some 3), none, (.mv (.tmp 0))⟩,
  ⟨(some 4), none, (.callX 59 [(.tmp 3), (.const (.int .i64 1)), (.const (.int .i64 6))])⟩,
  ⟨(some 5), none, (.un .not (.tmp 4))⟩]) (.cond (.tmp 5) (.seq (.ops [
  ⟨(some 2), none, (.asg (.const (.string ⟨⟨[]⟩⟩)))⟩]) .ret) .skip)) (.seq (.ops [
  ⟨(some 6), none, (.build [(.string ⟨⟨[]⟩⟩), (.string ⟨⟨[]⟩⟩), (.string ⟨⟨[]⟩⟩), (.string ⟨⟨[]⟩⟩), (.string ⟨⟨[]⟩⟩), (.string ⟨⟨[]⟩⟩), (.string ⟨⟨[]⟩⟩)] [(0, 1, (.const (.string ⟨⟨[]⟩⟩))), (1, 1, (.const (.string ⟨⟨[103, 114, 111, 119, 110]⟩⟩))), (2, 1, (.const (.string ⟨⟨[116, 101, 114, 109, 105, 110, 97, 108]⟩⟩))), (3, 1, (.const (.string ⟨⟨[117, 110, 105, 113, 117, 101]⟩⟩))), (4, 1, (.const (.string ⟨⟨[99, 111, 110, 102, 108, 105, 99, 116]⟩⟩))), (5, 1, (.const (.string ⟨⟨[115, 116, 97, 98, 108, 101]⟩⟩))), (6, 1, (.const (.string ⟨⟨[108, 111, 111, 115, 101]⟩⟩)))])⟩,
  ⟨(some 7), none, (.mv (.tmp 0))⟩,
  ⟨(some 8), none, (.ixa 7 1 false (.tmp 6) (.tmp 7))⟩,
  ⟨(some 2), none, (.asg (.tmp 8))⟩]) .ret)))
theorem law_impl_ProofName {a0 d : D} (h : code_impl_ProofName.wp (CT Tryd.prog TabG) (endQ [(.t 2)] d) [a0, .undef, .undef, .undef, .undef, .undef, .undef, .undef, .undef]) : Contract Tryd.prog TabG 26 [a0] d :=
  contract_of (pt := 0) tabG Tryd.func26 (fun us W => by kernel_rfl) (c := Tryd.f26.body.getD .skip) (ms := []) (ms' := []) (by kernel_rfl) (by kernel_rfl) (by kernel_rfl) h
def code_impl_numbersLine : VCode := (.seq (.ops [
  ⟨(some 4), none, (.asg (.const (.string ⟨⟨[]⟩⟩)))⟩]) (.seq (.ops [
  ⟨(some 8), none, (.mv (.tmp 0))⟩,
  ⟨(some 9), none, (.bsl 1 [(.tmp 8)])⟩,
  ⟨(some 5), none, (.asg (.tmp 9))⟩]) (.seq (.seq (.ops [
  ⟨(some 10), none, (.mv (.tmp 1))⟩,
  ⟨(some 11), none, (.len (.tmp 10))⟩,
  ⟨(some 12), none, (.mv (.const (.int .i64 0)))⟩]) (.block 0 (.loop (mB 24 15131103) (.seq (.ops [
  ⟨(some 13), none, (.bin .lss (.tmp 12) (.tmp 11))⟩]) (.seq (.cond (.tmp 13) .skip (.exit 0)) (.seq (.block 1 (.seq (.ops [
  ⟨(some 14), none, (.ia 1 (.tmp 10) (.tmp 12))⟩,
  ⟨(some 15), none, (.load 1 false (.tmp 14))⟩,
  ⟨(some 7), none, (.asg (.tmp 15))⟩]) (.ops [
  ⟨(some 16), none, (.mv (.tmp 5))⟩,
  ⟨(some 17), none, (.mv (.tmp 7))⟩,
  ⟨(some 18), none, (.callX 50 [(.tmp 17)])⟩,
  ⟨(some 19), none, (.bsl 1 [(.tmp 18)])⟩,
  ⟨(some 20), none, (.app 1 16 (.tmp 16) (.tmp 19))⟩,
  ⟨(some 5), none, (.asg (.tmp 20))⟩]))) (.ops [
  ⟨(some 21), none, (.bin .add (.tmp 12) (.const (.int .i64 1)))⟩,
  ⟨(some 12), none, (.mv (.tmp 21))⟩]))))))) (.seq (.ops [
  ⟨(some 22), none, (.mv (.tmp 5))⟩,
  ⟨(some 23), none, (.callX 28 [(.tmp 22)])⟩,
  ⟨(some 4), none, (.asg (.tmp 23))⟩]) .ret))))
theorem law_impl_numbersLine {a0 a1 d : D} (h : code_impl_numbersLine.wp (CT Tryd.prog TabG) (endQ [(.t 4)] d) [a0, a1, .undef, .undef, .undef, .undef, .undef, .undef, .undef, .undef, .undef, .undef, .undef, .undef, .undef, .undef, .undef, .undef, .undef, .undef, .undef, .undef, .undef, .undef]) : Contract Tryd.prog TabG 29 [a0, a1] d :=
  contract_of (pt := 0) tabG Tryd.func29 (fun us W => by kernel_rfl) (c := Tryd.f29.body.getD .skip) (ms := [(mB 24 15131103)]) (ms' := []) (by kernel_rfl) (by kernel_rfl) (by kernel_rfl) h
def code_spec_l35Options : VCode := (.seq (.ops [
  ⟨(some 4), none, (.asg (.const (.string ⟨⟨[]⟩⟩)))⟩]) (.seq (.ops [
  ⟨(some 5), none, (.asg (.const (.string ⟨⟨[]⟩⟩)))⟩]) (.seq (.seq (.ops [
  ⟨(some 6), none, (.asg (.const (.int .i64 0)))⟩]) (.block 0 (.loop (mB 44 17592186044316) (.seq (.seq (.ops [
  ⟨(some 7), none, (.mv (.tmp 6))⟩,
  ⟨(some 8), none, (.mv (.tmp 1))⟩,
  ⟨(some 9), none, (.len (.tmp 8))⟩,
  ⟨(some 10), none, (.bin .lss (.tmp 7) (.tmp 9))⟩]) (.cond (.tmp 10) .skip (.exit 0))) (.seq (.block 1 (.draw (mB 42 4398046502912) [] [⟨0, (mB 42 4398046502912), [], ⟨(some 13), none, (.mv (.tmp 5))⟩⟩, ⟨1, (mB 42 4398046502912), [], ⟨(some 14), none, (.mv (.tmp 0))⟩⟩, ⟨2, (mB 42 4398046486528), [], ⟨(some 15), none, (.bin .add (.tmp 14) (.const (.string ⟨⟨[32]⟩⟩)))⟩⟩, ⟨3, (mB 42 4398046502912), [], ⟨(some 16), none, (.mv (.tmp 1))⟩⟩, ⟨4, (mB 42 4398046502912), [], ⟨(some 17), none, (.mv (.tmp 6))⟩⟩, ⟨5, (mB 42 4398046306304), [], ⟨(some 18), none, (.ia 3 (.tmp 16) (.tmp 17))⟩⟩, ⟨6, (mB 42 4398046044160), [], ⟨(some 19), none, (.fa 0 (.tmp 18))⟩⟩, ⟨7, (mB 42 4398045519872), [], ⟨(some 20), none, (.fa 0 (.tmp 19))⟩⟩, ⟨8, (mB 42 4398044471296), [], ⟨(some 21), none, (.load 1 false (.tmp 20))⟩⟩, ⟨9, (mB 42 4398042374144), [], ⟨(some 22), none, (.call 42 [(.tmp 21)])⟩⟩, ⟨10, (mB 42 4398038130688), [], ⟨(some 23), none, (.bin .add (.tmp 15) (.tmp 22))⟩⟩, ⟨11, (mB 42 4398029742080), [], ⟨(some 24), none, (.bin .add (.tmp 23) (.const (.string ⟨⟨[32]⟩⟩)))⟩⟩, ⟨12, (mB 42 4398046502912), [], ⟨(some 25), none, (.mv (.tmp 1))⟩⟩, ⟨13, (mB 42 4398046502912), [], ⟨(some 26), none, (.mv (.tmp 6))⟩⟩, ⟨14, (mB 42 4397945839616), [], ⟨(some 27), none, (.ia 3 (.tmp 25) (.tmp 26))⟩⟩, ⟨15, (mB 42 4397811621888), [], ⟨(some 28), none, (.fa 0 (.tmp 27))⟩⟩, ⟨16, (mB 42 4397543186432), [], ⟨(some 29), none, (.fa 1 (.tmp 28))⟩⟩, ⟨17, (mB 42 4397006315520), [], ⟨(some 30), none, (.load 1 false (.tmp 29))⟩⟩, ⟨18, (mB 42 4395924250624), [], ⟨(some 31), none, (.call 42 [(.tmp 30)])⟩⟩, ⟨19, (mB 42 4393751552000), [], ⟨(some 32), none, (.bin .add (.tmp 24) (.tmp 31))⟩⟩, ⟨20, (mB 42 4389456584704), [], ⟨(some 33), none, (.bin .add (.tmp 32) (.const (.string ⟨⟨[32]⟩⟩)))⟩⟩, ⟨21, (mB 42 4398046502912), [], ⟨(some 34), none, (.mv (.tmp 1))⟩⟩, ⟨22, (mB 42 4398046502912), [], ⟨(some 35), none, (.mv (.tmp 6))⟩⟩, ⟨23, (mB 42 4346506895360), [], ⟨(some 36), none, (.ia 3 (.tmp 34) (.tmp 35))⟩⟩, ⟨24, (mB 42 4277787418624), [], ⟨(some 37), none, (.fa 2 (.tmp 36))⟩⟩, ⟨25, (mB 42 4140348465152), [], ⟨(some 38), none, (.load 1 false (.tmp 37))⟩⟩, ⟨26, (mB 42 3861200822272), [], ⟨(some 39), none, (.call 42 [(.tmp 38)])⟩⟩, ⟨27, (mB 42 3298534891520), [], ⟨(some 40), none, (.bin .add (.tmp 33) (.tmp 39))⟩⟩, ⟨28, (mB 42 2199023263744), [], ⟨(some 41), none, (.bin .add (.tmp 40) (.const (.string ⟨⟨[10]⟩⟩)))⟩⟩] [⟨(some 42), none, (.bin .add (.tmp 13) (.tmp 41))⟩, ⟨(some 5), none, (.asg (.tmp 42))⟩])) (.ops [
  ⟨(some 11), none, (.mv (.tmp 6))⟩,
  ⟨(some 12), none, (.bin .add (.tmp 11) (.const (.int .i64 1)))⟩,
  ⟨(some 6), none, (.asg (.tmp 12))⟩])))))) (.seq (.ops [
  ⟨(some 43), none, (.mv (.tmp 5))⟩,
  ⟨(some 4), none, (.asg (.tmp 43))⟩]) .ret))))
theorem law_spec_l35Options {a0 a1 d : D} (h : code_spec_l35Options.wp (CT Tryd.prog TabG) (endQ [(.t 4)] d) [a0, a1, .undef, .undef, .undef, .undef, .undef, .undef, .undef, .undef, .undef, .undef, .undef, .undef, .undef, .undef, .undef, .undef, .undef, .undef, .undef, .undef, .undef, .undef, .undef, .undef, .undef, .undef, .undef, .undef, .undef, .undef, .undef, .undef, .undef, .undef, .undef, .undef, .undef, .undef, .undef, .undef, .undef, .undef]) : Contract Tryd.prog TabG 56 [a0, a1] d :=
  contract_of (pt := 0) tabG Tryd.func56 (fun us W => by kernel_rfl) (c := Tryd.f56.body.getD .skip) (ms := [(mB 44 17592186044316)]) (ms' := []) (by kernel_rfl) (by kernel_rfl) (by kernel_rfl) h
def code_spec_l35Numbers : VCode := (.seq (.ops [
  ⟨(some 4), none, (.asg (.const (.string ⟨⟨[]⟩⟩)))⟩]) (.seq (.ops [
  ⟨(some 7), none, (.mv (.tmp 0))⟩,
  ⟨(some 5), none, (.asg (.tmp 7))⟩]) (.seq (.seq (.ops [
  ⟨(some 6), none, (.asg (.const (.int .i64 0)))⟩]) (.block 0 (.loop (mB 24 16777117) (.seq (.seq (.ops [
  ⟨(some 8), none, (.mv (.tmp 6))⟩,
  ⟨(some 9), none, (.mv (.tmp 1))⟩,
  ⟨(some 10), none, (.len (.tmp 9))⟩,
  ⟨(some 11), none, (.bin .lss (.tmp 8) (.tmp 10))⟩]) (.cond (.tmp 11) .skip (.exit 0))) (.seq (.block 1 (.ops [
  ⟨(some 14), none, (.mv (.tmp 5))⟩,
  ⟨(some 15), none, (.mv (.tmp 1))⟩,
  ⟨(some 16), none, (.mv (.tmp 6))⟩,
  ⟨(some 17), none, (.ia 1 (.tmp 15) (.tmp 16))⟩,
  ⟨(some 18), none, (.load 1 false (.tmp 17))⟩,
  ⟨(some 19), none, (.callX 42 [(.tmp 18)])⟩,
  ⟨(some 20), none, (.bin .add (.const (.string ⟨⟨[32]⟩⟩)) (.tmp 19))⟩,
  ⟨(some 21), none, (.bin .add (.tmp 14) (.tmp 20))⟩,
  ⟨(some 5), none, (.asg (.tmp 21))⟩])) (.ops [
  ⟨(some 12), none, (.mv (.tmp 6))⟩,
  ⟨(some 13), none, (.bin .add (.tmp 12) (.const (.int .i64 1)))⟩,
  ⟨(some 6), none, (.asg (.tmp 13))⟩])))))) (.seq (.ops [
  ⟨(some 22), none, (.mv (.tmp 5))⟩,
  ⟨(some 23), none, (.bin .add (.tmp 22) (.const (.string ⟨⟨[10]⟩⟩)))⟩,
  ⟨(some 4), none, (.asg (.tmp 23))⟩]) .ret))))
theorem law_spec_l35Numbers {a0 a1 d : D} (h : code_spec_l35Numbers.wp (CT Tryd.prog TabG) (endQ [(.t 4)] d) [a0, a1, .undef, .undef, .undef, .undef, .undef, .undef, .undef, .undef, .undef, .undef, .undef, .undef, .undef, .undef, .undef, .undef, .undef, .undef, .undef, .undef, .undef, .undef]) : Contract Tryd.prog TabG 57 [a0, a1] d :=
  contract_of (pt := 0) tabG Tryd.func57 (fun us W => by kernel_rfl) (c := Tryd.f57.body.getD .skip) (ms := [(mB 24 16777117)]) (ms' := []) (by kernel_rfl) (by kernel_rfl) (by kernel_rfl) h
def code_spec_l35Proof : VCode := (.seq (.ops [
  ⟨(some 2), none, (.asg (.const (.string ⟨⟨[]⟩⟩)))⟩]) (.seq (.draw (mB 23 8388576) [] [⟨0, (mB 23 8388576), [], ⟨(some 5), none, (.mv (.tmp 0))⟩⟩, ⟨1, (mB 23 8388544), [], ⟨(some 6), none, (.nilc (.tmp 5))⟩⟩, ⟨2, (mB 23 8388480), [], ⟨(some 7), none, (.fa 0 (.tmp 6))⟩⟩, ⟨3, (mB 23 8388352), [], ⟨(some 8), none, (.load 1 false (.tmp 7))⟩⟩, ⟨4, (mB 23 8388096), [], ⟨(some 9), none, (.call 21 [(.tmp 8)])⟩⟩, ⟨5, (mB 23 8387584), [], ⟨(some 10), none, (.bin .add (.const (.string ⟨⟨[112, 114, 111, 111, 102, 32]⟩⟩)) (.tmp 9))⟩⟩, ⟨6, (mB 23 8386560), [], ⟨(some 11), none, (.bin .add (.tmp 10) (.const (.string ⟨⟨[10]⟩⟩)))⟩⟩, ⟨7, (mB 23 8388576), [], ⟨(some 12), none, (.mv (.tmp 0))⟩⟩, ⟨8, (mB 23 8384480), [], ⟨(some 13), none, (.nilc (.tmp 12))⟩⟩, ⟨9, (mB 23 8376288), [], ⟨(some 14), none, (.fa 1 (.tmp 13))⟩⟩, ⟨10, (mB 23 8359904), [], ⟨(some 15), none, (.load 1 false (.tmp 14))⟩⟩, ⟨11, (mB 23 8326144), [], ⟨(some 16), none, (.call 56 [(.const (.string ⟨⟨[112, 117, 116]⟩⟩)), (.tmp 15)])⟩⟩, ⟨12, (mB 23 8257536), [], ⟨(some 17), none, (.bin .add (.tmp 11) (.tmp 16))⟩⟩, ⟨13, (mB 23 8388576), [], ⟨(some 18), none, (.mv (.tmp 0))⟩⟩, ⟨14, (mB 23 8126432), [], ⟨(some 19), none, (.nilc (.tmp 18))⟩⟩, ⟨15, (mB 23 7602144), [], ⟨(some 20), none, (.fa 2 (.tmp 19))⟩⟩, ⟨16, (mB 23 6553568), [], ⟨(some 21), none, (.load 1 false (.tmp 20))⟩⟩, ⟨17, (mB 23 4328448), [], ⟨(some 22), none, (.call 56 [(.const (.string ⟨⟨[111, 116, 104, 101, 114]⟩⟩)), (.tmp 21)])⟩⟩] [⟨(some 23), none, (.bin .add (.tmp 17) (.tmp 22))⟩, ⟨(some 3), none, (.asg (.tmp 23))⟩]) (.seq (.seq (.ops [
  ⟨(some 24), none, (.mv (.tmp 0))⟩,
  ⟨(some 25), none, (.nilc (.tmp 24))⟩,
  ⟨(some 26), none, (.fa 3 (.tmp 25))⟩,
  ⟨(some 27), none, (.load 1 false (.tmp 26))⟩,
  ⟨(some 28), none, (.len (.tmp 27))⟩,
  ⟨(some 29), none, (.bin .gtr (.tmp 28) (.const (.int .i64 0)))⟩]) (.cond (.tmp 29) (.ops [
  ⟨(some 30), none, (.mv (.tmp 3))⟩,
  ⟨(some 31), none, (.mv (.tmp 0))⟩,
  ⟨(some 32), none, (.nilc (.tmp 31))⟩,
  ⟨(some 33), none, (.fa 3 (.tmp 32))⟩,
  ⟨(some 34), none, (.load 1 false (.tmp 33))⟩,
  ⟨(some 35), none, (.callX 57 [(.const (.string ⟨⟨[112, 97, 114, 116]⟩⟩)), (.tmp 34)])⟩,
  ⟨(some 36), none, (.bin .add (.tmp 30) (.tmp 35))⟩,
  ⟨(some 3), none, (.asg (.tmp 36))⟩]) .skip)) (.seq (.seq (.ops [
  ⟨(some 4), none, (.asg (.const (.int .i64 0)))⟩]) (.block 0 (.loop (mB 57 144115188075855846) (.seq (.seq (.ops [
  ⟨(some 37), none, (.mv (.tmp 4))⟩,
  ⟨(some 38), none, (.mv (.tmp 0))⟩,
  ⟨(some 39), none, (.nilc (.tmp 38))⟩,
  ⟨(some 40), none, (.fa 4 (.tmp 39))⟩,
  ⟨(some 41), none, (.load 1 false (.tmp 40))⟩,
  ⟨(some 42), none, (.len (.tmp 41))⟩,
  ⟨(some 43), none, (.bin .lss (.tmp 37) (.tmp 42))⟩]) (.cond (.tmp 43) .skip (.exit 0))) (.seq (.block 1 (.ops [
  ⟨(some 46), none, (.mv (.tmp 3))⟩,
  ⟨(some 47), none, (.mv (.tmp 0))⟩,
  ⟨(some 48), none, (.nilc (.tmp 47))⟩,
  ⟨(some 49), none, (.fa 4 (.tmp 48))⟩,
  ⟨(some 50), none, (.load 1 false (.tmp 49))⟩,
  ⟨(some 51), none, (.mv (.tmp 4))⟩,
  ⟨(some 52), none, (.ia 1 (.tmp 50) (.tmp 51))⟩,
  ⟨(some 53), none, (.load 1 false (.tmp 52))⟩,
  ⟨(some 54), none, (.callX 57 [(.const (.string ⟨⟨[102, 108, 111, 119]⟩⟩)), (.tmp 53)])⟩,
  ⟨(some 55), none, (.bin .add (.tmp 46) (.tmp 54))⟩,
  ⟨(some 3), none, (.asg (.tmp 55))⟩])) (.ops [
  ⟨(some 44), none, (.mv (.tmp 4))⟩,
  ⟨(some 45), none, (.bin .add (.tmp 44) (.const (.int .i64 1)))⟩,
  ⟨(some 4), none, (.asg (.tmp 45))⟩])))))) (.seq (.ops [
  ⟨(some 56), none, (.mv (.tmp 3))⟩,
  ⟨(some 2), none, (.asg (.tmp 56))⟩]) .ret)))))
theorem law_spec_l35Proof {a0 d : D} (h : code_spec_l35Proof.wp (CT Tryd.prog TabG) (endQ [(.t 2)] d) [a0, .undef, .undef, .undef, .undef, .undef, .undef, .undef, .undef, .undef, .undef, .undef, .undef, .undef, .undef, .undef, .undef, .undef, .undef, .undef, .undef, .undef, .undef, .undef, .undef, .undef, .undef, .undef, .undef, .undef, .undef, .undef, .undef, .undef, .undef, .undef, .undef, .undef, .undef, .undef, .undef, .undef, .undef, .undef, .undef, .undef, .undef, .undef, .undef, .undef, .undef, .undef, .undef, .undef, .undef, .undef, .undef]) : Contract Tryd.prog TabG 22 [a0] d :=
  contract_of (pt := 0) tabG Tryd.func22 (fun us W => by kernel_rfl) (c := Tryd.f22.body.getD .skip) (ms := [(mB 57 144115188075855846)]) (ms' := []) (by kernel_rfl) (by kernel_rfl) (by kernel_rfl) h
def code_spec_ProofText : VCode := (.seq (.ops [
  ⟨(some 1), none, (.box (.tmp 0))⟩,
  ⟨(some 2), none, (.asg (.const (.string ⟨⟨[]⟩⟩)))⟩]) (.seq (.seq (.ops [
  ⟨(some 3), none, (.fa 0 (.tmp 1))⟩,
  ⟨(some 4), none, (.load 1 false (.tmp 3))⟩,
  ⟨(some 5), none, (.callX 21 [(.tmp 4)])⟩,
  ⟨(some 6), none, (.bin .eql (.tmp 5) (.const (.string ⟨⟨[]⟩⟩)))⟩]) (.cond (.tmp 6) (.seq (.ops [
  ⟨(some 2), none, (.asg (.const (.string ⟨⟨[]⟩⟩)))⟩]) .ret) .skip)) (.seq (.ops [
  ⟨(some 7), none, (.callX 22 [(.tmp 1)])⟩,
  ⟨(some 2), none, (.asg (.tmp 7))⟩]) .ret)))
theorem law_spec_ProofText {a0 d : D} (h : code_spec_ProofText.wp (CT Tryd.prog TabG) (endQ [(.t 2)] d) [a0, .undef, .undef, .undef, .undef, .undef, .undef, .undef]) : Contract Tryd.prog TabG 6 [a0] d :=
  contract_of (pt := 0) tabG Tryd.func6 (fun us W => by kernel_rfl) (c := Tryd.f6.body.getD .skip) (ms := []) (ms' := []) (by kernel_rfl) (by kernel_rfl) (by kernel_rfl) h
def code_impl_ProofText : VCode := (.seq (.ops [
  ⟨(some 1), none, (.box (.tmp 0))⟩,
  ⟨(some 2), none, (.asg (.const (.string ⟨⟨[]⟩⟩)))⟩]) (.seq (.ops [
  ⟨(some 11), none, (.fa 0 (.tmp 1))⟩,
  ⟨(some 12), none, (.load 1 false (.tmp 11))⟩,
  ⟨(some 13), none, (.callX 26 [(.tmp 12)])⟩,
  ⟨(some 3), none, (.asg (.tmp 13))⟩]) (.seq (.seq (.ops [
  ⟨(some 14), none, (.mv (.tmp 3))⟩,
  ⟨(some 15), none, (.bin .eql (.tmp 14) (.const (.string ⟨⟨[]⟩⟩)))⟩]) (.cond (.tmp 15) (.seq (.ops [
  ⟨(some 2), none, (.asg (.const (.string ⟨⟨[]⟩⟩)))⟩]) .ret) .skip)) (.seq (.ops [
  ⟨(some 4), none, (.mkm (.bld 69 5))⟩]) (.seq (.ops [
  ⟨(some 16), none, (.mv (.tmp 3))⟩,
  ⟨(some 17), none, (.bsl 1 [(.const (.string ⟨⟨[112, 114, 111, 111, 102]⟩⟩)), (.tmp 16)])⟩,
  ⟨(some 18), none, (.callX 28 [(.tmp 17)])⟩,
  ⟨(some 19), none, (.callX 27 [(.tmp 4), (.tmp 18)])⟩]) (.seq (.seq (.ops [
  ⟨(some 20), none, (.fa 1 (.tmp 1))⟩,
  ⟨(some 21), none, (.load 1 false (.tmp 20))⟩,
  ⟨(some 22), none, (.len (.tmp 21))⟩,
  ⟨(some 23), none, (.mv (.const (.int .i64 0)))⟩]) (.block 0 (.loop (mB 78 302231454903657277947885) (.seq (.ops [
  ⟨(some 24), none, (.bin .lss (.tmp 23) (.tmp 22))⟩]) (.seq (.cond (.tmp 24) .skip (.exit 0)) (.seq (.block 1 (.seq (.ops [
  ⟨(some 25), none, (.ia 3 (.tmp 21) (.tmp 23))⟩,
  ⟨(some 26), none, (.load 3 true (.tmp 25))⟩,
  ⟨(some 6), none, (.alloc [(.int .i64 0), (.int .i64 0), (.int .i64 0)])⟩,
  ⟨none, none, (.store 3 (.tmp 6) (.tmp 26))⟩]) (.ops [
  ⟨(some 27), none, (.fa 0 (.tmp 6))⟩,
  ⟨(some 28), none, (.fa 0 (.tmp 27))⟩,
  ⟨(some 29), none, (.load 1 false (.tmp 28))⟩,
  ⟨(some 30), none, (.fa 0 (.tmp 6))⟩,
  ⟨(some 31), none, (.fa 1 (.tmp 30))⟩,
  ⟨(some 32), none, (.load 1 false (.tmp 31))⟩,
  ⟨(some 33), none, (.fa 2 (.tmp 6))⟩,
  ⟨(some 34), none, (.load 1 false (.tmp 33))⟩,
  ⟨(some 35), none, (.bsl 1 [(.tmp 29), (.tmp 32), (.tmp 34)])⟩,
  ⟨(some 36), none, (.callX 29 [(.const (.string ⟨⟨[112, 117, 116]⟩⟩)), (.tmp 35)])⟩,
  ⟨(some 37), none, (.callX 27 [(.tmp 4), (.tmp 36)])⟩]))) (.ops [
  ⟨(some 38), none, (.bin .add (.tmp 23) (.const (.int .i64 1)))⟩,
  ⟨(some 23), none, (.mv (.tmp 38))⟩]))))))) (.seq (.seq (.ops [
  ⟨(some 39), none, (.fa 2 (.tmp 1))⟩,
  ⟨(some 40), none, (.load 1 false (.tmp 39))⟩,
  ⟨(some 41), none, (.len (.tmp 40))⟩,
  ⟨(some 42), none, (.mv (.const (.int .i64 0)))⟩]) (.block 2 (.loop (mB 78 302231454895410956468205) (.seq (.ops [
  ⟨(some 43), none, (.bin .lss (.tmp 42) (.tmp 41))⟩]) (.seq (.cond (.tmp 43) .skip (.exit 2)) (.seq (.block 3 (.seq (.ops [
  ⟨(some 44), none, (.ia 3 (.tmp 40) (.tmp 42))⟩,
  ⟨(some 45), none, (.load 3 true (.tmp 44))⟩,
  ⟨(some 8), none, (.alloc [(.int .i64 0), (.int .i64 0), (.int .i64 0)])⟩,
  ⟨none, none, (.store 3 (.tmp 8) (.tmp 45))⟩]) (.ops [
  ⟨(some 46), none, (.fa 0 (.tmp 8))⟩,
  ⟨(some 47), none, (.fa 0 (.tmp 46))⟩,
  ⟨(some 48), none, (.load 1 false (.tmp 47))⟩,
  ⟨(some 49), none, (.fa 0 (.tmp 8))⟩,
  ⟨(some 50), none, (.fa 1 (.tmp 49))⟩,
  ⟨(some 51), none, (.load 1 false (.tmp 50))⟩,
  ⟨(some 52), none, (.fa 2 (.tmp 8))⟩,
  ⟨(some 53), none, (.load 1 false (.tmp 52))⟩,
  ⟨(some 54), none, (.bsl 1 [(.tmp 48), (.tmp 51), (.tmp 53)])⟩,
  ⟨(some 55), none, (.callX 29 [(.const (.string ⟨⟨[111, 116, 104, 101, 114]⟩⟩)), (.tmp 54)])⟩,
  ⟨(some 56), none, (.callX 27 [(.tmp 4), (.tmp 55)])⟩]))) (.ops [
  ⟨(some 57), none, (.bin .add (.tmp 42) (.const (.int .i64 1)))⟩,
  ⟨(some 42), none, (.mv (.tmp 57))⟩]))))))) (.seq (.seq (.ops [
  ⟨(some 58), none, (.fa 3 (.tmp 1))⟩,
  ⟨(some 59), none, (.load 1 false (.tmp 58))⟩,
  ⟨(some 60), none, (.len (.tmp 59))⟩,
  ⟨(some 61), none, (.bin .gtr (.tmp 60) (.const (.int .i64 0)))⟩]) (.cond (.tmp 61) (.ops [
  ⟨(some 62), none, (.fa 3 (.tmp 1))⟩,
  ⟨(some 63), none, (.load 1 false (.tmp 62))⟩,
  ⟨(some 64), none, (.callX 29 [(.const (.string ⟨⟨[112, 97, 114, 116]⟩⟩)), (.tmp 63)])⟩,
  ⟨(some 65), none, (.callX 27 [(.tmp 4), (.tmp 64)])⟩]) .skip)) (.seq (.seq (.ops [
  ⟨(some 66), none, (.fa 4 (.tmp 1))⟩,
  ⟨(some 67), none, (.load 1 false (.tmp 66))⟩,
  ⟨(some 68), none, (.len (.tmp 67))⟩,
  ⟨(some 69), none, (.mv (.const (.int .i64 0)))⟩]) (.block 4 (.loop (mB 78 301124650259234720579565) (.seq (.ops [
  ⟨(some 70), none, (.bin .lss (.tmp 69) (.tmp 68))⟩]) (.seq (.cond (.tmp 70) .skip (.exit 4)) (.seq (.block 5 (.seq (.ops [
  ⟨(some 71), none, (.ia 1 (.tmp 67) (.tmp 69))⟩,
  ⟨(some 72), none, (.load 1 false (.tmp 71))⟩,
  ⟨(some 10), none, (.asg (.tmp 72))⟩]) (.ops [
  ⟨(some 73), none, (.mv (.tmp 10))⟩,
  ⟨(some 74), none, (.callX 29 [(.const (.string ⟨⟨[102, 108, 111, 119]⟩⟩)), (.tmp 73)])⟩,
  ⟨(some 75), none, (.callX 27 [(.tmp 4), (.tmp 74)])⟩]))) (.ops [
  ⟨(some 76), none, (.bin .add (.tmp 69) (.const (.int .i64 1)))⟩,
  ⟨(some 69), none, (.mv (.tmp 76))⟩]))))))) (.seq (.ops [
  ⟨(some 77), none, (.callX 30 [(.tmp 4)])⟩,
  ⟨(some 2), none, (.asg (.tmp 77))⟩]) .ret))))))))))
theorem law_impl_ProofText {a0 d : D} (h : code_impl_ProofText.wp (CT Tryd.prog TabG) (endQ [(.t 2)] d) [a0, .undef, .undef, .undef, .undef, .undef, .undef, .undef, .undef, .undef, .undef, .undef, .undef, .undef, .undef, .undef, .undef, .undef, .undef, .undef, .undef, .undef, .undef, .undef, .undef, .undef, .undef, .undef, .undef, .undef, .undef, .undef, .undef, .undef, .undef, .undef, .undef, .undef, .undef, .undef, .undef, .undef, .undef, .undef, .undef, .undef, .undef, .undef, .undef, .undef, .undef, .undef, .undef, .undef, .undef, .undef, .undef, .undef, .undef, .undef, .undef, .undef, .undef, .undef, .undef, .undef, .undef, .undef, .undef, .undef, .undef, .undef, .undef, .undef, .undef, .undef, .undef, .undef]) : Contract Tryd.prog TabG 8 [a0] d :=
  contract_of (pt := 0) tabG Tryd.func8 (fun us W => by kernel_rfl) (c := Tryd.f8.body.getD .skip) (ms := [(mB 78 302231454903657277947885), (mB 78 302231454895410956468205), (mB 78 301124650259234720579565)]) (ms' := []) (by kernel_rfl) (by kernel_rfl) (by kernel_rfl) h
theorem kindP {k : Int} (h : inR 1 6 k = true) : k = 1 ∨ k = 2 ∨ k = 3 ∨ k = 4 ∨ k = 5 ∨ k = 6 := by have h' := inR_iff.1 h; omega
theorem wr_0 : IntKind.i64.wrap 0 = 0 := wrI (by omega) (by omega)
theorem wr_1 : IntKind.i64.wrap 1 = 1 := wrI (by omega) (by omega)
theorem wr_2 : IntKind.i64.wrap 2 = 2 := wrI (by omega) (by omega)
theorem wr_3 : IntKind.i64.wrap 3 = 3 := wrI (by omega) (by omega)
theorem wr_4 : IntKind.i64.wrap 4 = 4 := wrI (by omega) (by omega)
theorem wr_5 : IntKind.i64.wrap 5 = 5 := wrI (by omega) (by omega)
theorem v_ProofName_spec (k : Int) : Contract Tryd.prog TabG 21 [.v (.int .i64 k)] (.v (.string (nameP k))) := by
  refine law_spec_ProofName ?_; unfold code_spec_ProofName; cases h : inR 1 6 k with
  | false =>
    rw [nameP_none h]; have hI := v_l00In k 1 6; rw [h] at hI; simp -implicitDefEqProofs (disch := omega) only [go_sem, ↓reduceIte]; refine call_B (hI) (by simp -implicitDefEqProofs (disch := omega) only [go_sem, ↓reduceIte, deep, TD.rows, immLL_rI, immLL_rB8, immLL_rS, immLL_rBo, immLL_rII, immLL_rIIt, Bool.not_false]; exact rfl) ?_; simp -implicitDefEqProofs (disch := omega) only [go_sem, ↓reduceIte , Bool.not_false]
    all_goals first | done | rfl
  | true =>
    rcases kindP h with rfl | rfl | rfl | rfl | rfl | rfl
    · simp -implicitDefEqProofs (disch := omega) only [go_sem, ↓reduceIte]; refine call_B (v_l00In 1 1 6) (by simp -implicitDefEqProofs (disch := omega) only [go_sem, ↓reduceIte, deep, TD.rows, immLL_rI, immLL_rB8, immLL_rS, immLL_rBo, immLL_rII, immLL_rIIt, h, Bool.not_true, Int.natCast_zero, Int.natCast_one, Int.cast_ofNat_Int, Int.ofNat_le, Int.toNat_zero, Nat.sub_zero, Int.le_refl, Int.reduceLT, Int.reduceLE, Int.reduceEq, Int.reduceAdd, Int.reduceSub, Int.reduceMul, Int.reduceToNat, Int.reduceNeg, wr_0, List.getElem?_cons_zero, List.getElem?_cons_succ]; exact rfl) ?_; simp -implicitDefEqProofs (disch := omega) only [go_sem, ↓reduceIte , h, Bool.not_true, Int.natCast_zero, Int.natCast_one, Int.cast_ofNat_Int, Int.ofNat_le, Int.toNat_zero, Nat.sub_zero, Int.le_refl, Int.reduceLT, Int.reduceLE, Int.reduceEq, Int.reduceAdd, Int.reduceSub, Int.reduceMul, Int.reduceToNat, Int.reduceNeg, wr_0, List.getElem?_cons_zero, List.getElem?_cons_succ]
      all_goals first | done | rfl
    · simp -implicitDefEqProofs (disch := omega) only [go_sem, ↓reduceIte]; refine call_B (v_l00In 2 1 6) (by simp -implicitDefEqProofs (disch := omega) only [go_sem, ↓reduceIte, deep, TD.rows, immLL_rI, immLL_rB8, immLL_rS, immLL_rBo, immLL_rII, immLL_rIIt, h, Bool.not_true, Int.natCast_zero, Int.natCast_one, Int.cast_ofNat_Int, Int.ofNat_le, Int.toNat_zero, Nat.sub_zero, Int.le_refl, Int.reduceLT, Int.reduceLE, Int.reduceEq, Int.reduceAdd, Int.reduceSub, Int.reduceMul, Int.reduceToNat, Int.reduceNeg, wr_1, List.getElem?_cons_zero, List.getElem?_cons_succ]; exact rfl) ?_; simp -implicitDefEqProofs (disch := omega) only [go_sem, ↓reduceIte , h, Bool.not_true, Int.natCast_zero, Int.natCast_one, Int.cast_ofNat_Int, Int.ofNat_le, Int.toNat_zero, Nat.sub_zero, Int.le_refl, Int.reduceLT, Int.reduceLE, Int.reduceEq, Int.reduceAdd, Int.reduceSub, Int.reduceMul, Int.reduceToNat, Int.reduceNeg, wr_1, List.getElem?_cons_zero, List.getElem?_cons_succ]
      all_goals first | done | rfl
    · simp -implicitDefEqProofs (disch := omega) only [go_sem, ↓reduceIte]; refine call_B (v_l00In 3 1 6) (by simp -implicitDefEqProofs (disch := omega) only [go_sem, ↓reduceIte, deep, TD.rows, immLL_rI, immLL_rB8, immLL_rS, immLL_rBo, immLL_rII, immLL_rIIt, h, Bool.not_true, Int.natCast_zero, Int.natCast_one, Int.cast_ofNat_Int, Int.ofNat_le, Int.toNat_zero, Nat.sub_zero, Int.le_refl, Int.reduceLT, Int.reduceLE, Int.reduceEq, Int.reduceAdd, Int.reduceSub, Int.reduceMul, Int.reduceToNat, Int.reduceNeg, wr_2, List.getElem?_cons_zero, List.getElem?_cons_succ]; exact rfl) ?_; simp -implicitDefEqProofs (disch := omega) only [go_sem, ↓reduceIte , h, Bool.not_true, Int.natCast_zero, Int.natCast_one, Int.cast_ofNat_Int, Int.ofNat_le, Int.toNat_zero, Nat.sub_zero, Int.le_refl, Int.reduceLT, Int.reduceLE, Int.reduceEq, Int.reduceAdd, Int.reduceSub, Int.reduceMul, Int.reduceToNat, Int.reduceNeg, wr_2, List.getElem?_cons_zero, List.getElem?_cons_succ]
      all_goals first | done | rfl
    · simp -implicitDefEqProofs (disch := omega) only [go_sem, ↓reduceIte]; refine call_B (v_l00In 4 1 6) (by simp -implicitDefEqProofs (disch := omega) only [go_sem, ↓reduceIte, deep, TD.rows, immLL_rI, immLL_rB8, immLL_rS, immLL_rBo, immLL_rII, immLL_rIIt, h, Bool.not_true, Int.natCast_zero, Int.natCast_one, Int.cast_ofNat_Int, Int.ofNat_le, Int.toNat_zero, Nat.sub_zero, Int.le_refl, Int.reduceLT, Int.reduceLE, Int.reduceEq, Int.reduceAdd, Int.reduceSub, Int.reduceMul, Int.reduceToNat, Int.reduceNeg, wr_3, List.getElem?_cons_zero, List.getElem?_cons_succ]; exact rfl) ?_; simp -implicitDefEqProofs (disch := omega) only [go_sem, ↓reduceIte , h, Bool.not_true, Int.natCast_zero, Int.natCast_one, Int.cast_ofNat_Int, Int.ofNat_le, Int.toNat_zero, Nat.sub_zero, Int.le_refl, Int.reduceLT, Int.reduceLE, Int.reduceEq, Int.reduceAdd, Int.reduceSub, Int.reduceMul, Int.reduceToNat, Int.reduceNeg, wr_3, List.getElem?_cons_zero, List.getElem?_cons_succ]
      all_goals first | done | rfl
    · simp -implicitDefEqProofs (disch := omega) only [go_sem, ↓reduceIte]; refine call_B (v_l00In 5 1 6) (by simp -implicitDefEqProofs (disch := omega) only [go_sem, ↓reduceIte, deep, TD.rows, immLL_rI, immLL_rB8, immLL_rS, immLL_rBo, immLL_rII, immLL_rIIt, h, Bool.not_true, Int.natCast_zero, Int.natCast_one, Int.cast_ofNat_Int, Int.ofNat_le, Int.toNat_zero, Nat.sub_zero, Int.le_refl, Int.reduceLT, Int.reduceLE, Int.reduceEq, Int.reduceAdd, Int.reduceSub, Int.reduceMul, Int.reduceToNat, Int.reduceNeg, wr_4, List.getElem?_cons_zero, List.getElem?_cons_succ]; exact rfl) ?_; simp -implicitDefEqProofs (disch := omega) only [go_sem, ↓reduceIte , h, Bool.not_true, Int.natCast_zero, Int.natCast_one, Int.cast_ofNat_Int, Int.ofNat_le, Int.toNat_zero, Nat.sub_zero, Int.le_refl, Int.reduceLT, Int.reduceLE, Int.reduceEq, Int.reduceAdd, Int.reduceSub, Int.reduceMul, Int.reduceToNat, Int.reduceNeg, wr_4, List.getElem?_cons_zero, List.getElem?_cons_succ]
      all_goals first | done | rfl
    · simp -implicitDefEqProofs (disch := omega) only [go_sem, ↓reduceIte]; refine call_B (v_l00In 6 1 6) (by simp -implicitDefEqProofs (disch := omega) only [go_sem, ↓reduceIte, deep, TD.rows, immLL_rI, immLL_rB8, immLL_rS, immLL_rBo, immLL_rII, immLL_rIIt, h, Bool.not_true, Int.natCast_zero, Int.natCast_one, Int.cast_ofNat_Int, Int.ofNat_le, Int.toNat_zero, Nat.sub_zero, Int.le_refl, Int.reduceLT, Int.reduceLE, Int.reduceEq, Int.reduceAdd, Int.reduceSub, Int.reduceMul, Int.reduceToNat, Int.reduceNeg, wr_5, List.getElem?_cons_zero, List.getElem?_cons_succ]; exact rfl) ?_; simp -implicitDefEqProofs (disch := omega) only [go_sem, ↓reduceIte , h, Bool.not_true, Int.natCast_zero, Int.natCast_one, Int.cast_ofNat_Int, Int.ofNat_le, Int.toNat_zero, Nat.sub_zero, Int.le_refl, Int.reduceLT, Int.reduceLE, Int.reduceEq, Int.reduceAdd, Int.reduceSub, Int.reduceMul, Int.reduceToNat, Int.reduceNeg, wr_5, List.getElem?_cons_zero, List.getElem?_cons_succ]
      all_goals first | done | rfl
theorem v_ProofName_impl (k : Int) : Contract Tryd.prog TabG 26 [.v (.int .i64 k)] (.v (.string (nameP k))) := by
  refine law_impl_ProofName ?_; unfold code_impl_ProofName; cases h : inR 1 6 k with
  | false =>
    rw [nameP_none h]; have hI := v_within k 1 6; rw [h] at hI; simp -implicitDefEqProofs (disch := omega) only [go_sem, ↓reduceIte]; refine call_B (hI) (by simp -implicitDefEqProofs (disch := omega) only [go_sem, ↓reduceIte, deep, TD.rows, immLL_rI, immLL_rB8, immLL_rS, immLL_rBo, immLL_rII, immLL_rIIt, Bool.not_false]; exact rfl) ?_; simp -implicitDefEqProofs (disch := omega) only [go_sem, ↓reduceIte , Bool.not_false]
    all_goals first | done | rfl
  | true =>
    rcases kindP h with rfl | rfl | rfl | rfl | rfl | rfl
    · simp -implicitDefEqProofs (disch := omega) only [go_sem, ↓reduceIte]; refine call_B (v_within 1 1 6) (by simp -implicitDefEqProofs (disch := omega) only [go_sem, ↓reduceIte, deep, TD.rows, immLL_rI, immLL_rB8, immLL_rS, immLL_rBo, immLL_rII, immLL_rIIt, h, Bool.not_true, Int.natCast_zero, Int.natCast_one, Int.cast_ofNat_Int, Int.ofNat_le, Int.toNat_zero, Nat.sub_zero, Int.le_refl, Int.reduceLT, Int.reduceLE, Int.reduceEq, Int.reduceAdd, Int.reduceSub, Int.reduceMul, Int.reduceToNat, Int.reduceNeg]; exact rfl) ?_; simp -implicitDefEqProofs (disch := omega) only [go_sem, ↓reduceIte , h, Bool.not_true, Int.natCast_zero, Int.natCast_one, Int.cast_ofNat_Int, Int.ofNat_le, Int.toNat_zero, Nat.sub_zero, Int.le_refl, Int.reduceLT, Int.reduceLE, Int.reduceEq, Int.reduceAdd, Int.reduceSub, Int.reduceMul, Int.reduceToNat, Int.reduceNeg]
      all_goals first | done | rfl
    · simp -implicitDefEqProofs (disch := omega) only [go_sem, ↓reduceIte]; refine call_B (v_within 2 1 6) (by simp -implicitDefEqProofs (disch := omega) only [go_sem, ↓reduceIte, deep, TD.rows, immLL_rI, immLL_rB8, immLL_rS, immLL_rBo, immLL_rII, immLL_rIIt, h, Bool.not_true, Int.natCast_zero, Int.natCast_one, Int.cast_ofNat_Int, Int.ofNat_le, Int.toNat_zero, Nat.sub_zero, Int.le_refl, Int.reduceLT, Int.reduceLE, Int.reduceEq, Int.reduceAdd, Int.reduceSub, Int.reduceMul, Int.reduceToNat, Int.reduceNeg]; exact rfl) ?_; simp -implicitDefEqProofs (disch := omega) only [go_sem, ↓reduceIte , h, Bool.not_true, Int.natCast_zero, Int.natCast_one, Int.cast_ofNat_Int, Int.ofNat_le, Int.toNat_zero, Nat.sub_zero, Int.le_refl, Int.reduceLT, Int.reduceLE, Int.reduceEq, Int.reduceAdd, Int.reduceSub, Int.reduceMul, Int.reduceToNat, Int.reduceNeg]
      all_goals first | done | rfl
    · simp -implicitDefEqProofs (disch := omega) only [go_sem, ↓reduceIte]; refine call_B (v_within 3 1 6) (by simp -implicitDefEqProofs (disch := omega) only [go_sem, ↓reduceIte, deep, TD.rows, immLL_rI, immLL_rB8, immLL_rS, immLL_rBo, immLL_rII, immLL_rIIt, h, Bool.not_true, Int.natCast_zero, Int.natCast_one, Int.cast_ofNat_Int, Int.ofNat_le, Int.toNat_zero, Nat.sub_zero, Int.le_refl, Int.reduceLT, Int.reduceLE, Int.reduceEq, Int.reduceAdd, Int.reduceSub, Int.reduceMul, Int.reduceToNat, Int.reduceNeg]; exact rfl) ?_; simp -implicitDefEqProofs (disch := omega) only [go_sem, ↓reduceIte , h, Bool.not_true, Int.natCast_zero, Int.natCast_one, Int.cast_ofNat_Int, Int.ofNat_le, Int.toNat_zero, Nat.sub_zero, Int.le_refl, Int.reduceLT, Int.reduceLE, Int.reduceEq, Int.reduceAdd, Int.reduceSub, Int.reduceMul, Int.reduceToNat, Int.reduceNeg]
      all_goals first | done | rfl
    · simp -implicitDefEqProofs (disch := omega) only [go_sem, ↓reduceIte]; refine call_B (v_within 4 1 6) (by simp -implicitDefEqProofs (disch := omega) only [go_sem, ↓reduceIte, deep, TD.rows, immLL_rI, immLL_rB8, immLL_rS, immLL_rBo, immLL_rII, immLL_rIIt, h, Bool.not_true, Int.natCast_zero, Int.natCast_one, Int.cast_ofNat_Int, Int.ofNat_le, Int.toNat_zero, Nat.sub_zero, Int.le_refl, Int.reduceLT, Int.reduceLE, Int.reduceEq, Int.reduceAdd, Int.reduceSub, Int.reduceMul, Int.reduceToNat, Int.reduceNeg]; exact rfl) ?_; simp -implicitDefEqProofs (disch := omega) only [go_sem, ↓reduceIte , h, Bool.not_true, Int.natCast_zero, Int.natCast_one, Int.cast_ofNat_Int, Int.ofNat_le, Int.toNat_zero, Nat.sub_zero, Int.le_refl, Int.reduceLT, Int.reduceLE, Int.reduceEq, Int.reduceAdd, Int.reduceSub, Int.reduceMul, Int.reduceToNat, Int.reduceNeg]
      all_goals first | done | rfl
    · simp -implicitDefEqProofs (disch := omega) only [go_sem, ↓reduceIte]; refine call_B (v_within 5 1 6) (by simp -implicitDefEqProofs (disch := omega) only [go_sem, ↓reduceIte, deep, TD.rows, immLL_rI, immLL_rB8, immLL_rS, immLL_rBo, immLL_rII, immLL_rIIt, h, Bool.not_true, Int.natCast_zero, Int.natCast_one, Int.cast_ofNat_Int, Int.ofNat_le, Int.toNat_zero, Nat.sub_zero, Int.le_refl, Int.reduceLT, Int.reduceLE, Int.reduceEq, Int.reduceAdd, Int.reduceSub, Int.reduceMul, Int.reduceToNat, Int.reduceNeg]; exact rfl) ?_; simp -implicitDefEqProofs (disch := omega) only [go_sem, ↓reduceIte , h, Bool.not_true, Int.natCast_zero, Int.natCast_one, Int.cast_ofNat_Int, Int.ofNat_le, Int.toNat_zero, Nat.sub_zero, Int.le_refl, Int.reduceLT, Int.reduceLE, Int.reduceEq, Int.reduceAdd, Int.reduceSub, Int.reduceMul, Int.reduceToNat, Int.reduceNeg]
      all_goals first | done | rfl
    · simp -implicitDefEqProofs (disch := omega) only [go_sem, ↓reduceIte]; refine call_B (v_within 6 1 6) (by simp -implicitDefEqProofs (disch := omega) only [go_sem, ↓reduceIte, deep, TD.rows, immLL_rI, immLL_rB8, immLL_rS, immLL_rBo, immLL_rII, immLL_rIIt, h, Bool.not_true, Int.natCast_zero, Int.natCast_one, Int.cast_ofNat_Int, Int.ofNat_le, Int.toNat_zero, Nat.sub_zero, Int.le_refl, Int.reduceLT, Int.reduceLE, Int.reduceEq, Int.reduceAdd, Int.reduceSub, Int.reduceMul, Int.reduceToNat, Int.reduceNeg]; exact rfl) ?_; simp -implicitDefEqProofs (disch := omega) only [go_sem, ↓reduceIte , h, Bool.not_true, Int.natCast_zero, Int.natCast_one, Int.cast_ofNat_Int, Int.ofNat_le, Int.toNat_zero, Nat.sub_zero, Int.le_refl, Int.reduceLT, Int.reduceLE, Int.reduceEq, Int.reduceAdd, Int.reduceSub, Int.reduceMul, Int.reduceToNat, Int.reduceNeg]
      all_goals first | done | rfl
def wrdL (w : ByteArray) (xs : List Int) (i : Nat) : List ByteArray := w :: (xs.take i).map decS
theorem wrdL_next (w : ByteArray) {xs : List Int} {i : Nat} {x : Int} (hx : xs[i]? = some x) : wrdL w xs (i + 1) = wrdL w xs i ++ [decS x] := by unfold wrdL; rw [List.take_add_one, hx, List.map_append]; rfl
theorem v_numbersLine (w : ByteArray) (hw : w.size ≤ 5) (xs : List Int) (hk : okI xs) (hn : xs.length ≤ 1048576) : Contract Tryd.prog TabG 29 [.v (.string w), .sl false 1 (xs.map rI)] (.v (.string (numW w xs))) := by
  have hL := v_line w (xs.map decS) (by rw [List.length_map]; omega) (by have := numW_size hw hk; unfold numW at this; omega); rw [show lineB (w :: xs.map decS) = numW w xs from rfl, show w :: xs.map decS = wrdL w xs xs.length by unfold wrdL; rw [List.take_length]] at hL; refine law_impl_numbersLine ?_; unfold code_impl_numbersLine; simp -implicitDefEqProofs (disch := omega) only [go_sem, ↓reduceIte]; refine loop_ov (by simp -implicitDefEqProofs (disch := omega) only [go_sem, ↓reduceIte]; exact rfl) (fun i : Nat => [(12, .v (.int .i64 (i : Nat))), (5, .sl true 1 ((wrdL w xs i).map rS))]) (fun _ => by simp only [ovr_nil, ovr_cons, List.set_cons_zero, List.set_cons_succ]; exact rfl) (fun i : Nat => i ≤ xs.length) (fun i : Nat => xs.length - i) (0) (by rw [show wrdL w xs 0 = [w] from rfl, List.map_cons, List.map_nil]; (try simp -implicitDefEqProofs only [nleL_cc, nleL_nn, nle_self, nle_boxs, nle_aggs, nle_nils, and_self, and_true, true_and]) <;> repeat' (first | exact nle_of_eq rfl | exact nle_nil | apply And.intro | apply nle_sl | apply nleLL_cons | apply nleL_cons | exact nleL_nil | exact nleLL_nil | apply nle_box | apply nle_agg)) (Nat.zero_le _) ?_; intro i hi; simp -implicitDefEqProofs (disch := omega) only [go_sem, ↓reduceIte , List.length_map]; refine cond_split ?_ ?_ <;> intro hlt
  · have hlt : i < xs.length := (by simpa using hlt); obtain ⟨x, hx⟩ : ∃ x, xs[i]? = some x := ⟨xs[i], List.getElem?_eq_getElem hlt⟩
    have hD := v_Decimal_impl x (hk x (List.mem_of_getElem? hx)); have hl : (wrdL w xs i).length ≤ 1048577 := (by unfold wrdL; rw [List.length_cons, List.length_map, List.length_take]; omega); simp -implicitDefEqProofs (disch := omega) only [go_sem, ↓reduceIte , List.length_map, Int.toNat_natCast, Int.ofNat_lt, Int.natCast_nonneg, List.getElem?_map, Option.map_some, hlt, hx]; refine call_B (hD) (by simp -implicitDefEqProofs (disch := omega) only [go_sem, ↓reduceIte, deep, TD.rows, immLL_rI, immLL_rB8, immLL_rS, immLL_rBo, immLL_rII, immLL_rIIt, List.length_map, wrN]; exact rfl) ?_; simp -implicitDefEqProofs (disch := omega) only [go_sem, ↓reduceIte , List.length_map, wrN]; refine ⟨by omega, i + 1, by omega, by omega, ?_⟩; rw [wrdL_next w hx, List.map_append]
    (try simp -implicitDefEqProofs only [nleL_cc, nleL_nn, nle_self, nle_boxs, nle_aggs, nle_nils, and_self, and_true, true_and]) <;> repeat' (first | exact nle_of_eq rfl | exact nle_nil | apply And.intro | apply nle_sl | apply nleLL_cons | apply nleL_cons | exact nleL_nil | exact nleLL_nil | apply nle_box | apply nle_agg)
  · obtain rfl : i = xs.length := (by have : ¬ i < xs.length := (by simpa using hlt); omega); simp -implicitDefEqProofs (disch := omega) only [go_sem, ↓reduceIte]; refine call_B (hL) (by simp -implicitDefEqProofs (disch := omega) only [go_sem, ↓reduceIte, deep, TD.rows, immLL_rI, immLL_rB8, immLL_rS, immLL_rBo, immLL_rII, immLL_rIIt]; exact rfl) ?_; simp -implicitDefEqProofs (disch := omega) only [go_sem, ↓reduceIte]
theorem optW_eq (w x y t : ByteArray) : ((((((w ++ ⟨⟨[32]⟩⟩) ++ x) ++ ⟨⟨[32]⟩⟩) ++ y) ++ ⟨⟨[32]⟩⟩) ++ t) ++ ⟨⟨[10]⟩⟩ = lineB [w, x, y, t] := by apply ba_ext; rw [lineB_data]; simp
theorem v_l35Options (w : ByteArray) (hw : w.size ≤ 5) (os : List Option) (hk : ∀ o, o ∈ os → Option.td.ok o) (hn : os.length ≤ 1048576) : Contract Tryd.prog TabG 56 [.v (.string w), .sl false 3 (os.map (Option.td.d false))] (.v (.string (catL (optW w) os))) := by
  have hts := optL_size hw hk; refine law_spec_l35Options ?_; unfold code_spec_l35Options; simp -implicitDefEqProofs (disch := omega) only [go_sem, ↓reduceIte]; refine loop_ov (by simp -implicitDefEqProofs (disch := omega) only [go_sem, ↓reduceIte]; exact rfl) (fun i : Nat => [(6, .v (.int .i64 (i : Nat))), (5, .v (.string (catL (optW w) (os.take i))))]) (fun _ => by simp only [ovr_nil, ovr_cons, List.set_cons_zero, List.set_cons_succ]; exact rfl) (fun i : Nat => i ≤ os.length) (fun i : Nat => os.length - i) (0) (by rw [show catL (optW w) (os.take 0) = ⟨⟨[]⟩⟩ from rfl]; (try simp -implicitDefEqProofs only [nleL_cc, nleL_nn, nle_self, nle_boxs, nle_aggs, nle_nils, and_self, and_true, true_and]) <;> repeat' (first | exact nle_of_eq rfl | exact nle_nil | apply And.intro | apply nle_sl | apply nleLL_cons | apply nleL_cons | exact nleL_nil | exact nleLL_nil | apply nle_box | apply nle_agg)) (Nat.zero_le _) ?_; intro i hi; simp -implicitDefEqProofs (disch := omega) only [go_sem, ↓reduceIte , List.length_map]; refine cond_split ?_ ?_ <;> intro hlt
  · have hlt : i < os.length := (by simpa using hlt); obtain ⟨o, hx⟩ : ∃ o, os[i]? = some o := ⟨os[i], List.getElem?_eq_getElem hlt⟩
    have ho := hk o (List.mem_of_getElem? hx); rw [Option.td_ok, Point.td_ok] at ho; have hti := hts i; have hE1 := v_Decimal_spec o.At.X ho.1.1; have hE2 := v_Decimal_spec o.At.Y ho.1.2; have hE3 := v_Decimal_spec o.Tile ho.2; obtain ⟨b1, f1, t1, y1⟩ := add_lit w [32] hw (Nat.le_refl 1) (by omega); obtain ⟨b2, f2, t2, y2⟩ := add_step b1 (decS o.At.X) t1 (decS_size _ ho.1.1) (by omega); obtain ⟨b3, f3, t3, y3⟩ := add_lit b2 [32] t2 (Nat.le_refl 1) (by omega); obtain ⟨b4, f4, t4, y4⟩ := add_step b3 (decS o.At.Y) t3 (decS_size _ ho.1.2) (by omega); obtain ⟨b5, f5, t5, y5⟩ := add_lit b4 [32] t4 (Nat.le_refl 1) (by omega); obtain ⟨b6, f6, t6, y6⟩ := add_step b5 (decS o.Tile) t5 (decS_size _ ho.2) (by omega); obtain ⟨b7, f7, t7, y7⟩ := add_lit b6 [10] t6 (Nat.le_refl 1) (by omega); obtain ⟨b8, f8, t8, y8⟩ := add_step (catL (optW w) (os.take i)) b7 hti t7 (by omega); have hrow : catL (optW w) (os.take (i + 1)) = b8 := (by rw [catL_take _ hx, ← f8, ← f7, ← f6, ← f5, ← f4, ← f3, ← f2, ← f1]; exact congrArg _ (optW_eq _ _ _ _).symm); simp -implicitDefEqProofs (disch := omega) only [go_sem, ↓reduceIte , List.length_map, Int.toNat_natCast, Int.ofNat_lt, Int.natCast_nonneg, List.getElem?_map, Option.map_some, hlt, hx, Option.td_d, Point.td_d, f1, y1, true_and]; refine call_NB (hE1) (by simp -implicitDefEqProofs (disch := omega) only [go_sem, ↓reduceIte, deep, TD.rows, immLL_rI, immLL_rB8, immLL_rS, immLL_rBo, immLL_rII, immLL_rIIt, List.length_map, Int.toNat_natCast, Int.ofNat_lt, Int.natCast_nonneg, List.getElem?_map, Option.map_some, hlt, hx, Option.td_d, Point.td_d, f2, y2, f3, y3, true_and]; exact rfl) ?_; simp -implicitDefEqProofs (disch := omega) only [go_sem, ↓reduceIte , List.length_map, Int.toNat_natCast, Int.ofNat_lt, Int.natCast_nonneg, List.getElem?_map, Option.map_some, hlt, hx, Option.td_d, Point.td_d, f2, y2, f3, y3, true_and]; refine call_NB (hE2) (by simp -implicitDefEqProofs (disch := omega) only [go_sem, ↓reduceIte, deep, TD.rows, immLL_rI, immLL_rB8, immLL_rS, immLL_rBo, immLL_rII, immLL_rIIt, List.length_map, Int.toNat_natCast, Int.ofNat_lt, Int.natCast_nonneg, List.getElem?_map, Option.map_some, hlt, hx, Option.td_d, Point.td_d, f4, y4, f5, y5, true_and]; exact rfl) ?_; simp -implicitDefEqProofs (disch := omega) only [go_sem, ↓reduceIte , List.length_map, Int.toNat_natCast, Int.ofNat_lt, Int.natCast_nonneg, List.getElem?_map, Option.map_some, hlt, hx, Option.td_d, Point.td_d, f4, y4, f5, y5, true_and]; refine call_NB (hE3) (by simp -implicitDefEqProofs (disch := omega) only [go_sem, ↓reduceIte, deep, TD.rows, immLL_rI, immLL_rB8, immLL_rS, immLL_rBo, immLL_rII, immLL_rIIt, f6, y6, f7, y7, f8, y8, true_and, wrN]; exact rfl) ?_; simp -implicitDefEqProofs (disch := omega) only [go_sem, ↓reduceIte , f6, y6, f7, y7, f8, y8, true_and, wrN]; refine ⟨i + 1, by omega, by omega, ?_⟩; rw [hrow]
    (try simp -implicitDefEqProofs only [nleL_cc, nleL_nn, nle_self, nle_boxs, nle_aggs, nle_nils, and_self, and_true, true_and]) <;> repeat' (first | exact nle_of_eq rfl | exact nle_nil | apply And.intro | apply nle_sl | apply nleLL_cons | apply nleL_cons | exact nleL_nil | exact nleLL_nil | apply nle_box | apply nle_agg)
  · obtain rfl : i = os.length := (by have : ¬ i < os.length := (by simpa using hlt); omega); simp -implicitDefEqProofs (disch := omega) only [go_sem, ↓reduceIte , List.take_length]
def curN (w : ByteArray) (xs : List Int) (i : Nat) : ByteArray := w ++ catL (fun x => (⟨⟨[32]⟩⟩ : ByteArray) ++ decS x) (xs.take i)
theorem curN_all (w : ByteArray) (xs : List Int) : curN w xs xs.length ++ ⟨⟨[10]⟩⟩ = numW w xs := by
  unfold curN numW; rw [List.take_length]; have h : ∀ (l : List Int) (a : ByteArray), (l.foldl (fun a x => a ++ ((⟨⟨[32]⟩⟩ : ByteArray) ++ decS x)) a).data.toList = a.data.toList ++ (l.map fun x => (32 : UInt8) :: (decS x).data.toList).flatten := by
    intro l; induction l with
    | nil => intro a; simp
    | cons x l ih => intro a; rw [List.foldl_cons, ih]; simp
  apply ba_ext; rw [lineB_data]; have := h xs cE; unfold catL; simp only [ByteArray.data_append, Array.toList_append, this, List.map_map, Function.comp_def]; simp [cE]
theorem curN_size {w : ByteArray} (hw : w.size ≤ 5) {xs : List Int} (h : okI xs) (i : Nat) : (curN w xs i).size ≤ 5 + 21 * xs.length := by
  unfold curN; rw [ba_size, catL_size]; have h1 := sumB_take (fun x => ((⟨⟨[32]⟩⟩ : ByteArray) ++ decS x).size) xs i; have h2 := sumK_le (f := fun x => ((⟨⟨[32]⟩⟩ : ByteArray) ++ decS x).size) (K := 21) (l := xs) (fun x hx => by
    have := decS_size x (h x hx); show ((⟨⟨[32]⟩⟩ : ByteArray) ++ decS x).size ≤ 21; rw [ba_size]; have e : (⟨⟨[32]⟩⟩ : ByteArray).size = 1 := rfl; omega)
  omega
theorem v_l35Numbers (w : ByteArray) (hw : w.size ≤ 5) (xs : List Int) (hk : okI xs) (hn : xs.length ≤ 1048576) : Contract Tryd.prog TabG 57 [.v (.string w), .sl false 1 (xs.map rI)] (.v (.string (numW w xs))) := by
  have hts := curN_size hw hk; refine law_spec_l35Numbers ?_; unfold code_spec_l35Numbers; simp -implicitDefEqProofs (disch := omega) only [go_sem, ↓reduceIte]; refine loop_ov (by simp -implicitDefEqProofs (disch := omega) only [go_sem, ↓reduceIte]; exact rfl) (fun i : Nat => [(6, .v (.int .i64 (i : Nat))), (5, .v (.string (curN w xs i)))]) (fun _ => by simp only [ovr_nil, ovr_cons, List.set_cons_zero, List.set_cons_succ]; exact rfl) (fun i : Nat => i ≤ xs.length) (fun i : Nat => xs.length - i) (0) (by rw [show curN w xs 0 = w from app_cE w]; (try simp -implicitDefEqProofs only [nleL_cc, nleL_nn, nle_self, nle_boxs, nle_aggs, nle_nils, and_self, and_true, true_and]) <;> repeat' (first | exact nle_of_eq rfl | exact nle_nil | apply And.intro | apply nle_sl | apply nleLL_cons | apply nleL_cons | exact nleL_nil | exact nleLL_nil | apply nle_box | apply nle_agg)) (Nat.zero_le _) ?_; intro i hi; simp -implicitDefEqProofs (disch := omega) only [go_sem, ↓reduceIte , List.length_map]; refine cond_split ?_ ?_ <;> intro hlt
  · have hlt : i < xs.length := (by simpa using hlt); obtain ⟨x, hx⟩ : ∃ x, xs[i]? = some x := ⟨xs[i], List.getElem?_eq_getElem hlt⟩
    have hkx := hk x (List.mem_of_getElem? hx); have hD := v_Decimal_spec x hkx; obtain ⟨b1, f1, t1, y1⟩ := lit_add [32] (decS x) (Nat.le_refl 1) (decS_size _ hkx) (by omega); obtain ⟨b2, f2, t2, y2⟩ := add_step (curN w xs i) b1 (hts i) t1 (by omega); have hrow : curN w xs (i + 1) = b2 := (by rw [← f2, ← f1]; unfold curN; rw [catL_take _ hx, ba_assoc]); simp -implicitDefEqProofs (disch := omega) only [go_sem, ↓reduceIte , List.length_map, Int.toNat_natCast, Int.ofNat_lt, Int.natCast_nonneg, List.getElem?_map, Option.map_some, hlt, hx]; refine call_B (hD) (by simp -implicitDefEqProofs (disch := omega) only [go_sem, ↓reduceIte, deep, TD.rows, immLL_rI, immLL_rB8, immLL_rS, immLL_rBo, immLL_rII, immLL_rIIt, f1, y1, f2, y2, true_and, wrN]; exact rfl) ?_; simp -implicitDefEqProofs (disch := omega) only [go_sem, ↓reduceIte , f1, y1, f2, y2, true_and, wrN]; refine ⟨i + 1, by omega, by omega, ?_⟩; rw [hrow]
    (try simp -implicitDefEqProofs only [nleL_cc, nleL_nn, nle_self, nle_boxs, nle_aggs, nle_nils, and_self, and_true, true_and]) <;> repeat' (first | exact nle_of_eq rfl | exact nle_nil | apply And.intro | apply nle_sl | apply nleLL_cons | apply nleL_cons | exact nleL_nil | exact nleLL_nil | apply nle_box | apply nle_agg)
  · obtain rfl : i = xs.length := (by have : ¬ i < xs.length := (by simpa using hlt); omega); obtain ⟨b1, f1, t1, y1⟩ := add_lit (curN w xs xs.length) [10] (hts _) (Nat.le_refl 1) (by omega); rw [← curN_all, f1]; simp -implicitDefEqProofs (disch := omega) only [go_sem, ↓reduceIte , f1, y1, true_and]
def flT (p : Proof) (i : Nat) : ByteArray := pT3 p ++ catL (numW wFlow) (p.Flows.take i)
structure PSm (p : Proof) : Prop where
  s : ∀ o, o ∈ p.Sequence → Option.td.ok o
  o : ∀ o, o ∈ p.Other → Option.td.ok o
  q : okI p.Part
  f : ∀ y, y ∈ p.Flows → okI y
  n : p.Sequence.length + p.Other.length + p.Part.length + (p.Flows.map fun x => x.length + 1).sum ≤ 1048576
theorem sum_one (fs : List (List Int)) : (fs.map fun x => x.length + 1).sum = fs.length + (fs.map fun x => x.length).sum := by
  induction fs with
  | nil => rfl
  | cons x fs ih => simp only [List.map_cons, List.sum_cons, List.length_cons, ih]; omega
theorem psm {p : Proof} (h : Proof.td.ok p) (hn : Proof.cnt p ≤ 1048576) : PSm p := by rw [Proof.td_ok] at h; have e : Proof.cnt p = p.Sequence.length + p.Other.length + p.Part.length + cntL (fun x : List Int => x.length) p.Flows := rfl; have e2 : cntL (fun x : List Int => x.length) p.Flows = (p.Flows.map fun x => x.length + 1).sum := (sum_one _).symm; exact ⟨h.2.1, h.2.2.1, h.2.2.2.1, h.2.2.2.2, by omega⟩
theorem mem_sum {fs : List (List Int)} {x : List Int} (h : x ∈ fs) : x.length + 1 ≤ (fs.map fun x => x.length + 1).sum := by
  induction fs with
  | nil => cases h
  | cons y fs ih =>
    simp only [List.map_cons, List.sum_cons]; rcases List.mem_cons.1 h with rfl | h
    · omega
    · have := ih h; omega
theorem pT1i_size {p : Proof} (h : PSm p) (i : Nat) : (pT0 p ++ catL (optW wPut) (p.Sequence.take i)).size ≤ 18 + 84 * p.Sequence.length := by have h0 := pT0_size p; have h1 := optL_size (w := wPut) (by decide) h.s i; rw [ba_size]; omega
theorem pT1_size {p : Proof} (h : PSm p) : (pT1 p).size ≤ 18 + 84 * p.Sequence.length := by have := pT1i_size h p.Sequence.length; rwa [List.take_length] at this
theorem pT2i_size {p : Proof} (h : PSm p) (i : Nat) : (pT1 p ++ catL (optW wOther) (p.Other.take i)).size ≤ 18 + 84 * p.Sequence.length + 84 * p.Other.length := by have h0 := pT1_size h; have h1 := optL_size (w := wOther) (by decide) h.o i; rw [ba_size]; omega
theorem pT2_size {p : Proof} (h : PSm p) : (pT2 p).size ≤ 18 + 84 * p.Sequence.length + 84 * p.Other.length := by have := pT2i_size h p.Other.length; rwa [List.take_length] at this
theorem pT3_size {p : Proof} (h : PSm p) : (pT3 p).size ≤ 18 + 84 * p.Sequence.length + 84 * p.Other.length + 21 * (p.Part.length + 1) := by
  have h0 := pT2_size h; have h1 := numW_size (w := wPart) (by decide) h.q; unfold pT3; split
  · omega
  · rw [ba_size]; omega
theorem flT_size {p : Proof} (h : PSm p) (i : Nat) : (flT p i).size ≤ 18 + 84 * p.Sequence.length + 84 * p.Other.length + 21 * (p.Part.length + 1) + 21 * (p.Flows.map fun x => x.length + 1).sum := by have h0 := pT3_size h; have h1 := flowL_size h.f i; unfold flT; rw [ba_size]; omega
theorem flT_zero (p : Proof) : flT p 0 = pT3 p := app_cE _
theorem flT_next (p : Proof) {i : Nat} {x : List Int} (hx : p.Flows[i]? = some x) : flT p (i + 1) = flT p i ++ numW wFlow x := by unfold flT; rw [catL_take _ hx, ba_assoc]
theorem flT_all {p : Proof} (h : inR 1 6 p.Kind = true) : flT p p.Flows.length = proofT p := by unfold flT proofT; rw [List.take_length, h]; rfl
theorem pT0_eq (a : ByteArray) : ((⟨⟨[112, 114, 111, 111, 102, 32]⟩⟩ ++ a) ++ ⟨⟨[10]⟩⟩ : ByteArray) = lineB [wProof, a] := by apply ba_ext; rw [lineB_data]; simp [wProof]
set_option maxHeartbeats 2000000 in
theorem v_l35Proof (p : Proof) (h : PSm p) (hk : inR 1 6 p.Kind = true) : Contract Tryd.prog TabG 22 [.iptr (Proof.td.d false p) 0] (.v (.string (proofT p))) := by
  have hN := v_ProofName_spec p.Kind; have hn := h.n; have hfl : p.Flows.length ≤ 1048576 := (by have := sum_one p.Flows; omega); have z0 := pT0_size p; have z1 := pT1_size h; have z2 := pT2_size h; have z3 := pT3_size h; have zf := flT_size h; have hP := v_l35Options wPut (by decide) p.Sequence h.s (by omega); have hO := v_l35Options wOther (by decide) p.Other h.o (by omega); have hQ := v_l35Numbers wPart (by decide) p.Part h.q (by omega); have sP := optL_size (w := wPut) (by decide) h.s p.Sequence.length; have sO := optL_size (w := wOther) (by decide) h.o p.Other.length; have sQ := numW_size (w := wPart) (by decide) h.q; rw [List.take_length] at sP sO; obtain ⟨a1, e1, s1, w1⟩ := lit_add [112, 114, 111, 111, 102, 32] (nameP p.Kind) (n := 6) (m := 8) (by decide) (nameP_size _) (by omega); obtain ⟨a2, e2, s2, w2⟩ := add_lit a1 [10] s1 (Nat.le_refl 1) (by omega); have h0 : a2 = pT0 p := (by rw [← e2, ← e1]; exact pT0_eq _); obtain ⟨a3, e3, s3, w3⟩ := add_step a2 (catL (optW wPut) p.Sequence) s2 sP (by omega); have h1 : a3 = pT1 p := (by rw [← e3, h0]; rfl); obtain ⟨a4, e4, s4, w4⟩ := add_step a3 (catL (optW wOther) p.Other) s3 sO (by omega); have h2 : a4 = pT2 p := (by rw [← e4, h1]; rfl); obtain ⟨a5, e5, s5, w5⟩ := add_step a4 (numW wPart p.Part) s4 sQ (by omega); rw [show wPut = ⟨⟨[112, 117, 116]⟩⟩ from rfl] at hP e3 w3; rw [show wOther = ⟨⟨[111, 116, 104, 101, 114]⟩⟩ from rfl] at hO e4 w4; rw [show wPart = ⟨⟨[112, 97, 114, 116]⟩⟩ from rfl] at hQ e5 w5; rw [Proof.td_d]; refine law_spec_l35Proof ?_; unfold code_spec_l35Proof; simp -implicitDefEqProofs (disch := omega) only [go_sem, ↓reduceIte]; refine call_NB (hN) (by simp -implicitDefEqProofs (disch := omega) only [go_sem, ↓reduceIte, deep, TD.rows, immLL_rI, immLL_rB8, immLL_rS, immLL_rBo, immLL_rII, immLL_rIIt, e1, w1, e2, w2, true_and]; exact rfl) ?_; simp -implicitDefEqProofs (disch := omega) only [go_sem, ↓reduceIte , e1, w1, e2, w2, true_and]; refine call_NB (hP) (by simp -implicitDefEqProofs (disch := omega) only [go_sem, ↓reduceIte, deep, TD.rows, immLL_rI, immLL_rB8, immLL_rS, immLL_rBo, immLL_rII, immLL_rIIt, e3, w3, true_and]; exact rfl) ?_; simp -implicitDefEqProofs (disch := omega) only [go_sem, ↓reduceIte , e3, w3, true_and]; refine call_NB (hO) (by simp -implicitDefEqProofs (disch := omega) only [go_sem, ↓reduceIte, deep, TD.rows, immLL_rI, immLL_rB8, immLL_rS, immLL_rBo, immLL_rII, immLL_rIIt, e4, w4, true_and, List.length_map]; exact rfl) ?_; simp -implicitDefEqProofs (disch := omega) only [go_sem, ↓reduceIte , e4, w4, true_and, List.length_map]; refine cond_split ?_ ?_ <;> intro hp
  · have hb : flT p 0 = a5 := (by have : p.Part.length ≠ 0 := (by have : (0 : Int) < (p.Part.length : Int) := (by simpa using hp); omega); rw [flT_zero, ← e5, h2]; unfold pT3; rw [if_neg this]; rfl); simp -implicitDefEqProofs (disch := omega) only [go_sem, ↓reduceIte]; refine call_B (hQ) (by simp -implicitDefEqProofs (disch := omega) only [go_sem, ↓reduceIte, deep, TD.rows, immLL_rI, immLL_rB8, immLL_rS, immLL_rBo, immLL_rII, immLL_rIIt, e5, w5, true_and]; exact rfl) ?_; simp -implicitDefEqProofs (disch := omega) only [go_sem, ↓reduceIte , e5, w5, true_and]; refine loop_ov (by simp -implicitDefEqProofs (disch := omega) only [go_sem, ↓reduceIte]; exact rfl) (fun i : Nat => [(4, .v (.int .i64 (i : Nat))), (3, .v (.string (flT p i)))]) (fun _ => by simp only [ovr_nil, ovr_cons, List.set_cons_zero, List.set_cons_succ]; exact rfl) (fun i : Nat => i ≤ p.Flows.length) (fun i : Nat => p.Flows.length - i) (0) (by rw [hb]; (try simp -implicitDefEqProofs only [nleL_cc, nleL_nn, nle_self, nle_boxs, nle_aggs, nle_nils, and_self, and_true, true_and]) <;> repeat' (first | exact nle_of_eq rfl | exact nle_nil | apply And.intro | apply nle_sl | apply nleLL_cons | apply nleL_cons | exact nleL_nil | exact nleLL_nil | apply nle_box | apply nle_agg)) (Nat.zero_le _) ?_; intro i hi; simp -implicitDefEqProofs (disch := omega) only [go_sem, ↓reduceIte , List.length_map]; refine cond_split ?_ ?_ <;> intro hlt
    · have hlt : i < p.Flows.length := (by simpa using hlt); obtain ⟨x, hx⟩ : ∃ x, p.Flows[i]? = some x := ⟨p.Flows[i], List.getElem?_eq_getElem hlt⟩
      have hm := mem_sum (List.mem_of_getElem? hx); have hkx := h.f x (List.mem_of_getElem? hx); have hQx := v_l35Numbers wFlow (by decide) x hkx (by omega); obtain ⟨b1, f1, t1, y1⟩ := add_step (flT p i) (numW wFlow x) (zf i) (numW_size (by decide) hkx) (by omega); rw [show wFlow = ⟨⟨[102, 108, 111, 119]⟩⟩ from rfl] at hQx f1 y1; have hrow : flT p (i + 1) = b1 := (by rw [flT_next p hx, ← f1]; rfl); simp -implicitDefEqProofs (disch := omega) only [go_sem, ↓reduceIte , List.length_map, Int.toNat_natCast, Int.ofNat_lt, Int.natCast_nonneg, List.getElem?_map, Option.map_some, hlt, hx]; refine call_B (hQx) (by simp -implicitDefEqProofs (disch := omega) only [go_sem, ↓reduceIte, deep, TD.rows, immLL_rI, immLL_rB8, immLL_rS, immLL_rBo, immLL_rII, immLL_rIIt, f1, y1, true_and, wrN]; exact rfl) ?_; simp -implicitDefEqProofs (disch := omega) only [go_sem, ↓reduceIte , f1, y1, true_and, wrN]; refine ⟨i + 1, by omega, by omega, ?_⟩; rw [hrow]
      (try simp -implicitDefEqProofs only [nleL_cc, nleL_nn, nle_self, nle_boxs, nle_aggs, nle_nils, and_self, and_true, true_and]) <;> repeat' (first | exact nle_of_eq rfl | exact nle_nil | apply And.intro | apply nle_sl | apply nleLL_cons | apply nleL_cons | exact nleL_nil | exact nleLL_nil | apply nle_box | apply nle_agg)
    · obtain rfl : i = p.Flows.length := (by have : ¬ i < p.Flows.length := (by simpa using hlt); omega); rw [flT_all hk]; simp -implicitDefEqProofs (disch := omega) only [go_sem, ↓reduceIte]
  · have hb : flT p 0 = a4 := (by have : p.Part.length = 0 := (by have : ¬ (0 : Int) < (p.Part.length : Int) := (by simpa using hp); omega); rw [flT_zero, h2]; unfold pT3; rw [if_pos this]); simp -implicitDefEqProofs (disch := omega) only [go_sem, ↓reduceIte]; refine loop_ov (by simp -implicitDefEqProofs (disch := omega) only [go_sem, ↓reduceIte]; exact rfl) (fun i : Nat => [(4, .v (.int .i64 (i : Nat))), (3, .v (.string (flT p i)))]) (fun _ => by simp only [ovr_nil, ovr_cons, List.set_cons_zero, List.set_cons_succ]; exact rfl) (fun i : Nat => i ≤ p.Flows.length) (fun i : Nat => p.Flows.length - i) (0) (by rw [hb]; (try simp -implicitDefEqProofs only [nleL_cc, nleL_nn, nle_self, nle_boxs, nle_aggs, nle_nils, and_self, and_true, true_and]) <;> repeat' (first | exact nle_of_eq rfl | exact nle_nil | apply And.intro | apply nle_sl | apply nleLL_cons | apply nleL_cons | exact nleL_nil | exact nleLL_nil | apply nle_box | apply nle_agg)) (Nat.zero_le _) ?_; intro i hi; simp -implicitDefEqProofs (disch := omega) only [go_sem, ↓reduceIte , List.length_map]; refine cond_split ?_ ?_ <;> intro hlt
    · have hlt : i < p.Flows.length := (by simpa using hlt); obtain ⟨x, hx⟩ : ∃ x, p.Flows[i]? = some x := ⟨p.Flows[i], List.getElem?_eq_getElem hlt⟩
      have hm := mem_sum (List.mem_of_getElem? hx); have hkx := h.f x (List.mem_of_getElem? hx); have hQx := v_l35Numbers wFlow (by decide) x hkx (by omega); obtain ⟨b1, f1, t1, y1⟩ := add_step (flT p i) (numW wFlow x) (zf i) (numW_size (by decide) hkx) (by omega); rw [show wFlow = ⟨⟨[102, 108, 111, 119]⟩⟩ from rfl] at hQx f1 y1; have hrow : flT p (i + 1) = b1 := (by rw [flT_next p hx, ← f1]; rfl); simp -implicitDefEqProofs (disch := omega) only [go_sem, ↓reduceIte , List.length_map, Int.toNat_natCast, Int.ofNat_lt, Int.natCast_nonneg, List.getElem?_map, Option.map_some, hlt, hx]; refine call_B (hQx) (by simp -implicitDefEqProofs (disch := omega) only [go_sem, ↓reduceIte, deep, TD.rows, immLL_rI, immLL_rB8, immLL_rS, immLL_rBo, immLL_rII, immLL_rIIt, f1, y1, true_and, wrN]; exact rfl) ?_; simp -implicitDefEqProofs (disch := omega) only [go_sem, ↓reduceIte , f1, y1, true_and, wrN]; refine ⟨i + 1, by omega, by omega, ?_⟩; rw [hrow]
      (try simp -implicitDefEqProofs only [nleL_cc, nleL_nn, nle_self, nle_boxs, nle_aggs, nle_nils, and_self, and_true, true_and]) <;> repeat' (first | exact nle_of_eq rfl | exact nle_nil | apply And.intro | apply nle_sl | apply nleLL_cons | apply nleL_cons | exact nleL_nil | exact nleLL_nil | apply nle_box | apply nle_agg)
    · obtain rfl : i = p.Flows.length := (by have : ¬ i < p.Flows.length := (by simpa using hlt); omega); rw [flT_all hk]; simp -implicitDefEqProofs (disch := omega) only [go_sem, ↓reduceIte]
theorem vProofText_spec (q_aP : Proof) (q_aP_ok : Proof.td.ok q_aP) (q_aP_n : Proof.cnt q_aP ≤ 1048576) : Contract Tryd.prog TabG 6 [.agg (Proof.td.d false q_aP)] (.v (.string (proofT q_aP))) := by
  have hN := v_ProofName_spec q_aP.Kind; have hS := psm q_aP_ok q_aP_n; have hT := fun h => v_l35Proof q_aP hS h; rw [Proof.td_d] at *; refine law_spec_ProofText ?_; unfold code_spec_ProofText; cases h : inR 1 6 q_aP.Kind with
  | false =>
    unfold proofT; rw [nameP_none h] at hN; rw [h]; simp only [Bool.false_eq_true, if_false]; unfold cE at *; simp -implicitDefEqProofs (disch := omega) only [go_sem, ↓reduceIte]; refine call_B (hN) (by simp -implicitDefEqProofs (disch := omega) only [go_sem, ↓reduceIte, deep, TD.rows, immLL_rI, immLL_rB8, immLL_rS, immLL_rBo, immLL_rII, immLL_rIIt, decide_true]; exact rfl) ?_; simp -implicitDefEqProofs (disch := omega) only [go_sem, ↓reduceIte , decide_true]
    all_goals first | done | rfl
  | true =>
    have hd := nameP_some h; unfold cE at hd; have hT := hT h; simp -implicitDefEqProofs (disch := omega) only [go_sem, ↓reduceIte]; refine call_B (hN) (by simp -implicitDefEqProofs (disch := omega) only [go_sem, ↓reduceIte, deep, TD.rows, immLL_rI, immLL_rB8, immLL_rS, immLL_rBo, immLL_rII, immLL_rIIt, hd]; exact rfl) ?_; simp -implicitDefEqProofs (disch := omega) only [go_sem, ↓reduceIte , hd]; refine call_B (hT) (by simp -implicitDefEqProofs (disch := omega) only [go_sem, ↓reduceIte, deep, TD.rows, immLL_rI, immLL_rB8, immLL_rS, immLL_rBo, immLL_rII, immLL_rIIt]; exact rfl) ?_; simp -implicitDefEqProofs (disch := omega) only [go_sem, ↓reduceIte]
    all_goals first | done | rfl
set_option maxHeartbeats 4000000 in
theorem vProofText_impl (q_aP : Proof) (q_aP_ok : Proof.td.ok q_aP) (q_aP_n : Proof.cnt q_aP ≤ 1048576) : Contract Tryd.prog TabG 8 [.agg (Proof.td.d false q_aP)] (.v (.string (proofT q_aP))) := by
  have hN := v_ProofName_impl q_aP.Kind; have h := psm q_aP_ok q_aP_n; clear q_aP_ok q_aP_n; generalize q_aP = p at *; cases hk : inR 1 6 p.Kind with
  | false =>
    rw [Proof.td_d]; refine law_impl_ProofText ?_; unfold code_impl_ProofText; unfold proofT; rw [nameP_none hk] at hN; rw [hk]; simp only [Bool.false_eq_true, if_false]; unfold cE at *; simp -implicitDefEqProofs (disch := omega) only [go_sem, ↓reduceIte]; refine call_B (hN) (by simp -implicitDefEqProofs (disch := omega) only [go_sem, ↓reduceIte, deep, TD.rows, immLL_rI, immLL_rB8, immLL_rS, immLL_rBo, immLL_rII, immLL_rIIt, decide_true]; exact rfl) ?_; simp -implicitDefEqProofs (disch := omega) only [go_sem, ↓reduceIte , decide_true]
    all_goals first | done | rfl
  | true =>
    have hd := nameP_some hk; unfold cE at hd; have hn := h.n; have hfl : p.Flows.length ≤ 1048576 := (by have := sum_one p.Flows; omega); have z0 := pT0_size p; have z1 := pT1_size h; have z2 := pT2_size h; have z3 := pT3_size h; have z1i := pT1i_size h; have z2i := pT2i_size h; have zf := flT_size h; have hL := v_line wProof [nameP p.Kind] (by simp) (by unfold pT0 at z0; omega); rw [show lineB [wProof, nameP p.Kind] = pT0 p from rfl] at hL; have hW := v_WriteString ⟨⟨[]⟩⟩ (pT0 p) (by have : (⟨⟨[]⟩⟩ : ByteArray).size = 0 := rfl; omega); rw [show (⟨⟨[]⟩⟩ : ByteArray) ++ pT0 p = pT0 p ++ catL (optW wPut) (p.Sequence.take 0) from by rw [show catL (optW wPut) (p.Sequence.take 0) = cE from rfl, app_cE]; exact cE_app _] at hW; unfold wProof at hL; rw [Proof.td_d]; refine law_impl_ProofText ?_; unfold code_impl_ProofText; simp -implicitDefEqProofs (disch := omega) only [go_sem, ↓reduceIte]; refine call_B (hN) (by simp -implicitDefEqProofs (disch := omega) only [go_sem, ↓reduceIte, deep, TD.rows, immLL_rI, immLL_rB8, immLL_rS, immLL_rBo, immLL_rII, immLL_rIIt, hd]; exact rfl) ?_; simp -implicitDefEqProofs (disch := omega) only [go_sem, ↓reduceIte , hd]; refine call_B (hL) (by simp -implicitDefEqProofs (disch := omega) only [go_sem, ↓reduceIte, deep, TD.rows, immLL_rI, immLL_rB8, immLL_rS, immLL_rBo, immLL_rII, immLL_rIIt]; exact rfl) ?_; simp -implicitDefEqProofs (disch := omega) only [go_sem, ↓reduceIte]; refine call_markS (r := 4) hW rfl rfl rfl rfl ?_; simp -implicitDefEqProofs (disch := omega) only [go_sem, ↓reduceIte , List.length_map]; refine loop_ov (by simp -implicitDefEqProofs (disch := omega) only [go_sem, ↓reduceIte]; exact rfl) (fun i : Nat => [(23, .v (.int .i64 (i : Nat))), (4, .mp (.bld 69 5) [(.string (pT0 p ++ catL (optW wPut) (p.Sequence.take i)), undef)])]) (fun _ => by simp only [ovr_nil, ovr_cons, List.set_cons_zero, List.set_cons_succ]; exact rfl) (fun i : Nat => i ≤ p.Sequence.length) (fun i : Nat => p.Sequence.length - i) (0) (nleA) (Nat.zero_le _) ?_; intro i hi; simp -implicitDefEqProofs (disch := omega) only [go_sem, ↓reduceIte , List.length_map]; refine cond_split ?_ ?_ <;> intro hlt
    · have hlt : i < p.Sequence.length := (by simpa using hlt); obtain ⟨o, hx⟩ : ∃ o, p.Sequence[i]? = some o := ⟨p.Sequence[i], List.getElem?_eq_getElem hlt⟩
      have ho := h.s o (List.mem_of_getElem? hx); have hos := optW_size (w := wPut) (by decide) ho; have hq : okI [o.At.X, o.At.Y, o.Tile] := fun x hx => by
        rw [Option.td_ok, Point.td_ok] at ho; simp only [List.mem_cons, List.not_mem_nil, or_false] at hx; rcases hx with rfl | rfl | rfl
        · exact ho.1.1
        · exact ho.1.2
        · exact ho.2
      have hM := v_numbersLine wPut (by decide) [o.At.X, o.At.Y, o.Tile] hq (by simp); rw [show numW wPut [o.At.X, o.At.Y, o.Tile] = optW wPut o from rfl] at hM; have hzi := z1i i; have hWr := v_WriteString (pT0 p ++ catL (optW wPut) (p.Sequence.take i)) (optW wPut o) (by omega); rw [ba_assoc, ← catL_take (optW wPut) hx] at hWr; generalize hcur : pT0 p ++ catL (optW wPut) (p.Sequence.take i) = cur at *; unfold wPut at hM; simp -implicitDefEqProofs (disch := omega) only [go_sem, ↓reduceIte , List.length_map, Int.toNat_natCast, Int.ofNat_lt, Int.natCast_nonneg, List.getElem?_map, Option.map_some, hlt, hx, Option.td_d, Point.td_d]; refine call_B (hM) (by simp -implicitDefEqProofs (disch := omega) only [go_sem, ↓reduceIte, deep, TD.rows, immLL_rI, immLL_rB8, immLL_rS, immLL_rBo, immLL_rII, immLL_rIIt]; exact rfl) ?_; simp -implicitDefEqProofs (disch := omega) only [go_sem, ↓reduceIte]; refine call_markS (r := 4) hWr rfl rfl rfl rfl ?_; simp -implicitDefEqProofs (disch := omega) only [go_sem, ↓reduceIte , wrN]; exact ⟨i + 1, by omega, by omega, nleA⟩
    · obtain rfl : i = p.Sequence.length := (by have : ¬ i < p.Sequence.length := (by simpa using hlt); omega); rw [List.take_length, show pT0 p ++ catL (optW wPut) p.Sequence = pT1 p ++ catL (optW wOther) (p.Other.take 0) from (app_cE (pT1 p)).symm]; simp -implicitDefEqProofs (disch := omega) only [go_sem, ↓reduceIte , List.length_map]; refine loop_ov (by simp -implicitDefEqProofs (disch := omega) only [go_sem, ↓reduceIte]; exact rfl) (fun j : Nat => [(42, .v (.int .i64 (j : Nat))), (4, .mp (.bld 69 5) [(.string (pT1 p ++ catL (optW wOther) (p.Other.take j)), undef)])]) (fun _ => by simp only [ovr_nil, ovr_cons, List.set_cons_zero, List.set_cons_succ]; exact rfl) (fun j : Nat => j ≤ p.Other.length) (fun j : Nat => p.Other.length - j) (0) (nleA) (Nat.zero_le _) ?_; intro j hj; simp -implicitDefEqProofs (disch := omega) only [go_sem, ↓reduceIte , List.length_map]; refine cond_split ?_ ?_ <;> intro hlt
      · have hlt : j < p.Other.length := (by simpa using hlt); obtain ⟨o, hx⟩ : ∃ o, p.Other[j]? = some o := ⟨p.Other[j], List.getElem?_eq_getElem hlt⟩
        have ho := h.o o (List.mem_of_getElem? hx); have hos := optW_size (w := wOther) (by decide) ho; have hq : okI [o.At.X, o.At.Y, o.Tile] := fun x hx => by
          rw [Option.td_ok, Point.td_ok] at ho; simp only [List.mem_cons, List.not_mem_nil, or_false] at hx; rcases hx with rfl | rfl | rfl
          · exact ho.1.1
          · exact ho.1.2
          · exact ho.2
        have hM := v_numbersLine wOther (by decide) [o.At.X, o.At.Y, o.Tile] hq (by simp); rw [show numW wOther [o.At.X, o.At.Y, o.Tile] = optW wOther o from rfl] at hM; have hzi := z2i j; have hWr := v_WriteString (pT1 p ++ catL (optW wOther) (p.Other.take j)) (optW wOther o) (by omega); rw [ba_assoc, ← catL_take (optW wOther) hx] at hWr; unfold wOther at hM; simp -implicitDefEqProofs (disch := omega) only [go_sem, ↓reduceIte , List.length_map, Int.toNat_natCast, Int.ofNat_lt, Int.natCast_nonneg, List.getElem?_map, Option.map_some, hlt, hx, Option.td_d, Point.td_d]; refine call_B (hM) (by simp -implicitDefEqProofs (disch := omega) only [go_sem, ↓reduceIte, deep, TD.rows, immLL_rI, immLL_rB8, immLL_rS, immLL_rBo, immLL_rII, immLL_rIIt]; exact rfl) ?_; simp -implicitDefEqProofs (disch := omega) only [go_sem, ↓reduceIte]; refine call_markS (r := 4) hWr rfl rfl rfl rfl ?_; simp -implicitDefEqProofs (disch := omega) only [go_sem, ↓reduceIte , wrN]; exact ⟨j + 1, by omega, by omega, nleA⟩
      · obtain rfl : j = p.Other.length := (by have : ¬ j < p.Other.length := (by simpa using hlt); omega); rw [List.take_length, show pT1 p ++ catL (optW wOther) p.Other = pT2 p from rfl]; simp -implicitDefEqProofs (disch := omega) only [go_sem, ↓reduceIte , List.length_map]; refine cond_split ?_ ?_ <;> intro hp
        · have hp' : p.Part.length ≠ 0 := (by have : (0 : Int) < (p.Part.length : Int) := (by simpa using hp); omega); have hQ := v_numbersLine wPart (by decide) p.Part h.q (by omega); have sQ := numW_size (w := wPart) (by decide) h.q; have hWr := v_WriteString (pT2 p) (numW wPart p.Part) (by omega); rw [show pT2 p ++ numW wPart p.Part = flT p 0 by rw [flT_zero]; unfold pT3; rw [if_neg hp']] at hWr; unfold wPart at hQ; simp -implicitDefEqProofs (disch := omega) only [go_sem, ↓reduceIte]; refine call_B (hQ) (by simp -implicitDefEqProofs (disch := omega) only [go_sem, ↓reduceIte, deep, TD.rows, immLL_rI, immLL_rB8, immLL_rS, immLL_rBo, immLL_rII, immLL_rIIt]; exact rfl) ?_; simp -implicitDefEqProofs (disch := omega) only [go_sem, ↓reduceIte]; refine call_markS (r := 4) hWr rfl rfl rfl rfl ?_; simp -implicitDefEqProofs (disch := omega) only [go_sem, ↓reduceIte , List.length_map]; refine loop_ov (by simp -implicitDefEqProofs (disch := omega) only [go_sem, ↓reduceIte]; exact rfl) (fun k : Nat => [(69, .v (.int .i64 (k : Nat))), (4, .mp (.bld 69 5) [(.string (flT p k), undef)])]) (fun _ => by simp only [ovr_nil, ovr_cons, List.set_cons_zero, List.set_cons_succ]; exact rfl) (fun k : Nat => k ≤ p.Flows.length) (fun k : Nat => p.Flows.length - k) (0) (nleA) (Nat.zero_le _) ?_; intro k hk2; simp -implicitDefEqProofs (disch := omega) only [go_sem, ↓reduceIte , List.length_map]; refine cond_split ?_ ?_ <;> intro hlt
          · have hlt : k < p.Flows.length := (by simpa using hlt); obtain ⟨x, hx⟩ : ∃ x, p.Flows[k]? = some x := ⟨p.Flows[k], List.getElem?_eq_getElem hlt⟩
            have hm := mem_sum (List.mem_of_getElem? hx); have hkx := h.f x (List.mem_of_getElem? hx); have hQx := v_numbersLine wFlow (by decide) x hkx (by omega); have sx := numW_size (w := wFlow) (by decide) hkx; have hzk := zf k; have hWx := v_WriteString (flT p k) (numW wFlow x) (by omega); rw [← flT_next p hx] at hWx; unfold wFlow at hQx; simp -implicitDefEqProofs (disch := omega) only [go_sem, ↓reduceIte , List.length_map, Int.toNat_natCast, Int.ofNat_lt, Int.natCast_nonneg, List.getElem?_map, Option.map_some, hlt, hx]; refine call_B (hQx) (by simp -implicitDefEqProofs (disch := omega) only [go_sem, ↓reduceIte, deep, TD.rows, immLL_rI, immLL_rB8, immLL_rS, immLL_rBo, immLL_rII, immLL_rIIt]; exact rfl) ?_; simp -implicitDefEqProofs (disch := omega) only [go_sem, ↓reduceIte]; refine call_markS (r := 4) hWx rfl rfl rfl rfl ?_; simp -implicitDefEqProofs (disch := omega) only [go_sem, ↓reduceIte , wrN]; exact ⟨k + 1, by omega, by omega, nleA⟩
          · obtain rfl : k = p.Flows.length := (by have : ¬ k < p.Flows.length := (by simpa using hlt); omega); have hzk := zf p.Flows.length; have hpos : 0 < (flT p p.Flows.length).size := by
              unfold flT; rw [ba_size]; have : 0 < (pT3 p).size := by unfold pT3 pT2 pT1 pT0; split <;> (simp only [ba_size, lineB_size]; omega)
              omega
            have hS := v_BuilderString (flT p p.Flows.length) hpos (by omega); rw [flT_all hk] at *; simp -implicitDefEqProofs (disch := omega) only [go_sem, ↓reduceIte]; refine call_own1 (r := 4) hS rfl rfl rfl ?_; simp -implicitDefEqProofs (disch := omega) only [go_sem, ↓reduceIte]
        · have hp' : p.Part.length = 0 := (by have : ¬ (0 : Int) < (p.Part.length : Int) := (by simpa using hp); omega); rw [show pT2 p = flT p 0 by rw [flT_zero]; unfold pT3; rw [if_pos hp']]; simp -implicitDefEqProofs (disch := omega) only [go_sem, ↓reduceIte , List.length_map]; refine loop_ov (by simp -implicitDefEqProofs (disch := omega) only [go_sem, ↓reduceIte]; exact rfl) (fun k : Nat => [(69, .v (.int .i64 (k : Nat))), (4, .mp (.bld 69 5) [(.string (flT p k), undef)])]) (fun _ => by simp only [ovr_nil, ovr_cons, List.set_cons_zero, List.set_cons_succ]; exact rfl) (fun k : Nat => k ≤ p.Flows.length) (fun k : Nat => p.Flows.length - k) (0) (nleA) (Nat.zero_le _) ?_; intro k hk2; simp -implicitDefEqProofs (disch := omega) only [go_sem, ↓reduceIte , List.length_map]; refine cond_split ?_ ?_ <;> intro hlt
          · have hlt : k < p.Flows.length := (by simpa using hlt); obtain ⟨x, hx⟩ : ∃ x, p.Flows[k]? = some x := ⟨p.Flows[k], List.getElem?_eq_getElem hlt⟩
            have hm := mem_sum (List.mem_of_getElem? hx); have hkx := h.f x (List.mem_of_getElem? hx); have hQx := v_numbersLine wFlow (by decide) x hkx (by omega); have sx := numW_size (w := wFlow) (by decide) hkx; have hzk := zf k; have hWx := v_WriteString (flT p k) (numW wFlow x) (by omega); rw [← flT_next p hx] at hWx; unfold wFlow at hQx; simp -implicitDefEqProofs (disch := omega) only [go_sem, ↓reduceIte , List.length_map, Int.toNat_natCast, Int.ofNat_lt, Int.natCast_nonneg, List.getElem?_map, Option.map_some, hlt, hx]; refine call_B (hQx) (by simp -implicitDefEqProofs (disch := omega) only [go_sem, ↓reduceIte, deep, TD.rows, immLL_rI, immLL_rB8, immLL_rS, immLL_rBo, immLL_rII, immLL_rIIt]; exact rfl) ?_; simp -implicitDefEqProofs (disch := omega) only [go_sem, ↓reduceIte]; refine call_markS (r := 4) hWx rfl rfl rfl rfl ?_; simp -implicitDefEqProofs (disch := omega) only [go_sem, ↓reduceIte , wrN]; exact ⟨k + 1, by omega, by omega, nleA⟩
          · obtain rfl : k = p.Flows.length := (by have : ¬ k < p.Flows.length := (by simpa using hlt); omega); have hzk := zf p.Flows.length; have hpos : 0 < (flT p p.Flows.length).size := by
              unfold flT; rw [ba_size]; have : 0 < (pT3 p).size := by unfold pT3 pT2 pT1 pT0; split <;> (simp only [ba_size, lineB_size]; omega)
              omega
            have hS := v_BuilderString (flT p p.Flows.length) hpos (by omega); rw [flT_all hk] at *; simp -implicitDefEqProofs (disch := omega) only [go_sem, ↓reduceIte]; refine call_own1 (r := 4) hS rfl rfl rfl ?_; simp -implicitDefEqProofs (disch := omega) only [go_sem, ↓reduceIte]
end Go.Proofs.YtlmkgjigldmbaaaDoor
