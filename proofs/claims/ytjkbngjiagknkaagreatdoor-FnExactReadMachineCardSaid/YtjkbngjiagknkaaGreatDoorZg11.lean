/- Laws that the proof stands on. -/
import Derived.Test.YtjkbngjiagknkaaGreatDoorZVB
import Derived.Test.YtjkbngjiagknkaaGreatDoorProg
import Derived.Test.YtjkbngjiagknkaaGreatDoorZVTab
import Derived.Test.YtjkbngjiagknkaaGreatDoorZg8
set_option linter.all false
namespace Go.Proofs.YtjkbngjiagknkaaGreatDoor
open Go.RowKit Go.V
attribute [local go_sem] List.getElem?_cons_succ List.getElem?_cons_zero List.set_cons_succ List.set_cons_zero List.map_cons List.map_nil List.length_cons List.length_nil List.all_cons List.all_nil List.drop_succ_cons List.drop_zero List.take_succ_cons List.take_zero List.flatMap_cons List.flatMap_nil List.cons_append List.nil_append List.append_nil List.headD_cons Value.oneCell' Bool.and_true Bool.true_and Bool.or_false Bool.false_or Bool.and_self Bool.not_true Bool.not_false and_true true_and beq_self_eq_true Bool.false_eq_true if_true if_false Nat.zero_add Nat.reduceAdd Nat.reduceMul Nat.reduceLeDiff Nat.le_refl Option.isSome_some Option.isSome_none not_true_eq_false not_false_eq_true ne_eq reduceCtorEq List.reverse_nil bne_self_eq_false Nat.reduceEqDiff List.isPrefixOf Bool.not_eq_true Bool.and_false Bool.false_and Bool.true_or Bool.or_true decide_true decide_false Nat.reduceBEq Nat.reduceBNe List.replicate_succ List.replicate_zero exists_eq_left' exists_eq_left Option.some.injEq or_false or_true true_or false_or Option.map_some Option.map_none mB Nat.reduceMod Nat.reduceDiv
set_option maxRecDepth 100000
def inR (lo hi n:Int):Bool:=decide (lo≤n)&&decide (n≤hi)
theorem inR_iff {lo hi n:Int}:inR lo hi n=true↔lo≤n∧n≤hi:=by simp [inR]
def code_spec_l00In:VCode:=(.seq (.ops [
  ⟨(some 6),none,(.asg (.const (.bool false)))⟩]) (.seq (.ops [
  ⟨(some 7),none,(.mv (.tmp 0))⟩,
  ⟨(some 8),none,(.mv (.tmp 1))⟩,
  ⟨(some 9),none,(.bin .geq (.tmp 7) (.tmp 8))⟩,
  ⟨(some 10),none,(.mv (.tmp 9))⟩,
  ⟨(some 11),(some (10,true)),(.mv (.tmp 0))⟩,
  ⟨(some 12),(some (10,true)),(.mv (.tmp 2))⟩,
  ⟨(some 13),(some (10,true)),(.bin .leq (.tmp 11) (.tmp 12))⟩,
  ⟨(some 14),none,(.pick (.tmp 10) (.tmp 13) (.const (.bool false)))⟩,
  ⟨(some 6),none,(.asg (.tmp 14))⟩]) .ret))
theorem law_spec_l00In {a0 a1 a2 d:D} (h:code_spec_l00In.wp (CT Tryz.prog TabG) (endQ [(.t 6)] d) [a0,a1,a2,.undef,.undef,.undef,.undef,.undef,.undef,.undef,.undef,.undef,.undef,.undef,.undef]):Contract Tryz.prog TabG 55 [a0,a1,a2] d :=
  contract_of (pt:=0) tabG Tryz.func55 (fun us W=>by kernel_rfl) (c:=Tryz.f55.body.getD .skip) (ms:=[]) (ms':=[]) (by kernel_rfl) (by kernel_rfl) (by kernel_rfl) h
theorem v_l00In (a b c:Int):Contract Tryz.prog TabG 55 [.v (.int .i64 a),.v (.int .i64 b),.v (.int .i64 c)] (.v (.bool (inR b c a))):=by
  refine law_spec_l00In ?_;unfold code_spec_l00In inR;simp -implicitDefEqProofs (disch:=omega) only [go_sem,↓reduceIte];refine guard_split ?_ ?_ <;> intro h
  · simp -implicitDefEqProofs (disch:=omega) only [go_sem,↓reduceIte ,h]
  · simp -implicitDefEqProofs (disch:=omega) only [go_sem,↓reduceIte ,h]
def code_impl_within:VCode:=(.seq (.ops [
  ⟨(some 6),none,(.asg (.const (.bool false)))⟩]) (.seq (.ops [
  ⟨(some 7),none,(.mv (.tmp 0))⟩,
  ⟨(some 8),none,(.mv (.tmp 1))⟩,
  ⟨(some 9),none,(.bin .geq (.tmp 7) (.tmp 8))⟩,
  ⟨(some 10),none,(.mv (.tmp 9))⟩,
  ⟨(some 11),(some (10,true)),(.mv (.tmp 0))⟩,
  ⟨(some 12),(some (10,true)),(.mv (.tmp 2))⟩,
  ⟨(some 13),(some (10,true)),(.bin .leq (.tmp 11) (.tmp 12))⟩,
  ⟨(some 14),none,(.pick (.tmp 10) (.tmp 13) (.const (.bool false)))⟩,
  ⟨(some 6),none,(.asg (.tmp 14))⟩]) .ret))
theorem law_impl_within {a0 a1 a2 d:D} (h:code_impl_within.wp (CT Tryz.prog TabG) (endQ [(.t 6)] d) [a0,a1,a2,.undef,.undef,.undef,.undef,.undef,.undef,.undef,.undef,.undef,.undef,.undef,.undef]):Contract Tryz.prog TabG 60 [a0,a1,a2] d :=
  contract_of (pt:=0) tabG Tryz.func60 (fun us W=>by kernel_rfl) (c:=Tryz.f60.body.getD .skip) (ms:=[]) (ms':=[]) (by kernel_rfl) (by kernel_rfl) (by kernel_rfl) h
theorem v_within (a b c:Int):Contract Tryz.prog TabG 60 [.v (.int .i64 a),.v (.int .i64 b),.v (.int .i64 c)] (.v (.bool (inR b c a))):=by
  refine law_impl_within ?_;unfold code_impl_within inR;simp -implicitDefEqProofs (disch:=omega) only [go_sem,↓reduceIte];refine guard_split ?_ ?_ <;> intro h
  · simp -implicitDefEqProofs (disch:=omega) only [go_sem,↓reduceIte ,h]
  · simp -implicitDefEqProofs (disch:=omega) only [go_sem,↓reduceIte ,h]
def isDig (c:Int):Bool:=decide (48≤c)&&decide (c≤57)
def code_spec_l01Digit:VCode:=(.seq (.ops [
  ⟨(some 2),none,(.asg (.const (.bool false)))⟩]) (.seq (.ops [
  ⟨(some 3),none,(.mv (.tmp 0))⟩,
  ⟨(some 4),none,(.bin .geq (.tmp 3) (.const (.int .u8 48)))⟩,
  ⟨(some 5),none,(.mv (.tmp 4))⟩,
  ⟨(some 6),(some (5,true)),(.mv (.tmp 0))⟩,
  ⟨(some 7),(some (5,true)),(.bin .leq (.tmp 6) (.const (.int .u8 57)))⟩,
  ⟨(some 8),none,(.pick (.tmp 5) (.tmp 7) (.const (.bool false)))⟩,
  ⟨(some 2),none,(.asg (.tmp 8))⟩]) .ret))
theorem law_spec_l01Digit {a0 d:D} (h:code_spec_l01Digit.wp (CT Tryz.prog TabG) (endQ [(.t 2)] d) [a0,.undef,.undef,.undef,.undef,.undef,.undef,.undef,.undef]):Contract Tryz.prog TabG 107 [a0] d :=
  contract_of (pt:=0) tabG Tryz.func107 (fun us W=>by kernel_rfl) (c:=Tryz.f107.body.getD .skip) (ms:=[]) (ms':=[]) (by kernel_rfl) (by kernel_rfl) (by kernel_rfl) h
theorem v_l01Digit (c:Int):Contract Tryz.prog TabG 107 [.v (.int .u8 c)] (.v (.bool (isDig c))):=by
  refine law_spec_l01Digit ?_;unfold code_spec_l01Digit isDig;simp -implicitDefEqProofs (disch:=omega) only [go_sem,↓reduceIte]
  repeat' (first | (refine guard_split ?_ ?_ <;> intro h <;> try (simp -implicitDefEqProofs (disch:=omega) only [go_sem,↓reduceIte,h])) | (refine gd_split ?_ ?_ <;> intro h <;> try (simp -implicitDefEqProofs (disch:=omega) only [go_sem,↓reduceIte,h])) | (refine cond_split ?_ ?_ <;> intro h <;> try (simp -implicitDefEqProofs (disch:=omega) only [go_sem,↓reduceIte,h])))
end Go.Proofs.YtjkbngjiagknkaaGreatDoor
