/- Laws that the proof stands on. -/
import Derived.Test.YtjkbngjiagknkaaGreatDoorZVB
import Derived.Test.YtjkbngjiagknkaaGreatDoorProg
import Derived.Test.YtjkbngjiagknkaaGreatDoorZVTab
import Derived.Test.YtjkbngjiagknkaaGreatDoorZg9
set_option linter.all false
namespace Go.Proofs.YtjkbngjiagknkaaGreatDoor
open Go.RowKit Go.V
attribute [local go_sem] List.getElem?_cons_succ List.getElem?_cons_zero List.set_cons_succ List.set_cons_zero List.map_cons List.map_nil List.length_cons List.length_nil List.all_cons List.all_nil List.drop_succ_cons List.drop_zero List.take_succ_cons List.take_zero List.flatMap_cons List.flatMap_nil List.cons_append List.nil_append List.append_nil List.headD_cons Value.oneCell' Bool.and_true Bool.true_and Bool.or_false Bool.false_or Bool.and_self Bool.not_true Bool.not_false and_true true_and beq_self_eq_true Bool.false_eq_true if_true if_false Nat.zero_add Nat.reduceAdd Nat.reduceMul Nat.reduceLeDiff Nat.le_refl Option.isSome_some Option.isSome_none not_true_eq_false not_false_eq_true ne_eq reduceCtorEq List.reverse_nil bne_self_eq_false Nat.reduceEqDiff List.isPrefixOf Bool.not_eq_true Bool.and_false Bool.false_and Bool.true_or Bool.or_true decide_true decide_false Nat.reduceBEq Nat.reduceBNe List.replicate_succ List.replicate_zero exists_eq_left' exists_eq_left Option.some.injEq or_false or_true true_or false_or Option.map_some Option.map_none mB Nat.reduceMod Nat.reduceDiv
set_option maxRecDepth 100000
def inR (lo hi n:Int):Bool:=decide (lo≤n)&&decide (n≤hi)
theorem inR_iff {lo hi n:Int}:inR lo hi n=true↔lo≤n∧n≤hi:=by simp [inR]
def code_spec_l00In:VCode:=(.seq (.ops [
  ⟨(some 6),none,(.asg (.const (.bool false)))⟩]) (.seq (.ops [
  ⟨(some 7),none,(.mv (.tmp 0))⟩,
  ⟨(some 8),none,(.mv (.tmp 1))⟩,
  ⟨(some 9),none,(.bin .geq (.tmp 7) (.tmp 8))⟩,
  ⟨(some 10),none,(.mv (.tmp 9))⟩,
  ⟨(some 11),(some (10,true)),(.mv (.tmp 0))⟩,
  ⟨(some 12),(some (10,true)),(.mv (.tmp 2))⟩,
  ⟨(some 13),(some (10,true)),(.bin .leq (.tmp 11) (.tmp 12))⟩,
  ⟨(some 14),none,(.pick (.tmp 10) (.tmp 13) (.const (.bool false)))⟩,
  ⟨(some 6),none,(.asg (.tmp 14))⟩]) .ret))
theorem law_spec_l00In {a0 a1 a2 d:D} (h:code_spec_l00In.wp (CT Tryz.prog TabG) (endQ [(.t 6)] d) [a0,a1,a2,.undef,.undef,.undef,.undef,.undef,.undef,.undef,.undef,.undef,.undef,.undef,.undef]):Contract Tryz.prog TabG 55 [a0,a1,a2] d :=
  contract_of (pt:=0) tabG Tryz.func55 (fun us W=>by kernel_rfl) (c:=Tryz.f55.body.getD .skip) (ms:=[]) (ms':=[]) (by kernel_rfl) (by kernel_rfl) (by kernel_rfl) h
theorem v_l00In (a b c:Int):Contract Tryz.prog TabG 55 [.v (.int .i64 a),.v (.int .i64 b),.v (.int .i64 c)] (.v (.bool (inR b c a))):=by
  refine law_spec_l00In ?_;unfold code_spec_l00In inR;simp -implicitDefEqProofs (disch:=omega) only [go_sem,↓reduceIte];refine guard_split ?_ ?_ <;> intro h
  · simp -implicitDefEqProofs (disch:=omega) only [go_sem,↓reduceIte ,h]
  · simp -implicitDefEqProofs (disch:=omega) only [go_sem,↓reduceIte ,h]
def code_impl_within:VCode:=(.seq (.ops [
  ⟨(some 6),none,(.asg (.const (.bool false)))⟩]) (.seq (.ops [
  ⟨(some 7),none,(.mv (.tmp 0))⟩,
  ⟨(some 8),none,(.mv (.tmp 1))⟩,
  ⟨(some 9),none,(.bin .geq (.tmp 7) (.tmp 8))⟩,
  ⟨(some 10),none,(.mv (.tmp 9))⟩,
  ⟨(some 11),(some (10,true)),(.mv (.tmp 0))⟩,
  ⟨(some 12),(some (10,true)),(.mv (.tmp 2))⟩,
  ⟨(some 13),(some (10,true)),(.bin .leq (.tmp 11) (.tmp 12))⟩,
  ⟨(some 14),none,(.pick (.tmp 10) (.tmp 13) (.const (.bool false)))⟩,
  ⟨(some 6),none,(.asg (.tmp 14))⟩]) .ret))
theorem law_impl_within {a0 a1 a2 d:D} (h:code_impl_within.wp (CT Tryz.prog TabG) (endQ [(.t 6)] d) [a0,a1,a2,.undef,.undef,.undef,.undef,.undef,.undef,.undef,.undef,.undef,.undef,.undef,.undef]):Contract Tryz.prog TabG 60 [a0,a1,a2] d :=
  contract_of (pt:=0) tabG Tryz.func60 (fun us W=>by kernel_rfl) (c:=Tryz.f60.body.getD .skip) (ms:=[]) (ms':=[]) (by kernel_rfl) (by kernel_rfl) (by kernel_rfl) h
theorem v_within (a b c:Int):Contract Tryz.prog TabG 60 [.v (.int .i64 a),.v (.int .i64 b),.v (.int .i64 c)] (.v (.bool (inR b c a))):=by
  refine law_impl_within ?_;unfold code_impl_within inR;simp -implicitDefEqProofs (disch:=omega) only [go_sem,↓reduceIte];refine guard_split ?_ ?_ <;> intro h
  · simp -implicitDefEqProofs (disch:=omega) only [go_sem,↓reduceIte ,h]
  · simp -implicitDefEqProofs (disch:=omega) only [go_sem,↓reduceIte ,h]
def isDig (c:Int):Bool:=decide (48≤c)&&decide (c≤57)
def code_spec_l01Digit:VCode:=(.seq (.ops [
  ⟨(some 2),none,(.asg (.const (.bool false)))⟩]) (.seq (.ops [
  ⟨(some 3),none,(.mv (.tmp 0))⟩,
  ⟨(some 4),none,(.bin .geq (.tmp 3) (.const (.int .u8 48)))⟩,
  ⟨(some 5),none,(.mv (.tmp 4))⟩,
  ⟨(some 6),(some (5,true)),(.mv (.tmp 0))⟩,
  ⟨(some 7),(some (5,true)),(.bin .leq (.tmp 6) (.const (.int .u8 57)))⟩,
  ⟨(some 8),none,(.pick (.tmp 5) (.tmp 7) (.const (.bool false)))⟩,
  ⟨(some 2),none,(.asg (.tmp 8))⟩]) .ret))
theorem law_spec_l01Digit {a0 d:D} (h:code_spec_l01Digit.wp (CT Tryz.prog TabG) (endQ [(.t 2)] d) [a0,.undef,.undef,.undef,.undef,.undef,.undef,.undef,.undef]):Contract Tryz.prog TabG 107 [a0] d :=
  contract_of (pt:=0) tabG Tryz.func107 (fun us W=>by kernel_rfl) (c:=Tryz.f107.body.getD .skip) (ms:=[]) (ms':=[]) (by kernel_rfl) (by kernel_rfl) (by kernel_rfl) h
theorem v_l01Digit (c:Int):Contract Tryz.prog TabG 107 [.v (.int .u8 c)] (.v (.bool (isDig c))):=by
  refine law_spec_l01Digit ?_;unfold code_spec_l01Digit isDig;simp -implicitDefEqProofs (disch:=omega) only [go_sem,↓reduceIte]
  repeat' (first | (refine guard_split ?_ ?_ <;> intro h <;> try (simp -implicitDefEqProofs (disch:=omega) only [go_sem,↓reduceIte,h])) | (refine gd_split ?_ ?_ <;> intro h <;> try (simp -implicitDefEqProofs (disch:=omega) only [go_sem,↓reduceIte,h])) | (refine cond_split ?_ ?_ <;> intro h <;> try (simp -implicitDefEqProofs (disch:=omega) only [go_sem,↓reduceIte,h])))
def cE:ByteArray:=⟨⟨[]⟩⟩
def wProof:ByteArray:=⟨⟨[112,114,111,111,102]⟩⟩
def wPut:ByteArray:=⟨⟨[112,117,116]⟩⟩
def wOther:ByteArray:=⟨⟨[111,116,104,101,114]⟩⟩
def wPart:ByteArray:=⟨⟨[112,97,114,116]⟩⟩
def wFlow:ByteArray:=⟨⟨[102,108,111,119]⟩⟩
def nameP (k:Int):ByteArray:=if k=1 then ⟨⟨[103,114,111,119,110]⟩⟩ else if k=2 then ⟨⟨[116,101,114,109,105,110,97,108]⟩⟩ else if k=3 then ⟨⟨[117,110,105,113,117,101]⟩⟩ else if k=4 then ⟨⟨[99,111,110,102,108,105,99,116]⟩⟩ else if k=5 then ⟨⟨[115,116,97,98,108,101]⟩⟩ else if k=6 then ⟨⟨[108,111,111,115,101]⟩⟩ else cE
theorem nameP_none {k:Int} (h:inR 1 6 k=false):nameP k=cE:=by
  have h':¬ (1≤k∧k≤6):=fun e=>by rw [inR_iff.2 e] at h;cases h
  unfold nameP;rw [if_neg (by omega),if_neg (by omega),if_neg (by omega),if_neg (by omega),if_neg (by omega),if_neg (by omega)]
def code_spec_ProofName:VCode:=(.seq (.ops [
  ⟨(some 2),none,(.asg (.const (.string ⟨⟨[]⟩⟩)))⟩]) (.seq (.seq (.ops [
  ⟨(some 3),none,(.mv (.tmp 0))⟩,
  ⟨(some 4),none,(.callX 55 [(.tmp 3),(.const (.int .i64 1)),(.const (.int .i64 6))])⟩,
  ⟨(some 5),none,(.un .not (.tmp 4))⟩]) (.cond (.tmp 5) (.seq (.ops [
  ⟨(some 2),none,(.asg (.const (.string ⟨⟨[]⟩⟩)))⟩]) .ret) .skip)) (.seq (.ops [
  ⟨(some 6),none,(.bsl 1 [(.const (.string ⟨⟨[103,114,111,119,110]⟩⟩)),(.const (.string ⟨⟨[116,101,114,109,105,110,97,108]⟩⟩)),(.const (.string ⟨⟨[117,110,105,113,117,101]⟩⟩)),(.const (.string ⟨⟨[99,111,110,102,108,105,99,116]⟩⟩)),(.const (.string ⟨⟨[115,116,97,98,108,101]⟩⟩)),(.const (.string ⟨⟨[108,111,111,115,101]⟩⟩))])⟩,
  ⟨(some 7),none,(.mv (.tmp 0))⟩,
  ⟨(some 8),none,(.bin .sub (.tmp 7) (.const (.int .i64 1)))⟩,
  ⟨(some 9),none,(.ia 1 (.tmp 6) (.tmp 8))⟩,
  ⟨(some 10),none,(.load 1 false (.tmp 9))⟩,
  ⟨(some 2),none,(.asg (.tmp 10))⟩]) .ret)))
theorem law_spec_ProofName {a0 d:D} (h:code_spec_ProofName.wp (CT Tryz.prog TabG) (endQ [(.t 2)] d) [a0,.undef,.undef,.undef,.undef,.undef,.undef,.undef,.undef,.undef,.undef]):Contract Tryz.prog TabG 91 [a0] d :=
  contract_of (pt:=0) tabG Tryz.func91 (fun us W=>by kernel_rfl) (c:=Tryz.f91.body.getD .skip) (ms:=[]) (ms':=[]) (by kernel_rfl) (by kernel_rfl) (by kernel_rfl) h
def code_impl_ProofName:VCode:=(.seq (.ops [
  ⟨(some 2),none,(.asg (.const (.string ⟨⟨[]⟩⟩)))⟩]) (.seq (.seq (.ops [
  ⟨(some 3),none,(.mv (.tmp 0))⟩,
  ⟨(some 4),none,(.callX 60 [(.tmp 3),(.const (.int .i64 1)),(.const (.int .i64 6))])⟩,
  ⟨(some 5),none,(.un .not (.tmp 4))⟩]) (.cond (.tmp 5) (.seq (.ops [
  ⟨(some 2),none,(.asg (.const (.string ⟨⟨[]⟩⟩)))⟩]) .ret) .skip)) (.seq (.ops [
  ⟨(some 6),none,(.build [(.string ⟨⟨[]⟩⟩),(.string ⟨⟨[]⟩⟩),(.string ⟨⟨[]⟩⟩),(.string ⟨⟨[]⟩⟩),(.string ⟨⟨[]⟩⟩),(.string ⟨⟨[]⟩⟩),(.string ⟨⟨[]⟩⟩)] [(0,1,(.const (.string ⟨⟨[]⟩⟩))),(1,1,(.const (.string ⟨⟨[103,114,111,119,110]⟩⟩))),(2,1,(.const (.string ⟨⟨[116,101,114,109,105,110,97,108]⟩⟩))),(3,1,(.const (.string ⟨⟨[117,110,105,113,117,101]⟩⟩))),(4,1,(.const (.string ⟨⟨[99,111,110,102,108,105,99,116]⟩⟩))),(5,1,(.const (.string ⟨⟨[115,116,97,98,108,101]⟩⟩))),(6,1,(.const (.string ⟨⟨[108,111,111,115,101]⟩⟩)))])⟩,
  ⟨(some 7),none,(.mv (.tmp 0))⟩,
  ⟨(some 8),none,(.ixa 7 1 false (.tmp 6) (.tmp 7))⟩,
  ⟨(some 2),none,(.asg (.tmp 8))⟩]) .ret)))
theorem law_impl_ProofName {a0 d:D} (h:code_impl_ProofName.wp (CT Tryz.prog TabG) (endQ [(.t 2)] d) [a0,.undef,.undef,.undef,.undef,.undef,.undef,.undef,.undef]):Contract Tryz.prog TabG 112 [a0] d :=
  contract_of (pt:=0) tabG Tryz.func112 (fun us W=>by kernel_rfl) (c:=Tryz.f112.body.getD .skip) (ms:=[]) (ms':=[]) (by kernel_rfl) (by kernel_rfl) (by kernel_rfl) h
theorem kindP {k:Int} (h:inR 1 6 k=true):k=1∨k=2∨k=3∨k=4∨k=5∨k=6:=by have h':=inR_iff.1 h;omega
theorem wr_0:IntKind.i64.wrap 0=0:=wrI (by omega) (by omega)
theorem wr_1:IntKind.i64.wrap 1=1:=wrI (by omega) (by omega)
theorem wr_2:IntKind.i64.wrap 2=2:=wrI (by omega) (by omega)
theorem wr_3:IntKind.i64.wrap 3=3:=wrI (by omega) (by omega)
theorem wr_4:IntKind.i64.wrap 4=4:=wrI (by omega) (by omega)
theorem wr_5:IntKind.i64.wrap 5=5:=wrI (by omega) (by omega)
theorem v_ProofName_spec (k:Int):Contract Tryz.prog TabG 91 [.v (.int .i64 k)] (.v (.string (nameP k))):=by
  refine law_spec_ProofName ?_;unfold code_spec_ProofName;cases h:inR 1 6 k with
  | false =>
    rw [nameP_none h];have hI:=v_l00In k 1 6;rw [h] at hI;simp -implicitDefEqProofs (disch:=omega) only [go_sem,↓reduceIte];refine call_B (hI) (by simp -implicitDefEqProofs (disch:=omega) only [go_sem,↓reduceIte,deep,TD.rows,immLL_rI,immLL_rB8,immLL_rS,immLL_rBo,immLL_rII,immLL_rIIt,Bool.not_false];exact rfl) ?_;simp -implicitDefEqProofs (disch:=omega) only [go_sem,↓reduceIte ,Bool.not_false]
    all_goals first | done | rfl
  | true =>
    rcases kindP h with rfl | rfl | rfl | rfl | rfl | rfl
    · simp -implicitDefEqProofs (disch:=omega) only [go_sem,↓reduceIte];refine call_B (v_l00In 1 1 6) (by simp -implicitDefEqProofs (disch:=omega) only [go_sem,↓reduceIte,deep,TD.rows,immLL_rI,immLL_rB8,immLL_rS,immLL_rBo,immLL_rII,immLL_rIIt,h,Bool.not_true,Int.natCast_zero,Int.natCast_one,Int.cast_ofNat_Int,Int.ofNat_le,Int.toNat_zero,Nat.sub_zero,Int.le_refl,Int.reduceLT,Int.reduceLE,Int.reduceEq,Int.reduceAdd,Int.reduceSub,Int.reduceMul,Int.reduceToNat,Int.reduceNeg,wr_0,List.getElem?_cons_zero,List.getElem?_cons_succ];exact rfl) ?_;simp -implicitDefEqProofs (disch:=omega) only [go_sem,↓reduceIte ,h,Bool.not_true,Int.natCast_zero,Int.natCast_one,Int.cast_ofNat_Int,Int.ofNat_le,Int.toNat_zero,Nat.sub_zero,Int.le_refl,Int.reduceLT,Int.reduceLE,Int.reduceEq,Int.reduceAdd,Int.reduceSub,Int.reduceMul,Int.reduceToNat,Int.reduceNeg,wr_0,List.getElem?_cons_zero,List.getElem?_cons_succ]
      all_goals first | done | rfl
    · simp -implicitDefEqProofs (disch:=omega) only [go_sem,↓reduceIte];refine call_B (v_l00In 2 1 6) (by simp -implicitDefEqProofs (disch:=omega) only [go_sem,↓reduceIte,deep,TD.rows,immLL_rI,immLL_rB8,immLL_rS,immLL_rBo,immLL_rII,immLL_rIIt,h,Bool.not_true,Int.natCast_zero,Int.natCast_one,Int.cast_ofNat_Int,Int.ofNat_le,Int.toNat_zero,Nat.sub_zero,Int.le_refl,Int.reduceLT,Int.reduceLE,Int.reduceEq,Int.reduceAdd,Int.reduceSub,Int.reduceMul,Int.reduceToNat,Int.reduceNeg,wr_1,List.getElem?_cons_zero,List.getElem?_cons_succ];exact rfl) ?_;simp -implicitDefEqProofs (disch:=omega) only [go_sem,↓reduceIte ,h,Bool.not_true,Int.natCast_zero,Int.natCast_one,Int.cast_ofNat_Int,Int.ofNat_le,Int.toNat_zero,Nat.sub_zero,Int.le_refl,Int.reduceLT,Int.reduceLE,Int.reduceEq,Int.reduceAdd,Int.reduceSub,Int.reduceMul,Int.reduceToNat,Int.reduceNeg,wr_1,List.getElem?_cons_zero,List.getElem?_cons_succ]
      all_goals first | done | rfl
    · simp -implicitDefEqProofs (disch:=omega) only [go_sem,↓reduceIte];refine call_B (v_l00In 3 1 6) (by simp -implicitDefEqProofs (disch:=omega) only [go_sem,↓reduceIte,deep,TD.rows,immLL_rI,immLL_rB8,immLL_rS,immLL_rBo,immLL_rII,immLL_rIIt,h,Bool.not_true,Int.natCast_zero,Int.natCast_one,Int.cast_ofNat_Int,Int.ofNat_le,Int.toNat_zero,Nat.sub_zero,Int.le_refl,Int.reduceLT,Int.reduceLE,Int.reduceEq,Int.reduceAdd,Int.reduceSub,Int.reduceMul,Int.reduceToNat,Int.reduceNeg,wr_2,List.getElem?_cons_zero,List.getElem?_cons_succ];exact rfl) ?_;simp -implicitDefEqProofs (disch:=omega) only [go_sem,↓reduceIte ,h,Bool.not_true,Int.natCast_zero,Int.natCast_one,Int.cast_ofNat_Int,Int.ofNat_le,Int.toNat_zero,Nat.sub_zero,Int.le_refl,Int.reduceLT,Int.reduceLE,Int.reduceEq,Int.reduceAdd,Int.reduceSub,Int.reduceMul,Int.reduceToNat,Int.reduceNeg,wr_2,List.getElem?_cons_zero,List.getElem?_cons_succ]
      all_goals first | done | rfl
    · simp -implicitDefEqProofs (disch:=omega) only [go_sem,↓reduceIte];refine call_B (v_l00In 4 1 6) (by simp -implicitDefEqProofs (disch:=omega) only [go_sem,↓reduceIte,deep,TD.rows,immLL_rI,immLL_rB8,immLL_rS,immLL_rBo,immLL_rII,immLL_rIIt,h,Bool.not_true,Int.natCast_zero,Int.natCast_one,Int.cast_ofNat_Int,Int.ofNat_le,Int.toNat_zero,Nat.sub_zero,Int.le_refl,Int.reduceLT,Int.reduceLE,Int.reduceEq,Int.reduceAdd,Int.reduceSub,Int.reduceMul,Int.reduceToNat,Int.reduceNeg,wr_3,List.getElem?_cons_zero,List.getElem?_cons_succ];exact rfl) ?_;simp -implicitDefEqProofs (disch:=omega) only [go_sem,↓reduceIte ,h,Bool.not_true,Int.natCast_zero,Int.natCast_one,Int.cast_ofNat_Int,Int.ofNat_le,Int.toNat_zero,Nat.sub_zero,Int.le_refl,Int.reduceLT,Int.reduceLE,Int.reduceEq,Int.reduceAdd,Int.reduceSub,Int.reduceMul,Int.reduceToNat,Int.reduceNeg,wr_3,List.getElem?_cons_zero,List.getElem?_cons_succ]
      all_goals first | done | rfl
    · simp -implicitDefEqProofs (disch:=omega) only [go_sem,↓reduceIte];refine call_B (v_l00In 5 1 6) (by simp -implicitDefEqProofs (disch:=omega) only [go_sem,↓reduceIte,deep,TD.rows,immLL_rI,immLL_rB8,immLL_rS,immLL_rBo,immLL_rII,immLL_rIIt,h,Bool.not_true,Int.natCast_zero,Int.natCast_one,Int.cast_ofNat_Int,Int.ofNat_le,Int.toNat_zero,Nat.sub_zero,Int.le_refl,Int.reduceLT,Int.reduceLE,Int.reduceEq,Int.reduceAdd,Int.reduceSub,Int.reduceMul,Int.reduceToNat,Int.reduceNeg,wr_4,List.getElem?_cons_zero,List.getElem?_cons_succ];exact rfl) ?_;simp -implicitDefEqProofs (disch:=omega) only [go_sem,↓reduceIte ,h,Bool.not_true,Int.natCast_zero,Int.natCast_one,Int.cast_ofNat_Int,Int.ofNat_le,Int.toNat_zero,Nat.sub_zero,Int.le_refl,Int.reduceLT,Int.reduceLE,Int.reduceEq,Int.reduceAdd,Int.reduceSub,Int.reduceMul,Int.reduceToNat,Int.reduceNeg,wr_4,List.getElem?_cons_zero,List.getElem?_cons_succ]
      all_goals first | done | rfl
    · simp -implicitDefEqProofs (disch:=omega) only [go_sem,↓reduceIte];refine call_B (v_l00In 6 1 6) (by simp -implicitDefEqProofs (disch:=omega) only [go_sem,↓reduceIte,deep,TD.rows,immLL_rI,immLL_rB8,immLL_rS,immLL_rBo,immLL_rII,immLL_rIIt,h,Bool.not_true,Int.natCast_zero,Int.natCast_one,Int.cast_ofNat_Int,Int.ofNat_le,Int.toNat_zero,Nat.sub_zero,Int.le_refl,Int.reduceLT,Int.reduceLE,Int.reduceEq,Int.reduceAdd,Int.reduceSub,Int.reduceMul,Int.reduceToNat,Int.reduceNeg,wr_5,List.getElem?_cons_zero,List.getElem?_cons_succ];exact rfl) ?_;simp -implicitDefEqProofs (disch:=omega) only [go_sem,↓reduceIte ,h,Bool.not_true,Int.natCast_zero,Int.natCast_one,Int.cast_ofNat_Int,Int.ofNat_le,Int.toNat_zero,Nat.sub_zero,Int.le_refl,Int.reduceLT,Int.reduceLE,Int.reduceEq,Int.reduceAdd,Int.reduceSub,Int.reduceMul,Int.reduceToNat,Int.reduceNeg,wr_5,List.getElem?_cons_zero,List.getElem?_cons_succ]
      all_goals first | done | rfl
theorem v_ProofName_impl (k:Int):Contract Tryz.prog TabG 112 [.v (.int .i64 k)] (.v (.string (nameP k))):=by
  refine law_impl_ProofName ?_;unfold code_impl_ProofName;cases h:inR 1 6 k with
  | false =>
    rw [nameP_none h];have hI:=v_within k 1 6;rw [h] at hI;simp -implicitDefEqProofs (disch:=omega) only [go_sem,↓reduceIte];refine call_B (hI) (by simp -implicitDefEqProofs (disch:=omega) only [go_sem,↓reduceIte,deep,TD.rows,immLL_rI,immLL_rB8,immLL_rS,immLL_rBo,immLL_rII,immLL_rIIt,Bool.not_false];exact rfl) ?_;simp -implicitDefEqProofs (disch:=omega) only [go_sem,↓reduceIte ,Bool.not_false]
    all_goals first | done | rfl
  | true =>
    rcases kindP h with rfl | rfl | rfl | rfl | rfl | rfl
    · simp -implicitDefEqProofs (disch:=omega) only [go_sem,↓reduceIte];refine call_B (v_within 1 1 6) (by simp -implicitDefEqProofs (disch:=omega) only [go_sem,↓reduceIte,deep,TD.rows,immLL_rI,immLL_rB8,immLL_rS,immLL_rBo,immLL_rII,immLL_rIIt,h,Bool.not_true,Int.natCast_zero,Int.natCast_one,Int.cast_ofNat_Int,Int.ofNat_le,Int.toNat_zero,Nat.sub_zero,Int.le_refl,Int.reduceLT,Int.reduceLE,Int.reduceEq,Int.reduceAdd,Int.reduceSub,Int.reduceMul,Int.reduceToNat,Int.reduceNeg];exact rfl) ?_;simp -implicitDefEqProofs (disch:=omega) only [go_sem,↓reduceIte ,h,Bool.not_true,Int.natCast_zero,Int.natCast_one,Int.cast_ofNat_Int,Int.ofNat_le,Int.toNat_zero,Nat.sub_zero,Int.le_refl,Int.reduceLT,Int.reduceLE,Int.reduceEq,Int.reduceAdd,Int.reduceSub,Int.reduceMul,Int.reduceToNat,Int.reduceNeg]
      all_goals first | done | rfl
    · simp -implicitDefEqProofs (disch:=omega) only [go_sem,↓reduceIte];refine call_B (v_within 2 1 6) (by simp -implicitDefEqProofs (disch:=omega) only [go_sem,↓reduceIte,deep,TD.rows,immLL_rI,immLL_rB8,immLL_rS,immLL_rBo,immLL_rII,immLL_rIIt,h,Bool.not_true,Int.natCast_zero,Int.natCast_one,Int.cast_ofNat_Int,Int.ofNat_le,Int.toNat_zero,Nat.sub_zero,Int.le_refl,Int.reduceLT,Int.reduceLE,Int.reduceEq,Int.reduceAdd,Int.reduceSub,Int.reduceMul,Int.reduceToNat,Int.reduceNeg];exact rfl) ?_;simp -implicitDefEqProofs (disch:=omega) only [go_sem,↓reduceIte ,h,Bool.not_true,Int.natCast_zero,Int.natCast_one,Int.cast_ofNat_Int,Int.ofNat_le,Int.toNat_zero,Nat.sub_zero,Int.le_refl,Int.reduceLT,Int.reduceLE,Int.reduceEq,Int.reduceAdd,Int.reduceSub,Int.reduceMul,Int.reduceToNat,Int.reduceNeg]
      all_goals first | done | rfl
    · simp -implicitDefEqProofs (disch:=omega) only [go_sem,↓reduceIte];refine call_B (v_within 3 1 6) (by simp -implicitDefEqProofs (disch:=omega) only [go_sem,↓reduceIte,deep,TD.rows,immLL_rI,immLL_rB8,immLL_rS,immLL_rBo,immLL_rII,immLL_rIIt,h,Bool.not_true,Int.natCast_zero,Int.natCast_one,Int.cast_ofNat_Int,Int.ofNat_le,Int.toNat_zero,Nat.sub_zero,Int.le_refl,Int.reduceLT,Int.reduceLE,Int.reduceEq,Int.reduceAdd,Int.reduceSub,Int.reduceMul,Int.reduceToNat,Int.reduceNeg];exact rfl) ?_;simp -implicitDefEqProofs (disch:=omega) only [go_sem,↓reduceIte ,h,Bool.not_true,Int.natCast_zero,Int.natCast_one,Int.cast_ofNat_Int,Int.ofNat_le,Int.toNat_zero,Nat.sub_zero,Int.le_refl,Int.reduceLT,Int.reduceLE,Int.reduceEq,Int.reduceAdd,Int.reduceSub,Int.reduceMul,Int.reduceToNat,Int.reduceNeg]
      all_goals first | done | rfl
    · simp -implicitDefEqProofs (disch:=omega) only [go_sem,↓reduceIte];refine call_B (v_within 4 1 6) (by simp -implicitDefEqProofs (disch:=omega) only [go_sem,↓reduceIte,deep,TD.rows,immLL_rI,immLL_rB8,immLL_rS,immLL_rBo,immLL_rII,immLL_rIIt,h,Bool.not_true,Int.natCast_zero,Int.natCast_one,Int.cast_ofNat_Int,Int.ofNat_le,Int.toNat_zero,Nat.sub_zero,Int.le_refl,Int.reduceLT,Int.reduceLE,Int.reduceEq,Int.reduceAdd,Int.reduceSub,Int.reduceMul,Int.reduceToNat,Int.reduceNeg];exact rfl) ?_;simp -implicitDefEqProofs (disch:=omega) only [go_sem,↓reduceIte ,h,Bool.not_true,Int.natCast_zero,Int.natCast_one,Int.cast_ofNat_Int,Int.ofNat_le,Int.toNat_zero,Nat.sub_zero,Int.le_refl,Int.reduceLT,Int.reduceLE,Int.reduceEq,Int.reduceAdd,Int.reduceSub,Int.reduceMul,Int.reduceToNat,Int.reduceNeg]
      all_goals first | done | rfl
    · simp -implicitDefEqProofs (disch:=omega) only [go_sem,↓reduceIte];refine call_B (v_within 5 1 6) (by simp -implicitDefEqProofs (disch:=omega) only [go_sem,↓reduceIte,deep,TD.rows,immLL_rI,immLL_rB8,immLL_rS,immLL_rBo,immLL_rII,immLL_rIIt,h,Bool.not_true,Int.natCast_zero,Int.natCast_one,Int.cast_ofNat_Int,Int.ofNat_le,Int.toNat_zero,Nat.sub_zero,Int.le_refl,Int.reduceLT,Int.reduceLE,Int.reduceEq,Int.reduceAdd,Int.reduceSub,Int.reduceMul,Int.reduceToNat,Int.reduceNeg];exact rfl) ?_;simp -implicitDefEqProofs (disch:=omega) only [go_sem,↓reduceIte ,h,Bool.not_true,Int.natCast_zero,Int.natCast_one,Int.cast_ofNat_Int,Int.ofNat_le,Int.toNat_zero,Nat.sub_zero,Int.le_refl,Int.reduceLT,Int.reduceLE,Int.reduceEq,Int.reduceAdd,Int.reduceSub,Int.reduceMul,Int.reduceToNat,Int.reduceNeg]
      all_goals first | done | rfl
    · simp -implicitDefEqProofs (disch:=omega) only [go_sem,↓reduceIte];refine call_B (v_within 6 1 6) (by simp -implicitDefEqProofs (disch:=omega) only [go_sem,↓reduceIte,deep,TD.rows,immLL_rI,immLL_rB8,immLL_rS,immLL_rBo,immLL_rII,immLL_rIIt,h,Bool.not_true,Int.natCast_zero,Int.natCast_one,Int.cast_ofNat_Int,Int.ofNat_le,Int.toNat_zero,Nat.sub_zero,Int.le_refl,Int.reduceLT,Int.reduceLE,Int.reduceEq,Int.reduceAdd,Int.reduceSub,Int.reduceMul,Int.reduceToNat,Int.reduceNeg];exact rfl) ?_;simp -implicitDefEqProofs (disch:=omega) only [go_sem,↓reduceIte ,h,Bool.not_true,Int.natCast_zero,Int.natCast_one,Int.cast_ofNat_Int,Int.ofNat_le,Int.toNat_zero,Nat.sub_zero,Int.le_refl,Int.reduceLT,Int.reduceLE,Int.reduceEq,Int.reduceAdd,Int.reduceSub,Int.reduceMul,Int.reduceToNat,Int.reduceNeg]
      all_goals first | done | rfl
end Go.Proofs.YtjkbngjiagknkaaGreatDoor
