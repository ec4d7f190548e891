/- Laws that the proof stands on. -/
import Derived.Test.YtjkbngjiagknkaaGreatDoorZVB
import Derived.Test.YtjkbngjiagknkaaGreatDoorProg
import Derived.Test.YtjkbngjiagknkaaGreatDoorZVTab
import Derived.Test.YtjkbngjiagknkaaGreatDoorZg11
import Derived.Test.YtjkbngjiagknkaaGreatDoorZMkBase
set_option linter.all false
namespace Go.Proofs.YtjkbngjiagknkaaGreatDoor
open Go.RowKit Go.V
attribute [local go_sem] List.getElem?_cons_succ List.getElem?_cons_zero List.set_cons_succ List.set_cons_zero List.map_cons List.map_nil List.length_cons List.length_nil List.all_cons List.all_nil List.drop_succ_cons List.drop_zero List.take_succ_cons List.take_zero List.flatMap_cons List.flatMap_nil List.cons_append List.nil_append List.append_nil List.headD_cons Value.oneCell' Bool.and_true Bool.true_and Bool.or_false Bool.false_or Bool.and_self Bool.not_true Bool.not_false and_true true_and beq_self_eq_true Bool.false_eq_true if_true if_false Nat.zero_add Nat.reduceAdd Nat.reduceMul Nat.reduceLeDiff Nat.le_refl Option.isSome_some Option.isSome_none not_true_eq_false not_false_eq_true ne_eq reduceCtorEq List.reverse_nil bne_self_eq_false Nat.reduceEqDiff List.isPrefixOf Bool.not_eq_true Bool.and_false Bool.false_and Bool.true_or Bool.or_true decide_true decide_false Nat.reduceBEq Nat.reduceBNe List.replicate_succ List.replicate_zero exists_eq_left' exists_eq_left Option.some.injEq or_false or_true true_or false_or Option.map_some Option.map_none mB Nat.reduceMod Nat.reduceDiv
set_option maxRecDepth 100000
def inR (lo hi n:Int):Bool:=decide (lo≤n)&&decide (n≤hi)
theorem inR_iff {lo hi n:Int}:inR lo hi n=true↔lo≤n∧n≤hi:=by simp [inR]
def code_spec_l00In:VCode:=(.seq (.ops [
  ⟨(some 6),none,(.asg (.const (.bool false)))⟩]) (.seq (.ops [
  ⟨(some 7),none,(.mv (.tmp 0))⟩,
  ⟨(some 8),none,(.mv (.tmp 1))⟩,
  ⟨(some 9),none,(.bin .geq (.tmp 7) (.tmp 8))⟩,
  ⟨(some 10),none,(.mv (.tmp 9))⟩,
  ⟨(some 11),(some (10,true)),(.mv (.tmp 0))⟩,
  ⟨(some 12),(some (10,true)),(.mv (.tmp 2))⟩,
  ⟨(some 13),(some (10,true)),(.bin .leq (.tmp 11) (.tmp 12))⟩,
  ⟨(some 14),none,(.pick (.tmp 10) (.tmp 13) (.const (.bool false)))⟩,
  ⟨(some 6),none,(.asg (.tmp 14))⟩]) .ret))
theorem law_spec_l00In {a0 a1 a2 d:D} (h:code_spec_l00In.wp (CT Tryz.prog TabG) (endQ [(.t 6)] d) [a0,a1,a2,.undef,.undef,.undef,.undef,.undef,.undef,.undef,.undef,.undef,.undef,.undef,.undef]):Contract Tryz.prog TabG 55 [a0,a1,a2] d :=
  contract_of (pt:=0) tabG Tryz.func55 (fun us W=>by kernel_rfl) (c:=Tryz.f55.body.getD .skip) (ms:=[]) (ms':=[]) (by kernel_rfl) (by kernel_rfl) (by kernel_rfl) h
theorem v_l00In (a b c:Int):Contract Tryz.prog TabG 55 [.v (.int .i64 a),.v (.int .i64 b),.v (.int .i64 c)] (.v (.bool (inR b c a))):=by
  refine law_spec_l00In ?_;unfold code_spec_l00In inR;simp -implicitDefEqProofs (disch:=omega) only [go_sem,↓reduceIte];refine guard_split ?_ ?_ <;> intro h
  · simp -implicitDefEqProofs (disch:=omega) only [go_sem,↓reduceIte ,h]
  · simp -implicitDefEqProofs (disch:=omega) only [go_sem,↓reduceIte ,h]
def code_impl_within:VCode:=(.seq (.ops [
  ⟨(some 6),none,(.asg (.const (.bool false)))⟩]) (.seq (.ops [
  ⟨(some 7),none,(.mv (.tmp 0))⟩,
  ⟨(some 8),none,(.mv (.tmp 1))⟩,
  ⟨(some 9),none,(.bin .geq (.tmp 7) (.tmp 8))⟩,
  ⟨(some 10),none,(.mv (.tmp 9))⟩,
  ⟨(some 11),(some (10,true)),(.mv (.tmp 0))⟩,
  ⟨(some 12),(some (10,true)),(.mv (.tmp 2))⟩,
  ⟨(some 13),(some (10,true)),(.bin .leq (.tmp 11) (.tmp 12))⟩,
  ⟨(some 14),none,(.pick (.tmp 10) (.tmp 13) (.const (.bool false)))⟩,
  ⟨(some 6),none,(.asg (.tmp 14))⟩]) .ret))
theorem law_impl_within {a0 a1 a2 d:D} (h:code_impl_within.wp (CT Tryz.prog TabG) (endQ [(.t 6)] d) [a0,a1,a2,.undef,.undef,.undef,.undef,.undef,.undef,.undef,.undef,.undef,.undef,.undef,.undef]):Contract Tryz.prog TabG 60 [a0,a1,a2] d :=
  contract_of (pt:=0) tabG Tryz.func60 (fun us W=>by kernel_rfl) (c:=Tryz.f60.body.getD .skip) (ms:=[]) (ms':=[]) (by kernel_rfl) (by kernel_rfl) (by kernel_rfl) h
theorem v_within (a b c:Int):Contract Tryz.prog TabG 60 [.v (.int .i64 a),.v (.int .i64 b),.v (.int .i64 c)] (.v (.bool (inR b c a))):=by
  refine law_impl_within ?_;unfold code_impl_within inR;simp -implicitDefEqProofs (disch:=omega) only [go_sem,↓reduceIte];refine guard_split ?_ ?_ <;> intro h
  · simp -implicitDefEqProofs (disch:=omega) only [go_sem,↓reduceIte ,h]
  · simp -implicitDefEqProofs (disch:=omega) only [go_sem,↓reduceIte ,h]
def isLet (c:Int):Bool:=(decide (97≤c)&&decide (c≤122))||(decide (65≤c)&&decide (c≤90))
def isDig (c:Int):Bool:=decide (48≤c)&&decide (c≤57)
def chOK (i:Nat) (c:Int):Bool:=isLet c||(decide (i≠0)&&(isDig c||decide (c=95)))
def chAt (s:ByteArray) (i:Nat):Int:=match s[i]? with
  | some c=>(c.toNat:Int)
  | none=>0
def isNameB (s:ByteArray):Bool:=(decide (1≤s.size)&&decide (s.size≤12))&&(List.range s.size).all (fun i=>chOK i (chAt s i))
theorem name_no {s:ByteArray} {i:Nat} (hi:i < s.size) (h:chOK i (chAt s i)=false):isNameB s=false:=by
  unfold isNameB;have:(List.range s.size).all (fun i=>chOK i (chAt s i))=false:=by rw [List.all_eq_false];exact ⟨i,by simpa using hi,by simp [h]⟩
  rw [this,Bool.and_false]
theorem all_next {f:Nat→Bool} {i:Nat} (h:(List.range i).all f=true) (hi:f i=true):(List.range (i+1)).all f=true:=by rw [List.range_succ,List.all_append,h];simp [hi]
theorem byte_at {s:ByteArray} {i:Nat} (hi:i < s.size):s[i]?=some s[i]:=by simp [hi]
theorem chAt_some {s:ByteArray} {i:Nat} {c:UInt8} (h:s[i]?=some c):chAt s i=(c.toNat:Int):=by unfold chAt;rw [h]
theorem chOK_let {i:Nat} {c:Int} (h:isLet c=true):chOK i c=true:=by unfold chOK;rw [h];rfl
def code_spec_l01Letter:VCode:=(.seq (.ops [
  ⟨(some 2),none,(.asg (.const (.bool false)))⟩]) (.seq (.ops [
  ⟨(some 3),none,(.mv (.tmp 0))⟩,
  ⟨(some 4),none,(.bin .geq (.tmp 3) (.const (.int .u8 97)))⟩,
  ⟨(some 5),none,(.mv (.tmp 4))⟩,
  ⟨(some 6),(some (5,true)),(.mv (.tmp 0))⟩,
  ⟨(some 7),(some (5,true)),(.bin .leq (.tmp 6) (.const (.int .u8 122)))⟩,
  ⟨(some 8),none,(.pick (.tmp 5) (.tmp 7) (.const (.bool false)))⟩,
  ⟨(some 9),none,(.mv (.tmp 8))⟩,
  ⟨(some 10),(some (9,false)),(.mv (.tmp 0))⟩,
  ⟨(some 11),(some (9,false)),(.bin .geq (.tmp 10) (.const (.int .u8 65)))⟩,
  ⟨(some 12),(some (9,false)),(.mv (.tmp 11))⟩,
  ⟨(some 13),(some (12,true)),(.mv (.tmp 0))⟩,
  ⟨(some 14),(some (12,true)),(.bin .leq (.tmp 13) (.const (.int .u8 90)))⟩,
  ⟨(some 15),(some (9,false)),(.pick (.tmp 12) (.tmp 14) (.const (.bool false)))⟩,
  ⟨(some 16),none,(.pick (.tmp 9) (.const (.bool true)) (.tmp 15))⟩,
  ⟨(some 2),none,(.asg (.tmp 16))⟩]) .ret))
theorem law_spec_l01Letter {a0 d:D} (h:code_spec_l01Letter.wp (CT Tryz.prog TabG) (endQ [(.t 2)] d) [a0,.undef,.undef,.undef,.undef,.undef,.undef,.undef,.undef,.undef,.undef,.undef,.undef,.undef,.undef,.undef,.undef]):Contract Tryz.prog TabG 115 [a0] d :=
  contract_of (pt:=0) tabG Tryz.func115 (fun us W=>by kernel_rfl) (c:=Tryz.f115.body.getD .skip) (ms:=[]) (ms':=[]) (by kernel_rfl) (by kernel_rfl) (by kernel_rfl) h
def code_spec_l01Digit:VCode:=(.seq (.ops [
  ⟨(some 2),none,(.asg (.const (.bool false)))⟩]) (.seq (.ops [
  ⟨(some 3),none,(.mv (.tmp 0))⟩,
  ⟨(some 4),none,(.bin .geq (.tmp 3) (.const (.int .u8 48)))⟩,
  ⟨(some 5),none,(.mv (.tmp 4))⟩,
  ⟨(some 6),(some (5,true)),(.mv (.tmp 0))⟩,
  ⟨(some 7),(some (5,true)),(.bin .leq (.tmp 6) (.const (.int .u8 57)))⟩,
  ⟨(some 8),none,(.pick (.tmp 5) (.tmp 7) (.const (.bool false)))⟩,
  ⟨(some 2),none,(.asg (.tmp 8))⟩]) .ret))
theorem law_spec_l01Digit {a0 d:D} (h:code_spec_l01Digit.wp (CT Tryz.prog TabG) (endQ [(.t 2)] d) [a0,.undef,.undef,.undef,.undef,.undef,.undef,.undef,.undef]):Contract Tryz.prog TabG 107 [a0] d :=
  contract_of (pt:=0) tabG Tryz.func107 (fun us W=>by kernel_rfl) (c:=Tryz.f107.body.getD .skip) (ms:=[]) (ms':=[]) (by kernel_rfl) (by kernel_rfl) (by kernel_rfl) h
theorem v_l01Letter (c:Int):Contract Tryz.prog TabG 115 [.v (.int .u8 c)] (.v (.bool (isLet c))):=by
  refine law_spec_l01Letter ?_;unfold code_spec_l01Letter isLet;simp -implicitDefEqProofs (disch:=omega) only [go_sem,↓reduceIte]
  repeat' (first | (refine guard_split ?_ ?_ <;> intro h <;> try (simp -implicitDefEqProofs (disch:=omega) only [go_sem,↓reduceIte,h])) | (refine gd_split ?_ ?_ <;> intro h <;> try (simp -implicitDefEqProofs (disch:=omega) only [go_sem,↓reduceIte,h])) | (refine cond_split ?_ ?_ <;> intro h <;> try (simp -implicitDefEqProofs (disch:=omega) only [go_sem,↓reduceIte,h])))
theorem v_l01Digit (c:Int):Contract Tryz.prog TabG 107 [.v (.int .u8 c)] (.v (.bool (isDig c))):=by
  refine law_spec_l01Digit ?_;unfold code_spec_l01Digit isDig;simp -implicitDefEqProofs (disch:=omega) only [go_sem,↓reduceIte]
  repeat' (first | (refine guard_split ?_ ?_ <;> intro h <;> try (simp -implicitDefEqProofs (disch:=omega) only [go_sem,↓reduceIte,h])) | (refine gd_split ?_ ?_ <;> intro h <;> try (simp -implicitDefEqProofs (disch:=omega) only [go_sem,↓reduceIte,h])) | (refine cond_split ?_ ?_ <;> intro h <;> try (simp -implicitDefEqProofs (disch:=omega) only [go_sem,↓reduceIte,h])))
def code_spec_IsName:VCode:=(.seq (.ops [
  ⟨(some 2),none,(.asg (.const (.bool false)))⟩]) (.seq (.seq (.ops [
  ⟨(some 4),none,(.mv (.tmp 0))⟩,
  ⟨(some 5),none,(.lenS (.tmp 4))⟩,
  ⟨(some 6),none,(.bin .lss (.tmp 5) (.const (.int .i64 1)))⟩,
  ⟨(some 7),none,(.mv (.tmp 6))⟩,
  ⟨(some 8),(some (7,false)),(.mv (.tmp 0))⟩,
  ⟨(some 9),(some (7,false)),(.lenS (.tmp 8))⟩,
  ⟨(some 10),(some (7,false)),(.bin .gtr (.tmp 9) (.const (.int .i64 12)))⟩,
  ⟨(some 11),none,(.pick (.tmp 7) (.const (.bool true)) (.tmp 10))⟩,
  ⟨(some 12),none,(.mv (.tmp 11))⟩,
  ⟨(some 13),(some (12,false)),(.mv (.tmp 0))⟩,
  ⟨(some 14),(some (12,false)),(.ixs (.tmp 13) (.const (.int .i64 0)))⟩,
  ⟨(some 15),(some (12,false)),(.callX 115 [(.tmp 14)])⟩,
  ⟨(some 16),(some (12,false)),(.un .not (.tmp 15))⟩,
  ⟨(some 17),none,(.pick (.tmp 12) (.const (.bool true)) (.tmp 16))⟩]) (.cond (.tmp 17) (.seq (.ops [
  ⟨(some 2),none,(.asg (.const (.bool false)))⟩]) .ret) .skip)) (.seq (.seq (.ops [
  ⟨(some 3),none,(.asg (.const (.int .i64 1)))⟩]) (.block 0 (.loop (mB 42 4398046511094) (.seq (.seq (.ops [
  ⟨(some 18),none,(.mv (.tmp 3))⟩,
  ⟨(some 19),none,(.mv (.tmp 0))⟩,
  ⟨(some 20),none,(.lenS (.tmp 19))⟩,
  ⟨(some 21),none,(.bin .lss (.tmp 18) (.tmp 20))⟩]) (.cond (.tmp 21) .skip (.exit 0))) (.seq (.block 1 (.seq (.ops [
  ⟨(some 24),none,(.mv (.tmp 0))⟩,
  ⟨(some 25),none,(.mv (.tmp 3))⟩,
  ⟨(some 26),none,(.ixs (.tmp 24) (.tmp 25))⟩,
  ⟨(some 27),none,(.callX 115 [(.tmp 26)])⟩,
  ⟨(some 28),none,(.un .not (.tmp 27))⟩,
  ⟨(some 29),none,(.mv (.tmp 28))⟩,
  ⟨(some 30),(some (29,true)),(.mv (.tmp 0))⟩,
  ⟨(some 31),(some (29,true)),(.mv (.tmp 3))⟩,
  ⟨(some 32),(some (29,true)),(.ixs (.tmp 30) (.tmp 31))⟩,
  ⟨(some 33),(some (29,true)),(.callX 107 [(.tmp 32)])⟩,
  ⟨(some 34),(some (29,true)),(.un .not (.tmp 33))⟩,
  ⟨(some 35),none,(.pick (.tmp 29) (.tmp 34) (.const (.bool false)))⟩,
  ⟨(some 36),none,(.mv (.tmp 35))⟩,
  ⟨(some 37),(some (36,true)),(.mv (.tmp 0))⟩,
  ⟨(some 38),(some (36,true)),(.mv (.tmp 3))⟩,
  ⟨(some 39),(some (36,true)),(.ixs (.tmp 37) (.tmp 38))⟩,
  ⟨(some 40),(some (36,true)),(.bin .neq (.tmp 39) (.const (.int .u8 95)))⟩,
  ⟨(some 41),none,(.pick (.tmp 36) (.tmp 40) (.const (.bool false)))⟩]) (.cond (.tmp 41) (.seq (.ops [
  ⟨(some 2),none,(.asg (.const (.bool false)))⟩]) .ret) .skip))) (.ops [
  ⟨(some 22),none,(.mv (.tmp 3))⟩,
  ⟨(some 23),none,(.bin .add (.tmp 22) (.const (.int .i64 1)))⟩,
  ⟨(some 3),none,(.asg (.tmp 23))⟩])))))) (.seq (.ops [
  ⟨(some 2),none,(.asg (.const (.bool true)))⟩]) .ret))))
theorem law_spec_IsName {a0 d:D} (h:code_spec_IsName.wp (CT Tryz.prog TabG) (endQ [(.t 2)] d) [a0,.undef,.undef,.undef,.undef,.undef,.undef,.undef,.undef,.undef,.undef,.undef,.undef,.undef,.undef,.undef,.undef,.undef,.undef,.undef,.undef,.undef,.undef,.undef,.undef,.undef,.undef,.undef,.undef,.undef,.undef,.undef,.undef,.undef,.undef,.undef,.undef,.undef,.undef,.undef,.undef,.undef]):Contract Tryz.prog TabG 100 [a0] d :=
  contract_of (pt:=0) tabG Tryz.func100 (fun us W=>by kernel_rfl) (c:=Tryz.f100.body.getD .skip) (ms:=[(mB 42 4398046511094)]) (ms':=[]) (by kernel_rfl) (by kernel_rfl) (by kernel_rfl) h
theorem vIsName_spec (s:ByteArray) (hs:s.size≤1048576):Contract Tryz.prog TabG 100 [.v (.string s)] (.v (.bool (isNameB s))):=by
  refine law_spec_IsName ?_;unfold code_spec_IsName;have bad:¬ (1≤s.size∧s.size≤12)→isNameB s=false:=fun h=>by
    unfold isNameB;have:(decide (1≤s.size)&&decide (s.size≤12))=false:=by rw [Bool.and_eq_false_iff,decide_eq_false_iff_not,decide_eq_false_iff_not];omega
    rw [this,Bool.false_and]
  simp -implicitDefEqProofs (disch:=omega) only [go_sem,↓reduceIte];refine guard_split ?_ ?_ <;> intro h1
  · simp -implicitDefEqProofs (disch:=omega) only [go_sem,↓reduceIte ,h1];rw [bad (by have:=of_decide_eq_true h1;omega)]
  · have h1':1≤s.size:=(by have:=of_decide_eq_false h1;omega);simp -implicitDefEqProofs (disch:=omega) only [go_sem,↓reduceIte ,h1];refine guard_split ?_ ?_ <;> intro h2
    · simp -implicitDefEqProofs (disch:=omega) only [go_sem,↓reduceIte ,h2];rw [bad (by have:=of_decide_eq_true h2;omega)]
    · have h2':s.size≤12:=(by have:=of_decide_eq_false h2;omega);have hb0:s[0]?=some s[0]:=byte_at (by omega)
      simp -implicitDefEqProofs (disch:=omega) only [go_sem,↓reduceIte ,h2,hb0,Int.natCast_zero,Int.natCast_one,Int.cast_ofNat_Int,Int.ofNat_le,Int.toNat_zero,Nat.sub_zero,Int.le_refl,Int.reduceLT,Int.reduceLE,Int.reduceEq,Int.reduceAdd,Int.reduceSub,Int.reduceMul,Int.reduceToNat,Int.reduceNeg];refine call_B (v_l01Letter _) (by simp -implicitDefEqProofs (disch:=omega) only [go_sem,↓reduceIte,deep,TD.rows,immLL_rI,immLL_rB8,immLL_rS,immLL_rBo,immLL_rII,immLL_rIIt,Int.natCast_zero,Int.natCast_one,Int.cast_ofNat_Int,Int.ofNat_le,Int.toNat_zero,Nat.sub_zero,Int.le_refl,Int.reduceLT,Int.reduceLE,Int.reduceEq,Int.reduceAdd,Int.reduceSub,Int.reduceMul,Int.reduceToNat,Int.reduceNeg];exact rfl) ?_;simp -implicitDefEqProofs (disch:=omega) only [go_sem,↓reduceIte ,Int.natCast_zero,Int.natCast_one,Int.cast_ofNat_Int,Int.ofNat_le,Int.toNat_zero,Nat.sub_zero,Int.le_refl,Int.reduceLT,Int.reduceLE,Int.reduceEq,Int.reduceAdd,Int.reduceSub,Int.reduceMul,Int.reduceToNat,Int.reduceNeg];refine cond_split ?_ ?_ <;> intro h3
      · simp -implicitDefEqProofs (disch:=omega) only [go_sem,↓reduceIte];simp only [Bool.not_eq_true'] at h3;rw [name_no (s:=s) (i:=0) (by omega) (by rw [chAt_some hb0];unfold chOK;rw [h3];rfl)]
      · simp only [Bool.not_eq_false'] at h3;simp -implicitDefEqProofs (disch:=omega) only [go_sem,↓reduceIte];refine loop_st (fun i:Nat=>[.v (.string s),.undef,.undef,.v (.int .i64 i),.undef,.undef,.undef,.undef,.undef,.undef,.undef,.undef,.undef,.undef,.undef,.undef,.undef,.undef,.undef,.undef,.undef,.undef,.undef,.undef,.undef,.undef,.undef,.undef,.undef,.undef,.undef,.undef,.undef,.undef,.undef,.undef,.undef,.undef,.undef,.undef,.undef,.undef]) (fun i=>1≤i∧i≤s.size∧(List.range i).all (fun i=>chOK i (chAt s i))=true) (fun i=>s.size - i) 1 (nleA) ⟨by omega,h1',by simp [chAt_some hb0,chOK_let h3]⟩ ?_;rintro i ⟨hi0,hi,ha⟩;simp -implicitDefEqProofs (disch:=omega) only [go_sem,↓reduceIte ,Int.ofNat_lt];refine cond_split ?_ ?_ <;> intro hlt
        · have hlt:i < s.size:=of_decide_eq_true hlt;have hb:=byte_at hlt;have hc:=chAt_some hb;have next:chOK i (s[i].toNat:Int)=true→∃ b,s.size - b < s.size - i∧(1≤b∧b≤s.size∧(List.range b).all (fun i=>chOK i (chAt s i))=true)∧b=i+1:=fun h=>⟨i+1,by omega,⟨by omega,hlt,all_next ha (by rw [hc];exact h)⟩,rfl⟩
          simp -implicitDefEqProofs (disch:=omega) only [go_sem,↓reduceIte ,Int.toNat_natCast,hb,Int.natCast_nonneg];refine call_B (v_l01Letter _) (by simp -implicitDefEqProofs (disch:=omega) only [go_sem,↓reduceIte,deep,TD.rows,immLL_rI,immLL_rB8,immLL_rS,immLL_rBo,immLL_rII,immLL_rIIt];exact rfl) ?_;simp -implicitDefEqProofs (disch:=omega) only [go_sem,↓reduceIte];refine guard_split ?_ ?_ <;> intro g1
          · simp only [Bool.not_eq_true'] at g1;simp -implicitDefEqProofs (disch:=omega) only [go_sem,↓reduceIte ,g1,Int.toNat_natCast,hb,Int.natCast_nonneg];refine call_B (v_l01Digit _) (by simp -implicitDefEqProofs (disch:=omega) only [go_sem,↓reduceIte,deep,TD.rows,immLL_rI,immLL_rB8,immLL_rS,immLL_rBo,immLL_rII,immLL_rIIt,g1];exact rfl) ?_;simp -implicitDefEqProofs (disch:=omega) only [go_sem,↓reduceIte ,g1];refine guard_split ?_ ?_ <;> intro g2
            · simp only [Bool.not_eq_true'] at g2;simp -implicitDefEqProofs (disch:=omega) only [go_sem,↓reduceIte ,g2,Int.toNat_natCast,hb,Int.natCast_nonneg];refine cond_split ?_ ?_ <;> intro g3
              · simp -implicitDefEqProofs (disch:=omega) only [go_sem,↓reduceIte];simp only [Bool.not_eq_true'] at g3;rw [name_no hlt (by rw [hc];unfold chOK;rw [g1,g2,g3];simp)]
              · simp only [Bool.not_eq_false'] at g3;simp -implicitDefEqProofs (disch:=omega) only [go_sem,↓reduceIte ,wrN];obtain ⟨b,k1,k2,rfl⟩:=next (by unfold chOK;rw [g1,g2,g3];simp;omega)
                exact ⟨_,k1,k2,nleA⟩
            · simp only [Bool.not_eq_false'] at g2;simp -implicitDefEqProofs (disch:=omega) only [go_sem,↓reduceIte ,g2,wrN];obtain ⟨b,k1,k2,rfl⟩:=next (by unfold chOK;rw [g1,g2];simp;omega)
              exact ⟨_,k1,k2,nleA⟩
          · simp only [Bool.not_eq_false'] at g1;simp -implicitDefEqProofs (disch:=omega) only [go_sem,↓reduceIte ,g1,wrN];obtain ⟨b,k1,k2,rfl⟩:=next (chOK_let g1)
            exact ⟨_,k1,k2,nleA⟩
        · have hlt:i=s.size:=(by have:¬ i < s.size:=of_decide_eq_false hlt;omega);subst hlt;simp -implicitDefEqProofs (disch:=omega) only [go_sem,↓reduceIte];unfold isNameB;rw [ha,Bool.and_true,decide_eq_true h1',decide_eq_true h2'];rfl
def code_impl_IsName:VCode:=(.seq (.ops [
  ⟨(some 2),none,(.asg (.const (.bool false)))⟩]) (.seq (.seq (.ops [
  ⟨(some 6),none,(.mv (.tmp 0))⟩,
  ⟨(some 7),none,(.lenS (.tmp 6))⟩,
  ⟨(some 8),none,(.mv (.const (.int .i64 0)))⟩]) (.block 0 (.loop (mB 55 36028797018963582) (.seq (.ops [
  ⟨(some 9),none,(.bin .lss (.tmp 8) (.tmp 7))⟩]) (.seq (.cond (.tmp 9) .skip (.exit 0)) (.seq (.block 1 (.seq (.ops [
  ⟨(some 10),none,(.mv (.tmp 8))⟩,
  ⟨(some 3),none,(.asg (.tmp 10))⟩]) (.seq (.ops [
  ⟨(some 11),none,(.mv (.tmp 0))⟩,
  ⟨(some 12),none,(.mv (.tmp 3))⟩,
  ⟨(some 13),none,(.ixs (.tmp 11) (.tmp 12))⟩,
  ⟨(some 4),none,(.asg (.tmp 13))⟩]) (.seq (.ops [
  ⟨(some 14),none,(.mv (.tmp 4))⟩,
  ⟨(some 15),none,(.bin .geq (.tmp 14) (.const (.int .u8 97)))⟩,
  ⟨(some 16),none,(.mv (.tmp 15))⟩,
  ⟨(some 17),(some (16,true)),(.mv (.tmp 4))⟩,
  ⟨(some 18),(some (16,true)),(.bin .leq (.tmp 17) (.const (.int .u8 122)))⟩,
  ⟨(some 19),none,(.pick (.tmp 16) (.tmp 18) (.const (.bool false)))⟩,
  ⟨(some 20),none,(.mv (.tmp 19))⟩,
  ⟨(some 21),(some (20,false)),(.mv (.tmp 4))⟩,
  ⟨(some 22),(some (20,false)),(.bin .geq (.tmp 21) (.const (.int .u8 65)))⟩,
  ⟨(some 23),(some (20,false)),(.mv (.tmp 22))⟩,
  ⟨(some 24),(some (23,true)),(.mv (.tmp 4))⟩,
  ⟨(some 25),(some (23,true)),(.bin .leq (.tmp 24) (.const (.int .u8 90)))⟩,
  ⟨(some 26),(some (20,false)),(.pick (.tmp 23) (.tmp 25) (.const (.bool false)))⟩,
  ⟨(some 27),none,(.pick (.tmp 20) (.const (.bool true)) (.tmp 26))⟩,
  ⟨(some 5),none,(.asg (.tmp 27))⟩]) (.seq (.ops [
  ⟨(some 28),none,(.mv (.tmp 5))⟩,
  ⟨(some 29),none,(.un .not (.tmp 28))⟩,
  ⟨(some 30),none,(.mv (.tmp 29))⟩,
  ⟨(some 31),(some (30,true)),(.mv (.tmp 3))⟩,
  ⟨(some 32),(some (30,true)),(.bin .eql (.tmp 31) (.const (.int .i64 0)))⟩,
  ⟨(some 33),(some (30,true)),(.mv (.tmp 32))⟩,
  ⟨(some 34),(some (33,false)),(.mv (.tmp 4))⟩,
  ⟨(some 35),(some (33,false)),(.bin .lss (.tmp 34) (.const (.int .u8 48)))⟩,
  ⟨(some 36),(some (33,false)),(.mv (.tmp 35))⟩,
  ⟨(some 37),(some (36,false)),(.mv (.tmp 4))⟩,
  ⟨(some 38),(some (36,false)),(.bin .gtr (.tmp 37) (.const (.int .u8 57)))⟩,
  ⟨(some 39),(some (33,false)),(.pick (.tmp 36) (.const (.bool true)) (.tmp 38))⟩,
  ⟨(some 40),(some (33,false)),(.mv (.tmp 39))⟩,
  ⟨(some 41),(some (40,true)),(.mv (.tmp 4))⟩,
  ⟨(some 42),(some (40,true)),(.bin .neq (.tmp 41) (.const (.int .u8 95)))⟩,
  ⟨(some 43),(some (33,false)),(.pick (.tmp 40) (.tmp 42) (.const (.bool false)))⟩,
  ⟨(some 44),(some (30,true)),(.pick (.tmp 33) (.const (.bool true)) (.tmp 43))⟩,
  ⟨(some 45),none,(.pick (.tmp 30) (.tmp 44) (.const (.bool false)))⟩]) (.cond (.tmp 45) (.seq (.ops [
  ⟨(some 2),none,(.asg (.const (.bool false)))⟩]) .ret) .skip)))))) (.ops [
  ⟨(some 46),none,(.bin .add (.tmp 8) (.const (.int .i64 1)))⟩,
  ⟨(some 8),none,(.mv (.tmp 46))⟩]))))))) (.seq (.ops [
  ⟨(some 47),none,(.mv (.tmp 0))⟩,
  ⟨(some 48),none,(.lenS (.tmp 47))⟩,
  ⟨(some 49),none,(.bin .geq (.tmp 48) (.const (.int .i64 1)))⟩,
  ⟨(some 50),none,(.mv (.tmp 49))⟩,
  ⟨(some 51),(some (50,true)),(.mv (.tmp 0))⟩,
  ⟨(some 52),(some (50,true)),(.lenS (.tmp 51))⟩,
  ⟨(some 53),(some (50,true)),(.bin .leq (.tmp 52) (.const (.int .i64 12)))⟩,
  ⟨(some 54),none,(.pick (.tmp 50) (.tmp 53) (.const (.bool false)))⟩,
  ⟨(some 2),none,(.asg (.tmp 54))⟩]) .ret)))
theorem law_impl_IsName {a0 d:D} (h:code_impl_IsName.wp (CT Tryz.prog TabG) (endQ [(.t 2)] d) [a0,.undef,.undef,.undef,.undef,.undef,.undef,.undef,.undef,.undef,.undef,.undef,.undef,.undef,.undef,.undef,.undef,.undef,.undef,.undef,.undef,.undef,.undef,.undef,.undef,.undef,.undef,.undef,.undef,.undef,.undef,.undef,.undef,.undef,.undef,.undef,.undef,.undef,.undef,.undef,.undef,.undef,.undef,.undef,.undef,.undef,.undef,.undef,.undef,.undef,.undef,.undef,.undef,.undef,.undef]):Contract Tryz.prog TabG 77 [a0] d :=
  contract_of (pt:=0) tabG Tryz.func77 (fun us W=>by kernel_rfl) (c:=Tryz.f77.body.getD .skip) (ms:=[(mB 55 36028797018963582)]) (ms':=[]) (by kernel_rfl) (by kernel_rfl) (by kernel_rfl) h
set_option maxHeartbeats 2000000 in
theorem vIsName_impl (s:ByteArray) (hs:s.size≤1048576):Contract Tryz.prog TabG 77 [.v (.string s)] (.v (.bool (isNameB s))):=by
  refine law_impl_IsName ?_;unfold code_impl_IsName;simp -implicitDefEqProofs (disch:=omega) only [go_sem,↓reduceIte ,Int.natCast_zero,Int.natCast_one,Int.cast_ofNat_Int,Int.ofNat_le,Int.toNat_zero,Nat.sub_zero,Int.le_refl,Int.reduceLT,Int.reduceLE,Int.reduceEq,Int.reduceAdd,Int.reduceSub,Int.reduceMul,Int.reduceToNat,Int.reduceNeg];refine loop_st (fun i:Nat=>[.v (.string s),.undef,.undef,.undef,.undef,.undef,.undef,.v (.int .i64 s.size),.v (.int .i64 i),.undef,.undef,.undef,.undef,.undef,.undef,.undef,.undef,.undef,.undef,.undef,.undef,.undef,.undef,.undef,.undef,.undef,.undef,.undef,.undef,.undef,.undef,.undef,.undef,.undef,.undef,.undef,.undef,.undef,.undef,.undef,.undef,.undef,.undef,.undef,.undef,.undef,.undef,.undef,.undef,.undef,.undef,.undef,.undef,.undef,.undef]) (fun i=>i≤s.size∧(List.range i).all (fun i=>chOK i (chAt s i))=true) (fun i=>s.size - i) 0 (nleA) ⟨by omega,by simp⟩ ?_;rintro i ⟨hi,ha⟩;simp -implicitDefEqProofs (disch:=omega) only [go_sem,↓reduceIte ,Int.ofNat_lt];refine cond_split ?_ ?_ <;> intro hlt
  · have hlt:i < s.size:=of_decide_eq_true hlt;have hb:=byte_at hlt;have hc:=chAt_some hb;have next:chOK i (s[i].toNat:Int)=true→∃ b,s.size - b < s.size - i∧(b≤s.size∧(List.range b).all (fun i=>chOK i (chAt s i))=true)∧b=i+1:=fun h=>⟨i+1,by omega,⟨hlt,all_next ha (by rw [hc];exact h)⟩,rfl⟩
    have bad:chOK i (s[i].toNat:Int)=false→isNameB s=false:=fun h=>name_no hlt (by rw [hc];exact h);generalize hcc:(s[i].toNat:Int)=c at next bad
    by_cases gA:97≤c
    · by_cases gB:c≤122
      · skip
        have eA:decide (97≤c)=true:=decide_eq_true (by omega);have eB:decide (c≤122)=true:=decide_eq_true (by omega);simp -implicitDefEqProofs (disch:=omega) only [go_sem,↓reduceIte ,Int.toNat_natCast,hb,Int.natCast_nonneg,hcc,wrN,eA,eB];obtain ⟨b,k1,k2,rfl⟩:=next (by simp only [chOK,isLet,isDig,Bool.or_eq_true,Bool.and_eq_true,decide_eq_true_eq];omega)
        exact ⟨_,k1,k2,nleA⟩
      · by_cases gE:i=0
        · skip
          have eA:decide (97≤c)=true:=decide_eq_true (by omega);have eB:decide (c≤122)=false:=decide_eq_false (by omega);have eC:decide (65≤c)=true:=decide_eq_true (by omega);have eD:decide (c≤90)=false:=decide_eq_false (by omega);have eE:decide ((i:Int)=0)=true:=decide_eq_true (by omega);simp -implicitDefEqProofs (disch:=omega) only [go_sem,↓reduceIte ,Int.toNat_natCast,hb,Int.natCast_nonneg,hcc,wrN,eA,eB,eC,eD,eE];rw [bad (by simp only [chOK,isLet,isDig,Bool.or_eq_false_iff,Bool.and_eq_false_iff,decide_eq_false_iff_not];omega)]
        · skip
          have eA:decide (97≤c)=true:=decide_eq_true (by omega);have eB:decide (c≤122)=false:=decide_eq_false (by omega);have eC:decide (65≤c)=true:=decide_eq_true (by omega);have eD:decide (c≤90)=false:=decide_eq_false (by omega);have eE:decide ((i:Int)=0)=false:=decide_eq_false (by omega);have eF:decide (c < 48)=false:=decide_eq_false (by omega);have eG:decide (57 < c)=true:=decide_eq_true (by omega);have eH:decide (c=95)=false:=decide_eq_false (by omega);simp -implicitDefEqProofs (disch:=omega) only [go_sem,↓reduceIte ,Int.toNat_natCast,hb,Int.natCast_nonneg,hcc,wrN,eA,eB,eC,eD,eE,eF,eG,eH];rw [bad (by simp only [chOK,isLet,isDig,Bool.or_eq_false_iff,Bool.and_eq_false_iff,decide_eq_false_iff_not];omega)]
    · by_cases gC:65≤c
      · by_cases gD:c≤90
        · skip
          have eA:decide (97≤c)=false:=decide_eq_false (by omega);have eC:decide (65≤c)=true:=decide_eq_true (by omega);have eD:decide (c≤90)=true:=decide_eq_true (by omega);simp -implicitDefEqProofs (disch:=omega) only [go_sem,↓reduceIte ,Int.toNat_natCast,hb,Int.natCast_nonneg,hcc,wrN,eA,eC,eD];obtain ⟨b,k1,k2,rfl⟩:=next (by simp only [chOK,isLet,isDig,Bool.or_eq_true,Bool.and_eq_true,decide_eq_true_eq];omega)
          exact ⟨_,k1,k2,nleA⟩
        · by_cases gE:i=0
          · skip
            have eA:decide (97≤c)=false:=decide_eq_false (by omega);have eC:decide (65≤c)=true:=decide_eq_true (by omega);have eD:decide (c≤90)=false:=decide_eq_false (by omega);have eE:decide ((i:Int)=0)=true:=decide_eq_true (by omega);simp -implicitDefEqProofs (disch:=omega) only [go_sem,↓reduceIte ,Int.toNat_natCast,hb,Int.natCast_nonneg,hcc,wrN,eA,eC,eD,eE];rw [bad (by simp only [chOK,isLet,isDig,Bool.or_eq_false_iff,Bool.and_eq_false_iff,decide_eq_false_iff_not];omega)]
          · by_cases gH:c=95
            · skip
              have eA:decide (97≤c)=false:=decide_eq_false (by omega);have eC:decide (65≤c)=true:=decide_eq_true (by omega);have eD:decide (c≤90)=false:=decide_eq_false (by omega);have eE:decide ((i:Int)=0)=false:=decide_eq_false (by omega);have eF:decide (c < 48)=false:=decide_eq_false (by omega);have eG:decide (57 < c)=true:=decide_eq_true (by omega);have eH:decide (c=95)=true:=decide_eq_true (by omega);simp -implicitDefEqProofs (disch:=omega) only [go_sem,↓reduceIte ,Int.toNat_natCast,hb,Int.natCast_nonneg,hcc,wrN,eA,eC,eD,eE,eF,eG,eH];obtain ⟨b,k1,k2,rfl⟩:=next (by simp only [chOK,isLet,isDig,Bool.or_eq_true,Bool.and_eq_true,decide_eq_true_eq];omega)
              exact ⟨_,k1,k2,nleA⟩
            · skip
              have eA:decide (97≤c)=false:=decide_eq_false (by omega);have eC:decide (65≤c)=true:=decide_eq_true (by omega);have eD:decide (c≤90)=false:=decide_eq_false (by omega);have eE:decide ((i:Int)=0)=false:=decide_eq_false (by omega);have eF:decide (c < 48)=false:=decide_eq_false (by omega);have eG:decide (57 < c)=true:=decide_eq_true (by omega);have eH:decide (c=95)=false:=decide_eq_false (by omega);simp -implicitDefEqProofs (disch:=omega) only [go_sem,↓reduceIte ,Int.toNat_natCast,hb,Int.natCast_nonneg,hcc,wrN,eA,eC,eD,eE,eF,eG,eH];rw [bad (by simp only [chOK,isLet,isDig,Bool.or_eq_false_iff,Bool.and_eq_false_iff,decide_eq_false_iff_not];omega)]
      · by_cases gE:i=0
        · skip
          have eA:decide (97≤c)=false:=decide_eq_false (by omega);have eC:decide (65≤c)=false:=decide_eq_false (by omega);have eE:decide ((i:Int)=0)=true:=decide_eq_true (by omega);simp -implicitDefEqProofs (disch:=omega) only [go_sem,↓reduceIte ,Int.toNat_natCast,hb,Int.natCast_nonneg,hcc,wrN,eA,eC,eE];rw [bad (by simp only [chOK,isLet,isDig,Bool.or_eq_false_iff,Bool.and_eq_false_iff,decide_eq_false_iff_not];omega)]
        · by_cases gF:c < 48
          · skip
            have eA:decide (97≤c)=false:=decide_eq_false (by omega);have eC:decide (65≤c)=false:=decide_eq_false (by omega);have eE:decide ((i:Int)=0)=false:=decide_eq_false (by omega);have eF:decide (c < 48)=true:=decide_eq_true (by omega);have eH:decide (c=95)=false:=decide_eq_false (by omega);simp -implicitDefEqProofs (disch:=omega) only [go_sem,↓reduceIte ,Int.toNat_natCast,hb,Int.natCast_nonneg,hcc,wrN,eA,eC,eE,eF,eH];rw [bad (by simp only [chOK,isLet,isDig,Bool.or_eq_false_iff,Bool.and_eq_false_iff,decide_eq_false_iff_not];omega)]
          · by_cases gG:57 < c
            · skip
              have eA:decide (97≤c)=false:=decide_eq_false (by omega);have eC:decide (65≤c)=false:=decide_eq_false (by omega);have eE:decide ((i:Int)=0)=false:=decide_eq_false (by omega);have eF:decide (c < 48)=false:=decide_eq_false (by omega);have eG:decide (57 < c)=true:=decide_eq_true (by omega);have eH:decide (c=95)=false:=decide_eq_false (by omega);simp -implicitDefEqProofs (disch:=omega) only [go_sem,↓reduceIte ,Int.toNat_natCast,hb,Int.natCast_nonneg,hcc,wrN,eA,eC,eE,eF,eG,eH];rw [bad (by simp only [chOK,isLet,isDig,Bool.or_eq_false_iff,Bool.and_eq_false_iff,decide_eq_false_iff_not];omega)]
            · skip
              have eA:decide (97≤c)=false:=decide_eq_false (by omega);have eC:decide (65≤c)=false:=decide_eq_false (by omega);have eE:decide ((i:Int)=0)=false:=decide_eq_false (by omega);have eF:decide (c < 48)=false:=decide_eq_false (by omega);have eG:decide (57 < c)=false:=decide_eq_false (by omega);simp -implicitDefEqProofs (disch:=omega) only [go_sem,↓reduceIte ,Int.toNat_natCast,hb,Int.natCast_nonneg,hcc,wrN,eA,eC,eE,eF,eG];obtain ⟨b,k1,k2,rfl⟩:=next (by simp only [chOK,isLet,isDig,Bool.or_eq_true,Bool.and_eq_true,decide_eq_true_eq];omega)
              exact ⟨_,k1,k2,nleA⟩
  · have hlt:i=s.size:=(by have:¬ i < s.size:=of_decide_eq_false hlt;omega);subst hlt;simp -implicitDefEqProofs (disch:=omega) only [go_sem,↓reduceIte];unfold isNameB;rw [ha,Bool.and_true];refine guard_split ?_ ?_ <;> intro h1
    · have h1':decide (1≤s.size)=true:=decide_eq_true (by have:=of_decide_eq_true h1;omega);simp -implicitDefEqProofs (disch:=omega) only [go_sem,↓reduceIte ,h1,h1'];have e:decide ((s.size:Int)≤12)=decide (s.size≤12):=(by rw [decide_eq_decide];omega);rw [e]
    · have h1':decide (1≤s.size)=false:=decide_eq_false (by have:=of_decide_eq_false h1;omega);simp -implicitDefEqProofs (disch:=omega) only [go_sem,↓reduceIte ,h1,h1']
def code_slices_IndexFunc_int64_int64:VCode:=(.seq (.ops [
  ⟨(some 4),none,(.asg (.const (.int .i64 0)))⟩]) (.seq (.seq (.ops [
  ⟨(some 6),none,(.mv (.tmp 0))⟩,
  ⟨(some 7),none,(.len (.tmp 6))⟩,
  ⟨(some 8),none,(.mv (.const (.int .i64 0)))⟩]) (.block 0 (.loop (mB 19 523900) (.seq (.ops [
  ⟨(some 9),none,(.bin .lss (.tmp 8) (.tmp 7))⟩]) (.seq (.cond (.tmp 9) .skip (.exit 0)) (.seq (.block 1 (.seq (.ops [
  ⟨(some 10),none,(.mv (.tmp 8))⟩,
  ⟨(some 5),none,(.asg (.tmp 10))⟩]) (.seq (.ops [
  ⟨(some 11),none,(.mv (.tmp 1))⟩,
  ⟨(some 12),none,(.mv (.tmp 0))⟩,
  ⟨(some 13),none,(.mv (.tmp 5))⟩,
  ⟨(some 14),none,(.ia 1 (.tmp 12) (.tmp 13))⟩,
  ⟨(some 15),none,(.load 1 false (.tmp 14))⟩,
  ⟨(some 16),none,(.callvX (.tmp 11) [(.tmp 15)])⟩]) (.cond (.tmp 16) (.seq (.ops [
  ⟨(some 17),none,(.mv (.tmp 5))⟩,
  ⟨(some 4),none,(.asg (.tmp 17))⟩]) .ret) .skip)))) (.ops [
  ⟨(some 18),none,(.bin .add (.tmp 8) (.const (.int .i64 1)))⟩,
  ⟨(some 8),none,(.mv (.tmp 18))⟩]))))))) (.seq (.ops [
  ⟨(some 4),none,(.asg (.const (.int .i64 (-1))))⟩]) .ret)))
theorem law_slices_IndexFunc_int64_int64 {a0 a1 d:D} (h:code_slices_IndexFunc_int64_int64.wp (CT Tryz.prog TabG) (endQ [(.t 4)] d) [a0,a1,.undef,.undef,.undef,.undef,.undef,.undef,.undef,.undef,.undef,.undef,.undef,.undef,.undef,.undef,.undef,.undef,.undef]):Contract Tryz.prog TabG 106 [a0,a1] d :=
  contract_of (pt:=0) tabG Tryz.func106 (fun us W=>by kernel_rfl) (c:=Tryz.f106.body.getD .skip) (ms:=[(mB 19 523900)]) (ms':=[]) (by kernel_rfl) (by kernel_rfl) (by kernel_rfl) h
theorem v_IndexFunc_Int64 (f:FuncId) (caps:List D) (hd:CapsOK caps) (xs:List Int) (p:Int→Bool) (hc:∀ x,x∈xs→Contract Tryz.prog TabG f (.v (.int .i64 x)::caps) (.v (.bool (p x)))) (hn:xs.length≤1099511627776) :
    Contract Tryz.prog TabG 106 [.sl false 1 (xs.map (rI)),.fn f [] caps] (.v (.int .i64 (vIdx p xs))):=by
  refine law_slices_IndexFunc_int64_int64 ?_;unfold code_slices_IndexFunc_int64_int64;simp -implicitDefEqProofs (disch:=omega) only [go_sem,↓reduceIte ,hd.owny,hd.pr];refine loop_st (fun i:Nat=>[.sl false 1 (xs.map (rI)),.fn f [] caps,.undef,.undef,.undef,.undef,.undef,.v (.int .i64 (xs.map (rI)).length),.v (.int .i64 i),.undef,.undef,.undef,.undef,.undef,.undef,.undef,.undef,.undef,.undef]) (fun i=>i≤xs.length∧∀ j (hj:j < xs.length),j < i→p xs[j]=false) (fun i=>xs.length - i) 0 ?_ ⟨Nat.zero_le _,fun j _ h=>absurd h (Nat.not_lt_zero _)⟩ ?_
  · simp -implicitDefEqProofs (disch:=omega) only [go_sem,↓reduceIte ,hd.owny,hd.pr]
    (try simp -implicitDefEqProofs only [nleL_cc,nleL_nn,nle_self,nle_boxs,nle_aggs,nle_nils,and_self,and_true,true_and]) <;> repeat' (first | exact nle_of_eq rfl | exact nle_nil | apply And.intro | apply nle_sl | apply nleLL_cons | apply nleL_cons | exact nleL_nil | exact nleLL_nil | apply nle_box | apply nle_agg)
  rintro i ⟨hi,ha⟩;simp -implicitDefEqProofs (disch:=omega) only [go_sem,↓reduceIte ,List.length_map,Int.toNat_natCast,Int.ofNat_lt,Int.natCast_nonneg,List.getElem?_map,Option.map_some,hd.owny,hd.pr];refine cond_split ?_ ?_ <;> intro hlt
  · have hlt:i < xs.length:=(by simpa using hlt);have hx:=List.getElem?_eq_getElem hlt;simp -implicitDefEqProofs (disch:=omega) only [go_sem,↓reduceIte ,List.length_map,Int.toNat_natCast,Int.ofNat_lt,Int.natCast_nonneg,List.getElem?_map,Option.map_some,hlt,hx,hd.owny,hd.pr];have hcx:=hc _ (List.getElem_mem hlt);refine callv_le (f:=f) (first:=[]) (caps:=caps) ?_ hcx ?_ (.inl rfl) ?_
    · simp -implicitDefEqProofs (disch:=omega) only [go_sem,↓reduceIte ,hd.owny]
    · refine leL_of_eq ?_;simp only [List.nil_append,List.cons_append,List.map_cons,List.map_nil,hd.d8,List.map_append];simp only [deep,raw,List.getElem?_cons_succ,List.getElem?_cons_zero,List.map_cons,List.map_nil,TD.rows,immLL_rI,immLL_rB8,immLL_rS,immLL_rBo]
    simp -implicitDefEqProofs (disch:=omega) only [go_sem,↓reduceIte ,hd.owny,hd.pr];refine cond_split ?_ ?_ <;> intro hp
    · simp -implicitDefEqProofs (disch:=omega) only [go_sem,↓reduceIte ,hd.owny,hd.pr];rw [vIdx_hit p xs i hlt ha hp]
    · simp -implicitDefEqProofs (disch:=omega) only [go_sem,↓reduceIte ,wrN,hd.owny,hd.pr];refine ⟨i+1,by omega,⟨hlt,fun j hj h=>?_⟩,nleA⟩;rcases Nat.lt_or_ge j i with h' | h'
      · exact ha j hj h'
      · have:j=i:=(by omega);subst this;exact hp
  · have hlt:¬ i < xs.length:=(by simpa using hlt);simp -implicitDefEqProofs (disch:=omega) only [go_sem,↓reduceIte];rw [vIdx_miss p xs (fun j hj=>ha j hj (by omega))]
def code_slices_ContainsFunc_int64_int64:VCode:=(.seq (.ops [
  ⟨(some 4),none,(.asg (.const (.bool false)))⟩]) (.seq (.ops [
  ⟨(some 5),none,(.mv (.tmp 0))⟩,
  ⟨(some 6),none,(.mv (.tmp 1))⟩,
  ⟨(some 7),none,(.callX 106 [(.tmp 5),(.tmp 6)])⟩,
  ⟨(some 8),none,(.bin .geq (.tmp 7) (.const (.int .i64 0)))⟩,
  ⟨(some 4),none,(.asg (.tmp 8))⟩]) .ret))
theorem law_slices_ContainsFunc_int64_int64 {a0 a1 d:D} (h:code_slices_ContainsFunc_int64_int64.wp (CT Tryz.prog TabG) (endQ [(.t 4)] d) [a0,a1,.undef,.undef,.undef,.undef,.undef,.undef,.undef]):Contract Tryz.prog TabG 78 [a0,a1] d :=
  contract_of (pt:=0) tabG Tryz.func78 (fun us W=>by kernel_rfl) (c:=Tryz.f78.body.getD .skip) (ms:=[]) (ms':=[]) (by kernel_rfl) (by kernel_rfl) (by kernel_rfl) h
theorem v_ContainsFunc_Int64 (f:FuncId) (caps:List D) (hd:CapsOK caps) (xs:List Int) (p:Int→Bool) (hc:∀ x,x∈xs→Contract Tryz.prog TabG f (.v (.int .i64 x)::caps) (.v (.bool (p x)))) (hn:xs.length≤1099511627776) :
    Contract Tryz.prog TabG 78 [.sl false 1 (xs.map (rI)),.fn f [] caps] (.v (.bool (xs.any p))):=by
  refine law_slices_ContainsFunc_int64_int64 ?_;unfold code_slices_ContainsFunc_int64_int64;simp -implicitDefEqProofs (disch:=omega) only [go_sem,↓reduceIte ,hd.owny,hd.pr];refine call_le (v_IndexFunc_Int64 f caps hd xs p hc hn) ?_ (.inl rfl) ?_
  · refine leL_of_eq ?_;simp only [List.map_cons,List.map_nil,deep,raw,List.getElem?_cons_succ,List.getElem?_cons_zero,TD.rows,immLL_rI,immLL_rB8,immLL_rS,immLL_rBo,hd.owny,hd.pr,hd.d7]
    try rfl
  simp -implicitDefEqProofs (disch:=omega) only [go_sem,↓reduceIte];exact congrArg Value.bool (vIdx_any p xs)
structure setB (a:TileSet):Prop where
  g:a.Glues.length≤1048576
  t:a.Tiles.length≤1048576
  gn:∀ x,x∈a.Glues→x.Name.size≤1048576
  tn:∀ x,x∈a.Tiles→x.Name.size≤1048576
  ts:∀ x,x∈a.Tiles→x.Sides.length≤1048576
def gIdx (gs:List Glue) (n:ByteArray):Int:=vIdx (fun g:Glue=>decide (g.Name=n)) gs
def tIdx (ts:List Tile) (n:ByteArray):Int:=vIdx (fun t:Tile=>decide (t.Name=n)) ts
def okG (gs:List Glue) (i:Nat):Bool:=match gs[i]? with
  | some g=>isNameB g.Name&&(inR 1 4 g.Strength&&!(gs.take i).any (fun x=>decide (x.Name=g.Name)))
  | none=>true
def okT (n:Nat) (ts:List Tile) (i:Nat):Bool:=match ts[i]? with
  | some t=>isNameB t.Name&&(decide (t.Sides.length=4)&&(!(ts.take i).any (fun x=>decide (x.Name=t.Name))&&t.Sides.all (inR 0 n)))
  | none=>true
def okSet (a:TileSet):Bool:=decide (a.Glues.length≤200)&&(inR 1 160 a.Tiles.length&&((List.range a.Glues.length).all (okG a.Glues)&&(List.range a.Tiles.length).all (okT a.Glues.length a.Tiles)))
theorem okSet_g {a:TileSet} {i:Nat} (hi:i < a.Glues.length) (h:okG a.Glues i=false):okSet a=false:=by have:(List.range a.Glues.length).all (okG a.Glues)=false:=(by rw [List.all_eq_false];exact ⟨i,by simpa using hi,by simp [h]⟩);simp [okSet,this]
theorem okSet_t {a:TileSet} {i:Nat} (hi:i < a.Tiles.length) (h:okT a.Glues.length a.Tiles i=false):okSet a=false:=by have:(List.range a.Tiles.length).all (okT a.Glues.length a.Tiles)=false:=(by rw [List.all_eq_false];exact ⟨i,by simpa using hi,by simp [h]⟩);simp [okSet,this]
theorem vIdx_self {α:Type} (f:α→ByteArray) (xs:List α) (i:Nat) (hi:i < xs.length):decide (vIdx (fun x=>decide (f x=f xs[i])) xs=(i:Int))=!(xs.take i).any (fun x=>decide (f x=f xs[i])):=by
  by_cases h:(xs.take i).any (fun x=>decide (f x=f xs[i]))=true
  · rw [h];rw [List.any_eq_true] at h;obtain ⟨x,hx,hp⟩:=h;obtain ⟨j,hj,rfl⟩:=List.getElem_of_mem hx;simp only [List.length_take] at hj;rw [List.getElem_take] at hp;have hne:vIdx (fun x=>decide (f x=f xs[i])) xs≠(i:Int):=by
      intro e;unfold vIdx at e;cases hf:xs.findIdx? (fun x=>decide (f x=f xs[i])) with
      | none=>rw [hf] at e;simp at e
      | some k =>
        rw [hf] at e;have e:(k:Int)=(i:Int):=e;have hk:k=i:=by omega
        subst hk;rw [List.findIdx?_eq_some_iff_getElem] at hf;have:=hf.2.2 j (by omega);simp only [decide_eq_true_eq] at this hp;exact this hp
    simp [hne]
  · have h':(xs.take i).any (fun x=>decide (f x=f xs[i]))=false:=(by simpa using h);rw [h'];rw [List.any_eq_false] at h';have:=vIdx_hit (fun x=>decide (f x=f xs[i])) xs i hi (fun j hj hlt=>by
      have:=h' xs[j] (by
        rw [List.mem_take_iff_getElem];exact ⟨j,by omega,rfl⟩)
      simpa using this) (by simp)
    rw [this];simp
theorem okG_at {gs:List Glue} {i:Nat} (hi:i < gs.length):okG gs i=(isNameB gs[i].Name&&(inR 1 4 gs[i].Strength&&!(gs.take i).any (fun x=>decide (x.Name=gs[i].Name)))):=by unfold okG;rw [List.getElem?_eq_getElem hi]
theorem okT_at {n:Nat} {ts:List Tile} {i:Nat} (hi:i < ts.length):okT n ts i=(isNameB ts[i].Name&&(decide (ts[i].Sides.length=4)&&(!(ts.take i).any (fun x=>decide (x.Name=ts[i].Name))&&ts[i].Sides.all (inR 0 n)))):=by unfold okT;rw [List.getElem?_eq_getElem hi]
/-! names in maps -/
theorem getD_some {s:List Int} {k:Nat} (h:k < s.length):s[k]?=some (s.getD k 0):=by rw [List.getD_eq_getElem?_getD,List.getElem?_eq_getElem h];rfl
def entsN {α:Type} (f:α→ByteArray) (xs:List α):List (Value × Value):=xs.map fun x=>(Value.string (f x),Value.bool true)
theorem keq_str {a b:ByteArray}:keq (.string a) (.string b)=decide (b=a):=by rw [Bool.eq_iff_iff,decide_eq_true_eq];show (a==b)=true↔b=a;rw [MapKept.bytes_beq];exact eq_comm
theorem mget_N {α:Type} (f:α→ByteArray) (n:ByteArray):∀ xs:List α,mget (entsN f xs) (.string n)=if xs.any (fun x=>decide (f x=n)) then some (.bool true) else none
  | []=>rfl
  | x::xs=>by
    have ih:=mget_N f n xs;unfold mget entsN at *;simp only [List.map_cons,List.find?_cons,keq_str,List.any_cons];by_cases h:f x=n
    · simp [h]
    · simp only [h,decide_false,Bool.false_or];exact ih
theorem mset_N {α:Type} (f:α→ByteArray) (xs:List α) (y:α) (h:xs.any (fun x=>decide (f x=f y))=false):mset (entsN f xs) (.string (f y)) (.bool true)=entsN f (xs++[y]):=by
  unfold mset;have:(entsN f xs).findIdx? (fun x=>keq (.string (f y)) x.1)=none:=by rw [List.findIdx?_eq_none_iff];intro x hx;unfold entsN at hx;obtain ⟨z,hz,rfl⟩:=List.mem_map.1 hx;rw [List.any_eq_false] at h;have:=h z hz;simp only [keq_str];simpa using this
  rw [this];simp [entsN]
theorem take_next {α:Type} {xs:List α} {i:Nat} (hi:i < xs.length):xs.take i++[xs[i]]=xs.take (i+1):=(List.take_succ_eq_append_getElem hi).symm
def code_spec_l02Glue:VCode:=(.seq (.ops [
  ⟨(some 4),none,(.asg (.const (.int .i64 0)))⟩]) (.seq (.seq (.ops [
  ⟨(some 5),none,(.asg (.const (.int .i64 0)))⟩]) (.block 0 (.loop (mB 27 134217692) (.seq (.seq (.ops [
  ⟨(some 6),none,(.mv (.tmp 5))⟩,
  ⟨(some 7),none,(.mv (.tmp 0))⟩,
  ⟨(some 8),none,(.nilc (.tmp 7))⟩,
  ⟨(some 9),none,(.fa 0 (.tmp 8))⟩,
  ⟨(some 10),none,(.load 1 false (.tmp 9))⟩,
  ⟨(some 11),none,(.len (.tmp 10))⟩,
  ⟨(some 12),none,(.bin .lss (.tmp 6) (.tmp 11))⟩]) (.cond (.tmp 12) .skip (.exit 0))) (.seq (.block 1 (.seq (.ops [
  ⟨(some 15),none,(.mv (.tmp 0))⟩,
  ⟨(some 16),none,(.nilc (.tmp 15))⟩,
  ⟨(some 17),none,(.fa 0 (.tmp 16))⟩,
  ⟨(some 18),none,(.load 1 false (.tmp 17))⟩,
  ⟨(some 19),none,(.mv (.tmp 5))⟩,
  ⟨(some 20),none,(.ia 2 (.tmp 18) (.tmp 19))⟩,
  ⟨(some 21),none,(.fa 0 (.tmp 20))⟩,
  ⟨(some 22),none,(.load 1 false (.tmp 21))⟩,
  ⟨(some 23),none,(.mv (.tmp 1))⟩,
  ⟨(some 24),none,(.bin .eql (.tmp 22) (.tmp 23))⟩]) (.cond (.tmp 24) (.seq (.ops [
  ⟨(some 25),none,(.mv (.tmp 5))⟩,
  ⟨(some 26),none,(.bin .add (.tmp 25) (.const (.int .i64 1)))⟩,
  ⟨(some 4),none,(.asg (.tmp 26))⟩]) .ret) .skip))) (.ops [
  ⟨(some 13),none,(.mv (.tmp 5))⟩,
  ⟨(some 14),none,(.bin .add (.tmp 13) (.const (.int .i64 1)))⟩,
  ⟨(some 5),none,(.asg (.tmp 14))⟩])))))) (.seq (.ops [
  ⟨(some 4),none,(.asg (.const (.int .i64 0)))⟩]) .ret)))
theorem law_spec_l02Glue {a0 a1 d:D} (h:code_spec_l02Glue.wp (CT Tryz.prog TabG) (endQ [(.t 4)] d) [a0,a1,.undef,.undef,.undef,.undef,.undef,.undef,.undef,.undef,.undef,.undef,.undef,.undef,.undef,.undef,.undef,.undef,.undef,.undef,.undef,.undef,.undef,.undef,.undef,.undef,.undef]):Contract Tryz.prog TabG 99 [a0,a1] d :=
  contract_of (pt:=0) tabG Tryz.func99 (fun us W=>by kernel_rfl) (c:=Tryz.f99.body.getD .skip) (ms:=[(mB 27 134217692)]) (ms':=[]) (by kernel_rfl) (by kernel_rfl) (by kernel_rfl) h
def code_spec_l02Tile:VCode:=(.seq (.ops [
  ⟨(some 4),none,(.asg (.const (.int .i64 0)))⟩]) (.seq (.seq (.ops [
  ⟨(some 5),none,(.asg (.const (.int .i64 0)))⟩]) (.block 0 (.loop (mB 26 67108828) (.seq (.seq (.ops [
  ⟨(some 6),none,(.mv (.tmp 5))⟩,
  ⟨(some 7),none,(.mv (.tmp 0))⟩,
  ⟨(some 8),none,(.nilc (.tmp 7))⟩,
  ⟨(some 9),none,(.fa 1 (.tmp 8))⟩,
  ⟨(some 10),none,(.load 1 false (.tmp 9))⟩,
  ⟨(some 11),none,(.len (.tmp 10))⟩,
  ⟨(some 12),none,(.bin .lss (.tmp 6) (.tmp 11))⟩]) (.cond (.tmp 12) .skip (.exit 0))) (.seq (.block 1 (.seq (.ops [
  ⟨(some 15),none,(.mv (.tmp 0))⟩,
  ⟨(some 16),none,(.nilc (.tmp 15))⟩,
  ⟨(some 17),none,(.fa 1 (.tmp 16))⟩,
  ⟨(some 18),none,(.load 1 false (.tmp 17))⟩,
  ⟨(some 19),none,(.mv (.tmp 5))⟩,
  ⟨(some 20),none,(.ia 2 (.tmp 18) (.tmp 19))⟩,
  ⟨(some 21),none,(.fa 0 (.tmp 20))⟩,
  ⟨(some 22),none,(.load 1 false (.tmp 21))⟩,
  ⟨(some 23),none,(.mv (.tmp 1))⟩,
  ⟨(some 24),none,(.bin .eql (.tmp 22) (.tmp 23))⟩]) (.cond (.tmp 24) (.seq (.ops [
  ⟨(some 25),none,(.mv (.tmp 5))⟩,
  ⟨(some 4),none,(.asg (.tmp 25))⟩]) .ret) .skip))) (.ops [
  ⟨(some 13),none,(.mv (.tmp 5))⟩,
  ⟨(some 14),none,(.bin .add (.tmp 13) (.const (.int .i64 1)))⟩,
  ⟨(some 5),none,(.asg (.tmp 14))⟩])))))) (.seq (.ops [
  ⟨(some 4),none,(.asg (.const (.int .i64 (-1))))⟩]) .ret)))
theorem law_spec_l02Tile {a0 a1 d:D} (h:code_spec_l02Tile.wp (CT Tryz.prog TabG) (endQ [(.t 4)] d) [a0,a1,.undef,.undef,.undef,.undef,.undef,.undef,.undef,.undef,.undef,.undef,.undef,.undef,.undef,.undef,.undef,.undef,.undef,.undef,.undef,.undef,.undef,.undef,.undef,.undef]):Contract Tryz.prog TabG 101 [a0,a1] d :=
  contract_of (pt:=0) tabG Tryz.func101 (fun us W=>by kernel_rfl) (c:=Tryz.f101.body.getD .skip) (ms:=[(mB 26 67108828)]) (ms':=[]) (by kernel_rfl) (by kernel_rfl) (by kernel_rfl) h
theorem v_l02Glue (a:TileSet) (n:ByteArray) (hg:a.Glues.length≤1048576):Contract Tryz.prog TabG 99 [.iptr (TileSet.td.d false a) 0,.v (.string n)] (.v (.int .i64 (gIdx a.Glues n+1))):=by
  rw [TileSet.td_d];refine law_spec_l02Glue ?_;unfold code_spec_l02Glue;simp -implicitDefEqProofs (disch:=omega) only [go_sem,↓reduceIte];refine loop_st (fun i:Nat=>[.iptr [.sl false 2 (a.Glues.map (Glue.td.d false)),.sl false 2 (a.Tiles.map (Tile.td.d false))] 0,.v (.string n),.undef,.undef,.undef,.v (.int .i64 i),.undef,.undef,.undef,.undef,.undef,.undef,.undef,.undef,.undef,.undef,.undef,.undef,.undef,.undef,.undef,.undef,.undef,.undef,.undef,.undef,.undef]) (fun i=>i≤a.Glues.length∧∀ j (hj:j < a.Glues.length),j < i→decide (a.Glues[j].Name=n)=false) (fun i=>a.Glues.length - i) 0 (nleA) ⟨Nat.zero_le _,fun _ _ h=>absurd h (Nat.not_lt_zero _)⟩ ?_;rintro i ⟨hi,ha⟩;simp -implicitDefEqProofs (disch:=omega) only [go_sem,↓reduceIte ,List.length_map,Int.toNat_natCast,Int.ofNat_lt,Int.natCast_nonneg,List.getElem?_map,Option.map_some];refine cond_split ?_ ?_ <;> intro hlt
  · have hlt:i < a.Glues.length:=(by simpa using hlt);have e1:=List.getElem?_eq_getElem hlt;simp -implicitDefEqProofs (disch:=omega) only [go_sem,↓reduceIte ,List.length_map,Int.toNat_natCast,Int.ofNat_lt,Int.natCast_nonneg,List.getElem?_map,Option.map_some,hlt,e1,Glue.td_d];refine cond_split ?_ ?_ <;> intro hc
    · have hv:gIdx a.Glues n=(i:Int):=vIdx_hit _ a.Glues i hlt (fun j hj h=>ha j hj h) hc;simp -implicitDefEqProofs (disch:=omega) only [go_sem,↓reduceIte ,wrN];rw [hv];simp
    · simp -implicitDefEqProofs (disch:=omega) only [go_sem,↓reduceIte ,wrN];refine ⟨i+1,by omega,⟨hlt,fun j hj h=>?_⟩,nleA⟩;by_cases hji:j=i
      · subst hji;exact hc
      · exact ha j hj (by omega)
  · have hge:i=a.Glues.length:=by have:¬ i < a.Glues.length:=by simpa using hlt
                                  omega
    subst hge;have hv:gIdx a.Glues n = -1:=vIdx_miss _ a.Glues (fun j hj=>ha j hj hj);simp -implicitDefEqProofs (disch:=omega) only [go_sem,↓reduceIte];rw [hv];rfl
theorem v_l02Tile (a:TileSet) (n:ByteArray) (hg:a.Tiles.length≤1048576):Contract Tryz.prog TabG 101 [.iptr (TileSet.td.d false a) 0,.v (.string n)] (.v (.int .i64 (tIdx a.Tiles n))):=by
  rw [TileSet.td_d];refine law_spec_l02Tile ?_;unfold code_spec_l02Tile;simp -implicitDefEqProofs (disch:=omega) only [go_sem,↓reduceIte];refine loop_st (fun i:Nat=>[.iptr [.sl false 2 (a.Glues.map (Glue.td.d false)),.sl false 2 (a.Tiles.map (Tile.td.d false))] 0,.v (.string n),.undef,.undef,.undef,.v (.int .i64 i),.undef,.undef,.undef,.undef,.undef,.undef,.undef,.undef,.undef,.undef,.undef,.undef,.undef,.undef,.undef,.undef,.undef,.undef,.undef,.undef]) (fun i=>i≤a.Tiles.length∧∀ j (hj:j < a.Tiles.length),j < i→decide (a.Tiles[j].Name=n)=false) (fun i=>a.Tiles.length - i) 0 (nleA) ⟨Nat.zero_le _,fun _ _ h=>absurd h (Nat.not_lt_zero _)⟩ ?_;rintro i ⟨hi,ha⟩;simp -implicitDefEqProofs (disch:=omega) only [go_sem,↓reduceIte ,List.length_map,Int.toNat_natCast,Int.ofNat_lt,Int.natCast_nonneg,List.getElem?_map,Option.map_some];refine cond_split ?_ ?_ <;> intro hlt
  · have hlt:i < a.Tiles.length:=(by simpa using hlt);have e1:=List.getElem?_eq_getElem hlt;simp -implicitDefEqProofs (disch:=omega) only [go_sem,↓reduceIte ,List.length_map,Int.toNat_natCast,Int.ofNat_lt,Int.natCast_nonneg,List.getElem?_map,Option.map_some,hlt,e1,Tile.td_d];refine cond_split ?_ ?_ <;> intro hc
    · have hv:tIdx a.Tiles n=(i:Int):=vIdx_hit _ a.Tiles i hlt (fun j hj h=>ha j hj h) hc;simp -implicitDefEqProofs (disch:=omega) only [go_sem,↓reduceIte ,wrN];rw [hv]
    · simp -implicitDefEqProofs (disch:=omega) only [go_sem,↓reduceIte ,wrN];refine ⟨i+1,by omega,⟨hlt,fun j hj h=>?_⟩,nleA⟩;by_cases hji:j=i
      · subst hji;exact hc
      · exact ha j hj (by omega)
  · have hge:i=a.Tiles.length:=by have:¬ i < a.Tiles.length:=by simpa using hlt
                                  omega
    subst hge;have hv:tIdx a.Tiles n = -1:=vIdx_miss _ a.Tiles (fun j hj=>ha j hj hj);simp -implicitDefEqProofs (disch:=omega) only [go_sem,↓reduceIte];rw [hv]
def code_spec_l02Ok:VCode:=(.seq (.ops [
  ⟨(some 2),none,(.asg (.const (.bool false)))⟩]) (.seq (.seq (.ops [
  ⟨(some 8),none,(.mv (.tmp 0))⟩,
  ⟨(some 9),none,(.nilc (.tmp 8))⟩,
  ⟨(some 10),none,(.fa 0 (.tmp 9))⟩,
  ⟨(some 11),none,(.load 1 false (.tmp 10))⟩,
  ⟨(some 12),none,(.len (.tmp 11))⟩,
  ⟨(some 13),none,(.bin .gtr (.tmp 12) (.const (.int .i64 200)))⟩,
  ⟨(some 14),none,(.mv (.tmp 13))⟩,
  ⟨(some 15),(some (14,false)),(.mv (.tmp 0))⟩,
  ⟨(some 16),(some (14,false)),(.nilc (.tmp 15))⟩,
  ⟨(some 17),(some (14,false)),(.fa 1 (.tmp 16))⟩,
  ⟨(some 18),(some (14,false)),(.load 1 false (.tmp 17))⟩,
  ⟨(some 19),(some (14,false)),(.len (.tmp 18))⟩,
  ⟨(some 20),(some (14,false)),(.bin .lss (.tmp 19) (.const (.int .i64 1)))⟩,
  ⟨(some 21),none,(.pick (.tmp 14) (.const (.bool true)) (.tmp 20))⟩,
  ⟨(some 22),none,(.mv (.tmp 21))⟩,
  ⟨(some 23),(some (22,false)),(.mv (.tmp 0))⟩,
  ⟨(some 24),(some (22,false)),(.nilc (.tmp 23))⟩,
  ⟨(some 25),(some (22,false)),(.fa 1 (.tmp 24))⟩,
  ⟨(some 26),(some (22,false)),(.load 1 false (.tmp 25))⟩,
  ⟨(some 27),(some (22,false)),(.len (.tmp 26))⟩,
  ⟨(some 28),(some (22,false)),(.bin .gtr (.tmp 27) (.const (.int .i64 160)))⟩,
  ⟨(some 29),none,(.pick (.tmp 22) (.const (.bool true)) (.tmp 28))⟩]) (.cond (.tmp 29) (.seq (.ops [
  ⟨(some 2),none,(.asg (.const (.bool false)))⟩]) .ret) .skip)) (.seq (.seq (.ops [
  ⟨(some 3),none,(.asg (.const (.int .i64 0)))⟩]) (.block 0 (.loop (mB 115 41538374868278621028243970633760758) (.seq (.seq (.ops [
  ⟨(some 30),none,(.mv (.tmp 3))⟩,
  ⟨(some 31),none,(.mv (.tmp 0))⟩,
  ⟨(some 32),none,(.nilc (.tmp 31))⟩,
  ⟨(some 33),none,(.fa 0 (.tmp 32))⟩,
  ⟨(some 34),none,(.load 1 false (.tmp 33))⟩,
  ⟨(some 35),none,(.len (.tmp 34))⟩,
  ⟨(some 36),none,(.bin .lss (.tmp 30) (.tmp 35))⟩]) (.cond (.tmp 36) .skip (.exit 0))) (.seq (.block 1 (.seq (.ops [
  ⟨(some 39),none,(.mv (.tmp 0))⟩,
  ⟨(some 40),none,(.nilc (.tmp 39))⟩,
  ⟨(some 41),none,(.fa 0 (.tmp 40))⟩,
  ⟨(some 42),none,(.load 1 false (.tmp 41))⟩,
  ⟨(some 43),none,(.mv (.tmp 3))⟩,
  ⟨(some 44),none,(.ia 2 (.tmp 42) (.tmp 43))⟩,
  ⟨(some 45),none,(.load 2 true (.tmp 44))⟩,
  ⟨(some 4),none,(.alloc [(.string ⟨⟨[]⟩⟩),(.int .i64 0)])⟩,
  ⟨none,none,(.store 2 (.tmp 4) (.tmp 45))⟩]) (.seq (.ops [
  ⟨(some 46),none,(.fa 0 (.tmp 4))⟩,
  ⟨(some 47),none,(.load 1 false (.tmp 46))⟩,
  ⟨(some 48),none,(.callX 100 [(.tmp 47)])⟩,
  ⟨(some 49),none,(.un .not (.tmp 48))⟩,
  ⟨(some 50),none,(.mv (.tmp 49))⟩,
  ⟨(some 51),(some (50,false)),(.fa 1 (.tmp 4))⟩,
  ⟨(some 52),(some (50,false)),(.load 1 false (.tmp 51))⟩,
  ⟨(some 53),(some (50,false)),(.callX 55 [(.tmp 52),(.const (.int .i64 1)),(.const (.int .i64 4))])⟩,
  ⟨(some 54),(some (50,false)),(.un .not (.tmp 53))⟩,
  ⟨(some 55),none,(.pick (.tmp 50) (.const (.bool true)) (.tmp 54))⟩,
  ⟨(some 56),none,(.mv (.tmp 55))⟩,
  ⟨(some 57),(some (56,false)),(.mv (.tmp 0))⟩,
  ⟨(some 58),(some (56,false)),(.fa 0 (.tmp 4))⟩,
  ⟨(some 59),(some (56,false)),(.load 1 false (.tmp 58))⟩,
  ⟨(some 60),(some (56,false)),(.callX 99 [(.tmp 57),(.tmp 59)])⟩,
  ⟨(some 61),(some (56,false)),(.mv (.tmp 3))⟩,
  ⟨(some 62),(some (56,false)),(.bin .add (.tmp 61) (.const (.int .i64 1)))⟩,
  ⟨(some 63),(some (56,false)),(.bin .neq (.tmp 60) (.tmp 62))⟩,
  ⟨(some 64),none,(.pick (.tmp 56) (.const (.bool true)) (.tmp 63))⟩]) (.cond (.tmp 64) (.seq (.ops [
  ⟨(some 2),none,(.asg (.const (.bool false)))⟩]) .ret) .skip)))) (.ops [
  ⟨(some 37),none,(.mv (.tmp 3))⟩,
  ⟨(some 38),none,(.bin .add (.tmp 37) (.const (.int .i64 1)))⟩,
  ⟨(some 3),none,(.asg (.tmp 38))⟩])))))) (.seq (.seq (.ops [
  ⟨(some 5),none,(.asg (.const (.int .i64 0)))⟩]) (.block 2 (.loop (mB 115 41538374868278621028243970633760734) (.seq (.seq (.ops [
  ⟨(some 65),none,(.mv (.tmp 5))⟩,
  ⟨(some 66),none,(.mv (.tmp 0))⟩,
  ⟨(some 67),none,(.nilc (.tmp 66))⟩,
  ⟨(some 68),none,(.fa 1 (.tmp 67))⟩,
  ⟨(some 69),none,(.load 1 false (.tmp 68))⟩,
  ⟨(some 70),none,(.len (.tmp 69))⟩,
  ⟨(some 71),none,(.bin .lss (.tmp 65) (.tmp 70))⟩]) (.cond (.tmp 71) .skip (.exit 2))) (.seq (.block 3 (.seq (.ops [
  ⟨(some 74),none,(.mv (.tmp 0))⟩,
  ⟨(some 75),none,(.nilc (.tmp 74))⟩,
  ⟨(some 76),none,(.fa 1 (.tmp 75))⟩,
  ⟨(some 77),none,(.load 1 false (.tmp 76))⟩,
  ⟨(some 78),none,(.mv (.tmp 5))⟩,
  ⟨(some 79),none,(.ia 2 (.tmp 77) (.tmp 78))⟩,
  ⟨(some 80),none,(.load 2 true (.tmp 79))⟩,
  ⟨(some 6),none,(.alloc [(.string ⟨⟨[]⟩⟩),(.slice none 0 0)])⟩,
  ⟨none,none,(.store 2 (.tmp 6) (.tmp 80))⟩]) (.seq (.seq (.ops [
  ⟨(some 81),none,(.fa 0 (.tmp 6))⟩,
  ⟨(some 82),none,(.load 1 false (.tmp 81))⟩,
  ⟨(some 83),none,(.callX 100 [(.tmp 82)])⟩,
  ⟨(some 84),none,(.un .not (.tmp 83))⟩,
  ⟨(some 85),none,(.mv (.tmp 84))⟩,
  ⟨(some 86),(some (85,false)),(.fa 1 (.tmp 6))⟩,
  ⟨(some 87),(some (85,false)),(.load 1 false (.tmp 86))⟩,
  ⟨(some 88),(some (85,false)),(.len (.tmp 87))⟩,
  ⟨(some 89),(some (85,false)),(.bin .neq (.tmp 88) (.const (.int .i64 4)))⟩,
  ⟨(some 90),none,(.pick (.tmp 85) (.const (.bool true)) (.tmp 89))⟩,
  ⟨(some 91),none,(.mv (.tmp 90))⟩,
  ⟨(some 92),(some (91,false)),(.mv (.tmp 0))⟩,
  ⟨(some 93),(some (91,false)),(.fa 0 (.tmp 6))⟩,
  ⟨(some 94),(some (91,false)),(.load 1 false (.tmp 93))⟩,
  ⟨(some 95),(some (91,false)),(.callX 101 [(.tmp 92),(.tmp 94)])⟩,
  ⟨(some 96),(some (91,false)),(.mv (.tmp 5))⟩,
  ⟨(some 97),(some (91,false)),(.bin .neq (.tmp 95) (.tmp 96))⟩,
  ⟨(some 98),none,(.pick (.tmp 91) (.const (.bool true)) (.tmp 97))⟩]) (.cond (.tmp 98) (.seq (.ops [
  ⟨(some 2),none,(.asg (.const (.bool false)))⟩]) .ret) .skip)) (.seq (.ops [
  ⟨(some 7),none,(.asg (.const (.int .i64 0)))⟩]) (.block 4 (.loop (mB 115 41538374868278621028243970633760542) (.seq (.seq (.ops [
  ⟨(some 99),none,(.mv (.tmp 7))⟩,
  ⟨(some 100),none,(.bin .lss (.tmp 99) (.const (.int .i64 4)))⟩]) (.cond (.tmp 100) .skip (.exit 4))) (.seq (.block 5 (.seq (.draw (mB 113 10374452512267829421849019032797184) [] [⟨0,(mB 113 10374452512267829421849019032797184),[],⟨(some 103),none,(.fa 1 (.tmp 6))⟩⟩,⟨1,(mB 113 10364311307466003586637045407154176),[],⟨(some 104),none,(.load 1 false (.tmp 103))⟩⟩,⟨2,(mB 113 10374452512267829421849019032797184),[],⟨(some 105),none,(.mv (.tmp 7))⟩⟩,⟨3,(mB 113 10303464078655048575365203653296128),[],⟨(some 106),none,(.ia 1 (.tmp 104) (.tmp 105))⟩⟩,⟨4,(mB 113 10222334440240441893669414648152064),[],⟨(some 107),none,(.load 1 false (.tmp 106))⟩⟩,⟨5,(mB 113 10374452512267829421849019032797184),[],⟨(some 108),none,(.mv (.tmp 0))⟩⟩,⟨6,(mB 113 10049933958609402695065863012220928),[],⟨(some 109),none,(.nilc (.tmp 108))⟩⟩,⟨7,(mB 113 9400896851292549241499550971068416),[],⟨(some 110),none,(.fa 0 (.tmp 109))⟩⟩,⟨8,(mB 113 8102822636658842334366926888763392),[],⟨(some 111),none,(.load 1 false (.tmp 110))⟩⟩,⟨9,(mB 113 5506674207391428520101678724153344),[],⟨(some 112),none,(.len (.tmp 111))⟩⟩] [⟨(some 113),none,(.callX 55 [(.tmp 107),(.const (.int .i64 0)),(.tmp 112)])⟩,⟨(some 114),none,(.un .not (.tmp 113))⟩]) (.cond (.tmp 114) (.seq (.ops [
  ⟨(some 2),none,(.asg (.const (.bool false)))⟩]) .ret) .skip))) (.ops [
  ⟨(some 101),none,(.mv (.tmp 7))⟩,
  ⟨(some 102),none,(.bin .add (.tmp 101) (.const (.int .i64 1)))⟩,
  ⟨(some 7),none,(.asg (.tmp 102))⟩]))))))))) (.ops [
  ⟨(some 72),none,(.mv (.tmp 5))⟩,
  ⟨(some 73),none,(.bin .add (.tmp 72) (.const (.int .i64 1)))⟩,
  ⟨(some 5),none,(.asg (.tmp 73))⟩])))))) (.seq (.ops [
  ⟨(some 2),none,(.asg (.const (.bool true)))⟩]) .ret)))))
theorem law_spec_l02Ok {a0 d:D} (h:code_spec_l02Ok.wp (CT Tryz.prog TabG) (endQ [(.t 2)] d) [a0,.undef,.undef,.undef,.undef,.undef,.undef,.undef,.undef,.undef,.undef,.undef,.undef,.undef,.undef,.undef,.undef,.undef,.undef,.undef,.undef,.undef,.undef,.undef,.undef,.undef,.undef,.undef,.undef,.undef,.undef,.undef,.undef,.undef,.undef,.undef,.undef,.undef,.undef,.undef,.undef,.undef,.undef,.undef,.undef,.undef,.undef,.undef,.undef,.undef,.undef,.undef,.undef,.undef,.undef,.undef,.undef,.undef,.undef,.undef,.undef,.undef,.undef,.undef,.undef,.undef,.undef,.undef,.undef,.undef,.undef,.undef,.undef,.undef,.undef,.undef,.undef,.undef,.undef,.undef,.undef,.undef,.undef,.undef,.undef,.undef,.undef,.undef,.undef,.undef,.undef,.undef,.undef,.undef,.undef,.undef,.undef,.undef,.undef,.undef,.undef,.undef,.undef,.undef,.undef,.undef,.undef,.undef,.undef,.undef,.undef,.undef,.undef,.undef,.undef]):Contract Tryz.prog TabG 74 [a0] d :=
  contract_of (pt:=0) tabG Tryz.func74 (fun us W=>by kernel_rfl) (c:=Tryz.f74.body.getD .skip) (ms:=[(mB 115 41538374868278621028243970633760758),(mB 115 41538374868278621028243970633760734),(mB 115 41538374868278621028243970633760542)]) (ms':=[]) (by kernel_rfl) (by kernel_rfl) (by kernel_rfl) h
set_option maxHeartbeats 4000000 in
theorem v_l02Ok (a:TileSet) (ha:setB a) : Contract Tryz.prog TabG 74 [.iptr (TileSet.td.d false a) 0] (.v (.bool (okSet a))):=by
  have hag:=ha.g;have hat:=ha.t;rw [TileSet.td_d];refine law_spec_l02Ok ?_;unfold code_spec_l02Ok;by_cases hg:a.Glues.length≤200
  · have f1 : decide ((200:Int) < (a.Glues.length:Int))=false:=decide_eq_false (by omega);by_cases ht:1≤a.Tiles.length
    · have f2 : decide ((a.Tiles.length:Int) < 1)=false:=decide_eq_false (by omega);by_cases ht2:a.Tiles.length≤160
      · have f3 : decide ((160:Int) < (a.Tiles.length:Int))=false:=decide_eq_false (by omega);simp -implicitDefEqProofs (disch:=omega) only [go_sem,↓reduceIte ,List.length_map,f1,f2,f3];refine loop_st (fun i:Nat=>[.iptr [.sl false 2 (a.Glues.map (Glue.td.d false)),.sl false 2 (a.Tiles.map (Tile.td.d false))] 0,.undef,.undef,.v (.int .i64 i),.undef,.undef,.undef,.undef,.undef,.undef,.undef,.undef,.undef,.undef,.undef,.undef,.undef,.undef,.undef,.undef,.undef,.undef,.undef,.undef,.undef,.undef,.undef,.undef,.undef,.undef,.undef,.undef,.undef,.undef,.undef,.undef,.undef,.undef,.undef,.undef,.undef,.undef,.undef,.undef,.undef,.undef,.undef,.undef,.undef,.undef,.undef,.undef,.undef,.undef,.undef,.undef,.undef,.undef,.undef,.undef,.undef,.undef,.undef,.undef,.undef,.undef,.undef,.undef,.undef,.undef,.undef,.undef,.undef,.undef,.undef,.undef,.undef,.undef,.undef,.undef,.undef,.undef,.undef,.undef,.undef,.undef,.undef,.undef,.undef,.undef,.undef,.undef,.undef,.undef,.undef,.undef,.undef,.undef,.undef,.undef,.undef,.undef,.undef,.undef,.undef,.undef,.undef,.undef,.undef,.undef,.undef,.undef,.undef,.undef,.undef]) (fun i=>i≤a.Glues.length∧(List.range i).all (okG a.Glues)=true) (fun i=>a.Glues.length - i) 0 (nleA) ⟨Nat.zero_le _,rfl⟩ ?_;rintro i ⟨hi,hall⟩;simp -implicitDefEqProofs (disch:=omega) only [go_sem,↓reduceIte ,List.length_map,Int.toNat_natCast,Int.ofNat_lt,Int.natCast_nonneg,List.getElem?_map,Option.map_some];refine cond_split ?_ ?_ <;> intro hlt
        · have hlt:i < a.Glues.length:=(by simpa using hlt);have e1:=List.getElem?_eq_getElem hlt;have hok:=okG_at hlt;simp -implicitDefEqProofs (disch:=omega) only [go_sem,↓reduceIte ,List.length_map,Int.toNat_natCast,Int.ofNat_lt,Int.natCast_nonneg,List.getElem?_map,Option.map_some,hlt,e1,Glue.td_d];refine call_B (vIsName_spec _ (ha.gn _ (List.getElem_mem hlt))) (by simp -implicitDefEqProofs (disch:=omega) only [go_sem,↓reduceIte,deep,TD.rows,immLL_rI,immLL_rB8,immLL_rS,immLL_rBo,immLL_rII,immLL_rIIt];exact rfl) ?_;simp -implicitDefEqProofs (disch:=omega) only [go_sem,↓reduceIte];refine guard_split ?_ ?_ <;> intro h1
          · simp -implicitDefEqProofs (disch:=omega) only [go_sem,↓reduceIte ,h1];simp only [Bool.not_eq_true'] at h1;rw [okSet_g hlt (by rw [hok,h1];rfl)]
          · simp only [Bool.not_eq_false'] at h1;simp -implicitDefEqProofs (disch:=omega) only [go_sem,↓reduceIte ,h1];refine call_B (v_l00In _ _ _) (by simp -implicitDefEqProofs (disch:=omega) only [go_sem,↓reduceIte,deep,TD.rows,immLL_rI,immLL_rB8,immLL_rS,immLL_rBo,immLL_rII,immLL_rIIt];exact rfl) ?_;simp -implicitDefEqProofs (disch:=omega) only [go_sem,↓reduceIte];refine guard_split ?_ ?_ <;> intro h2
            · simp -implicitDefEqProofs (disch:=omega) only [go_sem,↓reduceIte ,h2];simp only [Bool.not_eq_true'] at h2;rw [okSet_g hlt (by rw [hok,h1,h2];rfl)]
            · simp only [Bool.not_eq_false'] at h2;simp -implicitDefEqProofs (disch:=omega) only [go_sem,↓reduceIte ,h2];refine call_B (v_l02Glue a a.Glues[i].Name hag) (by simp -implicitDefEqProofs (disch:=omega) only [go_sem,↓reduceIte,deep,TD.rows,immLL_rI,immLL_rB8,immLL_rS,immLL_rBo,immLL_rII,immLL_rIIt,wrN];exact rfl) ?_;simp -implicitDefEqProofs (disch:=omega) only [go_sem,↓reduceIte ,wrN];have hself:(!decide (gIdx a.Glues a.Glues[i].Name+1=((i+1:Nat):Int)))=(a.Glues.take i).any (fun x=>decide (x.Name=a.Glues[i].Name)):=by have h3:decide (gIdx a.Glues a.Glues[i].Name+1=((i+1:Nat):Int))=decide (gIdx a.Glues a.Glues[i].Name=(i:Int)):=(by rw [decide_eq_decide];omega);have h4:decide (gIdx a.Glues a.Glues[i].Name=(i:Int))=!(a.Glues.take i).any (fun x=>decide (x.Name=a.Glues[i].Name)):=vIdx_self (fun g:Glue=>g.Name) a.Glues i hlt;rw [h3,h4,Bool.not_not]
              rw [hself];refine cond_split ?_ ?_ <;> intro h3
              · simp -implicitDefEqProofs (disch:=omega) only [go_sem,↓reduceIte];rw [okSet_g hlt (by rw [hok,h1,h2,h3];rfl)]
              · simp -implicitDefEqProofs (disch:=omega) only [go_sem,↓reduceIte ,wrN];exact ⟨i+1,by omega,⟨hlt,all_next hall (by rw [hok,h1,h2,h3];rfl)⟩,nleA⟩
        · have hge:i=a.Glues.length:=by have:¬ i < a.Glues.length:=by simpa using hlt
                                        omega
          subst hge;simp -implicitDefEqProofs (disch:=omega) only [go_sem,↓reduceIte];refine loop_st (fun i:Nat=>[.iptr [.sl false 2 (a.Glues.map (Glue.td.d false)),.sl false 2 (a.Tiles.map (Tile.td.d false))] 0,.undef,.undef,.undef,.undef,.v (.int .i64 i),.undef,.undef,.undef,.undef,.undef,.undef,.undef,.undef,.undef,.undef,.undef,.undef,.undef,.undef,.undef,.undef,.undef,.undef,.undef,.undef,.undef,.undef,.undef,.undef,.undef,.undef,.undef,.undef,.undef,.undef,.undef,.undef,.undef,.undef,.undef,.undef,.undef,.undef,.undef,.undef,.undef,.undef,.undef,.undef,.undef,.undef,.undef,.undef,.undef,.undef,.undef,.undef,.undef,.undef,.undef,.undef,.undef,.undef,.undef,.undef,.undef,.undef,.undef,.undef,.undef,.undef,.undef,.undef,.undef,.undef,.undef,.undef,.undef,.undef,.undef,.undef,.undef,.undef,.undef,.undef,.undef,.undef,.undef,.undef,.undef,.undef,.undef,.undef,.undef,.undef,.undef,.undef,.undef,.undef,.undef,.undef,.undef,.undef,.undef,.undef,.undef,.undef,.undef,.undef,.undef,.undef,.undef,.undef,.undef]) (fun i=>i≤a.Tiles.length∧(List.range i).all (okT a.Glues.length a.Tiles)=true) (fun i=>a.Tiles.length - i) 0 (nleA) ⟨Nat.zero_le _,rfl⟩ ?_;rintro i ⟨hi,hallT⟩;simp -implicitDefEqProofs (disch:=omega) only [go_sem,↓reduceIte ,List.length_map,Int.toNat_natCast,Int.ofNat_lt,Int.natCast_nonneg,List.getElem?_map,Option.map_some];refine cond_split ?_ ?_ <;> intro hlt
          · have hlt:i < a.Tiles.length:=(by simpa using hlt);have e1:=List.getElem?_eq_getElem hlt;have hok:okT a.Glues.length a.Tiles i=_:=okT_at hlt;have hsl:=ha.ts _ (List.getElem_mem hlt);simp -implicitDefEqProofs (disch:=omega) only [go_sem,↓reduceIte ,List.length_map,Int.toNat_natCast,Int.ofNat_lt,Int.natCast_nonneg,List.getElem?_map,Option.map_some,hlt,e1,Tile.td_d];refine call_B (vIsName_spec _ (ha.tn _ (List.getElem_mem hlt))) (by simp -implicitDefEqProofs (disch:=omega) only [go_sem,↓reduceIte,deep,TD.rows,immLL_rI,immLL_rB8,immLL_rS,immLL_rBo,immLL_rII,immLL_rIIt];exact rfl) ?_;simp -implicitDefEqProofs (disch:=omega) only [go_sem,↓reduceIte];refine guard_split ?_ ?_ <;> intro h1
            · simp -implicitDefEqProofs (disch:=omega) only [go_sem,↓reduceIte ,h1];simp only [Bool.not_eq_true'] at h1;rw [okSet_t hlt (by rw [hok,h1];rfl)]
            · simp only [Bool.not_eq_false'] at h1;simp -implicitDefEqProofs (disch:=omega) only [go_sem,↓reduceIte ,h1,List.length_map];have h4e:decide ((a.Tiles[i].Sides.length:Int)=4)=decide (a.Tiles[i].Sides.length=4):=by rw [decide_eq_decide];omega
              refine guard_split ?_ ?_ <;> intro h2
              · simp -implicitDefEqProofs (disch:=omega) only [go_sem,↓reduceIte ,h2];simp only [Bool.not_eq_true',h4e] at h2;rw [okSet_t hlt (by rw [hok,h1,h2];rfl)]
              · have h2':=h2;simp only [Bool.not_eq_false',h4e] at h2';simp -implicitDefEqProofs (disch:=omega) only [go_sem,↓reduceIte ,h2];refine call_B (v_l02Tile a a.Tiles[i].Name hat) (by simp -implicitDefEqProofs (disch:=omega) only [go_sem,↓reduceIte,deep,TD.rows,immLL_rI,immLL_rB8,immLL_rS,immLL_rBo,immLL_rII,immLL_rIIt];exact rfl) ?_;simp -implicitDefEqProofs (disch:=omega) only [go_sem,↓reduceIte];have h4:decide (tIdx a.Tiles a.Tiles[i].Name=(i:Int))=!(a.Tiles.take i).any (fun x=>decide (x.Name=a.Tiles[i].Name)):=vIdx_self (fun g:Tile=>g.Name) a.Tiles i hlt;rw [h4,Bool.not_not];refine cond_split ?_ ?_ <;> intro h3
                · simp -implicitDefEqProofs (disch:=omega) only [go_sem,↓reduceIte];rw [okSet_t hlt (by rw [hok,h1,h2',h3];rfl)]
                · have h44:a.Tiles[i].Sides.length=4:=(by simpa using h2');simp -implicitDefEqProofs (disch:=omega) only [go_sem,↓reduceIte];refine loop_st (fun k:Nat=>[.iptr [.sl false 2 (a.Glues.map (Glue.td.d false)),.sl false 2 (a.Tiles.map (Tile.td.d false))] 0,.undef,.undef,.undef,.undef,.v (.int .i64 i),.box none [.v (.string a.Tiles[i].Name),.sl false 1 (a.Tiles[i].Sides.map rI)],.v (.int .i64 k),.undef,.undef,.undef,.undef,.undef,.undef,.undef,.undef,.undef,.undef,.undef,.undef,.undef,.undef,.undef,.undef,.undef,.undef,.undef,.undef,.undef,.undef,.undef,.undef,.undef,.undef,.undef,.undef,.undef,.undef,.undef,.undef,.undef,.undef,.undef,.undef,.undef,.undef,.undef,.undef,.undef,.undef,.undef,.undef,.undef,.undef,.undef,.undef,.undef,.undef,.undef,.undef,.undef,.undef,.undef,.undef,.undef,.undef,.undef,.undef,.undef,.undef,.undef,.undef,.undef,.undef,.undef,.undef,.undef,.undef,.undef,.undef,.undef,.undef,.undef,.undef,.undef,.undef,.undef,.undef,.undef,.undef,.undef,.undef,.undef,.undef,.undef,.undef,.undef,.undef,.undef,.undef,.undef,.undef,.undef,.undef,.undef,.undef,.undef,.undef,.undef,.undef,.undef,.undef,.undef,.undef,.undef]) (fun k=>k≤4∧(a.Tiles[i].Sides.take k).all (inR 0 a.Glues.length)=true) (fun k=>4 - k) 0 (nleA) ⟨Nat.zero_le _,rfl⟩ ?_;rintro k ⟨hk,hkall⟩;simp -implicitDefEqProofs (disch:=omega) only [go_sem,↓reduceIte ,List.length_map,Int.toNat_natCast,Int.ofNat_lt,Int.natCast_nonneg,List.getElem?_map,Option.map_some];refine cond_split ?_ ?_ <;> intro hlk
                  · have hlk:k < 4:=(by have:=of_decide_eq_true hlk;omega);have hlk':k < a.Tiles[i].Sides.length:=(by omega);have e2:=List.getElem?_eq_getElem hlk';simp -implicitDefEqProofs (disch:=omega) only [go_sem,↓reduceIte ,List.length_map,Int.toNat_natCast,Int.ofNat_lt,Int.natCast_nonneg,List.getElem?_map,Option.map_some,hlk',e2];refine call_B (v_l00In _ _ _) (by simp -implicitDefEqProofs (disch:=omega) only [go_sem,↓reduceIte,deep,TD.rows,immLL_rI,immLL_rB8,immLL_rS,immLL_rBo,immLL_rII,immLL_rIIt];exact rfl) ?_;simp -implicitDefEqProofs (disch:=omega) only [go_sem,↓reduceIte];refine cond_split ?_ ?_ <;> intro h5
                    · simp -implicitDefEqProofs (disch:=omega) only [go_sem,↓reduceIte];simp only [Bool.not_eq_true'] at h5;have:a.Tiles[i].Sides.all (inR 0 a.Glues.length)=false:=by rw [List.all_eq_false];exact ⟨_,List.getElem_mem hlk',by simp [h5]⟩
                      rw [okSet_t hlt (by rw [hok,h1,h2',h3,this];rfl)]
                    · simp only [Bool.not_eq_false'] at h5;simp -implicitDefEqProofs (disch:=omega) only [go_sem,↓reduceIte ,wrN];refine ⟨k+1,by omega,⟨hlk,?_⟩,nleA⟩;rw [List.take_succ_eq_append_getElem hlk',List.all_append,hkall];simp [h5]
                  · have hk4:k=4:=(by have:=of_decide_eq_false hlk;omega);subst hk4;simp -implicitDefEqProofs (disch:=omega) only [go_sem,↓reduceIte ,wrN];rw [List.take_of_length_le (by omega)] at hkall;exact ⟨i+1,by omega,⟨hlt,all_next hallT (by rw [hok,h1,h2',h3,hkall];rfl)⟩,nleA⟩
          · have hge:i=a.Tiles.length:=by have:¬ i < a.Tiles.length:=by simpa using hlt
                                          omega
            subst hge;simp -implicitDefEqProofs (disch:=omega) only [go_sem,↓reduceIte];have hr:inR 1 160 a.Tiles.length=true:=inR_iff.2 ⟨by omega,by omega⟩;unfold okSet;rw [hall,hallT,hr,decide_eq_true hg];rfl
      · have f3:decide ((160:Int) < (a.Tiles.length:Int))=true:=decide_eq_true (by omega);have hr:inR 1 160 a.Tiles.length=false:=(by unfold inR;rw [decide_eq_false (p:=(a.Tiles.length:Int)≤160) (by omega),Bool.and_false]);simp -implicitDefEqProofs (disch:=omega) only [go_sem,↓reduceIte ,List.length_map,f1,f2,f3];unfold okSet;rw [hr,Bool.false_and,Bool.and_false]
    · have f2:decide ((a.Tiles.length:Int) < 1)=true:=decide_eq_true (by omega);have hr:inR 1 160 a.Tiles.length=false:=(by unfold inR;rw [decide_eq_false (p:=(1:Int)≤(a.Tiles.length:Int)) (by omega),Bool.false_and]);simp -implicitDefEqProofs (disch:=omega) only [go_sem,↓reduceIte ,List.length_map,f1,f2];unfold okSet;rw [hr,Bool.false_and,Bool.and_false]
  · have f1:decide ((200:Int) < (a.Glues.length:Int))=true:=decide_eq_true (by omega);simp -implicitDefEqProofs (disch:=omega) only [go_sem,↓reduceIte ,List.length_map,f1];unfold okSet;rw [decide_eq_false hg,Bool.false_and]
def code_impl_ValidSet:VCode:=(.seq (.ops [
  ⟨(some 1),none,(.box (.tmp 0))⟩,
  ⟨(some 2),none,(.asg (.const (.bool false)))⟩]) (.seq (.seq (.ops [
  ⟨(some 9),none,(.fa 0 (.tmp 1))⟩,
  ⟨(some 10),none,(.load 1 false (.tmp 9))⟩,
  ⟨(some 11),none,(.len (.tmp 10))⟩,
  ⟨(some 12),none,(.bin .gtr (.tmp 11) (.const (.int .i64 200)))⟩,
  ⟨(some 13),none,(.mv (.tmp 12))⟩,
  ⟨(some 14),(some (13,false)),(.fa 1 (.tmp 1))⟩,
  ⟨(some 15),(some (13,false)),(.load 1 false (.tmp 14))⟩,
  ⟨(some 16),(some (13,false)),(.len (.tmp 15))⟩,
  ⟨(some 17),(some (13,false)),(.callX 60 [(.tmp 16),(.const (.int .i64 1)),(.const (.int .i64 160))])⟩,
  ⟨(some 18),(some (13,false)),(.un .not (.tmp 17))⟩,
  ⟨(some 19),none,(.pick (.tmp 13) (.const (.bool true)) (.tmp 18))⟩]) (.cond (.tmp 19) (.seq (.ops [
  ⟨(some 2),none,(.asg (.const (.bool false)))⟩]) .ret) .skip)) (.seq (.ops [
  ⟨(some 20),none,(.mkm .str)⟩,
  ⟨(some 3),none,(.asg (.tmp 20))⟩]) (.seq (.seq (.ops [
  ⟨(some 21),none,(.fa 0 (.tmp 1))⟩,
  ⟨(some 22),none,(.load 1 false (.tmp 21))⟩,
  ⟨(some 23),none,(.len (.tmp 22))⟩,
  ⟨(some 24),none,(.mv (.const (.int .i64 0)))⟩]) (.block 0 (.loop (mB 80 1208925819614629142200309) (.seq (.ops [
  ⟨(some 25),none,(.bin .lss (.tmp 24) (.tmp 23))⟩]) (.seq (.cond (.tmp 25) .skip (.exit 0)) (.seq (.block 1 (.seq (.ops [
  ⟨(some 26),none,(.ia 2 (.tmp 22) (.tmp 24))⟩,
  ⟨(some 27),none,(.load 2 true (.tmp 26))⟩,
  ⟨(some 5),none,(.alloc [(.string ⟨⟨[]⟩⟩),(.int .i64 0)])⟩,
  ⟨none,none,(.store 2 (.tmp 5) (.tmp 27))⟩]) (.seq (.seq (.ops [
  ⟨(some 28),none,(.fa 0 (.tmp 5))⟩,
  ⟨(some 29),none,(.load 1 false (.tmp 28))⟩,
  ⟨(some 30),none,(.callX 77 [(.tmp 29)])⟩,
  ⟨(some 31),none,(.un .not (.tmp 30))⟩,
  ⟨(some 32),none,(.mv (.tmp 31))⟩,
  ⟨(some 33),(some (32,false)),(.mv (.tmp 3))⟩,
  ⟨(some 34),(some (32,false)),(.fa 0 (.tmp 5))⟩,
  ⟨(some 35),(some (32,false)),(.load 1 false (.tmp 34))⟩,
  ⟨(some 36),(some (32,false)),(.mlk .str (.bool false) false (.tmp 33) (.tmp 35))⟩,
  ⟨(some 37),none,(.pick (.tmp 32) (.const (.bool true)) (.tmp 36))⟩,
  ⟨(some 38),none,(.mv (.tmp 37))⟩,
  ⟨(some 39),(some (38,false)),(.fa 1 (.tmp 5))⟩,
  ⟨(some 40),(some (38,false)),(.load 1 false (.tmp 39))⟩,
  ⟨(some 41),(some (38,false)),(.callX 60 [(.tmp 40),(.const (.int .i64 1)),(.const (.int .i64 4))])⟩,
  ⟨(some 42),(some (38,false)),(.un .not (.tmp 41))⟩,
  ⟨(some 43),none,(.pick (.tmp 38) (.const (.bool true)) (.tmp 42))⟩]) (.cond (.tmp 43) (.seq (.ops [
  ⟨(some 2),none,(.asg (.const (.bool false)))⟩]) .ret) .skip)) (.ops [
  ⟨(some 44),none,(.mv (.tmp 3))⟩,
  ⟨(some 45),none,(.fa 0 (.tmp 5))⟩,
  ⟨(some 46),none,(.load 1 false (.tmp 45))⟩,
  ⟨none,none,(.mupd .str (.tmp 44) (.tmp 46) (.const (.bool true)))⟩])))) (.ops [
  ⟨(some 47),none,(.bin .add (.tmp 24) (.const (.int .i64 1)))⟩,
  ⟨(some 24),none,(.mv (.tmp 47))⟩]))))))) (.seq (.ops [
  ⟨(some 48),none,(.mkm .str)⟩,
  ⟨(some 6),none,(.asg (.tmp 48))⟩]) (.seq (.seq (.ops [
  ⟨(some 49),none,(.fa 1 (.tmp 1))⟩,
  ⟨(some 50),none,(.load 1 false (.tmp 49))⟩,
  ⟨(some 51),none,(.len (.tmp 50))⟩,
  ⟨(some 52),none,(.mv (.const (.int .i64 0)))⟩]) (.block 2 (.loop (mB 80 1208925810888904896675773) (.seq (.ops [
  ⟨(some 53),none,(.bin .lss (.tmp 52) (.tmp 51))⟩]) (.seq (.cond (.tmp 53) .skip (.exit 2)) (.seq (.block 3 (.seq (.ops [
  ⟨(some 54),none,(.ia 2 (.tmp 50) (.tmp 52))⟩,
  ⟨(some 55),none,(.load 2 true (.tmp 54))⟩,
  ⟨(some 8),none,(.alloc [(.string ⟨⟨[]⟩⟩),(.slice none 0 0)])⟩,
  ⟨none,none,(.store 2 (.tmp 8) (.tmp 55))⟩]) (.seq (.seq (.ops [
  ⟨(some 56),none,(.fa 0 (.tmp 8))⟩,
  ⟨(some 57),none,(.load 1 false (.tmp 56))⟩,
  ⟨(some 58),none,(.callX 77 [(.tmp 57)])⟩,
  ⟨(some 59),none,(.un .not (.tmp 58))⟩,
  ⟨(some 60),none,(.mv (.tmp 59))⟩,
  ⟨(some 61),(some (60,false)),(.mv (.tmp 6))⟩,
  ⟨(some 62),(some (60,false)),(.fa 0 (.tmp 8))⟩,
  ⟨(some 63),(some (60,false)),(.load 1 false (.tmp 62))⟩,
  ⟨(some 64),(some (60,false)),(.mlk .str (.bool false) false (.tmp 61) (.tmp 63))⟩,
  ⟨(some 65),none,(.pick (.tmp 60) (.const (.bool true)) (.tmp 64))⟩,
  ⟨(some 66),none,(.mv (.tmp 65))⟩,
  ⟨(some 67),(some (66,false)),(.fa 1 (.tmp 8))⟩,
  ⟨(some 68),(some (66,false)),(.load 1 false (.tmp 67))⟩,
  ⟨(some 69),(some (66,false)),(.len (.tmp 68))⟩,
  ⟨(some 70),(some (66,false)),(.bin .neq (.tmp 69) (.const (.int .i64 4)))⟩,
  ⟨(some 71),none,(.pick (.tmp 66) (.const (.bool true)) (.tmp 70))⟩]) (.cond (.tmp 71) (.seq (.ops [
  ⟨(some 2),none,(.asg (.const (.bool false)))⟩]) .ret) .skip)) (.seq (.ops [
  ⟨(some 72),none,(.mv (.tmp 6))⟩,
  ⟨(some 73),none,(.fa 0 (.tmp 8))⟩,
  ⟨(some 74),none,(.load 1 false (.tmp 73))⟩,
  ⟨none,none,(.mupd .str (.tmp 72) (.tmp 74) (.const (.bool true)))⟩]) (.seq (.ops [
  ⟨(some 75),none,(.fa 1 (.tmp 8))⟩,
  ⟨(some 76),none,(.load 1 false (.tmp 75))⟩,
  ⟨(some 77),none,(.mkf 79 [] [(.tmp 1)])⟩,
  ⟨(some 78),none,(.callX 78 [(.tmp 76),(.tmp 77)])⟩]) (.cond (.tmp 78) (.seq (.ops [
  ⟨(some 2),none,(.asg (.const (.bool false)))⟩]) .ret) .skip)))))) (.ops [
  ⟨(some 79),none,(.bin .add (.tmp 52) (.const (.int .i64 1)))⟩,
  ⟨(some 52),none,(.mv (.tmp 79))⟩]))))))) (.seq (.ops [
  ⟨(some 2),none,(.asg (.const (.bool true)))⟩]) .ret)))))))
theorem law_impl_ValidSet {a0 d:D} (h:code_impl_ValidSet.wp (CT Tryz.prog TabG) (endQ [(.t 2)] d) [a0,.undef,.undef,.undef,.undef,.undef,.undef,.undef,.undef,.undef,.undef,.undef,.undef,.undef,.undef,.undef,.undef,.undef,.undef,.undef,.undef,.undef,.undef,.undef,.undef,.undef,.undef,.undef,.undef,.undef,.undef,.undef,.undef,.undef,.undef,.undef,.undef,.undef,.undef,.undef,.undef,.undef,.undef,.undef,.undef,.undef,.undef,.undef,.undef,.undef,.undef,.undef,.undef,.undef,.undef,.undef,.undef,.undef,.undef,.undef,.undef,.undef,.undef,.undef,.undef,.undef,.undef,.undef,.undef,.undef,.undef,.undef,.undef,.undef,.undef,.undef,.undef,.undef,.undef,.undef]):Contract Tryz.prog TabG 46 [a0] d :=
  contract_of (pt:=0) tabG Tryz.func46 (fun us W=>by kernel_rfl) (c:=Tryz.f46.body.getD .skip) (ms:=[(mB 80 1208925819614629142200309),(mB 80 1208925810888904896675773)]) (ms':=[]) (by kernel_rfl) (by kernel_rfl) (by kernel_rfl) h
def code_impl_ValidSet_1:VCode:=(.seq (.ops [
  ⟨(some 3),none,(.asg (.const (.bool false)))⟩]) (.seq (.ops [
  ⟨(some 4),none,(.mv (.tmp 0))⟩,
  ⟨(some 5),none,(.fa 0 (.tmp 1))⟩,
  ⟨(some 6),none,(.load 1 false (.tmp 5))⟩,
  ⟨(some 7),none,(.len (.tmp 6))⟩,
  ⟨(some 8),none,(.callX 60 [(.tmp 4),(.const (.int .i64 0)),(.tmp 7)])⟩,
  ⟨(some 9),none,(.un .not (.tmp 8))⟩,
  ⟨(some 3),none,(.asg (.tmp 9))⟩]) .ret))
theorem law_impl_ValidSet_1 {a0 a1 d:D} (h:code_impl_ValidSet_1.wp (CT Tryz.prog TabG) (endQ [(.t 3)] d) [a0,a1,.undef,.undef,.undef,.undef,.undef,.undef,.undef,.undef]):Contract Tryz.prog TabG 79 [a0,a1] d :=
  contract_of (pt:=0) tabG Tryz.func79 (fun us W=>by kernel_rfl) (c:=Tryz.f79.body.getD .skip) (ms:=[]) (ms':=[]) (by kernel_rfl) (by kernel_rfl) (by kernel_rfl) h
theorem v_ValidSet1 (n:Int) (l:Nat) (gs ts:List (List D)) (hl:gs.length=l):Contract Tryz.prog TabG 79 [.v (.int .i64 n),.iptr [.sl false 2 gs,.sl false 2 ts] 0] (.v (.bool (!inR 0 l n))):=by refine law_impl_ValidSet_1 ?_;unfold code_impl_ValidSet_1;simp -implicitDefEqProofs (disch:=omega) only [go_sem,↓reduceIte ,hl];refine call_B (v_within _ _ _) (by simp -implicitDefEqProofs (disch:=omega) only [go_sem,↓reduceIte,deep,TD.rows,immLL_rI,immLL_rB8,immLL_rS,immLL_rBo,immLL_rII,immLL_rIIt];exact rfl) ?_;simp -implicitDefEqProofs (disch:=omega) only [go_sem,↓reduceIte]
set_option maxHeartbeats 4000000 in
theorem v_ValidSet (a:TileSet) (ha:setB a):Contract Tryz.prog TabG 46 [.agg (TileSet.td.d false a)] (.v (.bool (okSet a))):=by
  have hag:=ha.g;have hat:=ha.t;rw [TileSet.td_d];refine law_impl_ValidSet ?_;unfold code_impl_ValidSet;by_cases hg:a.Glues.length≤200
  · have f1 : decide ((200:Int) < (a.Glues.length:Int))=false:=decide_eq_false (by omega);simp -implicitDefEqProofs (disch:=omega) only [go_sem,↓reduceIte ,List.length_map,f1];refine call_B (v_within _ _ _) (by simp -implicitDefEqProofs (disch:=omega) only [go_sem,↓reduceIte,deep,TD.rows,immLL_rI,immLL_rB8,immLL_rS,immLL_rBo,immLL_rII,immLL_rIIt];exact rfl) ?_;simp -implicitDefEqProofs (disch:=omega) only [go_sem,↓reduceIte];refine cond_split ?_ ?_ <;> intro hr
    · simp -implicitDefEqProofs (disch:=omega) only [go_sem,↓reduceIte];simp only [Bool.not_eq_true'] at hr;unfold okSet;rw [hr,Bool.false_and,Bool.and_false]
    · simp only [Bool.not_eq_false'] at hr; simp -implicitDefEqProofs (disch:=omega) only [go_sem,↓reduceIte ,List.length_map];refine loop_st (fun i:Nat=>[.undef,.box none [.sl false 2 (a.Glues.map (Glue.td.d false)),.sl false 2 (a.Tiles.map (Tile.td.d false))],.undef,.mp .str (entsN (fun g:Glue=>g.Name) (a.Glues.take i)),.undef,.undef,.undef,.undef,.undef,.undef,.undef,.undef,.undef,.undef,.undef,.undef,.undef,.undef,.undef,.undef,.undef,.ptr 1 [] 0 0,.sl false 2 (a.Glues.map (Glue.td.d false)),.v (.int .i64 a.Glues.length),.v (.int .i64 i),.undef,.undef,.undef,.undef,.undef,.undef,.undef,.undef,.undef,.undef,.undef,.undef,.undef,.undef,.undef,.undef,.undef,.undef,.undef,.undef,.undef,.undef,.undef,.undef,.undef,.undef,.undef,.undef,.undef,.undef,.undef,.undef,.undef,.undef,.undef,.undef,.undef,.undef,.undef,.undef,.undef,.undef,.undef,.undef,.undef,.undef,.undef,.undef,.undef,.undef,.undef,.undef,.undef,.undef,.undef]) (fun i=>i≤a.Glues.length∧(List.range i).all (okG a.Glues)=true) (fun i=>a.Glues.length - i) 0 (nleA) ⟨Nat.zero_le _,rfl⟩ ?_;rintro i ⟨hi,hall⟩;simp -implicitDefEqProofs (disch:=omega) only [go_sem,↓reduceIte ,List.length_map,Int.toNat_natCast,Int.ofNat_lt,Int.natCast_nonneg,List.getElem?_map,Option.map_some];refine cond_split ?_ ?_ <;> intro hlt
      · have hlt:i < a.Glues.length:=(by simpa using hlt);have e1:=List.getElem?_eq_getElem hlt;have hok:=okG_at hlt;have hget:=mget_N (fun g:Glue=>g.Name) a.Glues[i].Name (a.Glues.take i);simp -implicitDefEqProofs (disch:=omega) only [go_sem,↓reduceIte ,List.length_map,Int.toNat_natCast,Int.ofNat_lt,Int.natCast_nonneg,List.getElem?_map,Option.map_some,hlt,e1,Glue.td_d];refine call_B (vIsName_impl _ (ha.gn _ (List.getElem_mem hlt))) (by simp -implicitDefEqProofs (disch:=omega) only [go_sem,↓reduceIte,deep,TD.rows,immLL_rI,immLL_rB8,immLL_rS,immLL_rBo,immLL_rII,immLL_rIIt];exact rfl) ?_;simp -implicitDefEqProofs (disch:=omega) only [go_sem,↓reduceIte];refine guard_split ?_ ?_ <;> intro h1
        · simp -implicitDefEqProofs (disch:=omega) only [go_sem,↓reduceIte ,h1];simp only [Bool.not_eq_true'] at h1;rw [okSet_g hlt (by rw [hok,h1];rfl)]
        · simp only [Bool.not_eq_false'] at h1;by_cases h3:(a.Glues.take i).any (fun x=>decide (x.Name=a.Glues[i].Name))=true
          · rw [if_pos h3] at hget;simp -implicitDefEqProofs (disch:=omega) only [go_sem,↓reduceIte ,h1,hget];rw [okSet_g hlt (by rw [hok,h1,h3];simp)]
          · rw [if_neg h3] at hget;have h3:(a.Glues.take i).any (fun x=>decide (x.Name=a.Glues[i].Name))=false:=by simpa using h3
            have hset:=mset_N (fun g:Glue=>g.Name) (a.Glues.take i) a.Glues[i] h3;rw [take_next hlt] at hset;simp -implicitDefEqProofs (disch:=omega) only [go_sem,↓reduceIte ,h1,hget];refine call_B (v_within _ _ _) (by simp -implicitDefEqProofs (disch:=omega) only [go_sem,↓reduceIte,deep,TD.rows,immLL_rI,immLL_rB8,immLL_rS,immLL_rBo,immLL_rII,immLL_rIIt];exact rfl) ?_;simp -implicitDefEqProofs (disch:=omega) only [go_sem,↓reduceIte];refine cond_split ?_ ?_ <;> intro h2
            · simp -implicitDefEqProofs (disch:=omega) only [go_sem,↓reduceIte];simp only [Bool.not_eq_true'] at h2;rw [okSet_g hlt (by rw [hok,h1,h2];rfl)]
            · simp only [Bool.not_eq_false'] at h2;simp -implicitDefEqProofs (disch:=omega) only [go_sem,↓reduceIte ,wrN,hset];exact ⟨i+1,by omega,⟨hlt,all_next hall (by rw [hok,h1,h2,h3];rfl)⟩,nleA⟩
      · have hge:i=a.Glues.length:=by have:¬ i < a.Glues.length:=by simpa using hlt
                                      omega
        subst hge;simp -implicitDefEqProofs (disch:=omega) only [go_sem,↓reduceIte ,List.length_map];refine loop_st (fun i:Nat=>[.undef,.box none [.sl false 2 (a.Glues.map (Glue.td.d false)),.sl false 2 (a.Tiles.map (Tile.td.d false))],.undef,.undef,.undef,.undef,.mp .str (entsN (fun g:Tile=>g.Name) (a.Tiles.take i)),.undef,.undef,.undef,.undef,.undef,.undef,.undef,.undef,.undef,.undef,.undef,.undef,.undef,.undef,.undef,.undef,.undef,.undef,.undef,.undef,.undef,.undef,.undef,.undef,.undef,.undef,.undef,.undef,.undef,.undef,.undef,.undef,.undef,.undef,.undef,.undef,.undef,.undef,.undef,.undef,.undef,.undef,.ptr 1 [] 0 1,.sl false 2 (a.Tiles.map (Tile.td.d false)),.v (.int .i64 a.Tiles.length),.v (.int .i64 i),.undef,.undef,.undef,.undef,.undef,.undef,.undef,.undef,.undef,.undef,.undef,.undef,.undef,.undef,.undef,.undef,.undef,.undef,.undef,.undef,.undef,.undef,.undef,.undef,.undef,.undef,.undef]) (fun i=>i≤a.Tiles.length∧(List.range i).all (okT a.Glues.length a.Tiles)=true) (fun i=>a.Tiles.length - i) 0 (nleA) ⟨Nat.zero_le _,rfl⟩ ?_;rintro i ⟨hi,hallT⟩;simp -implicitDefEqProofs (disch:=omega) only [go_sem,↓reduceIte ,List.length_map,Int.toNat_natCast,Int.ofNat_lt,Int.natCast_nonneg,List.getElem?_map,Option.map_some];refine cond_split ?_ ?_ <;> intro hlt
        · have hlt:i < a.Tiles.length:=(by simpa using hlt);have e1:=List.getElem?_eq_getElem hlt;have hok:okT a.Glues.length a.Tiles i=_:=okT_at hlt;have hsl:=ha.ts _ (List.getElem_mem hlt);have hget:=mget_N (fun g:Tile=>g.Name) a.Tiles[i].Name (a.Tiles.take i);simp -implicitDefEqProofs (disch:=omega) only [go_sem,↓reduceIte ,List.length_map,Int.toNat_natCast,Int.ofNat_lt,Int.natCast_nonneg,List.getElem?_map,Option.map_some,hlt,e1,Tile.td_d];refine call_B (vIsName_impl _ (ha.tn _ (List.getElem_mem hlt))) (by simp -implicitDefEqProofs (disch:=omega) only [go_sem,↓reduceIte,deep,TD.rows,immLL_rI,immLL_rB8,immLL_rS,immLL_rBo,immLL_rII,immLL_rIIt];exact rfl) ?_;simp -implicitDefEqProofs (disch:=omega) only [go_sem,↓reduceIte];refine guard_split ?_ ?_ <;> intro h1
          · simp -implicitDefEqProofs (disch:=omega) only [go_sem,↓reduceIte ,h1];simp only [Bool.not_eq_true'] at h1;rw [okSet_t hlt (by rw [hok,h1];rfl)]
          · simp only [Bool.not_eq_false'] at h1;by_cases h3:(a.Tiles.take i).any (fun x=>decide (x.Name=a.Tiles[i].Name))=true
            · rw [if_pos h3] at hget;simp -implicitDefEqProofs (disch:=omega) only [go_sem,↓reduceIte ,h1,hget];rw [okSet_t hlt (by rw [hok,h1,h3];simp)]
            · rw [if_neg h3] at hget;have h3:(a.Tiles.take i).any (fun x=>decide (x.Name=a.Tiles[i].Name))=false:=by simpa using h3
              have hset:=mset_N (fun g:Tile=>g.Name) (a.Tiles.take i) a.Tiles[i] h3;rw [take_next hlt] at hset;simp -implicitDefEqProofs (disch:=omega) only [go_sem,↓reduceIte ,h1,hget,List.length_map];have h4e:decide ((a.Tiles[i].Sides.length:Int)=4)=decide (a.Tiles[i].Sides.length=4):=(by rw [decide_eq_decide];omega);rw [h4e];refine cond_split ?_ ?_ <;> intro h2
              · simp -implicitDefEqProofs (disch:=omega) only [go_sem,↓reduceIte];simp only [Bool.not_eq_true'] at h2;rw [okSet_t hlt (by rw [hok,h1,h2];rfl)]
              · simp only [Bool.not_eq_false'] at h2;simp -implicitDefEqProofs (disch:=omega) only [go_sem,↓reduceIte ,hset];refine call_B (v_ContainsFunc_Int64 _ [.iptr [.sl false 2 (a.Glues.map (Glue.td.d false)),.sl false 2 (a.Tiles.map (Tile.td.d false))] 0] ⟨rfl,fun _=>rfl,fun _=>rfl,fun _=>rfl⟩ a.Tiles[i].Sides (fun n=>!inR 0 a.Glues.length n) (fun x _=>v_ValidSet1 x a.Glues.length _ _ (by rw [List.length_map])) (by omega)) (by simp -implicitDefEqProofs (disch:=omega) only [go_sem,↓reduceIte,deep,TD.rows,immLL_rI,immLL_rB8,immLL_rS,immLL_rBo,immLL_rII,immLL_rIIt];exact rfl) ?_;simp -implicitDefEqProofs (disch:=omega) only [go_sem,↓reduceIte];have hall4:a.Tiles[i].Sides.all (inR 0 a.Glues.length)=!(a.Tiles[i].Sides.any fun n=>!inR 0 a.Glues.length n):=List.all_eq_not_any_not;refine cond_split ?_ ?_ <;> intro h5
                · simp -implicitDefEqProofs (disch:=omega) only [go_sem,↓reduceIte];rw [okSet_t hlt (by rw [hok,h1,h2,h3,hall4,h5];rfl)]
                · simp -implicitDefEqProofs (disch:=omega) only [go_sem,↓reduceIte ,wrN];exact ⟨i+1,by omega,⟨hlt,all_next hallT (by rw [hok,h1,h2,h3,hall4,h5];rfl)⟩,nleA⟩
        · have hge:i=a.Tiles.length:=by have:¬ i < a.Tiles.length:=by simpa using hlt
                                        omega
          subst hge;simp -implicitDefEqProofs (disch:=omega) only [go_sem,↓reduceIte];unfold okSet;rw [hall,hallT,hr,decide_eq_true hg];rfl
  · have f1:decide ((200:Int) < (a.Glues.length:Int))=true:=decide_eq_true (by omega);simp -implicitDefEqProofs (disch:=omega) only [go_sem,↓reduceIte ,List.length_map,f1];unfold okSet;rw [decide_eq_false hg,Bool.false_and]
def code_slices_IndexFunc_impl_Glue_impl_Glue:VCode:=(.seq (.ops [
  ⟨(some 4),none,(.asg (.const (.int .i64 0)))⟩]) (.seq (.seq (.ops [
  ⟨(some 6),none,(.mv (.tmp 0))⟩,
  ⟨(some 7),none,(.len (.tmp 6))⟩,
  ⟨(some 8),none,(.mv (.const (.int .i64 0)))⟩]) (.block 0 (.loop (mB 19 523900) (.seq (.ops [
  ⟨(some 9),none,(.bin .lss (.tmp 8) (.tmp 7))⟩]) (.seq (.cond (.tmp 9) .skip (.exit 0)) (.seq (.block 1 (.seq (.ops [
  ⟨(some 10),none,(.mv (.tmp 8))⟩,
  ⟨(some 5),none,(.asg (.tmp 10))⟩]) (.seq (.ops [
  ⟨(some 11),none,(.mv (.tmp 1))⟩,
  ⟨(some 12),none,(.mv (.tmp 0))⟩,
  ⟨(some 13),none,(.mv (.tmp 5))⟩,
  ⟨(some 14),none,(.ia 2 (.tmp 12) (.tmp 13))⟩,
  ⟨(some 15),none,(.load 2 true (.tmp 14))⟩,
  ⟨(some 16),none,(.callvX (.tmp 11) [(.tmp 15)])⟩]) (.cond (.tmp 16) (.seq (.ops [
  ⟨(some 17),none,(.mv (.tmp 5))⟩,
  ⟨(some 4),none,(.asg (.tmp 17))⟩]) .ret) .skip)))) (.ops [
  ⟨(some 18),none,(.bin .add (.tmp 8) (.const (.int .i64 1)))⟩,
  ⟨(some 8),none,(.mv (.tmp 18))⟩]))))))) (.seq (.ops [
  ⟨(some 4),none,(.asg (.const (.int .i64 (-1))))⟩]) .ret)))
theorem law_slices_IndexFunc_impl_Glue_impl_Glue {a0 a1 d:D} (h:code_slices_IndexFunc_impl_Glue_impl_Glue.wp (CT Tryz.prog TabG) (endQ [(.t 4)] d) [a0,a1,.undef,.undef,.undef,.undef,.undef,.undef,.undef,.undef,.undef,.undef,.undef,.undef,.undef,.undef,.undef,.undef,.undef]):Contract Tryz.prog TabG 104 [a0,a1] d :=
  contract_of (pt:=0) tabG Tryz.func104 (fun us W=>by kernel_rfl) (c:=Tryz.f104.body.getD .skip) (ms:=[(mB 19 523900)]) (ms':=[]) (by kernel_rfl) (by kernel_rfl) (by kernel_rfl) h
theorem v_IndexFunc_Glue (f:FuncId) (caps:List D) (hd:CapsOK caps) (xs:List Glue) (p:Glue→Bool) (hc:∀ x,x∈xs→Contract Tryz.prog TabG f (.agg (Glue.td.d false x)::caps) (.v (.bool (p x)))) (hn:xs.length≤1099511627776) :
    Contract Tryz.prog TabG 104 [.sl false 2 (xs.map (Glue.td.d false)),.fn f [] caps] (.v (.int .i64 (vIdx p xs))):=by
  refine law_slices_IndexFunc_impl_Glue_impl_Glue ?_;unfold code_slices_IndexFunc_impl_Glue_impl_Glue;simp -implicitDefEqProofs (disch:=omega) only [go_sem,↓reduceIte ,hd.owny,hd.pr];refine loop_st (fun i:Nat=>[.sl false 2 (xs.map (Glue.td.d false)),.fn f [] caps,.undef,.undef,.undef,.undef,.undef,.v (.int .i64 (xs.map (Glue.td.d false)).length),.v (.int .i64 i),.undef,.undef,.undef,.undef,.undef,.undef,.undef,.undef,.undef,.undef]) (fun i=>i≤xs.length∧∀ j (hj:j < xs.length),j < i→p xs[j]=false) (fun i=>xs.length - i) 0 ?_ ⟨Nat.zero_le _,fun j _ h=>absurd h (Nat.not_lt_zero _)⟩ ?_
  · simp -implicitDefEqProofs (disch:=omega) only [go_sem,↓reduceIte ,hd.owny,hd.pr]
    (try simp -implicitDefEqProofs only [nleL_cc,nleL_nn,nle_self,nle_boxs,nle_aggs,nle_nils,and_self,and_true,true_and]) <;> repeat' (first | exact nle_of_eq rfl | exact nle_nil | apply And.intro | apply nle_sl | apply nleLL_cons | apply nleL_cons | exact nleL_nil | exact nleLL_nil | apply nle_box | apply nle_agg)
  rintro i ⟨hi,ha⟩;simp -implicitDefEqProofs (disch:=omega) only [go_sem,↓reduceIte ,List.length_map,Int.toNat_natCast,Int.ofNat_lt,Int.natCast_nonneg,List.getElem?_map,Option.map_some,hd.owny,hd.pr];refine cond_split ?_ ?_ <;> intro hlt
  · have hlt:i < xs.length:=(by simpa using hlt);have hx:=List.getElem?_eq_getElem hlt;simp -implicitDefEqProofs (disch:=omega) only [go_sem,↓reduceIte ,List.length_map,Int.toNat_natCast,Int.ofNat_lt,Int.natCast_nonneg,List.getElem?_map,Option.map_some,hlt,hx,Glue.td_d,hd.owny,hd.pr];have hcx:=hc _ (List.getElem_mem hlt);rw [Glue.td_d] at hcx;refine callv_le (f:=f) (first:=[]) (caps:=caps) ?_ hcx ?_ (.inl rfl) ?_
    · simp -implicitDefEqProofs (disch:=omega) only [go_sem,↓reduceIte ,hd.owny]
    · refine leL_of_eq ?_;simp only [List.nil_append,List.cons_append,List.map_cons,List.map_nil,hd.d8,List.map_append];simp only [deep,raw,List.getElem?_cons_succ,List.getElem?_cons_zero,List.map_cons,List.map_nil,TD.rows,immLL_rI,immLL_rB8,immLL_rS,immLL_rBo]
    simp -implicitDefEqProofs (disch:=omega) only [go_sem,↓reduceIte ,hd.owny,hd.pr];refine cond_split ?_ ?_ <;> intro hp
    · simp -implicitDefEqProofs (disch:=omega) only [go_sem,↓reduceIte ,hd.owny,hd.pr];rw [vIdx_hit p xs i hlt ha hp]
    · simp -implicitDefEqProofs (disch:=omega) only [go_sem,↓reduceIte ,wrN,hd.owny,hd.pr];refine ⟨i+1,by omega,⟨hlt,fun j hj h=>?_⟩,nleA⟩;rcases Nat.lt_or_ge j i with h' | h'
      · exact ha j hj h'
      · have:j=i:=(by omega);subst this;exact hp
  · have hlt:¬ i < xs.length:=(by simpa using hlt);simp -implicitDefEqProofs (disch:=omega) only [go_sem,↓reduceIte];rw [vIdx_miss p xs (fun j hj=>ha j hj (by omega))]
def decAcc:Nat→Nat→ByteArray→ByteArray
  | 0,_,out=>out
  | f+1,n,out=>if n=0 then out else decAcc f (n / 10) (strI [((48+n % 10:Nat):Int)]++out)
def markT (k:Int):ByteArray:=if k≤0 then ⟨⟨[109,48]⟩⟩ else ⟨⟨[109]⟩⟩++decAcc 20 k.toNat ⟨⟨[]⟩⟩
theorem decAcc_zero (f:Nat) (out:ByteArray):decAcc f 0 out=out:=by cases f <;> rfl
theorem strI_size (xs:List Int):(strI xs).size=xs.length:=by unfold strI;simp [ByteArray.size]
theorem decAcc_size:∀ (f n:Nat) (out:ByteArray),(decAcc f n out).size≤f+out.size
  | 0,_,out=>by simp [decAcc]
  | f+1,n,out=>by
    unfold decAcc;split
    · omega
    · have:=decAcc_size f (n / 10) (strI [((48+n % 10:Nat):Int)]++out);rw [ByteArray.size_append,strI_size] at this;simp only [List.length_cons,List.length_nil] at this;omega
theorem markT_size (k:Int):(markT k).size≤maxLen:=by
  unfold markT maxLen;split
  · decide
  · rw [ByteArray.size_append];have:=decAcc_size 20 k.toNat ⟨⟨[]⟩⟩
    have h0:(⟨⟨[]⟩⟩:ByteArray).size=0:=rfl;have h1:(⟨⟨[109]⟩⟩:ByteArray).size=1:=rfl;omega
def code_laws_markText:VCode:=(.seq (.ops [
  ⟨(some 2),none,(.asg (.const (.string ⟨⟨[]⟩⟩)))⟩]) (.seq (.seq (.ops [
  ⟨(some 4),none,(.mv (.tmp 0))⟩,
  ⟨(some 5),none,(.bin .leq (.tmp 4) (.const (.int .i64 0)))⟩]) (.cond (.tmp 5) (.seq (.ops [
  ⟨(some 2),none,(.asg (.const (.string ⟨⟨[109,48]⟩⟩)))⟩]) .ret) .skip)) (.seq (.ops [
  ⟨(some 3),none,(.asg (.const (.string ⟨⟨[]⟩⟩)))⟩]) (.seq (.block 0 (.loop (mB 20 1048566) (.seq (.seq (.ops [
  ⟨(some 6),none,(.mv (.tmp 0))⟩,
  ⟨(some 7),none,(.bin .gtr (.tmp 6) (.const (.int .i64 0)))⟩]) (.cond (.tmp 7) .skip (.exit 0))) (.block 1 (.seq (.ops [
  ⟨(some 8),none,(.mv (.tmp 0))⟩,
  ⟨(some 9),none,(.bin .rem (.tmp 8) (.const (.int .i64 10)))⟩,
  ⟨(some 10),none,(.bin .add (.const (.int .i64 48)) (.tmp 9))⟩,
  ⟨(some 11),none,(.conv .u8 (.tmp 10))⟩,
  ⟨(some 12),none,(.bsl 1 [(.tmp 11)])⟩,
  ⟨(some 13),none,(.b2s (.tmp 12))⟩,
  ⟨(some 14),none,(.mv (.tmp 3))⟩,
  ⟨(some 15),none,(.bin .add (.tmp 13) (.tmp 14))⟩,
  ⟨(some 3),none,(.asg (.tmp 15))⟩]) (.ops [
  ⟨(some 16),none,(.mv (.tmp 0))⟩,
  ⟨(some 17),none,(.bin .quo (.tmp 16) (.const (.int .i64 10)))⟩,
  ⟨(some 0),none,(.asg (.tmp 17))⟩])))))) (.seq (.ops [
  ⟨(some 18),none,(.mv (.tmp 3))⟩,
  ⟨(some 19),none,(.bin .add (.const (.string ⟨⟨[109]⟩⟩)) (.tmp 18))⟩,
  ⟨(some 2),none,(.asg (.tmp 19))⟩]) .ret)))))
theorem law_laws_markText {a0 d:D} (h:code_laws_markText.wp (CT Tryz.prog NoG) (endQ [(.t 2)] d) [a0,.undef,.undef,.undef,.undef,.undef,.undef,.undef,.undef,.undef,.undef,.undef,.undef,.undef,.undef,.undef,.undef,.undef,.undef,.undef]):Contract Tryz.prog NoG 82 [a0] d :=
  contract_of (pt:=0) noG Tryz.func82 (fun us W=>by kernel_rfl) (c:=Tryz.f82.body.getD .skip) (ms:=[(mB 20 1048566)]) (ms':=[]) (by kernel_rfl) (by kernel_rfl) (by kernel_rfl) h
theorem v_markText (k:Int) (hk:k≤4611686018427387904):Contract Tryz.prog NoG 82 [.v (.int .i64 k)] (.v (.string (markT k))):=by
  refine law_laws_markText ?_;unfold code_laws_markText;simp -implicitDefEqProofs (disch:=omega) only [go_sem,↓reduceIte];refine cond_split ?_ ?_ <;> intro h
  · have h:k≤0:=of_decide_eq_true h;simp -implicitDefEqProofs (disch:=omega) only [go_sem,↓reduceIte];unfold markT;rw [if_pos h]
  · have h:¬ k≤0:=of_decide_eq_false h;obtain ⟨n,rfl⟩:∃ n:Nat,k=(n:Int):=⟨k.toNat,by omega⟩
    have hm:markT (n:Int)=⟨⟨[109]⟩⟩++decAcc 20 n ⟨⟨[]⟩⟩:=(by unfold markT;rw [if_neg h];rfl);simp -implicitDefEqProofs (disch:=omega) only [go_sem,↓reduceIte];refine loop_st (fun z:Nat × ByteArray=>[.v (.int .i64 z.1),.undef,.undef,.v (.string z.2),.undef,.undef,.undef,.undef,.undef,.undef,.undef,.undef,.undef,.undef,.undef,.undef,.undef,.undef,.undef,.undef]) (fun z=>z.1≤n∧∃ f,z.1 < 10 ^ f∧f+z.2.size≤20∧decAcc f z.1 z.2=decAcc 20 n ⟨⟨[]⟩⟩) (fun z=>z.1) (n,⟨⟨[]⟩⟩) (nleA) ⟨Nat.le_refl _,20,by simp only;omega,by simp only;exact Nat.le_refl 20,rfl⟩ ?_;rintro ⟨m,out⟩ ⟨hmn,f,hf,hs,hd⟩;simp only at hmn hf hs hd;simp -implicitDefEqProofs (disch:=omega) only [go_sem,↓reduceIte];refine cond_split ?_ ?_ <;> intro hp
    · have hp:0 < m:=(by have:=of_decide_eq_true hp;omega);cases f with
      | zero=>simp at hf;omega
      | succ f =>
        have e1:((m:Nat):Int).tmod 10=((m % 10:Nat):Int):=rfl;have e2:IntKind.i64.wrap (48+((m % 10:Nat):Int))=((48+m % 10:Nat):Int):=(by rw [wrI (by omega) (by omega)];simp);have e3:IntKind.u8.wrap ((48+m % 10:Nat):Int)=((48+m % 10:Nat):Int):=IntWalk.u8_in _ (by omega);have e4:IntKind.i64.wrap (((m:Nat):Int).tdiv 10)=((m / 10:Nat):Int):=(by rw [show ((m:Nat):Int).tdiv 10=((m / 10:Nat):Int) from rfl,wrI (by omega) (by omega)]);simp -implicitDefEqProofs (disch:=omega) only [go_sem,↓reduceIte ,e1,e2,e3];refine And.intro (by omega) ?_;refine ⟨[((48+m % 10:Nat):Int)],rfl,?_⟩;simp -implicitDefEqProofs (disch:=omega) only [go_sem,↓reduceIte ,e4];refine And.intro (by rw [strI_size];unfold maxLen;simp only [List.length_cons,List.length_nil];omega) ?_;refine And.intro (by omega) ?_;refine ⟨(m / 10,strI [((48+m % 10:Nat):Int)]++out),by simp only;omega,⟨by simp only;omega,f,?_,?_,?_⟩,nleA⟩
        · simp only;rw [Nat.pow_succ] at hf;omega
        · simp only;rw [ByteArray.size_append,strI_size];simp only [List.length_cons,List.length_nil];omega
        · rw [← hd];simp only [decAcc];rw [if_neg (by omega)]
    · have hp:m=0:=(by have:=of_decide_eq_false hp;omega);subst hp;rw [decAcc_zero] at hd;simp -implicitDefEqProofs (disch:=omega) only [go_sem,↓reduceIte];refine And.intro (by unfold maxLen;show 1+out.size≤_;omega) ?_;rw [hm,hd]
theorem markText_any (k:Int) (w:World) (hk:k≤4611686018427387904):Calls Tryz.prog 82 #[.int .i64 k] w fun e w'=>e=.returned (.string (markT k))∧Below w.heap.size w w':=by refine (Contract.at (us:=[.int .i64 k]) (v_markText k hk) gI (Nat.le_refl _) (vals_cons (vals_v _) vals_nil)).mono ?_;rintro e w' ⟨⟨v,I,F,rfl,hT,_,_⟩,hb⟩;simp only [T] at hT;exact ⟨by rw [hT.1],hb⟩
end Go.Proofs.YtjkbngjiagknkaaGreatDoor
