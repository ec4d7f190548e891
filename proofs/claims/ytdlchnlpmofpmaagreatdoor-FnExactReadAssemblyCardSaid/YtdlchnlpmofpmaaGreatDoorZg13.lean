/- Laws that the proof stands on. -/
import Derived.Test.YtdlchnlpmofpmaaGreatDoorZVB
import Derived.Test.YtdlchnlpmofpmaaGreatDoorProg
import Derived.Test.YtdlchnlpmofpmaaGreatDoorZVTab
import Derived.Test.YtdlchnlpmofpmaaGreatDoorZg12
set_option linter.all false
namespace Go.Proofs.YtdlchnlpmofpmaaGreatDoor
open Go.RowKit Go.V
attribute [local go_sem] List.getElem?_cons_succ List.getElem?_cons_zero List.set_cons_succ List.set_cons_zero List.map_cons List.map_nil List.length_cons List.length_nil List.all_cons List.all_nil List.drop_succ_cons List.drop_zero List.take_succ_cons List.take_zero List.flatMap_cons List.flatMap_nil List.cons_append List.nil_append List.append_nil List.headD_cons Value.oneCell' Bool.and_true Bool.true_and Bool.or_false Bool.false_or Bool.and_self Bool.not_true Bool.not_false and_true true_and beq_self_eq_true Bool.false_eq_true if_true if_false Nat.zero_add Nat.reduceAdd Nat.reduceMul Nat.reduceLeDiff Nat.le_refl Option.isSome_some Option.isSome_none not_true_eq_false not_false_eq_true ne_eq reduceCtorEq List.reverse_nil bne_self_eq_false Nat.reduceEqDiff List.isPrefixOf Bool.not_eq_true Bool.and_false Bool.false_and Bool.true_or Bool.or_true decide_true decide_false Nat.reduceBEq Nat.reduceBNe List.replicate_succ List.replicate_zero exists_eq_left' exists_eq_left Option.some.injEq or_false or_true true_or false_or Option.map_some Option.map_none mB Nat.reduceMod Nat.reduceDiv
set_option maxRecDepth 100000
def inR (lo hi n:Int):Bool:=decide (lo≤n)&&decide (n≤hi)
theorem inR_iff {lo hi n:Int}:inR lo hi n=true↔lo≤n∧n≤hi:=by simp [inR]
def code_spec_l00In:VCode:=(.seq (.ops [
  ⟨(some 6),none,(.asg (.const (.bool false)))⟩]) (.seq (.ops [
  ⟨(some 7),none,(.mv (.tmp 0))⟩,
  ⟨(some 8),none,(.mv (.tmp 1))⟩,
  ⟨(some 9),none,(.bin .geq (.tmp 7) (.tmp 8))⟩,
  ⟨(some 10),none,(.mv (.tmp 9))⟩,
  ⟨(some 11),(some (10,true)),(.mv (.tmp 0))⟩,
  ⟨(some 12),(some (10,true)),(.mv (.tmp 2))⟩,
  ⟨(some 13),(some (10,true)),(.bin .leq (.tmp 11) (.tmp 12))⟩,
  ⟨(some 14),none,(.pick (.tmp 10) (.tmp 13) (.const (.bool false)))⟩,
  ⟨(some 6),none,(.asg (.tmp 14))⟩]) .ret))
theorem zN5 {a0 a1 a2 d:D}(h:code_spec_l00In.wp (CT Tryz.prog zAr) (zC9 [(.t 6)] d) [a0,a1,a2,.undef,.undef,.undef,.undef,.undef,.undef,.undef,.undef,.undef,.undef,.undef,.undef]):Contract Tryz.prog zAr 36 [a0,a1,a2] d :=
  zAk (pt:=0) zC6 Tryz.func36 (fun us W=>by kernel_rfl) (c:=Tryz.f36.body.getD .skip) (ms:=[]) (ms':=[]) (by kernel_rfl) (by kernel_rfl) (by kernel_rfl) h
theorem zJg (a b c:Int):Contract Tryz.prog zAr 36 [.v (.int .i64 a),.v (.int .i64 b),.v (.int .i64 c)] (.v (.bool (inR b c a))):=by
  refine zN5 ?_;unfold code_spec_l00In inR;simp -implicitDefEqProofs (disch:=omega) only [go_sem,↓reduceIte];refine zAw ?_ ?_<;>intro h
  · simp -implicitDefEqProofs (disch:=omega) only [go_sem,↓reduceIte ,h]
  · simp -implicitDefEqProofs (disch:=omega) only [go_sem,↓reduceIte ,h]
def code_impl_within:VCode:=(.seq (.ops [
  ⟨(some 6),none,(.asg (.const (.bool false)))⟩]) (.seq (.ops [
  ⟨(some 7),none,(.mv (.tmp 0))⟩,
  ⟨(some 8),none,(.mv (.tmp 1))⟩,
  ⟨(some 9),none,(.bin .geq (.tmp 7) (.tmp 8))⟩,
  ⟨(some 10),none,(.mv (.tmp 9))⟩,
  ⟨(some 11),(some (10,true)),(.mv (.tmp 0))⟩,
  ⟨(some 12),(some (10,true)),(.mv (.tmp 2))⟩,
  ⟨(some 13),(some (10,true)),(.bin .leq (.tmp 11) (.tmp 12))⟩,
  ⟨(some 14),none,(.pick (.tmp 10) (.tmp 13) (.const (.bool false)))⟩,
  ⟨(some 6),none,(.asg (.tmp 14))⟩]) .ret))
theorem zMy {a0 a1 a2 d:D}(h:code_impl_within.wp (CT Tryz.prog zAr) (zC9 [(.t 6)] d) [a0,a1,a2,.undef,.undef,.undef,.undef,.undef,.undef,.undef,.undef,.undef,.undef,.undef,.undef]):Contract Tryz.prog zAr 69 [a0,a1,a2] d :=
  zAk (pt:=0) zC6 Tryz.func69 (fun us W=>by kernel_rfl) (c:=Tryz.f69.body.getD .skip) (ms:=[]) (ms':=[]) (by kernel_rfl) (by kernel_rfl) (by kernel_rfl) h
theorem zGm (a b c:Int):Contract Tryz.prog zAr 69 [.v (.int .i64 a),.v (.int .i64 b),.v (.int .i64 c)] (.v (.bool (inR b c a))):=by
  refine zMy ?_;unfold code_impl_within inR;simp -implicitDefEqProofs (disch:=omega) only [go_sem,↓reduceIte];refine zAw ?_ ?_<;>intro h
  · simp -implicitDefEqProofs (disch:=omega) only [go_sem,↓reduceIte ,h]
  · simp -implicitDefEqProofs (disch:=omega) only [go_sem,↓reduceIte ,h]
def isLet (c:Int):Bool:=(decide (97≤c)&&decide (c≤122))||(decide (65≤c)&&decide (c≤90))
def zG2 (c:Int):Bool:=decide (48≤c)&&decide (c≤57)
def zKd (i:Nat)(c:Int):Bool:=isLet c||(decide (i≠0)&&(zG2 c||decide (c=95)))
def yI8 (s:ByteArray)(i:Nat):Int:=match s[i]? with
  | some c=>(c.toNat:Int)
  | none=>0
def zDe (s:ByteArray):Bool:=(decide (1≤s.size)&&decide (s.size≤12))&&(List.range s.size).all (fun i=>zKd i (yI8 s i))
theorem zTx {s:ByteArray}{i:Nat}(hi:i<s.size)(h:zKd i (yI8 s i)=false):zDe s=false:=by
  unfold zDe;have:(List.range s.size).all (fun i=>zKd i (yI8 s i))=false:=by rw [List.all_eq_false];exact ⟨i,by simpa using hi,by simp [h]⟩
  rw [this,Bool.and_false]
theorem zGy {f:Nat→Bool}{i:Nat}(h:(List.range i).all f=true)(hi:f i=true):(List.range (i+1)).all f=true:=by rw [List.range_succ,List.all_append,h];simp [hi]
theorem byte_at {s:ByteArray}{i:Nat}(hi:i<s.size):s[i]?=some s[i]:=by simp [hi]
theorem zI6 {s:ByteArray}{i:Nat}{c:UInt8}(h:s[i]?=some c):yI8 s i=(c.toNat:Int):=by unfold yI8;rw [h]
theorem zWb {i:Nat}{c:Int}(h:isLet c=true):zKd i c=true:=by unfold zKd;rw [h];rfl
def code_spec_l01Letter:VCode:=(.seq (.ops [
  ⟨(some 2),none,(.asg (.const (.bool false)))⟩]) (.seq (.ops [
  ⟨(some 3),none,(.mv (.tmp 0))⟩,
  ⟨(some 4),none,(.bin .geq (.tmp 3) (.const (.int .u8 97)))⟩,
  ⟨(some 5),none,(.mv (.tmp 4))⟩,
  ⟨(some 6),(some (5,true)),(.mv (.tmp 0))⟩,
  ⟨(some 7),(some (5,true)),(.bin .leq (.tmp 6) (.const (.int .u8 122)))⟩,
  ⟨(some 8),none,(.pick (.tmp 5) (.tmp 7) (.const (.bool false)))⟩,
  ⟨(some 9),none,(.mv (.tmp 8))⟩,
  ⟨(some 10),(some (9,false)),(.mv (.tmp 0))⟩,
  ⟨(some 11),(some (9,false)),(.bin .geq (.tmp 10) (.const (.int .u8 65)))⟩,
  ⟨(some 12),(some (9,false)),(.mv (.tmp 11))⟩,
  ⟨(some 13),(some (12,true)),(.mv (.tmp 0))⟩,
  ⟨(some 14),(some (12,true)),(.bin .leq (.tmp 13) (.const (.int .u8 90)))⟩,
  ⟨(some 15),(some (9,false)),(.pick (.tmp 12) (.tmp 14) (.const (.bool false)))⟩,
  ⟨(some 16),none,(.pick (.tmp 9) (.const (.bool true)) (.tmp 15))⟩,
  ⟨(some 2),none,(.asg (.tmp 16))⟩]) .ret))
theorem zIl {a0 d:D}(h:code_spec_l01Letter.wp (CT Tryz.prog zAr) (zC9 [(.t 2)] d) [a0,.undef,.undef,.undef,.undef,.undef,.undef,.undef,.undef,.undef,.undef,.undef,.undef,.undef,.undef,.undef,.undef]):Contract Tryz.prog zAr 63 [a0] d :=
  zAk (pt:=0) zC6 Tryz.func63 (fun us W=>by kernel_rfl) (c:=Tryz.f63.body.getD .skip) (ms:=[]) (ms':=[]) (by kernel_rfl) (by kernel_rfl) (by kernel_rfl) h
def code_spec_l01Digit:VCode:=(.seq (.ops [
  ⟨(some 2),none,(.asg (.const (.bool false)))⟩]) (.seq (.ops [
  ⟨(some 3),none,(.mv (.tmp 0))⟩,
  ⟨(some 4),none,(.bin .geq (.tmp 3) (.const (.int .u8 48)))⟩,
  ⟨(some 5),none,(.mv (.tmp 4))⟩,
  ⟨(some 6),(some (5,true)),(.mv (.tmp 0))⟩,
  ⟨(some 7),(some (5,true)),(.bin .leq (.tmp 6) (.const (.int .u8 57)))⟩,
  ⟨(some 8),none,(.pick (.tmp 5) (.tmp 7) (.const (.bool false)))⟩,
  ⟨(some 2),none,(.asg (.tmp 8))⟩]) .ret))
theorem zJ4 {a0 d:D}(h:code_spec_l01Digit.wp (CT Tryz.prog zAr) (zC9 [(.t 2)] d) [a0,.undef,.undef,.undef,.undef,.undef,.undef,.undef,.undef]):Contract Tryz.prog zAr 64 [a0] d :=
  zAk (pt:=0) zC6 Tryz.func64 (fun us W=>by kernel_rfl) (c:=Tryz.f64.body.getD .skip) (ms:=[]) (ms':=[]) (by kernel_rfl) (by kernel_rfl) (by kernel_rfl) h
theorem zL4 (c:Int):Contract Tryz.prog zAr 63 [.v (.int .u8 c)] (.v (.bool (isLet c))):=by
  refine zIl ?_;unfold code_spec_l01Letter isLet;simp -implicitDefEqProofs (disch:=omega) only [go_sem,↓reduceIte]
  repeat' (first | (refine zAw ?_ ?_<;>intro h<;>try (simp -implicitDefEqProofs (disch:=omega) only [go_sem,↓reduceIte,h])) | (refine zLu ?_ ?_<;>intro h<;>try (simp -implicitDefEqProofs (disch:=omega) only [go_sem,↓reduceIte,h])) | (refine zAn ?_ ?_<;>intro h<;>try (simp -implicitDefEqProofs (disch:=omega) only [go_sem,↓reduceIte,h])))
theorem zDc (c:Int):Contract Tryz.prog zAr 64 [.v (.int .u8 c)] (.v (.bool (zG2 c))):=by
  refine zJ4 ?_;unfold code_spec_l01Digit zG2;simp -implicitDefEqProofs (disch:=omega) only [go_sem,↓reduceIte]
  repeat' (first | (refine zAw ?_ ?_<;>intro h<;>try (simp -implicitDefEqProofs (disch:=omega) only [go_sem,↓reduceIte,h])) | (refine zLu ?_ ?_<;>intro h<;>try (simp -implicitDefEqProofs (disch:=omega) only [go_sem,↓reduceIte,h])) | (refine zAn ?_ ?_<;>intro h<;>try (simp -implicitDefEqProofs (disch:=omega) only [go_sem,↓reduceIte,h])))
def code_spec_IsName:VCode:=(.seq (.ops [
  ⟨(some 2),none,(.asg (.const (.bool false)))⟩]) (.seq (.seq (.ops [
  ⟨(some 4),none,(.mv (.tmp 0))⟩,
  ⟨(some 5),none,(.lenS (.tmp 4))⟩,
  ⟨(some 6),none,(.bin .lss (.tmp 5) (.const (.int .i64 1)))⟩,
  ⟨(some 7),none,(.mv (.tmp 6))⟩,
  ⟨(some 8),(some (7,false)),(.mv (.tmp 0))⟩,
  ⟨(some 9),(some (7,false)),(.lenS (.tmp 8))⟩,
  ⟨(some 10),(some (7,false)),(.bin .gtr (.tmp 9) (.const (.int .i64 12)))⟩,
  ⟨(some 11),none,(.pick (.tmp 7) (.const (.bool true)) (.tmp 10))⟩,
  ⟨(some 12),none,(.mv (.tmp 11))⟩,
  ⟨(some 13),(some (12,false)),(.mv (.tmp 0))⟩,
  ⟨(some 14),(some (12,false)),(.ixs (.tmp 13) (.const (.int .i64 0)))⟩,
  ⟨(some 15),(some (12,false)),(.callX 63 [(.tmp 14)])⟩,
  ⟨(some 16),(some (12,false)),(.un .not (.tmp 15))⟩,
  ⟨(some 17),none,(.pick (.tmp 12) (.const (.bool true)) (.tmp 16))⟩]) (.cond (.tmp 17) (.seq (.ops [
  ⟨(some 2),none,(.asg (.const (.bool false)))⟩]) .ret) .skip)) (.seq (.seq (.ops [
  ⟨(some 3),none,(.asg (.const (.int .i64 1)))⟩]) (.block 0 (.loop (mB 42 4398046511094) (.seq (.seq (.ops [
  ⟨(some 18),none,(.mv (.tmp 3))⟩,
  ⟨(some 19),none,(.mv (.tmp 0))⟩,
  ⟨(some 20),none,(.lenS (.tmp 19))⟩,
  ⟨(some 21),none,(.bin .lss (.tmp 18) (.tmp 20))⟩]) (.cond (.tmp 21) .skip (.exit 0))) (.seq (.block 1 (.seq (.ops [
  ⟨(some 24),none,(.mv (.tmp 0))⟩,
  ⟨(some 25),none,(.mv (.tmp 3))⟩,
  ⟨(some 26),none,(.ixs (.tmp 24) (.tmp 25))⟩,
  ⟨(some 27),none,(.callX 63 [(.tmp 26)])⟩,
  ⟨(some 28),none,(.un .not (.tmp 27))⟩,
  ⟨(some 29),none,(.mv (.tmp 28))⟩,
  ⟨(some 30),(some (29,true)),(.mv (.tmp 0))⟩,
  ⟨(some 31),(some (29,true)),(.mv (.tmp 3))⟩,
  ⟨(some 32),(some (29,true)),(.ixs (.tmp 30) (.tmp 31))⟩,
  ⟨(some 33),(some (29,true)),(.callX 64 [(.tmp 32)])⟩,
  ⟨(some 34),(some (29,true)),(.un .not (.tmp 33))⟩,
  ⟨(some 35),none,(.pick (.tmp 29) (.tmp 34) (.const (.bool false)))⟩,
  ⟨(some 36),none,(.mv (.tmp 35))⟩,
  ⟨(some 37),(some (36,true)),(.mv (.tmp 0))⟩,
  ⟨(some 38),(some (36,true)),(.mv (.tmp 3))⟩,
  ⟨(some 39),(some (36,true)),(.ixs (.tmp 37) (.tmp 38))⟩,
  ⟨(some 40),(some (36,true)),(.bin .neq (.tmp 39) (.const (.int .u8 95)))⟩,
  ⟨(some 41),none,(.pick (.tmp 36) (.tmp 40) (.const (.bool false)))⟩]) (.cond (.tmp 41) (.seq (.ops [
  ⟨(some 2),none,(.asg (.const (.bool false)))⟩]) .ret) .skip))) (.ops [
  ⟨(some 22),none,(.mv (.tmp 3))⟩,
  ⟨(some 23),none,(.bin .add (.tmp 22) (.const (.int .i64 1)))⟩,
  ⟨(some 3),none,(.asg (.tmp 23))⟩])))))) (.seq (.ops [
  ⟨(some 2),none,(.asg (.const (.bool true)))⟩]) .ret))))
theorem zMv {a0 d:D}(h:code_spec_IsName.wp (CT Tryz.prog zAr) (zC9 [(.t 2)] d) [a0,.undef,.undef,.undef,.undef,.undef,.undef,.undef,.undef,.undef,.undef,.undef,.undef,.undef,.undef,.undef,.undef,.undef,.undef,.undef,.undef,.undef,.undef,.undef,.undef,.undef,.undef,.undef,.undef,.undef,.undef,.undef,.undef,.undef,.undef,.undef,.undef,.undef,.undef,.undef,.undef,.undef]):Contract Tryz.prog zAr 35 [a0] d :=
  zAk (pt:=0) zC6 Tryz.func35 (fun us W=>by kernel_rfl) (c:=Tryz.f35.body.getD .skip) (ms:=[(mB 42 4398046511094)]) (ms':=[]) (by kernel_rfl) (by kernel_rfl) (by kernel_rfl) h
theorem zKi (s:ByteArray) (hs:s.size≤1048576):Contract Tryz.prog zAr 35 [.v (.string s)] (.v (.bool (zDe s))):=by
  refine zMv ?_;unfold code_spec_IsName;have bad:¬ (1≤s.size∧s.size≤12)→zDe s=false:=fun h=>by
    unfold zDe;have:(decide (1≤s.size)&&decide (s.size≤12))=false:=by rw [Bool.and_eq_false_iff,decide_eq_false_iff_not,decide_eq_false_iff_not];omega
    rw [this,Bool.false_and]
  simp -implicitDefEqProofs (disch:=omega) only [go_sem,↓reduceIte];refine zAw ?_ ?_<;>intro h1
  · simp -implicitDefEqProofs (disch:=omega) only [go_sem,↓reduceIte ,h1];rw [bad (by have:=of_decide_eq_true h1;omega)]
  · have h1':1≤s.size:=(by have:=of_decide_eq_false h1;omega);simp -implicitDefEqProofs (disch:=omega) only [go_sem,↓reduceIte ,h1];refine zAw ?_ ?_<;>intro h2
    · simp -implicitDefEqProofs (disch:=omega) only [go_sem,↓reduceIte ,h2];rw [bad (by have:=of_decide_eq_true h2;omega)]
    · have h2':s.size≤12:=(by have:=of_decide_eq_false h2;omega);have hb0:s[0]?=some s[0]:=byte_at (by omega)
      simp -implicitDefEqProofs (disch:=omega) only [go_sem,↓reduceIte ,h2,hb0,Int.natCast_zero,Int.natCast_one,Int.cast_ofNat_Int,Int.ofNat_le,Int.toNat_zero,Nat.sub_zero,Int.le_refl,Int.reduceLT,Int.reduceLE,Int.reduceEq,Int.reduceAdd,Int.reduceSub,Int.reduceMul,Int.reduceToNat,Int.reduceNeg];refine zAm (zL4 _) (by simp -implicitDefEqProofs (disch:=omega) only [go_sem,↓reduceIte,deep,TD.rows,zAe,zAc,zAf,zAb,zAd,zAa,Int.natCast_zero,Int.natCast_one,Int.cast_ofNat_Int,Int.ofNat_le,Int.toNat_zero,Nat.sub_zero,Int.le_refl,Int.reduceLT,Int.reduceLE,Int.reduceEq,Int.reduceAdd,Int.reduceSub,Int.reduceMul,Int.reduceToNat,Int.reduceNeg];exact rfl) ?_;simp -implicitDefEqProofs (disch:=omega) only [go_sem,↓reduceIte ,Int.natCast_zero,Int.natCast_one,Int.cast_ofNat_Int,Int.ofNat_le,Int.toNat_zero,Nat.sub_zero,Int.le_refl,Int.reduceLT,Int.reduceLE,Int.reduceEq,Int.reduceAdd,Int.reduceSub,Int.reduceMul,Int.reduceToNat,Int.reduceNeg];refine zAn ?_ ?_<;>intro h3
      · simp -implicitDefEqProofs (disch:=omega) only [go_sem,↓reduceIte];simp only [Bool.not_eq_true'] at h3;rw [zTx (s:=s) (i:=0) (by omega) (by rw [zI6 hb0];unfold zKd;rw [h3];rfl)]
      · simp only [Bool.not_eq_false'] at h3;simp -implicitDefEqProofs (disch:=omega) only [go_sem,↓reduceIte];refine zCm (fun i:Nat=>[.v (.string s),.undef,.undef,.v (.int .i64 i),.undef,.undef,.undef,.undef,.undef,.undef,.undef,.undef,.undef,.undef,.undef,.undef,.undef,.undef,.undef,.undef,.undef,.undef,.undef,.undef,.undef,.undef,.undef,.undef,.undef,.undef,.undef,.undef,.undef,.undef,.undef,.undef,.undef,.undef,.undef,.undef,.undef,.undef]) (fun i=>1≤i∧i≤s.size∧(List.range i).all (fun i=>zKd i (yI8 s i))=true) (fun i=>s.size-i) 1 (zDo) ⟨by omega,h1',by simp [zI6 hb0,zWb h3]⟩ ?_;rintro i ⟨hi0,hi,ha⟩;simp -implicitDefEqProofs (disch:=omega) only [go_sem,↓reduceIte ,Int.ofNat_lt];refine zAn ?_ ?_<;>intro hlt
        · have hlt:i<s.size:=of_decide_eq_true hlt;have hb:=byte_at hlt;have hc:=zI6 hb;have next:zKd i (s[i].toNat:Int)=true→∃ b,s.size-b<s.size-i∧(1≤b∧b≤s.size∧(List.range b).all (fun i=>zKd i (yI8 s i))=true)∧b=i+1:=fun h=>⟨i+1,by omega,⟨by omega,hlt,zGy ha (by rw [hc];exact h)⟩,rfl⟩
          simp -implicitDefEqProofs (disch:=omega) only [go_sem,↓reduceIte ,Int.toNat_natCast,hb,Int.natCast_nonneg];refine zAm (zL4 _) (by simp -implicitDefEqProofs (disch:=omega) only [go_sem,↓reduceIte,deep,TD.rows,zAe,zAc,zAf,zAb,zAd,zAa];exact rfl) ?_;simp -implicitDefEqProofs (disch:=omega) only [go_sem,↓reduceIte];refine zAw ?_ ?_<;>intro g1
          · simp only [Bool.not_eq_true'] at g1;simp -implicitDefEqProofs (disch:=omega) only [go_sem,↓reduceIte ,g1,Int.toNat_natCast,hb,Int.natCast_nonneg];refine zAm (zDc _) (by simp -implicitDefEqProofs (disch:=omega) only [go_sem,↓reduceIte,deep,TD.rows,zAe,zAc,zAf,zAb,zAd,zAa,g1];exact rfl) ?_;simp -implicitDefEqProofs (disch:=omega) only [go_sem,↓reduceIte ,g1];refine zAw ?_ ?_<;>intro g2
            · simp only [Bool.not_eq_true'] at g2;simp -implicitDefEqProofs (disch:=omega) only [go_sem,↓reduceIte ,g2,Int.toNat_natCast,hb,Int.natCast_nonneg];refine zAn ?_ ?_<;>intro g3
              · simp -implicitDefEqProofs (disch:=omega) only [go_sem,↓reduceIte];simp only [Bool.not_eq_true'] at g3;rw [zTx hlt (by rw [hc];unfold zKd;rw [g1,g2,g3];simp)]
              · simp only [Bool.not_eq_false'] at g3;simp -implicitDefEqProofs (disch:=omega) only [go_sem,↓reduceIte ,wrN];obtain ⟨b,k1,k2,rfl⟩:=next (by unfold zKd;rw [g1,g2,g3];simp;omega)
                exact ⟨_,k1,k2,zDo⟩
            · simp only [Bool.not_eq_false'] at g2;simp -implicitDefEqProofs (disch:=omega) only [go_sem,↓reduceIte ,g2,wrN];obtain ⟨b,k1,k2,rfl⟩:=next (by unfold zKd;rw [g1,g2];simp;omega)
              exact ⟨_,k1,k2,zDo⟩
          · simp only [Bool.not_eq_false'] at g1;simp -implicitDefEqProofs (disch:=omega) only [go_sem,↓reduceIte ,g1,wrN];obtain ⟨b,k1,k2,rfl⟩:=next (zWb g1)
            exact ⟨_,k1,k2,zDo⟩
        · have hlt:i=s.size:=(by have:¬ i<s.size:=of_decide_eq_false hlt;omega);subst hlt;simp -implicitDefEqProofs (disch:=omega) only [go_sem,↓reduceIte];unfold zDe;rw [ha,Bool.and_true,decide_eq_true h1',decide_eq_true h2'];rfl
def code_impl_IsName:VCode:=(.seq (.ops [
  ⟨(some 2),none,(.asg (.const (.bool false)))⟩]) (.seq (.seq (.ops [
  ⟨(some 6),none,(.mv (.tmp 0))⟩,
  ⟨(some 7),none,(.lenS (.tmp 6))⟩,
  ⟨(some 8),none,(.mv (.const (.int .i64 0)))⟩]) (.block 0 (.loop (mB 55 36028797018963582) (.seq (.ops [
  ⟨(some 9),none,(.bin .lss (.tmp 8) (.tmp 7))⟩]) (.seq (.cond (.tmp 9) .skip (.exit 0)) (.seq (.block 1 (.seq (.ops [
  ⟨(some 10),none,(.mv (.tmp 8))⟩,
  ⟨(some 3),none,(.asg (.tmp 10))⟩]) (.seq (.ops [
  ⟨(some 11),none,(.mv (.tmp 0))⟩,
  ⟨(some 12),none,(.mv (.tmp 3))⟩,
  ⟨(some 13),none,(.ixs (.tmp 11) (.tmp 12))⟩,
  ⟨(some 4),none,(.asg (.tmp 13))⟩]) (.seq (.ops [
  ⟨(some 14),none,(.mv (.tmp 4))⟩,
  ⟨(some 15),none,(.bin .geq (.tmp 14) (.const (.int .u8 97)))⟩,
  ⟨(some 16),none,(.mv (.tmp 15))⟩,
  ⟨(some 17),(some (16,true)),(.mv (.tmp 4))⟩,
  ⟨(some 18),(some (16,true)),(.bin .leq (.tmp 17) (.const (.int .u8 122)))⟩,
  ⟨(some 19),none,(.pick (.tmp 16) (.tmp 18) (.const (.bool false)))⟩,
  ⟨(some 20),none,(.mv (.tmp 19))⟩,
  ⟨(some 21),(some (20,false)),(.mv (.tmp 4))⟩,
  ⟨(some 22),(some (20,false)),(.bin .geq (.tmp 21) (.const (.int .u8 65)))⟩,
  ⟨(some 23),(some (20,false)),(.mv (.tmp 22))⟩,
  ⟨(some 24),(some (23,true)),(.mv (.tmp 4))⟩,
  ⟨(some 25),(some (23,true)),(.bin .leq (.tmp 24) (.const (.int .u8 90)))⟩,
  ⟨(some 26),(some (20,false)),(.pick (.tmp 23) (.tmp 25) (.const (.bool false)))⟩,
  ⟨(some 27),none,(.pick (.tmp 20) (.const (.bool true)) (.tmp 26))⟩,
  ⟨(some 5),none,(.asg (.tmp 27))⟩]) (.seq (.ops [
  ⟨(some 28),none,(.mv (.tmp 5))⟩,
  ⟨(some 29),none,(.un .not (.tmp 28))⟩,
  ⟨(some 30),none,(.mv (.tmp 29))⟩,
  ⟨(some 31),(some (30,true)),(.mv (.tmp 3))⟩,
  ⟨(some 32),(some (30,true)),(.bin .eql (.tmp 31) (.const (.int .i64 0)))⟩,
  ⟨(some 33),(some (30,true)),(.mv (.tmp 32))⟩,
  ⟨(some 34),(some (33,false)),(.mv (.tmp 4))⟩,
  ⟨(some 35),(some (33,false)),(.bin .lss (.tmp 34) (.const (.int .u8 48)))⟩,
  ⟨(some 36),(some (33,false)),(.mv (.tmp 35))⟩,
  ⟨(some 37),(some (36,false)),(.mv (.tmp 4))⟩,
  ⟨(some 38),(some (36,false)),(.bin .gtr (.tmp 37) (.const (.int .u8 57)))⟩,
  ⟨(some 39),(some (33,false)),(.pick (.tmp 36) (.const (.bool true)) (.tmp 38))⟩,
  ⟨(some 40),(some (33,false)),(.mv (.tmp 39))⟩,
  ⟨(some 41),(some (40,true)),(.mv (.tmp 4))⟩,
  ⟨(some 42),(some (40,true)),(.bin .neq (.tmp 41) (.const (.int .u8 95)))⟩,
  ⟨(some 43),(some (33,false)),(.pick (.tmp 40) (.tmp 42) (.const (.bool false)))⟩,
  ⟨(some 44),(some (30,true)),(.pick (.tmp 33) (.const (.bool true)) (.tmp 43))⟩,
  ⟨(some 45),none,(.pick (.tmp 30) (.tmp 44) (.const (.bool false)))⟩]) (.cond (.tmp 45) (.seq (.ops [
  ⟨(some 2),none,(.asg (.const (.bool false)))⟩]) .ret) .skip)))))) (.ops [
  ⟨(some 46),none,(.bin .add (.tmp 8) (.const (.int .i64 1)))⟩,
  ⟨(some 8),none,(.mv (.tmp 46))⟩]))))))) (.seq (.ops [
  ⟨(some 47),none,(.mv (.tmp 0))⟩,
  ⟨(some 48),none,(.lenS (.tmp 47))⟩,
  ⟨(some 49),none,(.bin .geq (.tmp 48) (.const (.int .i64 1)))⟩,
  ⟨(some 50),none,(.mv (.tmp 49))⟩,
  ⟨(some 51),(some (50,true)),(.mv (.tmp 0))⟩,
  ⟨(some 52),(some (50,true)),(.lenS (.tmp 51))⟩,
  ⟨(some 53),(some (50,true)),(.bin .leq (.tmp 52) (.const (.int .i64 12)))⟩,
  ⟨(some 54),none,(.pick (.tmp 50) (.tmp 53) (.const (.bool false)))⟩,
  ⟨(some 2),none,(.asg (.tmp 54))⟩]) .ret)))
theorem zMz {a0 d:D}(h:code_impl_IsName.wp (CT Tryz.prog zAr) (zC9 [(.t 2)] d) [a0,.undef,.undef,.undef,.undef,.undef,.undef,.undef,.undef,.undef,.undef,.undef,.undef,.undef,.undef,.undef,.undef,.undef,.undef,.undef,.undef,.undef,.undef,.undef,.undef,.undef,.undef,.undef,.undef,.undef,.undef,.undef,.undef,.undef,.undef,.undef,.undef,.undef,.undef,.undef,.undef,.undef,.undef,.undef,.undef,.undef,.undef,.undef,.undef,.undef,.undef,.undef,.undef,.undef,.undef]):Contract Tryz.prog zAr 70 [a0] d :=
  zAk (pt:=0) zC6 Tryz.func70 (fun us W=>by kernel_rfl) (c:=Tryz.f70.body.getD .skip) (ms:=[(mB 55 36028797018963582)]) (ms':=[]) (by kernel_rfl) (by kernel_rfl) (by kernel_rfl) h
set_option maxHeartbeats 2000000 in
theorem zKj (s:ByteArray) (hs:s.size≤1048576):Contract Tryz.prog zAr 70 [.v (.string s)] (.v (.bool (zDe s))):=by
  refine zMz ?_;unfold code_impl_IsName;simp -implicitDefEqProofs (disch:=omega) only [go_sem,↓reduceIte ,Int.natCast_zero,Int.natCast_one,Int.cast_ofNat_Int,Int.ofNat_le,Int.toNat_zero,Nat.sub_zero,Int.le_refl,Int.reduceLT,Int.reduceLE,Int.reduceEq,Int.reduceAdd,Int.reduceSub,Int.reduceMul,Int.reduceToNat,Int.reduceNeg];refine zCm (fun i:Nat=>[.v (.string s),.undef,.undef,.undef,.undef,.undef,.undef,.v (.int .i64 s.size),.v (.int .i64 i),.undef,.undef,.undef,.undef,.undef,.undef,.undef,.undef,.undef,.undef,.undef,.undef,.undef,.undef,.undef,.undef,.undef,.undef,.undef,.undef,.undef,.undef,.undef,.undef,.undef,.undef,.undef,.undef,.undef,.undef,.undef,.undef,.undef,.undef,.undef,.undef,.undef,.undef,.undef,.undef,.undef,.undef,.undef,.undef,.undef,.undef]) (fun i=>i≤s.size∧(List.range i).all (fun i=>zKd i (yI8 s i))=true) (fun i=>s.size-i) 0 (zDo) ⟨by omega,by simp⟩ ?_;rintro i ⟨hi,ha⟩;simp -implicitDefEqProofs (disch:=omega) only [go_sem,↓reduceIte ,Int.ofNat_lt];refine zAn ?_ ?_<;>intro hlt
  · have hlt:i<s.size:=of_decide_eq_true hlt;have hb:=byte_at hlt;have hc:=zI6 hb;have next:zKd i (s[i].toNat:Int)=true→∃ b,s.size-b<s.size-i∧(b≤s.size∧(List.range b).all (fun i=>zKd i (yI8 s i))=true)∧b=i+1:=fun h=>⟨i+1,by omega,⟨hlt,zGy ha (by rw [hc];exact h)⟩,rfl⟩
    have bad:zKd i (s[i].toNat:Int)=false→zDe s=false:=fun h=>zTx hlt (by rw [hc];exact h);generalize hcc:(s[i].toNat:Int)=c at next bad
    by_cases gA:97≤c
    · by_cases gB:c≤122
      · skip
        have eA:decide (97≤c)=true:=decide_eq_true (by omega);have eB:decide (c≤122)=true:=decide_eq_true (by omega);simp -implicitDefEqProofs (disch:=omega) only [go_sem,↓reduceIte ,Int.toNat_natCast,hb,Int.natCast_nonneg,hcc,wrN,eA,eB];obtain ⟨b,k1,k2,rfl⟩:=next (by simp only [zKd,isLet,zG2,Bool.or_eq_true,Bool.and_eq_true,decide_eq_true_eq];omega)
        exact ⟨_,k1,k2,zDo⟩
      · by_cases gE:i=0
        · skip
          have eA:decide (97≤c)=true:=decide_eq_true (by omega);have eB:decide (c≤122)=false:=decide_eq_false (by omega);have eC:decide (65≤c)=true:=decide_eq_true (by omega);have eD:decide (c≤90)=false:=decide_eq_false (by omega);have eE:decide ((i:Int)=0)=true:=decide_eq_true (by omega);simp -implicitDefEqProofs (disch:=omega) only [go_sem,↓reduceIte ,Int.toNat_natCast,hb,Int.natCast_nonneg,hcc,wrN,eA,eB,eC,eD,eE];rw [bad (by simp only [zKd,isLet,zG2,Bool.or_eq_false_iff,Bool.and_eq_false_iff,decide_eq_false_iff_not];omega)]
        · skip
          have eA:decide (97≤c)=true:=decide_eq_true (by omega);have eB:decide (c≤122)=false:=decide_eq_false (by omega);have eC:decide (65≤c)=true:=decide_eq_true (by omega);have eD:decide (c≤90)=false:=decide_eq_false (by omega);have eE:decide ((i:Int)=0)=false:=decide_eq_false (by omega);have eF:decide (c<48)=false:=decide_eq_false (by omega);have eG:decide (57<c)=true:=decide_eq_true (by omega);have eH:decide (c=95)=false:=decide_eq_false (by omega);simp -implicitDefEqProofs (disch:=omega) only [go_sem,↓reduceIte ,Int.toNat_natCast,hb,Int.natCast_nonneg,hcc,wrN,eA,eB,eC,eD,eE,eF,eG,eH];rw [bad (by simp only [zKd,isLet,zG2,Bool.or_eq_false_iff,Bool.and_eq_false_iff,decide_eq_false_iff_not];omega)]
    · by_cases gC:65≤c
      · by_cases gD:c≤90
        · skip
          have eA:decide (97≤c)=false:=decide_eq_false (by omega);have eC:decide (65≤c)=true:=decide_eq_true (by omega);have eD:decide (c≤90)=true:=decide_eq_true (by omega);simp -implicitDefEqProofs (disch:=omega) only [go_sem,↓reduceIte ,Int.toNat_natCast,hb,Int.natCast_nonneg,hcc,wrN,eA,eC,eD];obtain ⟨b,k1,k2,rfl⟩:=next (by simp only [zKd,isLet,zG2,Bool.or_eq_true,Bool.and_eq_true,decide_eq_true_eq];omega)
          exact ⟨_,k1,k2,zDo⟩
        · by_cases gE:i=0
          · skip
            have eA:decide (97≤c)=false:=decide_eq_false (by omega);have eC:decide (65≤c)=true:=decide_eq_true (by omega);have eD:decide (c≤90)=false:=decide_eq_false (by omega);have eE:decide ((i:Int)=0)=true:=decide_eq_true (by omega);simp -implicitDefEqProofs (disch:=omega) only [go_sem,↓reduceIte ,Int.toNat_natCast,hb,Int.natCast_nonneg,hcc,wrN,eA,eC,eD,eE];rw [bad (by simp only [zKd,isLet,zG2,Bool.or_eq_false_iff,Bool.and_eq_false_iff,decide_eq_false_iff_not];omega)]
          · by_cases gH:c=95
            · skip
              have eA:decide (97≤c)=false:=decide_eq_false (by omega);have eC:decide (65≤c)=true:=decide_eq_true (by omega);have eD:decide (c≤90)=false:=decide_eq_false (by omega);have eE:decide ((i:Int)=0)=false:=decide_eq_false (by omega);have eF:decide (c<48)=false:=decide_eq_false (by omega);have eG:decide (57<c)=true:=decide_eq_true (by omega);have eH:decide (c=95)=true:=decide_eq_true (by omega);simp -implicitDefEqProofs (disch:=omega) only [go_sem,↓reduceIte ,Int.toNat_natCast,hb,Int.natCast_nonneg,hcc,wrN,eA,eC,eD,eE,eF,eG,eH];obtain ⟨b,k1,k2,rfl⟩:=next (by simp only [zKd,isLet,zG2,Bool.or_eq_true,Bool.and_eq_true,decide_eq_true_eq];omega)
              exact ⟨_,k1,k2,zDo⟩
            · skip
              have eA:decide (97≤c)=false:=decide_eq_false (by omega);have eC:decide (65≤c)=true:=decide_eq_true (by omega);have eD:decide (c≤90)=false:=decide_eq_false (by omega);have eE:decide ((i:Int)=0)=false:=decide_eq_false (by omega);have eF:decide (c<48)=false:=decide_eq_false (by omega);have eG:decide (57<c)=true:=decide_eq_true (by omega);have eH:decide (c=95)=false:=decide_eq_false (by omega);simp -implicitDefEqProofs (disch:=omega) only [go_sem,↓reduceIte ,Int.toNat_natCast,hb,Int.natCast_nonneg,hcc,wrN,eA,eC,eD,eE,eF,eG,eH];rw [bad (by simp only [zKd,isLet,zG2,Bool.or_eq_false_iff,Bool.and_eq_false_iff,decide_eq_false_iff_not];omega)]
      · by_cases gE:i=0
        · skip
          have eA:decide (97≤c)=false:=decide_eq_false (by omega);have eC:decide (65≤c)=false:=decide_eq_false (by omega);have eE:decide ((i:Int)=0)=true:=decide_eq_true (by omega);simp -implicitDefEqProofs (disch:=omega) only [go_sem,↓reduceIte ,Int.toNat_natCast,hb,Int.natCast_nonneg,hcc,wrN,eA,eC,eE];rw [bad (by simp only [zKd,isLet,zG2,Bool.or_eq_false_iff,Bool.and_eq_false_iff,decide_eq_false_iff_not];omega)]
        · by_cases gF:c<48
          · skip
            have eA:decide (97≤c)=false:=decide_eq_false (by omega);have eC:decide (65≤c)=false:=decide_eq_false (by omega);have eE:decide ((i:Int)=0)=false:=decide_eq_false (by omega);have eF:decide (c<48)=true:=decide_eq_true (by omega);have eH:decide (c=95)=false:=decide_eq_false (by omega);simp -implicitDefEqProofs (disch:=omega) only [go_sem,↓reduceIte ,Int.toNat_natCast,hb,Int.natCast_nonneg,hcc,wrN,eA,eC,eE,eF,eH];rw [bad (by simp only [zKd,isLet,zG2,Bool.or_eq_false_iff,Bool.and_eq_false_iff,decide_eq_false_iff_not];omega)]
          · by_cases gG:57<c
            · skip
              have eA:decide (97≤c)=false:=decide_eq_false (by omega);have eC:decide (65≤c)=false:=decide_eq_false (by omega);have eE:decide ((i:Int)=0)=false:=decide_eq_false (by omega);have eF:decide (c<48)=false:=decide_eq_false (by omega);have eG:decide (57<c)=true:=decide_eq_true (by omega);have eH:decide (c=95)=false:=decide_eq_false (by omega);simp -implicitDefEqProofs (disch:=omega) only [go_sem,↓reduceIte ,Int.toNat_natCast,hb,Int.natCast_nonneg,hcc,wrN,eA,eC,eE,eF,eG,eH];rw [bad (by simp only [zKd,isLet,zG2,Bool.or_eq_false_iff,Bool.and_eq_false_iff,decide_eq_false_iff_not];omega)]
            · skip
              have eA:decide (97≤c)=false:=decide_eq_false (by omega);have eC:decide (65≤c)=false:=decide_eq_false (by omega);have eE:decide ((i:Int)=0)=false:=decide_eq_false (by omega);have eF:decide (c<48)=false:=decide_eq_false (by omega);have eG:decide (57<c)=false:=decide_eq_false (by omega);simp -implicitDefEqProofs (disch:=omega) only [go_sem,↓reduceIte ,Int.toNat_natCast,hb,Int.natCast_nonneg,hcc,wrN,eA,eC,eE,eF,eG];obtain ⟨b,k1,k2,rfl⟩:=next (by simp only [zKd,isLet,zG2,Bool.or_eq_true,Bool.and_eq_true,decide_eq_true_eq];omega)
              exact ⟨_,k1,k2,zDo⟩
  · have hlt:i=s.size:=(by have:¬ i<s.size:=of_decide_eq_false hlt;omega);subst hlt;simp -implicitDefEqProofs (disch:=omega) only [go_sem,↓reduceIte];unfold zDe;rw [ha,Bool.and_true];refine zAw ?_ ?_<;>intro h1
    · have h1':decide (1≤s.size)=true:=decide_eq_true (by have:=of_decide_eq_true h1;omega);simp -implicitDefEqProofs (disch:=omega) only [go_sem,↓reduceIte ,h1,h1'];have e:decide ((s.size:Int)≤12)=decide (s.size≤12):=(by rw [decide_eq_decide];omega);rw [e]
    · have h1':decide (1≤s.size)=false:=decide_eq_false (by have:=of_decide_eq_false h1;omega);simp -implicitDefEqProofs (disch:=omega) only [go_sem,↓reduceIte ,h1,h1']
def code_slices_IndexFunc_int64_int64:VCode:=(.seq (.ops [
  ⟨(some 4),none,(.asg (.const (.int .i64 0)))⟩]) (.seq (.seq (.ops [
  ⟨(some 6),none,(.mv (.tmp 0))⟩,
  ⟨(some 7),none,(.len (.tmp 6))⟩,
  ⟨(some 8),none,(.mv (.const (.int .i64 0)))⟩]) (.block 0 (.loop (mB 19 523900) (.seq (.ops [
  ⟨(some 9),none,(.bin .lss (.tmp 8) (.tmp 7))⟩]) (.seq (.cond (.tmp 9) .skip (.exit 0)) (.seq (.block 1 (.seq (.ops [
  ⟨(some 10),none,(.mv (.tmp 8))⟩,
  ⟨(some 5),none,(.asg (.tmp 10))⟩]) (.seq (.ops [
  ⟨(some 11),none,(.mv (.tmp 1))⟩,
  ⟨(some 12),none,(.mv (.tmp 0))⟩,
  ⟨(some 13),none,(.mv (.tmp 5))⟩,
  ⟨(some 14),none,(.ia 1 (.tmp 12) (.tmp 13))⟩,
  ⟨(some 15),none,(.load 1 false (.tmp 14))⟩,
  ⟨(some 16),none,(.callvX (.tmp 11) [(.tmp 15)])⟩]) (.cond (.tmp 16) (.seq (.ops [
  ⟨(some 17),none,(.mv (.tmp 5))⟩,
  ⟨(some 4),none,(.asg (.tmp 17))⟩]) .ret) .skip)))) (.ops [
  ⟨(some 18),none,(.bin .add (.tmp 8) (.const (.int .i64 1)))⟩,
  ⟨(some 8),none,(.mv (.tmp 18))⟩]))))))) (.seq (.ops [
  ⟨(some 4),none,(.asg (.const (.int .i64 (-1))))⟩]) .ret)))
theorem zC8 {a0 a1 d:D}(h:code_slices_IndexFunc_int64_int64.wp (CT Tryz.prog zAr) (zC9 [(.t 4)] d) [a0,a1,.undef,.undef,.undef,.undef,.undef,.undef,.undef,.undef,.undef,.undef,.undef,.undef,.undef,.undef,.undef,.undef,.undef]):Contract Tryz.prog zAr 94 [a0,a1] d :=
  zAk (pt:=0) zC6 Tryz.func94 (fun us W=>by kernel_rfl) (c:=Tryz.f94.body.getD .skip) (ms:=[(mB 19 523900)]) (ms':=[]) (by kernel_rfl) (by kernel_rfl) (by kernel_rfl) h
theorem zJh (f:FuncId)(caps:List D)(hd:CapsOK caps)(xs:List Int)(p:Int→Bool)(hc:∀ x,x∈xs→Contract Tryz.prog zAr f (.v (.int .i64 x)::caps) (.v (.bool (p x))))(hn:xs.length≤1099511627776) :
    Contract Tryz.prog zAr 94 [.sl false 1 (xs.map (rI)),.fn f [] caps] (.v (.int .i64 (zOf p xs))):=by
  refine zC8 ?_;unfold code_slices_IndexFunc_int64_int64;simp -implicitDefEqProofs (disch:=omega) only [go_sem,↓reduceIte ,hd.owny,hd.pr];refine zCm (fun i:Nat=>[.sl false 1 (xs.map (rI)),.fn f [] caps,.undef,.undef,.undef,.undef,.undef,.v (.int .i64 (xs.map (rI)).length),.v (.int .i64 i),.undef,.undef,.undef,.undef,.undef,.undef,.undef,.undef,.undef,.undef]) (fun i=>i≤xs.length∧∀ j (hj:j<xs.length),j<i→p xs[j]=false) (fun i=>xs.length-i) 0 ?_ ⟨Nat.zero_le _,fun j _ h=>absurd h (Nat.not_lt_zero _)⟩ ?_
  · simp -implicitDefEqProofs (disch:=omega) only [go_sem,↓reduceIte ,hd.owny,hd.pr]
    (try simp -implicitDefEqProofs only [zCs,zCr,zB0,zB2,zB3,zB1,and_self,and_true,true_and])<;>repeat' (first | exact zBd rfl | exact zCd | apply And.intro | apply zDz | apply zBb | apply zA7 | exact zBo | exact zBm | apply zCe | apply zCl)
  rintro i ⟨hi,ha⟩;simp -implicitDefEqProofs (disch:=omega) only [go_sem,↓reduceIte ,List.length_map,Int.toNat_natCast,Int.ofNat_lt,Int.natCast_nonneg,List.getElem?_map,Option.map_some,hd.owny,hd.pr];refine zAn ?_ ?_<;>intro hlt
  · have hlt:i<xs.length:=(by simpa using hlt);have hx:=List.getElem?_eq_getElem hlt;simp -implicitDefEqProofs (disch:=omega) only [go_sem,↓reduceIte ,List.length_map,Int.toNat_natCast,Int.ofNat_lt,Int.natCast_nonneg,List.getElem?_map,Option.map_some,hlt,hx,hd.owny,hd.pr];have hcx:=hc _ (List.getElem_mem hlt);refine zQk (f:=f) (first:=[]) (caps:=caps) ?_ hcx ?_ (.inl rfl) ?_
    · simp -implicitDefEqProofs (disch:=omega) only [go_sem,↓reduceIte ,hd.owny]
    · refine zAz ?_;simp only [List.nil_append,List.cons_append,List.map_cons,List.map_nil,hd.d8,List.map_append];simp only [deep,raw,List.getElem?_cons_succ,List.getElem?_cons_zero,List.map_cons,List.map_nil,TD.rows,zAe,zAc,zAf,zAb]
    simp -implicitDefEqProofs (disch:=omega) only [go_sem,↓reduceIte ,hd.owny,hd.pr];refine zAn ?_ ?_<;>intro hp
    · simp -implicitDefEqProofs (disch:=omega) only [go_sem,↓reduceIte ,hd.owny,hd.pr];rw [zGn p xs i hlt ha hp]
    · simp -implicitDefEqProofs (disch:=omega) only [go_sem,↓reduceIte ,wrN,hd.owny,hd.pr];refine ⟨i+1,by omega,⟨hlt,fun j hj h=>?_⟩,zDo⟩;rcases Nat.lt_or_ge j i with h' | h'
      · exact ha j hj h'
      · have:j=i:=(by omega);subst this;exact hp
  · have hlt:¬ i<xs.length:=(by simpa using hlt);simp -implicitDefEqProofs (disch:=omega) only [go_sem,↓reduceIte];rw [zF2 p xs (fun j hj=>ha j hj (by omega))]
def code_slices_ContainsFunc_int64_int64:VCode:=(.seq (.ops [
  ⟨(some 4),none,(.asg (.const (.bool false)))⟩]) (.seq (.ops [
  ⟨(some 5),none,(.mv (.tmp 0))⟩,
  ⟨(some 6),none,(.mv (.tmp 1))⟩,
  ⟨(some 7),none,(.callX 94 [(.tmp 5),(.tmp 6)])⟩,
  ⟨(some 8),none,(.bin .geq (.tmp 7) (.const (.int .i64 0)))⟩,
  ⟨(some 4),none,(.asg (.tmp 8))⟩]) .ret))
theorem zCw {a0 a1 d:D}(h:code_slices_ContainsFunc_int64_int64.wp (CT Tryz.prog zAr) (zC9 [(.t 4)] d) [a0,a1,.undef,.undef,.undef,.undef,.undef,.undef,.undef]):Contract Tryz.prog zAr 71 [a0,a1] d :=
  zAk (pt:=0) zC6 Tryz.func71 (fun us W=>by kernel_rfl) (c:=Tryz.f71.body.getD .skip) (ms:=[]) (ms':=[]) (by kernel_rfl) (by kernel_rfl) (by kernel_rfl) h
theorem zGz (f:FuncId)(caps:List D)(hd:CapsOK caps)(xs:List Int)(p:Int→Bool)(hc:∀ x,x∈xs→Contract Tryz.prog zAr f (.v (.int .i64 x)::caps) (.v (.bool (p x))))(hn:xs.length≤1099511627776) :
    Contract Tryz.prog zAr 71 [.sl false 1 (xs.map (rI)),.fn f [] caps] (.v (.bool (xs.any p))):=by
  refine zCw ?_;unfold code_slices_ContainsFunc_int64_int64;simp -implicitDefEqProofs (disch:=omega) only [go_sem,↓reduceIte ,hd.owny,hd.pr];refine zUp (zJh f caps hd xs p hc hn) ?_ (.inl rfl) ?_
  · refine zAz ?_;simp only [List.map_cons,List.map_nil,deep,raw,List.getElem?_cons_succ,List.getElem?_cons_zero,TD.rows,zAe,zAc,zAf,zAb,hd.owny,hd.pr,hd.d7]
    try rfl
  simp -implicitDefEqProofs (disch:=omega) only [go_sem,↓reduceIte];exact congrArg Value.bool (zU5 p xs)
structure setB (a:TileSet):Prop where
  g:a.Glues.length≤1048576
  t:a.Tiles.length≤1048576
  gn:∀ x,x∈a.Glues→x.Name.size≤1048576
  tn:∀ x,x∈a.Tiles→x.Name.size≤1048576
  ts:∀ x,x∈a.Tiles→x.Sides.length≤1048576
theorem yAw {a:TileSet}(h:TileSet.cnt a≤1048576):setB a:=by
  have h1:=zGw Glue.cnt a.Glues;have h2:=zGw Tile.cnt a.Tiles;have h3:TileSet.cnt a=zHs Glue.cnt a.Glues+zHs Tile.cnt a.Tiles:=rfl;refine ⟨by omega,by omega,fun x hx=>?_,fun x hx=>?_,fun x hx=>?_⟩
  all_goals obtain ⟨k,hk,rfl⟩:=List.getElem_of_mem hx
  · have:=zI2 Glue.cnt a.Glues k hk;have h4:Glue.cnt a.Glues[k]=a.Glues[k].Name.size:=rfl;omega
  · have:=zI2 Tile.cnt a.Tiles k hk;have h4:Tile.cnt a.Tiles[k]=a.Tiles[k].Name.size+a.Tiles[k].Sides.length:=rfl;omega
  · have:=zI2 Tile.cnt a.Tiles k hk;have h4:Tile.cnt a.Tiles[k]=a.Tiles[k].Name.size+a.Tiles[k].Sides.length:=rfl;omega
def yOr (gs:List Glue)(n:ByteArray):Int:=zOf (fun g:Glue=>decide (g.Name=n)) gs
def zQu (ts:List Tile)(n:ByteArray):Int:=zOf (fun t:Tile=>decide (t.Name=n)) ts
def okG (gs:List Glue)(i:Nat):Bool:=match gs[i]? with
  | some g=>zDe g.Name&&(inR 1 4 g.Strength&&!(gs.take i).any (fun x=>decide (x.Name=g.Name)))
  | none=>true
def okT (n:Nat)(ts:List Tile)(i:Nat):Bool:=match ts[i]? with
  | some t=>zDe t.Name&&(decide (t.Sides.length=4)&&(!(ts.take i).any (fun x=>decide (x.Name=t.Name))&&t.Sides.all (inR 0 n)))
  | none=>true
def zD2 (a:TileSet):Bool:=decide (a.Glues.length≤200)&&(inR 1 160 a.Tiles.length&&((List.range a.Glues.length).all (okG a.Glues)&&(List.range a.Tiles.length).all (okT a.Glues.length a.Tiles)))
theorem zJs {a:TileSet}{i:Nat}(hi:i<a.Glues.length)(h:okG a.Glues i=false):zD2 a=false:=by have:(List.range a.Glues.length).all (okG a.Glues)=false:=(by rw [List.all_eq_false];exact ⟨i,by simpa using hi,by simp [h]⟩);simp [zD2,this]
theorem zF8 {a:TileSet}{i:Nat}(hi:i<a.Tiles.length)(h:okT a.Glues.length a.Tiles i=false):zD2 a=false:=by have:(List.range a.Tiles.length).all (okT a.Glues.length a.Tiles)=false:=(by rw [List.all_eq_false];exact ⟨i,by simpa using hi,by simp [h]⟩);simp [zD2,this]
theorem zQ9 {α:Type} (f:α→ByteArray) (xs:List α) (i:Nat) (hi:i<xs.length):decide (zOf (fun x=>decide (f x=f xs[i])) xs=(i:Int))=!(xs.take i).any (fun x=>decide (f x=f xs[i])):=by
  by_cases h:(xs.take i).any (fun x=>decide (f x=f xs[i]))=true
  · rw [h];rw [List.any_eq_true] at h;obtain ⟨x,hx,hp⟩:=h;obtain ⟨j,hj,rfl⟩:=List.getElem_of_mem hx;simp only [List.length_take] at hj;rw [List.getElem_take] at hp;have hne:zOf (fun x=>decide (f x=f xs[i])) xs≠(i:Int):=by
      intro e;unfold zOf at e;cases hf:xs.findIdx? (fun x=>decide (f x=f xs[i])) with
      | none=>rw [hf] at e;simp at e
      | some k =>
        rw [hf] at e;have e:(k:Int)=(i:Int):=e;have hk:k=i:=by omega
        subst hk;rw [List.findIdx?_eq_some_iff_getElem] at hf;have:=hf.2.2 j (by omega);simp only [decide_eq_true_eq] at this hp;exact this hp
    simp [hne]
  · have h':(xs.take i).any (fun x=>decide (f x=f xs[i]))=false:=(by simpa using h);rw [h'];rw [List.any_eq_false] at h';have:=zGn (fun x=>decide (f x=f xs[i])) xs i hi (fun j hj hlt=>by
      have:=h' xs[j] (by
        rw [List.mem_take_iff_getElem];exact ⟨j,by omega,rfl⟩)
      simpa using this) (by simp)
    rw [this];simp
theorem yKa {gs:List Glue}{i:Nat}(hi:i<gs.length):okG gs i=(zDe gs[i].Name&&(inR 1 4 gs[i].Strength&&!(gs.take i).any (fun x=>decide (x.Name=gs[i].Name)))):=by unfold okG;rw [List.getElem?_eq_getElem hi]
theorem yJ9 {n:Nat}{ts:List Tile}{i:Nat}(hi:i<ts.length):okT n ts i=(zDe ts[i].Name&&(decide (ts[i].Sides.length=4)&&(!(ts.take i).any (fun x=>decide (x.Name=ts[i].Name))&&ts[i].Sides.all (inR 0 n)))):=by unfold okT;rw [List.getElem?_eq_getElem hi]
/-! names in maps -/
theorem getD_some {s:List Int}{k:Nat}(h:k<s.length):s[k]?=some (s.getD k 0):=by rw [List.getD_eq_getElem?_getD,List.getElem?_eq_getElem h];rfl
theorem zMk {a:TileSet}(h:zD2 a=true):a.Glues.length≤200∧1≤a.Tiles.length∧a.Tiles.length≤160:=by unfold zD2 at h;simp only [Bool.and_eq_true,decide_eq_true_eq,inR_iff] at h;exact ⟨h.1,by omega,by omega⟩
def zQf {α:Type}(f:α→ByteArray)(xs:List α):List (Value×Value):=xs.map fun x=>(Value.string (f x),Value.bool true)
theorem yCs {a b:ByteArray}:keq (.string a) (.string b)=decide (b=a):=by rw [Bool.eq_iff_iff,decide_eq_true_eq];show (a==b)=true↔b=a;rw [MapKept.bytes_beq];exact eq_comm
theorem yCe {α:Type}(f:α→ByteArray)(n:ByteArray):∀ xs:List α,yNl (zQf f xs) (.string n)=if xs.any (fun x=>decide (f x=n)) then some (.bool true) else none
  | []=>rfl
  | x::xs=>by
    have ih:=yCe f n xs;unfold yNl zQf at *;simp only [List.map_cons,List.find?_cons,yCs,List.any_cons];by_cases h:f x=n
    · simp [h]
    · simp only [h,decide_false,Bool.false_or];exact ih
theorem yKb {α:Type}(f:α→ByteArray)(xs:List α)(y:α)(h:xs.any (fun x=>decide (f x=f y))=false):yB8 (zQf f xs) (.string (f y)) (.bool true)=zQf f (xs++[y]):=by
  unfold yB8;have:(zQf f xs).findIdx? (fun x=>keq (.string (f y)) x.1)=none:=by rw [List.findIdx?_eq_none_iff];intro x hx;unfold zQf at hx;obtain ⟨z,hz,rfl⟩:=List.mem_map.1 hx;rw [List.any_eq_false] at h;have:=h z hz;simp only [yCs];simpa using this
  rw [this];simp [zQf]
theorem zRa {α:Type}{xs:List α}{i:Nat}(hi:i<xs.length):xs.take i++[xs[i]]=xs.take (i+1):=(List.take_succ_eq_append_getElem hi).symm
def code_spec_l02Glue:VCode:=(.seq (.ops [
  ⟨(some 4),none,(.asg (.const (.int .i64 0)))⟩]) (.seq (.seq (.ops [
  ⟨(some 5),none,(.asg (.const (.int .i64 0)))⟩]) (.block 0 (.loop (mB 27 134217692) (.seq (.seq (.ops [
  ⟨(some 6),none,(.mv (.tmp 5))⟩,
  ⟨(some 7),none,(.mv (.tmp 0))⟩,
  ⟨(some 8),none,(.nilc (.tmp 7))⟩,
  ⟨(some 9),none,(.fa 0 (.tmp 8))⟩,
  ⟨(some 10),none,(.load 1 false (.tmp 9))⟩,
  ⟨(some 11),none,(.len (.tmp 10))⟩,
  ⟨(some 12),none,(.bin .lss (.tmp 6) (.tmp 11))⟩]) (.cond (.tmp 12) .skip (.exit 0))) (.seq (.block 1 (.seq (.ops [
  ⟨(some 15),none,(.mv (.tmp 0))⟩,
  ⟨(some 16),none,(.nilc (.tmp 15))⟩,
  ⟨(some 17),none,(.fa 0 (.tmp 16))⟩,
  ⟨(some 18),none,(.load 1 false (.tmp 17))⟩,
  ⟨(some 19),none,(.mv (.tmp 5))⟩,
  ⟨(some 20),none,(.ia 2 (.tmp 18) (.tmp 19))⟩,
  ⟨(some 21),none,(.fa 0 (.tmp 20))⟩,
  ⟨(some 22),none,(.load 1 false (.tmp 21))⟩,
  ⟨(some 23),none,(.mv (.tmp 1))⟩,
  ⟨(some 24),none,(.bin .eql (.tmp 22) (.tmp 23))⟩]) (.cond (.tmp 24) (.seq (.ops [
  ⟨(some 25),none,(.mv (.tmp 5))⟩,
  ⟨(some 26),none,(.bin .add (.tmp 25) (.const (.int .i64 1)))⟩,
  ⟨(some 4),none,(.asg (.tmp 26))⟩]) .ret) .skip))) (.ops [
  ⟨(some 13),none,(.mv (.tmp 5))⟩,
  ⟨(some 14),none,(.bin .add (.tmp 13) (.const (.int .i64 1)))⟩,
  ⟨(some 5),none,(.asg (.tmp 14))⟩])))))) (.seq (.ops [
  ⟨(some 4),none,(.asg (.const (.int .i64 0)))⟩]) .ret)))
theorem zK7 {a0 a1 d:D}(h:code_spec_l02Glue.wp (CT Tryz.prog zAr) (zC9 [(.t 4)] d) [a0,a1,.undef,.undef,.undef,.undef,.undef,.undef,.undef,.undef,.undef,.undef,.undef,.undef,.undef,.undef,.undef,.undef,.undef,.undef,.undef,.undef,.undef,.undef,.undef,.undef,.undef]):Contract Tryz.prog zAr 37 [a0,a1] d :=
  zAk (pt:=0) zC6 Tryz.func37 (fun us W=>by kernel_rfl) (c:=Tryz.f37.body.getD .skip) (ms:=[(mB 27 134217692)]) (ms':=[]) (by kernel_rfl) (by kernel_rfl) (by kernel_rfl) h
def code_spec_l02Tile:VCode:=(.seq (.ops [
  ⟨(some 4),none,(.asg (.const (.int .i64 0)))⟩]) (.seq (.seq (.ops [
  ⟨(some 5),none,(.asg (.const (.int .i64 0)))⟩]) (.block 0 (.loop (mB 26 67108828) (.seq (.seq (.ops [
  ⟨(some 6),none,(.mv (.tmp 5))⟩,
  ⟨(some 7),none,(.mv (.tmp 0))⟩,
  ⟨(some 8),none,(.nilc (.tmp 7))⟩,
  ⟨(some 9),none,(.fa 1 (.tmp 8))⟩,
  ⟨(some 10),none,(.load 1 false (.tmp 9))⟩,
  ⟨(some 11),none,(.len (.tmp 10))⟩,
  ⟨(some 12),none,(.bin .lss (.tmp 6) (.tmp 11))⟩]) (.cond (.tmp 12) .skip (.exit 0))) (.seq (.block 1 (.seq (.ops [
  ⟨(some 15),none,(.mv (.tmp 0))⟩,
  ⟨(some 16),none,(.nilc (.tmp 15))⟩,
  ⟨(some 17),none,(.fa 1 (.tmp 16))⟩,
  ⟨(some 18),none,(.load 1 false (.tmp 17))⟩,
  ⟨(some 19),none,(.mv (.tmp 5))⟩,
  ⟨(some 20),none,(.ia 2 (.tmp 18) (.tmp 19))⟩,
  ⟨(some 21),none,(.fa 0 (.tmp 20))⟩,
  ⟨(some 22),none,(.load 1 false (.tmp 21))⟩,
  ⟨(some 23),none,(.mv (.tmp 1))⟩,
  ⟨(some 24),none,(.bin .eql (.tmp 22) (.tmp 23))⟩]) (.cond (.tmp 24) (.seq (.ops [
  ⟨(some 25),none,(.mv (.tmp 5))⟩,
  ⟨(some 4),none,(.asg (.tmp 25))⟩]) .ret) .skip))) (.ops [
  ⟨(some 13),none,(.mv (.tmp 5))⟩,
  ⟨(some 14),none,(.bin .add (.tmp 13) (.const (.int .i64 1)))⟩,
  ⟨(some 5),none,(.asg (.tmp 14))⟩])))))) (.seq (.ops [
  ⟨(some 4),none,(.asg (.const (.int .i64 (-1))))⟩]) .ret)))
theorem zK6 {a0 a1 d:D}(h:code_spec_l02Tile.wp (CT Tryz.prog zAr) (zC9 [(.t 4)] d) [a0,a1,.undef,.undef,.undef,.undef,.undef,.undef,.undef,.undef,.undef,.undef,.undef,.undef,.undef,.undef,.undef,.undef,.undef,.undef,.undef,.undef,.undef,.undef,.undef,.undef]):Contract Tryz.prog zAr 38 [a0,a1] d :=
  zAk (pt:=0) zC6 Tryz.func38 (fun us W=>by kernel_rfl) (c:=Tryz.f38.body.getD .skip) (ms:=[(mB 26 67108828)]) (ms':=[]) (by kernel_rfl) (by kernel_rfl) (by kernel_rfl) h
theorem zZp (a:TileSet)(n:ByteArray)(hg:a.Glues.length≤1048576):Contract Tryz.prog zAr 37 [.iptr (TileSet.td.d false a) 0,.v (.string n)] (.v (.int .i64 (yOr a.Glues n+1))):=by
  rw [TileSet.td_d];refine zK7 ?_;unfold code_spec_l02Glue;simp -implicitDefEqProofs (disch:=omega) only [go_sem,↓reduceIte];refine zCm (fun i:Nat=>[.iptr [.sl false 2 (a.Glues.map (Glue.td.d false)),.sl false 2 (a.Tiles.map (Tile.td.d false))] 0,.v (.string n),.undef,.undef,.undef,.v (.int .i64 i),.undef,.undef,.undef,.undef,.undef,.undef,.undef,.undef,.undef,.undef,.undef,.undef,.undef,.undef,.undef,.undef,.undef,.undef,.undef,.undef,.undef]) (fun i=>i≤a.Glues.length∧∀ j (hj:j<a.Glues.length),j<i→decide (a.Glues[j].Name=n)=false) (fun i=>a.Glues.length-i) 0 (zDo) ⟨Nat.zero_le _,fun _ _ h=>absurd h (Nat.not_lt_zero _)⟩ ?_;rintro i ⟨hi,ha⟩;simp -implicitDefEqProofs (disch:=omega) only [go_sem,↓reduceIte ,List.length_map,Int.toNat_natCast,Int.ofNat_lt,Int.natCast_nonneg,List.getElem?_map,Option.map_some];refine zAn ?_ ?_<;>intro hlt
  · have hlt:i<a.Glues.length:=(by simpa using hlt);have e1:=List.getElem?_eq_getElem hlt;simp -implicitDefEqProofs (disch:=omega) only [go_sem,↓reduceIte ,List.length_map,Int.toNat_natCast,Int.ofNat_lt,Int.natCast_nonneg,List.getElem?_map,Option.map_some,hlt,e1,Glue.td_d];refine zAn ?_ ?_<;>intro hc
    · have hv:yOr a.Glues n=(i:Int):=zGn _ a.Glues i hlt (fun j hj h=>ha j hj h) hc;simp -implicitDefEqProofs (disch:=omega) only [go_sem,↓reduceIte ,wrN];rw [hv];simp
    · simp -implicitDefEqProofs (disch:=omega) only [go_sem,↓reduceIte ,wrN];refine ⟨i+1,by omega,⟨hlt,fun j hj h=>?_⟩,zDo⟩;by_cases hji:j=i
      · subst hji;exact hc
      · exact ha j hj (by omega)
  · have hge:i=a.Glues.length:=by have:¬ i<a.Glues.length:=by simpa using hlt
                                  omega
    subst hge;have hv:yOr a.Glues n = -1:=zF2 _ a.Glues (fun j hj=>ha j hj hj);simp -implicitDefEqProofs (disch:=omega) only [go_sem,↓reduceIte];rw [hv];rfl
theorem zQ1 (a:TileSet)(n:ByteArray)(hg:a.Tiles.length≤1048576):Contract Tryz.prog zAr 38 [.iptr (TileSet.td.d false a) 0,.v (.string n)] (.v (.int .i64 (zQu a.Tiles n))):=by
  rw [TileSet.td_d];refine zK6 ?_;unfold code_spec_l02Tile;simp -implicitDefEqProofs (disch:=omega) only [go_sem,↓reduceIte];refine zCm (fun i:Nat=>[.iptr [.sl false 2 (a.Glues.map (Glue.td.d false)),.sl false 2 (a.Tiles.map (Tile.td.d false))] 0,.v (.string n),.undef,.undef,.undef,.v (.int .i64 i),.undef,.undef,.undef,.undef,.undef,.undef,.undef,.undef,.undef,.undef,.undef,.undef,.undef,.undef,.undef,.undef,.undef,.undef,.undef,.undef]) (fun i=>i≤a.Tiles.length∧∀ j (hj:j<a.Tiles.length),j<i→decide (a.Tiles[j].Name=n)=false) (fun i=>a.Tiles.length-i) 0 (zDo) ⟨Nat.zero_le _,fun _ _ h=>absurd h (Nat.not_lt_zero _)⟩ ?_;rintro i ⟨hi,ha⟩;simp -implicitDefEqProofs (disch:=omega) only [go_sem,↓reduceIte ,List.length_map,Int.toNat_natCast,Int.ofNat_lt,Int.natCast_nonneg,List.getElem?_map,Option.map_some];refine zAn ?_ ?_<;>intro hlt
  · have hlt:i<a.Tiles.length:=(by simpa using hlt);have e1:=List.getElem?_eq_getElem hlt;simp -implicitDefEqProofs (disch:=omega) only [go_sem,↓reduceIte ,List.length_map,Int.toNat_natCast,Int.ofNat_lt,Int.natCast_nonneg,List.getElem?_map,Option.map_some,hlt,e1,Tile.td_d];refine zAn ?_ ?_<;>intro hc
    · have hv:zQu a.Tiles n=(i:Int):=zGn _ a.Tiles i hlt (fun j hj h=>ha j hj h) hc;simp -implicitDefEqProofs (disch:=omega) only [go_sem,↓reduceIte ,wrN];rw [hv]
    · simp -implicitDefEqProofs (disch:=omega) only [go_sem,↓reduceIte ,wrN];refine ⟨i+1,by omega,⟨hlt,fun j hj h=>?_⟩,zDo⟩;by_cases hji:j=i
      · subst hji;exact hc
      · exact ha j hj (by omega)
  · have hge:i=a.Tiles.length:=by have:¬ i<a.Tiles.length:=by simpa using hlt
                                  omega
    subst hge;have hv:zQu a.Tiles n = -1:=zF2 _ a.Tiles (fun j hj=>ha j hj hj);simp -implicitDefEqProofs (disch:=omega) only [go_sem,↓reduceIte];rw [hv]
def code_spec_l02Ok:VCode:=(.seq (.ops [
  ⟨(some 2),none,(.asg (.const (.bool false)))⟩]) (.seq (.seq (.ops [
  ⟨(some 8),none,(.mv (.tmp 0))⟩,
  ⟨(some 9),none,(.nilc (.tmp 8))⟩,
  ⟨(some 10),none,(.fa 0 (.tmp 9))⟩,
  ⟨(some 11),none,(.load 1 false (.tmp 10))⟩,
  ⟨(some 12),none,(.len (.tmp 11))⟩,
  ⟨(some 13),none,(.bin .gtr (.tmp 12) (.const (.int .i64 200)))⟩,
  ⟨(some 14),none,(.mv (.tmp 13))⟩,
  ⟨(some 15),(some (14,false)),(.mv (.tmp 0))⟩,
  ⟨(some 16),(some (14,false)),(.nilc (.tmp 15))⟩,
  ⟨(some 17),(some (14,false)),(.fa 1 (.tmp 16))⟩,
  ⟨(some 18),(some (14,false)),(.load 1 false (.tmp 17))⟩,
  ⟨(some 19),(some (14,false)),(.len (.tmp 18))⟩,
  ⟨(some 20),(some (14,false)),(.bin .lss (.tmp 19) (.const (.int .i64 1)))⟩,
  ⟨(some 21),none,(.pick (.tmp 14) (.const (.bool true)) (.tmp 20))⟩,
  ⟨(some 22),none,(.mv (.tmp 21))⟩,
  ⟨(some 23),(some (22,false)),(.mv (.tmp 0))⟩,
  ⟨(some 24),(some (22,false)),(.nilc (.tmp 23))⟩,
  ⟨(some 25),(some (22,false)),(.fa 1 (.tmp 24))⟩,
  ⟨(some 26),(some (22,false)),(.load 1 false (.tmp 25))⟩,
  ⟨(some 27),(some (22,false)),(.len (.tmp 26))⟩,
  ⟨(some 28),(some (22,false)),(.bin .gtr (.tmp 27) (.const (.int .i64 160)))⟩,
  ⟨(some 29),none,(.pick (.tmp 22) (.const (.bool true)) (.tmp 28))⟩]) (.cond (.tmp 29) (.seq (.ops [
  ⟨(some 2),none,(.asg (.const (.bool false)))⟩]) .ret) .skip)) (.seq (.seq (.ops [
  ⟨(some 3),none,(.asg (.const (.int .i64 0)))⟩]) (.block 0 (.loop (mB 115 41538374868278621028243970633760758) (.seq (.seq (.ops [
  ⟨(some 30),none,(.mv (.tmp 3))⟩,
  ⟨(some 31),none,(.mv (.tmp 0))⟩,
  ⟨(some 32),none,(.nilc (.tmp 31))⟩,
  ⟨(some 33),none,(.fa 0 (.tmp 32))⟩,
  ⟨(some 34),none,(.load 1 false (.tmp 33))⟩,
  ⟨(some 35),none,(.len (.tmp 34))⟩,
  ⟨(some 36),none,(.bin .lss (.tmp 30) (.tmp 35))⟩]) (.cond (.tmp 36) .skip (.exit 0))) (.seq (.block 1 (.seq (.ops [
  ⟨(some 39),none,(.mv (.tmp 0))⟩,
  ⟨(some 40),none,(.nilc (.tmp 39))⟩,
  ⟨(some 41),none,(.fa 0 (.tmp 40))⟩,
  ⟨(some 42),none,(.load 1 false (.tmp 41))⟩,
  ⟨(some 43),none,(.mv (.tmp 3))⟩,
  ⟨(some 44),none,(.ia 2 (.tmp 42) (.tmp 43))⟩,
  ⟨(some 45),none,(.load 2 true (.tmp 44))⟩,
  ⟨(some 4),none,(.alloc [(.string ⟨⟨[]⟩⟩),(.int .i64 0)])⟩,
  ⟨none,none,(.store 2 (.tmp 4) (.tmp 45))⟩]) (.seq (.ops [
  ⟨(some 46),none,(.fa 0 (.tmp 4))⟩,
  ⟨(some 47),none,(.load 1 false (.tmp 46))⟩,
  ⟨(some 48),none,(.callX 35 [(.tmp 47)])⟩,
  ⟨(some 49),none,(.un .not (.tmp 48))⟩,
  ⟨(some 50),none,(.mv (.tmp 49))⟩,
  ⟨(some 51),(some (50,false)),(.fa 1 (.tmp 4))⟩,
  ⟨(some 52),(some (50,false)),(.load 1 false (.tmp 51))⟩,
  ⟨(some 53),(some (50,false)),(.callX 36 [(.tmp 52),(.const (.int .i64 1)),(.const (.int .i64 4))])⟩,
  ⟨(some 54),(some (50,false)),(.un .not (.tmp 53))⟩,
  ⟨(some 55),none,(.pick (.tmp 50) (.const (.bool true)) (.tmp 54))⟩,
  ⟨(some 56),none,(.mv (.tmp 55))⟩,
  ⟨(some 57),(some (56,false)),(.mv (.tmp 0))⟩,
  ⟨(some 58),(some (56,false)),(.fa 0 (.tmp 4))⟩,
  ⟨(some 59),(some (56,false)),(.load 1 false (.tmp 58))⟩,
  ⟨(some 60),(some (56,false)),(.callX 37 [(.tmp 57),(.tmp 59)])⟩,
  ⟨(some 61),(some (56,false)),(.mv (.tmp 3))⟩,
  ⟨(some 62),(some (56,false)),(.bin .add (.tmp 61) (.const (.int .i64 1)))⟩,
  ⟨(some 63),(some (56,false)),(.bin .neq (.tmp 60) (.tmp 62))⟩,
  ⟨(some 64),none,(.pick (.tmp 56) (.const (.bool true)) (.tmp 63))⟩]) (.cond (.tmp 64) (.seq (.ops [
  ⟨(some 2),none,(.asg (.const (.bool false)))⟩]) .ret) .skip)))) (.ops [
  ⟨(some 37),none,(.mv (.tmp 3))⟩,
  ⟨(some 38),none,(.bin .add (.tmp 37) (.const (.int .i64 1)))⟩,
  ⟨(some 3),none,(.asg (.tmp 38))⟩])))))) (.seq (.seq (.ops [
  ⟨(some 5),none,(.asg (.const (.int .i64 0)))⟩]) (.block 2 (.loop (mB 115 41538374868278621028243970633760734) (.seq (.seq (.ops [
  ⟨(some 65),none,(.mv (.tmp 5))⟩,
  ⟨(some 66),none,(.mv (.tmp 0))⟩,
  ⟨(some 67),none,(.nilc (.tmp 66))⟩,
  ⟨(some 68),none,(.fa 1 (.tmp 67))⟩,
  ⟨(some 69),none,(.load 1 false (.tmp 68))⟩,
  ⟨(some 70),none,(.len (.tmp 69))⟩,
  ⟨(some 71),none,(.bin .lss (.tmp 65) (.tmp 70))⟩]) (.cond (.tmp 71) .skip (.exit 2))) (.seq (.block 3 (.seq (.ops [
  ⟨(some 74),none,(.mv (.tmp 0))⟩,
  ⟨(some 75),none,(.nilc (.tmp 74))⟩,
  ⟨(some 76),none,(.fa 1 (.tmp 75))⟩,
  ⟨(some 77),none,(.load 1 false (.tmp 76))⟩,
  ⟨(some 78),none,(.mv (.tmp 5))⟩,
  ⟨(some 79),none,(.ia 2 (.tmp 77) (.tmp 78))⟩,
  ⟨(some 80),none,(.load 2 true (.tmp 79))⟩,
  ⟨(some 6),none,(.alloc [(.string ⟨⟨[]⟩⟩),(.slice none 0 0)])⟩,
  ⟨none,none,(.store 2 (.tmp 6) (.tmp 80))⟩]) (.seq (.seq (.ops [
  ⟨(some 81),none,(.fa 0 (.tmp 6))⟩,
  ⟨(some 82),none,(.load 1 false (.tmp 81))⟩,
  ⟨(some 83),none,(.callX 35 [(.tmp 82)])⟩,
  ⟨(some 84),none,(.un .not (.tmp 83))⟩,
  ⟨(some 85),none,(.mv (.tmp 84))⟩,
  ⟨(some 86),(some (85,false)),(.fa 1 (.tmp 6))⟩,
  ⟨(some 87),(some (85,false)),(.load 1 false (.tmp 86))⟩,
  ⟨(some 88),(some (85,false)),(.len (.tmp 87))⟩,
  ⟨(some 89),(some (85,false)),(.bin .neq (.tmp 88) (.const (.int .i64 4)))⟩,
  ⟨(some 90),none,(.pick (.tmp 85) (.const (.bool true)) (.tmp 89))⟩,
  ⟨(some 91),none,(.mv (.tmp 90))⟩,
  ⟨(some 92),(some (91,false)),(.mv (.tmp 0))⟩,
  ⟨(some 93),(some (91,false)),(.fa 0 (.tmp 6))⟩,
  ⟨(some 94),(some (91,false)),(.load 1 false (.tmp 93))⟩,
  ⟨(some 95),(some (91,false)),(.callX 38 [(.tmp 92),(.tmp 94)])⟩,
  ⟨(some 96),(some (91,false)),(.mv (.tmp 5))⟩,
  ⟨(some 97),(some (91,false)),(.bin .neq (.tmp 95) (.tmp 96))⟩,
  ⟨(some 98),none,(.pick (.tmp 91) (.const (.bool true)) (.tmp 97))⟩]) (.cond (.tmp 98) (.seq (.ops [
  ⟨(some 2),none,(.asg (.const (.bool false)))⟩]) .ret) .skip)) (.seq (.ops [
  ⟨(some 7),none,(.asg (.const (.int .i64 0)))⟩]) (.block 4 (.loop (mB 115 41538374868278621028243970633760542) (.seq (.seq (.ops [
  ⟨(some 99),none,(.mv (.tmp 7))⟩,
  ⟨(some 100),none,(.bin .lss (.tmp 99) (.const (.int .i64 4)))⟩]) (.cond (.tmp 100) .skip (.exit 4))) (.seq (.block 5 (.seq (.draw (mB 113 10374452512267829421849019032797184) [] [⟨0,(mB 113 10374452512267829421849019032797184),[],⟨(some 103),none,(.fa 1 (.tmp 6))⟩⟩,⟨1,(mB 113 10364311307466003586637045407154176),[],⟨(some 104),none,(.load 1 false (.tmp 103))⟩⟩,⟨2,(mB 113 10374452512267829421849019032797184),[],⟨(some 105),none,(.mv (.tmp 7))⟩⟩,⟨3,(mB 113 10303464078655048575365203653296128),[],⟨(some 106),none,(.ia 1 (.tmp 104) (.tmp 105))⟩⟩,⟨4,(mB 113 10222334440240441893669414648152064),[],⟨(some 107),none,(.load 1 false (.tmp 106))⟩⟩,⟨5,(mB 113 10374452512267829421849019032797184),[],⟨(some 108),none,(.mv (.tmp 0))⟩⟩,⟨6,(mB 113 10049933958609402695065863012220928),[],⟨(some 109),none,(.nilc (.tmp 108))⟩⟩,⟨7,(mB 113 9400896851292549241499550971068416),[],⟨(some 110),none,(.fa 0 (.tmp 109))⟩⟩,⟨8,(mB 113 8102822636658842334366926888763392),[],⟨(some 111),none,(.load 1 false (.tmp 110))⟩⟩,⟨9,(mB 113 5506674207391428520101678724153344),[],⟨(some 112),none,(.len (.tmp 111))⟩⟩] [⟨(some 113),none,(.callX 36 [(.tmp 107),(.const (.int .i64 0)),(.tmp 112)])⟩,⟨(some 114),none,(.un .not (.tmp 113))⟩]) (.cond (.tmp 114) (.seq (.ops [
  ⟨(some 2),none,(.asg (.const (.bool false)))⟩]) .ret) .skip))) (.ops [
  ⟨(some 101),none,(.mv (.tmp 7))⟩,
  ⟨(some 102),none,(.bin .add (.tmp 101) (.const (.int .i64 1)))⟩,
  ⟨(some 7),none,(.asg (.tmp 102))⟩]))))))))) (.ops [
  ⟨(some 72),none,(.mv (.tmp 5))⟩,
  ⟨(some 73),none,(.bin .add (.tmp 72) (.const (.int .i64 1)))⟩,
  ⟨(some 5),none,(.asg (.tmp 73))⟩])))))) (.seq (.ops [
  ⟨(some 2),none,(.asg (.const (.bool true)))⟩]) .ret)))))
theorem zN4 {a0 d:D}(h:code_spec_l02Ok.wp (CT Tryz.prog zAr) (zC9 [(.t 2)] d) [a0,.undef,.undef,.undef,.undef,.undef,.undef,.undef,.undef,.undef,.undef,.undef,.undef,.undef,.undef,.undef,.undef,.undef,.undef,.undef,.undef,.undef,.undef,.undef,.undef,.undef,.undef,.undef,.undef,.undef,.undef,.undef,.undef,.undef,.undef,.undef,.undef,.undef,.undef,.undef,.undef,.undef,.undef,.undef,.undef,.undef,.undef,.undef,.undef,.undef,.undef,.undef,.undef,.undef,.undef,.undef,.undef,.undef,.undef,.undef,.undef,.undef,.undef,.undef,.undef,.undef,.undef,.undef,.undef,.undef,.undef,.undef,.undef,.undef,.undef,.undef,.undef,.undef,.undef,.undef,.undef,.undef,.undef,.undef,.undef,.undef,.undef,.undef,.undef,.undef,.undef,.undef,.undef,.undef,.undef,.undef,.undef,.undef,.undef,.undef,.undef,.undef,.undef,.undef,.undef,.undef,.undef,.undef,.undef,.undef,.undef,.undef,.undef,.undef,.undef]):Contract Tryz.prog zAr 15 [a0] d :=
  zAk (pt:=0) zC6 Tryz.func15 (fun us W=>by kernel_rfl) (c:=Tryz.f15.body.getD .skip) (ms:=[(mB 115 41538374868278621028243970633760758),(mB 115 41538374868278621028243970633760734),(mB 115 41538374868278621028243970633760542)]) (ms':=[]) (by kernel_rfl) (by kernel_rfl) (by kernel_rfl) h
set_option maxHeartbeats 4000000 in
theorem yK1 (a:TileSet) (ha:setB a) : Contract Tryz.prog zAr 15 [.iptr (TileSet.td.d false a) 0] (.v (.bool (zD2 a))):=by
  have hag:=ha.g;have hat:=ha.t;rw [TileSet.td_d];refine zN4 ?_;unfold code_spec_l02Ok;by_cases hg:a.Glues.length≤200
  · have f1 : decide ((200:Int)<(a.Glues.length:Int))=false:=decide_eq_false (by omega);by_cases ht:1≤a.Tiles.length
    · have f2 : decide ((a.Tiles.length:Int)<1)=false:=decide_eq_false (by omega);by_cases ht2:a.Tiles.length≤160
      · have f3 : decide ((160:Int)<(a.Tiles.length:Int))=false:=decide_eq_false (by omega);simp -implicitDefEqProofs (disch:=omega) only [go_sem,↓reduceIte ,List.length_map,f1,f2,f3];refine zCm (fun i:Nat=>[.iptr [.sl false 2 (a.Glues.map (Glue.td.d false)),.sl false 2 (a.Tiles.map (Tile.td.d false))] 0,.undef,.undef,.v (.int .i64 i),.undef,.undef,.undef,.undef,.undef,.undef,.undef,.undef,.undef,.undef,.undef,.undef,.undef,.undef,.undef,.undef,.undef,.undef,.undef,.undef,.undef,.undef,.undef,.undef,.undef,.undef,.undef,.undef,.undef,.undef,.undef,.undef,.undef,.undef,.undef,.undef,.undef,.undef,.undef,.undef,.undef,.undef,.undef,.undef,.undef,.undef,.undef,.undef,.undef,.undef,.undef,.undef,.undef,.undef,.undef,.undef,.undef,.undef,.undef,.undef,.undef,.undef,.undef,.undef,.undef,.undef,.undef,.undef,.undef,.undef,.undef,.undef,.undef,.undef,.undef,.undef,.undef,.undef,.undef,.undef,.undef,.undef,.undef,.undef,.undef,.undef,.undef,.undef,.undef,.undef,.undef,.undef,.undef,.undef,.undef,.undef,.undef,.undef,.undef,.undef,.undef,.undef,.undef,.undef,.undef,.undef,.undef,.undef,.undef,.undef,.undef]) (fun i=>i≤a.Glues.length∧(List.range i).all (okG a.Glues)=true) (fun i=>a.Glues.length-i) 0 (zDo) ⟨Nat.zero_le _,rfl⟩ ?_;rintro i ⟨hi,hall⟩;simp -implicitDefEqProofs (disch:=omega) only [go_sem,↓reduceIte ,List.length_map,Int.toNat_natCast,Int.ofNat_lt,Int.natCast_nonneg,List.getElem?_map,Option.map_some];refine zAn ?_ ?_<;>intro hlt
        · have hlt:i<a.Glues.length:=(by simpa using hlt);have e1:=List.getElem?_eq_getElem hlt;have hok:=yKa hlt;simp -implicitDefEqProofs (disch:=omega) only [go_sem,↓reduceIte ,List.length_map,Int.toNat_natCast,Int.ofNat_lt,Int.natCast_nonneg,List.getElem?_map,Option.map_some,hlt,e1,Glue.td_d];refine zAm (zKi _ (ha.gn _ (List.getElem_mem hlt))) (by simp -implicitDefEqProofs (disch:=omega) only [go_sem,↓reduceIte,deep,TD.rows,zAe,zAc,zAf,zAb,zAd,zAa];exact rfl) ?_;simp -implicitDefEqProofs (disch:=omega) only [go_sem,↓reduceIte];refine zAw ?_ ?_<;>intro h1
          · simp -implicitDefEqProofs (disch:=omega) only [go_sem,↓reduceIte ,h1];simp only [Bool.not_eq_true'] at h1;rw [zJs hlt (by rw [hok,h1];rfl)]
          · simp only [Bool.not_eq_false'] at h1;simp -implicitDefEqProofs (disch:=omega) only [go_sem,↓reduceIte ,h1];refine zAm (zJg _ _ _) (by simp -implicitDefEqProofs (disch:=omega) only [go_sem,↓reduceIte,deep,TD.rows,zAe,zAc,zAf,zAb,zAd,zAa];exact rfl) ?_;simp -implicitDefEqProofs (disch:=omega) only [go_sem,↓reduceIte];refine zAw ?_ ?_<;>intro h2
            · simp -implicitDefEqProofs (disch:=omega) only [go_sem,↓reduceIte ,h2];simp only [Bool.not_eq_true'] at h2;rw [zJs hlt (by rw [hok,h1,h2];rfl)]
            · simp only [Bool.not_eq_false'] at h2;simp -implicitDefEqProofs (disch:=omega) only [go_sem,↓reduceIte ,h2];refine zAm (zZp a a.Glues[i].Name hag) (by simp -implicitDefEqProofs (disch:=omega) only [go_sem,↓reduceIte,deep,TD.rows,zAe,zAc,zAf,zAb,zAd,zAa,wrN];exact rfl) ?_;simp -implicitDefEqProofs (disch:=omega) only [go_sem,↓reduceIte ,wrN];have hself:(!decide (yOr a.Glues a.Glues[i].Name+1=((i+1:Nat):Int)))=(a.Glues.take i).any (fun x=>decide (x.Name=a.Glues[i].Name)):=by have h3:decide (yOr a.Glues a.Glues[i].Name+1=((i+1:Nat):Int))=decide (yOr a.Glues a.Glues[i].Name=(i:Int)):=(by rw [decide_eq_decide];omega);have h4:decide (yOr a.Glues a.Glues[i].Name=(i:Int))=!(a.Glues.take i).any (fun x=>decide (x.Name=a.Glues[i].Name)):=zQ9 (fun g:Glue=>g.Name) a.Glues i hlt;rw [h3,h4,Bool.not_not]
              rw [hself];refine zAn ?_ ?_<;>intro h3
              · simp -implicitDefEqProofs (disch:=omega) only [go_sem,↓reduceIte];rw [zJs hlt (by rw [hok,h1,h2,h3];rfl)]
              · simp -implicitDefEqProofs (disch:=omega) only [go_sem,↓reduceIte ,wrN];exact ⟨i+1,by omega,⟨hlt,zGy hall (by rw [hok,h1,h2,h3];rfl)⟩,zDo⟩
        · have hge:i=a.Glues.length:=by have:¬ i<a.Glues.length:=by simpa using hlt
                                        omega
          subst hge;simp -implicitDefEqProofs (disch:=omega) only [go_sem,↓reduceIte];refine zCm (fun i:Nat=>[.iptr [.sl false 2 (a.Glues.map (Glue.td.d false)),.sl false 2 (a.Tiles.map (Tile.td.d false))] 0,.undef,.undef,.undef,.undef,.v (.int .i64 i),.undef,.undef,.undef,.undef,.undef,.undef,.undef,.undef,.undef,.undef,.undef,.undef,.undef,.undef,.undef,.undef,.undef,.undef,.undef,.undef,.undef,.undef,.undef,.undef,.undef,.undef,.undef,.undef,.undef,.undef,.undef,.undef,.undef,.undef,.undef,.undef,.undef,.undef,.undef,.undef,.undef,.undef,.undef,.undef,.undef,.undef,.undef,.undef,.undef,.undef,.undef,.undef,.undef,.undef,.undef,.undef,.undef,.undef,.undef,.undef,.undef,.undef,.undef,.undef,.undef,.undef,.undef,.undef,.undef,.undef,.undef,.undef,.undef,.undef,.undef,.undef,.undef,.undef,.undef,.undef,.undef,.undef,.undef,.undef,.undef,.undef,.undef,.undef,.undef,.undef,.undef,.undef,.undef,.undef,.undef,.undef,.undef,.undef,.undef,.undef,.undef,.undef,.undef,.undef,.undef,.undef,.undef,.undef,.undef]) (fun i=>i≤a.Tiles.length∧(List.range i).all (okT a.Glues.length a.Tiles)=true) (fun i=>a.Tiles.length-i) 0 (zDo) ⟨Nat.zero_le _,rfl⟩ ?_;rintro i ⟨hi,hallT⟩;simp -implicitDefEqProofs (disch:=omega) only [go_sem,↓reduceIte ,List.length_map,Int.toNat_natCast,Int.ofNat_lt,Int.natCast_nonneg,List.getElem?_map,Option.map_some];refine zAn ?_ ?_<;>intro hlt
          · have hlt:i<a.Tiles.length:=(by simpa using hlt);have e1:=List.getElem?_eq_getElem hlt;have hok:okT a.Glues.length a.Tiles i=_:=yJ9 hlt;have hsl:=ha.ts _ (List.getElem_mem hlt);simp -implicitDefEqProofs (disch:=omega) only [go_sem,↓reduceIte ,List.length_map,Int.toNat_natCast,Int.ofNat_lt,Int.natCast_nonneg,List.getElem?_map,Option.map_some,hlt,e1,Tile.td_d];refine zAm (zKi _ (ha.tn _ (List.getElem_mem hlt))) (by simp -implicitDefEqProofs (disch:=omega) only [go_sem,↓reduceIte,deep,TD.rows,zAe,zAc,zAf,zAb,zAd,zAa];exact rfl) ?_;simp -implicitDefEqProofs (disch:=omega) only [go_sem,↓reduceIte];refine zAw ?_ ?_<;>intro h1
            · simp -implicitDefEqProofs (disch:=omega) only [go_sem,↓reduceIte ,h1];simp only [Bool.not_eq_true'] at h1;rw [zF8 hlt (by rw [hok,h1];rfl)]
            · simp only [Bool.not_eq_false'] at h1;simp -implicitDefEqProofs (disch:=omega) only [go_sem,↓reduceIte ,h1,List.length_map];have h4e:decide ((a.Tiles[i].Sides.length:Int)=4)=decide (a.Tiles[i].Sides.length=4):=by rw [decide_eq_decide];omega
              refine zAw ?_ ?_<;>intro h2
              · simp -implicitDefEqProofs (disch:=omega) only [go_sem,↓reduceIte ,h2];simp only [Bool.not_eq_true',h4e] at h2;rw [zF8 hlt (by rw [hok,h1,h2];rfl)]
              · have h2':=h2;simp only [Bool.not_eq_false',h4e] at h2';simp -implicitDefEqProofs (disch:=omega) only [go_sem,↓reduceIte ,h2];refine zAm (zQ1 a a.Tiles[i].Name hat) (by simp -implicitDefEqProofs (disch:=omega) only [go_sem,↓reduceIte,deep,TD.rows,zAe,zAc,zAf,zAb,zAd,zAa];exact rfl) ?_;simp -implicitDefEqProofs (disch:=omega) only [go_sem,↓reduceIte];have h4:decide (zQu a.Tiles a.Tiles[i].Name=(i:Int))=!(a.Tiles.take i).any (fun x=>decide (x.Name=a.Tiles[i].Name)):=zQ9 (fun g:Tile=>g.Name) a.Tiles i hlt;rw [h4,Bool.not_not];refine zAn ?_ ?_<;>intro h3
                · simp -implicitDefEqProofs (disch:=omega) only [go_sem,↓reduceIte];rw [zF8 hlt (by rw [hok,h1,h2',h3];rfl)]
                · have h44:a.Tiles[i].Sides.length=4:=(by simpa using h2');simp -implicitDefEqProofs (disch:=omega) only [go_sem,↓reduceIte];refine zCm (fun k:Nat=>[.iptr [.sl false 2 (a.Glues.map (Glue.td.d false)),.sl false 2 (a.Tiles.map (Tile.td.d false))] 0,.undef,.undef,.undef,.undef,.v (.int .i64 i),.box none [.v (.string a.Tiles[i].Name),.sl false 1 (a.Tiles[i].Sides.map rI)],.v (.int .i64 k),.undef,.undef,.undef,.undef,.undef,.undef,.undef,.undef,.undef,.undef,.undef,.undef,.undef,.undef,.undef,.undef,.undef,.undef,.undef,.undef,.undef,.undef,.undef,.undef,.undef,.undef,.undef,.undef,.undef,.undef,.undef,.undef,.undef,.undef,.undef,.undef,.undef,.undef,.undef,.undef,.undef,.undef,.undef,.undef,.undef,.undef,.undef,.undef,.undef,.undef,.undef,.undef,.undef,.undef,.undef,.undef,.undef,.undef,.undef,.undef,.undef,.undef,.undef,.undef,.undef,.undef,.undef,.undef,.undef,.undef,.undef,.undef,.undef,.undef,.undef,.undef,.undef,.undef,.undef,.undef,.undef,.undef,.undef,.undef,.undef,.undef,.undef,.undef,.undef,.undef,.undef,.undef,.undef,.undef,.undef,.undef,.undef,.undef,.undef,.undef,.undef,.undef,.undef,.undef,.undef,.undef,.undef]) (fun k=>k≤4∧(a.Tiles[i].Sides.take k).all (inR 0 a.Glues.length)=true) (fun k=>4-k) 0 (zDo) ⟨Nat.zero_le _,rfl⟩ ?_;rintro k ⟨hk,hkall⟩;simp -implicitDefEqProofs (disch:=omega) only [go_sem,↓reduceIte ,List.length_map,Int.toNat_natCast,Int.ofNat_lt,Int.natCast_nonneg,List.getElem?_map,Option.map_some];refine zAn ?_ ?_<;>intro hlk
                  · have hlk:k<4:=(by have:=of_decide_eq_true hlk;omega);have hlk':k<a.Tiles[i].Sides.length:=(by omega);have e2:=List.getElem?_eq_getElem hlk';simp -implicitDefEqProofs (disch:=omega) only [go_sem,↓reduceIte ,List.length_map,Int.toNat_natCast,Int.ofNat_lt,Int.natCast_nonneg,List.getElem?_map,Option.map_some,hlk',e2];refine zAm (zJg _ _ _) (by simp -implicitDefEqProofs (disch:=omega) only [go_sem,↓reduceIte,deep,TD.rows,zAe,zAc,zAf,zAb,zAd,zAa];exact rfl) ?_;simp -implicitDefEqProofs (disch:=omega) only [go_sem,↓reduceIte];refine zAn ?_ ?_<;>intro h5
                    · simp -implicitDefEqProofs (disch:=omega) only [go_sem,↓reduceIte];simp only [Bool.not_eq_true'] at h5;have:a.Tiles[i].Sides.all (inR 0 a.Glues.length)=false:=by rw [List.all_eq_false];exact ⟨_,List.getElem_mem hlk',by simp [h5]⟩
                      rw [zF8 hlt (by rw [hok,h1,h2',h3,this];rfl)]
                    · simp only [Bool.not_eq_false'] at h5;simp -implicitDefEqProofs (disch:=omega) only [go_sem,↓reduceIte ,wrN];refine ⟨k+1,by omega,⟨hlk,?_⟩,zDo⟩;rw [List.take_succ_eq_append_getElem hlk',List.all_append,hkall];simp [h5]
                  · have hk4:k=4:=(by have:=of_decide_eq_false hlk;omega);subst hk4;simp -implicitDefEqProofs (disch:=omega) only [go_sem,↓reduceIte ,wrN];rw [List.take_of_length_le (by omega)] at hkall;exact ⟨i+1,by omega,⟨hlt,zGy hallT (by rw [hok,h1,h2',h3,hkall];rfl)⟩,zDo⟩
          · have hge:i=a.Tiles.length:=by have:¬ i<a.Tiles.length:=by simpa using hlt
                                          omega
            subst hge;simp -implicitDefEqProofs (disch:=omega) only [go_sem,↓reduceIte];have hr:inR 1 160 a.Tiles.length=true:=inR_iff.2 ⟨by omega,by omega⟩;unfold zD2;rw [hall,hallT,hr,decide_eq_true hg];rfl
      · have f3:decide ((160:Int)<(a.Tiles.length:Int))=true:=decide_eq_true (by omega);have hr:inR 1 160 a.Tiles.length=false:=(by unfold inR;rw [decide_eq_false (p:=(a.Tiles.length:Int)≤160) (by omega),Bool.and_false]);simp -implicitDefEqProofs (disch:=omega) only [go_sem,↓reduceIte ,List.length_map,f1,f2,f3];unfold zD2;rw [hr,Bool.false_and,Bool.and_false]
    · have f2:decide ((a.Tiles.length:Int)<1)=true:=decide_eq_true (by omega);have hr:inR 1 160 a.Tiles.length=false:=(by unfold inR;rw [decide_eq_false (p:=(1:Int)≤(a.Tiles.length:Int)) (by omega),Bool.false_and]);simp -implicitDefEqProofs (disch:=omega) only [go_sem,↓reduceIte ,List.length_map,f1,f2];unfold zD2;rw [hr,Bool.false_and,Bool.and_false]
  · have f1:decide ((200:Int)<(a.Glues.length:Int))=true:=decide_eq_true (by omega);simp -implicitDefEqProofs (disch:=omega) only [go_sem,↓reduceIte ,List.length_map,f1];unfold zD2;rw [decide_eq_false hg,Bool.false_and]
def code_impl_ValidSet:VCode:=(.seq (.ops [
  ⟨(some 1),none,(.box (.tmp 0))⟩,
  ⟨(some 2),none,(.asg (.const (.bool false)))⟩]) (.seq (.seq (.ops [
  ⟨(some 9),none,(.fa 0 (.tmp 1))⟩,
  ⟨(some 10),none,(.load 1 false (.tmp 9))⟩,
  ⟨(some 11),none,(.len (.tmp 10))⟩,
  ⟨(some 12),none,(.bin .gtr (.tmp 11) (.const (.int .i64 200)))⟩,
  ⟨(some 13),none,(.mv (.tmp 12))⟩,
  ⟨(some 14),(some (13,false)),(.fa 1 (.tmp 1))⟩,
  ⟨(some 15),(some (13,false)),(.load 1 false (.tmp 14))⟩,
  ⟨(some 16),(some (13,false)),(.len (.tmp 15))⟩,
  ⟨(some 17),(some (13,false)),(.callX 69 [(.tmp 16),(.const (.int .i64 1)),(.const (.int .i64 160))])⟩,
  ⟨(some 18),(some (13,false)),(.un .not (.tmp 17))⟩,
  ⟨(some 19),none,(.pick (.tmp 13) (.const (.bool true)) (.tmp 18))⟩]) (.cond (.tmp 19) (.seq (.ops [
  ⟨(some 2),none,(.asg (.const (.bool false)))⟩]) .ret) .skip)) (.seq (.ops [
  ⟨(some 20),none,(.mkm .str)⟩,
  ⟨(some 3),none,(.asg (.tmp 20))⟩]) (.seq (.seq (.ops [
  ⟨(some 21),none,(.fa 0 (.tmp 1))⟩,
  ⟨(some 22),none,(.load 1 false (.tmp 21))⟩,
  ⟨(some 23),none,(.len (.tmp 22))⟩,
  ⟨(some 24),none,(.mv (.const (.int .i64 0)))⟩]) (.block 0 (.loop (mB 80 1208925819614629142200309) (.seq (.ops [
  ⟨(some 25),none,(.bin .lss (.tmp 24) (.tmp 23))⟩]) (.seq (.cond (.tmp 25) .skip (.exit 0)) (.seq (.block 1 (.seq (.ops [
  ⟨(some 26),none,(.ia 2 (.tmp 22) (.tmp 24))⟩,
  ⟨(some 27),none,(.load 2 true (.tmp 26))⟩,
  ⟨(some 5),none,(.alloc [(.string ⟨⟨[]⟩⟩),(.int .i64 0)])⟩,
  ⟨none,none,(.store 2 (.tmp 5) (.tmp 27))⟩]) (.seq (.seq (.ops [
  ⟨(some 28),none,(.fa 0 (.tmp 5))⟩,
  ⟨(some 29),none,(.load 1 false (.tmp 28))⟩,
  ⟨(some 30),none,(.callX 70 [(.tmp 29)])⟩,
  ⟨(some 31),none,(.un .not (.tmp 30))⟩,
  ⟨(some 32),none,(.mv (.tmp 31))⟩,
  ⟨(some 33),(some (32,false)),(.mv (.tmp 3))⟩,
  ⟨(some 34),(some (32,false)),(.fa 0 (.tmp 5))⟩,
  ⟨(some 35),(some (32,false)),(.load 1 false (.tmp 34))⟩,
  ⟨(some 36),(some (32,false)),(.mlk .str (.bool false) false (.tmp 33) (.tmp 35))⟩,
  ⟨(some 37),none,(.pick (.tmp 32) (.const (.bool true)) (.tmp 36))⟩,
  ⟨(some 38),none,(.mv (.tmp 37))⟩,
  ⟨(some 39),(some (38,false)),(.fa 1 (.tmp 5))⟩,
  ⟨(some 40),(some (38,false)),(.load 1 false (.tmp 39))⟩,
  ⟨(some 41),(some (38,false)),(.callX 69 [(.tmp 40),(.const (.int .i64 1)),(.const (.int .i64 4))])⟩,
  ⟨(some 42),(some (38,false)),(.un .not (.tmp 41))⟩,
  ⟨(some 43),none,(.pick (.tmp 38) (.const (.bool true)) (.tmp 42))⟩]) (.cond (.tmp 43) (.seq (.ops [
  ⟨(some 2),none,(.asg (.const (.bool false)))⟩]) .ret) .skip)) (.ops [
  ⟨(some 44),none,(.mv (.tmp 3))⟩,
  ⟨(some 45),none,(.fa 0 (.tmp 5))⟩,
  ⟨(some 46),none,(.load 1 false (.tmp 45))⟩,
  ⟨none,none,(.mupd .str (.tmp 44) (.tmp 46) (.const (.bool true)))⟩])))) (.ops [
  ⟨(some 47),none,(.bin .add (.tmp 24) (.const (.int .i64 1)))⟩,
  ⟨(some 24),none,(.mv (.tmp 47))⟩]))))))) (.seq (.ops [
  ⟨(some 48),none,(.mkm .str)⟩,
  ⟨(some 6),none,(.asg (.tmp 48))⟩]) (.seq (.seq (.ops [
  ⟨(some 49),none,(.fa 1 (.tmp 1))⟩,
  ⟨(some 50),none,(.load 1 false (.tmp 49))⟩,
  ⟨(some 51),none,(.len (.tmp 50))⟩,
  ⟨(some 52),none,(.mv (.const (.int .i64 0)))⟩]) (.block 2 (.loop (mB 80 1208925810888904896675773) (.seq (.ops [
  ⟨(some 53),none,(.bin .lss (.tmp 52) (.tmp 51))⟩]) (.seq (.cond (.tmp 53) .skip (.exit 2)) (.seq (.block 3 (.seq (.ops [
  ⟨(some 54),none,(.ia 2 (.tmp 50) (.tmp 52))⟩,
  ⟨(some 55),none,(.load 2 true (.tmp 54))⟩,
  ⟨(some 8),none,(.alloc [(.string ⟨⟨[]⟩⟩),(.slice none 0 0)])⟩,
  ⟨none,none,(.store 2 (.tmp 8) (.tmp 55))⟩]) (.seq (.seq (.ops [
  ⟨(some 56),none,(.fa 0 (.tmp 8))⟩,
  ⟨(some 57),none,(.load 1 false (.tmp 56))⟩,
  ⟨(some 58),none,(.callX 70 [(.tmp 57)])⟩,
  ⟨(some 59),none,(.un .not (.tmp 58))⟩,
  ⟨(some 60),none,(.mv (.tmp 59))⟩,
  ⟨(some 61),(some (60,false)),(.mv (.tmp 6))⟩,
  ⟨(some 62),(some (60,false)),(.fa 0 (.tmp 8))⟩,
  ⟨(some 63),(some (60,false)),(.load 1 false (.tmp 62))⟩,
  ⟨(some 64),(some (60,false)),(.mlk .str (.bool false) false (.tmp 61) (.tmp 63))⟩,
  ⟨(some 65),none,(.pick (.tmp 60) (.const (.bool true)) (.tmp 64))⟩,
  ⟨(some 66),none,(.mv (.tmp 65))⟩,
  ⟨(some 67),(some (66,false)),(.fa 1 (.tmp 8))⟩,
  ⟨(some 68),(some (66,false)),(.load 1 false (.tmp 67))⟩,
  ⟨(some 69),(some (66,false)),(.len (.tmp 68))⟩,
  ⟨(some 70),(some (66,false)),(.bin .neq (.tmp 69) (.const (.int .i64 4)))⟩,
  ⟨(some 71),none,(.pick (.tmp 66) (.const (.bool true)) (.tmp 70))⟩]) (.cond (.tmp 71) (.seq (.ops [
  ⟨(some 2),none,(.asg (.const (.bool false)))⟩]) .ret) .skip)) (.seq (.ops [
  ⟨(some 72),none,(.mv (.tmp 6))⟩,
  ⟨(some 73),none,(.fa 0 (.tmp 8))⟩,
  ⟨(some 74),none,(.load 1 false (.tmp 73))⟩,
  ⟨none,none,(.mupd .str (.tmp 72) (.tmp 74) (.const (.bool true)))⟩]) (.seq (.ops [
  ⟨(some 75),none,(.fa 1 (.tmp 8))⟩,
  ⟨(some 76),none,(.load 1 false (.tmp 75))⟩,
  ⟨(some 77),none,(.mkf 72 [] [(.tmp 1)])⟩,
  ⟨(some 78),none,(.callX 71 [(.tmp 76),(.tmp 77)])⟩]) (.cond (.tmp 78) (.seq (.ops [
  ⟨(some 2),none,(.asg (.const (.bool false)))⟩]) .ret) .skip)))))) (.ops [
  ⟨(some 79),none,(.bin .add (.tmp 52) (.const (.int .i64 1)))⟩,
  ⟨(some 52),none,(.mv (.tmp 79))⟩]))))))) (.seq (.ops [
  ⟨(some 2),none,(.asg (.const (.bool true)))⟩]) .ret)))))))
theorem zJ8 {a0 d:D}(h:code_impl_ValidSet.wp (CT Tryz.prog zAr) (zC9 [(.t 2)] d) [a0,.undef,.undef,.undef,.undef,.undef,.undef,.undef,.undef,.undef,.undef,.undef,.undef,.undef,.undef,.undef,.undef,.undef,.undef,.undef,.undef,.undef,.undef,.undef,.undef,.undef,.undef,.undef,.undef,.undef,.undef,.undef,.undef,.undef,.undef,.undef,.undef,.undef,.undef,.undef,.undef,.undef,.undef,.undef,.undef,.undef,.undef,.undef,.undef,.undef,.undef,.undef,.undef,.undef,.undef,.undef,.undef,.undef,.undef,.undef,.undef,.undef,.undef,.undef,.undef,.undef,.undef,.undef,.undef,.undef,.undef,.undef,.undef,.undef,.undef,.undef,.undef,.undef,.undef,.undef]):Contract Tryz.prog zAr 45 [a0] d :=
  zAk (pt:=0) zC6 Tryz.func45 (fun us W=>by kernel_rfl) (c:=Tryz.f45.body.getD .skip) (ms:=[(mB 80 1208925819614629142200309),(mB 80 1208925810888904896675773)]) (ms':=[]) (by kernel_rfl) (by kernel_rfl) (by kernel_rfl) h
def code_impl_ValidSet_1:VCode:=(.seq (.ops [
  ⟨(some 3),none,(.asg (.const (.bool false)))⟩]) (.seq (.ops [
  ⟨(some 4),none,(.mv (.tmp 0))⟩,
  ⟨(some 5),none,(.fa 0 (.tmp 1))⟩,
  ⟨(some 6),none,(.load 1 false (.tmp 5))⟩,
  ⟨(some 7),none,(.len (.tmp 6))⟩,
  ⟨(some 8),none,(.callX 69 [(.tmp 4),(.const (.int .i64 0)),(.tmp 7)])⟩,
  ⟨(some 9),none,(.un .not (.tmp 8))⟩,
  ⟨(some 3),none,(.asg (.tmp 9))⟩]) .ret))
theorem zHk {a0 a1 d:D}(h:code_impl_ValidSet_1.wp (CT Tryz.prog zAr) (zC9 [(.t 3)] d) [a0,a1,.undef,.undef,.undef,.undef,.undef,.undef,.undef,.undef]):Contract Tryz.prog zAr 72 [a0,a1] d :=
  zAk (pt:=0) zC6 Tryz.func72 (fun us W=>by kernel_rfl) (c:=Tryz.f72.body.getD .skip) (ms:=[]) (ms':=[]) (by kernel_rfl) (by kernel_rfl) (by kernel_rfl) h
theorem zTb (n:Int)(l:Nat)(gs ts:List (List D))(hl:gs.length=l):Contract Tryz.prog zAr 72 [.v (.int .i64 n),.iptr [.sl false 2 gs,.sl false 2 ts] 0] (.v (.bool (!inR 0 l n))):=by refine zHk ?_;unfold code_impl_ValidSet_1;simp -implicitDefEqProofs (disch:=omega) only [go_sem,↓reduceIte ,hl];refine zAm (zGm _ _ _) (by simp -implicitDefEqProofs (disch:=omega) only [go_sem,↓reduceIte,deep,TD.rows,zAe,zAc,zAf,zAb,zAd,zAa];exact rfl) ?_;simp -implicitDefEqProofs (disch:=omega) only [go_sem,↓reduceIte]
set_option maxHeartbeats 4000000 in
theorem zWv (a:TileSet) (ha:setB a):Contract Tryz.prog zAr 45 [.agg (TileSet.td.d false a)] (.v (.bool (zD2 a))):=by
  have hag:=ha.g;have hat:=ha.t;rw [TileSet.td_d];refine zJ8 ?_;unfold code_impl_ValidSet;by_cases hg:a.Glues.length≤200
  · have f1 : decide ((200:Int)<(a.Glues.length:Int))=false:=decide_eq_false (by omega);simp -implicitDefEqProofs (disch:=omega) only [go_sem,↓reduceIte ,List.length_map,f1];refine zAm (zGm _ _ _) (by simp -implicitDefEqProofs (disch:=omega) only [go_sem,↓reduceIte,deep,TD.rows,zAe,zAc,zAf,zAb,zAd,zAa];exact rfl) ?_;simp -implicitDefEqProofs (disch:=omega) only [go_sem,↓reduceIte];refine zAn ?_ ?_<;>intro hr
    · simp -implicitDefEqProofs (disch:=omega) only [go_sem,↓reduceIte];simp only [Bool.not_eq_true'] at hr;unfold zD2;rw [hr,Bool.false_and,Bool.and_false]
    · simp only [Bool.not_eq_false'] at hr; simp -implicitDefEqProofs (disch:=omega) only [go_sem,↓reduceIte ,List.length_map];refine zCm (fun i:Nat=>[.undef,.box none [.sl false 2 (a.Glues.map (Glue.td.d false)),.sl false 2 (a.Tiles.map (Tile.td.d false))],.undef,.mp .str (zQf (fun g:Glue=>g.Name) (a.Glues.take i)),.undef,.undef,.undef,.undef,.undef,.undef,.undef,.undef,.undef,.undef,.undef,.undef,.undef,.undef,.undef,.undef,.undef,.ptr 1 [] 0 0,.sl false 2 (a.Glues.map (Glue.td.d false)),.v (.int .i64 a.Glues.length),.v (.int .i64 i),.undef,.undef,.undef,.undef,.undef,.undef,.undef,.undef,.undef,.undef,.undef,.undef,.undef,.undef,.undef,.undef,.undef,.undef,.undef,.undef,.undef,.undef,.undef,.undef,.undef,.undef,.undef,.undef,.undef,.undef,.undef,.undef,.undef,.undef,.undef,.undef,.undef,.undef,.undef,.undef,.undef,.undef,.undef,.undef,.undef,.undef,.undef,.undef,.undef,.undef,.undef,.undef,.undef,.undef,.undef]) (fun i=>i≤a.Glues.length∧(List.range i).all (okG a.Glues)=true) (fun i=>a.Glues.length-i) 0 (zDo) ⟨Nat.zero_le _,rfl⟩ ?_;rintro i ⟨hi,hall⟩;simp -implicitDefEqProofs (disch:=omega) only [go_sem,↓reduceIte ,List.length_map,Int.toNat_natCast,Int.ofNat_lt,Int.natCast_nonneg,List.getElem?_map,Option.map_some];refine zAn ?_ ?_<;>intro hlt
      · have hlt:i<a.Glues.length:=(by simpa using hlt);have e1:=List.getElem?_eq_getElem hlt;have hok:=yKa hlt;have hget:=yCe (fun g:Glue=>g.Name) a.Glues[i].Name (a.Glues.take i);simp -implicitDefEqProofs (disch:=omega) only [go_sem,↓reduceIte ,List.length_map,Int.toNat_natCast,Int.ofNat_lt,Int.natCast_nonneg,List.getElem?_map,Option.map_some,hlt,e1,Glue.td_d];refine zAm (zKj _ (ha.gn _ (List.getElem_mem hlt))) (by simp -implicitDefEqProofs (disch:=omega) only [go_sem,↓reduceIte,deep,TD.rows,zAe,zAc,zAf,zAb,zAd,zAa];exact rfl) ?_;simp -implicitDefEqProofs (disch:=omega) only [go_sem,↓reduceIte];refine zAw ?_ ?_<;>intro h1
        · simp -implicitDefEqProofs (disch:=omega) only [go_sem,↓reduceIte ,h1];simp only [Bool.not_eq_true'] at h1;rw [zJs hlt (by rw [hok,h1];rfl)]
        · simp only [Bool.not_eq_false'] at h1;by_cases h3:(a.Glues.take i).any (fun x=>decide (x.Name=a.Glues[i].Name))=true
          · rw [if_pos h3] at hget;simp -implicitDefEqProofs (disch:=omega) only [go_sem,↓reduceIte ,h1,hget];rw [zJs hlt (by rw [hok,h1,h3];simp)]
          · rw [if_neg h3] at hget;have h3:(a.Glues.take i).any (fun x=>decide (x.Name=a.Glues[i].Name))=false:=by simpa using h3
            have hset:=yKb (fun g:Glue=>g.Name) (a.Glues.take i) a.Glues[i] h3;rw [zRa hlt] at hset;simp -implicitDefEqProofs (disch:=omega) only [go_sem,↓reduceIte ,h1,hget];refine zAm (zGm _ _ _) (by simp -implicitDefEqProofs (disch:=omega) only [go_sem,↓reduceIte,deep,TD.rows,zAe,zAc,zAf,zAb,zAd,zAa];exact rfl) ?_;simp -implicitDefEqProofs (disch:=omega) only [go_sem,↓reduceIte];refine zAn ?_ ?_<;>intro h2
            · simp -implicitDefEqProofs (disch:=omega) only [go_sem,↓reduceIte];simp only [Bool.not_eq_true'] at h2;rw [zJs hlt (by rw [hok,h1,h2];rfl)]
            · simp only [Bool.not_eq_false'] at h2;simp -implicitDefEqProofs (disch:=omega) only [go_sem,↓reduceIte ,wrN,hset];exact ⟨i+1,by omega,⟨hlt,zGy hall (by rw [hok,h1,h2,h3];rfl)⟩,zDo⟩
      · have hge:i=a.Glues.length:=by have:¬ i<a.Glues.length:=by simpa using hlt
                                      omega
        subst hge;simp -implicitDefEqProofs (disch:=omega) only [go_sem,↓reduceIte ,List.length_map];refine zCm (fun i:Nat=>[.undef,.box none [.sl false 2 (a.Glues.map (Glue.td.d false)),.sl false 2 (a.Tiles.map (Tile.td.d false))],.undef,.undef,.undef,.undef,.mp .str (zQf (fun g:Tile=>g.Name) (a.Tiles.take i)),.undef,.undef,.undef,.undef,.undef,.undef,.undef,.undef,.undef,.undef,.undef,.undef,.undef,.undef,.undef,.undef,.undef,.undef,.undef,.undef,.undef,.undef,.undef,.undef,.undef,.undef,.undef,.undef,.undef,.undef,.undef,.undef,.undef,.undef,.undef,.undef,.undef,.undef,.undef,.undef,.undef,.undef,.ptr 1 [] 0 1,.sl false 2 (a.Tiles.map (Tile.td.d false)),.v (.int .i64 a.Tiles.length),.v (.int .i64 i),.undef,.undef,.undef,.undef,.undef,.undef,.undef,.undef,.undef,.undef,.undef,.undef,.undef,.undef,.undef,.undef,.undef,.undef,.undef,.undef,.undef,.undef,.undef,.undef,.undef,.undef,.undef]) (fun i=>i≤a.Tiles.length∧(List.range i).all (okT a.Glues.length a.Tiles)=true) (fun i=>a.Tiles.length-i) 0 (zDo) ⟨Nat.zero_le _,rfl⟩ ?_;rintro i ⟨hi,hallT⟩;simp -implicitDefEqProofs (disch:=omega) only [go_sem,↓reduceIte ,List.length_map,Int.toNat_natCast,Int.ofNat_lt,Int.natCast_nonneg,List.getElem?_map,Option.map_some];refine zAn ?_ ?_<;>intro hlt
        · have hlt:i<a.Tiles.length:=(by simpa using hlt);have e1:=List.getElem?_eq_getElem hlt;have hok:okT a.Glues.length a.Tiles i=_:=yJ9 hlt;have hsl:=ha.ts _ (List.getElem_mem hlt);have hget:=yCe (fun g:Tile=>g.Name) a.Tiles[i].Name (a.Tiles.take i);simp -implicitDefEqProofs (disch:=omega) only [go_sem,↓reduceIte ,List.length_map,Int.toNat_natCast,Int.ofNat_lt,Int.natCast_nonneg,List.getElem?_map,Option.map_some,hlt,e1,Tile.td_d];refine zAm (zKj _ (ha.tn _ (List.getElem_mem hlt))) (by simp -implicitDefEqProofs (disch:=omega) only [go_sem,↓reduceIte,deep,TD.rows,zAe,zAc,zAf,zAb,zAd,zAa];exact rfl) ?_;simp -implicitDefEqProofs (disch:=omega) only [go_sem,↓reduceIte];refine zAw ?_ ?_<;>intro h1
          · simp -implicitDefEqProofs (disch:=omega) only [go_sem,↓reduceIte ,h1];simp only [Bool.not_eq_true'] at h1;rw [zF8 hlt (by rw [hok,h1];rfl)]
          · simp only [Bool.not_eq_false'] at h1;by_cases h3:(a.Tiles.take i).any (fun x=>decide (x.Name=a.Tiles[i].Name))=true
            · rw [if_pos h3] at hget;simp -implicitDefEqProofs (disch:=omega) only [go_sem,↓reduceIte ,h1,hget];rw [zF8 hlt (by rw [hok,h1,h3];simp)]
            · rw [if_neg h3] at hget;have h3:(a.Tiles.take i).any (fun x=>decide (x.Name=a.Tiles[i].Name))=false:=by simpa using h3
              have hset:=yKb (fun g:Tile=>g.Name) (a.Tiles.take i) a.Tiles[i] h3;rw [zRa hlt] at hset;simp -implicitDefEqProofs (disch:=omega) only [go_sem,↓reduceIte ,h1,hget,List.length_map];have h4e:decide ((a.Tiles[i].Sides.length:Int)=4)=decide (a.Tiles[i].Sides.length=4):=(by rw [decide_eq_decide];omega);rw [h4e];refine zAn ?_ ?_<;>intro h2
              · simp -implicitDefEqProofs (disch:=omega) only [go_sem,↓reduceIte];simp only [Bool.not_eq_true'] at h2;rw [zF8 hlt (by rw [hok,h1,h2];rfl)]
              · simp only [Bool.not_eq_false'] at h2;simp -implicitDefEqProofs (disch:=omega) only [go_sem,↓reduceIte ,hset];refine zAm (zGz _ [.iptr [.sl false 2 (a.Glues.map (Glue.td.d false)),.sl false 2 (a.Tiles.map (Tile.td.d false))] 0] ⟨rfl,fun _=>rfl,fun _=>rfl,fun _=>rfl⟩ a.Tiles[i].Sides (fun n=>!inR 0 a.Glues.length n) (fun x _=>zTb x a.Glues.length _ _ (by rw [List.length_map])) (by omega)) (by simp -implicitDefEqProofs (disch:=omega) only [go_sem,↓reduceIte,deep,TD.rows,zAe,zAc,zAf,zAb,zAd,zAa];exact rfl) ?_;simp -implicitDefEqProofs (disch:=omega) only [go_sem,↓reduceIte];have hall4:a.Tiles[i].Sides.all (inR 0 a.Glues.length)=!(a.Tiles[i].Sides.any fun n=>!inR 0 a.Glues.length n):=List.all_eq_not_any_not;refine zAn ?_ ?_<;>intro h5
                · simp -implicitDefEqProofs (disch:=omega) only [go_sem,↓reduceIte];rw [zF8 hlt (by rw [hok,h1,h2,h3,hall4,h5];rfl)]
                · simp -implicitDefEqProofs (disch:=omega) only [go_sem,↓reduceIte ,wrN];exact ⟨i+1,by omega,⟨hlt,zGy hallT (by rw [hok,h1,h2,h3,hall4,h5];rfl)⟩,zDo⟩
        · have hge:i=a.Tiles.length:=by have:¬ i<a.Tiles.length:=by simpa using hlt
                                        omega
          subst hge;simp -implicitDefEqProofs (disch:=omega) only [go_sem,↓reduceIte];unfold zD2;rw [hall,hallT,hr,decide_eq_true hg];rfl
  · have f1:decide ((200:Int)<(a.Glues.length:Int))=true:=decide_eq_true (by omega);simp -implicitDefEqProofs (disch:=omega) only [go_sem,↓reduceIte ,List.length_map,f1];unfold zD2;rw [decide_eq_false hg,Bool.false_and]
def yKj (a b:Int):Int:=if a<b then -1 else if b<a then 1 else 0
def yDo (a b:Point):Int:=if yKj a.Y b.Y=0 then yKj a.X b.X else yKj a.Y b.Y
def zB6 (a b:Point):Bool:=decide (a.Y<b.Y)||(decide (a.Y=b.Y)&&decide (a.X<b.X))
theorem zQi (a b:Point):decide (yDo a b<0)=zB6 a b:=by rw [Bool.eq_iff_iff];simp only [yDo,yKj,zB6,Bool.or_eq_true,Bool.and_eq_true,decide_eq_true_eq];by_cases h1:a.Y<b.Y<;>by_cases h2:b.Y<a.Y<;>by_cases h3:a.X<b.X<;>by_cases h4:b.X<a.X<;>simp [h1,h2,h3,h4]<;>omega
def bsF (f:Nat→Bool):Nat→Nat→Nat→Nat
  | 0,i,_=>i
  | n+1,i,j=>if i<j then (if f ((i+j) / 2) then bsF f n ((i+j) / 2+1) j else bsF f n i ((i+j) / 2)) else i
theorem yD0 {f:Nat→Bool}{n i j:Nat}(h:¬ i<j):bsF f n i j=i:=by
  cases n with
  | zero=>rfl
  | succ n=>simp [bsF,h]
def zOx (xs:List Point)(p:Point)(k:Nat):Bool:=match xs[k]? with
  | some x=>zB6 x p
  | none=>false
def bsP (xs:List Point)(p:Point):Nat:=bsF (zOx xs p) xs.length 0 xs.length
def code_spec_LessPoint:VCode:=(.seq (.ops [
  ⟨(some 2),none,(.box (.tmp 0))⟩,
  ⟨(some 3),none,(.box (.tmp 1))⟩,
  ⟨(some 4),none,(.asg (.const (.bool false)))⟩]) (.seq (.ops [
  ⟨(some 5),none,(.fa 1 (.tmp 2))⟩,
  ⟨(some 6),none,(.load 1 false (.tmp 5))⟩,
  ⟨(some 7),none,(.fa 1 (.tmp 3))⟩,
  ⟨(some 8),none,(.load 1 false (.tmp 7))⟩,
  ⟨(some 9),none,(.bin .lss (.tmp 6) (.tmp 8))⟩,
  ⟨(some 10),none,(.mv (.tmp 9))⟩,
  ⟨(some 11),(some (10,false)),(.fa 1 (.tmp 2))⟩,
  ⟨(some 12),(some (10,false)),(.load 1 false (.tmp 11))⟩,
  ⟨(some 13),(some (10,false)),(.fa 1 (.tmp 3))⟩,
  ⟨(some 14),(some (10,false)),(.load 1 false (.tmp 13))⟩,
  ⟨(some 15),(some (10,false)),(.bin .eql (.tmp 12) (.tmp 14))⟩,
  ⟨(some 16),(some (10,false)),(.mv (.tmp 15))⟩,
  ⟨(some 17),(some (16,true)),(.fa 0 (.tmp 2))⟩,
  ⟨(some 18),(some (16,true)),(.load 1 false (.tmp 17))⟩,
  ⟨(some 19),(some (16,true)),(.fa 0 (.tmp 3))⟩,
  ⟨(some 20),(some (16,true)),(.load 1 false (.tmp 19))⟩,
  ⟨(some 21),(some (16,true)),(.bin .lss (.tmp 18) (.tmp 20))⟩,
  ⟨(some 22),(some (10,false)),(.pick (.tmp 16) (.tmp 21) (.const (.bool false)))⟩,
  ⟨(some 23),none,(.pick (.tmp 10) (.const (.bool true)) (.tmp 22))⟩,
  ⟨(some 4),none,(.asg (.tmp 23))⟩]) .ret))
theorem zIn {a0 a1 d:D}(h:code_spec_LessPoint.wp (CT Tryz.prog zAr) (zC9 [(.t 4)] d) [a0,a1,.undef,.undef,.undef,.undef,.undef,.undef,.undef,.undef,.undef,.undef,.undef,.undef,.undef,.undef,.undef,.undef,.undef,.undef,.undef,.undef,.undef,.undef]):Contract Tryz.prog zAr 67 [a0,a1] d :=
  zAk (pt:=0) zC6 Tryz.func67 (fun us W=>by kernel_rfl) (c:=Tryz.f67.body.getD .skip) (ms:=[]) (ms':=[]) (by kernel_rfl) (by kernel_rfl) (by kernel_rfl) h
theorem zFp (a b:Point):Contract Tryz.prog zAr 67 [.agg (Point.td.d false a),.agg (Point.td.d false b)] (.v (.bool (zB6 a b))):=by
  rw [Point.td_d,Point.td_d];refine zIn ?_;unfold code_spec_LessPoint zB6;simp -implicitDefEqProofs (disch:=omega) only [go_sem,↓reduceIte]
  repeat' (first | (refine zAw ?_ ?_<;>intro h<;>try (simp -implicitDefEqProofs (disch:=omega) only [go_sem,↓reduceIte,h])) | (refine zLu ?_ ?_<;>intro h<;>try (simp -implicitDefEqProofs (disch:=omega) only [go_sem,↓reduceIte,h])) | (refine zAn ?_ ?_<;>intro h<;>try (simp -implicitDefEqProofs (disch:=omega) only [go_sem,↓reduceIte,h])))
  all_goals simp_all
def yBp (p:Point):Bool:=inR (-60) 60 p.X&&inR (-60) 60 p.Y
def code_impl_ValidPoint:VCode:=(.seq (.ops [
  ⟨(some 1),none,(.box (.tmp 0))⟩,
  ⟨(some 2),none,(.asg (.const (.bool false)))⟩]) (.seq (.ops [
  ⟨(some 3),none,(.fa 0 (.tmp 1))⟩,
  ⟨(some 4),none,(.load 1 false (.tmp 3))⟩,
  ⟨(some 5),none,(.callX 69 [(.tmp 4),(.const (.int .i64 (-60))),(.const (.int .i64 60))])⟩,
  ⟨(some 6),none,(.mv (.tmp 5))⟩,
  ⟨(some 7),(some (6,true)),(.fa 1 (.tmp 1))⟩,
  ⟨(some 8),(some (6,true)),(.load 1 false (.tmp 7))⟩,
  ⟨(some 9),(some (6,true)),(.callX 69 [(.tmp 8),(.const (.int .i64 (-60))),(.const (.int .i64 60))])⟩,
  ⟨(some 10),none,(.pick (.tmp 6) (.tmp 9) (.const (.bool false)))⟩,
  ⟨(some 2),none,(.asg (.tmp 10))⟩]) .ret))
theorem zHl {a0 d:D}(h:code_impl_ValidPoint.wp (CT Tryz.prog zAr) (zC9 [(.t 2)] d) [a0,.undef,.undef,.undef,.undef,.undef,.undef,.undef,.undef,.undef,.undef]):Contract Tryz.prog zAr 83 [a0] d :=
  zAk (pt:=0) zC6 Tryz.func83 (fun us W=>by kernel_rfl) (c:=Tryz.f83.body.getD .skip) (ms:=[]) (ms':=[]) (by kernel_rfl) (by kernel_rfl) (by kernel_rfl) h
theorem zQ3 (p:Point):Contract Tryz.prog zAr 83 [.agg (Point.td.d false p)] (.v (.bool (yBp p))):=by
  rw [Point.td_d];refine zHl ?_;unfold code_impl_ValidPoint yBp;simp -implicitDefEqProofs (disch:=omega) only [go_sem,↓reduceIte];refine zAm (zGm _ _ _) (by simp -implicitDefEqProofs (disch:=omega) only [go_sem,↓reduceIte,deep,TD.rows,zAe,zAc,zAf,zAb,zAd,zAa];exact rfl) ?_;simp -implicitDefEqProofs (disch:=omega) only [go_sem,↓reduceIte];refine zAw ?_ ?_<;>intro h
  · simp -implicitDefEqProofs (disch:=omega) only [go_sem,↓reduceIte ,h];refine zAm (zGm _ _ _) (by simp -implicitDefEqProofs (disch:=omega) only [go_sem,↓reduceIte,deep,TD.rows,zAe,zAc,zAf,zAb,zAd,zAa,h];exact rfl) ?_;simp -implicitDefEqProofs (disch:=omega) only [go_sem,↓reduceIte ,h]
  · simp -implicitDefEqProofs (disch:=omega) only [go_sem,↓reduceIte ,h]
def code_spec_l01Point:VCode:=(.seq (.ops [
  ⟨(some 1),none,(.box (.tmp 0))⟩,
  ⟨(some 2),none,(.asg (.const (.bool false)))⟩]) (.seq (.ops [
  ⟨(some 3),none,(.fa 0 (.tmp 1))⟩,
  ⟨(some 4),none,(.load 1 false (.tmp 3))⟩,
  ⟨(some 5),none,(.callX 36 [(.tmp 4),(.const (.int .i64 (-60))),(.const (.int .i64 60))])⟩,
  ⟨(some 6),none,(.mv (.tmp 5))⟩,
  ⟨(some 7),(some (6,true)),(.fa 1 (.tmp 1))⟩,
  ⟨(some 8),(some (6,true)),(.load 1 false (.tmp 7))⟩,
  ⟨(some 9),(some (6,true)),(.callX 36 [(.tmp 8),(.const (.int .i64 (-60))),(.const (.int .i64 60))])⟩,
  ⟨(some 10),none,(.pick (.tmp 6) (.tmp 9) (.const (.bool false)))⟩,
  ⟨(some 2),none,(.asg (.tmp 10))⟩]) .ret))
theorem zJ3 {a0 d:D}(h:code_spec_l01Point.wp (CT Tryz.prog zAr) (zC9 [(.t 2)] d) [a0,.undef,.undef,.undef,.undef,.undef,.undef,.undef,.undef,.undef,.undef]):Contract Tryz.prog zAr 66 [a0] d :=
  zAk (pt:=0) zC6 Tryz.func66 (fun us W=>by kernel_rfl) (c:=Tryz.f66.body.getD .skip) (ms:=[]) (ms':=[]) (by kernel_rfl) (by kernel_rfl) (by kernel_rfl) h
theorem zWu (p:Point):Contract Tryz.prog zAr 66 [.agg (Point.td.d false p)] (.v (.bool (yBp p))):=by
  rw [Point.td_d];refine zJ3 ?_;unfold code_spec_l01Point yBp;simp -implicitDefEqProofs (disch:=omega) only [go_sem,↓reduceIte];refine zAm (zJg _ _ _) (by simp -implicitDefEqProofs (disch:=omega) only [go_sem,↓reduceIte,deep,TD.rows,zAe,zAc,zAf,zAb,zAd,zAa];exact rfl) ?_;simp -implicitDefEqProofs (disch:=omega) only [go_sem,↓reduceIte];refine zAw ?_ ?_<;>intro h
  · simp -implicitDefEqProofs (disch:=omega) only [go_sem,↓reduceIte ,h];refine zAm (zJg _ _ _) (by simp -implicitDefEqProofs (disch:=omega) only [go_sem,↓reduceIte,deep,TD.rows,zAe,zAc,zAf,zAb,zAd,zAa,h];exact rfl) ?_;simp -implicitDefEqProofs (disch:=omega) only [go_sem,↓reduceIte ,h]
  · simp -implicitDefEqProofs (disch:=omega) only [go_sem,↓reduceIte ,h]
def code_slices_IndexFunc_impl_Placed_impl_Placed:VCode:=(.seq (.ops [
  ⟨(some 4),none,(.asg (.const (.int .i64 0)))⟩]) (.seq (.seq (.ops [
  ⟨(some 6),none,(.mv (.tmp 0))⟩,
  ⟨(some 7),none,(.len (.tmp 6))⟩,
  ⟨(some 8),none,(.mv (.const (.int .i64 0)))⟩]) (.block 0 (.loop (mB 19 523900) (.seq (.ops [
  ⟨(some 9),none,(.bin .lss (.tmp 8) (.tmp 7))⟩]) (.seq (.cond (.tmp 9) .skip (.exit 0)) (.seq (.block 1 (.seq (.ops [
  ⟨(some 10),none,(.mv (.tmp 8))⟩,
  ⟨(some 5),none,(.asg (.tmp 10))⟩]) (.seq (.ops [
  ⟨(some 11),none,(.mv (.tmp 1))⟩,
  ⟨(some 12),none,(.mv (.tmp 0))⟩,
  ⟨(some 13),none,(.mv (.tmp 5))⟩,
  ⟨(some 14),none,(.ia 3 (.tmp 12) (.tmp 13))⟩,
  ⟨(some 15),none,(.load 3 true (.tmp 14))⟩,
  ⟨(some 16),none,(.callvX (.tmp 11) [(.tmp 15)])⟩]) (.cond (.tmp 16) (.seq (.ops [
  ⟨(some 17),none,(.mv (.tmp 5))⟩,
  ⟨(some 4),none,(.asg (.tmp 17))⟩]) .ret) .skip)))) (.ops [
  ⟨(some 18),none,(.bin .add (.tmp 8) (.const (.int .i64 1)))⟩,
  ⟨(some 8),none,(.mv (.tmp 18))⟩]))))))) (.seq (.ops [
  ⟨(some 4),none,(.asg (.const (.int .i64 (-1))))⟩]) .ret)))
theorem zB7 {a0 a1 d:D}(h:code_slices_IndexFunc_impl_Placed_impl_Placed.wp (CT Tryz.prog zAr) (zC9 [(.t 4)] d) [a0,a1,.undef,.undef,.undef,.undef,.undef,.undef,.undef,.undef,.undef,.undef,.undef,.undef,.undef,.undef,.undef,.undef,.undef]):Contract Tryz.prog zAr 86 [a0,a1] d :=
  zAk (pt:=0) zC6 Tryz.func86 (fun us W=>by kernel_rfl) (c:=Tryz.f86.body.getD .skip) (ms:=[(mB 19 523900)]) (ms':=[]) (by kernel_rfl) (by kernel_rfl) (by kernel_rfl) h
theorem zH1 (f:FuncId)(caps:List D)(hd:CapsOK caps)(xs:List Placed)(p:Placed→Bool)(hc:∀ x,x∈xs→Contract Tryz.prog zAr f (.agg (Placed.td.d false x)::caps) (.v (.bool (p x))))(hn:xs.length≤1099511627776) :
    Contract Tryz.prog zAr 86 [.sl false 3 (xs.map (Placed.td.d false)),.fn f [] caps] (.v (.int .i64 (zOf p xs))):=by
  refine zB7 ?_;unfold code_slices_IndexFunc_impl_Placed_impl_Placed;simp -implicitDefEqProofs (disch:=omega) only [go_sem,↓reduceIte ,hd.owny,hd.pr];refine zCm (fun i:Nat=>[.sl false 3 (xs.map (Placed.td.d false)),.fn f [] caps,.undef,.undef,.undef,.undef,.undef,.v (.int .i64 (xs.map (Placed.td.d false)).length),.v (.int .i64 i),.undef,.undef,.undef,.undef,.undef,.undef,.undef,.undef,.undef,.undef]) (fun i=>i≤xs.length∧∀ j (hj:j<xs.length),j<i→p xs[j]=false) (fun i=>xs.length-i) 0 ?_ ⟨Nat.zero_le _,fun j _ h=>absurd h (Nat.not_lt_zero _)⟩ ?_
  · simp -implicitDefEqProofs (disch:=omega) only [go_sem,↓reduceIte ,hd.owny,hd.pr]
    (try simp -implicitDefEqProofs only [zCs,zCr,zB0,zB2,zB3,zB1,and_self,and_true,true_and])<;>repeat' (first | exact zBd rfl | exact zCd | apply And.intro | apply zDz | apply zBb | apply zA7 | exact zBo | exact zBm | apply zCe | apply zCl)
  rintro i ⟨hi,ha⟩;simp -implicitDefEqProofs (disch:=omega) only [go_sem,↓reduceIte ,List.length_map,Int.toNat_natCast,Int.ofNat_lt,Int.natCast_nonneg,List.getElem?_map,Option.map_some,hd.owny,hd.pr];refine zAn ?_ ?_<;>intro hlt
  · have hlt:i<xs.length:=(by simpa using hlt);have hx:=List.getElem?_eq_getElem hlt;simp -implicitDefEqProofs (disch:=omega) only [go_sem,↓reduceIte ,List.length_map,Int.toNat_natCast,Int.ofNat_lt,Int.natCast_nonneg,List.getElem?_map,Option.map_some,hlt,hx,Placed.td_d,hd.owny,hd.pr];have hcx:=hc _ (List.getElem_mem hlt);rw [Placed.td_d] at hcx;refine zQk (f:=f) (first:=[]) (caps:=caps) ?_ hcx ?_ (.inl rfl) ?_
    · simp -implicitDefEqProofs (disch:=omega) only [go_sem,↓reduceIte ,hd.owny]
    · refine zAz ?_;simp only [List.nil_append,List.cons_append,List.map_cons,List.map_nil,hd.d8,List.map_append];simp only [deep,raw,List.getElem?_cons_succ,List.getElem?_cons_zero,List.map_cons,List.map_nil,TD.rows,zAe,zAc,zAf,zAb]
    simp -implicitDefEqProofs (disch:=omega) only [go_sem,↓reduceIte ,hd.owny,hd.pr];refine zAn ?_ ?_<;>intro hp
    · simp -implicitDefEqProofs (disch:=omega) only [go_sem,↓reduceIte ,hd.owny,hd.pr];rw [zGn p xs i hlt ha hp]
    · simp -implicitDefEqProofs (disch:=omega) only [go_sem,↓reduceIte ,wrN,hd.owny,hd.pr];refine ⟨i+1,by omega,⟨hlt,fun j hj h=>?_⟩,zDo⟩;rcases Nat.lt_or_ge j i with h' | h'
      · exact ha j hj h'
      · have:j=i:=(by omega);subst this;exact hp
  · have hlt:¬ i<xs.length:=(by simpa using hlt);simp -implicitDefEqProofs (disch:=omega) only [go_sem,↓reduceIte];rw [zF2 p xs (fun j hj=>ha j hj (by omega))]
def code_slices_ContainsFunc_impl_Placed_impl_Placed:VCode:=(.seq (.ops [
  ⟨(some 4),none,(.asg (.const (.bool false)))⟩]) (.seq (.ops [
  ⟨(some 5),none,(.mv (.tmp 0))⟩,
  ⟨(some 6),none,(.mv (.tmp 1))⟩,
  ⟨(some 7),none,(.callX 86 [(.tmp 5),(.tmp 6)])⟩,
  ⟨(some 8),none,(.bin .geq (.tmp 7) (.const (.int .i64 0)))⟩,
  ⟨(some 4),none,(.asg (.tmp 8))⟩]) .ret))
theorem zBy {a0 a1 d:D}(h:code_slices_ContainsFunc_impl_Placed_impl_Placed.wp (CT Tryz.prog zAr) (zC9 [(.t 4)] d) [a0,a1,.undef,.undef,.undef,.undef,.undef,.undef,.undef]):Contract Tryz.prog zAr 51 [a0,a1] d :=
  zAk (pt:=0) zC6 Tryz.func51 (fun us W=>by kernel_rfl) (c:=Tryz.f51.body.getD .skip) (ms:=[]) (ms':=[]) (by kernel_rfl) (by kernel_rfl) (by kernel_rfl) h
theorem zF1 (f:FuncId)(caps:List D)(hd:CapsOK caps)(xs:List Placed)(p:Placed→Bool)(hc:∀ x,x∈xs→Contract Tryz.prog zAr f (.agg (Placed.td.d false x)::caps) (.v (.bool (p x))))(hn:xs.length≤1099511627776) :
    Contract Tryz.prog zAr 51 [.sl false 3 (xs.map (Placed.td.d false)),.fn f [] caps] (.v (.bool (xs.any p))):=by
  refine zBy ?_;unfold code_slices_ContainsFunc_impl_Placed_impl_Placed;simp -implicitDefEqProofs (disch:=omega) only [go_sem,↓reduceIte ,hd.owny,hd.pr];refine zUp (zH1 f caps hd xs p hc hn) ?_ (.inl rfl) ?_
  · refine zAz ?_;simp only [List.map_cons,List.map_nil,deep,raw,List.getElem?_cons_succ,List.getElem?_cons_zero,TD.rows,zAe,zAc,zAf,zAb,hd.owny,hd.pr,hd.d7]
    try rfl
  simp -implicitDefEqProofs (disch:=omega) only [go_sem,↓reduceIte];exact congrArg Value.bool (zU5 p xs)
def code_slices_IndexFunc_impl_Tile_impl_Tile:VCode:=(.seq (.ops [
  ⟨(some 4),none,(.asg (.const (.int .i64 0)))⟩]) (.seq (.seq (.ops [
  ⟨(some 6),none,(.mv (.tmp 0))⟩,
  ⟨(some 7),none,(.len (.tmp 6))⟩,
  ⟨(some 8),none,(.mv (.const (.int .i64 0)))⟩]) (.block 0 (.loop (mB 19 523900) (.seq (.ops [
  ⟨(some 9),none,(.bin .lss (.tmp 8) (.tmp 7))⟩]) (.seq (.cond (.tmp 9) .skip (.exit 0)) (.seq (.block 1 (.seq (.ops [
  ⟨(some 10),none,(.mv (.tmp 8))⟩,
  ⟨(some 5),none,(.asg (.tmp 10))⟩]) (.seq (.ops [
  ⟨(some 11),none,(.mv (.tmp 1))⟩,
  ⟨(some 12),none,(.mv (.tmp 0))⟩,
  ⟨(some 13),none,(.mv (.tmp 5))⟩,
  ⟨(some 14),none,(.ia 2 (.tmp 12) (.tmp 13))⟩,
  ⟨(some 15),none,(.load 2 true (.tmp 14))⟩,
  ⟨(some 16),none,(.callvX (.tmp 11) [(.tmp 15)])⟩]) (.cond (.tmp 16) (.seq (.ops [
  ⟨(some 17),none,(.mv (.tmp 5))⟩,
  ⟨(some 4),none,(.asg (.tmp 17))⟩]) .ret) .skip)))) (.ops [
  ⟨(some 18),none,(.bin .add (.tmp 8) (.const (.int .i64 1)))⟩,
  ⟨(some 8),none,(.mv (.tmp 18))⟩]))))))) (.seq (.ops [
  ⟨(some 4),none,(.asg (.const (.int .i64 (-1))))⟩]) .ret)))
theorem zCf {a0 a1 d:D}(h:code_slices_IndexFunc_impl_Tile_impl_Tile.wp (CT Tryz.prog zAr) (zC9 [(.t 4)] d) [a0,a1,.undef,.undef,.undef,.undef,.undef,.undef,.undef,.undef,.undef,.undef,.undef,.undef,.undef,.undef,.undef,.undef,.undef]):Contract Tryz.prog zAr 84 [a0,a1] d :=
  zAk (pt:=0) zC6 Tryz.func84 (fun us W=>by kernel_rfl) (c:=Tryz.f84.body.getD .skip) (ms:=[(mB 19 523900)]) (ms':=[]) (by kernel_rfl) (by kernel_rfl) (by kernel_rfl) h
theorem zK3 (f:FuncId)(caps:List D)(hd:CapsOK caps)(xs:List Tile)(p:Tile→Bool)(hc:∀ x,x∈xs→Contract Tryz.prog zAr f (.agg (Tile.td.d false x)::caps) (.v (.bool (p x))))(hn:xs.length≤1099511627776) :
    Contract Tryz.prog zAr 84 [.sl false 2 (xs.map (Tile.td.d false)),.fn f [] caps] (.v (.int .i64 (zOf p xs))):=by
  refine zCf ?_;unfold code_slices_IndexFunc_impl_Tile_impl_Tile;simp -implicitDefEqProofs (disch:=omega) only [go_sem,↓reduceIte ,hd.owny,hd.pr];refine zCm (fun i:Nat=>[.sl false 2 (xs.map (Tile.td.d false)),.fn f [] caps,.undef,.undef,.undef,.undef,.undef,.v (.int .i64 (xs.map (Tile.td.d false)).length),.v (.int .i64 i),.undef,.undef,.undef,.undef,.undef,.undef,.undef,.undef,.undef,.undef]) (fun i=>i≤xs.length∧∀ j (hj:j<xs.length),j<i→p xs[j]=false) (fun i=>xs.length-i) 0 ?_ ⟨Nat.zero_le _,fun j _ h=>absurd h (Nat.not_lt_zero _)⟩ ?_
  · simp -implicitDefEqProofs (disch:=omega) only [go_sem,↓reduceIte ,hd.owny,hd.pr]
    (try simp -implicitDefEqProofs only [zCs,zCr,zB0,zB2,zB3,zB1,and_self,and_true,true_and])<;>repeat' (first | exact zBd rfl | exact zCd | apply And.intro | apply zDz | apply zBb | apply zA7 | exact zBo | exact zBm | apply zCe | apply zCl)
  rintro i ⟨hi,ha⟩;simp -implicitDefEqProofs (disch:=omega) only [go_sem,↓reduceIte ,List.length_map,Int.toNat_natCast,Int.ofNat_lt,Int.natCast_nonneg,List.getElem?_map,Option.map_some,hd.owny,hd.pr];refine zAn ?_ ?_<;>intro hlt
  · have hlt:i<xs.length:=(by simpa using hlt);have hx:=List.getElem?_eq_getElem hlt;simp -implicitDefEqProofs (disch:=omega) only [go_sem,↓reduceIte ,List.length_map,Int.toNat_natCast,Int.ofNat_lt,Int.natCast_nonneg,List.getElem?_map,Option.map_some,hlt,hx,Tile.td_d,hd.owny,hd.pr];have hcx:=hc _ (List.getElem_mem hlt);rw [Tile.td_d] at hcx;refine zQk (f:=f) (first:=[]) (caps:=caps) ?_ hcx ?_ (.inl rfl) ?_
    · simp -implicitDefEqProofs (disch:=omega) only [go_sem,↓reduceIte ,hd.owny]
    · refine zAz ?_;simp only [List.nil_append,List.cons_append,List.map_cons,List.map_nil,hd.d8,List.map_append];simp only [deep,raw,List.getElem?_cons_succ,List.getElem?_cons_zero,List.map_cons,List.map_nil,TD.rows,zAe,zAc,zAf,zAb]
    simp -implicitDefEqProofs (disch:=omega) only [go_sem,↓reduceIte ,hd.owny,hd.pr];refine zAn ?_ ?_<;>intro hp
    · simp -implicitDefEqProofs (disch:=omega) only [go_sem,↓reduceIte ,hd.owny,hd.pr];rw [zGn p xs i hlt ha hp]
    · simp -implicitDefEqProofs (disch:=omega) only [go_sem,↓reduceIte ,wrN,hd.owny,hd.pr];refine ⟨i+1,by omega,⟨hlt,fun j hj h=>?_⟩,zDo⟩;rcases Nat.lt_or_ge j i with h' | h'
      · exact ha j hj h'
      · have:j=i:=(by omega);subst this;exact hp
  · have hlt:¬ i<xs.length:=(by simpa using hlt);simp -implicitDefEqProofs (disch:=omega) only [go_sem,↓reduceIte];rw [zF2 p xs (fun j hj=>ha j hj (by omega))]
def code_slices_Clone_impl_Placed_impl_Placed:VCode:=(.seq (.ops [
  ⟨(some 2),none,(.asg (.const (.slice none 0 0)))⟩]) (.seq (.seq (.ops [
  ⟨(some 3),none,(.mv (.tmp 0))⟩,
  ⟨(some 4),none,(.isnil false (.tmp 3))⟩]) (.cond (.tmp 4) (.seq (.ops [
  ⟨(some 2),none,(.asg (.const (.slice none 0 0)))⟩]) .ret) .skip)) (.seq (.ops [
  ⟨(some 5),none,(.bsl 3 [])⟩,
  ⟨(some 6),none,(.mv (.tmp 0))⟩,
  ⟨(some 7),none,(.app 3 24 (.tmp 5) (.tmp 6))⟩,
  ⟨(some 2),none,(.asg (.tmp 7))⟩]) .ret)))
theorem zCg {a0 d:D}(h:code_slices_Clone_impl_Placed_impl_Placed.wp (CT Tryz.prog zAr) (zC9 [(.t 2)] d) [a0,.undef,.undef,.undef,.undef,.undef,.undef,.undef]):Contract Tryz.prog zAr 53 [a0] d :=
  zAk (pt:=0) zC6 Tryz.func53 (fun us W=>by kernel_rfl) (c:=Tryz.f53.body.getD .skip) (ms:=[]) (ms':=[]) (by kernel_rfl) (by kernel_rfl) (by kernel_rfl) h
theorem zN0 (xs:List Placed)(hn:xs.length≤1048576):Contract Tryz.prog zAr 53 [.sl false 3 (xs.map (Placed.td.d false))] (.sl true 3 (xs.map (Placed.td.d true))):=by
  refine zCg ?_;unfold code_slices_Clone_impl_Placed_impl_Placed;simp -implicitDefEqProofs (disch:=omega) only [go_sem,↓reduceIte];refine zT8 (fun b hb=>?_);simp -implicitDefEqProofs (disch:=omega) only [go_sem,↓reduceIte];refine zAn ?_ ?_<;>intro h
  · simp -implicitDefEqProofs (disch:=omega) only [go_sem,↓reduceIte];exact hb (by rw [h];rfl)
  · simp -implicitDefEqProofs (disch:=omega) only [go_sem,↓reduceIte ,List.length_map]
    first | omega | exact ⟨by omega,rfl⟩
def code_laws_toInt64S:VCode:=(.seq (.ops [
  ⟨(some 2),none,(.asg (.const (.slice none 0 0)))⟩]) (.seq (.ops [
  ⟨(some 5),none,(.mv (.tmp 0))⟩,
  ⟨(some 6),none,(.len (.tmp 5))⟩,
  ⟨(some 7),none,(.mks 1 8 [(.int .i64 0)] (.tmp 6) (.tmp 6))⟩,
  ⟨(some 3),none,(.asg (.tmp 7))⟩]) (.seq (.seq (.ops [
  ⟨(some 4),none,(.asg (.const (.int .i64 0)))⟩]) (.block 0 (.loop (mB 22 4194150) (.seq (.seq (.ops [
  ⟨(some 8),none,(.mv (.tmp 4))⟩,
  ⟨(some 9),none,(.mv (.tmp 0))⟩,
  ⟨(some 10),none,(.len (.tmp 9))⟩,
  ⟨(some 11),none,(.bin .lss (.tmp 8) (.tmp 10))⟩]) (.cond (.tmp 11) .skip (.exit 0))) (.seq (.block 1 (.ops [
  ⟨(some 14),none,(.mv (.tmp 3))⟩,
  ⟨(some 15),none,(.mv (.tmp 4))⟩,
  ⟨(some 16),none,(.mv (.tmp 0))⟩,
  ⟨(some 17),none,(.mv (.tmp 4))⟩,
  ⟨(some 18),none,(.ia 1 (.tmp 16) (.tmp 17))⟩,
  ⟨(some 19),none,(.load 1 false (.tmp 18))⟩,
  ⟨(some 20),none,(.ia 1 (.tmp 14) (.tmp 15))⟩,
  ⟨none,none,(.store 1 (.tmp 20) (.tmp 19))⟩])) (.ops [
  ⟨(some 12),none,(.mv (.tmp 4))⟩,
  ⟨(some 13),none,(.bin .add (.tmp 12) (.const (.int .i64 1)))⟩,
  ⟨(some 4),none,(.asg (.tmp 13))⟩])))))) (.seq (.ops [
  ⟨(some 21),none,(.mv (.tmp 3))⟩,
  ⟨(some 2),none,(.asg (.tmp 21))⟩]) .ret))))
theorem zJ5 {a0 d:D}(h:code_laws_toInt64S.wp (CT Tryz.prog zAr) (zC9 [(.t 2)] d) [a0,.undef,.undef,.undef,.undef,.undef,.undef,.undef,.undef,.undef,.undef,.undef,.undef,.undef,.undef,.undef,.undef,.undef,.undef,.undef,.undef,.undef]):Contract Tryz.prog zAr 68 [a0] d :=
  zAk (pt:=0) zC6 Tryz.func68 (fun us W=>by kernel_rfl) (c:=Tryz.f68.body.getD .skip) (ms:=[(mB 22 4194150)]) (ms':=[]) (by kernel_rfl) (by kernel_rfl) (by kernel_rfl) h
set_option maxHeartbeats 2000000 in
theorem zWo (xs:List Int)(hn:xs.length≤1048576):Contract Tryz.prog zAr 68 [.sl false 1 (xs.map (rI))] (.sl true 1 (xs.map (rI))):=by
  have hl:xs.length≤1048576:=(by exact hn);refine zJ5 ?_;unfold code_laws_toInt64S;simp -implicitDefEqProofs (disch:=omega) only [go_sem,↓reduceIte ,List.length_map,Int.toNat_natCast];refine ⟨by omega,by omega,by omega,?_⟩;refine zCm (fun k:Nat=>[.sl false 1 (xs.map (rI)),.undef,.undef,.sl true 1 ((xs.take k).map (rI)++List.replicate (xs.length-k) [D.v (.int .i64 0)]),.v (.int .i64 k),.undef,.undef,.undef,.undef,.undef,.undef,.undef,.undef,.undef,.undef,.undef,.undef,.undef,.undef,.undef,.undef,.undef]) (fun k=>k≤xs.length) (fun k=>xs.length-k) 0 (zDo) (Nat.zero_le _) ?_;intro k hk;simp -implicitDefEqProofs (disch:=omega) only [go_sem,↓reduceIte ,List.length_map,Int.toNat_natCast,Int.ofNat_lt,Int.natCast_nonneg,List.getElem?_map,Option.map_some];refine zAn ?_ ?_<;>intro hlt
  · have hlt:k<xs.length:=(by simpa using hlt);have e1:=List.getElem?_eq_getElem hlt;have g1:=zQb xs (rI) [D.v (.int .i64 0)] k;have g2:=zUf xs (rI) [D.v (.int .i64 0)] k hlt;have g3:=zM8 xs (rI) [D.v (.int .i64 0)] k hlt;have g4:k<((xs.take k).map (rI)++List.replicate (xs.length-k) [D.v (.int .i64 0)]).length:=(by rw [g1];exact hlt);simp -implicitDefEqProofs (disch:=omega) only [go_sem,↓reduceIte ,List.length_map,Int.toNat_natCast,Int.ofNat_lt,Int.natCast_nonneg,List.getElem?_map,Option.map_some,hlt,e1,g1,g2,List.set_set,List.getElem?_set_self g4,wrN];refine ⟨k+1,by omega,hlt,?_⟩;rw [← g3]
    (try simp -implicitDefEqProofs only [zCs,zCr,zB0,zB2,zB3,zB1,and_self,and_true,true_and])<;>repeat' (first | exact zBd rfl | exact zCd | apply And.intro | apply zDz | apply zBb | apply zA7 | exact zBo | exact zBm | apply zCe | apply zCl)
  · have hge:k=xs.length:=(by have:¬ k<xs.length:=(by simpa using hlt);omega);subst hge;simp -implicitDefEqProofs (disch:=omega) only [go_sem,↓reduceIte ,zQc]
def code_laws_toGlue:VCode:=(.seq (.ops [
  ⟨(some 1),none,(.box (.tmp 0))⟩,
  ⟨(some 2),none,(.alloc [(.string ⟨⟨[]⟩⟩),(.int .i64 0)])⟩]) (.seq (.ops [
  ⟨(some 3),none,(.alloc [(.string ⟨⟨[]⟩⟩),(.int .i64 0)])⟩]) (.seq (.ops [
  ⟨(some 4),none,(.fa 0 (.tmp 1))⟩,
  ⟨(some 5),none,(.load 1 false (.tmp 4))⟩,
  ⟨(some 6),none,(.fa 0 (.tmp 3))⟩,
  ⟨none,none,(.store 1 (.tmp 6) (.tmp 5))⟩]) (.seq (.ops [
  ⟨(some 7),none,(.fa 1 (.tmp 1))⟩,
  ⟨(some 8),none,(.load 1 false (.tmp 7))⟩,
  ⟨(some 9),none,(.fa 1 (.tmp 3))⟩,
  ⟨none,none,(.store 1 (.tmp 9) (.tmp 8))⟩]) (.seq (.ops [
  ⟨(some 10),none,(.load 2 true (.tmp 3))⟩,
  ⟨none,none,(.store 2 (.tmp 2) (.tmp 10))⟩]) .ret)))))
theorem zMx {a0 d:D}(h:code_laws_toGlue.wp (CT Tryz.prog zAr) (zC9 [(.c 2 2 true)] d) [a0,.undef,.undef,.undef,.undef,.undef,.undef,.undef,.undef,.undef,.undef]):Contract Tryz.prog zAr 43 [a0] d :=
  zAk (pt:=0) zC6 Tryz.func43 (fun us W=>by kernel_rfl) (c:=Tryz.f43.body.getD .skip) (ms:=[]) (ms':=[]) (by kernel_rfl) (by kernel_rfl) (by kernel_rfl) h
set_option maxHeartbeats 2000000 in
theorem yEk (q:Glue)(hn:Glue.cnt q≤1048576):Contract Tryz.prog zAr 43 [.agg (Glue.td.d false q)] (.agg (Glue.td.d true q)):=by rw [Glue.td_d,Glue.td_d];refine zMx ?_;unfold code_laws_toGlue;have hn0:=hn;unfold Glue.cnt at hn;simp -implicitDefEqProofs (disch:=omega) only [go_sem,↓reduceIte]
def code_laws_toGlueS:VCode:=(.seq (.ops [
  ⟨(some 2),none,(.asg (.const (.slice none 0 0)))⟩]) (.seq (.ops [
  ⟨(some 5),none,(.mv (.tmp 0))⟩,
  ⟨(some 6),none,(.len (.tmp 5))⟩,
  ⟨(some 7),none,(.mks 2 24 [(.string ⟨⟨[]⟩⟩),(.int .i64 0)] (.tmp 6) (.tmp 6))⟩,
  ⟨(some 3),none,(.asg (.tmp 7))⟩]) (.seq (.seq (.ops [
  ⟨(some 4),none,(.asg (.const (.int .i64 0)))⟩]) (.block 0 (.loop (mB 23 8388454) (.seq (.seq (.ops [
  ⟨(some 8),none,(.mv (.tmp 4))⟩,
  ⟨(some 9),none,(.mv (.tmp 0))⟩,
  ⟨(some 10),none,(.len (.tmp 9))⟩,
  ⟨(some 11),none,(.bin .lss (.tmp 8) (.tmp 10))⟩]) (.cond (.tmp 11) .skip (.exit 0))) (.seq (.block 1 (.ops [
  ⟨(some 14),none,(.mv (.tmp 3))⟩,
  ⟨(some 15),none,(.mv (.tmp 4))⟩,
  ⟨(some 16),none,(.mv (.tmp 0))⟩,
  ⟨(some 17),none,(.mv (.tmp 4))⟩,
  ⟨(some 18),none,(.ia 2 (.tmp 16) (.tmp 17))⟩,
  ⟨(some 19),none,(.load 2 true (.tmp 18))⟩,
  ⟨(some 20),none,(.callX 43 [(.tmp 19)])⟩,
  ⟨(some 21),none,(.ia 2 (.tmp 14) (.tmp 15))⟩,
  ⟨none,none,(.store 2 (.tmp 21) (.tmp 20))⟩])) (.ops [
  ⟨(some 12),none,(.mv (.tmp 4))⟩,
  ⟨(some 13),none,(.bin .add (.tmp 12) (.const (.int .i64 1)))⟩,
  ⟨(some 4),none,(.asg (.tmp 13))⟩])))))) (.seq (.ops [
  ⟨(some 22),none,(.mv (.tmp 3))⟩,
  ⟨(some 2),none,(.asg (.tmp 22))⟩]) .ret))))
theorem zLa {a0 d:D}(h:code_laws_toGlueS.wp (CT Tryz.prog zAr) (zC9 [(.t 2)] d) [a0,.undef,.undef,.undef,.undef,.undef,.undef,.undef,.undef,.undef,.undef,.undef,.undef,.undef,.undef,.undef,.undef,.undef,.undef,.undef,.undef,.undef,.undef]):Contract Tryz.prog zAr 19 [a0] d :=
  zAk (pt:=0) zC6 Tryz.func19 (fun us W=>by kernel_rfl) (c:=Tryz.f19.body.getD .skip) (ms:=[(mB 23 8388454)]) (ms':=[]) (by kernel_rfl) (by kernel_rfl) (by kernel_rfl) h
set_option maxHeartbeats 2000000 in
theorem zZo (xs:List Glue)(hn:zHs Glue.cnt xs≤1048576):Contract Tryz.prog zAr 19 [.sl false 2 (xs.map (Glue.td.d false))] (.sl true 2 (xs.map (Glue.td.d true))):=by
  have hl:xs.length≤1048576:=(by have:=zGw Glue.cnt xs;omega);refine zLa ?_;unfold code_laws_toGlueS;simp -implicitDefEqProofs (disch:=omega) only [go_sem,↓reduceIte ,List.length_map,Int.toNat_natCast];refine ⟨by omega,by omega,by omega,?_⟩;refine zCm (fun k:Nat=>[.sl false 2 (xs.map (Glue.td.d false)),.undef,.undef,.sl true 2 ((xs.take k).map (Glue.td.d true)++List.replicate (xs.length-k) [D.v (.string ⟨⟨[]⟩⟩),D.v (.int .i64 0)]),.v (.int .i64 k),.undef,.undef,.undef,.undef,.undef,.undef,.undef,.undef,.undef,.undef,.undef,.undef,.undef,.undef,.undef,.undef,.undef,.undef]) (fun k=>k≤xs.length) (fun k=>xs.length-k) 0 (zDo) (Nat.zero_le _) ?_;intro k hk;simp -implicitDefEqProofs (disch:=omega) only [go_sem,↓reduceIte ,List.length_map,Int.toNat_natCast,Int.ofNat_lt,Int.natCast_nonneg,List.getElem?_map,Option.map_some];refine zAn ?_ ?_<;>intro hlt
  · have hlt:k<xs.length:=(by simpa using hlt);have e1:=List.getElem?_eq_getElem hlt;have g1:=zQb xs (Glue.td.d true) [D.v (.string ⟨⟨[]⟩⟩),D.v (.int .i64 0)] k;have g2:=zUf xs (Glue.td.d true) [D.v (.string ⟨⟨[]⟩⟩),D.v (.int .i64 0)] k hlt;have g3:=zM8 xs (Glue.td.d true) [D.v (.string ⟨⟨[]⟩⟩),D.v (.int .i64 0)] k hlt;have g4:k<((xs.take k).map (Glue.td.d true)++List.replicate (xs.length-k) [D.v (.string ⟨⟨[]⟩⟩),D.v (.int .i64 0)]).length:=(by rw [g1];exact hlt);have hm:=zI2 Glue.cnt xs k hlt;simp -implicitDefEqProofs (disch:=omega) only [go_sem,↓reduceIte ,List.length_map,Int.toNat_natCast,Int.ofNat_lt,Int.natCast_nonneg,List.getElem?_map,Option.map_some,hlt,e1,g1,g2,List.set_set,List.getElem?_set_self g4,wrN,Glue.td_d];refine zAm (yEk xs[k] (by omega)) (by simp -implicitDefEqProofs (disch:=omega) only [go_sem,↓reduceIte,deep,TD.rows,zAe,zAc,zAf,zAb,zAd,zAa,List.length_map,Int.toNat_natCast,Int.ofNat_lt,Int.natCast_nonneg,List.getElem?_map,Option.map_some,hlt,e1,g1,g2,List.set_set,List.getElem?_set_self g4,wrN,Glue.td_d];exact rfl) ?_;simp -implicitDefEqProofs (disch:=omega) only [go_sem,↓reduceIte ,List.length_map,Int.toNat_natCast,Int.ofNat_lt,Int.natCast_nonneg,List.getElem?_map,Option.map_some,hlt,e1,g1,g2,List.set_set,List.getElem?_set_self g4,wrN,Glue.td_d];refine ⟨k+1,by omega,hlt,?_⟩;rw [← g3];rw [Glue.td_d]
    (try simp -implicitDefEqProofs only [zCs,zCr,zB0,zB2,zB3,zB1,and_self,and_true,true_and])<;>repeat' (first | exact zBd rfl | exact zCd | apply And.intro | apply zDz | apply zBb | apply zA7 | exact zBo | exact zBm | apply zCe | apply zCl)
  · have hge:k=xs.length:=(by have:¬ k<xs.length:=(by simpa using hlt);omega);subst hge;simp -implicitDefEqProofs (disch:=omega) only [go_sem,↓reduceIte ,zQc]
def code_laws_toTile:VCode:=(.seq (.ops [
  ⟨(some 1),none,(.box (.tmp 0))⟩,
  ⟨(some 2),none,(.alloc [(.string ⟨⟨[]⟩⟩),(.slice none 0 0)])⟩]) (.seq (.ops [
  ⟨(some 3),none,(.alloc [(.string ⟨⟨[]⟩⟩),(.slice none 0 0)])⟩]) (.seq (.ops [
  ⟨(some 4),none,(.fa 0 (.tmp 1))⟩,
  ⟨(some 5),none,(.load 1 false (.tmp 4))⟩,
  ⟨(some 6),none,(.fa 0 (.tmp 3))⟩,
  ⟨none,none,(.store 1 (.tmp 6) (.tmp 5))⟩]) (.seq (.ops [
  ⟨(some 7),none,(.fa 1 (.tmp 1))⟩,
  ⟨(some 8),none,(.load 1 false (.tmp 7))⟩,
  ⟨(some 9),none,(.callX 68 [(.tmp 8)])⟩,
  ⟨(some 10),none,(.fa 1 (.tmp 3))⟩,
  ⟨none,none,(.store 1 (.tmp 10) (.tmp 9))⟩]) (.seq (.ops [
  ⟨(some 11),none,(.load 2 true (.tmp 3))⟩,
  ⟨none,none,(.store 2 (.tmp 2) (.tmp 11))⟩]) .ret)))))
theorem zMw {a0 d:D}(h:code_laws_toTile.wp (CT Tryz.prog zAr) (zC9 [(.c 2 2 true)] d) [a0,.undef,.undef,.undef,.undef,.undef,.undef,.undef,.undef,.undef,.undef,.undef]):Contract Tryz.prog zAr 44 [a0] d :=
  zAk (pt:=0) zC6 Tryz.func44 (fun us W=>by kernel_rfl) (c:=Tryz.f44.body.getD .skip) (ms:=[]) (ms':=[]) (by kernel_rfl) (by kernel_rfl) (by kernel_rfl) h
set_option maxHeartbeats 2000000 in
theorem yEj (q:Tile)(hn:Tile.cnt q≤1048576):Contract Tryz.prog zAr 44 [.agg (Tile.td.d false q)] (.agg (Tile.td.d true q)):=by rw [Tile.td_d,Tile.td_d];refine zMw ?_;unfold code_laws_toTile;have hn0:=hn;unfold Tile.cnt at hn;simp -implicitDefEqProofs (disch:=omega) only [go_sem,↓reduceIte];refine zAm (zWo q.Sides (by omega)) (by simp -implicitDefEqProofs (disch:=omega) only [go_sem,↓reduceIte,deep,TD.rows,zAe,zAc,zAf,zAb,zAd,zAa];exact rfl) ?_;simp -implicitDefEqProofs (disch:=omega) only [go_sem,↓reduceIte]
def code_laws_toTileS:VCode:=(.seq (.ops [
  ⟨(some 2),none,(.asg (.const (.slice none 0 0)))⟩]) (.seq (.ops [
  ⟨(some 5),none,(.mv (.tmp 0))⟩,
  ⟨(some 6),none,(.len (.tmp 5))⟩,
  ⟨(some 7),none,(.mks 2 40 [(.string ⟨⟨[]⟩⟩),(.slice none 0 0)] (.tmp 6) (.tmp 6))⟩,
  ⟨(some 3),none,(.asg (.tmp 7))⟩]) (.seq (.seq (.ops [
  ⟨(some 4),none,(.asg (.const (.int .i64 0)))⟩]) (.block 0 (.loop (mB 23 8388454) (.seq (.seq (.ops [
  ⟨(some 8),none,(.mv (.tmp 4))⟩,
  ⟨(some 9),none,(.mv (.tmp 0))⟩,
  ⟨(some 10),none,(.len (.tmp 9))⟩,
  ⟨(some 11),none,(.bin .lss (.tmp 8) (.tmp 10))⟩]) (.cond (.tmp 11) .skip (.exit 0))) (.seq (.block 1 (.ops [
  ⟨(some 14),none,(.mv (.tmp 3))⟩,
  ⟨(some 15),none,(.mv (.tmp 4))⟩,
  ⟨(some 16),none,(.mv (.tmp 0))⟩,
  ⟨(some 17),none,(.mv (.tmp 4))⟩,
  ⟨(some 18),none,(.ia 2 (.tmp 16) (.tmp 17))⟩,
  ⟨(some 19),none,(.load 2 true (.tmp 18))⟩,
  ⟨(some 20),none,(.callX 44 [(.tmp 19)])⟩,
  ⟨(some 21),none,(.ia 2 (.tmp 14) (.tmp 15))⟩,
  ⟨none,none,(.store 2 (.tmp 21) (.tmp 20))⟩])) (.ops [
  ⟨(some 12),none,(.mv (.tmp 4))⟩,
  ⟨(some 13),none,(.bin .add (.tmp 12) (.const (.int .i64 1)))⟩,
  ⟨(some 4),none,(.asg (.tmp 13))⟩])))))) (.seq (.ops [
  ⟨(some 22),none,(.mv (.tmp 3))⟩,
  ⟨(some 2),none,(.asg (.tmp 22))⟩]) .ret))))
theorem zK9 {a0 d:D}(h:code_laws_toTileS.wp (CT Tryz.prog zAr) (zC9 [(.t 2)] d) [a0,.undef,.undef,.undef,.undef,.undef,.undef,.undef,.undef,.undef,.undef,.undef,.undef,.undef,.undef,.undef,.undef,.undef,.undef,.undef,.undef,.undef,.undef]):Contract Tryz.prog zAr 20 [a0] d :=
  zAk (pt:=0) zC6 Tryz.func20 (fun us W=>by kernel_rfl) (c:=Tryz.f20.body.getD .skip) (ms:=[(mB 23 8388454)]) (ms':=[]) (by kernel_rfl) (by kernel_rfl) (by kernel_rfl) h
set_option maxHeartbeats 2000000 in
theorem zZn (xs:List Tile)(hn:zHs Tile.cnt xs≤1048576):Contract Tryz.prog zAr 20 [.sl false 2 (xs.map (Tile.td.d false))] (.sl true 2 (xs.map (Tile.td.d true))):=by
  have hl:xs.length≤1048576:=(by have:=zGw Tile.cnt xs;omega);refine zK9 ?_;unfold code_laws_toTileS;simp -implicitDefEqProofs (disch:=omega) only [go_sem,↓reduceIte ,List.length_map,Int.toNat_natCast];refine ⟨by omega,by omega,by omega,?_⟩;refine zCm (fun k:Nat=>[.sl false 2 (xs.map (Tile.td.d false)),.undef,.undef,.sl true 2 ((xs.take k).map (Tile.td.d true)++List.replicate (xs.length-k) [D.v (.string ⟨⟨[]⟩⟩),D.nils]),.v (.int .i64 k),.undef,.undef,.undef,.undef,.undef,.undef,.undef,.undef,.undef,.undef,.undef,.undef,.undef,.undef,.undef,.undef,.undef,.undef]) (fun k=>k≤xs.length) (fun k=>xs.length-k) 0 (zDo) (Nat.zero_le _) ?_;intro k hk;simp -implicitDefEqProofs (disch:=omega) only [go_sem,↓reduceIte ,List.length_map,Int.toNat_natCast,Int.ofNat_lt,Int.natCast_nonneg,List.getElem?_map,Option.map_some];refine zAn ?_ ?_<;>intro hlt
  · have hlt:k<xs.length:=(by simpa using hlt);have e1:=List.getElem?_eq_getElem hlt;have g1:=zQb xs (Tile.td.d true) [D.v (.string ⟨⟨[]⟩⟩),D.nils] k;have g2:=zUf xs (Tile.td.d true) [D.v (.string ⟨⟨[]⟩⟩),D.nils] k hlt;have g3:=zM8 xs (Tile.td.d true) [D.v (.string ⟨⟨[]⟩⟩),D.nils] k hlt;have g4:k<((xs.take k).map (Tile.td.d true)++List.replicate (xs.length-k) [D.v (.string ⟨⟨[]⟩⟩),D.nils]).length:=(by rw [g1];exact hlt);have hm:=zI2 Tile.cnt xs k hlt;simp -implicitDefEqProofs (disch:=omega) only [go_sem,↓reduceIte ,List.length_map,Int.toNat_natCast,Int.ofNat_lt,Int.natCast_nonneg,List.getElem?_map,Option.map_some,hlt,e1,g1,g2,List.set_set,List.getElem?_set_self g4,wrN,Tile.td_d];refine zAm (yEj xs[k] (by omega)) (by simp -implicitDefEqProofs (disch:=omega) only [go_sem,↓reduceIte,deep,TD.rows,zAe,zAc,zAf,zAb,zAd,zAa,List.length_map,Int.toNat_natCast,Int.ofNat_lt,Int.natCast_nonneg,List.getElem?_map,Option.map_some,hlt,e1,g1,g2,List.set_set,List.getElem?_set_self g4,wrN,Tile.td_d];exact rfl) ?_;simp -implicitDefEqProofs (disch:=omega) only [go_sem,↓reduceIte ,List.length_map,Int.toNat_natCast,Int.ofNat_lt,Int.natCast_nonneg,List.getElem?_map,Option.map_some,hlt,e1,g1,g2,List.set_set,List.getElem?_set_self g4,wrN,Tile.td_d];refine ⟨k+1,by omega,hlt,?_⟩;rw [← g3];rw [Tile.td_d]
    (try simp -implicitDefEqProofs only [zCs,zCr,zB0,zB2,zB3,zB1,and_self,and_true,true_and])<;>repeat' (first | exact zBd rfl | exact zCd | apply And.intro | apply zDz | apply zBb | apply zA7 | exact zBo | exact zBm | apply zCe | apply zCl)
  · have hge:k=xs.length:=(by have:¬ k<xs.length:=(by simpa using hlt);omega);subst hge;simp -implicitDefEqProofs (disch:=omega) only [go_sem,↓reduceIte ,zQc]
def code_laws_toTileSet:VCode:=(.seq (.ops [
  ⟨(some 1),none,(.box (.tmp 0))⟩,
  ⟨(some 2),none,(.alloc [(.slice none 0 0),(.slice none 0 0)])⟩]) (.seq (.ops [
  ⟨(some 3),none,(.alloc [(.slice none 0 0),(.slice none 0 0)])⟩]) (.seq (.ops [
  ⟨(some 4),none,(.fa 0 (.tmp 1))⟩,
  ⟨(some 5),none,(.load 1 false (.tmp 4))⟩,
  ⟨(some 6),none,(.callX 19 [(.tmp 5)])⟩,
  ⟨(some 7),none,(.fa 0 (.tmp 3))⟩,
  ⟨none,none,(.store 1 (.tmp 7) (.tmp 6))⟩]) (.seq (.ops [
  ⟨(some 8),none,(.fa 1 (.tmp 1))⟩,
  ⟨(some 9),none,(.load 1 false (.tmp 8))⟩,
  ⟨(some 10),none,(.callX 20 [(.tmp 9)])⟩,
  ⟨(some 11),none,(.fa 1 (.tmp 3))⟩,
  ⟨none,none,(.store 1 (.tmp 11) (.tmp 10))⟩]) (.seq (.ops [
  ⟨(some 12),none,(.load 2 true (.tmp 3))⟩,
  ⟨none,none,(.store 2 (.tmp 2) (.tmp 12))⟩]) .ret)))))
theorem zIo {a0 d:D}(h:code_laws_toTileSet.wp (CT Tryz.prog zAr) (zC9 [(.c 2 2 true)] d) [a0,.undef,.undef,.undef,.undef,.undef,.undef,.undef,.undef,.undef,.undef,.undef,.undef]):Contract Tryz.prog zAr 6 [a0] d :=
  zAk (pt:=0) zC6 Tryz.func6 (fun us W=>by kernel_rfl) (c:=Tryz.f6.body.getD .skip) (ms:=[]) (ms':=[]) (by kernel_rfl) (by kernel_rfl) (by kernel_rfl) h
set_option maxHeartbeats 2000000 in
theorem zFe (q:TileSet)(hn:TileSet.cnt q≤1048576):Contract Tryz.prog zAr 6 [.agg (TileSet.td.d false q)] (.agg (TileSet.td.d true q)):=by rw [TileSet.td_d,TileSet.td_d];refine zIo ?_;unfold code_laws_toTileSet;have hn0:=hn;unfold TileSet.cnt at hn;simp -implicitDefEqProofs (disch:=omega) only [go_sem,↓reduceIte];refine zAm (zZo q.Glues (by omega)) (by simp -implicitDefEqProofs (disch:=omega) only [go_sem,↓reduceIte,deep,TD.rows,zAe,zAc,zAf,zAb,zAd,zAa];exact rfl) ?_;simp -implicitDefEqProofs (disch:=omega) only [go_sem,↓reduceIte];refine zAm (zZn q.Tiles (by omega)) (by simp -implicitDefEqProofs (disch:=omega) only [go_sem,↓reduceIte,deep,TD.rows,zAe,zAc,zAf,zAb,zAd,zAa];exact rfl) ?_;simp -implicitDefEqProofs (disch:=omega) only [go_sem,↓reduceIte]
end Go.Proofs.YtdlchnlpmofpmaaGreatDoor
