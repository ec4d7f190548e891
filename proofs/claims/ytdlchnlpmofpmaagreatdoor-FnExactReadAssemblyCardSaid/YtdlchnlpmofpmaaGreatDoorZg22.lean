/- Laws that the proof stands on. -/
import Derived.Test.YtdlchnlpmofpmaaGreatDoorZg21
import Derived.Test.YtdlchnlpmofpmaaGreatDoorZg13
import Derived.Test.YtdlchnlpmofpmaaGreatDoorZVTab
set_option linter.all false
namespace Go.Proofs.YtdlchnlpmofpmaaGreatDoor
open Go.RowKit Go.V
attribute [local go_sem] List.getElem?_cons_succ List.getElem?_cons_zero List.set_cons_succ List.set_cons_zero List.map_cons List.map_nil List.length_cons List.length_nil List.all_cons List.all_nil List.drop_succ_cons List.drop_zero List.take_succ_cons List.take_zero List.flatMap_cons List.flatMap_nil List.cons_append List.nil_append List.append_nil List.headD_cons Value.oneCell' Bool.and_true Bool.true_and Bool.or_false Bool.false_or Bool.and_self Bool.not_true Bool.not_false and_true true_and beq_self_eq_true Bool.false_eq_true if_true if_false Nat.zero_add Nat.reduceAdd Nat.reduceMul Nat.reduceLeDiff Nat.le_refl Option.isSome_some Option.isSome_none not_true_eq_false not_false_eq_true ne_eq reduceCtorEq List.reverse_nil bne_self_eq_false Nat.reduceEqDiff List.isPrefixOf Bool.not_eq_true Bool.and_false Bool.false_and Bool.true_or Bool.or_true decide_true decide_false Nat.reduceBEq Nat.reduceBNe List.replicate_succ List.replicate_zero exists_eq_left' exists_eq_left Option.some.injEq or_false or_true true_or false_or Option.map_some Option.map_none mB Nat.reduceMod Nat.reduceDiv
set_option maxRecDepth 100000
def comB:ByteArray:=⟨⟨[44]⟩⟩
def ixC (s:ByteArray):Int:=Lib.indexByte s.data.toList 44
theorem yOf (s:ByteArray) : -1≤ixC s∧ixC s<s.size:=by
  unfold ixC;rcases zM0 s.data.toList 44 with ⟨h,_⟩ | ⟨k,h,hk,_⟩
  · rw [h];omega
  · rw [h];exact ⟨by omega,by have:k<s.size:=hk;omega⟩
def code_internal_stringslite_Index:VCode:=(.seq (.ops [
  ⟨(some 4),none,(.asg (.const (.int .i64 0)))⟩]) (.seq (.ops [
  ⟨(some 14),none,(.mv (.tmp 1))⟩,
  ⟨(some 15),none,(.lenS (.tmp 14))⟩,
  ⟨(some 5),none,(.asg (.tmp 15))⟩]) (.seq (.block 0 (.seq (.ops [
  ⟨(some 17),none,(.mv (.tmp 5))⟩,
  ⟨(some 18),none,(.bin .eql (.tmp 17) (.const (.int .i64 0)))⟩,
  ⟨(some 19),none,(.mv (.tmp 18))⟩,
  ⟨(some 20),(some (19,false)),(.mv (.tmp 1))⟩,
  ⟨(some 21),(some (19,false)),(.mv (.tmp 0))⟩,
  ⟨(some 22),(some (19,false)),(.bin .eql (.tmp 20) (.tmp 21))⟩,
  ⟨(some 23),none,(.pick (.tmp 19) (.const (.bool true)) (.tmp 22))⟩,
  ⟨(some 16),none,(.asg (.tmp 23))⟩]) (.cond (.tmp 16) (.seq (.ops [
  ⟨(some 4),none,(.asg (.const (.int .i64 0)))⟩]) .ret) (.seq (.ops [
  ⟨(some 25),none,(.mv (.tmp 5))⟩,
  ⟨(some 26),none,(.bin .eql (.tmp 25) (.const (.int .i64 1)))⟩,
  ⟨(some 24),none,(.asg (.tmp 26))⟩]) (.cond (.tmp 24) (.seq (.ops [
  ⟨(some 27),none,(.mv (.tmp 0))⟩,
  ⟨(some 28),none,(.mv (.tmp 1))⟩,
  ⟨(some 29),none,(.ixs (.tmp 28) (.const (.int .i64 0)))⟩,
  ⟨(some 30),none,(.callX 115 [(.tmp 27),(.tmp 29)])⟩,
  ⟨(some 4),none,(.asg (.tmp 30))⟩]) .ret) (.seq (.ops [
  ⟨(some 32),none,(.mv (.tmp 5))⟩,
  ⟨(some 33),none,(.mv (.tmp 0))⟩,
  ⟨(some 34),none,(.lenS (.tmp 33))⟩,
  ⟨(some 35),none,(.bin .geq (.tmp 32) (.tmp 34))⟩,
  ⟨(some 31),none,(.asg (.tmp 35))⟩]) (.cond (.tmp 31) (.seq (.ops [
  ⟨(some 4),none,(.asg (.const (.int .i64 (-1))))⟩]) .ret) (.seq (.ops [
  ⟨(some 37),none,(.mv (.tmp 5))⟩,
  ⟨(some 38),none,(.load 1 false (.global 1))⟩,
  ⟨(some 39),none,(.bin .leq (.tmp 37) (.tmp 38))⟩,
  ⟨(some 40),none,(.mv (.tmp 39))⟩,
  ⟨(some 41),(some (40,true)),(.mv (.tmp 0))⟩,
  ⟨(some 42),(some (40,true)),(.lenS (.tmp 41))⟩,
  ⟨(some 43),(some (40,true)),(.bin .leq (.tmp 42) (.const (.int .i64 64)))⟩,
  ⟨(some 44),none,(.pick (.tmp 40) (.tmp 43) (.const (.bool false)))⟩,
  ⟨(some 36),none,(.asg (.tmp 44))⟩]) (.cond (.tmp 36) (.seq (.ops [
  ⟨(some 45),none,(.mv (.tmp 0))⟩,
  ⟨(some 46),none,(.mv (.tmp 1))⟩,
  ⟨(some 47),none,(.callX 127 [(.tmp 45),(.tmp 46)])⟩,
  ⟨(some 4),none,(.asg (.tmp 47))⟩]) .ret) .skip))))))))) (.seq (.ops [
  ⟨(some 48),none,(.mv (.tmp 1))⟩,
  ⟨(some 49),none,(.ixs (.tmp 48) (.const (.int .i64 0)))⟩,
  ⟨(some 6),none,(.asg (.tmp 49))⟩]) (.seq (.ops [
  ⟨(some 50),none,(.mv (.tmp 1))⟩,
  ⟨(some 51),none,(.ixs (.tmp 50) (.const (.int .i64 1)))⟩,
  ⟨(some 7),none,(.asg (.tmp 51))⟩]) (.seq (.ops [
  ⟨(some 8),none,(.asg (.const (.int .i64 0)))⟩]) (.seq (.ops [
  ⟨(some 52),none,(.mv (.tmp 0))⟩,
  ⟨(some 53),none,(.lenS (.tmp 52))⟩,
  ⟨(some 54),none,(.mv (.tmp 5))⟩,
  ⟨(some 55),none,(.bin .sub (.tmp 53) (.tmp 54))⟩,
  ⟨(some 56),none,(.bin .add (.tmp 55) (.const (.int .i64 1)))⟩,
  ⟨(some 9),none,(.asg (.tmp 56))⟩]) (.seq (.ops [
  ⟨(some 10),none,(.asg (.const (.int .i64 0)))⟩]) (.seq (.block 1 (.loop (mB 143 11150372599265311570767859136324180752988188) (.seq (.seq (.ops [
  ⟨(some 57),none,(.mv (.tmp 8))⟩,
  ⟨(some 58),none,(.mv (.tmp 9))⟩,
  ⟨(some 59),none,(.bin .lss (.tmp 57) (.tmp 58))⟩]) (.cond (.tmp 59) .skip (.exit 1))) (.block 2 (.seq (.seq (.ops [
  ⟨(some 60),none,(.mv (.tmp 0))⟩,
  ⟨(some 61),none,(.mv (.tmp 8))⟩,
  ⟨(some 62),none,(.ixs (.tmp 60) (.tmp 61))⟩,
  ⟨(some 63),none,(.mv (.tmp 6))⟩,
  ⟨(some 64),none,(.bin .neq (.tmp 62) (.tmp 63))⟩]) (.cond (.tmp 64) (.seq (.ops [
  ⟨(some 65),none,(.mv (.tmp 0))⟩,
  ⟨(some 66),none,(.mv (.tmp 8))⟩,
  ⟨(some 67),none,(.bin .add (.tmp 66) (.const (.int .i64 1)))⟩,
  ⟨(some 68),none,(.mv (.tmp 9))⟩,
  ⟨(some 69),none,(.slcS (.tmp 65) (some (.tmp 67)) (some (.tmp 68)))⟩,
  ⟨(some 70),none,(.mv (.tmp 6))⟩,
  ⟨(some 71),none,(.callX 115 [(.tmp 69),(.tmp 70)])⟩,
  ⟨(some 11),none,(.asg (.tmp 71))⟩]) (.seq (.seq (.ops [
  ⟨(some 72),none,(.mv (.tmp 11))⟩,
  ⟨(some 73),none,(.bin .lss (.tmp 72) (.const (.int .i64 0)))⟩]) (.cond (.tmp 73) (.seq (.ops [
  ⟨(some 4),none,(.asg (.const (.int .i64 (-1))))⟩]) .ret) .skip)) (.ops [
  ⟨(some 74),none,(.mv (.tmp 8))⟩,
  ⟨(some 75),none,(.mv (.tmp 11))⟩,
  ⟨(some 76),none,(.bin .add (.tmp 75) (.const (.int .i64 1)))⟩,
  ⟨(some 77),none,(.bin .add (.tmp 74) (.tmp 76))⟩,
  ⟨(some 8),none,(.asg (.tmp 77))⟩]))) .skip)) (.seq (.seq (.ops [
  ⟨(some 78),none,(.mv (.tmp 0))⟩,
  ⟨(some 79),none,(.mv (.tmp 8))⟩,
  ⟨(some 80),none,(.bin .add (.tmp 79) (.const (.int .i64 1)))⟩,
  ⟨(some 81),none,(.ixs (.tmp 78) (.tmp 80))⟩,
  ⟨(some 82),none,(.mv (.tmp 7))⟩,
  ⟨(some 83),none,(.bin .eql (.tmp 81) (.tmp 82))⟩,
  ⟨(some 84),none,(.mv (.tmp 83))⟩,
  ⟨(some 85),(some (84,true)),(.mv (.tmp 0))⟩,
  ⟨(some 86),(some (84,true)),(.mv (.tmp 8))⟩,
  ⟨(some 87),(some (84,true)),(.mv (.tmp 8))⟩,
  ⟨(some 88),(some (84,true)),(.mv (.tmp 5))⟩,
  ⟨(some 89),(some (84,true)),(.bin .add (.tmp 87) (.tmp 88))⟩,
  ⟨(some 90),(some (84,true)),(.slcS (.tmp 85) (some (.tmp 86)) (some (.tmp 89)))⟩,
  ⟨(some 91),(some (84,true)),(.mv (.tmp 1))⟩,
  ⟨(some 92),(some (84,true)),(.bin .eql (.tmp 90) (.tmp 91))⟩,
  ⟨(some 93),none,(.pick (.tmp 84) (.tmp 92) (.const (.bool false)))⟩]) (.cond (.tmp 93) (.seq (.ops [
  ⟨(some 94),none,(.mv (.tmp 8))⟩,
  ⟨(some 4),none,(.asg (.tmp 94))⟩]) .ret) .skip)) (.seq (.ops [
  ⟨(some 95),none,(.mv (.tmp 8))⟩,
  ⟨(some 96),none,(.bin .add (.tmp 95) (.const (.int .i64 1)))⟩,
  ⟨(some 8),none,(.asg (.tmp 96))⟩]) (.seq (.ops [
  ⟨(some 97),none,(.mv (.tmp 10))⟩,
  ⟨(some 98),none,(.bin .add (.tmp 97) (.const (.int .i64 1)))⟩,
  ⟨(some 10),none,(.asg (.tmp 98))⟩]) (.seq (.ops [
  ⟨(some 99),none,(.mv (.tmp 5))⟩,
  ⟨(some 100),none,(.load 1 false (.global 1))⟩,
  ⟨(some 101),none,(.bin .leq (.tmp 99) (.tmp 100))⟩,
  ⟨(some 102),none,(.mv (.tmp 101))⟩,
  ⟨(some 103),(some (102,true)),(.mv (.tmp 10))⟩,
  ⟨(some 104),(some (102,true)),(.mv (.tmp 8))⟩,
  ⟨(some 105),(some (102,true)),(.callX 128 [(.tmp 104)])⟩,
  ⟨(some 106),(some (102,true)),(.bin .gtr (.tmp 103) (.tmp 105))⟩,
  ⟨(some 107),none,(.pick (.tmp 102) (.tmp 106) (.const (.bool false)))⟩]) (.cond (.tmp 107) (.seq (.ops [
  ⟨(some 108),none,(.mv (.tmp 0))⟩,
  ⟨(some 109),none,(.mv (.tmp 8))⟩,
  ⟨(some 110),none,(.slcS (.tmp 108) (some (.tmp 109)) none)⟩,
  ⟨(some 111),none,(.mv (.tmp 1))⟩,
  ⟨(some 112),none,(.callX 127 [(.tmp 110),(.tmp 111)])⟩,
  ⟨(some 12),none,(.asg (.tmp 112))⟩]) (.seq (.seq (.ops [
  ⟨(some 113),none,(.mv (.tmp 12))⟩,
  ⟨(some 114),none,(.bin .geq (.tmp 113) (.const (.int .i64 0)))⟩]) (.cond (.tmp 114) (.seq (.ops [
  ⟨(some 115),none,(.mv (.tmp 12))⟩,
  ⟨(some 116),none,(.mv (.tmp 8))⟩,
  ⟨(some 117),none,(.bin .add (.tmp 115) (.tmp 116))⟩,
  ⟨(some 4),none,(.asg (.tmp 117))⟩]) .ret) .skip)) (.seq (.ops [
  ⟨(some 4),none,(.asg (.const (.int .i64 (-1))))⟩]) .ret))) (.seq (.ops [
  ⟨(some 118),none,(.mv (.tmp 5))⟩,
  ⟨(some 119),none,(.load 1 false (.global 1))⟩,
  ⟨(some 120),none,(.bin .gtr (.tmp 118) (.tmp 119))⟩,
  ⟨(some 121),none,(.mv (.tmp 120))⟩,
  ⟨(some 122),(some (121,true)),(.mv (.tmp 10))⟩,
  ⟨(some 123),(some (121,true)),(.mv (.tmp 8))⟩,
  ⟨(some 124),(some (121,true)),(.bin .shr (.tmp 123) (.const (.int .u64 4)))⟩,
  ⟨(some 125),(some (121,true)),(.bin .add (.const (.int .i64 4)) (.tmp 124))⟩,
  ⟨(some 126),(some (121,true)),(.bin .geq (.tmp 122) (.tmp 125))⟩,
  ⟨(some 127),none,(.pick (.tmp 121) (.tmp 126) (.const (.bool false)))⟩,
  ⟨(some 128),none,(.mv (.tmp 127))⟩,
  ⟨(some 129),(some (128,true)),(.mv (.tmp 8))⟩,
  ⟨(some 130),(some (128,true)),(.mv (.tmp 9))⟩,
  ⟨(some 131),(some (128,true)),(.bin .lss (.tmp 129) (.tmp 130))⟩,
  ⟨(some 132),none,(.pick (.tmp 128) (.tmp 131) (.const (.bool false)))⟩]) (.cond (.tmp 132) (.seq (.ops [
  ⟨(some 133),none,(.mv (.tmp 0))⟩,
  ⟨(some 134),none,(.mv (.tmp 8))⟩,
  ⟨(some 135),none,(.slcS (.tmp 133) (some (.tmp 134)) none)⟩,
  ⟨(some 136),none,(.mv (.tmp 1))⟩,
  ⟨(some 137),none,(.callX 129 [(.tmp 135),(.tmp 136)])⟩,
  ⟨(some 13),none,(.asg (.tmp 137))⟩]) (.seq (.seq (.ops [
  ⟨(some 138),none,(.mv (.tmp 13))⟩,
  ⟨(some 139),none,(.bin .lss (.tmp 138) (.const (.int .i64 0)))⟩]) (.cond (.tmp 139) (.seq (.ops [
  ⟨(some 4),none,(.asg (.const (.int .i64 (-1))))⟩]) .ret) .skip)) (.seq (.ops [
  ⟨(some 140),none,(.mv (.tmp 8))⟩,
  ⟨(some 141),none,(.mv (.tmp 13))⟩,
  ⟨(some 142),none,(.bin .add (.tmp 140) (.tmp 141))⟩,
  ⟨(some 4),none,(.asg (.tmp 142))⟩]) .ret))) .skip)))))))))))) (.seq (.ops [
  ⟨(some 4),none,(.asg (.const (.int .i64 (-1))))⟩]) .ret))))))))))
theorem zDr {a0 a1 d:D}(h:code_internal_stringslite_Index.wp (CT Tryz.prog zAr) (zC9 [(.t 4)] d) [a0,a1,.undef,.undef,.undef,.undef,.undef,.undef,.undef,.undef,.undef,.undef,.undef,.undef,.undef,.undef,.undef,.undef,.undef,.undef,.undef,.undef,.undef,.undef,.undef,.undef,.undef,.undef,.undef,.undef,.undef,.undef,.undef,.undef,.undef,.undef,.undef,.undef,.undef,.undef,.undef,.undef,.undef,.undef,.undef,.undef,.undef,.undef,.undef,.undef,.undef,.undef,.undef,.undef,.undef,.undef,.undef,.undef,.undef,.undef,.undef,.undef,.undef,.undef,.undef,.undef,.undef,.undef,.undef,.undef,.undef,.undef,.undef,.undef,.undef,.undef,.undef,.undef,.undef,.undef,.undef,.undef,.undef,.undef,.undef,.undef,.undef,.undef,.undef,.undef,.undef,.undef,.undef,.undef,.undef,.undef,.undef,.undef,.undef,.undef,.undef,.undef,.undef,.undef,.undef,.undef,.undef,.undef,.undef,.undef,.undef,.undef,.undef,.undef,.undef,.undef,.undef,.undef,.undef,.undef,.undef,.undef,.undef,.undef,.undef,.undef,.undef,.undef,.undef,.undef,.undef,.undef,.undef,.undef,.undef,.undef,.undef,.undef,.undef,.undef,.undef,.undef,.undef]):Contract Tryz.prog zAr 117 [a0,a1] d :=
  zAk (pt:=0) zC6 Tryz.func117 (fun us W=>by kernel_rfl) (c:=Tryz.f117.body.getD .skip) (ms:=[(mB 143 11150372599265311570767859136324180752988188)]) (ms':=[]) (by kernel_rfl) (by kernel_rfl) (by kernel_rfl) h
def code_internal_stringslite_Cut:VCode:=(.seq (.ops [
  ⟨(some 4),none,(.asg (.const (.string ⟨⟨[]⟩⟩)))⟩,
  ⟨(some 5),none,(.asg (.const (.string ⟨⟨[]⟩⟩)))⟩,
  ⟨(some 6),none,(.asg (.const (.bool false)))⟩]) (.seq (.seq (.ops [
  ⟨(some 8),none,(.mv (.tmp 0))⟩,
  ⟨(some 9),none,(.mv (.tmp 1))⟩,
  ⟨(some 10),none,(.callX 117 [(.tmp 8),(.tmp 9)])⟩,
  ⟨(some 7),none,(.asg (.tmp 10))⟩]) (.seq (.ops [
  ⟨(some 11),none,(.mv (.tmp 7))⟩,
  ⟨(some 12),none,(.bin .geq (.tmp 11) (.const (.int .i64 0)))⟩]) (.cond (.tmp 12) (.seq (.draw (mB 22 4186128) (mB 16 32768) [⟨0,(mB 22 4186128),[],⟨(some 13),none,(.mv (.tmp 0))⟩⟩,⟨1,(mB 22 4186128),[],⟨(some 14),none,(.mv (.tmp 7))⟩⟩,⟨2,(mB 22 4161552),[],⟨(some 15),none,(.slcS (.tmp 13) none (some (.tmp 14)))⟩⟩,⟨3,(mB 22 4186128),[],⟨(some 16),none,(.mv (.tmp 0))⟩⟩,⟨4,(mB 22 4186128),[],⟨(some 17),none,(.mv (.tmp 7))⟩⟩,⟨5,(mB 22 4186128),[],⟨(some 18),none,(.mv (.tmp 1))⟩⟩,⟨6,(mB 22 3923984),[],⟨(some 19),none,(.lenS (.tmp 18))⟩⟩,⟨7,(mB 22 3268624),[],⟨(some 20),none,(.bin .add (.tmp 17) (.tmp 19))⟩⟩,⟨8,(mB 22 2154512),[],⟨(some 21),none,(.slcS (.tmp 16) (some (.tmp 20)) none)⟩⟩,⟨9,(mB 22 4128784),(mB 16 32768),⟨(some 4),none,(.asg (.tmp 15))⟩⟩] [⟨(some 5),none,(.asg (.tmp 21))⟩,⟨(some 6),none,(.asg (.const (.bool true)))⟩]) .ret) .skip))) (.seq (.ops [
  ⟨(some 22),none,(.mv (.tmp 0))⟩,
  ⟨(some 4),none,(.asg (.tmp 22))⟩,
  ⟨(some 5),none,(.asg (.const (.string ⟨⟨[]⟩⟩)))⟩,
  ⟨(some 6),none,(.asg (.const (.bool false)))⟩]) .ret)))
theorem zD3 {a0 a1 d:D}(h:code_internal_stringslite_Cut.wp (CT Tryz.prog zAr) (zC9 [(.t 4),(.t 5),(.t 6)] d) [a0,a1,.undef,.undef,.undef,.undef,.undef,.undef,.undef,.undef,.undef,.undef,.undef,.undef,.undef,.undef,.undef,.undef,.undef,.undef,.undef,.undef,.undef]):Contract Tryz.prog zAr 101 [a0,a1] d :=
  zAk (pt:=0) zC6 Tryz.func101 (fun us W=>by kernel_rfl) (c:=Tryz.f101.body.getD .skip) (ms:=[]) (ms':=[]) (by kernel_rfl) (by kernel_rfl) (by kernel_rfl) h
def code_strings_Cut:VCode:=(.seq (.ops [
  ⟨(some 4),none,(.asg (.const (.string ⟨⟨[]⟩⟩)))⟩,
  ⟨(some 5),none,(.asg (.const (.string ⟨⟨[]⟩⟩)))⟩,
  ⟨(some 6),none,(.asg (.const (.bool false)))⟩]) (.seq (.ops [
  ⟨(some 7),none,(.mv (.tmp 0))⟩,
  ⟨(some 8),none,(.mv (.tmp 1))⟩,
  ⟨(some 9),none,(.callX 101 [(.tmp 7),(.tmp 8)])⟩,
  ⟨(some 10),none,(.ext (.tmp 9) 0)⟩,
  ⟨(some 11),none,(.ext (.tmp 9) 1)⟩,
  ⟨(some 12),none,(.ext (.tmp 9) 2)⟩,
  ⟨(some 4),none,(.asg (.tmp 10))⟩,
  ⟨(some 5),none,(.asg (.tmp 11))⟩,
  ⟨(some 6),none,(.asg (.tmp 12))⟩]) .ret))
theorem zMt {a0 a1 d:D}(h:code_strings_Cut.wp (CT Tryz.prog zAr) (zC9 [(.t 4),(.t 5),(.t 6)] d) [a0,a1,.undef,.undef,.undef,.undef,.undef,.undef,.undef,.undef,.undef,.undef,.undef]):Contract Tryz.prog zAr 81 [a0,a1] d :=
  zAk (pt:=0) zC6 Tryz.func81 (fun us W=>by kernel_rfl) (c:=Tryz.f81.body.getD .skip) (ms:=[]) (ms':=[]) (by kernel_rfl) (by kernel_rfl) (by kernel_rfl) h
set_option maxHeartbeats 2000000 in
theorem yEn (s:ByteArray):Contract Tryz.prog zAr 117 [.v (.string s),.v (.string comB)] (.v (.int .i64 (ixC s))):=by
  refine zDr ?_;unfold code_internal_stringslite_Index;have n1:comB.size=1:=rfl;have e0:comB[Int.toNat 0]?=some 44:=rfl;have d0:decide (((1:Nat):Int)=0)=false:=rfl;have d1:decide (((1:Nat):Int)=1)=true:=rfl;cases hs:decide (comB=s) with
  | true=>have h:=of_decide_eq_true hs;have hx:ixC s=0:=(by rw [← h];rfl);rw [hx];simp -implicitDefEqProofs (disch:=omega) only [go_sem,↓reduceIte ,n1,d0,d1,hs]
  | false =>
    have hI:=zQ7 s 44;simp -implicitDefEqProofs (disch:=omega) only [go_sem,↓reduceIte ,n1,d0,d1,hs,e0];refine ⟨by omega,?_⟩;refine zAm (hI) (by simp -implicitDefEqProofs (disch:=omega) only [go_sem,↓reduceIte,deep,TD.rows,zAe,zAc,zAf,zAb,zAd,zAa];exact rfl) ?_;simp -implicitDefEqProofs (disch:=omega) only [go_sem,↓reduceIte]
    first | done | rfl
def yUg (s:ByteArray):D:=.tup [.v (.string (zYx s).1),.v (.string (zYx s).2),.v (.bool (decide (ixC s≥0)))]
set_option maxHeartbeats 2000000 in
theorem yQ7 (s:ByteArray)(hs:s.size≤1048576):Contract Tryz.prog zAr 81 [.v (.string s),.v (.string comB)] (yUg s):=by
  have h1:Contract Tryz.prog zAr 101 [.v (.string s),.v (.string comB)] (yUg s):=by
    refine zD3 ?_;unfold code_internal_stringslite_Cut;have hI:=yEn s;have hr:=yOf s;have n1:comB.size=1:=rfl;unfold yUg zYx;by_cases hx:ixC s = -1
    · have d:decide (ixC s≥0)=false:=decide_eq_false (by omega);have hx':Lib.indexByte s.data.toList 44 = -1:=hx;rw [if_pos hx'];simp -implicitDefEqProofs (disch:=omega) only [go_sem,↓reduceIte];refine zAm (hI) (by simp -implicitDefEqProofs (disch:=omega) only [go_sem,↓reduceIte,deep,TD.rows,zAe,zAc,zAf,zAb,zAd,zAa,d];exact rfl) ?_;simp -implicitDefEqProofs (disch:=omega) only [go_sem,↓reduceIte ,d];rfl
    · have d:decide (ixC s≥0)=true:=decide_eq_true (by omega);have hx':¬ Lib.indexByte s.data.toList 44 = -1:=hx;rw [if_neg hx'];simp -implicitDefEqProofs (disch:=omega) only [go_sem,↓reduceIte];refine zAm (hI) (by simp -implicitDefEqProofs (disch:=omega) only [go_sem,↓reduceIte,deep,TD.rows,zAe,zAc,zAf,zAb,zAd,zAa,d,n1];exact rfl) ?_;simp -implicitDefEqProofs (disch:=omega) only [go_sem,↓reduceIte ,d,n1];have hw:IntKind.i64.wrap (ixC s+((1:Nat):Int))=ixC s+1:=wrI (by omega) (by omega);have ht:(ixC s+1).toNat=(ixC s).toNat+1:=(by omega);rw [hw,ht,Int.toNat_natCast];exact ⟨by omega,by omega,by omega,by omega,by omega,by omega,rfl,rfl⟩
  refine zMt ?_;unfold code_strings_Cut;unfold yUg at h1 ⊢;simp -implicitDefEqProofs (disch:=omega) only [go_sem,↓reduceIte];refine zAm (h1) (by simp -implicitDefEqProofs (disch:=omega) only [go_sem,↓reduceIte,deep,TD.rows,zAe,zAc,zAf,zAb,zAd,zAa];exact rfl) ?_;simp -implicitDefEqProofs (disch:=omega) only [go_sem,↓reduceIte]
theorem zSr (s:ByteArray):(zYx s).1.size≤s.size∧(zYx s).2.size≤s.size:=by
  unfold zYx;split
  · exact ⟨Nat.le_refl _,Nat.zero_le _⟩
  · simp only [ByteArray.size_extract];exact ⟨by omega,by omega⟩
def rpD (o:Option Point):D:=.tup [.agg (Point.td.d true (o.getD ⟨0,0⟩)),.v (.bool o.isSome)]
def code_impl_ReadPoint:VCode:=(.seq (.ops [
  ⟨(some 2),none,(.alloc [(.int .i64 0),(.int .i64 0)])⟩,
  ⟨(some 3),none,(.asg (.const (.bool false)))⟩]) (.seq (.ops [
  ⟨(some 13),none,(.mv (.tmp 0))⟩,
  ⟨(some 14),none,(.callX 81 [(.tmp 13),(.const (.string ⟨⟨[44]⟩⟩))])⟩,
  ⟨(some 12),none,(.mv (.tmp 14))⟩,
  ⟨(some 15),none,(.ext (.tmp 12) 0)⟩,
  ⟨(some 16),none,(.ext (.tmp 12) 1)⟩,
  ⟨(some 17),none,(.ext (.tmp 12) 2)⟩,
  ⟨(some 4),none,(.asg (.tmp 15))⟩,
  ⟨(some 5),none,(.asg (.tmp 16))⟩,
  ⟨(some 6),none,(.asg (.tmp 17))⟩]) (.seq (.ops [
  ⟨(some 19),none,(.mv (.tmp 4))⟩,
  ⟨(some 20),none,(.callX 82 [(.tmp 19)])⟩,
  ⟨(some 18),none,(.mv (.tmp 20))⟩,
  ⟨(some 21),none,(.ext (.tmp 18) 0)⟩,
  ⟨(some 22),none,(.ext (.tmp 18) 1)⟩,
  ⟨(some 7),none,(.asg (.tmp 21))⟩,
  ⟨(some 8),none,(.asg (.tmp 22))⟩]) (.seq (.ops [
  ⟨(some 24),none,(.mv (.tmp 5))⟩,
  ⟨(some 25),none,(.callX 82 [(.tmp 24)])⟩,
  ⟨(some 23),none,(.mv (.tmp 25))⟩,
  ⟨(some 26),none,(.ext (.tmp 23) 0)⟩,
  ⟨(some 27),none,(.ext (.tmp 23) 1)⟩,
  ⟨(some 9),none,(.asg (.tmp 26))⟩,
  ⟨(some 10),none,(.asg (.tmp 27))⟩]) (.seq (.ops [
  ⟨(some 28),none,(.mv (.tmp 7))⟩,
  ⟨(some 29),none,(.mv (.tmp 9))⟩,
  ⟨(some 30),none,(.build [(.int .i64 0),(.int .i64 0)] [(0,1,(.tmp 28)),(1,1,(.tmp 29))])⟩,
  ⟨(some 11),none,(.alloc [(.int .i64 0),(.int .i64 0)])⟩,
  ⟨none,none,(.store 2 (.tmp 11) (.tmp 30))⟩]) (.seq (.seq (.ops [
  ⟨(some 31),none,(.mv (.tmp 8))⟩,
  ⟨(some 32),none,(.un .not (.tmp 31))⟩,
  ⟨(some 33),none,(.mv (.tmp 32))⟩,
  ⟨(some 34),(some (33,false)),(.mv (.tmp 10))⟩,
  ⟨(some 35),(some (33,false)),(.un .not (.tmp 34))⟩,
  ⟨(some 36),none,(.pick (.tmp 33) (.const (.bool true)) (.tmp 35))⟩,
  ⟨(some 37),none,(.mv (.tmp 36))⟩,
  ⟨(some 38),(some (37,false)),(.load 2 true (.tmp 11))⟩,
  ⟨(some 39),(some (37,false)),(.callX 83 [(.tmp 38)])⟩,
  ⟨(some 40),(some (37,false)),(.un .not (.tmp 39))⟩,
  ⟨(some 41),none,(.pick (.tmp 37) (.const (.bool true)) (.tmp 40))⟩]) (.cond (.tmp 41) (.seq (.ops [
  ⟨(some 42),none,(.build [(.int .i64 0),(.int .i64 0)] [])⟩,
  ⟨none,none,(.store 2 (.tmp 2) (.tmp 42))⟩,
  ⟨(some 3),none,(.asg (.const (.bool false)))⟩]) .ret) .skip)) (.seq (.ops [
  ⟨(some 43),none,(.load 2 true (.tmp 11))⟩,
  ⟨none,none,(.store 2 (.tmp 2) (.tmp 43))⟩,
  ⟨(some 3),none,(.asg (.const (.bool true)))⟩]) .ret)))))))
theorem zIq {a0 d:D}(h:code_impl_ReadPoint.wp (CT Tryz.prog zAr) (zC9 [(.c 2 2 true),(.t 3)] d) [a0,.undef,.undef,.undef,.undef,.undef,.undef,.undef,.undef,.undef,.undef,.undef,.undef,.undef,.undef,.undef,.undef,.undef,.undef,.undef,.undef,.undef,.undef,.undef,.undef,.undef,.undef,.undef,.undef,.undef,.undef,.undef,.undef,.undef,.undef,.undef,.undef,.undef,.undef,.undef,.undef,.undef,.undef,.undef]):Contract Tryz.prog zAr 49 [a0] d :=
  zAk (pt:=0) zC6 Tryz.func49 (fun us W=>by kernel_rfl) (c:=Tryz.f49.body.getD .skip) (ms:=[]) (ms':=[]) (by kernel_rfl) (by kernel_rfl) (by kernel_rfl) h
def code_spec_ReadPoint:VCode:=(.seq (.ops [
  ⟨(some 2),none,(.alloc [(.int .i64 0),(.int .i64 0)])⟩,
  ⟨(some 3),none,(.asg (.const (.bool false)))⟩]) (.seq (.ops [
  ⟨(some 10),none,(.mv (.tmp 0))⟩,
  ⟨(some 11),none,(.callX 39 [(.tmp 10),(.const (.int .u8 44))])⟩,
  ⟨(some 4),none,(.asg (.tmp 11))⟩]) (.seq (.seq (.ops [
  ⟨(some 12),none,(.mv (.tmp 4))⟩,
  ⟨(some 13),none,(.len (.tmp 12))⟩,
  ⟨(some 14),none,(.bin .neq (.tmp 13) (.const (.int .i64 2)))⟩]) (.cond (.tmp 14) (.seq (.ops [
  ⟨(some 15),none,(.build [(.int .i64 0),(.int .i64 0)] [])⟩,
  ⟨none,none,(.store 2 (.tmp 2) (.tmp 15))⟩,
  ⟨(some 3),none,(.asg (.const (.bool false)))⟩]) .ret) .skip)) (.seq (.ops [
  ⟨(some 17),none,(.mv (.tmp 4))⟩,
  ⟨(some 18),none,(.ia 1 (.tmp 17) (.const (.int .i64 0)))⟩,
  ⟨(some 19),none,(.load 1 false (.tmp 18))⟩,
  ⟨(some 20),none,(.callX 65 [(.tmp 19)])⟩,
  ⟨(some 16),none,(.mv (.tmp 20))⟩,
  ⟨(some 21),none,(.ext (.tmp 16) 0)⟩,
  ⟨(some 22),none,(.ext (.tmp 16) 1)⟩,
  ⟨(some 5),none,(.asg (.tmp 21))⟩,
  ⟨(some 6),none,(.asg (.tmp 22))⟩]) (.seq (.ops [
  ⟨(some 24),none,(.mv (.tmp 4))⟩,
  ⟨(some 25),none,(.ia 1 (.tmp 24) (.const (.int .i64 1)))⟩,
  ⟨(some 26),none,(.load 1 false (.tmp 25))⟩,
  ⟨(some 27),none,(.callX 65 [(.tmp 26)])⟩,
  ⟨(some 23),none,(.mv (.tmp 27))⟩,
  ⟨(some 28),none,(.ext (.tmp 23) 0)⟩,
  ⟨(some 29),none,(.ext (.tmp 23) 1)⟩,
  ⟨(some 7),none,(.asg (.tmp 28))⟩,
  ⟨(some 8),none,(.asg (.tmp 29))⟩]) (.seq (.ops [
  ⟨(some 30),none,(.mv (.tmp 5))⟩,
  ⟨(some 31),none,(.mv (.tmp 7))⟩,
  ⟨(some 32),none,(.build [(.int .i64 0),(.int .i64 0)] [(0,1,(.tmp 30)),(1,1,(.tmp 31))])⟩,
  ⟨(some 9),none,(.alloc [(.int .i64 0),(.int .i64 0)])⟩,
  ⟨none,none,(.store 2 (.tmp 9) (.tmp 32))⟩]) (.seq (.seq (.ops [
  ⟨(some 33),none,(.mv (.tmp 6))⟩,
  ⟨(some 34),none,(.un .not (.tmp 33))⟩,
  ⟨(some 35),none,(.mv (.tmp 34))⟩,
  ⟨(some 36),(some (35,false)),(.mv (.tmp 8))⟩,
  ⟨(some 37),(some (35,false)),(.un .not (.tmp 36))⟩,
  ⟨(some 38),none,(.pick (.tmp 35) (.const (.bool true)) (.tmp 37))⟩,
  ⟨(some 39),none,(.mv (.tmp 38))⟩,
  ⟨(some 40),(some (39,false)),(.load 2 true (.tmp 9))⟩,
  ⟨(some 41),(some (39,false)),(.callX 66 [(.tmp 40)])⟩,
  ⟨(some 42),(some (39,false)),(.un .not (.tmp 41))⟩,
  ⟨(some 43),none,(.pick (.tmp 39) (.const (.bool true)) (.tmp 42))⟩]) (.cond (.tmp 43) (.seq (.ops [
  ⟨(some 44),none,(.build [(.int .i64 0),(.int .i64 0)] [])⟩,
  ⟨none,none,(.store 2 (.tmp 2) (.tmp 44))⟩,
  ⟨(some 3),none,(.asg (.const (.bool false)))⟩]) .ret) .skip)) (.seq (.ops [
  ⟨(some 45),none,(.load 2 true (.tmp 9))⟩,
  ⟨none,none,(.store 2 (.tmp 2) (.tmp 45))⟩,
  ⟨(some 3),none,(.asg (.const (.bool true)))⟩]) .ret))))))))
theorem zIm {a0 d:D}(h:code_spec_ReadPoint.wp (CT Tryz.prog zAr) (zC9 [(.c 2 2 true),(.t 3)] d) [a0,.undef,.undef,.undef,.undef,.undef,.undef,.undef,.undef,.undef,.undef,.undef,.undef,.undef,.undef,.undef,.undef,.undef,.undef,.undef,.undef,.undef,.undef,.undef,.undef,.undef,.undef,.undef,.undef,.undef,.undef,.undef,.undef,.undef,.undef,.undef,.undef,.undef,.undef,.undef,.undef,.undef,.undef,.undef,.undef,.undef]):Contract Tryz.prog zAr 40 [a0] d :=
  zAk (pt:=0) zC6 Tryz.func40 (fun us W=>by kernel_rfl) (c:=Tryz.f40.body.getD .skip) (ms:=[]) (ms':=[]) (by kernel_rfl) (by kernel_rfl) (by kernel_rfl) h
set_option maxHeartbeats 4000000 in
theorem zK2 (b:ByteArray) (hb:b.size≤1048576):Contract Tryz.prog zAr 49 [.v (.string b)] (rpD (zN1 b)):=by
  refine zIq ?_;unfold code_impl_ReadPoint;have hC:=yQ7 b hb;unfold yUg comB at hC;have h1:=zEp (zYx b).1 (by have:=(zSr b).1;omega);have h2:=zEp (zYx b).2 (by have:=(zSr b).2;omega);rw [yBd];simp -implicitDefEqProofs (disch:=omega) only [go_sem,↓reduceIte];refine zAm (hC) (by simp -implicitDefEqProofs (disch:=omega) only [go_sem,↓reduceIte,deep,TD.rows,zAe,zAc,zAf,zAb,zAd,zAa];exact rfl) ?_;simp -implicitDefEqProofs (disch:=omega) only [go_sem,↓reduceIte];cases hr1:zBu (zYx b).1 with
  | none=>rw [hr1] at h1;refine zAm (h1) (by simp -implicitDefEqProofs (disch:=omega) only [go_sem,↓reduceIte,deep,TD.rows,zAe,zAc,zAf,zAb,zAd,zAa,rdR];exact rfl) ?_;simp -implicitDefEqProofs (disch:=omega) only [go_sem,↓reduceIte ,rdR];refine zAm (h2) (by simp -implicitDefEqProofs (disch:=omega) only [go_sem,↓reduceIte,deep,TD.rows,zAe,zAc,zAf,zAb,zAd,zAa,rdR];exact rfl) ?_;simp -implicitDefEqProofs (disch:=omega) only [go_sem,↓reduceIte ,rdR];exact ⟨zBv rfl,zAz rfl⟩
  | some n =>
    rw [hr1] at h1;cases hr2:zBu (zYx b).2 with
    | none=>rw [hr2] at h2;refine zAm (h1) (by simp -implicitDefEqProofs (disch:=omega) only [go_sem,↓reduceIte,deep,TD.rows,zAe,zAc,zAf,zAb,zAd,zAa,rdR];exact rfl) ?_;simp -implicitDefEqProofs (disch:=omega) only [go_sem,↓reduceIte ,rdR];refine zAm (h2) (by simp -implicitDefEqProofs (disch:=omega) only [go_sem,↓reduceIte,deep,TD.rows,zAe,zAc,zAf,zAb,zAd,zAa,rdR];exact rfl) ?_;simp -implicitDefEqProofs (disch:=omega) only [go_sem,↓reduceIte ,rdR];exact ⟨zBv rfl,zAz rfl⟩
    | some m =>
      rw [hr2] at h2;have hp:=zQ3 ⟨n,m⟩;rw [Point.td_d] at hp;cases hk:yBp ⟨n,m⟩ with
      | false=>rw [hk] at hp;simp only [hk];refine zAm (h1) (by simp -implicitDefEqProofs (disch:=omega) only [go_sem,↓reduceIte,deep,TD.rows,zAe,zAc,zAf,zAb,zAd,zAa,rdR];exact rfl) ?_;simp -implicitDefEqProofs (disch:=omega) only [go_sem,↓reduceIte ,rdR];refine zAm (h2) (by simp -implicitDefEqProofs (disch:=omega) only [go_sem,↓reduceIte,deep,TD.rows,zAe,zAc,zAf,zAb,zAd,zAa,rdR];exact rfl) ?_;simp -implicitDefEqProofs (disch:=omega) only [go_sem,↓reduceIte ,rdR];refine zAm (hp) (by simp -implicitDefEqProofs (disch:=omega) only [go_sem,↓reduceIte,deep,TD.rows,zAe,zAc,zAf,zAb,zAd,zAa];exact rfl) ?_;simp -implicitDefEqProofs (disch:=omega) only [go_sem,↓reduceIte];exact ⟨zBv rfl,zAz rfl⟩
      | true =>
        rw [hk] at hp;simp only [hk];refine zAm (h1) (by simp -implicitDefEqProofs (disch:=omega) only [go_sem,↓reduceIte,deep,TD.rows,zAe,zAc,zAf,zAb,zAd,zAa,rdR];exact rfl) ?_;simp -implicitDefEqProofs (disch:=omega) only [go_sem,↓reduceIte ,rdR];refine zAm (h2) (by simp -implicitDefEqProofs (disch:=omega) only [go_sem,↓reduceIte,deep,TD.rows,zAe,zAc,zAf,zAb,zAd,zAa,rdR];exact rfl) ?_;simp -implicitDefEqProofs (disch:=omega) only [go_sem,↓reduceIte ,rdR];refine zAm (hp) (by simp -implicitDefEqProofs (disch:=omega) only [go_sem,↓reduceIte,deep,TD.rows,zAe,zAc,zAf,zAb,zAd,zAa];exact rfl) ?_;simp -implicitDefEqProofs (disch:=omega) only [go_sem,↓reduceIte]
        first | done | exact ⟨zBv rfl,zAz rfl⟩
set_option maxHeartbeats 4000000 in
theorem zK1 (b:ByteArray) (hb:b.size≤1048576):Contract Tryz.prog zAr 40 [.v (.string b)] (rpD (zN1 b)):=by
  refine zIm ?_;unfold code_spec_ReadPoint;have hS:=zOe b 44 hb;have hz:∀ x,x∈splitB 44 b→x.size≤1048576:=fun x hx=>by have:=zTi hx;omega
  unfold zN1;generalize splitB 44 b=ws at hS hz ⊢;simp -implicitDefEqProofs (disch:=omega) only [go_sem,↓reduceIte];by_cases hl:ws.length=2
  · obtain ⟨x,y,rfl⟩:∃ x y,ws=[x,y]:=by
      match ws,hl with
      | [x,y],_=>exact ⟨x,y,rfl⟩
    obtain ⟨L,hwd,hLe⟩:∃ L,Wd L [x,y]∧[x,y].map rS=L:=⟨_,zZl _,rfl⟩
    rw [hLe] at hS;have lw:(L.length:Int)=2:=by rw [hwd.len];rfl
    have e0:L[Int.toNat 0]?=some [.v (.string x)]:=hwd.at' 0 (by simp);have e1:L[Int.toNat 1]?=some [.v (.string y)]:=hwd.at' 1 (by simp);have n2:decide ((2:Int)=2)=true:=rfl;have h1:=zEo x (hz x (by simp));have h2:=zEo y (hz y (by simp));refine zAm (hS) (by simp -implicitDefEqProofs (disch:=omega) only [go_sem,↓reduceIte,deep,TD.rows,zAe,zAc,zAf,zAb,zAd,zAa,lw,e0,n2,Int.le_refl,Int.reduceLE,Int.reduceLT];exact rfl) ?_;simp -implicitDefEqProofs (disch:=omega) only [go_sem,↓reduceIte ,lw,e0,n2,Int.le_refl,Int.reduceLE,Int.reduceLT];cases hr1:zBu x with
    | none =>
      rw [hr1] at h1;have hN:zXo [x,y]=none:=by unfold zXo;simp only [hr1]
      rw [hN];refine zAm (h1) (by simp -implicitDefEqProofs (disch:=omega) only [go_sem,↓reduceIte,deep,TD.rows,zAe,zAc,zAf,zAb,zAd,zAa,rdR,lw,e1,Int.le_refl,Int.reduceLE,Int.reduceLT];exact rfl) ?_;simp -implicitDefEqProofs (disch:=omega) only [go_sem,↓reduceIte ,rdR,lw,e1,Int.le_refl,Int.reduceLE,Int.reduceLT];refine zAm (h2) (by simp -implicitDefEqProofs (disch:=omega) only [go_sem,↓reduceIte,deep,TD.rows,zAe,zAc,zAf,zAb,zAd,zAa,rdR];exact rfl) ?_;simp -implicitDefEqProofs (disch:=omega) only [go_sem,↓reduceIte ,rdR];exact ⟨zBv rfl,zAz rfl⟩
    | some n =>
      rw [hr1] at h1;cases hr2:zBu y with
      | none =>
        rw [hr2] at h2;have hN:zXo [x,y]=none:=by unfold zXo;simp only [hr1,hr2]
        rw [hN];refine zAm (h1) (by simp -implicitDefEqProofs (disch:=omega) only [go_sem,↓reduceIte,deep,TD.rows,zAe,zAc,zAf,zAb,zAd,zAa,rdR,lw,e1,Int.le_refl,Int.reduceLE,Int.reduceLT];exact rfl) ?_;simp -implicitDefEqProofs (disch:=omega) only [go_sem,↓reduceIte ,rdR,lw,e1,Int.le_refl,Int.reduceLE,Int.reduceLT];refine zAm (h2) (by simp -implicitDefEqProofs (disch:=omega) only [go_sem,↓reduceIte,deep,TD.rows,zAe,zAc,zAf,zAb,zAd,zAa,rdR];exact rfl) ?_;simp -implicitDefEqProofs (disch:=omega) only [go_sem,↓reduceIte ,rdR];exact ⟨zBv rfl,zAz rfl⟩
      | some m =>
        rw [hr2] at h2;have hp:=zWu ⟨n,m⟩;rw [Point.td_d] at hp;cases hk:yBp ⟨n,m⟩ with
        | false =>
          rw [hk] at hp;have hN:zXo [x,y]=none:=by unfold zXo;simp only [hr1,hr2,hk];rfl
          rw [hN];refine zAm (h1) (by simp -implicitDefEqProofs (disch:=omega) only [go_sem,↓reduceIte,deep,TD.rows,zAe,zAc,zAf,zAb,zAd,zAa,rdR,lw,e1,Int.le_refl,Int.reduceLE,Int.reduceLT];exact rfl) ?_;simp -implicitDefEqProofs (disch:=omega) only [go_sem,↓reduceIte ,rdR,lw,e1,Int.le_refl,Int.reduceLE,Int.reduceLT];refine zAm (h2) (by simp -implicitDefEqProofs (disch:=omega) only [go_sem,↓reduceIte,deep,TD.rows,zAe,zAc,zAf,zAb,zAd,zAa,rdR];exact rfl) ?_;simp -implicitDefEqProofs (disch:=omega) only [go_sem,↓reduceIte ,rdR];refine zAm (hp) (by simp -implicitDefEqProofs (disch:=omega) only [go_sem,↓reduceIte,deep,TD.rows,zAe,zAc,zAf,zAb,zAd,zAa];exact rfl) ?_;simp -implicitDefEqProofs (disch:=omega) only [go_sem,↓reduceIte];exact ⟨zBv rfl,zAz rfl⟩
        | true =>
          rw [hk] at hp;have hN:zXo [x,y]=some ⟨n,m⟩:=by unfold zXo;simp only [hr1,hr2,hk];rfl
          rw [hN];refine zAm (h1) (by simp -implicitDefEqProofs (disch:=omega) only [go_sem,↓reduceIte,deep,TD.rows,zAe,zAc,zAf,zAb,zAd,zAa,rdR,lw,e1,Int.le_refl,Int.reduceLE,Int.reduceLT];exact rfl) ?_;simp -implicitDefEqProofs (disch:=omega) only [go_sem,↓reduceIte ,rdR,lw,e1,Int.le_refl,Int.reduceLE,Int.reduceLT];refine zAm (h2) (by simp -implicitDefEqProofs (disch:=omega) only [go_sem,↓reduceIte,deep,TD.rows,zAe,zAc,zAf,zAb,zAd,zAa,rdR];exact rfl) ?_;simp -implicitDefEqProofs (disch:=omega) only [go_sem,↓reduceIte ,rdR];refine zAm (hp) (by simp -implicitDefEqProofs (disch:=omega) only [go_sem,↓reduceIte,deep,TD.rows,zAe,zAc,zAf,zAb,zAd,zAa];exact rfl) ?_;simp -implicitDefEqProofs (disch:=omega) only [go_sem,↓reduceIte]
          first | done | exact ⟨zBv rfl,zAz rfl⟩
  · have d2:decide ((ws.length:Int)=2)=false:=decide_eq_false (by omega);have hN:zXo ws=none:=by
      unfold zXo;split
      · simp at hl
      · rfl
    rw [hN];refine zAm (hS) (by simp -implicitDefEqProofs (disch:=omega) only [go_sem,↓reduceIte,deep,TD.rows,zAe,zAc,zAf,zAb,zAd,zAa,List.length_map,d2];exact rfl) ?_;simp -implicitDefEqProofs (disch:=omega) only [go_sem,↓reduceIte ,List.length_map,d2];exact ⟨zBv rfl,zAz rfl⟩
def exA (xs:List Placed):Except Int (List Placed)→Int×List Placed
  | .ok ys=>(0,ys)
  | .error c=>(c,xs)
def code_spec_l05Placed:VCode:=(.seq (.ops [
  ⟨(some 8),none,(.asg (.const (.int .i64 0)))⟩]) (.seq (.ops [
  ⟨(some 13),none,(.mv (.tmp 3))⟩,
  ⟨(some 14),none,(.callX 40 [(.tmp 13)])⟩,
  ⟨(some 12),none,(.mv (.tmp 14))⟩,
  ⟨(some 15),none,(.ext (.tmp 12) 0)⟩,
  ⟨(some 16),none,(.ext (.tmp 12) 1)⟩,
  ⟨(some 9),none,(.alloc [(.int .i64 0),(.int .i64 0)])⟩,
  ⟨none,none,(.store 2 (.tmp 9) (.tmp 15))⟩,
  ⟨(some 10),none,(.asg (.tmp 16))⟩]) (.seq (.seq (.ops [
  ⟨(some 17),none,(.mv (.tmp 10))⟩,
  ⟨(some 18),none,(.un .not (.tmp 17))⟩]) (.cond (.tmp 18) (.seq (.ops [
  ⟨(some 8),none,(.asg (.const (.int .i64 6)))⟩]) .ret) .skip)) (.seq (.ops [
  ⟨(some 19),none,(.mv (.tmp 0))⟩,
  ⟨(some 20),none,(.mv (.tmp 2))⟩,
  ⟨(some 21),none,(.callX 38 [(.tmp 19),(.tmp 20)])⟩,
  ⟨(some 11),none,(.asg (.tmp 21))⟩]) (.seq (.seq (.ops [
  ⟨(some 22),none,(.mv (.tmp 11))⟩,
  ⟨(some 23),none,(.bin .lss (.tmp 22) (.const (.int .i64 0)))⟩]) (.cond (.tmp 23) (.seq (.ops [
  ⟨(some 8),none,(.asg (.const (.int .i64 3)))⟩]) .ret) .skip)) (.seq (.seq (.ops [
  ⟨(some 24),none,(.mv (.tmp 1))⟩,
  ⟨(some 25),none,(.load 2 true (.tmp 9))⟩,
  ⟨(some 26),none,(.callX 41 [(.tmp 24),(.tmp 25)])⟩,
  ⟨(some 27),none,(.bin .geq (.tmp 26) (.const (.int .i64 0)))⟩]) (.cond (.tmp 27) (.seq (.ops [
  ⟨(some 8),none,(.asg (.const (.int .i64 7)))⟩]) .ret) .skip)) (.seq (.seq (.ops [
  ⟨(some 28),none,(.mv (.tmp 1))⟩,
  ⟨(some 29),none,(.nilc (.tmp 28))⟩,
  ⟨(some 30),none,(.fa 0 (.tmp 29))⟩,
  ⟨(some 31),none,(.load 1 false (.tmp 30))⟩,
  ⟨(some 32),none,(.len (.tmp 31))⟩,
  ⟨(some 33),none,(.bin .eql (.tmp 32) (.const (.int .i64 500)))⟩]) (.cond (.tmp 33) (.seq (.ops [
  ⟨(some 8),none,(.asg (.const (.int .i64 4)))⟩]) .ret) .skip)) (.seq (.ops [
  ⟨(some 34),none,(.mv (.tmp 1))⟩,
  ⟨(some 35),none,(.mv (.tmp 1))⟩,
  ⟨(some 36),none,(.load 2 true (.tmp 9))⟩,
  ⟨(some 37),none,(.mv (.tmp 11))⟩,
  ⟨(some 38),none,(.callX 42 [(.tmp 35),(.tmp 36),(.tmp 37)])⟩,
  ⟨(some 39),none,(.nilc (.tmp 34))⟩,
  ⟨none,none,(.store 1 (.tmp 39) (.tmp 38))⟩]) (.seq (.ops [
  ⟨(some 8),none,(.asg (.const (.int .i64 0)))⟩]) .ret)))))))))
theorem zIk {a0 a1 a2 a3 d:D}{cells cells':List D}(h:∀ b,code_spec_l05Placed.wp (CT Tryz.prog zAr) (yT9 [(.t 8)] d 1 b cells') [a0,.box (some b) cells,a2,a3,.undef,.undef,.undef,.undef,.undef,.undef,.undef,.undef,.undef,.undef,.undef,.undef,.undef,.undef,.undef,.undef,.undef,.undef,.undef,.undef,.undef,.undef,.undef,.undef,.undef,.undef,.undef,.undef,.undef,.undef,.undef,.undef,.undef,.undef,.undef,.undef]):ContractX Tryz.prog zAr 18 1 [a0,a1,a2,a3] cells d cells' :=
  zKv (pt:=0) zC6 Tryz.func18 (fun us W=>by kernel_rfl) (c:=Tryz.f18.body.getD .skip) (ms:=[]) (ms':=[]) (by kernel_rfl) (by kernel_rfl) (by kernel_rfl) (by simp) h
def code_spec_ReadAssembly:VCode:=(.seq (.ops [
  ⟨(some 2),none,(.box (.tmp 0))⟩,
  ⟨(some 4),none,(.alloc [(.slice none 0 0)])⟩,
  ⟨(some 5),none,(.asg (.const (.int .i64 0)))⟩,
  ⟨(some 6),none,(.asg (.const (.int .i64 0)))⟩]) (.seq (.seq (.ops [
  ⟨(some 12),none,(.callX 15 [(.tmp 2)])⟩,
  ⟨(some 13),none,(.un .not (.tmp 12))⟩]) (.cond (.tmp 13) (.seq (.ops [
  ⟨(some 14),none,(.build [(.slice none 0 0)] [])⟩,
  ⟨none,none,(.store 1 (.tmp 4) (.tmp 14))⟩,
  ⟨(some 5),none,(.asg (.const (.int .i64 0)))⟩,
  ⟨(some 6),none,(.asg (.const (.int .i64 1)))⟩]) .ret) .skip)) (.seq (.seq (.ops [
  ⟨(some 15),none,(.mv (.tmp 1))⟩,
  ⟨(some 16),none,(.lenS (.tmp 15))⟩,
  ⟨(some 17),none,(.bin .gtr (.tmp 16) (.const (.int .i64 20000)))⟩]) (.cond (.tmp 17) (.seq (.ops [
  ⟨(some 18),none,(.build [(.slice none 0 0)] [])⟩,
  ⟨none,none,(.store 1 (.tmp 4) (.tmp 18))⟩,
  ⟨(some 5),none,(.asg (.const (.int .i64 0)))⟩,
  ⟨(some 6),none,(.asg (.const (.int .i64 2)))⟩]) .ret) .skip)) (.seq (.ops [
  ⟨(some 19),none,(.build [(.slice none 0 0)] [])⟩,
  ⟨(some 7),none,(.alloc [(.slice none 0 0)])⟩,
  ⟨none,none,(.store 1 (.tmp 7) (.tmp 19))⟩]) (.seq (.ops [
  ⟨(some 20),none,(.mv (.tmp 1))⟩,
  ⟨(some 21),none,(.callX 16 [(.tmp 20)])⟩,
  ⟨(some 8),none,(.asg (.tmp 21))⟩]) (.seq (.seq (.ops [
  ⟨(some 9),none,(.asg (.const (.int .i64 0)))⟩]) (.block 0 (.loop (mB 50 1125899904744555) (.seq (.seq (.ops [
  ⟨(some 22),none,(.mv (.tmp 9))⟩,
  ⟨(some 23),none,(.mv (.tmp 8))⟩,
  ⟨(some 24),none,(.len (.tmp 23))⟩,
  ⟨(some 25),none,(.bin .lss (.tmp 22) (.tmp 24))⟩]) (.cond (.tmp 25) .skip (.exit 0))) (.seq (.block 1 (.seq (.ops [
  ⟨(some 28),none,(.mv (.tmp 8))⟩,
  ⟨(some 29),none,(.mv (.tmp 9))⟩,
  ⟨(some 30),none,(.ia 1 (.tmp 28) (.tmp 29))⟩,
  ⟨(some 31),none,(.load 1 false (.tmp 30))⟩,
  ⟨(some 32),none,(.callX 17 [(.tmp 31)])⟩,
  ⟨(some 10),none,(.asg (.tmp 32))⟩]) (.seq (.ops [
  ⟨(some 11),none,(.asg (.const (.int .i64 6)))⟩]) (.seq (.seq (.ops [
  ⟨(some 33),none,(.mv (.tmp 10))⟩,
  ⟨(some 34),none,(.len (.tmp 33))⟩,
  ⟨(some 35),none,(.bin .eql (.tmp 34) (.const (.int .i64 2)))⟩]) (.cond (.tmp 35) (.draw (mB 42 4329327034368) [] [⟨0,(mB 42 4329327034368),[],⟨(some 36),none,(.mv (.tmp 10))⟩⟩,⟨1,(mB 42 4260607557632),[],⟨(some 37),none,(.ia 1 (.tmp 36) (.const (.int .i64 0)))⟩⟩,⟨2,(mB 42 4123168604160),[],⟨(some 38),none,(.load 1 false (.tmp 37))⟩⟩,⟨3,(mB 42 4329327034368),[],⟨(some 39),none,(.mv (.tmp 10))⟩⟩,⟨4,(mB 42 3779571220480),[],⟨(some 40),none,(.ia 1 (.tmp 39) (.const (.int .i64 1)))⟩⟩,⟨5,(mB 42 2680059592704),[],⟨(some 41),none,(.load 1 false (.tmp 40))⟩⟩] [⟨(some 42),none,(.callX 18 [(.tmp 2),(.tmp 7),(.tmp 38),(.tmp 41)])⟩,⟨(some 11),none,(.asg (.tmp 42))⟩]) .skip)) (.seq (.ops [
  ⟨(some 43),none,(.mv (.tmp 11))⟩,
  ⟨(some 44),none,(.bin .neq (.tmp 43) (.const (.int .i64 0)))⟩]) (.cond (.tmp 44) (.seq (.ops [
  ⟨(some 45),none,(.build [(.slice none 0 0)] [])⟩,
  ⟨(some 46),none,(.mv (.tmp 9))⟩,
  ⟨(some 47),none,(.bin .add (.tmp 46) (.const (.int .i64 1)))⟩,
  ⟨(some 48),none,(.mv (.tmp 11))⟩,
  ⟨none,none,(.store 1 (.tmp 4) (.tmp 45))⟩,
  ⟨(some 5),none,(.asg (.tmp 47))⟩,
  ⟨(some 6),none,(.asg (.tmp 48))⟩]) .ret) .skip)))))) (.ops [
  ⟨(some 26),none,(.mv (.tmp 9))⟩,
  ⟨(some 27),none,(.bin .add (.tmp 26) (.const (.int .i64 1)))⟩,
  ⟨(some 9),none,(.asg (.tmp 27))⟩])))))) (.seq (.ops [
  ⟨(some 49),none,(.load 1 true (.tmp 7))⟩,
  ⟨none,none,(.store 1 (.tmp 4) (.tmp 49))⟩,
  ⟨(some 5),none,(.asg (.const (.int .i64 0)))⟩,
  ⟨(some 6),none,(.asg (.const (.int .i64 0)))⟩]) .ret)))))))
theorem zGb {a0 a1 d:D}(h:code_spec_ReadAssembly.wp (CT Tryz.prog zAr) (zC9 [(.c 4 1 true),(.t 5),(.t 6)] d) [a0,a1,.undef,.undef,.undef,.undef,.undef,.undef,.undef,.undef,.undef,.undef,.undef,.undef,.undef,.undef,.undef,.undef,.undef,.undef,.undef,.undef,.undef,.undef,.undef,.undef,.undef,.undef,.undef,.undef,.undef,.undef,.undef,.undef,.undef,.undef,.undef,.undef,.undef,.undef,.undef,.undef,.undef,.undef,.undef,.undef,.undef,.undef,.undef,.undef]):Contract Tryz.prog zAr 5 [a0,a1] d :=
  zAk (pt:=0) zC6 Tryz.func5 (fun us W=>by kernel_rfl) (c:=Tryz.f5.body.getD .skip) (ms:=[(mB 50 1125899904744555)]) (ms':=[]) (by kernel_rfl) (by kernel_rfl) (by kernel_rfl) h
set_option maxHeartbeats 4000000 in
theorem zS9 (s:TileSet) (xs:List Placed) (w0 w1:ByteArray) (h1:w1.size≤1048576) (ht:s.Tiles.length≤1048576) (hB:RaB s.Tiles.length xs) :
    ContractX Tryz.prog zAr 18 1 [.iptr (TileSet.td.d false s) 0,.undef,.v (.string w0),.v (.string w1)] (Assembly.td.d true ⟨zN8 xs⟩) (.v (.int .i64 (exA xs (zA8 s.Tiles xs [w0,w1])).1)) (Assembly.td.d true ⟨zN8 (exA xs (zA8 s.Tiles xs [w0,w1])).2⟩):=by
  have hP:=zK1 w1 h1;have hT:=zQ1 s w0 ht;have hln:=yIb hB.dis;have hle:=hB.len;rw [Assembly.td_d,Assembly.td_d];rw [TileSet.td_d] at hT ⊢;refine zIk ?_;intro bb;unfold code_spec_l05Placed;cases hr:zN1 w1 with
  | none=>have hN:zA8 s.Tiles xs [w0,w1]=.error 6:=(by unfold zA8;simp only [hr]);rw [hN];rw [hr] at hP;unfold rpD at hP;simp only [Point.td_d,Option.getD_none,Option.isSome_none] at hP;simp -implicitDefEqProofs (disch:=omega) only [go_sem,↓reduceIte];refine zAm (hP) (by simp -implicitDefEqProofs (disch:=omega) only [go_sem,↓reduceIte,deep,TD.rows,zAe,zAc,zAf,zAb,zAd,zAa];exact rfl) ?_;simp -implicitDefEqProofs (disch:=omega) only [go_sem,↓reduceIte];exact ⟨rfl,rfl⟩
  | some p =>
    rw [hr] at hP;unfold rpD at hP;simp only [Point.td_d,Option.getD_some,Option.isSome_some] at hP;by_cases hn:zQu s.Tiles w0<0
    · have dn:decide (zQu s.Tiles w0<0)=true:=decide_eq_true hn;have hN:zA8 s.Tiles xs [w0,w1]=.error 3:=(by unfold zA8;simp only [hr];rw [if_pos hn]);rw [hN];simp -implicitDefEqProofs (disch:=omega) only [go_sem,↓reduceIte];refine zAm (hP) (by simp -implicitDefEqProofs (disch:=omega) only [go_sem,↓reduceIte,deep,TD.rows,zAe,zAc,zAf,zAb,zAd,zAa];exact rfl) ?_;simp -implicitDefEqProofs (disch:=omega) only [go_sem,↓reduceIte];refine zAm (hT) (by simp -implicitDefEqProofs (disch:=omega) only [go_sem,↓reduceIte,deep,TD.rows,zAe,zAc,zAf,zAb,zAd,zAa,dn];exact rfl) ?_;simp -implicitDefEqProofs (disch:=omega) only [go_sem,↓reduceIte ,dn];exact ⟨rfl,rfl⟩
    · have dn:decide (zQu s.Tiles w0<0)=false:=decide_eq_false hn;have hI:=zWt ⟨zN8 xs⟩ p (by show (zN8 xs).length≤_;omega);rw [Assembly.td_d,Point.td_d] at hI;have hidx:=yC8 hB.dis p;cases ha:zSf xs p with
      | true =>
        rw [ha] at hidx;have hN:zA8 s.Tiles xs [w0,w1]=.error 7:=by unfold zA8;simp only [hr];rw [if_neg hn,if_pos ha]
        rw [hN];simp -implicitDefEqProofs (disch:=omega) only [go_sem,↓reduceIte];refine zAm (hP) (by simp -implicitDefEqProofs (disch:=omega) only [go_sem,↓reduceIte,deep,TD.rows,zAe,zAc,zAf,zAb,zAd,zAa];exact rfl) ?_;simp -implicitDefEqProofs (disch:=omega) only [go_sem,↓reduceIte];refine zAm (hT) (by simp -implicitDefEqProofs (disch:=omega) only [go_sem,↓reduceIte,deep,TD.rows,zAe,zAc,zAf,zAb,zAd,zAa,dn];exact rfl) ?_;simp -implicitDefEqProofs (disch:=omega) only [go_sem,↓reduceIte ,dn];refine zAm (hI) (by simp -implicitDefEqProofs (disch:=omega) only [go_sem,↓reduceIte,deep,TD.rows,zAe,zAc,zAf,zAb,zAd,zAa,hidx];exact rfl) ?_;simp -implicitDefEqProofs (disch:=omega) only [go_sem,↓reduceIte ,hidx];exact ⟨rfl,rfl⟩
      | false =>
        rw [ha] at hidx;by_cases hf:500≤xs.length
        · have df:decide (((zN8 xs).length:Int)=500)=true:=decide_eq_true (by omega);have hN:zA8 s.Tiles xs [w0,w1]=.error 4:=(by unfold zA8;simp only [hr];rw [if_neg hn,if_neg (by rw [ha];decide),if_pos hf]);rw [hN];simp -implicitDefEqProofs (disch:=omega) only [go_sem,↓reduceIte];refine zAm (hP) (by simp -implicitDefEqProofs (disch:=omega) only [go_sem,↓reduceIte,deep,TD.rows,zAe,zAc,zAf,zAb,zAd,zAa];exact rfl) ?_;simp -implicitDefEqProofs (disch:=omega) only [go_sem,↓reduceIte];refine zAm (hT) (by simp -implicitDefEqProofs (disch:=omega) only [go_sem,↓reduceIte,deep,TD.rows,zAe,zAc,zAf,zAb,zAd,zAa,dn];exact rfl) ?_;simp -implicitDefEqProofs (disch:=omega) only [go_sem,↓reduceIte ,dn];refine zAm (hI) (by simp -implicitDefEqProofs (disch:=omega) only [go_sem,↓reduceIte,deep,TD.rows,zAe,zAc,zAf,zAb,zAd,zAa,hidx,df,List.length_map];exact rfl) ?_;simp -implicitDefEqProofs (disch:=omega) only [go_sem,↓reduceIte ,hidx,df,List.length_map];exact ⟨rfl,rfl⟩
        · have df:decide (((zN8 xs).length:Int)=500)=false:=decide_eq_false (by omega);have hN:zA8 s.Tiles xs [w0,w1]=.ok (xs++[⟨p,zQu s.Tiles w0⟩]):=(by unfold zA8;simp only [hr];rw [if_neg hn,if_neg (by rw [ha];decide),if_neg hf]);rw [hN];have hU:=yEl ⟨zN8 xs⟩ p (zQu s.Tiles w0) (by show (zN8 xs).length≤_;omega);rw [Assembly.td_d,Assembly.td_d,Point.td_d] at hU;simp -implicitDefEqProofs (disch:=omega) only [go_sem,↓reduceIte];refine zAm (hP) (by simp -implicitDefEqProofs (disch:=omega) only [go_sem,↓reduceIte,deep,TD.rows,zAe,zAc,zAf,zAb,zAd,zAa];exact rfl) ?_;simp -implicitDefEqProofs (disch:=omega) only [go_sem,↓reduceIte];refine zAm (hT) (by simp -implicitDefEqProofs (disch:=omega) only [go_sem,↓reduceIte,deep,TD.rows,zAe,zAc,zAf,zAb,zAd,zAa,dn];exact rfl) ?_;simp -implicitDefEqProofs (disch:=omega) only [go_sem,↓reduceIte ,dn];refine zAm (hI) (by simp -implicitDefEqProofs (disch:=omega) only [go_sem,↓reduceIte,deep,TD.rows,zAe,zAc,zAf,zAb,zAd,zAa,hidx,df,List.length_map];exact rfl) ?_;simp -implicitDefEqProofs (disch:=omega) only [go_sem,↓reduceIte ,hidx,df,List.length_map];refine zAm (hU) (by simp -implicitDefEqProofs (disch:=omega) only [go_sem,↓reduceIte,deep,TD.rows,zAe,zAc,zAf,zAb,zAd,zAa];exact rfl) ?_;simp -implicitDefEqProofs (disch:=omega) only [go_sem,↓reduceIte];exact ⟨rfl,by show List.map _ (yMu _ (zN8 xs))=List.map _ (zN8 (xs++[_]));rw [zSd]⟩
theorem zOp {ts:List Tile}{xs:List Placed}{w:List ByteArray}(h:w.length≠2):zA8 ts xs w=.error 6:=by
  unfold zA8;split
  · simp at h
  · rfl
set_option maxHeartbeats 40000000 in
theorem zG9 (s:TileSet) (hs:setB s) (b:ByteArray) (hb:b.size≤1048576):Contract Tryz.prog zAr 5 [.agg (TileSet.td.d false s),.v (.string b)] (.tup [.agg (Assembly.td.d true (zAp s b).1),.v (.int .i64 (zAp s b).2.1),.v (.int .i64 (zAp s b).2.2)]):=by
  have hM:=yK1 s hs;rw [Assembly.td_d];rw [TileSet.td_d] at hM ⊢;refine zGb ?_;unfold code_spec_ReadAssembly;cases hok:zD2 s with
  | false=>rw [yJ2 hok];rw [hok] at hM;simp -implicitDefEqProofs (disch:=omega) only [go_sem,↓reduceIte];refine zAm (hM) (by simp -implicitDefEqProofs (disch:=omega) only [go_sem,↓reduceIte,deep,TD.rows,zAe,zAc,zAf,zAb,zAd,zAa];exact rfl) ?_;simp -implicitDefEqProofs (disch:=omega) only [go_sem,↓reduceIte];rfl
  | true =>
    rw [hok] at hM;by_cases hbig:20000<b.size
    · have d1:decide ((b.size:Int)>20000)=true:=decide_eq_true (by omega);rw [yJ3 hok hbig];simp -implicitDefEqProofs (disch:=omega) only [go_sem,↓reduceIte];refine zAm (hM) (by simp -implicitDefEqProofs (disch:=omega) only [go_sem,↓reduceIte,deep,TD.rows,zAe,zAc,zAf,zAb,zAd,zAa,d1];exact rfl) ?_;simp -implicitDefEqProofs (disch:=omega) only [go_sem,↓reduceIte ,d1];rfl
    · have d1:decide ((b.size:Int)>20000)=false:=decide_eq_false (by omega);have hL:=zWs b hb;have hll:=zOw b;have hts:=zMk hok;simp -implicitDefEqProofs (disch:=omega) only [go_sem,↓reduceIte];refine zAm (hM) (by simp -implicitDefEqProofs (disch:=omega) only [go_sem,↓reduceIte,deep,TD.rows,zAe,zAc,zAf,zAb,zAd,zAa,d1];exact rfl) ?_;simp -implicitDefEqProofs (disch:=omega) only [go_sem,↓reduceIte ,d1];refine zAm (hL) (by simp -implicitDefEqProofs (disch:=omega) only [go_sem,↓reduceIte,deep,TD.rows,zAe,zAc,zAf,zAb,zAd,zAa];exact rfl) ?_;simp -implicitDefEqProofs (disch:=omega) only [go_sem,↓reduceIte];refine zF9 (by simp -implicitDefEqProofs (disch:=omega) only [go_sem,↓reduceIte];exact rfl) (fun q:Nat×List Placed=>[(7,.box none (Assembly.td.d true ⟨zN8 q.2⟩)),(9,.v (.int .i64 (q.1:Nat)))]) (fun _=>by simp only [zFk,zD1,List.set_cons_zero,List.set_cons_succ];exact rfl) (fun q:Nat×List Placed=>q.1≤(zA5 b).length∧zCj (zZe s.Tiles) ((zA5 b).take q.1) 0 []=.ok q.2) (fun q:Nat×List Placed=>(zA5 b).length-q.1) ((0,[])) (zDo) (?_) ?_
      · exact ⟨Nat.zero_le _,rfl⟩
      rintro ⟨i,xs⟩ ⟨hi,hf⟩;simp only at hi hf ⊢;have hB:=zPu _ _ _ _ (yGk _) hf;rw [Assembly.td_d];simp -implicitDefEqProofs (disch:=omega) only [go_sem,↓reduceIte];refine zAn ?_ ?_<;>intro hlt
      · have hlt:i<(zA5 b).length:=(by simpa using hlt);have hltM:i<((zA5 b).map rS).length:=(by rw [List.length_map];exact hlt);have e1:((zA5 b).map rS)[i]?=some [D.v (.string (zA5 b)[i])]:=(by rw [List.getElem?_map,List.getElem?_eq_getElem hlt];rfl);have hsz:=zMs (List.getElem_mem hlt);have hW:=zWr (zA5 b)[i] (by omega);have hSt:zZe s.Tiles i xs (zA5 b)[i]=zA8 s.Tiles xs (zBk (zA5 b)[i]):=rfl;have hz1:IntKind.i64.wrap ((i:Int)+1)=((i+1:Nat):Int):=wrI (by omega) (by omega);have d6:decide ((6:Int)=0)=false:=rfl;have d00:decide ((0:Int)=0)=true:=rfl;by_cases h2:(zBk (zA5 b)[i]).length=2
        · obtain ⟨w0,w1,hw⟩:∃ x y,zBk (zA5 b)[i]=[x,y]:=by
            match hq:zBk (zA5 b)[i],h2 with
            | [x,y],_=>exact ⟨x,y,rfl⟩
          have hw1:w1.size≤1048576:=(by have:=zLw (b:=(zA5 b)[i]) (y:=w1) (by rw [hw];simp);omega);rw [hw] at hW hSt;have hP:=zS9 s xs w0 w1 hw1 (by omega) hB;rw [TileSet.td_d,Assembly.td_d,Assembly.td_d] at hP;obtain ⟨L,hwd,hLe⟩:∃ L,Wd L [w0,w1]∧[w0,w1].map rS=L:=⟨_,zZl _,rfl⟩
          rw [hLe] at hW;have lw:(L.length:Int)=2:=by rw [hwd.len];rfl
          have e0:L[Int.toNat 0]?=some [.v (.string w0)]:=hwd.at' 0 (by simp);have e2:L[Int.toNat 1]?=some [.v (.string w1)]:=hwd.at' 1 (by simp);have n2:decide ((2:Int)=2)=true:=rfl;cases hr:zA8 s.Tiles xs [w0,w1] with
          | error c=>rw [hr] at hSt hP;simp only [exA] at hP;have hc:decide (c=0)=false:=decide_eq_false (by rcases zGo hr with h | h | h | h<;>rw [h]<;>decide);have hR:zAp s b=(asm0,((i+1:Nat):Int),c):=zMe hok hbig (zOn hlt hf hSt);rw [hR];simp -implicitDefEqProofs (disch:=omega) only [go_sem,↓reduceIte ,e1,Int.toNat_natCast,Int.natCast_nonneg];refine ⟨by omega,?_⟩;refine zAm (hW) (by simp -implicitDefEqProofs (disch:=omega) only [go_sem,↓reduceIte,deep,TD.rows,zAe,zAc,zAf,zAb,zAd,zAa,lw,e0,e2,n2,Int.le_refl,Int.reduceLE,Int.reduceLT];exact rfl) ?_;simp -implicitDefEqProofs (disch:=omega) only [go_sem,↓reduceIte ,lw,e0,e2,n2,Int.le_refl,Int.reduceLE,Int.reduceLT];refine zWc (i:=1) (r:=7) (hP) rfl rfl (by simp -implicitDefEqProofs (disch:=omega) only [go_sem,↓reduceIte,deep,TD.rows,zAe,zAc,zAf,zAb,zAd,zAa,hc,hz1];exact rfl) (by repeat (first | exact zJy | refine zGt ?_ ?_ | exact zBv rfl | exact zGs (zAz rfl) | refine zOz ?_ | exact zOy rfl (TD.rows ..) | refine zJx ?_ | refine zX7 ?_ ?_ | exact zE7)) (by repeat (first | exact zJy | refine zGt ?_ ?_ | exact zBv rfl | exact zGs (zAz rfl) | refine zOz ?_ | exact zOy rfl (TD.rows ..) | refine zJx ?_ | refine zX7 ?_ ?_ | exact zE7)) (by first | exact .inr rfl | exact .inl ⟨rfl,rfl⟩ | exact .inl ⟨by simp only [D.noImm,zBh,go_sem,TD.nims,TD.nim,zOu,zJv,zJu,zOt],by simp only [D.noImm,zBh,go_sem,TD.nims,TD.nim,zOu,zJv,zJu,zOt]⟩) ?_;simp -implicitDefEqProofs (disch:=omega) only [go_sem,↓reduceIte ,hc,hz1];rfl
          | ok ys=>rw [hr] at hSt hP;simp only [exA] at hP;have hnx:=yBf hlt hf hSt;simp -implicitDefEqProofs (disch:=omega) only [go_sem,↓reduceIte ,e1,Int.toNat_natCast,Int.natCast_nonneg];refine ⟨by omega,?_⟩;refine zAm (hW) (by simp -implicitDefEqProofs (disch:=omega) only [go_sem,↓reduceIte,deep,TD.rows,zAe,zAc,zAf,zAb,zAd,zAa,lw,e0,e2,n2,Int.le_refl,Int.reduceLE,Int.reduceLT];exact rfl) ?_;simp -implicitDefEqProofs (disch:=omega) only [go_sem,↓reduceIte ,lw,e0,e2,n2,Int.le_refl,Int.reduceLE,Int.reduceLT];refine zWc (i:=1) (r:=7) (hP) rfl rfl (by simp -implicitDefEqProofs (disch:=omega) only [go_sem,↓reduceIte,deep,TD.rows,zAe,zAc,zAf,zAb,zAd,zAa,d00,hz1];exact rfl) (by repeat (first | exact zJy | refine zGt ?_ ?_ | exact zBv rfl | exact zGs (zAz rfl) | refine zOz ?_ | exact zOy rfl (TD.rows ..) | refine zJx ?_ | refine zX7 ?_ ?_ | exact zE7)) (by repeat (first | exact zJy | refine zGt ?_ ?_ | exact zBv rfl | exact zGs (zAz rfl) | refine zOz ?_ | exact zOy rfl (TD.rows ..) | refine zJx ?_ | refine zX7 ?_ ?_ | exact zE7)) (by first | exact .inr rfl | exact .inl ⟨rfl,rfl⟩ | exact .inl ⟨by simp only [D.noImm,zBh,go_sem,TD.nims,TD.nim,zOu,zJv,zJu,zOt],by simp only [D.noImm,zBh,go_sem,TD.nims,TD.nim,zOu,zJv,zJu,zOt]⟩) ?_;simp -implicitDefEqProofs (disch:=omega) only [go_sem,↓reduceIte ,d00,hz1];exact ⟨(i+1,ys),by show _-(i+1)<_-i;omega,⟨hlt,hnx⟩,zDo⟩
        · have d2:decide (((zBk (zA5 b)[i]).length:Int)=2)=false:=decide_eq_false (by omega);rw [zOp h2] at hSt;have hR:zAp s b=(asm0,((i+1:Nat):Int),6):=zMe hok hbig (zOn hlt hf hSt);rw [hR];simp -implicitDefEqProofs (disch:=omega) only [go_sem,↓reduceIte ,e1,Int.toNat_natCast,Int.natCast_nonneg];refine ⟨by omega,?_⟩;refine zAm (hW) (by simp -implicitDefEqProofs (disch:=omega) only [go_sem,↓reduceIte,deep,TD.rows,zAe,zAc,zAf,zAb,zAd,zAa,List.length_map,d2,d6,hz1];exact rfl) ?_;simp -implicitDefEqProofs (disch:=omega) only [go_sem,↓reduceIte ,List.length_map,d2,d6,hz1];rfl
      · have hie:i=(zA5 b).length:=(by have:¬ i<(zA5 b).length:=(by simpa using hlt);omega);rw [hie,List.take_length] at hf;have hR:zAp s b=(⟨zN8 xs⟩,0,0):=(by rw [yC2 hB.dis];exact zMe hok hbig hf);rw [hR];simp -implicitDefEqProofs (disch:=omega) only [go_sem,↓reduceIte]
        first | done | rfl
end Go.Proofs.YtdlchnlpmofpmaaGreatDoor
