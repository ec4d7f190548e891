/- Laws that the proof stands on. -/
import Derived.Test.YtdlchnlpmofpmaaGreatDoorZg17
import Derived.Test.YtdlchnlpmofpmaaGreatDoorZg13
import Derived.Test.YtdlchnlpmofpmaaGreatDoorZVTab
import Derived.RangeFuncBox
import Derived.RangeFuncLeaves
import Derived.Shelf.Abstract
import Derived.WalkKit
import Derived.OwnWalkIn
import Derived.TacticsInMore
import Derived.LoopNIn
import Derived.LoopIn
import Derived.Shelf.Strings.Search1
import Derived.Test.YtdlchnlpmofpmaaGreatDoorZg6
set_option linter.all false
namespace Go.Proofs.YtdlchnlpmofpmaaGreatDoor
open Go.RowKit Go.V
attribute [local go_sem] List.getElem?_cons_succ List.getElem?_cons_zero List.set_cons_succ List.set_cons_zero List.map_cons List.map_nil List.length_cons List.length_nil List.all_cons List.all_nil List.drop_succ_cons List.drop_zero List.take_succ_cons List.take_zero List.flatMap_cons List.flatMap_nil List.cons_append List.nil_append List.append_nil List.headD_cons Value.oneCell' Bool.and_true Bool.true_and Bool.or_false Bool.false_or Bool.and_self Bool.not_true Bool.not_false and_true true_and beq_self_eq_true Bool.false_eq_true if_true if_false Nat.zero_add Nat.reduceAdd Nat.reduceMul Nat.reduceLeDiff Nat.le_refl Option.isSome_some Option.isSome_none not_true_eq_false not_false_eq_true ne_eq reduceCtorEq List.reverse_nil bne_self_eq_false Nat.reduceEqDiff List.isPrefixOf Bool.not_eq_true Bool.and_false Bool.false_and Bool.true_or Bool.or_true decide_true decide_false Nat.reduceBEq Nat.reduceBNe List.replicate_succ List.replicate_zero exists_eq_left' exists_eq_left Option.some.injEq or_false or_true true_or false_or Option.map_some Option.map_none mB Nat.reduceMod Nat.reduceDiv
set_option maxRecDepth 100000
theorem yH9 (c:UInt8):zG2 (c.toNat:Int)=zMd c:=by unfold zG2 zMd;rw [Bool.eq_iff_iff];simp only [Bool.and_eq_true,decide_eq_true_eq];omega
theorem zQp (c x:UInt8):decide ((c.toNat:Int)=(x.toNat:Int))=decide (c=x):=by
  rw [Bool.eq_iff_iff,decide_eq_true_eq,decide_eq_true_eq];constructor
  · intro h;exact UInt8.toNat_inj.1 (by omega)
  · rintro rfl;rfl
theorem zMf (o:List ByteArray)(x:ByteArray):(o++[x]).map rS=o.map rS++[[.v (.string x)]]:=by rw [List.map_append];rfl
theorem zPv {o:List ByteArray}{n:Nat}(h:o.length≤n)(hn:n≤1048577):((o.map rS).length+1)*(16+1)≤2 ^ 40:=by rw [List.length_map];omega
theorem zUr (x:UInt8):∀ (l:List UInt8) (i f:Nat),(cSp x l i f).length≤l.length+1
  | [],i,f=>by simp [cSp]
  | c::r,i,f=>by rw [zFo];have h1:=zUr x r (i+1) (i+1);have h2:=zUr x r (i+1) f;split<;>simp<;>omega
theorem zS6:∀ (l:List UInt8) (i f:Nat),(wSp l i f).length≤l.length+1
  | [],i,f=>by unfold wSp;split<;>simp
  | c::r,i,f=>by
    rw [zHz];have h1:=zS6 r (i+1) (i+1);have h2:=zS6 r (i+1) f;split
    · split<;>simp<;>omega
    · simp;omega
theorem zP4:∀ (l:List UInt8) (i f:Nat),(lSp l i f).length≤l.length+1
  | [],i,f=>by unfold lSp;split<;>simp
  | c::r,i,f=>by rw [zIr];have h1:=zP4 r (i+1) (i+1);have h2:=zP4 r (i+1) f;split<;>simp<;>omega
theorem zOg (x:UInt8)(b:ByteArray):(splitB x b).length≤b.size+1:=by unfold splitB;rw [List.length_map];exact zUr x _ _ _
theorem zWl (b:ByteArray):(zBk b).length≤b.size+1:=by unfold zBk;rw [List.length_map];exact zS6 _ _ _
theorem zOw (b:ByteArray):(zA5 b).length≤b.size+1:=by unfold zA5;rw [List.length_map];exact zP4 _ _ _
theorem zTi {x:UInt8}{b y:ByteArray}(h:y∈splitB x b):y.size≤b.size:=by unfold splitB at h;obtain ⟨p,_,rfl⟩:=List.mem_map.1 h;unfold exB;rw [ByteArray.size_extract];omega
theorem zLw {b y:ByteArray}(h:y∈zBk b):y.size≤b.size:=by unfold zBk at h;obtain ⟨p,_,rfl⟩:=List.mem_map.1 h;unfold exB;rw [ByteArray.size_extract];omega
theorem zMs {b y:ByteArray}(h:y∈zA5 b):y.size≤b.size:=by unfold zA5 at h;obtain ⟨p,_,rfl⟩:=List.mem_map.1 h;unfold exB;rw [ByteArray.size_extract];omega
def code_spec_l01Split:VCode:=(.seq (.ops [
  ⟨(some 4),none,(.asg (.const (.slice none 0 0)))⟩]) (.seq (.ops [
  ⟨(some 8),none,(.bsl 1 [])⟩,
  ⟨(some 5),none,(.asg (.tmp 8))⟩]) (.seq (.ops [
  ⟨(some 6),none,(.asg (.const (.int .i64 0)))⟩]) (.seq (.seq (.ops [
  ⟨(some 7),none,(.asg (.const (.int .i64 0)))⟩]) (.block 0 (.loop (mB 35 34258026012) (.seq (.seq (.ops [
  ⟨(some 9),none,(.mv (.tmp 7))⟩,
  ⟨(some 10),none,(.mv (.tmp 0))⟩,
  ⟨(some 11),none,(.lenS (.tmp 10))⟩,
  ⟨(some 12),none,(.bin .lss (.tmp 9) (.tmp 11))⟩]) (.cond (.tmp 12) .skip (.exit 0))) (.seq (.block 1 (.seq (.ops [
  ⟨(some 15),none,(.mv (.tmp 0))⟩,
  ⟨(some 16),none,(.mv (.tmp 7))⟩,
  ⟨(some 17),none,(.ixs (.tmp 15) (.tmp 16))⟩,
  ⟨(some 18),none,(.mv (.tmp 1))⟩,
  ⟨(some 19),none,(.bin .eql (.tmp 17) (.tmp 18))⟩]) (.cond (.tmp 19) (.seq (.ops [
  ⟨(some 20),none,(.mv (.tmp 5))⟩,
  ⟨(some 21),none,(.mv (.tmp 0))⟩,
  ⟨(some 22),none,(.mv (.tmp 6))⟩,
  ⟨(some 23),none,(.mv (.tmp 7))⟩,
  ⟨(some 24),none,(.slcS (.tmp 21) (some (.tmp 22)) (some (.tmp 23)))⟩,
  ⟨(some 25),none,(.bsl 1 [(.tmp 24)])⟩,
  ⟨(some 26),none,(.app 1 16 (.tmp 20) (.tmp 25))⟩,
  ⟨(some 5),none,(.asg (.tmp 26))⟩]) (.ops [
  ⟨(some 27),none,(.mv (.tmp 7))⟩,
  ⟨(some 28),none,(.bin .add (.tmp 27) (.const (.int .i64 1)))⟩,
  ⟨(some 6),none,(.asg (.tmp 28))⟩])) .skip))) (.ops [
  ⟨(some 13),none,(.mv (.tmp 7))⟩,
  ⟨(some 14),none,(.bin .add (.tmp 13) (.const (.int .i64 1)))⟩,
  ⟨(some 7),none,(.asg (.tmp 14))⟩])))))) (.seq (.ops [
  ⟨(some 29),none,(.mv (.tmp 5))⟩,
  ⟨(some 30),none,(.mv (.tmp 0))⟩,
  ⟨(some 31),none,(.mv (.tmp 6))⟩,
  ⟨(some 32),none,(.slcS (.tmp 30) (some (.tmp 31)) none)⟩,
  ⟨(some 33),none,(.bsl 1 [(.tmp 32)])⟩,
  ⟨(some 34),none,(.app 1 16 (.tmp 29) (.tmp 33))⟩,
  ⟨(some 4),none,(.asg (.tmp 34))⟩]) .ret)))))
theorem zJ2 {a0 a1 d:D}(h:code_spec_l01Split.wp (CT Tryz.prog zAr) (zC9 [(.t 4)] d) [a0,a1,.undef,.undef,.undef,.undef,.undef,.undef,.undef,.undef,.undef,.undef,.undef,.undef,.undef,.undef,.undef,.undef,.undef,.undef,.undef,.undef,.undef,.undef,.undef,.undef,.undef,.undef,.undef,.undef,.undef,.undef,.undef,.undef,.undef]):Contract Tryz.prog zAr 39 [a0,a1] d :=
  zAk (pt:=0) zC6 Tryz.func39 (fun us W=>by kernel_rfl) (c:=Tryz.f39.body.getD .skip) (ms:=[(mB 35 34258026012)]) (ms':=[]) (by kernel_rfl) (by kernel_rfl) (by kernel_rfl) h
def code_spec_l05Lines:VCode:=(.seq (.ops [
  ⟨(some 2),none,(.asg (.const (.slice none 0 0)))⟩]) (.seq (.seq (.ops [
  ⟨(some 4),none,(.mv (.tmp 0))⟩,
  ⟨(some 5),none,(.bin .eql (.tmp 4) (.const (.string ⟨⟨[]⟩⟩)))⟩]) (.cond (.tmp 5) (.seq (.ops [
  ⟨(some 6),none,(.bsl 1 [])⟩,
  ⟨(some 2),none,(.asg (.tmp 6))⟩]) .ret) .skip)) (.seq (.ops [
  ⟨(some 7),none,(.mv (.tmp 0))⟩,
  ⟨(some 8),none,(.callX 39 [(.tmp 7),(.const (.int .u8 10))])⟩,
  ⟨(some 3),none,(.asg (.tmp 8))⟩]) (.seq (.seq (.ops [
  ⟨(some 9),none,(.mv (.tmp 3))⟩,
  ⟨(some 10),none,(.mv (.tmp 3))⟩,
  ⟨(some 11),none,(.len (.tmp 10))⟩,
  ⟨(some 12),none,(.bin .sub (.tmp 11) (.const (.int .i64 1)))⟩,
  ⟨(some 13),none,(.ia 1 (.tmp 9) (.tmp 12))⟩,
  ⟨(some 14),none,(.load 1 false (.tmp 13))⟩,
  ⟨(some 15),none,(.bin .eql (.tmp 14) (.const (.string ⟨⟨[]⟩⟩)))⟩]) (.cond (.tmp 15) (.ops [
  ⟨(some 16),none,(.mv (.tmp 3))⟩,
  ⟨(some 17),none,(.mv (.tmp 3))⟩,
  ⟨(some 18),none,(.len (.tmp 17))⟩,
  ⟨(some 19),none,(.bin .sub (.tmp 18) (.const (.int .i64 1)))⟩,
  ⟨(some 20),none,(.slc 1 (.tmp 16) none (some (.tmp 19)) none)⟩,
  ⟨(some 3),none,(.asg (.tmp 20))⟩]) .skip)) (.seq (.ops [
  ⟨(some 21),none,(.mv (.tmp 3))⟩,
  ⟨(some 2),none,(.asg (.tmp 21))⟩]) .ret)))))
theorem zJ0 {a0 d:D}(h:code_spec_l05Lines.wp (CT Tryz.prog zAr) (zC9 [(.t 2)] d) [a0,.undef,.undef,.undef,.undef,.undef,.undef,.undef,.undef,.undef,.undef,.undef,.undef,.undef,.undef,.undef,.undef,.undef,.undef,.undef,.undef,.undef]):Contract Tryz.prog zAr 16 [a0] d :=
  zAk (pt:=0) zC6 Tryz.func16 (fun us W=>by kernel_rfl) (c:=Tryz.f16.body.getD .skip) (ms:=[]) (ms':=[]) (by kernel_rfl) (by kernel_rfl) (by kernel_rfl) h
def code_spec_l05Words:VCode:=(.seq (.ops [
  ⟨(some 2),none,(.asg (.const (.slice none 0 0)))⟩]) (.seq (.ops [
  ⟨(some 6),none,(.bsl 1 [])⟩,
  ⟨(some 3),none,(.asg (.tmp 6))⟩]) (.seq (.ops [
  ⟨(some 4),none,(.asg (.const (.int .i64 0)))⟩]) (.seq (.seq (.ops [
  ⟨(some 5),none,(.asg (.const (.int .i64 0)))⟩]) (.block 0 (.loop (mB 36 62209916806) (.seq (.seq (.ops [
  ⟨(some 7),none,(.mv (.tmp 5))⟩,
  ⟨(some 8),none,(.mv (.tmp 0))⟩,
  ⟨(some 9),none,(.lenS (.tmp 8))⟩,
  ⟨(some 10),none,(.bin .leq (.tmp 7) (.tmp 9))⟩]) (.cond (.tmp 10) .skip (.exit 0))) (.seq (.block 1 (.seq (.ops [
  ⟨(some 13),none,(.mv (.tmp 5))⟩,
  ⟨(some 14),none,(.mv (.tmp 0))⟩,
  ⟨(some 15),none,(.lenS (.tmp 14))⟩,
  ⟨(some 16),none,(.bin .eql (.tmp 13) (.tmp 15))⟩,
  ⟨(some 17),none,(.mv (.tmp 16))⟩,
  ⟨(some 18),(some (17,false)),(.mv (.tmp 0))⟩,
  ⟨(some 19),(some (17,false)),(.mv (.tmp 5))⟩,
  ⟨(some 20),(some (17,false)),(.ixs (.tmp 18) (.tmp 19))⟩,
  ⟨(some 21),(some (17,false)),(.bin .eql (.tmp 20) (.const (.int .u8 32)))⟩,
  ⟨(some 22),none,(.pick (.tmp 17) (.const (.bool true)) (.tmp 21))⟩]) (.cond (.tmp 22) (.seq (.seq (.ops [
  ⟨(some 23),none,(.mv (.tmp 5))⟩,
  ⟨(some 24),none,(.mv (.tmp 4))⟩,
  ⟨(some 25),none,(.bin .gtr (.tmp 23) (.tmp 24))⟩]) (.cond (.tmp 25) (.ops [
  ⟨(some 26),none,(.mv (.tmp 3))⟩,
  ⟨(some 27),none,(.mv (.tmp 0))⟩,
  ⟨(some 28),none,(.mv (.tmp 4))⟩,
  ⟨(some 29),none,(.mv (.tmp 5))⟩,
  ⟨(some 30),none,(.slcS (.tmp 27) (some (.tmp 28)) (some (.tmp 29)))⟩,
  ⟨(some 31),none,(.bsl 1 [(.tmp 30)])⟩,
  ⟨(some 32),none,(.app 1 16 (.tmp 26) (.tmp 31))⟩,
  ⟨(some 3),none,(.asg (.tmp 32))⟩]) .skip)) (.ops [
  ⟨(some 33),none,(.mv (.tmp 5))⟩,
  ⟨(some 34),none,(.bin .add (.tmp 33) (.const (.int .i64 1)))⟩,
  ⟨(some 4),none,(.asg (.tmp 34))⟩])) .skip))) (.ops [
  ⟨(some 11),none,(.mv (.tmp 5))⟩,
  ⟨(some 12),none,(.bin .add (.tmp 11) (.const (.int .i64 1)))⟩,
  ⟨(some 5),none,(.asg (.tmp 12))⟩])))))) (.seq (.ops [
  ⟨(some 35),none,(.mv (.tmp 3))⟩,
  ⟨(some 2),none,(.asg (.tmp 35))⟩]) .ret)))))
theorem zJz {a0 d:D}(h:code_spec_l05Words.wp (CT Tryz.prog zAr) (zC9 [(.t 2)] d) [a0,.undef,.undef,.undef,.undef,.undef,.undef,.undef,.undef,.undef,.undef,.undef,.undef,.undef,.undef,.undef,.undef,.undef,.undef,.undef,.undef,.undef,.undef,.undef,.undef,.undef,.undef,.undef,.undef,.undef,.undef,.undef,.undef,.undef,.undef,.undef]):Contract Tryz.prog zAr 17 [a0] d :=
  zAk (pt:=0) zC6 Tryz.func17 (fun us W=>by kernel_rfl) (c:=Tryz.f17.body.getD .skip) (ms:=[(mB 36 62209916806)]) (ms':=[]) (by kernel_rfl) (by kernel_rfl) (by kernel_rfl) h
def code_spec_ReadDecimal:VCode:=(.seq (.ops [
  ⟨(some 2),none,(.asg (.const (.int .i64 0)))⟩,
  ⟨(some 3),none,(.asg (.const (.bool false)))⟩]) (.seq (.seq (.ops [
  ⟨(some 6),none,(.mv (.tmp 0))⟩,
  ⟨(some 7),none,(.lenS (.tmp 6))⟩,
  ⟨(some 8),none,(.bin .lss (.tmp 7) (.const (.int .i64 1)))⟩,
  ⟨(some 9),none,(.mv (.tmp 8))⟩,
  ⟨(some 10),(some (9,false)),(.mv (.tmp 0))⟩,
  ⟨(some 11),(some (9,false)),(.lenS (.tmp 10))⟩,
  ⟨(some 12),(some (9,false)),(.bin .gtr (.tmp 11) (.const (.int .i64 11)))⟩,
  ⟨(some 13),none,(.pick (.tmp 9) (.const (.bool true)) (.tmp 12))⟩]) (.cond (.tmp 13) (.seq (.ops [
  ⟨(some 2),none,(.asg (.const (.int .i64 0)))⟩,
  ⟨(some 3),none,(.asg (.const (.bool false)))⟩]) .ret) .skip)) (.seq (.ops [
  ⟨(some 4),none,(.asg (.const (.int .i64 0)))⟩]) (.seq (.seq (.ops [
  ⟨(some 5),none,(.asg (.const (.int .i64 0)))⟩]) (.block 0 (.loop (mB 56 72057594037927886) (.seq (.seq (.ops [
  ⟨(some 14),none,(.mv (.tmp 5))⟩,
  ⟨(some 15),none,(.mv (.tmp 0))⟩,
  ⟨(some 16),none,(.lenS (.tmp 15))⟩,
  ⟨(some 17),none,(.bin .lss (.tmp 14) (.tmp 16))⟩]) (.cond (.tmp 17) .skip (.exit 0))) (.seq (.block 1 (.seq (.seq (.ops [
  ⟨(some 20),none,(.mv (.tmp 5))⟩,
  ⟨(some 21),none,(.bin .eql (.tmp 20) (.const (.int .i64 0)))⟩,
  ⟨(some 22),none,(.mv (.tmp 21))⟩,
  ⟨(some 23),(some (22,true)),(.mv (.tmp 0))⟩,
  ⟨(some 24),(some (22,true)),(.mv (.tmp 5))⟩,
  ⟨(some 25),(some (22,true)),(.ixs (.tmp 23) (.tmp 24))⟩,
  ⟨(some 26),(some (22,true)),(.bin .eql (.tmp 25) (.const (.int .u8 45)))⟩,
  ⟨(some 27),none,(.pick (.tmp 22) (.tmp 26) (.const (.bool false)))⟩]) (.cond (.tmp 27) (.exit 1) .skip)) (.seq (.seq (.ops [
  ⟨(some 28),none,(.mv (.tmp 0))⟩,
  ⟨(some 29),none,(.mv (.tmp 5))⟩,
  ⟨(some 30),none,(.ixs (.tmp 28) (.tmp 29))⟩,
  ⟨(some 31),none,(.callX 64 [(.tmp 30)])⟩,
  ⟨(some 32),none,(.un .not (.tmp 31))⟩]) (.cond (.tmp 32) (.seq (.ops [
  ⟨(some 2),none,(.asg (.const (.int .i64 0)))⟩,
  ⟨(some 3),none,(.asg (.const (.bool false)))⟩]) .ret) .skip)) (.ops [
  ⟨(some 33),none,(.mv (.tmp 4))⟩,
  ⟨(some 34),none,(.bin .mul (.const (.int .i64 10)) (.tmp 33))⟩,
  ⟨(some 35),none,(.mv (.tmp 0))⟩,
  ⟨(some 36),none,(.mv (.tmp 5))⟩,
  ⟨(some 37),none,(.ixs (.tmp 35) (.tmp 36))⟩,
  ⟨(some 38),none,(.bin .sub (.tmp 37) (.const (.int .u8 48)))⟩,
  ⟨(some 39),none,(.conv .i64 (.tmp 38))⟩,
  ⟨(some 40),none,(.bin .add (.tmp 34) (.tmp 39))⟩,
  ⟨(some 4),none,(.asg (.tmp 40))⟩])))) (.ops [
  ⟨(some 18),none,(.mv (.tmp 5))⟩,
  ⟨(some 19),none,(.bin .add (.tmp 18) (.const (.int .i64 1)))⟩,
  ⟨(some 5),none,(.asg (.tmp 19))⟩])))))) (.seq (.seq (.ops [
  ⟨(some 41),none,(.mv (.tmp 0))⟩,
  ⟨(some 42),none,(.ixs (.tmp 41) (.const (.int .i64 0)))⟩,
  ⟨(some 43),none,(.bin .eql (.tmp 42) (.const (.int .u8 45)))⟩]) (.cond (.tmp 43) (.ops [
  ⟨(some 44),none,(.mv (.tmp 4))⟩,
  ⟨(some 45),none,(.un .neg (.tmp 44))⟩,
  ⟨(some 4),none,(.asg (.tmp 45))⟩]) .skip)) (.seq (.seq (.ops [
  ⟨(some 46),none,(.mv (.tmp 4))⟩,
  ⟨(some 47),none,(.callX 36 [(.tmp 46),(.const (.int .i64 (-1000000000))),(.const (.int .i64 1000000000))])⟩,
  ⟨(some 48),none,(.un .not (.tmp 47))⟩,
  ⟨(some 49),none,(.mv (.tmp 48))⟩,
  ⟨(some 50),(some (49,false)),(.mv (.tmp 4))⟩,
  ⟨(some 51),(some (49,false)),(.callX 93 [(.tmp 50)])⟩,
  ⟨(some 52),(some (49,false)),(.mv (.tmp 0))⟩,
  ⟨(some 53),(some (49,false)),(.bin .neq (.tmp 51) (.tmp 52))⟩,
  ⟨(some 54),none,(.pick (.tmp 49) (.const (.bool true)) (.tmp 53))⟩]) (.cond (.tmp 54) (.seq (.ops [
  ⟨(some 2),none,(.asg (.const (.int .i64 0)))⟩,
  ⟨(some 3),none,(.asg (.const (.bool false)))⟩]) .ret) .skip)) (.seq (.ops [
  ⟨(some 55),none,(.mv (.tmp 4))⟩,
  ⟨(some 2),none,(.asg (.tmp 55))⟩,
  ⟨(some 3),none,(.asg (.const (.bool true)))⟩]) .ret)))))))
theorem zG1 {a0 d:D}(h:code_spec_ReadDecimal.wp (CT Tryz.prog zAr) (zC9 [(.t 2),(.t 3)] d) [a0,.undef,.undef,.undef,.undef,.undef,.undef,.undef,.undef,.undef,.undef,.undef,.undef,.undef,.undef,.undef,.undef,.undef,.undef,.undef,.undef,.undef,.undef,.undef,.undef,.undef,.undef,.undef,.undef,.undef,.undef,.undef,.undef,.undef,.undef,.undef,.undef,.undef,.undef,.undef,.undef,.undef,.undef,.undef,.undef,.undef,.undef,.undef,.undef,.undef,.undef,.undef,.undef,.undef,.undef,.undef]):Contract Tryz.prog zAr 65 [a0] d :=
  zAk (pt:=0) zC6 Tryz.func65 (fun us W=>by kernel_rfl) (c:=Tryz.f65.body.getD .skip) (ms:=[(mB 56 72057594037927886)]) (ms':=[]) (by kernel_rfl) (by kernel_rfl) (by kernel_rfl) h
set_option maxHeartbeats 1000000 in
theorem zOe (b:ByteArray)(x:UInt8)(hb:b.size≤1048576):Contract Tryz.prog zAr 39 [.v (.string b),.v (.int .u8 (x.toNat:Int))] (.sl true 1 ((splitB x b).map rS)):=by
  refine zJ2 ?_;unfold code_spec_l01Split;have hl:=zOg x b;simp -implicitDefEqProofs (disch:=omega) only [go_sem,↓reduceIte];refine zF9 (by simp -implicitDefEqProofs (disch:=omega) only [go_sem,↓reduceIte];exact rfl) (fun q:Nat×Nat×List ByteArray=>[(5,.sl true 1 (q.2.2.map rS)),(6,.v (.int .i64 (q.2.1:Nat))),(7,.v (.int .i64 (q.1:Nat)))]) (fun _=>by simp only [zFk,zD1,List.set_cons_zero,List.set_cons_succ];exact rfl) (fun q:Nat×Nat×List ByteArray=>q.1≤b.size∧q.2.1≤q.1∧q.2.2++(cSp x (b.data.toList.drop q.1) q.1 q.2.1).map (exB b)=splitB x b) (fun q:Nat×Nat×List ByteArray=>b.size-q.1) ((0,0,[])) (zDo) (?_) ?_
  · exact ⟨Nat.zero_le _,Nat.le_refl _,rfl⟩
  rintro ⟨i,f,o⟩ ⟨hi,hf,ho⟩;simp only at hi hf ho ⊢;have hol:o.length≤b.size+1:=by have:=congrArg List.length ho;rw [List.length_append] at this;omega
  simp -implicitDefEqProofs (disch:=omega) only [go_sem,↓reduceIte];refine zAn ?_ ?_<;>intro hlt
  · have hlt:i<b.size:=(by simpa using hlt);have e1:=yVq hlt;have hd:=drop_at (l:=b.data.toList) (i:=i) hlt;rw [hd,zFo] at ho;have hby:=zQp (b.data.toList[i]'hlt) x;cases hc:decide (b.data.toList[i]'hlt=x) with
    | true =>
      rw [hc] at hby
      rw [if_pos (of_decide_eq_true hc)] at ho;have hsm:=zPv hol (by omega);simp -implicitDefEqProofs (disch:=omega) only [go_sem,↓reduceIte ,Int.toNat_natCast,Int.natCast_nonneg,e1,hby,Int.ofNat_le];refine ⟨hf,hi,?_,?_⟩
      · simpa using hsm
      simp -implicitDefEqProofs (disch:=omega) only [go_sem,↓reduceIte ,wrN];refine ⟨(i+1,i+1,o++[exB b (f,i)]),by show b.size-(i+1)<b.size-i;omega,⟨hlt,Nat.le_refl _,by simpa using ho⟩,?_⟩;simp only [zMf];exact zDo
    | false =>
      rw [hc] at hby
      rw [if_neg (of_decide_eq_false hc)] at ho;simp -implicitDefEqProofs (disch:=omega) only [go_sem,↓reduceIte ,Int.toNat_natCast,Int.natCast_nonneg,e1,hby,wrN];exact ⟨(i+1,f,o),by show b.size-(i+1)<b.size-i;omega,⟨hlt,by simp only;omega,ho⟩,zDo⟩
  · have hie:i=b.size:=(by have:¬ i<b.size:=(by simpa using hlt);omega);subst hie;rw [List.drop_of_length_le (by rw [bsz];exact Nat.le_refl _)] at ho;have hsm:=zPv hol (by omega);simp -implicitDefEqProofs (disch:=omega) only [go_sem,↓reduceIte ,Int.toNat_natCast,Int.natCast_nonneg,Int.ofNat_le];refine ⟨hf,by simpa using hsm,?_⟩;rw [← ho,List.map_append];rfl
set_option maxHeartbeats 1000000 in
theorem zWs (b:ByteArray)(hb:b.size≤1048576):Contract Tryz.prog zAr 16 [.v (.string b)] (.sl true 1 ((zA5 b).map rS)):=by
  refine zJ0 ?_;unfold code_spec_l05Lines;by_cases h0:b.size=0
  · have he:b=⟨⟨[]⟩⟩:=(by apply ByteArray.ext;exact Array.eq_empty_of_size_eq_zero h0);have hd:decide (b=(⟨⟨[]⟩⟩:ByteArray))=true:=decide_eq_true he;rw [zT5 b h0];simp -implicitDefEqProofs (disch:=omega) only [go_sem,↓reduceIte ,hd]
    first | done | rfl
  · have hd:decide (b=(⟨⟨[]⟩⟩:ByteArray))=false:=decide_eq_false (fun e=>h0 (by rw [e];rfl));obtain ⟨ini,last,h1,h2⟩:=zN3 b h0;have hs:=zOe b 10 hb;have hil:(ini++[last]).length≤b.size+1:=(by rw [← h1];exact zOg 10 b);rw [h1,zMf] at hs;have e1:(ini.map rS++[[D.v (.string last)]])[ini.length]?=some [D.v (.string last)]:=(by simp);have hlen:(ini.map rS++[[D.v (.string last)]]).length=ini.length+1:=(by simp);have hw:IntKind.i64.wrap (((ini.length+1:Nat):Int)-1)=(ini.length:Int):=(by rw [List.length_append,List.length_singleton] at hil;rw [wrI (by omega) (by omega)];omega);cases hc:decide (last=(⟨⟨[]⟩⟩:ByteArray)) with
    | true =>
      have h2:zA5 b=ini:=(by rw [h2,if_pos (of_decide_eq_true hc)]);rw [h2];simp -implicitDefEqProofs (disch:=omega) only [go_sem,↓reduceIte ,hd];refine zAm (hs) (by simp -implicitDefEqProofs (disch:=omega) only [go_sem,↓reduceIte,deep,TD.rows,zAe,zAc,zAf,zAb,zAd,zAa,hlen,hw,Int.toNat_natCast,Int.natCast_nonneg,e1,hc];exact rfl) ?_;simp -implicitDefEqProofs (disch:=omega) only [go_sem,↓reduceIte ,hlen,hw,Int.toNat_natCast,Int.natCast_nonneg,e1,hc];have htk:List.take (ini.length-0) (ini.map rS++[[D.v (.string last)]])=ini.map rS:=(by simp);have hif:(ini.length-0≤ini.length+1)=True:=(by simp);refine ⟨by omega,by omega,by omega,by omega,by omega,?_⟩;simp -implicitDefEqProofs (disch:=omega) only [go_sem,↓reduceIte ,hif,htk,if_true]
      first | done | rfl
    | false=>have h2:zA5 b=ini++[last]:=(by rw [h2,if_neg (of_decide_eq_false hc)]);rw [h2,zMf];simp -implicitDefEqProofs (disch:=omega) only [go_sem,↓reduceIte ,hd];refine zAm (hs) (by simp -implicitDefEqProofs (disch:=omega) only [go_sem,↓reduceIte,deep,TD.rows,zAe,zAc,zAf,zAb,zAd,zAa,hlen,hw,Int.toNat_natCast,Int.natCast_nonneg,e1,hc];exact rfl) ?_;simp -implicitDefEqProofs (disch:=omega) only [go_sem,↓reduceIte ,hlen,hw,Int.toNat_natCast,Int.natCast_nonneg,e1,hc];omega
def wT (b:ByteArray)(i f:Nat):List ByteArray:=if i≤b.size then (wSp (b.data.toList.drop i) i f).map (exB b) else []
theorem yX6 (b:ByteArray):wT b 0 0=zBk b:=by unfold wT;rw [if_pos (Nat.zero_le _)];rfl
theorem yQ5 (b:ByteArray)(f:Nat):wT b b.size f=if f<b.size then [exB b (f,b.size)] else []:=by unfold wT;rw [if_pos (Nat.le_refl _),List.drop_of_length_le (by rw [bsz];exact Nat.le_refl _)];unfold wSp;split<;>rfl
theorem yK0 {b:ByteArray}{i f:Nat}(h:b.size<i):wT b i f=[]:=by unfold wT;rw [if_neg (by omega)]
theorem yKz {b:ByteArray}{i f:Nat}(h:i<b.size):wT b i f=if b.data.toList[i]'h=32 then (if f<i then exB b (f,i)::wT b (i+1) (i+1) else wT b (i+1) (i+1)) else wT b (i+1) f:=by
  have h1:i≤b.size:=(by omega);have h2:i+1≤b.size:=h;simp only [wT,if_pos h1,if_pos h2];rw [drop_at (l:=b.data.toList) (i:=i) h,zHz];split
  · split<;>rfl
  · rfl
set_option maxHeartbeats 2000000 in
theorem zWr (b:ByteArray) (hb:b.size≤1048576):Contract Tryz.prog zAr 17 [.v (.string b)] (.sl true 1 ((zBk b).map rS)):=by
  refine zJz ?_;unfold code_spec_l05Words;have hl:=zWl b;simp -implicitDefEqProofs (disch:=omega) only [go_sem,↓reduceIte];refine zF9 (by simp -implicitDefEqProofs (disch:=omega) only [go_sem,↓reduceIte];exact rfl) (fun q:Nat×Nat×List ByteArray=>[(3,.sl true 1 (q.2.2.map rS)),(4,.v (.int .i64 (q.2.1:Nat))),(5,.v (.int .i64 (q.1:Nat)))]) (fun _=>by simp only [zFk,zD1,List.set_cons_zero,List.set_cons_succ];exact rfl) (fun q:Nat×Nat×List ByteArray=>q.1≤b.size+1∧q.2.1≤q.1∧q.2.2++wT b q.1 q.2.1=zBk b) (fun q:Nat×Nat×List ByteArray=>b.size+1-q.1) ((0,0,[])) (zDo) (?_) ?_
  · exact ⟨Nat.zero_le _,Nat.le_refl _,yX6 b⟩
  rintro ⟨i,f,o⟩ ⟨hi,hf,ho⟩;simp only at hi hf ho ⊢;have hol:o.length≤b.size+1:=by have:=congrArg List.length ho;rw [List.length_append] at this;omega
  have hsm:=zPv hol (by omega);simp -implicitDefEqProofs (disch:=omega) only [go_sem,↓reduceIte];refine zAn ?_ ?_<;>intro hle
  · have hle:i≤b.size:=(by simpa using hle);by_cases hie:i=b.size
    · subst hie;rw [yQ5] at ho;have ee:decide (((b.size:Nat):Int)=(b.size:Int))=true:=decide_eq_true rfl;by_cases hfi:f<b.size
      · rw [if_pos hfi] at ho;have e2:decide (((f:Nat):Int)<(b.size:Int))=true:=decide_eq_true (by omega);simp -implicitDefEqProofs (disch:=omega) only [go_sem,↓reduceIte ,Int.toNat_natCast,Int.natCast_nonneg,Int.ofNat_le,e2];refine ⟨hf,?_,?_⟩
        · simpa using hsm
        simp -implicitDefEqProofs (disch:=omega) only [go_sem,↓reduceIte ,wrN];refine ⟨(b.size+1,b.size+1,o++[exB b (f,b.size)]),by show b.size+1-(b.size+1)<b.size+1-b.size;omega,⟨Nat.le_refl _,Nat.le_refl _,by rw [yK0 (by omega),List.append_nil];exact ho⟩,?_⟩;simp only [zMf];exact zDo
      · rw [if_neg hfi] at ho;have e2:decide (((f:Nat):Int)<(b.size:Int))=false:=decide_eq_false (by omega);simp -implicitDefEqProofs (disch:=omega) only [go_sem,↓reduceIte ,Int.toNat_natCast,Int.natCast_nonneg,Int.ofNat_le,e2,wrN];exact ⟨(b.size+1,b.size+1,o),by show b.size+1-(b.size+1)<b.size+1-b.size;omega,⟨Nat.le_refl _,Nat.le_refl _,by rw [yK0 (by omega)];exact ho⟩,zDo⟩
    · have hlt:i<b.size:=(by omega);have ee:decide (((i:Nat):Int)=(b.size:Int))=false:=decide_eq_false (by omega);have e1:=yVq hlt;have hby:=zQp (b.data.toList[i]'hlt) 32;rw [yKz hlt] at ho;have e3:((32:UInt8).toNat:Int)=32:=rfl;rw [e3] at hby
      cases hc:decide (b.data.toList[i]'hlt=32) with
      | true =>
        rw [hc] at hby
        rw [if_pos (of_decide_eq_true hc)] at ho;by_cases hfi:f<i
        · rw [if_pos hfi] at ho;have e2:decide (((f:Nat):Int)<(i:Int))=true:=decide_eq_true (by omega);simp -implicitDefEqProofs (disch:=omega) only [go_sem,↓reduceIte ,Int.toNat_natCast,Int.natCast_nonneg,Int.ofNat_le,e1,hby,e2,ee];refine ⟨hf,hle,?_,?_⟩
          · simpa using hsm
          simp -implicitDefEqProofs (disch:=omega) only [go_sem,↓reduceIte ,wrN];refine ⟨(i+1,i+1,o++[exB b (f,i)]),by show b.size+1-(i+1)<b.size+1-i;omega,⟨by simp only;omega,Nat.le_refl _,by simpa using ho⟩,?_⟩;simp only [zMf];exact zDo
        · rw [if_neg hfi] at ho;have e2:decide (((f:Nat):Int)<(i:Int))=false:=decide_eq_false (by omega);simp -implicitDefEqProofs (disch:=omega) only [go_sem,↓reduceIte ,Int.toNat_natCast,Int.natCast_nonneg,Int.ofNat_le,e1,hby,e2,ee,wrN];exact ⟨(i+1,i+1,o),by show b.size+1-(i+1)<b.size+1-i;omega,⟨by simp only;omega,Nat.le_refl _,ho⟩,zDo⟩
      | false =>
        rw [hc] at hby
        rw [if_neg (of_decide_eq_false hc)] at ho;simp -implicitDefEqProofs (disch:=omega) only [go_sem,↓reduceIte ,Int.toNat_natCast,Int.natCast_nonneg,Int.ofNat_le,e1,hby,ee,wrN];exact ⟨(i+1,f,o),by show b.size+1-(i+1)<b.size+1-i;omega,⟨by simp only;omega,by simp only;omega,ho⟩,zDo⟩
  · have hie:b.size<i:=(by have:¬ i≤b.size:=(by simpa using hle);omega);rw [yK0 hie,List.append_nil] at ho;subst ho;simp -implicitDefEqProofs (disch:=omega) only [go_sem,↓reduceIte]
    first | done | rfl
theorem zOo {l m:List UInt8}(h:l≠[]):zB4 (l++m)=zB4 l++m:=by
  cases l with
  | nil=>exact absurd rfl h
  | cons c r=>rw [List.cons_append,zCk,zCk];split<;>rfl
theorem take_at {l:List UInt8}{i:Nat}(h:i<l.length):l.take (i+1)=l.take i++[l[i]]:=by rw [List.take_succ,List.getElem?_eq_getElem h];rfl
theorem zKn {l:List UInt8}(h:0<l.length)(hc:l[0]=45):zB4 (l.take (0+1))=[]:=by rw [take_at h,List.take_zero,List.nil_append,zCk,if_pos hc]
theorem zHg {l:List UInt8}{i:Nat}(h:i<l.length)(hc:¬ (i=0∧l[i]=45)):zB4 (l.take (i+1))=zB4 (l.take i)++[l[i]]:=by
  rw [take_at h];by_cases h0:i=0
  · subst h0;rw [List.take_zero,List.nil_append,zCk,if_neg (fun e=>hc ⟨rfl,e⟩)];rfl
  · apply zOo;intro e;have:=congrArg List.length e;rw [List.length_take,List.length_nil] at this;omega
theorem zXk {l:List UInt8}{i:Nat}(h:i<l.length)(hc:¬ (i=0∧l[i]=45))(hd:zMd l[i]=false):(zB4 l).all zMd=false:=by
  have e:l=l.take (i+1)++l.drop (i+1):=(List.take_append_drop _ _).symm;have e2:zB4 l=zB4 (l.take i)++[l[i]]++l.drop (i+1):=by
    conv=>lhs;rw [e]
    rw [zOo (by intro e;have:=congrArg List.length e;rw [List.length_take,List.length_nil] at this;omega),zHg h hc]
  rw [e2];simp only [List.all_append,List.all_cons,List.all_nil,hd,Bool.false_and,Bool.and_false]
theorem zRs:∀ (l:List UInt8) (a:Int),0≤a→l.all zMd=true→0≤l.foldl (fun n c=>10*n+((c.toNat:Int)-48)) a∧l.foldl (fun n c=>10*n+((c.toNat:Int)-48)) a<(a+1)*10 ^ l.length
  | [],a,h,_=>⟨h,by simp only [List.foldl_nil,List.length_nil,Int.pow_zero];omega⟩
  | c::r,a,h,hd=>by rw [List.all_cons,Bool.and_eq_true] at hd;have h3:=hd.1;simp only [zMd,Bool.and_eq_true,decide_eq_true_eq] at h3;obtain ⟨h1,h2⟩:=zRs r (10*a+((c.toNat:Int)-48)) (by omega) hd.2;refine ⟨h1,Int.lt_of_lt_of_le h2 ?_⟩;rw [List.length_cons,Int.pow_succ,Int.mul_comm (10 ^ r.length) 10,← Int.mul_assoc];refine Int.mul_le_mul_of_nonneg_right ?_ (Int.pow_nonneg (by omega));omega
theorem yGg (l:List UInt8)(h:l.all zMd=true):0≤zFt l∧zFt l<10 ^ l.length:=by have:=zRs l 0 (Int.le_refl _) h;rw [Int.zero_add,Int.one_mul] at this;exact this
theorem zXj (l:List UInt8):(zB4 l).length≤l.length:=by
  cases l with
  | nil=>exact Nat.le_refl _
  | cons c r=>rw [zCk];split<;>simp
theorem yGh {l:List UInt8}(h:l.all zMd=true)(hl:l.length≤11):0≤zFt l∧zFt l<100000000000:=by have h1:=yGg l h;have h2:(10:Int) ^ l.length≤10 ^ 11:=(by have:(10:Nat) ^ l.length≤10 ^ 11:=Nat.pow_le_pow_right (by omega) hl;exact_mod_cast this);have h3:(10:Int) ^ 11=100000000000:=(by decide);omega
theorem yGi {l:List UInt8}(h:0<l.length):zRu l=decide (l[0]=45):=by
  cases l with
  | nil=>exact absurd h (by decide)
  | cons c r=>rfl
def rdR (o:_root_.Option Int):D:=.tup [.v (.int .i64 (o.getD 0)),.v (.bool o.isSome)]
set_option maxHeartbeats 2000000 in
theorem zEo (b:ByteArray) (hb:b.size≤1048576):Contract Tryz.prog zAr 65 [.v (.string b)] (rdR (zBu b)):=by
  refine zG1 ?_;unfold code_spec_ReadDecimal rdR;cases g1:decide ((b.size:Int)<1) with
  | true =>
    have:zBu b=none:=(by unfold zBu;rw [if_neg];have:=of_decide_eq_true g1;omega);rw [this];simp -implicitDefEqProofs (disch:=omega) only [go_sem,↓reduceIte ,g1]
    first | done | rfl
  | false =>
  have h1:=of_decide_eq_false g1;cases g2:decide ((b.size:Int)>11) with
  | true =>
    have:zBu b=none:=(by unfold zBu;rw [if_neg];have:=of_decide_eq_true g2;omega);rw [this];simp -implicitDefEqProofs (disch:=omega) only [go_sem,↓reduceIte ,g1,g2]
    first | done | rfl
  | false =>
  have h2:=of_decide_eq_false g2;simp -implicitDefEqProofs (disch:=omega) only [go_sem,↓reduceIte ,g1,g2];refine zF9 (by simp -implicitDefEqProofs (disch:=omega) only [go_sem,↓reduceIte];exact rfl) (fun q:Nat=>[(4,.v (.int .i64 (zFt (zB4 (b.data.toList.take q))))),(5,.v (.int .i64 (q:Nat)))]) (fun _=>by simp only [zFk,zD1,List.set_cons_zero,List.set_cons_succ];exact rfl) (fun q:Nat=>q≤b.size∧(zB4 (b.data.toList.take q)).all zMd=true) (fun q:Nat=>b.size-q) (0) (zDo) (?_) ?_
  · exact ⟨Nat.zero_le _,rfl⟩
  rintro i ⟨hi,ha⟩;have hl:=Nat.le_trans (zXj (b.data.toList.take i)) (by rw [List.length_take,bsz];omega:(b.data.toList.take i).length≤11);have hv:=yGh ha hl;simp -implicitDefEqProofs (disch:=omega) only [go_sem,↓reduceIte];refine zAn ?_ ?_<;>intro hlt
  · have hlt:i<b.size:=(by simpa using hlt);have e1:=yVq hlt;have hby:=zQp (b.data.toList[i]'hlt) 45;have e3:((45:UInt8).toNat:Int)=45:=rfl;rw [e3] at hby
    have hc9:(b.data.toList[i]'hlt).toNat<256:=UInt8.toNat_lt _;have hD:=yH9 (b.data.toList[i]'hlt);have htl:i<b.data.toList.length:=hlt;by_cases hz:i=0∧b.data.toList[i]'hlt=45
    · obtain ⟨rfl,hz⟩:=hz;rw [decide_eq_true hz] at hby
      have z0:decide (((0:Nat):Int)=0)=true:=decide_eq_true rfl;simp -implicitDefEqProofs (disch:=omega) only [go_sem,↓reduceIte ,Int.toNat_natCast,Int.natCast_nonneg,e1,hby,wrN,z0];refine ⟨1,by show b.size-1<b.size-0;omega,⟨by omega,by rw [zKn htl hz];rfl⟩,?_⟩;rw [zKn htl hz];exact zDo
    · have hq:decide ((i:Int)=0)=false∨decide (((b.data.toList[i]'hlt).toNat:Int)=45)=false:=by
        by_cases h0:i=0
        · right;rw [hby];exact decide_eq_false (fun e=>hz ⟨h0,e⟩)
        · left;exact decide_eq_false (by omega)
      cases hd:zMd (b.data.toList[i]'hlt) with
      | false =>
        rw [hd] at hD;have hN:zBu b=none:=by unfold zBu;rw [if_neg];rintro ⟨_,_,h,_⟩;rw [zXk htl hz hd] at h;cases h
        rw [hN];rcases hq with hq | hq
        · simp -implicitDefEqProofs (disch:=omega) only [go_sem,↓reduceIte ,Int.toNat_natCast,Int.natCast_nonneg,e1,hq];refine zAm (zDc _) (by simp -implicitDefEqProofs (disch:=omega) only [go_sem,↓reduceIte,deep,TD.rows,zAe,zAc,zAf,zAb,zAd,zAa,hD];exact rfl) ?_;simp -implicitDefEqProofs (disch:=omega) only [go_sem,↓reduceIte ,hD]
          first | done | rfl
        · simp -implicitDefEqProofs (disch:=omega) only [go_sem,↓reduceIte ,Int.toNat_natCast,Int.natCast_nonneg,e1,hq];refine zAw ?_ ?_<;>intro hi0
          · simp -implicitDefEqProofs (disch:=omega) only [go_sem,↓reduceIte ,Int.toNat_natCast,Int.natCast_nonneg,e1,hq,hi0];refine zAm (zDc _) (by simp -implicitDefEqProofs (disch:=omega) only [go_sem,↓reduceIte,deep,TD.rows,zAe,zAc,zAf,zAb,zAd,zAa,hD];exact rfl) ?_;simp -implicitDefEqProofs (disch:=omega) only [go_sem,↓reduceIte ,hD]
            first | done | rfl
          · simp -implicitDefEqProofs (disch:=omega) only [go_sem,↓reduceIte ,Int.toNat_natCast,Int.natCast_nonneg,e1,hq,hi0];refine zAm (zDc _) (by simp -implicitDefEqProofs (disch:=omega) only [go_sem,↓reduceIte,deep,TD.rows,zAe,zAc,zAf,zAb,zAd,zAa,hD];exact rfl) ?_;simp -implicitDefEqProofs (disch:=omega) only [go_sem,↓reduceIte ,hD]
            first | done | rfl
      | true =>
        rw [hd] at hD;have hd9:=hd;simp only [zMd,Bool.and_eq_true,decide_eq_true_eq] at hd9;have hwa:IntKind.i64.wrap (10*zFt (zB4 (b.data.toList.take i)))=10*zFt (zB4 (b.data.toList.take i)):=wrI (by omega) (by omega);have hwb:IntKind.u8.wrap (((b.data.toList[i]'hlt).toNat:Int)-48)=((b.data.toList[i]'hlt).toNat:Int)-48:=by exact IntWalk.u8_in _ (by omega)
        have hwc:IntKind.i64.wrap (((b.data.toList[i]'hlt).toNat:Int)-48)=((b.data.toList[i]'hlt).toNat:Int)-48:=wrI (by omega) (by omega);have hwd:IntKind.i64.wrap (10*zFt (zB4 (b.data.toList.take i))+(((b.data.toList[i]'hlt).toNat:Int)-48))=zFt (zB4 (b.data.toList.take (i+1))):=(by rw [wrI (by omega) (by omega),zHg htl hz,zRt]);have nxt:∃ k:Nat,b.size-k<b.size-i∧(k≤b.size∧(zB4 (b.data.toList.take k)).all zMd=true)∧k=i+1:=⟨i+1,by omega,⟨hlt,by rw [zHg htl hz,List.all_append,ha];show (true&&(zMd _&&true))=true;rw [hd];rfl⟩,rfl⟩
        obtain ⟨k,n1,n2,rfl⟩:=nxt;rcases hq with hq | hq
        · simp -implicitDefEqProofs (disch:=omega) only [go_sem,↓reduceIte ,Int.toNat_natCast,Int.natCast_nonneg,e1,hq];refine zAm (zDc _) (by simp -implicitDefEqProofs (disch:=omega) only [go_sem,↓reduceIte,deep,TD.rows,zAe,zAc,zAf,zAb,zAd,zAa,hD,Int.toNat_natCast,Int.natCast_nonneg,e1,hwa,hwb,hwc,hwd,wrN];exact rfl) ?_;simp -implicitDefEqProofs (disch:=omega) only [go_sem,↓reduceIte ,hD,Int.toNat_natCast,Int.natCast_nonneg,e1,hwa,hwb,hwc,hwd,wrN];exact ⟨i+1,n1,n2,zDo⟩
        · simp -implicitDefEqProofs (disch:=omega) only [go_sem,↓reduceIte ,Int.toNat_natCast,Int.natCast_nonneg,e1,hq];refine zAw ?_ ?_<;>intro hi0
          · simp -implicitDefEqProofs (disch:=omega) only [go_sem,↓reduceIte ,Int.toNat_natCast,Int.natCast_nonneg,e1,hq,hi0];refine zAm (zDc _) (by simp -implicitDefEqProofs (disch:=omega) only [go_sem,↓reduceIte,deep,TD.rows,zAe,zAc,zAf,zAb,zAd,zAa,hD,Int.toNat_natCast,Int.natCast_nonneg,e1,hwa,hwb,hwc,hwd,wrN];exact rfl) ?_;simp -implicitDefEqProofs (disch:=omega) only [go_sem,↓reduceIte ,hD,Int.toNat_natCast,Int.natCast_nonneg,e1,hwa,hwb,hwc,hwd,wrN];exact ⟨i+1,n1,n2,zDo⟩
          · simp -implicitDefEqProofs (disch:=omega) only [go_sem,↓reduceIte ,Int.toNat_natCast,Int.natCast_nonneg,e1,hq,hi0];refine zAm (zDc _) (by simp -implicitDefEqProofs (disch:=omega) only [go_sem,↓reduceIte,deep,TD.rows,zAe,zAc,zAf,zAb,zAd,zAa,hD,Int.toNat_natCast,Int.natCast_nonneg,e1,hwa,hwb,hwc,hwd,wrN];exact rfl) ?_;simp -implicitDefEqProofs (disch:=omega) only [go_sem,↓reduceIte ,hD,Int.toNat_natCast,Int.natCast_nonneg,e1,hwa,hwb,hwc,hwd,wrN];exact ⟨i+1,n1,n2,zDo⟩
  · have hie:i=b.size:=(by have:¬ i<b.size:=(by simpa using hlt);omega);subst hie;have hfull:b.data.toList.take b.size=b.data.toList:=List.take_of_length_le (by rw [bsz];exact Nat.le_refl _);rw [hfull] at ha hl hv ⊢;have hlt0:0<b.size:=(by omega);have e1:=yVq hlt0;have hby:=zQp (b.data.toList[0]'hlt0) 45;have e3:((45:UInt8).toNat:Int)=45:=rfl;rw [e3] at hby
    have hneg:zRu b.data.toList=decide (b.data.toList[0]'hlt0=45):=yGi hlt0;have e1:b[Int.toNat 0]?=some (b.data.toList[0]'hlt0):=e1;have tail:∀ n:Int,-100000000000<n∧n<100000000000→n=rdNum b.data.toList→(decide (zQx n=b)=true∧inR (-1000000000) 1000000000 n=true∧zBu b=some n)∨((decide (zQx n=b)=false∨inR (-1000000000) 1000000000 n=false)∧zBu b=none):=by
      intro n hn e;unfold zBu;rw [← e];cases h1:inR (-1000000000) 1000000000 n with
      | true =>
        have h1':=inR_iff.1 h1;by_cases h2:zQx n=b
        · left;exact ⟨decide_eq_true h2,rfl,by rw [if_pos ⟨by omega,by omega,ha,h1',h2⟩]⟩
        · right;exact ⟨.inl (decide_eq_false h2),by rw [if_neg (fun h=>h2 h.2.2.2.2)]⟩
      | false=>right;refine ⟨.inr rfl,?_⟩;rw [if_neg];rintro ⟨_,_,_,h,_⟩;rw [inR_iff.2 h] at h1;cases h1
    cases hc:decide (b.data.toList[0]'hlt0=45) with
    | true =>
      rw [hc] at hby hneg;have hnum:rdNum b.data.toList = - zFt (zB4 b.data.toList):=by unfold rdNum;rw [hneg];rfl
      have hwn:IntKind.i64.wrap (0-zFt (zB4 b.data.toList))=rdNum b.data.toList:=(by rw [hnum,wrI (by omega) (by omega)];omega);have tl:=tail (rdNum b.data.toList) (by omega) rfl;simp -implicitDefEqProofs (disch:=omega) only [go_sem,↓reduceIte ,e1,hby,hwn,Int.le_refl];refine zAm (zJg _ _ _) (by simp -implicitDefEqProofs (disch:=omega) only [go_sem,↓reduceIte,deep,TD.rows,zAe,zAc,zAf,zAb,zAd,zAa];exact rfl) ?_;simp -implicitDefEqProofs (disch:=omega) only [go_sem,↓reduceIte];cases hin:inR (-1000000000) 1000000000 (rdNum b.data.toList) with
      | false =>
        have hN:zBu b=none:=by
          rcases tl with ⟨_,d2,_⟩ | ⟨_,d3⟩
          · rw [hin] at d2;cases d2
          · exact d3
        rw [hN];simp -implicitDefEqProofs (disch:=omega) only [go_sem,↓reduceIte]
        first | done | rfl
      | true =>
        have hin':=inR_iff.1 hin;have hdec:=zG4 (rdNum b.data.toList) (by unfold InK;omega);simp -implicitDefEqProofs (disch:=omega) only [go_sem,↓reduceIte];refine zAm (hdec) (by simp -implicitDefEqProofs (disch:=omega) only [go_sem,↓reduceIte,deep,TD.rows,zAe,zAc,zAf,zAb,zAd,zAa];exact rfl) ?_;simp -implicitDefEqProofs (disch:=omega) only [go_sem,↓reduceIte];rcases tl with ⟨d1,d2,d3⟩ | ⟨d1,d3⟩
        · rw [d3];simp -implicitDefEqProofs (disch:=omega) only [go_sem,↓reduceIte ,d1]
          first | done | rfl
        · have d1:decide (zQx (rdNum b.data.toList)=b)=false:=by
            rcases d1 with d1 | d1
            · exact d1
            · rw [hin] at d1;cases d1
          rw [d3];simp -implicitDefEqProofs (disch:=omega) only [go_sem,↓reduceIte ,d1]
          first | done | rfl
    | false =>
      rw [hc] at hby hneg;have hnum:zFt (zB4 b.data.toList)=rdNum b.data.toList:=by unfold rdNum;rw [hneg];rfl
      have tl:=tail (rdNum b.data.toList) (by omega) rfl;rw [hnum];simp -implicitDefEqProofs (disch:=omega) only [go_sem,↓reduceIte ,e1,hby,Int.le_refl];refine zAm (zJg _ _ _) (by simp -implicitDefEqProofs (disch:=omega) only [go_sem,↓reduceIte,deep,TD.rows,zAe,zAc,zAf,zAb,zAd,zAa];exact rfl) ?_;simp -implicitDefEqProofs (disch:=omega) only [go_sem,↓reduceIte];cases hin:inR (-1000000000) 1000000000 (rdNum b.data.toList) with
      | false =>
        have hN:zBu b=none:=by
          rcases tl with ⟨_,d2,_⟩ | ⟨_,d3⟩
          · rw [hin] at d2;cases d2
          · exact d3
        rw [hN];simp -implicitDefEqProofs (disch:=omega) only [go_sem,↓reduceIte]
        first | done | rfl
      | true =>
        have hin':=inR_iff.1 hin;have hdec:=zG4 (rdNum b.data.toList) (by unfold InK;omega);simp -implicitDefEqProofs (disch:=omega) only [go_sem,↓reduceIte];refine zAm (hdec) (by simp -implicitDefEqProofs (disch:=omega) only [go_sem,↓reduceIte,deep,TD.rows,zAe,zAc,zAf,zAb,zAd,zAa];exact rfl) ?_;simp -implicitDefEqProofs (disch:=omega) only [go_sem,↓reduceIte];rcases tl with ⟨d1,d2,d3⟩ | ⟨d1,d3⟩
        · rw [d3];simp -implicitDefEqProofs (disch:=omega) only [go_sem,↓reduceIte ,d1]
          first | done | rfl
        · have d1:decide (zQx (rdNum b.data.toList)=b)=false:=by
            rcases d1 with d1 | d1
            · exact d1
            · rw [hin] at d1;cases d1
          rw [d3];simp -implicitDefEqProofs (disch:=omega) only [go_sem,↓reduceIte ,d1]
          first | done | rfl
/-! What a search for a byte says. -/
theorem yS5 (b:UInt8)(l:List UInt8)(c:UInt8):Lib.indexByte (b::l) c=if b=c then 0 else if Lib.indexByte l c = -1 then -1 else Lib.indexByte l c+1:=by show (if (b==c)=true then (0:Int) else if (Lib.indexByte l c == -1)=true then -1 else Lib.indexByte l c+1)=_;simp only [beq_iff_eq]
theorem zM0:∀ (l:List UInt8) (c:UInt8),(Lib.indexByte l c = -1∧∀ j (h:j<l.length),l[j]≠c)∨∃ k:Nat,Lib.indexByte l c=(k:Int)∧∃ hk:k<l.length,l[k]=c∧∀ j (h:j<l.length),j<k→l[j]≠c
  | [],c=>.inl ⟨rfl,fun j h=>absurd h (by simp)⟩
  | b :: l,c=>by
    rw [yS5];by_cases hb:b=c
    · right;refine ⟨0,by rw [if_pos hb];rfl,by simp,hb,fun j _ h=>absurd h (by omega)⟩
    · rcases zM0 l c with ⟨h1,h2⟩ | ⟨k,h1,hk,h2,h3⟩
      · left;refine ⟨by rw [if_neg hb,if_pos h1],fun j h=>?_⟩;cases j with
        | zero=>exact hb
        | succ j=>exact h2 j (by simpa using h)
      · right;refine ⟨k+1,by rw [if_neg hb,if_neg (by omega),h1];rfl,by simpa using hk,h2,fun j h hj=>?_⟩;cases j with
        | zero=>exact hb
        | succ j=>exact h3 j (by simpa using h) (by omega)
theorem zQ7 (s:ByteArray)(c:UInt8):Contract Tryz.prog zAr 115 [.v (.string s),.v (.int .u8 (c.toNat:Int))] (.v (.int .i64 (Lib.indexByte s.data.toList c))):=by
  refine ⟨fun us W=>by kernel_rfl,fun w I us hG hI hV=>?_⟩;simp only [Vals,T] at hV;obtain ⟨_,_,_,_,rfl,_,⟨rfl,_⟩,_,_,_,_,rfl,_,⟨rfl,_⟩,rfl,_⟩:=hV;have hc:((c.toNat:Int)).toNat.toUInt8=c:=by rw [Int.toNat_natCast];exact UInt8.ofNat_toNat
  have hA:=Any.stringslite_IndexByte Tryz.lays217 s (c.toNat:Int) w;rw [hc] at hA;refine hA.mono ?_;rintro e w' ⟨rfl,rfl⟩;exact ⟨_,[],I,rfl,Below.refl _ _,by simp [T],List.nodup_nil,(fun b h=>by cases h),fun b h=>h,fun b h=>⟨.inl h,hI b h⟩⟩
def code_internal_stringslite_HasSuffix:VCode:=(.seq (.ops [
  ⟨(some 4),none,(.asg (.const (.bool false)))⟩]) (.seq (.ops [
  ⟨(some 5),none,(.mv (.tmp 0))⟩,
  ⟨(some 6),none,(.lenS (.tmp 5))⟩,
  ⟨(some 7),none,(.mv (.tmp 1))⟩,
  ⟨(some 8),none,(.lenS (.tmp 7))⟩,
  ⟨(some 9),none,(.bin .geq (.tmp 6) (.tmp 8))⟩,
  ⟨(some 10),none,(.mv (.tmp 9))⟩,
  ⟨(some 11),(some (10,true)),(.mv (.tmp 0))⟩,
  ⟨(some 12),(some (10,true)),(.mv (.tmp 0))⟩,
  ⟨(some 13),(some (10,true)),(.lenS (.tmp 12))⟩,
  ⟨(some 14),(some (10,true)),(.mv (.tmp 1))⟩,
  ⟨(some 15),(some (10,true)),(.lenS (.tmp 14))⟩,
  ⟨(some 16),(some (10,true)),(.bin .sub (.tmp 13) (.tmp 15))⟩,
  ⟨(some 17),(some (10,true)),(.slcS (.tmp 11) (some (.tmp 16)) none)⟩,
  ⟨(some 18),(some (10,true)),(.mv (.tmp 1))⟩,
  ⟨(some 19),(some (10,true)),(.bin .eql (.tmp 17) (.tmp 18))⟩,
  ⟨(some 20),none,(.pick (.tmp 10) (.tmp 19) (.const (.bool false)))⟩,
  ⟨(some 4),none,(.asg (.tmp 20))⟩]) .ret))
theorem zC0 {a0 a1 d:D}(h:code_internal_stringslite_HasSuffix.wp (CT Tryz.prog zAr) (zC9 [(.t 4)] d) [a0,a1,.undef,.undef,.undef,.undef,.undef,.undef,.undef,.undef,.undef,.undef,.undef,.undef,.undef,.undef,.undef,.undef,.undef,.undef,.undef]):Contract Tryz.prog zAr 116 [a0,a1] d :=
  zAk (pt:=0) zC6 Tryz.func116 (fun us W=>by kernel_rfl) (c:=Tryz.f116.body.getD .skip) (ms:=[]) (ms':=[]) (by kernel_rfl) (by kernel_rfl) (by kernel_rfl) h
def code_internal_stringslite_TrimSuffix:VCode:=(.seq (.ops [
  ⟨(some 4),none,(.asg (.const (.string ⟨⟨[]⟩⟩)))⟩]) (.seq (.seq (.ops [
  ⟨(some 5),none,(.mv (.tmp 0))⟩,
  ⟨(some 6),none,(.mv (.tmp 1))⟩,
  ⟨(some 7),none,(.callX 116 [(.tmp 5),(.tmp 6)])⟩]) (.cond (.tmp 7) (.seq (.ops [
  ⟨(some 8),none,(.mv (.tmp 0))⟩,
  ⟨(some 9),none,(.mv (.tmp 0))⟩,
  ⟨(some 10),none,(.lenS (.tmp 9))⟩,
  ⟨(some 11),none,(.mv (.tmp 1))⟩,
  ⟨(some 12),none,(.lenS (.tmp 11))⟩,
  ⟨(some 13),none,(.bin .sub (.tmp 10) (.tmp 12))⟩,
  ⟨(some 14),none,(.slcS (.tmp 8) none (some (.tmp 13)))⟩,
  ⟨(some 4),none,(.asg (.tmp 14))⟩]) .ret) .skip)) (.seq (.ops [
  ⟨(some 15),none,(.mv (.tmp 0))⟩,
  ⟨(some 4),none,(.asg (.tmp 15))⟩]) .ret)))
theorem zCx {a0 a1 d:D}(h:code_internal_stringslite_TrimSuffix.wp (CT Tryz.prog zAr) (zC9 [(.t 4)] d) [a0,a1,.undef,.undef,.undef,.undef,.undef,.undef,.undef,.undef,.undef,.undef,.undef,.undef,.undef,.undef]):Contract Tryz.prog zAr 100 [a0,a1] d :=
  zAk (pt:=0) zC6 Tryz.func100 (fun us W=>by kernel_rfl) (c:=Tryz.f100.body.getD .skip) (ms:=[]) (ms':=[]) (by kernel_rfl) (by kernel_rfl) (by kernel_rfl) h
def code_strings_TrimSuffix:VCode:=(.seq (.ops [
  ⟨(some 4),none,(.asg (.const (.string ⟨⟨[]⟩⟩)))⟩]) (.seq (.ops [
  ⟨(some 5),none,(.mv (.tmp 0))⟩,
  ⟨(some 6),none,(.mv (.tmp 1))⟩,
  ⟨(some 7),none,(.callX 100 [(.tmp 5),(.tmp 6)])⟩,
  ⟨(some 4),none,(.asg (.tmp 7))⟩]) .ret))
theorem zFu {a0 a1 d:D}(h:code_strings_TrimSuffix.wp (CT Tryz.prog zAr) (zC9 [(.t 4)] d) [a0,a1,.undef,.undef,.undef,.undef,.undef,.undef]):Contract Tryz.prog zAr 78 [a0,a1] d :=
  zAk (pt:=0) zC6 Tryz.func78 (fun us W=>by kernel_rfl) (c:=Tryz.f78.body.getD .skip) (ms:=[]) (ms':=[]) (by kernel_rfl) (by kernel_rfl) (by kernel_rfl) h
def zM6 (s t:ByteArray):Bool:=if t.size≤s.size then decide (s.extract (s.size-t.size) s.size=t) else false
def zD7 (s t:ByteArray):ByteArray:=if zM6 s t then s.extract 0 (s.size-t.size) else s
theorem zTc (s t:ByteArray)(hs:s.size≤1048576)(ht:t.size≤1048576):Contract Tryz.prog zAr 116 [.v (.string s),.v (.string t)] (.v (.bool (zM6 s t))):=by
  refine zC0 ?_;unfold code_internal_stringslite_HasSuffix zM6;by_cases h:t.size≤s.size
  · have d:decide ((t.size:Int)≤(s.size:Int))=true:=decide_eq_true (by omega);have hw:IntKind.i64.wrap ((s.size:Int)-(t.size:Int))=((s.size-t.size:Nat):Int):=(by rw [wrI (by omega) (by omega)];omega);rw [if_pos h];simp -implicitDefEqProofs (disch:=omega) only [go_sem,↓reduceIte ,d,hw,Int.toNat_natCast,Int.natCast_nonneg];omega
  · have d:decide ((t.size:Int)≤(s.size:Int))=false:=decide_eq_false (by omega);rw [if_neg h];simp -implicitDefEqProofs (disch:=omega) only [go_sem,↓reduceIte ,d]
theorem zQ4 (s t:ByteArray) (hs:s.size≤1048576) (ht:t.size≤1048576):Contract Tryz.prog zAr 78 [.v (.string s),.v (.string t)] (.v (.string (zD7 s t))):=by
  have h1:Contract Tryz.prog zAr 100 [.v (.string s),.v (.string t)] (.v (.string (zD7 s t))):=by
    refine zCx ?_;unfold code_internal_stringslite_TrimSuffix zD7;have hH:=zTc s t hs ht;cases hc:zM6 s t with
    | true =>
      rw [hc] at hH;have hle:t.size≤s.size:=by
        unfold zM6 at hc;split at hc
        · assumption
        · cases hc
      have hw:IntKind.i64.wrap ((s.size:Int)-(t.size:Int))=((s.size-t.size:Nat):Int):=(by rw [wrI (by omega) (by omega)];omega);simp -implicitDefEqProofs (disch:=omega) only [go_sem,↓reduceIte];refine zAm (hH) (by simp -implicitDefEqProofs (disch:=omega) only [go_sem,↓reduceIte,deep,TD.rows,zAe,zAc,zAf,zAb,zAd,zAa,hw,Int.toNat_natCast,Int.natCast_nonneg];exact rfl) ?_;simp -implicitDefEqProofs (disch:=omega) only [go_sem,↓reduceIte ,hw,Int.toNat_natCast,Int.natCast_nonneg];omega
    | false=>rw [hc] at hH;simp -implicitDefEqProofs (disch:=omega) only [go_sem,↓reduceIte];refine zAm (hH) (by simp -implicitDefEqProofs (disch:=omega) only [go_sem,↓reduceIte,deep,TD.rows,zAe,zAc,zAf,zAb,zAd,zAa];exact rfl) ?_;simp -implicitDefEqProofs (disch:=omega) only [go_sem,↓reduceIte]
  refine zFu ?_;unfold code_strings_TrimSuffix;simp -implicitDefEqProofs (disch:=omega) only [go_sem,↓reduceIte];refine zAm (h1) (by simp -implicitDefEqProofs (disch:=omega) only [go_sem,↓reduceIte,deep,TD.rows,zAe,zAc,zAf,zAb,zAd,zAa];exact rfl) ?_;simp -implicitDefEqProofs (disch:=omega) only [go_sem,↓reduceIte]
/-! Lines, as they come. -/
def pcB (b:ByteArray)(p:Nat×Nat):ByteArray:=b.extract p.1 (min (p.2+1) b.size)
def zG5 (b:ByteArray):List ByteArray:=(lSp b.data.toList 0 0).map (pcB b)
def rsB (b:ByteArray)(p:Nat):ByteArray:=b.extract p b.size
theorem exx (b:ByteArray)(i j k l:Nat):(b.extract i j).extract k l=b.extract (i+k) (min (i+l) j):=by apply ByteArray.ext;simp only [ByteArray.data_extract,Array.extract_extract]
theorem yV2 (b:ByteArray):rsB b 0=b:=by unfold rsB;apply ByteArray.ext;rw [ByteArray.data_extract];exact Array.extract_size
theorem zLh (b:ByteArray)(p:Nat):(rsB b p).size=b.size-p:=by unfold rsB;rw [ByteArray.size_extract];omega
theorem yF0 (b:ByteArray)(p:Nat):(rsB b p).data.toList=b.data.toList.drop p:=by unfold rsB;rw [ByteArray.data_extract,Array.toList_extract,List.extract_eq_drop_take];apply List.take_of_length_le;rw [List.length_drop,bsz];exact Nat.le_refl _
theorem yRw {b:ByteArray}{p k:Nat}(h:p+k<b.size):(rsB b p).extract 0 (k+1)=pcB b (p,p+k):=by unfold rsB pcB;rw [exx,Nat.add_zero];congr 1
theorem yRv {b:ByteArray}{p k:Nat}(h:p+k<b.size):(rsB b p).extract (k+1) (rsB b p).size=rsB b (p+k+1):=by rw [zLh];unfold rsB;rw [exx];congr 1;omega
theorem ex1 {b:ByteArray}{i:Nat}(h:i<b.size):b.extract i (i+1)=⟨⟨[b.data.toList[i]'h]⟩⟩:=by apply ByteArray.ext;apply Array.toList_inj.1;rw [ByteArray.data_extract,Array.toList_extract,List.extract_eq_drop_take,drop_at (l:=b.data.toList) h,show i+1-i=0+1 by omega,List.take_succ_cons,List.take_zero]
theorem yCj {b:ByteArray}{p:Nat}(hp:p<b.size) :
    (∃ k:Nat,Lib.indexByte (rsB b p).data.toList 10=(k:Int)∧∃ hk:p+k<b.size,b.data.toList[p+k]'hk=10∧lSp (b.data.toList.drop p) p p=(p,p+k)::lSp (b.data.toList.drop (p+k+1)) (p+k+1) (p+k+1)) ∨
    (Lib.indexByte (rsB b p).data.toList 10 = -1∧(∀ j (h:j<b.size),p≤j→b.data.toList[j]'h≠10)∧lSp (b.data.toList.drop p) p p=[(p,b.size)]):=by
  rw [yF0];have hl:(b.data.toList.drop p).length=b.size-p:=by rw [List.length_drop,bsz]
  rcases zM0 (b.data.toList.drop p) 10 with ⟨h1,h2⟩ | ⟨k,h1,hk,h2,h3⟩
  · right;refine ⟨h1,fun j hj hpj=>?_,?_⟩
    · have:=h2 (j-p) (by omega);rw [List.getElem_drop] at this;simpa [Nat.add_sub_cancel' hpj] using this
    · rw [zVu _ p p h2,hl,if_pos (by omega),show p+(b.size-p)=b.size by omega]
  · left;refine ⟨k,h1,by omega,?_,?_⟩
    · rw [← h2,List.getElem_drop]
    · rw [yCp _ k p p (fun j hj hjk=>h3 j hj hjk) hk h2,List.drop_drop,show p+(k+1)=p+k+1 by omega]
def nl1:ByteArray:=⟨⟨[10]⟩⟩
theorem yEp {s:ByteArray}(h:0<s.size)(h1:s.data.toList[s.size-1]'(by rw [bsz];omega)=10):zD7 s nl1=s.extract 0 (s.size-1):=by have hn:nl1.size=1:=rfl;have e:s.extract (s.size-1) s.size=nl1:=(by have:=ex1 (b:=s) (i:=s.size-1) (by omega);rw [show s.size-1+1=s.size by omega,h1] at this;exact this);unfold zD7 zM6;rw [hn,if_pos (show 1≤s.size from h),decide_eq_true e];rfl
theorem yK4 {s:ByteArray}(h:0<s.size)(h1:s.data.toList[s.size-1]'(by rw [bsz];omega)≠10):zD7 s nl1=s:=by have hn:nl1.size=1:=rfl;have e:¬ s.extract (s.size-1) s.size=nl1:=(by have:=ex1 (b:=s) (i:=s.size-1) (by omega);rw [show s.size-1+1=s.size by omega] at this;rw [this];intro e;apply h1;have e2:=congrArg (fun x:ByteArray=>x.data.toList) e;simpa [nl1] using e2);unfold zD7 zM6;rw [hn,if_pos (show 1≤s.size from h),decide_eq_false e];rfl
theorem yTj {b:ByteArray}{i j k:Nat}(h:k<(b.extract i j).data.toList.length)(h2:i+k<b.size):(b.extract i j).data.toList[k]'h=b.data.toList[i+k]'h2:=by simp only [ByteArray.data_extract,Array.getElem_toList,Array.getElem_extract]
theorem zZt (b:ByteArray):∀ (n p:Nat),b.size-p≤n→p≤b.size→∀ x,x∈lSp (b.data.toList.drop p) p p→zD7 (pcB b x) nl1=exB b x
  | 0,p,hn,hp,x,hx=>by rw [List.drop_of_length_le (by rw [bsz];omega)] at hx;simp [lSp] at hx
  | n + 1,p,hn,hp,x,hx=>by
    rcases Nat.lt_or_ge p b.size with hlt | hge
    · rcases yCj hlt with ⟨k,h1,hk,h2,h3⟩ | ⟨h1,h2,h3⟩
      · rw [h3] at hx;rcases List.mem_cons.1 hx with rfl | hx
        · have hz:(pcB b (p,p+k)).size=k+1:=(by unfold pcB;rw [ByteArray.size_extract];omega);rw [yEp (by omega) ?_,hz]
          · unfold pcB exB;simp only;rw [exx];congr 1;omega
          · unfold pcB at hz ⊢;rw [yTj _ (by rw [hz];omega)];simp only [hz];exact h2
        · exact zZt b n (p+k+1) (by omega) hk x hx
      · rw [h3] at hx;rw [List.mem_singleton.1 hx];have hz:(pcB b (p,b.size)).size=b.size-p:=by unfold pcB;rw [ByteArray.size_extract];omega
        rw [yK4 (by omega) ?_]
        · unfold pcB exB;simp only;congr 1;omega
        · unfold pcB at hz ⊢;rw [yTj _ (by rw [hz];omega)];exact h2 _ _ (by omega)
    · rw [List.drop_of_length_le (by rw [bsz];omega)] at hx;simp [lSp,Nat.lt_irrefl] at hx
theorem zWw (b:ByteArray):(zG5 b).map (fun x=>zD7 x nl1)=zA5 b:=by unfold zG5 zA5;rw [List.map_map];apply List.map_congr_left;intro x hx;exact zZt b b.size 0 (by omega) (Nat.zero_le _) x hx
end Go.Proofs.YtdlchnlpmofpmaaGreatDoor
