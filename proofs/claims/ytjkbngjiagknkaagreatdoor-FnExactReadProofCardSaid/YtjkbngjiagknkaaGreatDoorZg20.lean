/- Laws that the proof stands on. -/
import Derived.Test.YtjkbngjiagknkaaGreatDoorZg19
import Derived.Test.YtjkbngjiagknkaaGreatDoorZVTab
import Derived.Test.YtjkbngjiagknkaaGreatDoorZVMv
set_option linter.all false
namespace Go.Proofs.YtjkbngjiagknkaaGreatDoor
open Go.RowKit Go.V
attribute [local go_sem] List.getElem?_cons_succ List.getElem?_cons_zero List.set_cons_succ List.set_cons_zero List.map_cons List.map_nil List.length_cons List.length_nil List.all_cons List.all_nil List.drop_succ_cons List.drop_zero List.take_succ_cons List.take_zero List.flatMap_cons List.flatMap_nil List.cons_append List.nil_append List.append_nil List.headD_cons Value.oneCell' Bool.and_true Bool.true_and Bool.or_false Bool.false_or Bool.and_self Bool.not_true Bool.not_false and_true true_and beq_self_eq_true Bool.false_eq_true if_true if_false Nat.zero_add Nat.reduceAdd Nat.reduceMul Nat.reduceLeDiff Nat.le_refl Option.isSome_some Option.isSome_none not_true_eq_false not_false_eq_true ne_eq reduceCtorEq List.reverse_nil bne_self_eq_false Nat.reduceEqDiff List.isPrefixOf Bool.not_eq_true Bool.and_false Bool.false_and Bool.true_or Bool.or_true decide_true decide_false Nat.reduceBEq Nat.reduceBNe List.replicate_succ List.replicate_zero exists_eq_left' exists_eq_left Option.some.injEq or_false or_true true_or false_or Option.map_some Option.map_none mB Nat.reduceMod Nat.reduceDiv
set_option maxRecDepth 100000
def code_spec_l35Place:VCode:=(.seq (.ops [
  ⟨(some 4),none,(.asg (.const (.int .i64 0)))⟩]) (.seq (.seq (.ops [
  ⟨(some 5),none,(.asg (.const (.int .i64 0)))⟩]) (.block 0 (.loop (mB 19 524252) (.seq (.seq (.ops [
  ⟨(some 6),none,(.mv (.tmp 5))⟩,
  ⟨(some 7),none,(.mv (.tmp 0))⟩,
  ⟨(some 8),none,(.len (.tmp 7))⟩,
  ⟨(some 9),none,(.bin .lss (.tmp 6) (.tmp 8))⟩]) (.cond (.tmp 9) .skip (.exit 0))) (.seq (.block 1 (.seq (.ops [
  ⟨(some 12),none,(.mv (.tmp 0))⟩,
  ⟨(some 13),none,(.mv (.tmp 5))⟩,
  ⟨(some 14),none,(.ia 1 (.tmp 12) (.tmp 13))⟩,
  ⟨(some 15),none,(.load 1 false (.tmp 14))⟩,
  ⟨(some 16),none,(.mv (.tmp 1))⟩,
  ⟨(some 17),none,(.bin .eql (.tmp 15) (.tmp 16))⟩]) (.cond (.tmp 17) (.seq (.ops [
  ⟨(some 18),none,(.mv (.tmp 5))⟩,
  ⟨(some 4),none,(.asg (.tmp 18))⟩]) .ret) .skip))) (.ops [
  ⟨(some 10),none,(.mv (.tmp 5))⟩,
  ⟨(some 11),none,(.bin .add (.tmp 10) (.const (.int .i64 1)))⟩,
  ⟨(some 5),none,(.asg (.tmp 11))⟩])))))) (.seq (.ops [
  ⟨(some 4),none,(.asg (.const (.int .i64 (-1))))⟩]) .ret)))
theorem law_spec_l35Place {a0 a1 d:D} (h:code_spec_l35Place.wp (CT Tryz.prog TabG) (endQ [(.t 4)] d) [a0,a1,.undef,.undef,.undef,.undef,.undef,.undef,.undef,.undef,.undef,.undef,.undef,.undef,.undef,.undef,.undef,.undef,.undef]):Contract Tryz.prog TabG 92 [a0,a1] d :=
  contract_of (pt:=0) tabG Tryz.func92 (fun us W=>by kernel_rfl) (c:=Tryz.f92.body.getD .skip) (ms:=[(mB 19 524252)]) (ms':=[]) (by kernel_rfl) (by kernel_rfl) (by kernel_rfl) h
def code_slices_Index_string_string:VCode:=(.seq (.ops [
  ⟨(some 4),none,(.asg (.const (.int .i64 0)))⟩]) (.seq (.seq (.ops [
  ⟨(some 6),none,(.mv (.tmp 0))⟩,
  ⟨(some 7),none,(.len (.tmp 6))⟩,
  ⟨(some 8),none,(.mv (.const (.int .i64 0)))⟩]) (.block 0 (.loop (mB 19 523900) (.seq (.ops [
  ⟨(some 9),none,(.bin .lss (.tmp 8) (.tmp 7))⟩]) (.seq (.cond (.tmp 9) .skip (.exit 0)) (.seq (.block 1 (.seq (.ops [
  ⟨(some 10),none,(.mv (.tmp 8))⟩,
  ⟨(some 5),none,(.asg (.tmp 10))⟩]) (.seq (.ops [
  ⟨(some 11),none,(.mv (.tmp 1))⟩,
  ⟨(some 12),none,(.mv (.tmp 0))⟩,
  ⟨(some 13),none,(.mv (.tmp 5))⟩,
  ⟨(some 14),none,(.ia 1 (.tmp 12) (.tmp 13))⟩,
  ⟨(some 15),none,(.load 1 false (.tmp 14))⟩,
  ⟨(some 16),none,(.bin .eql (.tmp 11) (.tmp 15))⟩]) (.cond (.tmp 16) (.seq (.ops [
  ⟨(some 17),none,(.mv (.tmp 5))⟩,
  ⟨(some 4),none,(.asg (.tmp 17))⟩]) .ret) .skip)))) (.ops [
  ⟨(some 18),none,(.bin .add (.tmp 8) (.const (.int .i64 1)))⟩,
  ⟨(some 8),none,(.mv (.tmp 18))⟩]))))))) (.seq (.ops [
  ⟨(some 4),none,(.asg (.const (.int .i64 (-1))))⟩]) .ret)))
theorem law_slices_Index_string_string {a0 a1 d:D} (h:code_slices_Index_string_string.wp (CT Tryz.prog TabG) (endQ [(.t 4)] d) [a0,a1,.undef,.undef,.undef,.undef,.undef,.undef,.undef,.undef,.undef,.undef,.undef,.undef,.undef,.undef,.undef,.undef,.undef]):Contract Tryz.prog TabG 94 [a0,a1] d :=
  contract_of (pt:=0) tabG Tryz.func94 (fun us W=>by kernel_rfl) (c:=Tryz.f94.body.getD .skip) (ms:=[(mB 19 523900)]) (ms':=[]) (by kernel_rfl) (by kernel_rfl) (by kernel_rfl) h
def code_spec_l35Kind:VCode:=(.seq (.ops [
  ⟨(some 2),none,(.asg (.const (.int .i64 0)))⟩]) (.seq (.seq (.ops [
  ⟨(some 3),none,(.asg (.const (.int .i64 1)))⟩]) (.block 0 (.loop (mB 13 8182) (.seq (.seq (.ops [
  ⟨(some 4),none,(.mv (.tmp 3))⟩,
  ⟨(some 5),none,(.bin .leq (.tmp 4) (.const (.int .i64 6)))⟩]) (.cond (.tmp 5) .skip (.exit 0))) (.seq (.block 1 (.seq (.ops [
  ⟨(some 8),none,(.mv (.tmp 3))⟩,
  ⟨(some 9),none,(.callX 91 [(.tmp 8)])⟩,
  ⟨(some 10),none,(.mv (.tmp 0))⟩,
  ⟨(some 11),none,(.bin .eql (.tmp 9) (.tmp 10))⟩]) (.cond (.tmp 11) (.seq (.ops [
  ⟨(some 12),none,(.mv (.tmp 3))⟩,
  ⟨(some 2),none,(.asg (.tmp 12))⟩]) .ret) .skip))) (.ops [
  ⟨(some 6),none,(.mv (.tmp 3))⟩,
  ⟨(some 7),none,(.bin .add (.tmp 6) (.const (.int .i64 1)))⟩,
  ⟨(some 3),none,(.asg (.tmp 7))⟩])))))) (.seq (.ops [
  ⟨(some 2),none,(.asg (.const (.int .i64 0)))⟩]) .ret)))
theorem law_spec_l35Kind {a0 d:D} (h:code_spec_l35Kind.wp (CT Tryz.prog TabG) (endQ [(.t 2)] d) [a0,.undef,.undef,.undef,.undef,.undef,.undef,.undef,.undef,.undef,.undef,.undef,.undef]):Contract Tryz.prog TabG 66 [a0] d :=
  contract_of (pt:=0) tabG Tryz.func66 (fun us W=>by kernel_rfl) (c:=Tryz.f66.body.getD .skip) (ms:=[(mB 13 8182)]) (ms':=[]) (by kernel_rfl) (by kernel_rfl) (by kernel_rfl) h
def code_impl_proofReader_first:VCode:=(.seq (.ops [
  ⟨(some 4),none,(.asg (.const (.int .i64 0)))⟩]) (.seq (.seq (.ops [
  ⟨(some 5),none,(.asg (.const (.int .i64 1)))⟩]) (.block 0 (.loop (mB 32 4294967260) (.seq (.seq (.ops [
  ⟨(some 6),none,(.mv (.tmp 5))⟩,
  ⟨(some 7),none,(.bin .leq (.tmp 6) (.const (.int .i64 6)))⟩]) (.cond (.tmp 7) .skip (.exit 0))) (.seq (.block 1 (.seq (.draw (mB 25 33553408) [] [⟨0,(mB 25 33553408),[],⟨(some 10),none,(.mv (.tmp 1))⟩⟩,⟨1,(mB 25 33552384),[],⟨(some 11),none,(.len (.tmp 10))⟩⟩,⟨2,(mB 25 33550336),[],⟨(some 12),none,(.bin .eql (.tmp 11) (.const (.int .i64 2)))⟩⟩,⟨3,(mB 25 33546240),[],⟨(some 13),none,(.mv (.tmp 12))⟩⟩,⟨4,(mB 25 33538048),[],⟨(some 14),(some (13,true)),(.mv (.tmp 1))⟩⟩,⟨5,(mB 25 33521664),[],⟨(some 15),(some (13,true)),(.ia 1 (.tmp 14) (.const (.int .i64 0)))⟩⟩,⟨6,(mB 25 33488896),[],⟨(some 16),(some (13,true)),(.load 1 false (.tmp 15))⟩⟩,⟨7,(mB 25 33423360),[],⟨(some 17),(some (13,true)),(.bin .eql (.tmp 16) (.const (.string ⟨⟨[112,114,111,111,102]⟩⟩)))⟩⟩,⟨8,(mB 25 33292288),[],⟨(some 18),none,(.pick (.tmp 13) (.tmp 17) (.const (.bool false)))⟩⟩,⟨9,(mB 25 33030144),[],⟨(some 19),none,(.mv (.tmp 18))⟩⟩,⟨10,(mB 25 32505856),[],⟨(some 20),(some (19,true)),(.mv (.tmp 1))⟩⟩,⟨11,(mB 25 31457280),[],⟨(some 21),(some (19,true)),(.ia 1 (.tmp 20) (.const (.int .i64 1)))⟩⟩,⟨12,(mB 25 29360128),[],⟨(some 22),(some (19,true)),(.load 1 false (.tmp 21))⟩⟩,⟨13,(mB 25 32505856),[],⟨(some 23),(some (19,true)),(.mv (.tmp 5))⟩⟩,⟨14,(mB 25 24117248),[],⟨(some 24),(some (19,true)),(.call 112 [(.tmp 23)])⟩⟩] [⟨(some 25),(some (19,true)),(.bin .eql (.tmp 22) (.tmp 24))⟩,⟨(some 26),none,(.pick (.tmp 19) (.tmp 25) (.const (.bool false)))⟩]) (.cond (.tmp 26) (.seq (.ops [
  ⟨(some 27),none,(.mv (.tmp 0))⟩,
  ⟨(some 28),none,(.mv (.tmp 5))⟩,
  ⟨(some 29),none,(.nilc (.tmp 27))⟩,
  ⟨(some 30),none,(.fa 0 (.tmp 29))⟩,
  ⟨(some 31),none,(.fa 0 (.tmp 30))⟩,
  ⟨none,none,(.store 1 (.tmp 31) (.tmp 28))⟩]) (.seq (.ops [
  ⟨(some 4),none,(.asg (.const (.int .i64 0)))⟩]) .ret)) .skip))) (.ops [
  ⟨(some 8),none,(.mv (.tmp 5))⟩,
  ⟨(some 9),none,(.bin .add (.tmp 8) (.const (.int .i64 1)))⟩,
  ⟨(some 5),none,(.asg (.tmp 9))⟩])))))) (.seq (.ops [
  ⟨(some 4),none,(.asg (.const (.int .i64 6)))⟩]) .ret)))
theorem law_impl_proofReader_first {a0 a1 d:D} {cells cells':List D} (h:∀ b,code_impl_proofReader_first.wp (CT Tryz.prog TabG) (endX [(.t 4)] d 0 b cells') [.box (some b) cells,a1,.undef,.undef,.undef,.undef,.undef,.undef,.undef,.undef,.undef,.undef,.undef,.undef,.undef,.undef,.undef,.undef,.undef,.undef,.undef,.undef,.undef,.undef,.undef,.undef,.undef,.undef,.undef,.undef,.undef,.undef]):ContractX Tryz.prog TabG 93 0 [a0,a1] cells d cells' :=
  contract_ofX (pt:=0) tabG Tryz.func93 (fun us W=>by kernel_rfl) (c:=Tryz.f93.body.getD .skip) (ms:=[(mB 32 4294967260)]) (ms':=[]) (by kernel_rfl) (by kernel_rfl) (by kernel_rfl) (by simp) h
theorem eq_comm_dec (a b:ByteArray):decide (a=b)=decide (b=a):=by rw [decide_eq_decide];exact eq_comm
theorem v_l35Place (xs:List ByteArray) (n:ByteArray) (hn:xs.length≤1048576):Contract Tryz.prog TabG 92 [.sl false 1 (xs.map rS),.v (.string n)] (.v (.int .i64 (vIdx (fun x=>decide (x=n)) xs))):=by
  refine law_spec_l35Place ?_;unfold code_spec_l35Place;simp -implicitDefEqProofs (disch:=omega) only [go_sem,↓reduceIte];refine loop_st (fun i:Nat=>[.sl false 1 (xs.map rS),.v (.string n),.undef,.undef,.undef,.v (.int .i64 i),.undef,.undef,.undef,.undef,.undef,.undef,.undef,.undef,.undef,.undef,.undef,.undef,.undef]) (fun i=>i≤xs.length∧∀ j (hj:j < xs.length),j < i→decide (xs[j]=n)=false) (fun i=>xs.length - i) 0 (nleA) ⟨Nat.zero_le _,fun _ _ h=>absurd h (Nat.not_lt_zero _)⟩ ?_;rintro i ⟨hi,ha⟩;simp -implicitDefEqProofs (disch:=omega) only [go_sem,↓reduceIte ,List.length_map,Int.toNat_natCast,Int.ofNat_lt,Int.natCast_nonneg,List.getElem?_map,Option.map_some];refine cond_split ?_ ?_ <;> intro hlt
  · have hlt:i < xs.length:=(by simpa using hlt);have e1:=List.getElem?_eq_getElem hlt;have e2:(xs.map rS)[i]?=some [D.v (.string xs[i])]:=(by rw [List.getElem?_map,e1];rfl);simp -implicitDefEqProofs (disch:=omega) only [go_sem,↓reduceIte ,List.length_map,Int.toNat_natCast,Int.ofNat_lt,Int.natCast_nonneg,List.getElem?_map,Option.map_some,hlt,e1,e2];refine cond_split ?_ ?_ <;> intro hc
    · have hv:vIdx (fun x=>decide (x=n)) xs=(i:Int):=vIdx_hit _ xs i hlt (fun j hj h=>ha j hj h) hc;simp -implicitDefEqProofs (disch:=omega) only [go_sem,↓reduceIte ,wrN];rw [hv]
    · simp -implicitDefEqProofs (disch:=omega) only [go_sem,↓reduceIte ,wrN];refine ⟨i+1,by omega,⟨hlt,fun j hj h=>?_⟩,nleA⟩;by_cases hji:j=i
      · subst hji;exact hc
      · exact ha j hj (by omega)
  · have hge:i=xs.length:=by have:¬ i < xs.length:=by simpa using hlt
                             omega
    subst hge;have hv:vIdx (fun x=>decide (x=n)) xs = -1:=vIdx_miss _ xs (fun j hj=>ha j hj hj);simp -implicitDefEqProofs (disch:=omega) only [go_sem,↓reduceIte];rw [hv]
theorem v_Index_String (xs:List ByteArray) (n:ByteArray) (hn:xs.length≤1048576):Contract Tryz.prog TabG 94 [.sl false 1 (xs.map rS),.v (.string n)] (.v (.int .i64 (vIdx (fun x=>decide (x=n)) xs))):=by
  refine law_slices_Index_string_string ?_;unfold code_slices_Index_string_string;simp -implicitDefEqProofs (disch:=omega) only [go_sem,↓reduceIte];refine loop_st (fun i:Nat=>[.sl false 1 (xs.map rS),.v (.string n),.undef,.undef,.undef,.undef,.undef,.v (.int .i64 (xs.map rS).length),.v (.int .i64 i),.undef,.undef,.undef,.undef,.undef,.undef,.undef,.undef,.undef,.undef]) (fun i=>i≤xs.length∧∀ j (hj:j < xs.length),j < i→decide (xs[j]=n)=false) (fun i=>xs.length - i) 0 (nleA) ⟨Nat.zero_le _,fun _ _ h=>absurd h (Nat.not_lt_zero _)⟩ ?_;rintro i ⟨hi,ha⟩;simp -implicitDefEqProofs (disch:=omega) only [go_sem,↓reduceIte ,List.length_map,Int.toNat_natCast,Int.ofNat_lt,Int.natCast_nonneg,List.getElem?_map,Option.map_some];refine cond_split ?_ ?_ <;> intro hlt
  · have hlt:i < xs.length:=(by simpa using hlt);have e1:=List.getElem?_eq_getElem hlt;have e2:(xs.map rS)[i]?=some [D.v (.string xs[i])]:=(by rw [List.getElem?_map,e1];rfl);simp -implicitDefEqProofs (disch:=omega) only [go_sem,↓reduceIte ,List.length_map,Int.toNat_natCast,Int.ofNat_lt,Int.natCast_nonneg,List.getElem?_map,Option.map_some,hlt,e1,e2];refine cond_split ?_ ?_ <;> intro hc
    · rw [eq_comm_dec] at hc;have hv:vIdx (fun x=>decide (x=n)) xs=(i:Int):=vIdx_hit _ xs i hlt (fun j hj h=>ha j hj h) hc;simp -implicitDefEqProofs (disch:=omega) only [go_sem,↓reduceIte ,wrN];rw [hv]
    · rw [eq_comm_dec] at hc;simp -implicitDefEqProofs (disch:=omega) only [go_sem,↓reduceIte ,wrN];refine ⟨i+1,by omega,⟨hlt,fun j hj h=>?_⟩,nleA⟩;by_cases hji:j=i
      · subst hji;exact hc
      · exact ha j hj (by omega)
  · have hge:i=xs.length:=by have:¬ i < xs.length:=by simpa using hlt
                             omega
    subst hge;have hv:vIdx (fun x=>decide (x=n)) xs = -1:=vIdx_miss _ xs (fun j hj=>ha j hj hj);simp -implicitDefEqProofs (disch:=omega) only [go_sem,↓reduceIte];rw [hv]
def wStages:List ByteArray:=[wPut,wOther,wPart,wFlow]
theorem place_vIdx (n:ByteArray):vIdx (fun x=>decide (x=n)) wStages=placeW n:=by
  unfold placeW vIdx wStages;by_cases h1:wPut=n
  · subst h1;rfl
  by_cases h2:wOther=n
  · subst h2;rfl
  by_cases h3:wPart=n
  · subst h3;rfl
  by_cases h4:wFlow=n
  · subst h4;rfl
  rw [if_neg h1,if_neg h2,if_neg h3,if_neg h4];have:List.findIdx? (fun x=>decide (x=n)) [wPut,wOther,wPart,wFlow]=none:=by rw [List.findIdx?_eq_none_iff];intro x hx;simp only [List.mem_cons,List.not_mem_nil,or_false] at hx;rcases hx with rfl | rfl | rfl | rfl <;> simp_all
  rw [this]
/-! Kinds. -/
theorem kind_cases {k:Nat} (h1:1≤k) (h6:k≤6):k=1∨k=2∨k=3∨k=4∨k=5∨k=6:=by omega
theorem kindN_hit {b:ByteArray} {k:Nat} (h1:1≤k) (h6:k≤6) (h0:∀ j:Nat,1≤j→j < k→¬ nameP (j:Int)=b) (h:nameP (k:Int)=b):kindN b=(k:Int):=by
  unfold kindN;rcases kind_cases h1 h6 with rfl | rfl | rfl | rfl | rfl | rfl
  · have h:nameP 1=b:=h;rw [if_pos h];rfl
  · have h:nameP 2=b:=h;have g1:¬ nameP 1=b:=h0 1 (by omega) (by omega);rw [if_neg g1,if_pos h];rfl
  · have h:nameP 3=b:=h;have g1:¬ nameP 1=b:=h0 1 (by omega) (by omega);have g2:¬ nameP 2=b:=h0 2 (by omega) (by omega);rw [if_neg g1,if_neg g2,if_pos h];rfl
  · have h:nameP 4=b:=h;have g1:¬ nameP 1=b:=h0 1 (by omega) (by omega);have g2:¬ nameP 2=b:=h0 2 (by omega) (by omega);have g3:¬ nameP 3=b:=h0 3 (by omega) (by omega);rw [if_neg g1,if_neg g2,if_neg g3,if_pos h];rfl
  · have h:nameP 5=b:=h;have g1:¬ nameP 1=b:=h0 1 (by omega) (by omega);have g2:¬ nameP 2=b:=h0 2 (by omega) (by omega);have g3:¬ nameP 3=b:=h0 3 (by omega) (by omega);have g4:¬ nameP 4=b:=h0 4 (by omega) (by omega);rw [if_neg g1,if_neg g2,if_neg g3,if_neg g4,if_pos h];rfl
  · have h:nameP 6=b:=h;have g1:¬ nameP 1=b:=h0 1 (by omega) (by omega);have g2:¬ nameP 2=b:=h0 2 (by omega) (by omega);have g3:¬ nameP 3=b:=h0 3 (by omega) (by omega);have g4:¬ nameP 4=b:=h0 4 (by omega) (by omega);have g5:¬ nameP 5=b:=h0 5 (by omega) (by omega);rw [if_neg g1,if_neg g2,if_neg g3,if_neg g4,if_neg g5,if_pos h];rfl
theorem kindN_miss {b:ByteArray} (h0:∀ j:Nat,1≤j→j < 7→¬ nameP (j:Int)=b):kindN b=0:=by unfold kindN;have g1:¬ nameP 1=b:=h0 1 (by omega) (by omega);have g2:¬ nameP 2=b:=h0 2 (by omega) (by omega);have g3:¬ nameP 3=b:=h0 3 (by omega) (by omega);have g4:¬ nameP 4=b:=h0 4 (by omega) (by omega);have g5:¬ nameP 5=b:=h0 5 (by omega) (by omega);have g6:¬ nameP 6=b:=h0 6 (by omega) (by omega);rw [if_neg g1,if_neg g2,if_neg g3,if_neg g4,if_neg g5,if_neg g6]
theorem v_l35Kind (b:ByteArray):Contract Tryz.prog TabG 66 [.v (.string b)] (.v (.int .i64 (kindN b))):=by
  refine law_spec_l35Kind ?_;unfold code_spec_l35Kind;simp -implicitDefEqProofs (disch:=omega) only [go_sem,↓reduceIte];refine loop_ov (by simp -implicitDefEqProofs (disch:=omega) only [go_sem,↓reduceIte];exact rfl) (fun k:Nat=>[(3,.v (.int .i64 (k:Nat)))]) (fun _=>by simp only [ovr_nil,ovr_cons,List.set_cons_zero,List.set_cons_succ];exact rfl) (fun k:Nat=>1≤k∧k≤7∧∀ j:Nat,1≤j→j < k→¬ nameP (j:Int)=b) (fun k:Nat=>7 - k) (1) (nleA) (?_) ?_
  · exact ⟨Nat.le_refl _,by omega,fun j h1 h2=>absurd h2 (by omega)⟩
  rintro k ⟨h1,h7,ha⟩;simp -implicitDefEqProofs (disch:=omega) only [go_sem,↓reduceIte];refine cond_split ?_ ?_ <;> intro hlt
  · have hlt:k≤6:=(by have:=of_decide_eq_true hlt;omega);simp -implicitDefEqProofs (disch:=omega) only [go_sem,↓reduceIte];refine call_B (v_ProofName_spec (k:Int)) (by simp -implicitDefEqProofs (disch:=omega) only [go_sem,↓reduceIte,deep,TD.rows,immLL_rI,immLL_rB8,immLL_rS,immLL_rBo,immLL_rII,immLL_rIIt];exact rfl) ?_;simp -implicitDefEqProofs (disch:=omega) only [go_sem,↓reduceIte];refine cond_split ?_ ?_ <;> intro hc
    · rw [kindN_hit h1 hlt ha (of_decide_eq_true hc)];simp -implicitDefEqProofs (disch:=omega) only [go_sem,↓reduceIte]
    · simp -implicitDefEqProofs (disch:=omega) only [go_sem,↓reduceIte ,wrN];refine ⟨k+1,by omega,⟨by omega,by omega,fun j a c=>?_⟩,nleA⟩;by_cases hji:j=k
      · subst hji;exact of_decide_eq_false hc
      · exact ha j a (by omega)
  · have hge:k=7:=(by have:=of_decide_eq_false hlt;omega);subst hge;rw [kindN_miss ha];simp -implicitDefEqProofs (disch:=omega) only [go_sem,↓reduceIte]
def prD (p:Proof) (st:Int):List D:=[.v (.int .i64 p.Kind),.sl true 3 (p.Sequence.map (Option.td.d true)),.sl true 3 (p.Other.map (Option.td.d true)),.sl true 1 (p.Part.map rI),.sl true 1 (p.Flows.map (fun x=>[.sl true 1 (x.map rI)])),.v (.int .i64 st)]
set_option maxHeartbeats 4000000 in
theorem v_first_a (p:Proof) (st:Int) (w:List ByteArray) (h2:w.length≠2) :
    ContractX Tryz.prog TabG 93 0 [.undef,.sl false 1 (w.map rS)] (prD p st) (.v (.int .i64 6)) (prD p st):=by
  unfold prD
  try simp only []
  refine law_impl_proofReader_first ?_;intro bb;unfold code_impl_proofReader_first;have d2:decide ((w.length:Int)=2)=false:=decide_eq_false (by omega);simp -implicitDefEqProofs (disch:=omega) only [go_sem,↓reduceIte];refine loop_ov (by simp -implicitDefEqProofs (disch:=omega) only [go_sem,↓reduceIte];exact rfl) (fun k:Nat=>[(5,.v (.int .i64 (k:Nat)))]) (fun _=>by simp only [ovr_nil,ovr_cons,List.set_cons_zero,List.set_cons_succ];exact rfl) (fun k:Nat=>1≤k∧k≤7) (fun k:Nat=>7 - k) (1) (nleA) (?_) ?_
  · exact ⟨Nat.le_refl _,by omega⟩
  rintro k ⟨h1,h7⟩;simp -implicitDefEqProofs (disch:=omega) only [go_sem,↓reduceIte];refine cond_split ?_ ?_ <;> intro hlt
  · have hlt:k≤6:=(by have:=of_decide_eq_true hlt;omega);simp -implicitDefEqProofs (disch:=omega) only [go_sem,↓reduceIte ,List.length_map,d2,wrN];exact ⟨k+1,by omega,⟨by omega,by omega⟩,nleA⟩
  · have hge:k=7:=(by have:=of_decide_eq_false hlt;omega);subst hge;simp -implicitDefEqProofs (disch:=omega) only [go_sem,↓reduceIte]
set_option maxHeartbeats 4000000 in
theorem v_first_b (p:Proof) (st:Int) (w0 w1:ByteArray) (hc:decide (w0=wProof)=false) :
    ContractX Tryz.prog TabG 93 0 [.undef,.sl false 1 ([w0,w1].map rS)] (prD p st) (.v (.int .i64 6)) (prD p st):=by
  unfold prD
  try simp only []
  refine law_impl_proofReader_first ?_;intro bb;unfold code_impl_proofReader_first;obtain ⟨L,hwd,hLe⟩:∃ L,Wd L [w0,w1]∧[w0,w1].map rS=L:=⟨_,wd_map _,rfl⟩
  rw [hLe];have lw:(L.length:Int)=2:=by rw [hwd.len];rfl
  have e0:L[Int.toNat 0]?=some [.v (.string w0)]:=hwd.at' 0 (by simp);have e1:L[Int.toNat 1]?=some [.v (.string w1)]:=hwd.at' 1 (by simp);have n2:decide ((2:Int)=2)=true:=rfl;have hc1:decide (w0=(⟨⟨[112,114,111,111,102]⟩⟩:ByteArray))=false:=hc;simp -implicitDefEqProofs (disch:=omega) only [go_sem,↓reduceIte];refine loop_ov (by simp -implicitDefEqProofs (disch:=omega) only [go_sem,↓reduceIte];exact rfl) (fun k:Nat=>[(5,.v (.int .i64 (k:Nat)))]) (fun _=>by simp only [ovr_nil,ovr_cons,List.set_cons_zero,List.set_cons_succ];exact rfl) (fun k:Nat=>1≤k∧k≤7) (fun k:Nat=>7 - k) (1) (nleA) (?_) ?_
  · exact ⟨Nat.le_refl _,by omega⟩
  rintro k ⟨h1,h7⟩;simp -implicitDefEqProofs (disch:=omega) only [go_sem,↓reduceIte];refine cond_split ?_ ?_ <;> intro hlt
  · have hlt:k≤6:=(by have:=of_decide_eq_true hlt;omega);simp -implicitDefEqProofs (disch:=omega) only [go_sem,↓reduceIte ,lw,n2,e0,e1,hc1,Int.le_refl,Int.reduceLE,Int.reduceLT,wrN];exact ⟨k+1,by omega,⟨by omega,by omega⟩,nleA⟩
  · have hge:k=7:=(by have:=of_decide_eq_false hlt;omega);subst hge;simp -implicitDefEqProofs (disch:=omega) only [go_sem,↓reduceIte]
set_option maxHeartbeats 4000000 in
theorem v_first_c (p:Proof) (st:Int) (w0 w1:ByteArray) (hc:decide (w0=wProof)=true) :
    ContractX Tryz.prog TabG 93 0 [.undef,.sl false 1 ([w0,w1].map rS)] (prD p st) (.v (.int .i64 (if kindN w1=0 then 6 else 0))) (prD (if kindN w1=0 then p else { p with Kind:=kindN w1 }) st):=by
  unfold prD
  try simp only []
  refine law_impl_proofReader_first ?_;intro bb;unfold code_impl_proofReader_first;obtain ⟨L,hwd,hLe⟩:∃ L,Wd L [w0,w1]∧[w0,w1].map rS=L:=⟨_,wd_map _,rfl⟩
  rw [hLe];have lw:(L.length:Int)=2:=by rw [hwd.len];rfl
  have e0:L[Int.toNat 0]?=some [.v (.string w0)]:=hwd.at' 0 (by simp);have e1:L[Int.toNat 1]?=some [.v (.string w1)]:=hwd.at' 1 (by simp);have n2:decide ((2:Int)=2)=true:=rfl;have hc1:decide (w0=(⟨⟨[112,114,111,111,102]⟩⟩:ByteArray))=true:=hc;simp -implicitDefEqProofs (disch:=omega) only [go_sem,↓reduceIte];refine loop_ov (by simp -implicitDefEqProofs (disch:=omega) only [go_sem,↓reduceIte];exact rfl) (fun k:Nat=>[(5,.v (.int .i64 (k:Nat)))]) (fun _=>by simp only [ovr_nil,ovr_cons,List.set_cons_zero,List.set_cons_succ];exact rfl) (fun k:Nat=>1≤k∧k≤7∧∀ j:Nat,1≤j→j < k→¬ nameP (j:Int)=w1) (fun k:Nat=>7 - k) (1) (nleA) (?_) ?_
  · exact ⟨Nat.le_refl _,by omega,fun j h1 h2=>absurd h2 (by omega)⟩
  rintro k ⟨h1,h7,ha⟩;simp -implicitDefEqProofs (disch:=omega) only [go_sem,↓reduceIte];refine cond_split ?_ ?_ <;> intro hlt
  · have hlt:k≤6:=(by have:=of_decide_eq_true hlt;omega);simp -implicitDefEqProofs (disch:=omega) only [go_sem,↓reduceIte ,lw,n2,e0,e1,hc1,Int.le_refl,Int.reduceLE,Int.reduceLT];refine call_NB (v_ProofName_impl (k:Int)) (by simp -implicitDefEqProofs (disch:=omega) only [go_sem,↓reduceIte,deep,TD.rows,immLL_rI,immLL_rB8,immLL_rS,immLL_rBo,immLL_rII,immLL_rIIt];exact rfl) ?_;simp -implicitDefEqProofs (disch:=omega) only [go_sem,↓reduceIte];refine cond_split ?_ ?_ <;> intro hc
    · rw [kindN_hit h1 hlt ha (of_decide_eq_true (by rw [eq_comm_dec];exact hc))];have hk0:¬ ((k:Int)=0):=by omega
      rw [if_neg hk0,if_neg hk0];simp -implicitDefEqProofs (disch:=omega) only [go_sem,↓reduceIte]
      first | done | exact ⟨rfl,rfl⟩ | exact ⟨rfl,rfl,rfl⟩
    · rw [eq_comm_dec] at hc;have hc':=of_decide_eq_false hc;simp -implicitDefEqProofs (disch:=omega) only [go_sem,↓reduceIte ,wrN];refine ⟨k+1,by omega,⟨by omega,by omega,fun j a c=>?_⟩,nleA⟩;by_cases hji:j=k
      · subst hji;exact hc'
      · exact ha j a (by omega)
  · have hge:k=7:=(by have:=of_decide_eq_false hlt;omega);subst hge;rw [kindN_miss ha];simp -implicitDefEqProofs (disch:=omega) only [go_sem,↓reduceIte]
def code_spec_l35ProofLine:VCode:=(.seq (.ops [
  ⟨(some 6),none,(.asg (.const (.int .i64 0)))⟩,
  ⟨(some 7),none,(.asg (.const (.bool false)))⟩]) (.seq (.ops [
  ⟨(some 12),none,(.mv (.tmp 1))⟩,
  ⟨(some 13),none,(.slc 1 (.tmp 12) (some (.const (.int .i64 1))) none none)⟩,
  ⟨(some 14),none,(.callX 54 [(.tmp 13)])⟩,
  ⟨(some 11),none,(.mv (.tmp 14))⟩,
  ⟨(some 15),none,(.ext (.tmp 11) 0)⟩,
  ⟨(some 16),none,(.ext (.tmp 11) 1)⟩,
  ⟨(some 8),none,(.asg (.tmp 15))⟩,
  ⟨(some 9),none,(.asg (.tmp 16))⟩]) (.seq (.seq (.ops [
  ⟨(some 17),none,(.mv (.tmp 9))⟩,
  ⟨(some 18),none,(.un .not (.tmp 17))⟩]) (.cond (.tmp 18) (.seq (.ops [
  ⟨(some 6),none,(.asg (.const (.int .i64 0)))⟩,
  ⟨(some 7),none,(.asg (.const (.bool false)))⟩]) .ret) .skip)) (.seq (.ops [
  ⟨(some 19),none,(.bsl 1 [(.const (.string ⟨⟨[112,117,116]⟩⟩)),(.const (.string ⟨⟨[111,116,104,101,114]⟩⟩)),(.const (.string ⟨⟨[112,97,114,116]⟩⟩)),(.const (.string ⟨⟨[102,108,111,119]⟩⟩))])⟩,
  ⟨(some 20),none,(.mv (.tmp 1))⟩,
  ⟨(some 21),none,(.ia 1 (.tmp 20) (.const (.int .i64 0)))⟩,
  ⟨(some 22),none,(.load 1 false (.tmp 21))⟩,
  ⟨(some 23),none,(.callX 92 [(.tmp 19),(.tmp 22)])⟩,
  ⟨(some 24),none,(.bin .add (.tmp 23) (.const (.int .i64 1)))⟩,
  ⟨(some 10),none,(.asg (.tmp 24))⟩]) (.seq (.seq (.ops [
  ⟨(some 25),none,(.mv (.tmp 10))⟩,
  ⟨(some 26),none,(.mv (.tmp 2))⟩,
  ⟨(some 27),none,(.bin .lss (.tmp 25) (.tmp 26))⟩,
  ⟨(some 28),none,(.mv (.tmp 27))⟩,
  ⟨(some 29),(some (28,false)),(.mv (.tmp 10))⟩,
  ⟨(some 30),(some (28,false)),(.bin .lss (.tmp 29) (.const (.int .i64 1)))⟩,
  ⟨(some 31),none,(.pick (.tmp 28) (.const (.bool true)) (.tmp 30))⟩,
  ⟨(some 32),none,(.mv (.tmp 31))⟩,
  ⟨(some 33),(some (32,false)),(.mv (.tmp 10))⟩,
  ⟨(some 34),(some (32,false)),(.bin .eql (.tmp 33) (.const (.int .i64 3)))⟩,
  ⟨(some 35),(some (32,false)),(.mv (.tmp 34))⟩,
  ⟨(some 36),(some (35,true)),(.mv (.tmp 2))⟩,
  ⟨(some 37),(some (35,true)),(.bin .eql (.tmp 36) (.const (.int .i64 3)))⟩,
  ⟨(some 38),(some (35,true)),(.mv (.tmp 37))⟩,
  ⟨(some 39),(some (38,false)),(.mv (.tmp 8))⟩,
  ⟨(some 40),(some (38,false)),(.len (.tmp 39))⟩,
  ⟨(some 41),(some (38,false)),(.bin .eql (.tmp 40) (.const (.int .i64 0)))⟩,
  ⟨(some 42),(some (35,true)),(.pick (.tmp 38) (.const (.bool true)) (.tmp 41))⟩,
  ⟨(some 43),(some (32,false)),(.pick (.tmp 35) (.tmp 42) (.const (.bool false)))⟩,
  ⟨(some 44),none,(.pick (.tmp 32) (.const (.bool true)) (.tmp 43))⟩,
  ⟨(some 45),none,(.mv (.tmp 44))⟩,
  ⟨(some 46),(some (45,false)),(.mv (.tmp 10))⟩,
  ⟨(some 47),(some (45,false)),(.bin .lss (.tmp 46) (.const (.int .i64 3)))⟩,
  ⟨(some 48),(some (45,false)),(.mv (.tmp 47))⟩,
  ⟨(some 49),(some (48,true)),(.mv (.tmp 8))⟩,
  ⟨(some 50),(some (48,true)),(.len (.tmp 49))⟩,
  ⟨(some 51),(some (48,true)),(.bin .neq (.tmp 50) (.const (.int .i64 3)))⟩,
  ⟨(some 52),(some (45,false)),(.pick (.tmp 48) (.tmp 51) (.const (.bool false)))⟩,
  ⟨(some 53),none,(.pick (.tmp 45) (.const (.bool true)) (.tmp 52))⟩]) (.cond (.tmp 53) (.seq (.ops [
  ⟨(some 6),none,(.asg (.const (.int .i64 0)))⟩,
  ⟨(some 7),none,(.asg (.const (.bool false)))⟩]) .ret) .skip)) (.seq (.seq (.ops [
  ⟨(some 54),none,(.mv (.tmp 10))⟩]) (.block 0 (.seq (.ops [
  ⟨(some 56),none,(.bin .eql (.tmp 54) (.const (.int .i64 1)))⟩,
  ⟨(some 55),none,(.asg (.tmp 56))⟩]) (.cond (.tmp 55) (.drawW (mB 75 37778787747769085853696) (mB 74 16991757134895710732288) [⟨1,(mB 75 37778787747769085853696),[],⟨(some 58),none,(.mv (.tmp 0))⟩⟩,⟨2,(mB 75 37778499517392934141952),[],⟨(some 59),none,(.nilc (.tmp 58))⟩⟩,⟨3,(mB 75 37777923056640630718464),[],⟨(some 60),none,(.fa 1 (.tmp 59))⟩⟩,⟨4,(mB 75 37776770135136023871488),[],⟨(some 61),none,(.load 1 false (.tmp 60))⟩⟩,⟨5,(mB 75 37778787747769085853696),[],⟨(some 62),none,(.mv (.tmp 8))⟩⟩,⟨6,(mB 75 37774176061750658465792),[],⟨(some 63),none,(.ia 1 (.tmp 62) (.const (.int .i64 0)))⟩⟩,⟨7,(mB 75 37764952689713803689984),[],⟨(some 64),none,(.load 1 false (.tmp 63))⟩⟩,⟨8,(mB 75 37778787747769085853696),[],⟨(some 65),none,(.mv (.tmp 8))⟩⟩,⟨9,(mB 75 37741894259621666750464),[],⟨(some 66),none,(.ia 1 (.tmp 65) (.const (.int .i64 1)))⟩⟩,⟨10,(mB 75 37668107283326828544000),[],⟨(some 67),none,(.load 1 false (.tmp 66))⟩⟩,⟨11,(mB 75 37488251528608160415744),(mB 68 166020696663385964544),⟨(some 68),none,(.build [(.int .i64 0),(.int .i64 0)] [(0,1,(.tmp 64)),(1,1,(.tmp 67))])⟩⟩,⟨12,(mB 75 37778787747769085853696),[],⟨(some 69),none,(.mv (.tmp 8))⟩⟩,⟨13,(mB 75 37188491937410380201984),[],⟨(some 70),none,(.ia 1 (.tmp 69) (.const (.int .i64 2)))⟩⟩,⟨14,(mB 75 36007900316692968898560),[],⟨(some 71),none,(.load 1 false (.tmp 70))⟩⟩,⟨15,(mB 75 33227053647581253992448),(mB 72 2656331146614175432704),⟨(some 72),none,(.build [(.int .i64 0),(.int .i64 0),(.int .i64 0)] [(0,2,(.tmp 68)),(2,1,(.tmp 71))])⟩⟩,⟨16,(mB 75 31161018311325784211456),(mB 73 4722366482869645213696),⟨(some 73),none,(.bslN 3 [(.tmp 72)])⟩⟩] ⟨17,(mB 75 26434328372813863321600),(mB 74 9447038808748504121344),⟨(some 74),none,(.app 3 24 (.tmp 61) (.tmp 73))⟩⟩ [⟨0,(mB 75 37778787747769085853696),[],⟨(some 57),none,(.mv (.tmp 0))⟩⟩] [⟨(some 75),none,(.nilc (.tmp 57))⟩,⟨(some 76),none,(.fa 1 (.tmp 75))⟩,⟨none,none,(.store 1 (.tmp 76) (.tmp 74))⟩]) (.seq (.ops [
  ⟨(some 78),none,(.bin .eql (.tmp 54) (.const (.int .i64 2)))⟩,
  ⟨(some 77),none,(.asg (.tmp 78))⟩]) (.cond (.tmp 77) (.drawW (mB 97 158455720565618867872500547584) (mB 96 71268594917921619107278487552) [⟨1,(mB 97 158455720565618867872500547584),[],⟨(some 80),none,(.mv (.tmp 0))⟩⟩,⟨2,(mB 97 158454511639799253243325841408),[],⟨(some 81),none,(.nilc (.tmp 80))⟩⟩,⟨3,(mB 97 158452093788160023984976429056),[],⟨(some 82),none,(.fa 2 (.tmp 81))⟩⟩,⟨4,(mB 97 158447258084881565468277604352),[],⟨(some 83),none,(.load 1 false (.tmp 82))⟩⟩,⟨5,(mB 97 158455720565618867872500547584),[],⟨(some 84),none,(.mv (.tmp 8))⟩⟩,⟨6,(mB 97 158436377752505033805705248768),[],⟨(some 85),none,(.ia 1 (.tmp 84) (.const (.int .i64 0)))⟩⟩,⟨7,(mB 97 158397692126277365672114651136),[],⟨(some 86),none,(.load 1 false (.tmp 85))⟩⟩,⟨8,(mB 97 158455720565618867872500547584),[],⟨(some 87),none,(.mv (.tmp 8))⟩⟩,⟨9,(mB 97 158300978060708195338138157056),[],⟨(some 88),none,(.ia 1 (.tmp 87) (.const (.int .i64 1)))⟩⟩,⟨10,(mB 97 157991493050886850269413376000),[],⟨(some 89),none,(.load 1 false (.tmp 88))⟩⟩,⟨11,(mB 97 157237123339447321664396722176),(mB 90 696341272098026404630757376),⟨(some 90),none,(.build [(.int .i64 0),(.int .i64 0)] [(0,1,(.tmp 86)),(1,1,(.tmp 89))])⟩⟩,⟨12,(mB 97 158455720565618867872500547584),[],⟨(some 91),none,(.mv (.tmp 8))⟩⟩,⟨13,(mB 97 155979840487048107322702299136),[],⟨(some 92),none,(.ia 1 (.tmp 91) (.const (.int .i64 2)))⟩⟩,⟨14,(mB 97 151028080329906586223105802240),[],⟨(some 93),none,(.load 1 false (.tmp 92))⟩⟩,⟨15,(mB 97 139364364022264643945540616192),(mB 94 11141460353568422474092118016),⟨(some 94),none,(.build [(.int .i64 0),(.int .i64 0),(.int .i64 0)] [(0,2,(.tmp 90)),(2,1,(.tmp 93))])⟩⟩,⟨16,(mB 97 130698783747266982021246746624),(mB 95 19807040628566084398385987584),⟨(some 95),none,(.bslN 3 [(.tmp 94)])⟩⟩] ⟨17,(mB 97 110873609231406678185240166400),(mB 96 39623752663689085830169624576),⟨(some 96),none,(.app 3 24 (.tmp 83) (.tmp 95))⟩⟩ [⟨0,(mB 97 158455720565618867872500547584),[],⟨(some 79),none,(.mv (.tmp 0))⟩⟩] [⟨(some 97),none,(.nilc (.tmp 79))⟩,⟨(some 98),none,(.fa 2 (.tmp 97))⟩,⟨none,none,(.store 1 (.tmp 98) (.tmp 96))⟩]) (.seq (.ops [
  ⟨(some 100),none,(.bin .eql (.tmp 54) (.const (.int .i64 3)))⟩,
  ⟨(some 99),none,(.asg (.tmp 100))⟩]) (.cond (.tmp 99) (.ops [
  ⟨(some 101),none,(.mv (.tmp 0))⟩,
  ⟨(some 102),none,(.mv (.tmp 8))⟩,
  ⟨(some 103),none,(.nilc (.tmp 101))⟩,
  ⟨(some 104),none,(.fa 3 (.tmp 103))⟩,
  ⟨none,none,(.store 1 (.tmp 104) (.tmp 102))⟩]) (.seq (.ops [
  ⟨(some 106),none,(.bin .eql (.tmp 54) (.const (.int .i64 4)))⟩,
  ⟨(some 105),none,(.asg (.tmp 106))⟩]) (.cond (.tmp 105) (.ops [
  ⟨(some 107),none,(.mv (.tmp 0))⟩,
  ⟨(some 108),none,(.mv (.tmp 0))⟩,
  ⟨(some 109),none,(.nilc (.tmp 108))⟩,
  ⟨(some 110),none,(.fa 4 (.tmp 109))⟩,
  ⟨(some 111),none,(.load 1 false (.tmp 110))⟩,
  ⟨(some 112),none,(.mv (.tmp 8))⟩,
  ⟨(some 113),none,(.bsl 1 [(.tmp 112)])⟩,
  ⟨(some 114),none,(.app 1 24 (.tmp 111) (.tmp 113))⟩,
  ⟨(some 115),none,(.nilc (.tmp 107))⟩,
  ⟨(some 116),none,(.fa 4 (.tmp 115))⟩,
  ⟨none,none,(.store 1 (.tmp 116) (.tmp 114))⟩]) .skip)))))))))) (.seq (.ops [
  ⟨(some 117),none,(.mv (.tmp 10))⟩,
  ⟨(some 6),none,(.asg (.tmp 117))⟩,
  ⟨(some 7),none,(.asg (.const (.bool true)))⟩]) .ret)))))))
theorem law_spec_l35ProofLine {a0 a1 a2 d:D} {cells cells':List D} (h:∀ b,code_spec_l35ProofLine.wp (CT Tryz.prog TabG) (endX [(.t 6),(.t 7)] d 0 b cells') [.box (some b) cells,a1,a2,.undef,.undef,.undef,.undef,.undef,.undef,.undef,.undef,.undef,.undef,.undef,.undef,.undef,.undef,.undef,.undef,.undef,.undef,.undef,.undef,.undef,.undef,.undef,.undef,.undef,.undef,.undef,.undef,.undef,.undef,.undef,.undef,.undef,.undef,.undef,.undef,.undef,.undef,.undef,.undef,.undef,.undef,.undef,.undef,.undef,.undef,.undef,.undef,.undef,.undef,.undef,.undef,.undef,.undef,.undef,.undef,.undef,.undef,.undef,.undef,.undef,.undef,.undef,.undef,.undef,.undef,.undef,.undef,.undef,.undef,.undef,.undef,.undef,.undef,.undef,.undef,.undef,.undef,.undef,.undef,.undef,.undef,.undef,.undef,.undef,.undef,.undef,.undef,.undef,.undef,.undef,.undef,.undef,.undef,.undef,.undef,.undef,.undef,.undef,.undef,.undef,.undef,.undef,.undef,.undef,.undef,.undef,.undef,.undef,.undef,.undef,.undef,.undef,.undef,.undef]):ContractX Tryz.prog TabG 67 0 [a0,a1,a2] cells d cells' :=
  contract_ofX (pt:=0) tabG Tryz.func67 (fun us W=>by kernel_rfl) (c:=Tryz.f67.body.getD .skip) (ms:=[]) (ms':=[]) (by kernel_rfl) (by kernel_rfl) (by kernel_rfl) (by simp) h
theorem lawM_spec_l35ProofLine {a0 a1 a2 d:D} {cells cells':List D} (h:∀ b,code_spec_l35ProofLine.wp (CT Tryz.prog TabG) (endXM 8 3 [(.t 6),(.t 7)] d 0 b cells') [.box (some b) cells,a1,a2,.undef,.undef,.undef,.undef,.undef,.undef,.undef,.undef,.undef,.undef,.undef,.undef,.undef,.undef,.undef,.undef,.undef,.undef,.undef,.undef,.undef,.undef,.undef,.undef,.undef,.undef,.undef,.undef,.undef,.undef,.undef,.undef,.undef,.undef,.undef,.undef,.undef,.undef,.undef,.undef,.undef,.undef,.undef,.undef,.undef,.undef,.undef,.undef,.undef,.undef,.undef,.undef,.undef,.undef,.undef,.undef,.undef,.undef,.undef,.undef,.undef,.undef,.undef,.undef,.undef,.undef,.undef,.undef,.undef,.undef,.undef,.undef,.undef,.undef,.undef,.undef,.undef,.undef,.undef,.undef,.undef,.undef,.undef,.undef,.undef,.undef,.undef,.undef,.undef,.undef,.undef,.undef,.undef,.undef,.undef,.undef,.undef,.undef,.undef,.undef,.undef,.undef,.undef,.undef,.undef,.undef,.undef,.undef,.undef,.undef,.undef,.undef,.undef,.undef,.undef]):ContractX Tryz.prog TabG 67 0 [a0,a1,a2] cells d cells' :=
  contract_ofXM (t:=8) (j:=3) (by decide) (pt:=0) tabG Tryz.func67 (fun us W=>by kernel_rfl) (c:=Tryz.f67.body.getD .skip) (ms:=[]) (ms':=[]) (by kernel_rfl) (by kernel_rfl) (by kernel_rfl) (by simp) h
theorem v_place (n:ByteArray):Contract Tryz.prog TabG 92 [.sl false 1 [[.v (.string ⟨⟨[112,117,116]⟩⟩)],[.v (.string ⟨⟨[111,116,104,101,114]⟩⟩)],[.v (.string ⟨⟨[112,97,114,116]⟩⟩)],[.v (.string ⟨⟨[102,108,111,119]⟩⟩)]],.v (.string n)] (.v (.int .i64 (placeW n))):=by have h:=v_l35Place wStages n (by decide);rw [place_vIdx] at h;exact h
theorem v_placeI (n:ByteArray):Contract Tryz.prog TabG 94 [.sl false 1 [[.v (.string ⟨⟨[112,117,116]⟩⟩)],[.v (.string ⟨⟨[111,116,104,101,114]⟩⟩)],[.v (.string ⟨⟨[112,97,114,116]⟩⟩)],[.v (.string ⟨⟨[102,108,111,119]⟩⟩)]],.v (.string n)] (.v (.int .i64 (placeW n))):=by have h:=v_Index_String wStages n (by decide);rw [place_vIdx] at h;exact h
structure WdL (L:List (List D)) (w0:ByteArray) (ws:List ByteArray):Prop where
  len:(L.length:Int)=((ws.length+1:Nat):Int)
  lenN:L.length=ws.length+1
  hd:L[Int.toNat 0]?=some [.v (.string w0)]
  drp:List.drop (Int.toNat 1) L=ws.map rS
theorem wdl_map (w0:ByteArray) (ws:List ByteArray):WdL ((w0::ws).map rS) w0 ws:=⟨by simp,by simp,rfl,rfl⟩
theorem nf (fs:List (List Int)):noImmLL (fs.map (fun x=>[D.sl true 1 (x.map rI)]))=true:=by
  induction fs with
  | nil=>rfl
  | cons x fs ih =>
    have h:noImmLL (x.map rI)=true:=by
      induction x with
      | nil=>rfl
      | cons y x ih=>simpa [noImmLL,noImmL,D.noImm,rI] using ih
    simp [noImmLL,noImmL,D.noImm,h,ih]
set_option maxHeartbeats 4000000 in
theorem v_pl_none (p:Proof) (st:Int) (w0:ByteArray) (ws:List ByteArray) (hw:∀ x,x∈ws→x.size≤1048576) (hl:ws.length≤1048577) (hr:rdNums ws=none) :
    ContractX Tryz.prog TabG 67 0 [.undef,.sl false 1 ((w0::ws).map rS),.v (.int .i64 (st+1))] (Proof.td.d true p) (.tup [.v (.int .i64 0),.v (.bool false)]) (Proof.td.d true p):=by
  rw [Proof.td_d];refine law_spec_l35ProofLine ?_;intro bb;unfold code_spec_l35ProofLine;obtain ⟨L,hwd,hLe⟩:∃ L,WdL L w0 ws∧(w0::ws).map rS=L:=⟨_,wdl_map _ _,rfl⟩
  have hv:=v_l17Numbers ws hw hl;rw [hLe];have lw:=hwd.len;have e0:=hwd.hd;have drp:=hwd.drp;have tk:List.take (Int.toNat ((ws.length+1:Nat):Int) - Int.toNat 1) (ws.map rS)=ws.map rS:=List.take_of_length_le (by rw [List.length_map];simp only [Int.toNat_natCast];show ws.length≤ws.length+1 - 1;omega);have l0:(0:Int) < ((ws.length+1:Nat):Int):=(by omega);have l1:(1:Int)≤((ws.length+1:Nat):Int):=(by omega);rw [hr] at hv;simp -implicitDefEqProofs (disch:=omega) only [go_sem,↓reduceIte ,lw,e0,l0,l1,Int.le_refl,Int.reduceLE,Int.reduceLT,drp];refine call_B (hv) (by simp -implicitDefEqProofs (disch:=omega) only [go_sem,↓reduceIte,deep,TD.rows,immLL_rI,immLL_rB8,immLL_rS,immLL_rBo,immLL_rII,immLL_rIIt,tk];exact rfl) ?_;simp -implicitDefEqProofs (disch:=omega) only [go_sem,↓reduceIte ,tk]
set_option maxHeartbeats 4000000 in
theorem v_pl_lt (p:Proof) (st:Int) (w0:ByteArray) (ws:List ByteArray) (hw:∀ x,x∈ws→x.size≤1048576) (hl:ws.length≤1048577) (n:List Int) (hr:rdNums ws=some n) (h0:0≤st) (h3:st≤3) (hlt:placeW w0 < st) :
    ContractX Tryz.prog TabG 67 0 [.undef,.sl false 1 ((w0::ws).map rS),.v (.int .i64 (st+1))] (Proof.td.d true p) (.tup [.v (.int .i64 0),.v (.bool false)]) (Proof.td.d true p):=by
  rw [Proof.td_d];refine law_spec_l35ProofLine ?_;intro bb;unfold code_spec_l35ProofLine;obtain ⟨L,hwd,hLe⟩:∃ L,WdL L w0 ws∧(w0::ws).map rS=L:=⟨_,wdl_map _ _,rfl⟩
  have hv:=v_l17Numbers ws hw hl;rw [hLe];have lw:=hwd.len;have e0:=hwd.hd;have drp:=hwd.drp;have tk:List.take (Int.toNat ((ws.length+1:Nat):Int) - Int.toNat 1) (ws.map rS)=ws.map rS:=List.take_of_length_le (by rw [List.length_map];simp only [Int.toNat_natCast];show ws.length≤ws.length+1 - 1;omega);have l0:(0:Int) < ((ws.length+1:Nat):Int):=(by omega);have l1:(1:Int)≤((ws.length+1:Nat):Int):=(by omega);rw [hr] at hv;simp only [_root_.Option.getD_some,_root_.Option.isSome_some] at hv;have hp:=placeW_rng w0;have hwr:IntKind.i64.wrap (placeW w0+1)=placeW w0+1:=wrI (by omega) (by omega);have d1:decide (placeW w0+1 < st+1)=true:=decide_eq_true (by omega);simp -implicitDefEqProofs (disch:=omega) only [go_sem,↓reduceIte ,lw,e0,l0,l1,Int.le_refl,Int.reduceLE,Int.reduceLT,drp];refine call_B (hv) (by simp -implicitDefEqProofs (disch:=omega) only [go_sem,↓reduceIte,deep,TD.rows,immLL_rI,immLL_rB8,immLL_rS,immLL_rBo,immLL_rII,immLL_rIIt,tk,lw,e0,l0,l1,Int.le_refl,Int.reduceLE,Int.reduceLT,drp];exact rfl) ?_;simp -implicitDefEqProofs (disch:=omega) only [go_sem,↓reduceIte ,tk,lw,e0,l0,l1,Int.le_refl,Int.reduceLE,Int.reduceLT,drp];refine call_B (v_place w0) (by simp -implicitDefEqProofs (disch:=omega) only [go_sem,↓reduceIte,deep,TD.rows,immLL_rI,immLL_rB8,immLL_rS,immLL_rBo,immLL_rII,immLL_rIIt,lw,e0,l0,l1,Int.le_refl,Int.reduceLE,Int.reduceLT,drp,hwr,d1];exact rfl) ?_;simp -implicitDefEqProofs (disch:=omega) only [go_sem,↓reduceIte ,lw,e0,l0,l1,Int.le_refl,Int.reduceLE,Int.reduceLT,drp,hwr,d1]
set_option maxHeartbeats 4000000 in
theorem v_pl_0bad (p:Proof) (st:Int) (w0:ByteArray) (ws:List ByteArray) (hw:∀ x,x∈ws→x.size≤1048576) (hl:ws.length≤1048577) (n:List Int) (hr:rdNums ws=some n) (h0:0≤st) (h3:st≤3) (hk:placeW w0=0) (hlt:st≤0) (hn:n.length≠3) :
    ContractX Tryz.prog TabG 67 0 [.undef,.sl false 1 ((w0::ws).map rS),.v (.int .i64 (st+1))] (Proof.td.d true p) (.tup [.v (.int .i64 0),.v (.bool false)]) (Proof.td.d true p):=by
  rw [Proof.td_d];refine law_spec_l35ProofLine ?_;intro bb;unfold code_spec_l35ProofLine;obtain ⟨L,hwd,hLe⟩:∃ L,WdL L w0 ws∧(w0::ws).map rS=L:=⟨_,wdl_map _ _,rfl⟩
  have hv:=v_l17Numbers ws hw hl;rw [hLe];have lw:=hwd.len;have e0:=hwd.hd;have drp:=hwd.drp;have tk:List.take (Int.toNat ((ws.length+1:Nat):Int) - Int.toNat 1) (ws.map rS)=ws.map rS:=List.take_of_length_le (by rw [List.length_map];simp only [Int.toNat_natCast];show ws.length≤ws.length+1 - 1;omega);have l0:(0:Int) < ((ws.length+1:Nat):Int):=(by omega);have l1:(1:Int)≤((ws.length+1:Nat):Int):=(by omega);rw [hr] at hv;simp only [_root_.Option.getD_some,_root_.Option.isSome_some] at hv;have hwr:IntKind.i64.wrap (placeW w0+1)=1:=(by rw [hk];exact wrI (by omega) (by omega));have d1:decide ((1:Int) < st+1)=false:=decide_eq_false (by omega);have d2:decide ((1:Int) < 1)=false:=rfl;have d3:decide ((1:Int)=3)=false:=rfl;have d4:decide ((1:Int) < 3)=true:=rfl;have q1:decide ((1:Int)=1)=true:=rfl;have q2:decide ((1:Int)=2)=false:=rfl;have q3:decide ((1:Int)=3)=false:=rfl;have q4:decide ((1:Int)=4)=false:=rfl;have d5:decide ((n.length:Int)=3)=false:=decide_eq_false (by omega);simp -implicitDefEqProofs (disch:=omega) only [go_sem,↓reduceIte ,lw,e0,l0,l1,Int.le_refl,Int.reduceLE,Int.reduceLT,drp];refine call_B (hv) (by simp -implicitDefEqProofs (disch:=omega) only [go_sem,↓reduceIte,deep,TD.rows,immLL_rI,immLL_rB8,immLL_rS,immLL_rBo,immLL_rII,immLL_rIIt,tk,lw,e0,l0,l1,Int.le_refl,Int.reduceLE,Int.reduceLT,drp];exact rfl) ?_;simp -implicitDefEqProofs (disch:=omega) only [go_sem,↓reduceIte ,tk,lw,e0,l0,l1,Int.le_refl,Int.reduceLE,Int.reduceLT,drp];refine call_B (v_place w0) (by simp -implicitDefEqProofs (disch:=omega) only [go_sem,↓reduceIte,deep,TD.rows,immLL_rI,immLL_rB8,immLL_rS,immLL_rBo,immLL_rII,immLL_rIIt,lw,e0,l0,l1,Int.le_refl,Int.reduceLE,Int.reduceLT,drp,hwr,d1,d2,d3,d4,q1,q2,q3,q4,List.length_map,d5];exact rfl) ?_;simp -implicitDefEqProofs (disch:=omega) only [go_sem,↓reduceIte ,lw,e0,l0,l1,Int.le_refl,Int.reduceLE,Int.reduceLT,drp,hwr,d1,d2,d3,d4,q1,q2,q3,q4,List.length_map,d5]
set_option maxHeartbeats 4000000 in
theorem v_pl_1bad (p:Proof) (st:Int) (w0:ByteArray) (ws:List ByteArray) (hw:∀ x,x∈ws→x.size≤1048576) (hl:ws.length≤1048577) (n:List Int) (hr:rdNums ws=some n) (h0:0≤st) (h3:st≤3) (hk:placeW w0=1) (hlt:st≤1) (hn:n.length≠3) :
    ContractX Tryz.prog TabG 67 0 [.undef,.sl false 1 ((w0::ws).map rS),.v (.int .i64 (st+1))] (Proof.td.d true p) (.tup [.v (.int .i64 0),.v (.bool false)]) (Proof.td.d true p):=by
  rw [Proof.td_d];refine law_spec_l35ProofLine ?_;intro bb;unfold code_spec_l35ProofLine;obtain ⟨L,hwd,hLe⟩:∃ L,WdL L w0 ws∧(w0::ws).map rS=L:=⟨_,wdl_map _ _,rfl⟩
  have hv:=v_l17Numbers ws hw hl;rw [hLe];have lw:=hwd.len;have e0:=hwd.hd;have drp:=hwd.drp;have tk:List.take (Int.toNat ((ws.length+1:Nat):Int) - Int.toNat 1) (ws.map rS)=ws.map rS:=List.take_of_length_le (by rw [List.length_map];simp only [Int.toNat_natCast];show ws.length≤ws.length+1 - 1;omega);have l0:(0:Int) < ((ws.length+1:Nat):Int):=(by omega);have l1:(1:Int)≤((ws.length+1:Nat):Int):=(by omega);rw [hr] at hv;simp only [_root_.Option.getD_some,_root_.Option.isSome_some] at hv;have hwr:IntKind.i64.wrap (placeW w0+1)=2:=(by rw [hk];exact wrI (by omega) (by omega));have d1:decide ((2:Int) < st+1)=false:=decide_eq_false (by omega);have d2:decide ((2:Int) < 1)=false:=rfl;have d3:decide ((2:Int)=3)=false:=rfl;have d4:decide ((2:Int) < 3)=true:=rfl;have q1:decide ((2:Int)=1)=false:=rfl;have q2:decide ((2:Int)=2)=true:=rfl;have q3:decide ((2:Int)=3)=false:=rfl;have q4:decide ((2:Int)=4)=false:=rfl;have d5:decide ((n.length:Int)=3)=false:=decide_eq_false (by omega);simp -implicitDefEqProofs (disch:=omega) only [go_sem,↓reduceIte ,lw,e0,l0,l1,Int.le_refl,Int.reduceLE,Int.reduceLT,drp];refine call_B (hv) (by simp -implicitDefEqProofs (disch:=omega) only [go_sem,↓reduceIte,deep,TD.rows,immLL_rI,immLL_rB8,immLL_rS,immLL_rBo,immLL_rII,immLL_rIIt,tk,lw,e0,l0,l1,Int.le_refl,Int.reduceLE,Int.reduceLT,drp];exact rfl) ?_;simp -implicitDefEqProofs (disch:=omega) only [go_sem,↓reduceIte ,tk,lw,e0,l0,l1,Int.le_refl,Int.reduceLE,Int.reduceLT,drp];refine call_B (v_place w0) (by simp -implicitDefEqProofs (disch:=omega) only [go_sem,↓reduceIte,deep,TD.rows,immLL_rI,immLL_rB8,immLL_rS,immLL_rBo,immLL_rII,immLL_rIIt,lw,e0,l0,l1,Int.le_refl,Int.reduceLE,Int.reduceLT,drp,hwr,d1,d2,d3,d4,q1,q2,q3,q4,List.length_map,d5];exact rfl) ?_;simp -implicitDefEqProofs (disch:=omega) only [go_sem,↓reduceIte ,lw,e0,l0,l1,Int.le_refl,Int.reduceLE,Int.reduceLT,drp,hwr,d1,d2,d3,d4,q1,q2,q3,q4,List.length_map,d5]
set_option maxHeartbeats 4000000 in
theorem v_pl_2bad1 (p:Proof) (st:Int) (w0:ByteArray) (ws:List ByteArray) (hw:∀ x,x∈ws→x.size≤1048576) (hl:ws.length≤1048577) (n:List Int) (hr:rdNums ws=some n) (h0:0≤st) (h3:st≤3) (hk:placeW w0=2) (hs:st=2) :
    ContractX Tryz.prog TabG 67 0 [.undef,.sl false 1 ((w0::ws).map rS),.v (.int .i64 (st+1))] (Proof.td.d true p) (.tup [.v (.int .i64 0),.v (.bool false)]) (Proof.td.d true p):=by
  rw [Proof.td_d];refine law_spec_l35ProofLine ?_;intro bb;unfold code_spec_l35ProofLine;obtain ⟨L,hwd,hLe⟩:∃ L,WdL L w0 ws∧(w0::ws).map rS=L:=⟨_,wdl_map _ _,rfl⟩
  have hv:=v_l17Numbers ws hw hl;rw [hLe];have lw:=hwd.len;have e0:=hwd.hd;have drp:=hwd.drp;have tk:List.take (Int.toNat ((ws.length+1:Nat):Int) - Int.toNat 1) (ws.map rS)=ws.map rS:=List.take_of_length_le (by rw [List.length_map];simp only [Int.toNat_natCast];show ws.length≤ws.length+1 - 1;omega);have l0:(0:Int) < ((ws.length+1:Nat):Int):=(by omega);have l1:(1:Int)≤((ws.length+1:Nat):Int):=(by omega);rw [hr] at hv;simp only [_root_.Option.getD_some,_root_.Option.isSome_some] at hv;have hwr:IntKind.i64.wrap (placeW w0+1)=3:=(by rw [hk];exact wrI (by omega) (by omega));have d1:decide ((3:Int) < st+1)=false:=decide_eq_false (by omega);have d2:decide ((3:Int) < 1)=false:=rfl;have d3:decide ((3:Int)=3)=true:=rfl;have d4:decide ((3:Int) < 3)=false:=rfl;have q1:decide ((3:Int)=1)=false:=rfl;have q2:decide ((3:Int)=2)=false:=rfl;have q3:decide ((3:Int)=3)=true:=rfl;have q4:decide ((3:Int)=4)=false:=rfl;have d5:decide (st+1=3)=true:=decide_eq_true (by omega);simp -implicitDefEqProofs (disch:=omega) only [go_sem,↓reduceIte ,lw,e0,l0,l1,Int.le_refl,Int.reduceLE,Int.reduceLT,drp];refine call_B (hv) (by simp -implicitDefEqProofs (disch:=omega) only [go_sem,↓reduceIte,deep,TD.rows,immLL_rI,immLL_rB8,immLL_rS,immLL_rBo,immLL_rII,immLL_rIIt,tk,lw,e0,l0,l1,Int.le_refl,Int.reduceLE,Int.reduceLT,drp];exact rfl) ?_;simp -implicitDefEqProofs (disch:=omega) only [go_sem,↓reduceIte ,tk,lw,e0,l0,l1,Int.le_refl,Int.reduceLE,Int.reduceLT,drp];refine call_B (v_place w0) (by simp -implicitDefEqProofs (disch:=omega) only [go_sem,↓reduceIte,deep,TD.rows,immLL_rI,immLL_rB8,immLL_rS,immLL_rBo,immLL_rII,immLL_rIIt,lw,e0,l0,l1,Int.le_refl,Int.reduceLE,Int.reduceLT,drp,hwr,d1,d2,d3,d4,q1,q2,q3,q4,List.length_map,d5];exact rfl) ?_;simp -implicitDefEqProofs (disch:=omega) only [go_sem,↓reduceIte ,lw,e0,l0,l1,Int.le_refl,Int.reduceLE,Int.reduceLT,drp,hwr,d1,d2,d3,d4,q1,q2,q3,q4,List.length_map,d5]
set_option maxHeartbeats 4000000 in
theorem v_pl_2bad2 (p:Proof) (st:Int) (w0:ByteArray) (ws:List ByteArray) (hw:∀ x,x∈ws→x.size≤1048576) (hl:ws.length≤1048577) (n:List Int) (hr:rdNums ws=some n) (h0:0≤st) (h3:st≤3) (hk:placeW w0=2) (hs:st < 2) (hn:n=[]) :
    ContractX Tryz.prog TabG 67 0 [.undef,.sl false 1 ((w0::ws).map rS),.v (.int .i64 (st+1))] (Proof.td.d true p) (.tup [.v (.int .i64 0),.v (.bool false)]) (Proof.td.d true p):=by
  rw [Proof.td_d];refine law_spec_l35ProofLine ?_;intro bb;unfold code_spec_l35ProofLine;obtain ⟨L,hwd,hLe⟩:∃ L,WdL L w0 ws∧(w0::ws).map rS=L:=⟨_,wdl_map _ _,rfl⟩
  have hv:=v_l17Numbers ws hw hl;rw [hLe];have lw:=hwd.len;have e0:=hwd.hd;have drp:=hwd.drp;have tk:List.take (Int.toNat ((ws.length+1:Nat):Int) - Int.toNat 1) (ws.map rS)=ws.map rS:=List.take_of_length_le (by rw [List.length_map];simp only [Int.toNat_natCast];show ws.length≤ws.length+1 - 1;omega);have l0:(0:Int) < ((ws.length+1:Nat):Int):=(by omega);have l1:(1:Int)≤((ws.length+1:Nat):Int):=(by omega);rw [hr] at hv;simp only [_root_.Option.getD_some,_root_.Option.isSome_some] at hv;have hwr:IntKind.i64.wrap (placeW w0+1)=3:=(by rw [hk];exact wrI (by omega) (by omega));have d1:decide ((3:Int) < st+1)=false:=decide_eq_false (by omega);have d2:decide ((3:Int) < 1)=false:=rfl;have d3:decide ((3:Int)=3)=true:=rfl;have d4:decide ((3:Int) < 3)=false:=rfl;have q1:decide ((3:Int)=1)=false:=rfl;have q2:decide ((3:Int)=2)=false:=rfl;have q3:decide ((3:Int)=3)=true:=rfl;have q4:decide ((3:Int)=4)=false:=rfl;have d5:decide (st+1=3)=false:=decide_eq_false (by omega);have d6:decide ((n.length:Int)=0)=true:=(by rw [hn];rfl);simp -implicitDefEqProofs (disch:=omega) only [go_sem,↓reduceIte ,lw,e0,l0,l1,Int.le_refl,Int.reduceLE,Int.reduceLT,drp];refine call_B (hv) (by simp -implicitDefEqProofs (disch:=omega) only [go_sem,↓reduceIte,deep,TD.rows,immLL_rI,immLL_rB8,immLL_rS,immLL_rBo,immLL_rII,immLL_rIIt,tk,lw,e0,l0,l1,Int.le_refl,Int.reduceLE,Int.reduceLT,drp];exact rfl) ?_;simp -implicitDefEqProofs (disch:=omega) only [go_sem,↓reduceIte ,tk,lw,e0,l0,l1,Int.le_refl,Int.reduceLE,Int.reduceLT,drp];refine call_B (v_place w0) (by simp -implicitDefEqProofs (disch:=omega) only [go_sem,↓reduceIte,deep,TD.rows,immLL_rI,immLL_rB8,immLL_rS,immLL_rBo,immLL_rII,immLL_rIIt,lw,e0,l0,l1,Int.le_refl,Int.reduceLE,Int.reduceLT,drp,hwr,d1,d2,d3,d4,q1,q2,q3,q4,List.length_map,d5,d6];exact rfl) ?_;simp -implicitDefEqProofs (disch:=omega) only [go_sem,↓reduceIte ,lw,e0,l0,l1,Int.le_refl,Int.reduceLE,Int.reduceLT,drp,hwr,d1,d2,d3,d4,q1,q2,q3,q4,List.length_map,d5,d6]
set_option maxHeartbeats 4000000 in
theorem v_pl_2 (p:Proof) (st:Int) (w0:ByteArray) (ws:List ByteArray) (hw:∀ x,x∈ws→x.size≤1048576) (hl:ws.length≤1048577) (n:List Int) (hr:rdNums ws=some n) (h0:0≤st) (h3:st≤3) (hk:placeW w0=2) (hlt:st < 2) (hn:n≠[]) :
    ContractX Tryz.prog TabG 67 0 [.undef,.sl false 1 ((w0::ws).map rS),.v (.int .i64 (st+1))] (Proof.td.d true p) (.tup [.v (.int .i64 3),.v (.bool true)]) (Proof.td.d true { p with Part:=n }):=by
  rw [Proof.td_d,Proof.td_d];refine lawM_spec_l35ProofLine ?_;intro bb;unfold code_spec_l35ProofLine;obtain ⟨L,hwd,hLe⟩:∃ L,WdL L w0 ws∧(w0::ws).map rS=L:=⟨_,wdl_map _ _,rfl⟩
  have hv:=v_l17Numbers ws hw hl;rw [hLe];have lw:=hwd.len;have e0:=hwd.hd;have drp:=hwd.drp;have tk:List.take (Int.toNat ((ws.length+1:Nat):Int) - Int.toNat 1) (ws.map rS)=ws.map rS:=List.take_of_length_le (by rw [List.length_map];simp only [Int.toNat_natCast];show ws.length≤ws.length+1 - 1;omega);have l0:(0:Int) < ((ws.length+1:Nat):Int):=(by omega);have l1:(1:Int)≤((ws.length+1:Nat):Int):=(by omega);rw [hr] at hv;simp only [_root_.Option.getD_some,_root_.Option.isSome_some] at hv;have hwr:IntKind.i64.wrap (placeW w0+1)=3:=(by rw [hk];exact wrI (by omega) (by omega));have d1:decide ((3:Int) < st+1)=false:=decide_eq_false (by omega);have d2:decide ((3:Int) < 1)=false:=rfl;have d3:decide ((3:Int)=3)=true:=rfl;have d4:decide ((3:Int) < 3)=false:=rfl;have q1:decide ((3:Int)=1)=false:=rfl;have q2:decide ((3:Int)=2)=false:=rfl;have q3:decide ((3:Int)=3)=true:=rfl;have q4:decide ((3:Int)=4)=false:=rfl;have d5:decide (st+1=3)=false:=decide_eq_false (by omega);have d6:decide ((n.length:Int)=0)=false:=decide_eq_false (by cases n with | nil=>exact absurd rfl hn | cons a l=>simp only [List.length_cons];omega);simp -implicitDefEqProofs (disch:=omega) only [go_sem,↓reduceIte ,lw,e0,l0,l1,Int.le_refl,Int.reduceLE,Int.reduceLT,drp];refine call_B (hv) (by simp -implicitDefEqProofs (disch:=omega) only [go_sem,↓reduceIte,deep,TD.rows,immLL_rI,immLL_rB8,immLL_rS,immLL_rBo,immLL_rII,immLL_rIIt,tk,lw,e0,l0,l1,Int.le_refl,Int.reduceLE,Int.reduceLT,drp];exact rfl) ?_;simp -implicitDefEqProofs (disch:=omega) only [go_sem,↓reduceIte ,tk,lw,e0,l0,l1,Int.le_refl,Int.reduceLE,Int.reduceLT,drp];refine call_B (v_place w0) (by simp -implicitDefEqProofs (disch:=omega) only [go_sem,↓reduceIte,deep,TD.rows,immLL_rI,immLL_rB8,immLL_rS,immLL_rBo,immLL_rII,immLL_rIIt,lw,e0,l0,l1,Int.le_refl,Int.reduceLE,Int.reduceLT,drp,hwr,d1,d2,d3,d4,q1,q2,q3,q4,List.length_map,d5,d6,endXM_ret,endXM_n,leXM_app,outFM_box,setM_hit];exact rfl) ?_;simp -implicitDefEqProofs (disch:=omega) only [go_sem,↓reduceIte ,lw,e0,l0,l1,Int.le_refl,Int.reduceLE,Int.reduceLT,drp,hwr,d1,d2,d3,d4,q1,q2,q3,q4,List.length_map,d5,d6,endXM_ret,endXM_n,leXM_app,outFM_box,setM_hit]
set_option maxHeartbeats 4000000 in
theorem v_pl_3 (p:Proof) (st:Int) (w0:ByteArray) (ws:List ByteArray) (hw:∀ x,x∈ws→x.size≤1048576) (hl:ws.length≤1048577) (n:List Int) (hr:rdNums ws=some n) (h0:0≤st) (h3:st≤3) (hk:placeW w0=3) (hf:p.Flows.length≤1048577) :
    ContractX Tryz.prog TabG 67 0 [.undef,.sl false 1 ((w0::ws).map rS),.v (.int .i64 (st+1))] (Proof.td.d true p) (.tup [.v (.int .i64 4),.v (.bool true)]) (Proof.td.d true { p with Flows:=p.Flows++[n] }):=by
  rw [Proof.td_d,Proof.td_d];refine law_spec_l35ProofLine ?_;intro bb;unfold code_spec_l35ProofLine;obtain ⟨L,hwd,hLe⟩:∃ L,WdL L w0 ws∧(w0::ws).map rS=L:=⟨_,wdl_map _ _,rfl⟩
  have hv:=v_l17Numbers ws hw hl;rw [hLe];have lw:=hwd.len;have e0:=hwd.hd;have drp:=hwd.drp;have tk:List.take (Int.toNat ((ws.length+1:Nat):Int) - Int.toNat 1) (ws.map rS)=ws.map rS:=List.take_of_length_le (by rw [List.length_map];simp only [Int.toNat_natCast];show ws.length≤ws.length+1 - 1;omega);have l0:(0:Int) < ((ws.length+1:Nat):Int):=(by omega);have l1:(1:Int)≤((ws.length+1:Nat):Int):=(by omega);rw [hr] at hv;simp only [_root_.Option.getD_some,_root_.Option.isSome_some] at hv;have hwr:IntKind.i64.wrap (placeW w0+1)=4:=(by rw [hk];exact wrI (by omega) (by omega));have d1:decide ((4:Int) < st+1)=false:=decide_eq_false (by omega);have d2:decide ((4:Int) < 1)=false:=rfl;have d3:decide ((4:Int)=3)=false:=rfl;have d4:decide ((4:Int) < 3)=false:=rfl;have q1:decide ((4:Int)=1)=false:=rfl;have q2:decide ((4:Int)=2)=false:=rfl;have q3:decide ((4:Int)=3)=false:=rfl;have q4:decide ((4:Int)=4)=true:=rfl;simp -implicitDefEqProofs (disch:=omega) only [go_sem,↓reduceIte ,lw,e0,l0,l1,Int.le_refl,Int.reduceLE,Int.reduceLT,drp];refine call_B (hv) (by simp -implicitDefEqProofs (disch:=omega) only [go_sem,↓reduceIte,deep,TD.rows,immLL_rI,immLL_rB8,immLL_rS,immLL_rBo,immLL_rII,immLL_rIIt,tk,lw,e0,l0,l1,Int.le_refl,Int.reduceLE,Int.reduceLT,drp];exact rfl) ?_;simp -implicitDefEqProofs (disch:=omega) only [go_sem,↓reduceIte ,tk,lw,e0,l0,l1,Int.le_refl,Int.reduceLE,Int.reduceLT,drp];refine call_B (v_place w0) (by simp -implicitDefEqProofs (disch:=omega) only [go_sem,↓reduceIte,deep,TD.rows,immLL_rI,immLL_rB8,immLL_rS,immLL_rBo,immLL_rII,immLL_rIIt,lw,e0,l0,l1,Int.le_refl,Int.reduceLE,Int.reduceLT,drp,hwr,d1,d2,d3,d4,q1,q2,q3,q4,List.length_map];exact rfl) ?_;simp -implicitDefEqProofs (disch:=omega) only [go_sem,↓reduceIte ,lw,e0,l0,l1,Int.le_refl,Int.reduceLE,Int.reduceLT,drp,hwr,d1,d2,d3,d4,q1,q2,q3,q4,List.length_map];exact ⟨by omega,by rw [List.map_append];rfl⟩
set_option maxHeartbeats 4000000 in
theorem v_pl_0 (p:Proof) (st:Int) (w0:ByteArray) (ws:List ByteArray) (hw:∀ x,x∈ws→x.size≤1048576) (hl:ws.length≤1048577) (a b c:Int) (hr:rdNums ws=some [a,b,c]) (h0:0≤st) (h3:st≤3) (hk:placeW w0=0) (hlt:st≤0) (hf:p.Sequence.length≤1048577) :
    ContractX Tryz.prog TabG 67 0 [.undef,.sl false 1 ((w0::ws).map rS),.v (.int .i64 (st+1))] (Proof.td.d true p) (.tup [.v (.int .i64 1),.v (.bool true)]) (Proof.td.d true { p with Sequence:=p.Sequence++[⟨⟨a,b⟩,c⟩] }):=by
  rw [Proof.td_d,Proof.td_d];refine law_spec_l35ProofLine ?_;intro bb;unfold code_spec_l35ProofLine;obtain ⟨L,hwd,hLe⟩:∃ L,WdL L w0 ws∧(w0::ws).map rS=L:=⟨_,wdl_map _ _,rfl⟩
  have hv:=v_l17Numbers ws hw hl;rw [hLe];have lw:=hwd.len;have e0:=hwd.hd;have drp:=hwd.drp;have tk:List.take (Int.toNat ((ws.length+1:Nat):Int) - Int.toNat 1) (ws.map rS)=ws.map rS:=List.take_of_length_le (by rw [List.length_map];simp only [Int.toNat_natCast];show ws.length≤ws.length+1 - 1;omega);have l0:(0:Int) < ((ws.length+1:Nat):Int):=(by omega);have l1:(1:Int)≤((ws.length+1:Nat):Int):=(by omega);rw [hr] at hv;simp only [_root_.Option.getD_some,_root_.Option.isSome_some] at hv;have hwr:IntKind.i64.wrap (placeW w0+1)=1:=(by rw [hk];exact wrI (by omega) (by omega));have d1:decide ((1:Int) < st+1)=false:=decide_eq_false (by omega);have d2:decide ((1:Int) < 1)=false:=rfl;have d3:decide ((1:Int)=3)=false:=rfl;have d4:decide ((1:Int) < 3)=true:=rfl;have q1:decide ((1:Int)=1)=true:=rfl;have q2:decide ((1:Int)=2)=false:=rfl;have q3:decide ((1:Int)=3)=false:=rfl;have q4:decide ((1:Int)=4)=false:=rfl;have d5:decide ((3:Int)=3)=true:=rfl;have hsm:((p.Sequence.map (Option.td.d true)).length+1)*(24+1)≤2 ^ 40:=(by rw [List.length_map];omega);simp -implicitDefEqProofs (disch:=omega) only [go_sem,↓reduceIte ,lw,e0,l0,l1,Int.le_refl,Int.reduceLE,Int.reduceLT,drp];refine call_B (hv) (by simp -implicitDefEqProofs (disch:=omega) only [go_sem,↓reduceIte,deep,TD.rows,immLL_rI,immLL_rB8,immLL_rS,immLL_rBo,immLL_rII,immLL_rIIt,tk,lw,e0,l0,l1,Int.le_refl,Int.reduceLE,Int.reduceLT,drp];exact rfl) ?_;simp -implicitDefEqProofs (disch:=omega) only [go_sem,↓reduceIte ,tk,lw,e0,l0,l1,Int.le_refl,Int.reduceLE,Int.reduceLT,drp];refine call_B (v_place w0) (by simp -implicitDefEqProofs (disch:=omega) only [go_sem,↓reduceIte,deep,TD.rows,immLL_rI,immLL_rB8,immLL_rS,immLL_rBo,immLL_rII,immLL_rIIt,lw,e0,l0,l1,Int.le_refl,Int.reduceLE,Int.reduceLT,drp,hwr,d1,d2,d3,d4,q1,q2,q3,q4,List.length_map,d5,rI,Int.cast_ofNat_Int,Int.reduceToNat,Int.le_refl,Int.reduceLE,Int.reduceLT];exact rfl) ?_;simp -implicitDefEqProofs (disch:=omega) only [go_sem,↓reduceIte ,lw,e0,l0,l1,Int.le_refl,Int.reduceLE,Int.reduceLT,drp,hwr,d1,d2,d3,d4,q1,q2,q3,q4,List.length_map,d5,rI,Int.cast_ofNat_Int,Int.reduceToNat,Int.le_refl,Int.reduceLE,Int.reduceLT];exact ⟨by first | omega | (rw [List.length_map];omega),by rw [List.map_append];rfl⟩
set_option maxHeartbeats 4000000 in
theorem v_pl_1 (p:Proof) (st:Int) (w0:ByteArray) (ws:List ByteArray) (hw:∀ x,x∈ws→x.size≤1048576) (hl:ws.length≤1048577) (a b c:Int) (hr:rdNums ws=some [a,b,c]) (h0:0≤st) (h3:st≤3) (hk:placeW w0=1) (hlt:st≤1) (hf:p.Other.length≤1048577) :
    ContractX Tryz.prog TabG 67 0 [.undef,.sl false 1 ((w0::ws).map rS),.v (.int .i64 (st+1))] (Proof.td.d true p) (.tup [.v (.int .i64 2),.v (.bool true)]) (Proof.td.d true { p with Other:=p.Other++[⟨⟨a,b⟩,c⟩] }):=by
  rw [Proof.td_d,Proof.td_d];refine law_spec_l35ProofLine ?_;intro bb;unfold code_spec_l35ProofLine;obtain ⟨L,hwd,hLe⟩:∃ L,WdL L w0 ws∧(w0::ws).map rS=L:=⟨_,wdl_map _ _,rfl⟩
  have hv:=v_l17Numbers ws hw hl;rw [hLe];have lw:=hwd.len;have e0:=hwd.hd;have drp:=hwd.drp;have tk:List.take (Int.toNat ((ws.length+1:Nat):Int) - Int.toNat 1) (ws.map rS)=ws.map rS:=List.take_of_length_le (by rw [List.length_map];simp only [Int.toNat_natCast];show ws.length≤ws.length+1 - 1;omega);have l0:(0:Int) < ((ws.length+1:Nat):Int):=(by omega);have l1:(1:Int)≤((ws.length+1:Nat):Int):=(by omega);rw [hr] at hv;simp only [_root_.Option.getD_some,_root_.Option.isSome_some] at hv;have hwr:IntKind.i64.wrap (placeW w0+1)=2:=(by rw [hk];exact wrI (by omega) (by omega));have d1:decide ((2:Int) < st+1)=false:=decide_eq_false (by omega);have d2:decide ((2:Int) < 1)=false:=rfl;have d3:decide ((2:Int)=3)=false:=rfl;have d4:decide ((2:Int) < 3)=true:=rfl;have q1:decide ((2:Int)=1)=false:=rfl;have q2:decide ((2:Int)=2)=true:=rfl;have q3:decide ((2:Int)=3)=false:=rfl;have q4:decide ((2:Int)=4)=false:=rfl;have d5:decide ((3:Int)=3)=true:=rfl;have hsm:((p.Other.map (Option.td.d true)).length+1)*(24+1)≤2 ^ 40:=(by rw [List.length_map];omega);simp -implicitDefEqProofs (disch:=omega) only [go_sem,↓reduceIte ,lw,e0,l0,l1,Int.le_refl,Int.reduceLE,Int.reduceLT,drp];refine call_B (hv) (by simp -implicitDefEqProofs (disch:=omega) only [go_sem,↓reduceIte,deep,TD.rows,immLL_rI,immLL_rB8,immLL_rS,immLL_rBo,immLL_rII,immLL_rIIt,tk,lw,e0,l0,l1,Int.le_refl,Int.reduceLE,Int.reduceLT,drp];exact rfl) ?_;simp -implicitDefEqProofs (disch:=omega) only [go_sem,↓reduceIte ,tk,lw,e0,l0,l1,Int.le_refl,Int.reduceLE,Int.reduceLT,drp];refine call_B (v_place w0) (by simp -implicitDefEqProofs (disch:=omega) only [go_sem,↓reduceIte,deep,TD.rows,immLL_rI,immLL_rB8,immLL_rS,immLL_rBo,immLL_rII,immLL_rIIt,lw,e0,l0,l1,Int.le_refl,Int.reduceLE,Int.reduceLT,drp,hwr,d1,d2,d3,d4,q1,q2,q3,q4,List.length_map,d5,rI,Int.cast_ofNat_Int,Int.reduceToNat,Int.le_refl,Int.reduceLE,Int.reduceLT];exact rfl) ?_;simp -implicitDefEqProofs (disch:=omega) only [go_sem,↓reduceIte ,lw,e0,l0,l1,Int.le_refl,Int.reduceLE,Int.reduceLT,drp,hwr,d1,d2,d3,d4,q1,q2,q3,q4,List.length_map,d5,rI,Int.cast_ofNat_Int,Int.reduceToNat,Int.le_refl,Int.reduceLE,Int.reduceLT];exact ⟨by first | omega | (rw [List.length_map];omega),by rw [List.map_append];rfl⟩
end Go.Proofs.YtjkbngjiagknkaaGreatDoor
