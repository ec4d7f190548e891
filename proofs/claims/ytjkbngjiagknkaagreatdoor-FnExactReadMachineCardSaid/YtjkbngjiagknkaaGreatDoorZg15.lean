/- Laws that the proof stands on. -/
import Derived.Test.YtjkbngjiagknkaaGreatDoorZg11
import Derived.Test.YtjkbngjiagknkaaGreatDoorZg12
import Derived.Test.YtjkbngjiagknkaaGreatDoorZVTab
import Derived.Test.YtjkbngjiagknkaaGreatDoorZg13
import Derived.Test.YtjkbngjiagknkaaGreatDoorProg
import Derived.Test.YtjkbngjiagknkaaGreatDoorZg14
set_option linter.all false
namespace Go.Proofs.YtjkbngjiagknkaaGreatDoor
open Go.RowKit Go.V
attribute [local go_sem] List.getElem?_cons_succ List.getElem?_cons_zero List.set_cons_succ List.set_cons_zero List.map_cons List.map_nil List.length_cons List.length_nil List.all_cons List.all_nil List.drop_succ_cons List.drop_zero List.take_succ_cons List.take_zero List.flatMap_cons List.flatMap_nil List.cons_append List.nil_append List.append_nil List.headD_cons Value.oneCell' Bool.and_true Bool.true_and Bool.or_false Bool.false_or Bool.and_self Bool.not_true Bool.not_false and_true true_and beq_self_eq_true Bool.false_eq_true if_true if_false Nat.zero_add Nat.reduceAdd Nat.reduceMul Nat.reduceLeDiff Nat.le_refl Option.isSome_some Option.isSome_none not_true_eq_false not_false_eq_true ne_eq reduceCtorEq List.reverse_nil bne_self_eq_false Nat.reduceEqDiff List.isPrefixOf Bool.not_eq_true Bool.and_false Bool.false_and Bool.true_or Bool.or_true decide_true decide_false Nat.reduceBEq Nat.reduceBNe List.replicate_succ List.replicate_zero exists_eq_left' exists_eq_left Option.some.injEq or_false or_true true_or false_or Option.map_some Option.map_none mB Nat.reduceMod Nat.reduceDiv
set_option maxRecDepth 100000
def bytS (l:List UInt8):ByteArray:=⟨l.toArray⟩
def decS (n:Int):ByteArray:=⟨(itoaS n).toArray⟩
def digs (u:Nat):List UInt8:=if u=0 then [] else Lib.decDigits u
theorem digs_step {u:Nat} (h:u≠0):digs u=digs (u / 10)++[UInt8.ofNat (48+u % 10)]:=by
  unfold digs;rw [if_neg h,Lib.decDigits];by_cases h9:u < 10
  · rw [dif_pos h9,if_pos (by omega),Nat.mod_eq_of_lt h9];rfl
  · rw [dif_neg h9,if_neg (by omega)]
theorem digs_len {u k:Nat} (h:u < 10 ^ k):(digs u).length≤k:=by
  induction k generalizing u with
  | zero => have:u=0:=by omega
            subst this;simp [digs]
  | succ k ih =>
    by_cases h0:u=0
    · subst h0;simp [digs]
    · rw [digs_step h0,List.length_append];have:=ih (u:=u / 10) (by rw [Nat.pow_succ] at h;omega);simp only [List.length_cons,List.length_nil];omega
def code_impl_Decimal:VCode:=(.seq (.ops [
  ⟨(some 2),none,(.asg (.const (.string ⟨⟨[]⟩⟩)))⟩]) (.seq (.ops [
  ⟨(some 3),none,(.mv (.tmp 0))⟩,
  ⟨(some 4),none,(.callX 118 [(.tmp 3),(.const (.int .i64 10))])⟩,
  ⟨(some 2),none,(.asg (.tmp 4))⟩]) .ret))
theorem law_impl_Decimal {a0 d:D} (h:code_impl_Decimal.wp (CT Tryz.prog TabG) (endQ [(.t 2)] d) [a0,.undef,.undef,.undef,.undef]):Contract Tryz.prog TabG 103 [a0] d :=
  contract_of (pt:=0) tabG Tryz.func103 (fun us W=>by kernel_rfl) (c:=Tryz.f103.body.getD .skip) (ms:=[]) (ms':=[]) (by kernel_rfl) (by kernel_rfl) (by kernel_rfl) h
theorem v_Decimal_impl (n:Int) (hn:InK .i64 n):Contract Tryz.prog TabG 103 [.v (.int .i64 n)] (.v (.string (decS n))):=by refine law_impl_Decimal ?_;unfold code_impl_Decimal;simp -implicitDefEqProofs (disch:=omega) only [go_sem,↓reduceIte];refine call_B (v_FormatInt n hn) (by simp -implicitDefEqProofs (disch:=omega) only [go_sem,↓reduceIte,deep,TD.rows,immLL_rI,immLL_rB8,immLL_rS,immLL_rBo,immLL_rII,immLL_rIIt];exact rfl) ?_;simp -implicitDefEqProofs (disch:=omega) only [go_sem,↓reduceIte];rfl
def code_spec_Decimal:VCode:=(.seq (.ops [
  ⟨(some 2),none,(.asg (.const (.string ⟨⟨[]⟩⟩)))⟩]) (.seq (.ops [
  ⟨(some 3),none,(.asg (.const (.string ⟨⟨[]⟩⟩)))⟩]) (.seq (.ops [
  ⟨(some 6),none,(.mv (.tmp 0))⟩,
  ⟨(some 4),none,(.asg (.tmp 6))⟩]) (.seq (.block 0 (.loop (mB 31 2147483622) (.seq (.seq (.ops [
  ⟨(some 7),none,(.mv (.tmp 4))⟩,
  ⟨(some 8),none,(.bin .neq (.tmp 7) (.const (.int .i64 0)))⟩]) (.cond (.tmp 8) .skip (.exit 0))) (.block 1 (.seq (.ops [
  ⟨(some 9),none,(.mv (.tmp 4))⟩,
  ⟨(some 10),none,(.bin .rem (.tmp 9) (.const (.int .i64 10)))⟩,
  ⟨(some 5),none,(.asg (.tmp 10))⟩]) (.seq (.seq (.ops [
  ⟨(some 11),none,(.mv (.tmp 5))⟩,
  ⟨(some 12),none,(.bin .lss (.tmp 11) (.const (.int .i64 0)))⟩]) (.cond (.tmp 12) (.ops [
  ⟨(some 13),none,(.mv (.tmp 5))⟩,
  ⟨(some 14),none,(.un .neg (.tmp 13))⟩,
  ⟨(some 5),none,(.asg (.tmp 14))⟩]) .skip)) (.seq (.ops [
  ⟨(some 15),none,(.mv (.tmp 5))⟩,
  ⟨(some 16),none,(.bin .add (.const (.int .i64 48)) (.tmp 15))⟩,
  ⟨(some 17),none,(.conv .u8 (.tmp 16))⟩,
  ⟨(some 18),none,(.bsl 1 [(.tmp 17)])⟩,
  ⟨(some 19),none,(.b2s (.tmp 18))⟩,
  ⟨(some 20),none,(.mv (.tmp 3))⟩,
  ⟨(some 21),none,(.bin .add (.tmp 19) (.tmp 20))⟩,
  ⟨(some 3),none,(.asg (.tmp 21))⟩]) (.ops [
  ⟨(some 22),none,(.mv (.tmp 4))⟩,
  ⟨(some 23),none,(.bin .quo (.tmp 22) (.const (.int .i64 10)))⟩,
  ⟨(some 4),none,(.asg (.tmp 23))⟩])))))))) (.seq (.seq (.ops [
  ⟨(some 24),none,(.mv (.tmp 0))⟩,
  ⟨(some 25),none,(.bin .eql (.tmp 24) (.const (.int .i64 0)))⟩]) (.cond (.tmp 25) (.seq (.ops [
  ⟨(some 2),none,(.asg (.const (.string ⟨⟨[48]⟩⟩)))⟩]) .ret) .skip)) (.seq (.seq (.ops [
  ⟨(some 26),none,(.mv (.tmp 0))⟩,
  ⟨(some 27),none,(.bin .lss (.tmp 26) (.const (.int .i64 0)))⟩]) (.cond (.tmp 27) (.seq (.ops [
  ⟨(some 28),none,(.mv (.tmp 3))⟩,
  ⟨(some 29),none,(.bin .add (.const (.string ⟨⟨[45]⟩⟩)) (.tmp 28))⟩,
  ⟨(some 2),none,(.asg (.tmp 29))⟩]) .ret) .skip)) (.seq (.ops [
  ⟨(some 30),none,(.mv (.tmp 3))⟩,
  ⟨(some 2),none,(.asg (.tmp 30))⟩]) .ret)))))))
theorem law_spec_Decimal {a0 d:D} (h:code_spec_Decimal.wp (CT Tryz.prog TabG) (endQ [(.t 2)] d) [a0,.undef,.undef,.undef,.undef,.undef,.undef,.undef,.undef,.undef,.undef,.undef,.undef,.undef,.undef,.undef,.undef,.undef,.undef,.undef,.undef,.undef,.undef,.undef,.undef,.undef,.undef,.undef,.undef,.undef,.undef]):Contract Tryz.prog TabG 108 [a0] d :=
  contract_of (pt:=0) tabG Tryz.func108 (fun us W=>by kernel_rfl) (c:=Tryz.f108.body.getD .skip) (ms:=[(mB 31 2147483622)]) (ms':=[]) (by kernel_rfl) (by kernel_rfl) (by kernel_rfl) h
theorem v_Decimal_spec (n:Int) (hn:InK .i64 n):Contract Tryz.prog TabG 108 [.v (.int .i64 n)] (.v (.string (decS n))):=by
  refine law_spec_Decimal ?_;unfold code_spec_Decimal;have hn' : -9223372036854775808≤n∧n≤9223372036854775807:=by have:=hn;unfold InK at this;omega
  simp -implicitDefEqProofs (disch:=omega) only [go_sem,↓reduceIte];refine loop_ov (by simp -implicitDefEqProofs (disch:=omega) only [go_sem,↓reduceIte];exact rfl) (fun z:Int × List UInt8=>[(3,.v (.string (bytS z.2))),(4,.v (.int .i64 z.1))]) (fun _=>by simp only [ovr_nil,ovr_cons,List.set_cons_zero,List.set_cons_succ];exact rfl) (fun z:Int × List UInt8=>(-9223372036854775808≤z.1∧z.1≤9223372036854775807)∧digs z.1.natAbs++z.2=digs n.natAbs) (fun z:Int × List UInt8=>z.1.natAbs) ((n,[])) (nleA) (?_) ?_
  · exact ⟨hn',by simp⟩
  rintro ⟨m,l⟩ ⟨h1,h2⟩;simp only at h1 h2;have hlen:(digs n.natAbs).length≤20:=digs_len (k:=20) (by omega);have hl:l.length≤20:=by rw [← h2,List.length_append] at hlen;omega
  have hsz:(bytS l).size=l.length:=rfl;by_cases hm:m=0
  · subst hm;have e2:l=digs n.natAbs:=h2;by_cases h0:n=0
    · subst h0;simp -implicitDefEqProofs (disch:=omega) only [go_sem,↓reduceIte ,decide_true];have e:itoaS 0=[48]:=by simp [itoaS,Lib.itoa,Lib.decDigits]
      unfold decS;rw [e]
    · have hd:digs n.natAbs=Lib.decDigits n.natAbs:=(by unfold digs;rw [if_neg (by omega)]);by_cases h3:n < 0
      · simp -implicitDefEqProofs (disch:=omega) only [go_sem,↓reduceIte ,h0,h3,decide_true,decide_false];refine ⟨by rw [hsz];unfold maxLen;show 1+l.length≤_;omega,?_⟩;have e:itoaS n=45::l:=by unfold itoaS Lib.itoa;rw [if_pos h3,e2,hd]
        unfold decS bytS;rw [e];exact congrArg Value.string (by apply ByteArray.ext;simp)
      · simp -implicitDefEqProofs (disch:=omega) only [go_sem,↓reduceIte ,h0,h3,decide_true,decide_false];have e:itoaS n=l:=by unfold itoaS Lib.itoa;rw [if_neg h3,e2,hd];congr 1;omega
        unfold decS bytS;rw [e]
  · obtain ⟨k,hk⟩:∃ k,k=m.natAbs % 10:=⟨_,rfl⟩
    have hk9:k≤9:=(by omega);have hm0:m.natAbs≠0:=(by omega);have hS:strI [((48+k:Nat):Int)]++bytS l=bytS (UInt8.ofNat (48+k)::l):=(by apply ByteArray.ext;simp only [strI,bytS,List.map_cons,List.map_nil,Int.toNat_natCast];simp);have hq:(m.tdiv 10).natAbs=m.natAbs / 10:=(by rw [Int.natAbs_tdiv];rfl);have hnext:digs (m.natAbs / 10)++UInt8.ofNat (48+k)::l=digs n.natAbs:=(by rw [← h2,digs_step hm0,← hk,List.append_assoc];rfl);have hb10 : -9223372036854775808≤m.tdiv 10∧m.tdiv 10≤9223372036854775807:=(by have:(m.tdiv 10).natAbs≤922337203685477580:=(by rw [hq];omega);omega);have hsz1:(strI [((48+k:Nat):Int)]).size=1:=rfl;have w1:IntKind.i64.wrap (48+(k:Int))=((48+k:Nat):Int):=(by rw [wrI (by omega) (by omega)];omega);have w2:IntKind.u8.wrap ((48+k:Nat):Int)=((48+k:Nat):Int):=(by simp [IntKind.wrap,IntKind.signed,IntKind.bits];omega);by_cases h3:m < 0
    · have hd:m.tmod 10 = -(k:Int):=by
        obtain ⟨u,rfl⟩:∃ u:Nat,m = -(u:Int):=⟨m.natAbs,by omega⟩
        rw [Int.neg_tmod];have:((u:Int)).tmod 10=((u % 10:Nat):Int):=rfl;rw [this,hk];congr 2;omega
      have w3:IntKind.i64.wrap (-(-(k:Int)))=(k:Int):=(by rw [wrI (by omega) (by omega)];omega);have w4:IntKind.i64.wrap (0 - (-(k:Int)))=(k:Int):=(by rw [wrI (by omega) (by omega)];omega);simp -implicitDefEqProofs (disch:=omega) only [go_sem,↓reduceIte ,hm,hd];refine ⟨by omega,cond_split ?_ ?_⟩ <;> intro hlt
      · simp -implicitDefEqProofs (disch:=omega) only [go_sem,↓reduceIte ,hm,hd,w1,w2,w3,w4];refine ⟨[((48+k:Nat):Int)],rfl,?_,by omega,(m.tdiv 10,UInt8.ofNat (48+k)::l),?_,⟨hb10,?_⟩,?_⟩
        · rw [hsz1,hsz];unfold maxLen;omega
        · simp only;rw [hq];omega
        · simp only;rw [hq];exact hnext
        · rw [hS,wrI hb10.1 hb10.2];(try simp -implicitDefEqProofs only [nleL_cc,nleL_nn,nle_self,nle_boxs,nle_aggs,nle_nils,and_self,and_true,true_and]) <;> repeat' (first | exact nle_of_eq rfl | exact nle_nil | apply And.intro | apply nle_sl | apply nleLL_cons | apply nleL_cons | exact nleL_nil | exact nleLL_nil | apply nle_box | apply nle_agg)
      · have e0 : -(k:Int)=(k:Int):=(by have:=hlt;simp at this;omega);simp -implicitDefEqProofs (disch:=omega) only [go_sem,↓reduceIte ,hm,hd,e0,w1,w2];refine ⟨[((48+k:Nat):Int)],rfl,?_,by omega,(m.tdiv 10,UInt8.ofNat (48+k)::l),?_,⟨hb10,?_⟩,?_⟩
        · rw [hsz1,hsz];unfold maxLen;omega
        · simp only;rw [hq];omega
        · simp only;rw [hq];exact hnext
        · rw [hS,wrI hb10.1 hb10.2];(try simp -implicitDefEqProofs only [nleL_cc,nleL_nn,nle_self,nle_boxs,nle_aggs,nle_nils,and_self,and_true,true_and]) <;> repeat' (first | exact nle_of_eq rfl | exact nle_nil | apply And.intro | apply nle_sl | apply nleLL_cons | apply nleL_cons | exact nleL_nil | exact nleLL_nil | apply nle_box | apply nle_agg)
    · have hd:m.tmod 10=(k:Int):=by
        obtain ⟨u,rfl⟩:∃ u:Nat,m=(u:Int):=⟨m.natAbs,by omega⟩
        have:((u:Int)).tmod 10=((u % 10:Nat):Int):=rfl;rw [this,hk];congr 2
      have hk0:decide ((k:Int) < 0)=false:=(by rw [decide_eq_false_iff_not];omega);simp -implicitDefEqProofs (disch:=omega) only [go_sem,↓reduceIte ,hm,hd,hk0];refine ⟨by omega,?_⟩;simp -implicitDefEqProofs (disch:=omega) only [go_sem,↓reduceIte ,hm,hd,w1,w2];refine ⟨[((48+k:Nat):Int)],rfl,?_,by omega,(m.tdiv 10,UInt8.ofNat (48+k)::l),?_,⟨hb10,?_⟩,?_⟩
      · rw [hsz1,hsz];unfold maxLen;omega
      · simp only;rw [hq];omega
      · simp only;rw [hq];exact hnext
      · rw [hS,wrI hb10.1 hb10.2];(try simp -implicitDefEqProofs only [nleL_cc,nleL_nn,nle_self,nle_boxs,nle_aggs,nle_nils,and_self,and_true,true_and]) <;> repeat' (first | exact nle_of_eq rfl | exact nle_nil | apply And.intro | apply nle_sl | apply nleLL_cons | apply nleL_cons | exact nleL_nil | exact nleLL_nil | apply nle_box | apply nle_agg)
def code_slices_IndexFunc_impl_Move_impl_Move:VCode:=(.seq (.ops [
  ⟨(some 4),none,(.asg (.const (.int .i64 0)))⟩]) (.seq (.seq (.ops [
  ⟨(some 6),none,(.mv (.tmp 0))⟩,
  ⟨(some 7),none,(.len (.tmp 6))⟩,
  ⟨(some 8),none,(.mv (.const (.int .i64 0)))⟩]) (.block 0 (.loop (mB 19 523900) (.seq (.ops [
  ⟨(some 9),none,(.bin .lss (.tmp 8) (.tmp 7))⟩]) (.seq (.cond (.tmp 9) .skip (.exit 0)) (.seq (.block 1 (.seq (.ops [
  ⟨(some 10),none,(.mv (.tmp 8))⟩,
  ⟨(some 5),none,(.asg (.tmp 10))⟩]) (.seq (.ops [
  ⟨(some 11),none,(.mv (.tmp 1))⟩,
  ⟨(some 12),none,(.mv (.tmp 0))⟩,
  ⟨(some 13),none,(.mv (.tmp 5))⟩,
  ⟨(some 14),none,(.ia 5 (.tmp 12) (.tmp 13))⟩,
  ⟨(some 15),none,(.load 5 true (.tmp 14))⟩,
  ⟨(some 16),none,(.callvX (.tmp 11) [(.tmp 15)])⟩]) (.cond (.tmp 16) (.seq (.ops [
  ⟨(some 17),none,(.mv (.tmp 5))⟩,
  ⟨(some 4),none,(.asg (.tmp 17))⟩]) .ret) .skip)))) (.ops [
  ⟨(some 18),none,(.bin .add (.tmp 8) (.const (.int .i64 1)))⟩,
  ⟨(some 8),none,(.mv (.tmp 18))⟩]))))))) (.seq (.ops [
  ⟨(some 4),none,(.asg (.const (.int .i64 (-1))))⟩]) .ret)))
theorem law_slices_IndexFunc_impl_Move_impl_Move {a0 a1 d:D} (h:code_slices_IndexFunc_impl_Move_impl_Move.wp (CT Tryz.prog TabG) (endQ [(.t 4)] d) [a0,a1,.undef,.undef,.undef,.undef,.undef,.undef,.undef,.undef,.undef,.undef,.undef,.undef,.undef,.undef,.undef,.undef,.undef]):Contract Tryz.prog TabG 90 [a0,a1] d :=
  contract_of (pt:=0) tabG Tryz.func90 (fun us W=>by kernel_rfl) (c:=Tryz.f90.body.getD .skip) (ms:=[(mB 19 523900)]) (ms':=[]) (by kernel_rfl) (by kernel_rfl) (by kernel_rfl) h
theorem v_IndexFunc_Move (f:FuncId) (caps:List D) (hd:CapsOK caps) (xs:List Move) (p:Move→Bool) (hc:∀ x,x∈xs→Contract Tryz.prog TabG f (.agg (Move.td.d false x)::caps) (.v (.bool (p x)))) (hn:xs.length≤1099511627776) :
    Contract Tryz.prog TabG 90 [.sl false 5 (xs.map (Move.td.d false)),.fn f [] caps] (.v (.int .i64 (vIdx p xs))):=by
  refine law_slices_IndexFunc_impl_Move_impl_Move ?_;unfold code_slices_IndexFunc_impl_Move_impl_Move;simp -implicitDefEqProofs (disch:=omega) only [go_sem,↓reduceIte ,hd.owny,hd.pr];refine loop_st (fun i:Nat=>[.sl false 5 (xs.map (Move.td.d false)),.fn f [] caps,.undef,.undef,.undef,.undef,.undef,.v (.int .i64 (xs.map (Move.td.d false)).length),.v (.int .i64 i),.undef,.undef,.undef,.undef,.undef,.undef,.undef,.undef,.undef,.undef]) (fun i=>i≤xs.length∧∀ j (hj:j < xs.length),j < i→p xs[j]=false) (fun i=>xs.length - i) 0 ?_ ⟨Nat.zero_le _,fun j _ h=>absurd h (Nat.not_lt_zero _)⟩ ?_
  · simp -implicitDefEqProofs (disch:=omega) only [go_sem,↓reduceIte ,hd.owny,hd.pr]
    (try simp -implicitDefEqProofs only [nleL_cc,nleL_nn,nle_self,nle_boxs,nle_aggs,nle_nils,and_self,and_true,true_and]) <;> repeat' (first | exact nle_of_eq rfl | exact nle_nil | apply And.intro | apply nle_sl | apply nleLL_cons | apply nleL_cons | exact nleL_nil | exact nleLL_nil | apply nle_box | apply nle_agg)
  rintro i ⟨hi,ha⟩;simp -implicitDefEqProofs (disch:=omega) only [go_sem,↓reduceIte ,List.length_map,Int.toNat_natCast,Int.ofNat_lt,Int.natCast_nonneg,List.getElem?_map,Option.map_some,hd.owny,hd.pr];refine cond_split ?_ ?_ <;> intro hlt
  · have hlt:i < xs.length:=(by simpa using hlt);have hx:=List.getElem?_eq_getElem hlt;simp -implicitDefEqProofs (disch:=omega) only [go_sem,↓reduceIte ,List.length_map,Int.toNat_natCast,Int.ofNat_lt,Int.natCast_nonneg,List.getElem?_map,Option.map_some,hlt,hx,Move.td_d,hd.owny,hd.pr];have hcx:=hc _ (List.getElem_mem hlt);rw [Move.td_d] at hcx;refine callv_le (f:=f) (first:=[]) (caps:=caps) ?_ hcx ?_ (.inl rfl) ?_
    · simp -implicitDefEqProofs (disch:=omega) only [go_sem,↓reduceIte ,hd.owny]
    · refine leL_of_eq ?_;simp only [List.nil_append,List.cons_append,List.map_cons,List.map_nil,hd.d8,List.map_append];simp only [deep,raw,List.getElem?_cons_succ,List.getElem?_cons_zero,List.map_cons,List.map_nil,TD.rows,immLL_rI,immLL_rB8,immLL_rS,immLL_rBo]
    simp -implicitDefEqProofs (disch:=omega) only [go_sem,↓reduceIte ,hd.owny,hd.pr];refine cond_split ?_ ?_ <;> intro hp
    · simp -implicitDefEqProofs (disch:=omega) only [go_sem,↓reduceIte ,hd.owny,hd.pr];rw [vIdx_hit p xs i hlt ha hp]
    · simp -implicitDefEqProofs (disch:=omega) only [go_sem,↓reduceIte ,wrN,hd.owny,hd.pr];refine ⟨i+1,by omega,⟨hlt,fun j hj h=>?_⟩,nleA⟩;rcases Nat.lt_or_ge j i with h' | h'
      · exact ha j hj h'
      · have:j=i:=(by omega);subst this;exact hp
  · have hlt:¬ i < xs.length:=(by simpa using hlt);simp -implicitDefEqProofs (disch:=omega) only [go_sem,↓reduceIte];rw [vIdx_miss p xs (fun j hj=>ha j hj (by omega))]
def code_slices_ContainsFunc_impl_Move_impl_Move:VCode:=(.seq (.ops [
  ⟨(some 4),none,(.asg (.const (.bool false)))⟩]) (.seq (.ops [
  ⟨(some 5),none,(.mv (.tmp 0))⟩,
  ⟨(some 6),none,(.mv (.tmp 1))⟩,
  ⟨(some 7),none,(.callX 90 [(.tmp 5),(.tmp 6)])⟩,
  ⟨(some 8),none,(.bin .geq (.tmp 7) (.const (.int .i64 0)))⟩,
  ⟨(some 4),none,(.asg (.tmp 8))⟩]) .ret))
theorem law_slices_ContainsFunc_impl_Move_impl_Move {a0 a1 d:D} (h:code_slices_ContainsFunc_impl_Move_impl_Move.wp (CT Tryz.prog TabG) (endQ [(.t 4)] d) [a0,a1,.undef,.undef,.undef,.undef,.undef,.undef,.undef]):Contract Tryz.prog TabG 61 [a0,a1] d :=
  contract_of (pt:=0) tabG Tryz.func61 (fun us W=>by kernel_rfl) (c:=Tryz.f61.body.getD .skip) (ms:=[]) (ms':=[]) (by kernel_rfl) (by kernel_rfl) (by kernel_rfl) h
theorem v_ContainsFunc_Move (f:FuncId) (caps:List D) (hd:CapsOK caps) (xs:List Move) (p:Move→Bool) (hc:∀ x,x∈xs→Contract Tryz.prog TabG f (.agg (Move.td.d false x)::caps) (.v (.bool (p x)))) (hn:xs.length≤1099511627776) :
    Contract Tryz.prog TabG 61 [.sl false 5 (xs.map (Move.td.d false)),.fn f [] caps] (.v (.bool (xs.any p))):=by
  refine law_slices_ContainsFunc_impl_Move_impl_Move ?_;unfold code_slices_ContainsFunc_impl_Move_impl_Move;simp -implicitDefEqProofs (disch:=omega) only [go_sem,↓reduceIte ,hd.owny,hd.pr];refine call_le (v_IndexFunc_Move f caps hd xs p hc hn) ?_ (.inl rfl) ?_
  · refine leL_of_eq ?_;simp only [List.map_cons,List.map_nil,deep,raw,List.getElem?_cons_succ,List.getElem?_cons_zero,TD.rows,immLL_rI,immLL_rB8,immLL_rS,immLL_rBo,hd.owny,hd.pr,hd.d7]
    try rfl
  simp -implicitDefEqProofs (disch:=omega) only [go_sem,↓reduceIte];exact congrArg Value.bool (vIdx_any p xs)
def code_spec_l17Find:VCode:=(.seq (.ops [
  ⟨(some 6),none,(.asg (.const (.int .i64 0)))⟩]) (.seq (.seq (.ops [
  ⟨(some 7),none,(.asg (.const (.int .i64 0)))⟩]) (.block 0 (.loop (mB 40 1099511627640) (.seq (.seq (.ops [
  ⟨(some 8),none,(.mv (.tmp 7))⟩,
  ⟨(some 9),none,(.mv (.tmp 0))⟩,
  ⟨(some 10),none,(.nilc (.tmp 9))⟩,
  ⟨(some 11),none,(.fa 2 (.tmp 10))⟩,
  ⟨(some 12),none,(.load 1 false (.tmp 11))⟩,
  ⟨(some 13),none,(.len (.tmp 12))⟩,
  ⟨(some 14),none,(.bin .lss (.tmp 8) (.tmp 13))⟩]) (.cond (.tmp 14) .skip (.exit 0))) (.seq (.block 1 (.seq (.ops [
  ⟨(some 17),none,(.mv (.tmp 0))⟩,
  ⟨(some 18),none,(.nilc (.tmp 17))⟩,
  ⟨(some 19),none,(.fa 2 (.tmp 18))⟩,
  ⟨(some 20),none,(.load 1 false (.tmp 19))⟩,
  ⟨(some 21),none,(.mv (.tmp 7))⟩,
  ⟨(some 22),none,(.ia 5 (.tmp 20) (.tmp 21))⟩,
  ⟨(some 23),none,(.fa 0 (.tmp 22))⟩,
  ⟨(some 24),none,(.load 1 false (.tmp 23))⟩,
  ⟨(some 25),none,(.mv (.tmp 1))⟩,
  ⟨(some 26),none,(.bin .eql (.tmp 24) (.tmp 25))⟩,
  ⟨(some 27),none,(.mv (.tmp 26))⟩,
  ⟨(some 28),(some (27,true)),(.mv (.tmp 0))⟩,
  ⟨(some 29),(some (27,true)),(.nilc (.tmp 28))⟩,
  ⟨(some 30),(some (27,true)),(.fa 2 (.tmp 29))⟩,
  ⟨(some 31),(some (27,true)),(.load 1 false (.tmp 30))⟩,
  ⟨(some 32),(some (27,true)),(.mv (.tmp 7))⟩,
  ⟨(some 33),(some (27,true)),(.ia 5 (.tmp 31) (.tmp 32))⟩,
  ⟨(some 34),(some (27,true)),(.fa 1 (.tmp 33))⟩,
  ⟨(some 35),(some (27,true)),(.load 1 false (.tmp 34))⟩,
  ⟨(some 36),(some (27,true)),(.mv (.tmp 2))⟩,
  ⟨(some 37),(some (27,true)),(.bin .eql (.tmp 35) (.tmp 36))⟩,
  ⟨(some 38),none,(.pick (.tmp 27) (.tmp 37) (.const (.bool false)))⟩]) (.cond (.tmp 38) (.seq (.ops [
  ⟨(some 39),none,(.mv (.tmp 7))⟩,
  ⟨(some 6),none,(.asg (.tmp 39))⟩]) .ret) .skip))) (.ops [
  ⟨(some 15),none,(.mv (.tmp 7))⟩,
  ⟨(some 16),none,(.bin .add (.tmp 15) (.const (.int .i64 1)))⟩,
  ⟨(some 7),none,(.asg (.tmp 16))⟩])))))) (.seq (.ops [
  ⟨(some 6),none,(.asg (.const (.int .i64 (-1))))⟩]) .ret)))
theorem law_spec_l17Find {a0 a1 a2 d:D} (h:code_spec_l17Find.wp (CT Tryz.prog TabG) (endQ [(.t 6)] d) [a0,a1,a2,.undef,.undef,.undef,.undef,.undef,.undef,.undef,.undef,.undef,.undef,.undef,.undef,.undef,.undef,.undef,.undef,.undef,.undef,.undef,.undef,.undef,.undef,.undef,.undef,.undef,.undef,.undef,.undef,.undef,.undef,.undef,.undef,.undef,.undef,.undef,.undef,.undef]):Contract Tryz.prog TabG 56 [a0,a1,a2] d :=
  contract_of (pt:=0) tabG Tryz.func56 (fun us W=>by kernel_rfl) (c:=Tryz.f56.body.getD .skip) (ms:=[(mB 40 1099511627640)]) (ms':=[]) (by kernel_rfl) (by kernel_rfl) (by kernel_rfl) h
set_option maxHeartbeats 1000000 in
theorem v_l17Find (m:Machine) (s r:Int) (hn:m.Moves.length≤1048576):Contract Tryz.prog TabG 56 [.iptr (Machine.td.d false m) 0,.v (.int .i64 s),.v (.int .i64 r)] (.v (.int .i64 (findM m.Moves s r))):=by
  rw [Machine.td_d];refine law_spec_l17Find ?_;unfold code_spec_l17Find;simp -implicitDefEqProofs (disch:=omega) only [go_sem,↓reduceIte];refine loop_ov (by simp -implicitDefEqProofs (disch:=omega) only [go_sem,↓reduceIte];exact rfl) (fun i:Nat=>[(7,.v (.int .i64 (i:Nat)))]) (fun _=>by simp only [ovr_nil,ovr_cons,List.set_cons_zero,List.set_cons_succ];exact rfl) (fun i:Nat=>i≤m.Moves.length∧∀ j (hj:j < m.Moves.length),j < i→isKey s r m.Moves[j]=false) (fun i:Nat=>m.Moves.length - i) (0) (nleA) (?_) ?_
  · exact ⟨Nat.zero_le _,fun j hj h=>by omega⟩
  rintro i ⟨hi,ha⟩;simp -implicitDefEqProofs (disch:=omega) only [go_sem,↓reduceIte ,List.length_map,Int.toNat_natCast,Int.ofNat_lt,Int.natCast_nonneg,List.getElem?_map,Option.map_some];refine cond_split ?_ ?_ <;> intro hlt
  · have hlt:i < m.Moves.length:=(by simpa using hlt);have e1:=List.getElem?_eq_getElem hlt;have hgo:isKey s r m.Moves[i]=false→∀ j (hj:j < m.Moves.length),j < i+1→isKey s r m.Moves[j]=false:=fun hk j hj h=>by
      rcases Nat.lt_or_ge j i with h' | h'
      · exact ha j hj h'
      · have:j=i:=(by omega);subst this;exact hk
    simp -implicitDefEqProofs (disch:=omega) only [go_sem,↓reduceIte ,List.length_map,Int.toNat_natCast,Int.ofNat_lt,Int.natCast_nonneg,List.getElem?_map,Option.map_some,hlt,e1,Move.td_d];by_cases h1:m.Moves[i].State=s
    · have d1:decide (m.Moves[i].State=s)=true:=decide_eq_true h1;by_cases h2:m.Moves[i].Read=r
      · have d2:decide (m.Moves[i].Read=r)=true:=decide_eq_true h2;have hf:findM m.Moves s r=(i:Int):=vIdx_hit _ _ i hlt ha (by unfold isKey;rw [d1,d2];rfl);simp -implicitDefEqProofs (disch:=omega) only [go_sem,↓reduceIte ,List.length_map,Int.toNat_natCast,Int.ofNat_lt,Int.natCast_nonneg,List.getElem?_map,Option.map_some,hlt,e1,Move.td_d,d1,d2,hf]
      · have d2:decide (m.Moves[i].Read=r)=false:=decide_eq_false h2;simp -implicitDefEqProofs (disch:=omega) only [go_sem,↓reduceIte ,List.length_map,Int.toNat_natCast,Int.ofNat_lt,Int.natCast_nonneg,List.getElem?_map,Option.map_some,hlt,e1,Move.td_d,d1,d2,wrN];exact ⟨i+1,by omega,⟨hlt,hgo (by unfold isKey;rw [d1,d2];rfl)⟩,nleA⟩
    · have d1:decide (m.Moves[i].State=s)=false:=decide_eq_false h1;simp -implicitDefEqProofs (disch:=omega) only [go_sem,↓reduceIte ,List.length_map,Int.toNat_natCast,Int.ofNat_lt,Int.natCast_nonneg,List.getElem?_map,Option.map_some,hlt,e1,Move.td_d,d1,wrN];exact ⟨i+1,by omega,⟨hlt,hgo (by unfold isKey;rw [d1];rfl)⟩,nleA⟩
  · obtain rfl:i=m.Moves.length:=(by have:¬ i < m.Moves.length:=(by simpa using hlt);omega);have hf:findM m.Moves s r = -1:=vIdx_miss _ _ (fun j hj=>ha j hj hj);simp -implicitDefEqProofs (disch:=omega) only [go_sem,↓reduceIte ,hf]
def code_spec_l17Ok:VCode:=(.seq (.ops [
  ⟨(some 2),none,(.asg (.const (.bool false)))⟩]) (.seq (.seq (.ops [
  ⟨(some 5),none,(.mv (.tmp 0))⟩,
  ⟨(some 6),none,(.nilc (.tmp 5))⟩,
  ⟨(some 7),none,(.fa 0 (.tmp 6))⟩,
  ⟨(some 8),none,(.load 1 false (.tmp 7))⟩,
  ⟨(some 9),none,(.callX 55 [(.tmp 8),(.const (.int .i64 1)),(.const (.int .i64 5))])⟩,
  ⟨(some 10),none,(.un .not (.tmp 9))⟩,
  ⟨(some 11),none,(.mv (.tmp 10))⟩,
  ⟨(some 12),(some (11,false)),(.mv (.tmp 0))⟩,
  ⟨(some 13),(some (11,false)),(.nilc (.tmp 12))⟩,
  ⟨(some 14),(some (11,false)),(.fa 1 (.tmp 13))⟩,
  ⟨(some 15),(some (11,false)),(.load 1 false (.tmp 14))⟩,
  ⟨(some 16),(some (11,false)),(.callX 55 [(.tmp 15),(.const (.int .i64 1)),(.const (.int .i64 4))])⟩,
  ⟨(some 17),(some (11,false)),(.un .not (.tmp 16))⟩,
  ⟨(some 18),none,(.pick (.tmp 11) (.const (.bool true)) (.tmp 17))⟩,
  ⟨(some 19),none,(.mv (.tmp 18))⟩,
  ⟨(some 20),(some (19,false)),(.mv (.tmp 0))⟩,
  ⟨(some 21),(some (19,false)),(.nilc (.tmp 20))⟩,
  ⟨(some 22),(some (19,false)),(.fa 2 (.tmp 21))⟩,
  ⟨(some 23),(some (19,false)),(.load 1 false (.tmp 22))⟩,
  ⟨(some 24),(some (19,false)),(.len (.tmp 23))⟩,
  ⟨(some 25),(some (19,false)),(.bin .gtr (.tmp 24) (.const (.int .i64 20)))⟩,
  ⟨(some 26),none,(.pick (.tmp 19) (.const (.bool true)) (.tmp 25))⟩]) (.cond (.tmp 26) (.seq (.ops [
  ⟨(some 2),none,(.asg (.const (.bool false)))⟩]) .ret) .skip)) (.seq (.seq (.ops [
  ⟨(some 3),none,(.asg (.const (.int .i64 0)))⟩]) (.block 0 (.loop (mB 105 40564819207303340847894502572022) (.seq (.seq (.ops [
  ⟨(some 27),none,(.mv (.tmp 3))⟩,
  ⟨(some 28),none,(.mv (.tmp 0))⟩,
  ⟨(some 29),none,(.nilc (.tmp 28))⟩,
  ⟨(some 30),none,(.fa 2 (.tmp 29))⟩,
  ⟨(some 31),none,(.load 1 false (.tmp 30))⟩,
  ⟨(some 32),none,(.len (.tmp 31))⟩,
  ⟨(some 33),none,(.bin .lss (.tmp 27) (.tmp 32))⟩]) (.cond (.tmp 33) .skip (.exit 0))) (.seq (.block 1 (.seq (.ops [
  ⟨(some 36),none,(.mv (.tmp 0))⟩,
  ⟨(some 37),none,(.nilc (.tmp 36))⟩,
  ⟨(some 38),none,(.fa 2 (.tmp 37))⟩,
  ⟨(some 39),none,(.load 1 false (.tmp 38))⟩,
  ⟨(some 40),none,(.mv (.tmp 3))⟩,
  ⟨(some 41),none,(.ia 5 (.tmp 39) (.tmp 40))⟩,
  ⟨(some 42),none,(.load 5 true (.tmp 41))⟩,
  ⟨(some 4),none,(.alloc [(.int .i64 0),(.int .i64 0),(.int .i64 0),(.int .i64 0),(.int .i64 0)])⟩,
  ⟨none,none,(.store 5 (.tmp 4) (.tmp 42))⟩]) (.seq (.draw (mB 103 10141204801825835203177532620800) [] [⟨0,(mB 103 10141204801825835203177532620800),[],⟨(some 43),none,(.fa 0 (.tmp 4))⟩⟩,⟨1,(mB 103 10141204801825835194381439598592),[],⟨(some 44),none,(.load 1 false (.tmp 43))⟩⟩,⟨2,(mB 103 10141204801825835203177532620800),[],⟨(some 45),none,(.mv (.tmp 0))⟩⟩,⟨3,(mB 103 10141204801825835167993160531968),[],⟨(some 46),none,(.nilc (.tmp 45))⟩⟩,⟨4,(mB 103 10141204801825835097624416354304),[],⟨(some 47),none,(.fa 0 (.tmp 46))⟩⟩,⟨5,(mB 103 10141204801825834956886927998976),[],⟨(some 48),none,(.load 1 false (.tmp 47))⟩⟩,⟨6,(mB 103 10141204801825834675411951288320),[],⟨(some 49),none,(.bin .sub (.tmp 48) (.const (.int .i64 1)))⟩⟩,⟨7,(mB 103 10141204801825834086073718800384),[],⟨(some 50),none,(.call 55 [(.tmp 44),(.const (.int .i64 0)),(.tmp 49)])⟩⟩,⟨8,(mB 103 10141204801825832960173811957760),[],⟨(some 51),none,(.un .not (.tmp 50))⟩⟩,⟨9,(mB 103 10141204801825830708373998272512),[],⟨(some 52),none,(.mv (.tmp 51))⟩⟩,⟨10,(mB 103 10141204801825826204774370902016),[],⟨(some 53),(some (52,false)),(.fa 1 (.tmp 4))⟩⟩,⟨11,(mB 103 10141204801825817197575116161024),[],⟨(some 54),(some (52,false)),(.load 1 false (.tmp 53))⟩⟩,⟨12,(mB 103 10141204801825826204774370902016),[],⟨(some 55),(some (52,false)),(.mv (.tmp 0))⟩⟩,⟨13,(mB 103 10141204801825790175977351938048),[],⟨(some 56),(some (52,false)),(.nilc (.tmp 55))⟩⟩,⟨14,(mB 103 10141204801825718118383314010112),[],⟨(some 57),(some (52,false)),(.fa 1 (.tmp 56))⟩⟩,⟨15,(mB 103 10141204801825574003195238154240),[],⟨(some 58),(some (52,false)),(.load 1 false (.tmp 57))⟩⟩,⟨16,(mB 103 10141204801825285772819086442496),[],⟨(some 59),(some (52,false)),(.bin .sub (.tmp 58) (.const (.int .i64 1)))⟩⟩,⟨17,(mB 103 10141204801824682290469018796032),[],⟨(some 60),(some (52,false)),(.call 55 [(.tmp 54),(.const (.int .i64 0)),(.tmp 59)])⟩⟩,⟨18,(mB 103 10141204801823529368964411949056),[],⟨(some 61),(some (52,false)),(.un .not (.tmp 60))⟩⟩,⟨19,(mB 103 10141204801821223525955198255104),[],⟨(some 62),none,(.pick (.tmp 52) (.const (.bool true)) (.tmp 61))⟩⟩,⟨20,(mB 103 10141204801816611839936770867200),[],⟨(some 63),none,(.mv (.tmp 62))⟩⟩,⟨21,(mB 103 10141204801807388467899916091392),[],⟨(some 64),(some (63,false)),(.fa 2 (.tmp 4))⟩⟩,⟨22,(mB 103 10141204801788941723826206539776),[],⟨(some 65),(some (63,false)),(.load 1 false (.tmp 64))⟩⟩,⟨23,(mB 103 10141204801807388467899916091392),[],⟨(some 66),(some (63,false)),(.mv (.tmp 0))⟩⟩,⟨24,(mB 103 10141204801733601491605077884928),[],⟨(some 67),(some (63,false)),(.nilc (.tmp 66))⟩⟩,⟨25,(mB 103 10141204801586027539015401472000),[],⟨(some 68),(some (63,false)),(.fa 1 (.tmp 67))⟩⟩,⟨26,(mB 103 10141204801290879633836048646144),[],⟨(some 69),(some (63,false)),(.load 1 false (.tmp 68))⟩⟩,⟨27,(mB 103 10141204800700583823477342994432),[],⟨(some 70),(some (63,false)),(.bin .sub (.tmp 69) (.const (.int .i64 1)))⟩⟩,⟨28,(mB 103 10141204799464651970538803036160),[],⟨(some 71),(some (63,false)),(.call 55 [(.tmp 65),(.const (.int .i64 0)),(.tmp 70)])⟩⟩,⟨29,(mB 103 10141204797103468729103980429312),[],⟨(some 72),(some (63,false)),(.un .not (.tmp 71))⟩⟩,⟨30,(mB 103 10141204792381102246234335215616),[],⟨(some 73),none,(.pick (.tmp 63) (.const (.bool true)) (.tmp 72))⟩⟩,⟨31,(mB 103 10141204782936369280495044788224),[],⟨(some 74),none,(.mv (.tmp 73))⟩⟩,⟨32,(mB 103 10141204764046903349016463933440),[],⟨(some 75),(some (74,false)),(.fa 4 (.tmp 4))⟩⟩,⟨33,(mB 103 10141204726267971486059302223872),[],⟨(some 76),(some (74,false)),(.load 1 false (.tmp 75))⟩⟩,⟨34,(mB 103 10141204764046903349016463933440),[],⟨(some 77),(some (74,false)),(.mv (.tmp 0))⟩⟩,⟨35,(mB 103 10141204612931175897187817095168),[],⟨(some 78),(some (74,false)),(.nilc (.tmp 77))⟩⟩,⟨36,(mB 103 10141204310699720993530523418624),[],⟨(some 79),(some (74,false)),(.fa 0 (.tmp 78))⟩⟩,⟨37,(mB 103 10141203706236811186215936065536),[],⟨(some 80),(some (74,false)),(.load 1 false (.tmp 79))⟩⟩,⟨38,(mB 103 10141202497310991571586761359360),[],⟨(some 81),(some (74,false)),(.bin .sub (.tmp 80) (.const (.int .i64 1)))⟩⟩,⟨39,(mB 103 10141199966122556753456926818304),[],⟨(some 82),(some (74,false)),(.call 55 [(.tmp 76),(.const (.int .i64 0)),(.tmp 81)])⟩⟩,⟨40,(mB 103 10141195130419278294940227993600),[],⟨(some 83),(some (74,false)),(.un .not (.tmp 82))⟩⟩,⟨41,(mB 103 10141185459012721377906830344192),[],⟨(some 84),none,(.pick (.tmp 74) (.const (.bool true)) (.tmp 83))⟩⟩,⟨42,(mB 103 10141166116199607543840035045376),[],⟨(some 85),none,(.mv (.tmp 84))⟩⟩,⟨43,(mB 103 10141127430573379875706444447744),[],⟨(some 86),(some (85,false)),(.fa 3 (.tmp 4))⟩⟩,⟨44,(mB 103 10141050059320924539439263252480),[],⟨(some 87),(some (85,false)),(.load 1 false (.tmp 86))⟩⟩,⟨45,(mB 103 10140895316816013866904900861952),[],⟨(some 88),(some (85,false)),(.bin .neq (.tmp 87) (.const (.int .i64 1)))⟩⟩,⟨46,(mB 103 10140585831806192521836176080896),[],⟨(some 89),(some (85,false)),(.mv (.tmp 88))⟩⟩,⟨47,(mB 103 10139966861786549831698726518784),[],⟨(some 90),(some (89,true)),(.fa 3 (.tmp 4))⟩⟩,⟨48,(mB 103 10138728921747264451423827394560),[],⟨(some 91),(some (89,true)),(.load 1 false (.tmp 90))⟩⟩,⟨49,(mB 103 10136253041668693690874029146112),[],⟨(some 92),(some (89,true)),(.bin .neq (.tmp 91) (.const (.int .i64 3)))⟩⟩,⟨50,(mB 103 10131301281511552169774432649216),[],⟨(some 93),(some (85,false)),(.pick (.tmp 89) (.tmp 92) (.const (.bool false)))⟩⟩,⟨51,(mB 103 10121397761197269127575239655424),[],⟨(some 94),none,(.pick (.tmp 85) (.const (.bool true)) (.tmp 93))⟩⟩,⟨52,(mB 103 10101590720568703043176853667840),[],⟨(some 95),none,(.mv (.tmp 94))⟩⟩,⟨53,(mB 103 10061976639311570874380081692672),[],⟨(some 96),(some (95,false)),(.mv (.tmp 0))⟩⟩,⟨54,(mB 103 10061976639311570874380081692672),[],⟨(some 97),(some (95,false)),(.fa 0 (.tmp 4))⟩⟩,⟨55,(mB 103 9903520314283042199192993792000),[],⟨(some 98),(some (95,false)),(.load 1 false (.tmp 97))⟩⟩,⟨56,(mB 103 10061976639311570874380081692672),[],⟨(some 99),(some (95,false)),(.fa 1 (.tmp 4))⟩⟩,⟨57,(mB 103 9428151339197456173631730089984),[],⟨(some 100),(some (95,false)),(.load 1 false (.tmp 99))⟩⟩,⟨58,(mB 103 7605903601369376408980219232256),[],⟨(some 101),(some (95,false)),(.call 56 [(.tmp 96),(.tmp 98),(.tmp 100)])⟩⟩,⟨59,(mB 103 10061976639311570874380081692672),[],⟨(some 102),(some (95,false)),(.mv (.tmp 3))⟩⟩] [⟨(some 103),(some (95,false)),(.bin .neq (.tmp 101) (.tmp 102))⟩,⟨(some 104),none,(.pick (.tmp 95) (.const (.bool true)) (.tmp 103))⟩]) (.cond (.tmp 104) (.seq (.ops [
  ⟨(some 2),none,(.asg (.const (.bool false)))⟩]) .ret) .skip)))) (.ops [
  ⟨(some 34),none,(.mv (.tmp 3))⟩,
  ⟨(some 35),none,(.bin .add (.tmp 34) (.const (.int .i64 1)))⟩,
  ⟨(some 3),none,(.asg (.tmp 35))⟩])))))) (.seq (.ops [
  ⟨(some 2),none,(.asg (.const (.bool true)))⟩]) .ret))))
theorem law_spec_l17Ok {a0 d:D} (h:code_spec_l17Ok.wp (CT Tryz.prog TabG) (endQ [(.t 2)] d) [a0,.undef,.undef,.undef,.undef,.undef,.undef,.undef,.undef,.undef,.undef,.undef,.undef,.undef,.undef,.undef,.undef,.undef,.undef,.undef,.undef,.undef,.undef,.undef,.undef,.undef,.undef,.undef,.undef,.undef,.undef,.undef,.undef,.undef,.undef,.undef,.undef,.undef,.undef,.undef,.undef,.undef,.undef,.undef,.undef,.undef,.undef,.undef,.undef,.undef,.undef,.undef,.undef,.undef,.undef,.undef,.undef,.undef,.undef,.undef,.undef,.undef,.undef,.undef,.undef,.undef,.undef,.undef,.undef,.undef,.undef,.undef,.undef,.undef,.undef,.undef,.undef,.undef,.undef,.undef,.undef,.undef,.undef,.undef,.undef,.undef,.undef,.undef,.undef,.undef,.undef,.undef,.undef,.undef,.undef,.undef,.undef,.undef,.undef,.undef,.undef,.undef,.undef,.undef,.undef]):Contract Tryz.prog TabG 24 [a0] d :=
  contract_of (pt:=0) tabG Tryz.func24 (fun us W=>by kernel_rfl) (c:=Tryz.f24.body.getD .skip) (ms:=[(mB 105 40564819207303340847894502572022)]) (ms':=[]) (by kernel_rfl) (by kernel_rfl) (by kernel_rfl) h
set_option maxHeartbeats 4000000 in
theorem v_l17Ok (m:Machine) (hn:m.Moves.length≤1048576):Contract Tryz.prog TabG 24 [.iptr (Machine.td.d false m) 0] (.v (.bool (okMach m))):=by
  rw [Machine.td_d];refine law_spec_l17Ok ?_;unfold code_spec_l17Ok;simp -implicitDefEqProofs (disch:=omega) only [go_sem,↓reduceIte];cases c1:inR 1 5 m.States with
  | false=>have hr:okMach m=false:=(by unfold okMach;rw [c1];rfl);refine call_B (v_l00In _ _ _) (by simp -implicitDefEqProofs (disch:=omega) only [go_sem,↓reduceIte,deep,TD.rows,immLL_rI,immLL_rB8,immLL_rS,immLL_rBo,immLL_rII,immLL_rIIt,c1,hr];exact rfl) ?_;simp -implicitDefEqProofs (disch:=omega) only [go_sem,↓reduceIte ,c1,hr]
  | true =>
  cases c2:inR 1 4 m.Symbols with
  | false=>have hr:okMach m=false:=(by unfold okMach;rw [c1,c2];rfl);refine call_B (v_l00In _ _ _) (by simp -implicitDefEqProofs (disch:=omega) only [go_sem,↓reduceIte,deep,TD.rows,immLL_rI,immLL_rB8,immLL_rS,immLL_rBo,immLL_rII,immLL_rIIt,c1];exact rfl) ?_;simp -implicitDefEqProofs (disch:=omega) only [go_sem,↓reduceIte ,c1];refine call_B (v_l00In _ _ _) (by simp -implicitDefEqProofs (disch:=omega) only [go_sem,↓reduceIte,deep,TD.rows,immLL_rI,immLL_rB8,immLL_rS,immLL_rBo,immLL_rII,immLL_rIIt,c2,hr];exact rfl) ?_;simp -implicitDefEqProofs (disch:=omega) only [go_sem,↓reduceIte ,c2,hr]
  | true =>
  by_cases c3:m.Moves.length≤20
  · have d3:decide ((20:Int) < (m.Moves.length:Int))=false:=(by rw [decide_eq_false_iff_not];omega);have hb:okMach m=(m.Moves.all (mvOk m)&&ndM m.Moves):=(by unfold okMach;rw [c1,c2,decide_eq_true c3];rfl);obtain ⟨s1,s2⟩:=inR_iff.1 c1;obtain ⟨s3,s4⟩:=inR_iff.1 c2;have w1:IntKind.i64.wrap (m.States - 1)=m.States - 1:=wrI (by omega) (by omega);have w2:IntKind.i64.wrap (m.Symbols - 1)=m.Symbols - 1:=wrI (by omega) (by omega);refine call_B (v_l00In _ _ _) (by simp -implicitDefEqProofs (disch:=omega) only [go_sem,↓reduceIte,deep,TD.rows,immLL_rI,immLL_rB8,immLL_rS,immLL_rBo,immLL_rII,immLL_rIIt,c1];exact rfl) ?_;simp -implicitDefEqProofs (disch:=omega) only [go_sem,↓reduceIte ,c1];refine call_B (v_l00In _ _ _) (by simp -implicitDefEqProofs (disch:=omega) only [go_sem,↓reduceIte,deep,TD.rows,immLL_rI,immLL_rB8,immLL_rS,immLL_rBo,immLL_rII,immLL_rIIt,c2,List.length_map,d3];exact rfl) ?_;simp -implicitDefEqProofs (disch:=omega) only [go_sem,↓reduceIte ,c2,List.length_map,d3];refine loop_ov (by simp -implicitDefEqProofs (disch:=omega) only [go_sem,↓reduceIte];exact rfl) (fun i:Nat=>[(3,.v (.int .i64 (i:Nat)))]) (fun _=>by simp only [ovr_nil,ovr_cons,List.set_cons_zero,List.set_cons_succ];exact rfl) (fun i:Nat=>i≤m.Moves.length∧∀ j (hj:j < m.Moves.length),j < i→mvOk m m.Moves[j]=true∧findM m.Moves m.Moves[j].State m.Moves[j].Read=(j:Int)) (fun i:Nat=>m.Moves.length - i) (0) (nleA) (?_) ?_
    · exact ⟨Nat.zero_le _,fun j hj h=>by omega⟩
    rintro i ⟨hi,ha⟩;simp -implicitDefEqProofs (disch:=omega) only [go_sem,↓reduceIte ,List.length_map,Int.toNat_natCast,Int.ofNat_lt,Int.natCast_nonneg,List.getElem?_map,Option.map_some];refine cond_split ?_ ?_ <;> intro hlt
    · have hlt:i < m.Moves.length:=(by simpa using hlt);have e1:=List.getElem?_eq_getElem hlt;have hno:mvOk m m.Moves[i]=false→okMach m=false:=fun h=>by rw [hb,show m.Moves.all (mvOk m)=false from List.all_eq_false.2 ⟨_,List.getElem_mem hlt,by simp [h]⟩];rfl
      generalize hv:m.Moves[i]=v at *;have hu:mvOk m v=(inR 0 (m.States - 1) v.State&&(inR 0 (m.States - 1) v.Next&&(inR 0 (m.Symbols - 1) v.Read&&(inR 0 (m.Symbols - 1) v.Write&&(decide (v.Dir=1)||decide (v.Dir=3)))))):=rfl;simp -implicitDefEqProofs (disch:=omega) only [go_sem,↓reduceIte ,List.length_map,Int.toNat_natCast,Int.ofNat_lt,Int.natCast_nonneg,List.getElem?_map,Option.map_some,hlt,e1,Move.td_d,w1,w2];cases b1:inR 0 (m.States - 1) v.State with
      | false=>refine call_NB (v_l00In _ _ _) (by simp -implicitDefEqProofs (disch:=omega) only [go_sem,↓reduceIte,deep,TD.rows,immLL_rI,immLL_rB8,immLL_rS,immLL_rBo,immLL_rII,immLL_rIIt,b1,hno (by rw [hu,b1];rfl)];exact rfl) ?_;simp -implicitDefEqProofs (disch:=omega) only [go_sem,↓reduceIte ,b1,hno (by rw [hu,b1];rfl)]
      | true =>
      cases b2:inR 0 (m.Symbols - 1) v.Read with
      | false=>refine call_NB (v_l00In _ _ _) (by simp -implicitDefEqProofs (disch:=omega) only [go_sem,↓reduceIte,deep,TD.rows,immLL_rI,immLL_rB8,immLL_rS,immLL_rBo,immLL_rII,immLL_rIIt,b1,w2];exact rfl) ?_;simp -implicitDefEqProofs (disch:=omega) only [go_sem,↓reduceIte ,b1,w2];refine call_NB (v_l00In _ _ _) (by simp -implicitDefEqProofs (disch:=omega) only [go_sem,↓reduceIte,deep,TD.rows,immLL_rI,immLL_rB8,immLL_rS,immLL_rBo,immLL_rII,immLL_rIIt,b2,hno (by rw [hu,b1,b2];simp)];exact rfl) ?_;simp -implicitDefEqProofs (disch:=omega) only [go_sem,↓reduceIte ,b2,hno (by rw [hu,b1,b2];simp)]
      | true =>
      cases b3:inR 0 (m.Symbols - 1) v.Write with
      | false=>refine call_NB (v_l00In _ _ _) (by simp -implicitDefEqProofs (disch:=omega) only [go_sem,↓reduceIte,deep,TD.rows,immLL_rI,immLL_rB8,immLL_rS,immLL_rBo,immLL_rII,immLL_rIIt,b1,w2];exact rfl) ?_;simp -implicitDefEqProofs (disch:=omega) only [go_sem,↓reduceIte ,b1,w2];refine call_NB (v_l00In _ _ _) (by simp -implicitDefEqProofs (disch:=omega) only [go_sem,↓reduceIte,deep,TD.rows,immLL_rI,immLL_rB8,immLL_rS,immLL_rBo,immLL_rII,immLL_rIIt,b2,w2];exact rfl) ?_;simp -implicitDefEqProofs (disch:=omega) only [go_sem,↓reduceIte ,b2,w2];refine call_NB (v_l00In _ _ _) (by simp -implicitDefEqProofs (disch:=omega) only [go_sem,↓reduceIte,deep,TD.rows,immLL_rI,immLL_rB8,immLL_rS,immLL_rBo,immLL_rII,immLL_rIIt,b3,hno (by rw [hu,b1,b2,b3];simp)];exact rfl) ?_;simp -implicitDefEqProofs (disch:=omega) only [go_sem,↓reduceIte ,b3,hno (by rw [hu,b1,b2,b3];simp)]
      | true =>
      cases b4:inR 0 (m.States - 1) v.Next with
      | false=>refine call_NB (v_l00In _ _ _) (by simp -implicitDefEqProofs (disch:=omega) only [go_sem,↓reduceIte,deep,TD.rows,immLL_rI,immLL_rB8,immLL_rS,immLL_rBo,immLL_rII,immLL_rIIt,b1,w2];exact rfl) ?_;simp -implicitDefEqProofs (disch:=omega) only [go_sem,↓reduceIte ,b1,w2];refine call_NB (v_l00In _ _ _) (by simp -implicitDefEqProofs (disch:=omega) only [go_sem,↓reduceIte,deep,TD.rows,immLL_rI,immLL_rB8,immLL_rS,immLL_rBo,immLL_rII,immLL_rIIt,b2,w2];exact rfl) ?_;simp -implicitDefEqProofs (disch:=omega) only [go_sem,↓reduceIte ,b2,w2];refine call_NB (v_l00In _ _ _) (by simp -implicitDefEqProofs (disch:=omega) only [go_sem,↓reduceIte,deep,TD.rows,immLL_rI,immLL_rB8,immLL_rS,immLL_rBo,immLL_rII,immLL_rIIt,b3,w1];exact rfl) ?_;simp -implicitDefEqProofs (disch:=omega) only [go_sem,↓reduceIte ,b3,w1];refine call_NB (v_l00In _ _ _) (by simp -implicitDefEqProofs (disch:=omega) only [go_sem,↓reduceIte,deep,TD.rows,immLL_rI,immLL_rB8,immLL_rS,immLL_rBo,immLL_rII,immLL_rIIt,b4,hno (by rw [hu,b1,b2,b3,b4];simp)];exact rfl) ?_;simp -implicitDefEqProofs (disch:=omega) only [go_sem,↓reduceIte ,b4,hno (by rw [hu,b1,b2,b3,b4];simp)]
      | true =>
      have hok:∀ x y,decide (v.Dir=1)=x→decide (v.Dir=3)=y→mvOk m v=(x||y):=fun x y hx hy=>by rw [hu,b1,b2,b3,b4,hx,hy];rfl
      have hfin:mvOk m v=true→findM m.Moves v.State v.Read=(i:Int)→∀ j (hj:j < m.Moves.length),j < i+1→mvOk m m.Moves[j]=true∧findM m.Moves m.Moves[j].State m.Moves[j].Read=(j:Int):=fun h1 h2 j hj h=>by
        rcases Nat.lt_or_ge j i with h' | h'
        · exact ha j hj h'
        · have:j=i:=(by omega);subst this;rw [hv];exact ⟨h1,h2⟩
      have hno2:¬ findM m.Moves v.State v.Read=(i:Int)→okMach m=false:=fun h=>by have:ndM m.Moves=false:=(by unfold ndM;rw [decide_eq_false_iff_not,nd_find];intro h2;have:=h2 i hlt;rw [hv] at this;exact h this);rw [hb,this,Bool.and_false]
      by_cases hD:v.Dir=1
      · have d1:decide (v.Dir=1)=true:=decide_eq_true hD;by_cases hf:findM m.Moves v.State v.Read=(i:Int)
        · have df:decide (findM m.Moves v.State v.Read=(i:Int))=true:=decide_eq_true hf;refine call_NB (v_l00In _ _ _) (by simp -implicitDefEqProofs (disch:=omega) only [go_sem,↓reduceIte,deep,TD.rows,immLL_rI,immLL_rB8,immLL_rS,immLL_rBo,immLL_rII,immLL_rIIt,b1,w2];exact rfl) ?_;simp -implicitDefEqProofs (disch:=omega) only [go_sem,↓reduceIte ,b1,w2];refine call_NB (v_l00In _ _ _) (by simp -implicitDefEqProofs (disch:=omega) only [go_sem,↓reduceIte,deep,TD.rows,immLL_rI,immLL_rB8,immLL_rS,immLL_rBo,immLL_rII,immLL_rIIt,b2,w2];exact rfl) ?_;simp -implicitDefEqProofs (disch:=omega) only [go_sem,↓reduceIte ,b2,w2];refine call_NB (v_l00In _ _ _) (by simp -implicitDefEqProofs (disch:=omega) only [go_sem,↓reduceIte,deep,TD.rows,immLL_rI,immLL_rB8,immLL_rS,immLL_rBo,immLL_rII,immLL_rIIt,b3,w1];exact rfl) ?_;simp -implicitDefEqProofs (disch:=omega) only [go_sem,↓reduceIte ,b3,w1];refine call_NB (v_l00In _ _ _) (by simp -implicitDefEqProofs (disch:=omega) only [go_sem,↓reduceIte,deep,TD.rows,immLL_rI,immLL_rB8,immLL_rS,immLL_rBo,immLL_rII,immLL_rIIt,b4,d1];exact rfl) ?_;simp -implicitDefEqProofs (disch:=omega) only [go_sem,↓reduceIte ,b4,d1];refine call_NB (v_l17Find m _ _ hn) (by simp -implicitDefEqProofs (disch:=omega) only [go_sem,↓reduceIte,deep,TD.rows,immLL_rI,immLL_rB8,immLL_rS,immLL_rBo,immLL_rII,immLL_rIIt,df,wrN];exact rfl) ?_;simp -implicitDefEqProofs (disch:=omega) only [go_sem,↓reduceIte ,df,wrN];exact ⟨i+1,by omega,⟨hlt,hfin (by rw [hok true _ d1 rfl];rfl) hf⟩,nleA⟩
        · have df:decide (findM m.Moves v.State v.Read=(i:Int))=false:=decide_eq_false hf;refine call_NB (v_l00In _ _ _) (by simp -implicitDefEqProofs (disch:=omega) only [go_sem,↓reduceIte,deep,TD.rows,immLL_rI,immLL_rB8,immLL_rS,immLL_rBo,immLL_rII,immLL_rIIt,b1,w2];exact rfl) ?_;simp -implicitDefEqProofs (disch:=omega) only [go_sem,↓reduceIte ,b1,w2];refine call_NB (v_l00In _ _ _) (by simp -implicitDefEqProofs (disch:=omega) only [go_sem,↓reduceIte,deep,TD.rows,immLL_rI,immLL_rB8,immLL_rS,immLL_rBo,immLL_rII,immLL_rIIt,b2,w2];exact rfl) ?_;simp -implicitDefEqProofs (disch:=omega) only [go_sem,↓reduceIte ,b2,w2];refine call_NB (v_l00In _ _ _) (by simp -implicitDefEqProofs (disch:=omega) only [go_sem,↓reduceIte,deep,TD.rows,immLL_rI,immLL_rB8,immLL_rS,immLL_rBo,immLL_rII,immLL_rIIt,b3,w1];exact rfl) ?_;simp -implicitDefEqProofs (disch:=omega) only [go_sem,↓reduceIte ,b3,w1];refine call_NB (v_l00In _ _ _) (by simp -implicitDefEqProofs (disch:=omega) only [go_sem,↓reduceIte,deep,TD.rows,immLL_rI,immLL_rB8,immLL_rS,immLL_rBo,immLL_rII,immLL_rIIt,b4,d1];exact rfl) ?_;simp -implicitDefEqProofs (disch:=omega) only [go_sem,↓reduceIte ,b4,d1];refine call_NB (v_l17Find m _ _ hn) (by simp -implicitDefEqProofs (disch:=omega) only [go_sem,↓reduceIte,deep,TD.rows,immLL_rI,immLL_rB8,immLL_rS,immLL_rBo,immLL_rII,immLL_rIIt,df,hno2 hf];exact rfl) ?_;simp -implicitDefEqProofs (disch:=omega) only [go_sem,↓reduceIte ,df,hno2 hf]
      · have d1:decide (v.Dir=1)=false:=decide_eq_false hD;by_cases hD3:v.Dir=3
        · have d3':decide (v.Dir=3)=true:=decide_eq_true hD3;by_cases hf:findM m.Moves v.State v.Read=(i:Int)
          · have df:decide (findM m.Moves v.State v.Read=(i:Int))=true:=decide_eq_true hf;refine call_NB (v_l00In _ _ _) (by simp -implicitDefEqProofs (disch:=omega) only [go_sem,↓reduceIte,deep,TD.rows,immLL_rI,immLL_rB8,immLL_rS,immLL_rBo,immLL_rII,immLL_rIIt,b1,w2];exact rfl) ?_;simp -implicitDefEqProofs (disch:=omega) only [go_sem,↓reduceIte ,b1,w2];refine call_NB (v_l00In _ _ _) (by simp -implicitDefEqProofs (disch:=omega) only [go_sem,↓reduceIte,deep,TD.rows,immLL_rI,immLL_rB8,immLL_rS,immLL_rBo,immLL_rII,immLL_rIIt,b2,w2];exact rfl) ?_;simp -implicitDefEqProofs (disch:=omega) only [go_sem,↓reduceIte ,b2,w2];refine call_NB (v_l00In _ _ _) (by simp -implicitDefEqProofs (disch:=omega) only [go_sem,↓reduceIte,deep,TD.rows,immLL_rI,immLL_rB8,immLL_rS,immLL_rBo,immLL_rII,immLL_rIIt,b3,w1];exact rfl) ?_;simp -implicitDefEqProofs (disch:=omega) only [go_sem,↓reduceIte ,b3,w1];refine call_NB (v_l00In _ _ _) (by simp -implicitDefEqProofs (disch:=omega) only [go_sem,↓reduceIte,deep,TD.rows,immLL_rI,immLL_rB8,immLL_rS,immLL_rBo,immLL_rII,immLL_rIIt,b4,d1,d3'];exact rfl) ?_;simp -implicitDefEqProofs (disch:=omega) only [go_sem,↓reduceIte ,b4,d1,d3'];refine call_NB (v_l17Find m _ _ hn) (by simp -implicitDefEqProofs (disch:=omega) only [go_sem,↓reduceIte,deep,TD.rows,immLL_rI,immLL_rB8,immLL_rS,immLL_rBo,immLL_rII,immLL_rIIt,df,wrN];exact rfl) ?_;simp -implicitDefEqProofs (disch:=omega) only [go_sem,↓reduceIte ,df,wrN];exact ⟨i+1,by omega,⟨hlt,hfin (by rw [hok false true d1 d3'];rfl) hf⟩,nleA⟩
          · have df:decide (findM m.Moves v.State v.Read=(i:Int))=false:=decide_eq_false hf;refine call_NB (v_l00In _ _ _) (by simp -implicitDefEqProofs (disch:=omega) only [go_sem,↓reduceIte,deep,TD.rows,immLL_rI,immLL_rB8,immLL_rS,immLL_rBo,immLL_rII,immLL_rIIt,b1,w2];exact rfl) ?_;simp -implicitDefEqProofs (disch:=omega) only [go_sem,↓reduceIte ,b1,w2];refine call_NB (v_l00In _ _ _) (by simp -implicitDefEqProofs (disch:=omega) only [go_sem,↓reduceIte,deep,TD.rows,immLL_rI,immLL_rB8,immLL_rS,immLL_rBo,immLL_rII,immLL_rIIt,b2,w2];exact rfl) ?_;simp -implicitDefEqProofs (disch:=omega) only [go_sem,↓reduceIte ,b2,w2];refine call_NB (v_l00In _ _ _) (by simp -implicitDefEqProofs (disch:=omega) only [go_sem,↓reduceIte,deep,TD.rows,immLL_rI,immLL_rB8,immLL_rS,immLL_rBo,immLL_rII,immLL_rIIt,b3,w1];exact rfl) ?_;simp -implicitDefEqProofs (disch:=omega) only [go_sem,↓reduceIte ,b3,w1];refine call_NB (v_l00In _ _ _) (by simp -implicitDefEqProofs (disch:=omega) only [go_sem,↓reduceIte,deep,TD.rows,immLL_rI,immLL_rB8,immLL_rS,immLL_rBo,immLL_rII,immLL_rIIt,b4,d1,d3'];exact rfl) ?_;simp -implicitDefEqProofs (disch:=omega) only [go_sem,↓reduceIte ,b4,d1,d3'];refine call_NB (v_l17Find m _ _ hn) (by simp -implicitDefEqProofs (disch:=omega) only [go_sem,↓reduceIte,deep,TD.rows,immLL_rI,immLL_rB8,immLL_rS,immLL_rBo,immLL_rII,immLL_rIIt,df,hno2 hf];exact rfl) ?_;simp -implicitDefEqProofs (disch:=omega) only [go_sem,↓reduceIte ,df,hno2 hf]
        · have d3':decide (v.Dir=3)=false:=decide_eq_false hD3;refine call_NB (v_l00In _ _ _) (by simp -implicitDefEqProofs (disch:=omega) only [go_sem,↓reduceIte,deep,TD.rows,immLL_rI,immLL_rB8,immLL_rS,immLL_rBo,immLL_rII,immLL_rIIt,b1,w2];exact rfl) ?_;simp -implicitDefEqProofs (disch:=omega) only [go_sem,↓reduceIte ,b1,w2];refine call_NB (v_l00In _ _ _) (by simp -implicitDefEqProofs (disch:=omega) only [go_sem,↓reduceIte,deep,TD.rows,immLL_rI,immLL_rB8,immLL_rS,immLL_rBo,immLL_rII,immLL_rIIt,b2,w2];exact rfl) ?_;simp -implicitDefEqProofs (disch:=omega) only [go_sem,↓reduceIte ,b2,w2];refine call_NB (v_l00In _ _ _) (by simp -implicitDefEqProofs (disch:=omega) only [go_sem,↓reduceIte,deep,TD.rows,immLL_rI,immLL_rB8,immLL_rS,immLL_rBo,immLL_rII,immLL_rIIt,b3,w1];exact rfl) ?_;simp -implicitDefEqProofs (disch:=omega) only [go_sem,↓reduceIte ,b3,w1];refine call_NB (v_l00In _ _ _) (by simp -implicitDefEqProofs (disch:=omega) only [go_sem,↓reduceIte,deep,TD.rows,immLL_rI,immLL_rB8,immLL_rS,immLL_rBo,immLL_rII,immLL_rIIt,b4,d1,d3',hno (by rw [hok false false d1 d3'];rfl)];exact rfl) ?_;simp -implicitDefEqProofs (disch:=omega) only [go_sem,↓reduceIte ,b4,d1,d3',hno (by rw [hok false false d1 d3'];rfl)]
    · obtain rfl:i=m.Moves.length:=(by have:¬ i < m.Moves.length:=(by simpa using hlt);omega);have hr:okMach m=true:=by
        rw [hb,Bool.and_eq_true];refine ⟨List.all_eq_true.2 fun x hx=>?_,?_⟩
        · obtain ⟨j,hj,rfl⟩:=List.getElem_of_mem hx;exact (ha j hj hj).1
        · unfold ndM;rw [decide_eq_true_eq,nd_find];exact fun j hj=>(ha j hj hj).2
      simp -implicitDefEqProofs (disch:=omega) only [go_sem,↓reduceIte ,hr]
  · have d3:decide ((20:Int) < (m.Moves.length:Int))=true:=(by rw [decide_eq_true_eq];omega);have hr:okMach m=false:=(by unfold okMach;rw [c1,c2,decide_eq_false c3];rfl);refine call_B (v_l00In _ _ _) (by simp -implicitDefEqProofs (disch:=omega) only [go_sem,↓reduceIte,deep,TD.rows,immLL_rI,immLL_rB8,immLL_rS,immLL_rBo,immLL_rII,immLL_rIIt,c1];exact rfl) ?_;simp -implicitDefEqProofs (disch:=omega) only [go_sem,↓reduceIte ,c1];refine call_B (v_l00In _ _ _) (by simp -implicitDefEqProofs (disch:=omega) only [go_sem,↓reduceIte,deep,TD.rows,immLL_rI,immLL_rB8,immLL_rS,immLL_rBo,immLL_rII,immLL_rIIt,c2,List.length_map,d3,hr];exact rfl) ?_;simp -implicitDefEqProofs (disch:=omega) only [go_sem,↓reduceIte ,c2,List.length_map,d3,hr]
def code_impl_Machine_moveOk:VCode:=(.seq (.ops [
  ⟨(some 2),none,(.box (.tmp 0))⟩,
  ⟨(some 3),none,(.box (.tmp 1))⟩,
  ⟨(some 4),none,(.asg (.const (.bool false)))⟩]) (.seq (.ops [
  ⟨(some 5),none,(.fa 0 (.tmp 3))⟩,
  ⟨(some 6),none,(.load 1 false (.tmp 5))⟩,
  ⟨(some 7),none,(.fa 0 (.tmp 2))⟩,
  ⟨(some 8),none,(.load 1 false (.tmp 7))⟩,
  ⟨(some 9),none,(.bin .sub (.tmp 8) (.const (.int .i64 1)))⟩,
  ⟨(some 10),none,(.callX 60 [(.tmp 6),(.const (.int .i64 0)),(.tmp 9)])⟩,
  ⟨(some 11),none,(.mv (.tmp 10))⟩,
  ⟨(some 12),(some (11,true)),(.fa 4 (.tmp 3))⟩,
  ⟨(some 13),(some (11,true)),(.load 1 false (.tmp 12))⟩,
  ⟨(some 14),(some (11,true)),(.fa 0 (.tmp 2))⟩,
  ⟨(some 15),(some (11,true)),(.load 1 false (.tmp 14))⟩,
  ⟨(some 16),(some (11,true)),(.bin .sub (.tmp 15) (.const (.int .i64 1)))⟩,
  ⟨(some 17),(some (11,true)),(.callX 60 [(.tmp 13),(.const (.int .i64 0)),(.tmp 16)])⟩,
  ⟨(some 18),none,(.pick (.tmp 11) (.tmp 17) (.const (.bool false)))⟩,
  ⟨(some 19),none,(.mv (.tmp 18))⟩,
  ⟨(some 20),(some (19,true)),(.fa 1 (.tmp 3))⟩,
  ⟨(some 21),(some (19,true)),(.load 1 false (.tmp 20))⟩,
  ⟨(some 22),(some (19,true)),(.fa 1 (.tmp 2))⟩,
  ⟨(some 23),(some (19,true)),(.load 1 false (.tmp 22))⟩,
  ⟨(some 24),(some (19,true)),(.bin .sub (.tmp 23) (.const (.int .i64 1)))⟩,
  ⟨(some 25),(some (19,true)),(.callX 60 [(.tmp 21),(.const (.int .i64 0)),(.tmp 24)])⟩,
  ⟨(some 26),none,(.pick (.tmp 19) (.tmp 25) (.const (.bool false)))⟩,
  ⟨(some 27),none,(.mv (.tmp 26))⟩,
  ⟨(some 28),(some (27,true)),(.fa 2 (.tmp 3))⟩,
  ⟨(some 29),(some (27,true)),(.load 1 false (.tmp 28))⟩,
  ⟨(some 30),(some (27,true)),(.fa 1 (.tmp 2))⟩,
  ⟨(some 31),(some (27,true)),(.load 1 false (.tmp 30))⟩,
  ⟨(some 32),(some (27,true)),(.bin .sub (.tmp 31) (.const (.int .i64 1)))⟩,
  ⟨(some 33),(some (27,true)),(.callX 60 [(.tmp 29),(.const (.int .i64 0)),(.tmp 32)])⟩,
  ⟨(some 34),none,(.pick (.tmp 27) (.tmp 33) (.const (.bool false)))⟩,
  ⟨(some 35),none,(.mv (.tmp 34))⟩,
  ⟨(some 36),(some (35,true)),(.fa 3 (.tmp 3))⟩,
  ⟨(some 37),(some (35,true)),(.load 1 false (.tmp 36))⟩,
  ⟨(some 38),(some (35,true)),(.bin .eql (.tmp 37) (.const (.int .i64 1)))⟩,
  ⟨(some 39),(some (35,true)),(.mv (.tmp 38))⟩,
  ⟨(some 40),(some (39,false)),(.fa 3 (.tmp 3))⟩,
  ⟨(some 41),(some (39,false)),(.load 1 false (.tmp 40))⟩,
  ⟨(some 42),(some (39,false)),(.bin .eql (.tmp 41) (.const (.int .i64 3)))⟩,
  ⟨(some 43),(some (35,true)),(.pick (.tmp 39) (.const (.bool true)) (.tmp 42))⟩,
  ⟨(some 44),none,(.pick (.tmp 35) (.tmp 43) (.const (.bool false)))⟩,
  ⟨(some 4),none,(.asg (.tmp 44))⟩]) .ret))
theorem law_impl_Machine_moveOk {a0 a1 d:D} (h:code_impl_Machine_moveOk.wp (CT Tryz.prog TabG) (endQ [(.t 4)] d) [a0,a1,.undef,.undef,.undef,.undef,.undef,.undef,.undef,.undef,.undef,.undef,.undef,.undef,.undef,.undef,.undef,.undef,.undef,.undef,.undef,.undef,.undef,.undef,.undef,.undef,.undef,.undef,.undef,.undef,.undef,.undef,.undef,.undef,.undef,.undef,.undef,.undef,.undef,.undef,.undef,.undef,.undef,.undef,.undef]):Contract Tryz.prog TabG 63 [a0,a1] d :=
  contract_of (pt:=0) tabG Tryz.func63 (fun us W=>by kernel_rfl) (c:=Tryz.f63.body.getD .skip) (ms:=[]) (ms':=[]) (by kernel_rfl) (by kernel_rfl) (by kernel_rfl) h
set_option maxHeartbeats 1000000 in
theorem v_moveOk (m:Machine) (v:Move) (h1:1≤m.States∧m.States≤5) (h2:1≤m.Symbols∧m.Symbols≤4):Contract Tryz.prog TabG 63 [.agg (Machine.td.d false m),.agg (Move.td.d false v)] (.v (.bool (mvOk m v))):=by
  rw [Machine.td_d,Move.td_d];refine law_impl_Machine_moveOk ?_;unfold code_impl_Machine_moveOk mvOk;have w1:IntKind.i64.wrap (m.States - 1)=m.States - 1:=wrI (by omega) (by omega);have w2:IntKind.i64.wrap (m.Symbols - 1)=m.Symbols - 1:=wrI (by omega) (by omega);simp -implicitDefEqProofs (disch:=omega) only [go_sem,↓reduceIte ,w1,w2];cases b1:inR 0 (m.States - 1) v.State with
  | false=>refine call_B (v_within _ _ _) (by simp -implicitDefEqProofs (disch:=omega) only [go_sem,↓reduceIte,deep,TD.rows,immLL_rI,immLL_rB8,immLL_rS,immLL_rBo,immLL_rII,immLL_rIIt,b1,w1,w2];exact rfl) ?_;simp -implicitDefEqProofs (disch:=omega) only [go_sem,↓reduceIte ,b1,w1,w2]
  | true =>
  cases b2:inR 0 (m.States - 1) v.Next with
  | false=>refine call_B (v_within _ _ _) (by simp -implicitDefEqProofs (disch:=omega) only [go_sem,↓reduceIte,deep,TD.rows,immLL_rI,immLL_rB8,immLL_rS,immLL_rBo,immLL_rII,immLL_rIIt,b1,w1,w2];exact rfl) ?_;simp -implicitDefEqProofs (disch:=omega) only [go_sem,↓reduceIte ,b1,w1,w2];refine call_B (v_within _ _ _) (by simp -implicitDefEqProofs (disch:=omega) only [go_sem,↓reduceIte,deep,TD.rows,immLL_rI,immLL_rB8,immLL_rS,immLL_rBo,immLL_rII,immLL_rIIt,b2,w1,w2];exact rfl) ?_;simp -implicitDefEqProofs (disch:=omega) only [go_sem,↓reduceIte ,b2,w1,w2]
  | true =>
  cases b3:inR 0 (m.Symbols - 1) v.Read with
  | false=>refine call_B (v_within _ _ _) (by simp -implicitDefEqProofs (disch:=omega) only [go_sem,↓reduceIte,deep,TD.rows,immLL_rI,immLL_rB8,immLL_rS,immLL_rBo,immLL_rII,immLL_rIIt,b1,w1,w2];exact rfl) ?_;simp -implicitDefEqProofs (disch:=omega) only [go_sem,↓reduceIte ,b1,w1,w2];refine call_B (v_within _ _ _) (by simp -implicitDefEqProofs (disch:=omega) only [go_sem,↓reduceIte,deep,TD.rows,immLL_rI,immLL_rB8,immLL_rS,immLL_rBo,immLL_rII,immLL_rIIt,b2,w1,w2];exact rfl) ?_;simp -implicitDefEqProofs (disch:=omega) only [go_sem,↓reduceIte ,b2,w1,w2];refine call_B (v_within _ _ _) (by simp -implicitDefEqProofs (disch:=omega) only [go_sem,↓reduceIte,deep,TD.rows,immLL_rI,immLL_rB8,immLL_rS,immLL_rBo,immLL_rII,immLL_rIIt,b3,w1,w2];exact rfl) ?_;simp -implicitDefEqProofs (disch:=omega) only [go_sem,↓reduceIte ,b3,w1,w2]
  | true =>
  cases b4:inR 0 (m.Symbols - 1) v.Write with
  | false=>refine call_B (v_within _ _ _) (by simp -implicitDefEqProofs (disch:=omega) only [go_sem,↓reduceIte,deep,TD.rows,immLL_rI,immLL_rB8,immLL_rS,immLL_rBo,immLL_rII,immLL_rIIt,b1,w1,w2];exact rfl) ?_;simp -implicitDefEqProofs (disch:=omega) only [go_sem,↓reduceIte ,b1,w1,w2];refine call_B (v_within _ _ _) (by simp -implicitDefEqProofs (disch:=omega) only [go_sem,↓reduceIte,deep,TD.rows,immLL_rI,immLL_rB8,immLL_rS,immLL_rBo,immLL_rII,immLL_rIIt,b2,w1,w2];exact rfl) ?_;simp -implicitDefEqProofs (disch:=omega) only [go_sem,↓reduceIte ,b2,w1,w2];refine call_B (v_within _ _ _) (by simp -implicitDefEqProofs (disch:=omega) only [go_sem,↓reduceIte,deep,TD.rows,immLL_rI,immLL_rB8,immLL_rS,immLL_rBo,immLL_rII,immLL_rIIt,b3,w1,w2];exact rfl) ?_;simp -implicitDefEqProofs (disch:=omega) only [go_sem,↓reduceIte ,b3,w1,w2];refine call_B (v_within _ _ _) (by simp -implicitDefEqProofs (disch:=omega) only [go_sem,↓reduceIte,deep,TD.rows,immLL_rI,immLL_rB8,immLL_rS,immLL_rBo,immLL_rII,immLL_rIIt,b4,w1,w2];exact rfl) ?_;simp -implicitDefEqProofs (disch:=omega) only [go_sem,↓reduceIte ,b4,w1,w2]
  | true =>
  refine call_B (v_within _ _ _) (by simp -implicitDefEqProofs (disch:=omega) only [go_sem,↓reduceIte,deep,TD.rows,immLL_rI,immLL_rB8,immLL_rS,immLL_rBo,immLL_rII,immLL_rIIt,b1,w1,w2];exact rfl) ?_;simp -implicitDefEqProofs (disch:=omega) only [go_sem,↓reduceIte ,b1,w1,w2];refine call_B (v_within _ _ _) (by simp -implicitDefEqProofs (disch:=omega) only [go_sem,↓reduceIte,deep,TD.rows,immLL_rI,immLL_rB8,immLL_rS,immLL_rBo,immLL_rII,immLL_rIIt,b2,w1,w2];exact rfl) ?_;simp -implicitDefEqProofs (disch:=omega) only [go_sem,↓reduceIte ,b2,w1,w2];refine call_B (v_within _ _ _) (by simp -implicitDefEqProofs (disch:=omega) only [go_sem,↓reduceIte,deep,TD.rows,immLL_rI,immLL_rB8,immLL_rS,immLL_rBo,immLL_rII,immLL_rIIt,b3,w1,w2];exact rfl) ?_;simp -implicitDefEqProofs (disch:=omega) only [go_sem,↓reduceIte ,b3,w1,w2];refine call_B (v_within _ _ _) (by simp -implicitDefEqProofs (disch:=omega) only [go_sem,↓reduceIte,deep,TD.rows,immLL_rI,immLL_rB8,immLL_rS,immLL_rBo,immLL_rII,immLL_rIIt,b4,w1,w2];exact rfl) ?_;simp -implicitDefEqProofs (disch:=omega) only [go_sem,↓reduceIte ,b4,w1,w2];refine guard_split ?_ ?_ <;> intro h
  · have h:=of_decide_eq_true h;simp -implicitDefEqProofs (disch:=omega) only [go_sem,↓reduceIte ,decide_eq_true h]
  · simp -implicitDefEqProofs (disch:=omega) only [go_sem,↓reduceIte ,h]
def code_impl_ValidMachine_1:VCode:=(.seq (.ops [
  ⟨(some 2),none,(.box (.tmp 0))⟩,
  ⟨(some 3),none,(.asg (.const (.bool false)))⟩]) (.seq (.ops [
  ⟨(some 4),none,(.load 3 true (.tmp 1))⟩,
  ⟨(some 5),none,(.load 5 true (.tmp 2))⟩,
  ⟨(some 6),none,(.callX 63 [(.tmp 4),(.tmp 5)])⟩,
  ⟨(some 7),none,(.un .not (.tmp 6))⟩,
  ⟨(some 3),none,(.asg (.tmp 7))⟩]) .ret))
theorem law_impl_ValidMachine_1 {a0 a1 d:D} (h:code_impl_ValidMachine_1.wp (CT Tryz.prog TabG) (endQ [(.t 3)] d) [a0,a1,.undef,.undef,.undef,.undef,.undef,.undef]):Contract Tryz.prog TabG 62 [a0,a1] d :=
  contract_of (pt:=0) tabG Tryz.func62 (fun us W=>by kernel_rfl) (c:=Tryz.f62.body.getD .skip) (ms:=[]) (ms':=[]) (by kernel_rfl) (by kernel_rfl) (by kernel_rfl) h
theorem v_ValidMachine1 (m:Machine) (v:Move) (h1:1≤m.States∧m.States≤5) (h2:1≤m.Symbols∧m.Symbols≤4):Contract Tryz.prog TabG 62 [.agg (Move.td.d false v),.iptr (Machine.td.d false m) 0] (.v (.bool (!mvOk m v))):=by rw [Machine.td_d,Move.td_d];refine law_impl_ValidMachine_1 ?_;unfold code_impl_ValidMachine_1;simp -implicitDefEqProofs (disch:=omega) only [go_sem,↓reduceIte];refine call_B (v_moveOk m v h1 h2) (by simp -implicitDefEqProofs (disch:=omega) only [go_sem,↓reduceIte,deep,TD.rows,immLL_rI,immLL_rB8,immLL_rS,immLL_rBo,immLL_rII,immLL_rIIt];exact rfl) ?_;simp -implicitDefEqProofs (disch:=omega) only [go_sem,↓reduceIte]
def code_impl_Machine_table:VCode:=(.seq (.ops [
  ⟨(some 1),none,(.box (.tmp 0))⟩,
  ⟨(some 2),none,(.asg (.const (.map none)))⟩]) (.seq (.ops [
  ⟨(some 6),none,(.mkm (.flat [1,1]))⟩,
  ⟨(some 3),none,(.asg (.tmp 6))⟩]) (.seq (.seq (.ops [
  ⟨(some 7),none,(.fa 2 (.tmp 1))⟩,
  ⟨(some 8),none,(.load 1 false (.tmp 7))⟩,
  ⟨(some 9),none,(.len (.tmp 8))⟩,
  ⟨(some 10),none,(.mv (.const (.int .i64 0)))⟩]) (.block 0 (.loop (mB 23 8386613) (.seq (.ops [
  ⟨(some 11),none,(.bin .lss (.tmp 10) (.tmp 9))⟩]) (.seq (.cond (.tmp 11) .skip (.exit 0)) (.seq (.block 1 (.seq (.ops [
  ⟨(some 12),none,(.ia 5 (.tmp 8) (.tmp 10))⟩,
  ⟨(some 13),none,(.load 5 true (.tmp 12))⟩,
  ⟨(some 5),none,(.alloc [(.int .i64 0),(.int .i64 0),(.int .i64 0),(.int .i64 0),(.int .i64 0)])⟩,
  ⟨none,none,(.store 5 (.tmp 5) (.tmp 13))⟩]) (.ops [
  ⟨(some 14),none,(.mv (.tmp 3))⟩,
  ⟨(some 15),none,(.fa 0 (.tmp 5))⟩,
  ⟨(some 16),none,(.load 1 false (.tmp 15))⟩,
  ⟨(some 17),none,(.fa 1 (.tmp 5))⟩,
  ⟨(some 18),none,(.load 1 false (.tmp 17))⟩,
  ⟨(some 19),none,(.build [(.int .i64 0),(.int .i64 0)] [(0,1,(.tmp 16)),(1,1,(.tmp 18))])⟩,
  ⟨(some 20),none,(.load 5 true (.tmp 5))⟩,
  ⟨none,none,(.mupd (.flat [1,1]) (.tmp 14) (.tmp 19) (.tmp 20))⟩]))) (.ops [
  ⟨(some 21),none,(.bin .add (.tmp 10) (.const (.int .i64 1)))⟩,
  ⟨(some 10),none,(.mv (.tmp 21))⟩]))))))) (.seq (.ops [
  ⟨(some 22),none,(.mv (.tmp 3))⟩,
  ⟨(some 2),none,(.asg (.tmp 22))⟩]) .ret))))
theorem law_impl_Machine_table {a0 d:D} (h:code_impl_Machine_table.wp (CT Tryz.prog TabG) (endQ [(.t 2)] d) [a0,.undef,.undef,.undef,.undef,.undef,.undef,.undef,.undef,.undef,.undef,.undef,.undef,.undef,.undef,.undef,.undef,.undef,.undef,.undef,.undef,.undef,.undef]):Contract Tryz.prog TabG 64 [a0] d :=
  contract_of (pt:=0) tabG Tryz.func64 (fun us W=>by kernel_rfl) (c:=Tryz.f64.body.getD .skip) (ms:=[(mB 23 8386613)]) (ms':=[]) (by kernel_rfl) (by kernel_rfl) (by kernel_rfl) h
set_option maxHeartbeats 1000000 in
theorem v_table (m:Machine) (hn:m.Moves.length≤1048576):Contract Tryz.prog TabG 64 [.agg (Machine.td.d false m)] (.mp (.flat [1,1]) (tabM m.Moves)):=by
  rw [Machine.td_d];refine law_impl_Machine_table ?_;unfold code_impl_Machine_table;simp -implicitDefEqProofs (disch:=omega) only [go_sem,↓reduceIte ,List.length_map];refine loop_ov (by simp -implicitDefEqProofs (disch:=omega) only [go_sem,↓reduceIte];exact rfl) (fun i:Nat=>[(10,.v (.int .i64 (i:Nat))),(3,.mp (.flat [1,1]) (tabM (m.Moves.take i)))]) (fun _=>by simp only [ovr_nil,ovr_cons,List.set_cons_zero,List.set_cons_succ];exact rfl) (fun i:Nat=>i≤m.Moves.length) (fun i:Nat=>m.Moves.length - i) (0) (nleA) (Nat.zero_le _) ?_;intro i hi;simp -implicitDefEqProofs (disch:=omega) only [go_sem,↓reduceIte ,List.length_map,Int.toNat_natCast,Int.ofNat_lt,Int.natCast_nonneg,List.getElem?_map,Option.map_some];refine cond_split ?_ ?_ <;> intro hlt
  · have hlt:i < m.Moves.length:=(by simpa using hlt);have e1:=List.getElem?_eq_getElem hlt;have hs:=tabM_next hlt;unfold keyVal mvVal at hs;simp -implicitDefEqProofs (disch:=omega) only [go_sem,↓reduceIte ,List.length_map,Int.toNat_natCast,Int.ofNat_lt,Int.natCast_nonneg,List.getElem?_map,Option.map_some,hlt,e1,Move.td_d,hs,wrN];exact ⟨i+1,by omega,hlt,nleA⟩
  · obtain rfl:i=m.Moves.length:=(by have:¬ i < m.Moves.length:=(by simpa using hlt);omega);simp -implicitDefEqProofs (disch:=omega) only [go_sem,↓reduceIte ,List.take_length]
def code_impl_ValidMachine:VCode:=(.seq (.ops [
  ⟨(some 1),none,(.box (.tmp 0))⟩,
  ⟨(some 2),none,(.asg (.const (.bool false)))⟩]) (.seq (.seq (.ops [
  ⟨(some 3),none,(.fa 0 (.tmp 1))⟩,
  ⟨(some 4),none,(.load 1 false (.tmp 3))⟩,
  ⟨(some 5),none,(.callX 60 [(.tmp 4),(.const (.int .i64 1)),(.const (.int .i64 5))])⟩,
  ⟨(some 6),none,(.un .not (.tmp 5))⟩,
  ⟨(some 7),none,(.mv (.tmp 6))⟩,
  ⟨(some 8),(some (7,false)),(.fa 1 (.tmp 1))⟩,
  ⟨(some 9),(some (7,false)),(.load 1 false (.tmp 8))⟩,
  ⟨(some 10),(some (7,false)),(.callX 60 [(.tmp 9),(.const (.int .i64 1)),(.const (.int .i64 4))])⟩,
  ⟨(some 11),(some (7,false)),(.un .not (.tmp 10))⟩,
  ⟨(some 12),none,(.pick (.tmp 7) (.const (.bool true)) (.tmp 11))⟩,
  ⟨(some 13),none,(.mv (.tmp 12))⟩,
  ⟨(some 14),(some (13,false)),(.fa 2 (.tmp 1))⟩,
  ⟨(some 15),(some (13,false)),(.load 1 false (.tmp 14))⟩,
  ⟨(some 16),(some (13,false)),(.len (.tmp 15))⟩,
  ⟨(some 17),(some (13,false)),(.bin .gtr (.tmp 16) (.const (.int .i64 20)))⟩,
  ⟨(some 18),none,(.pick (.tmp 13) (.const (.bool true)) (.tmp 17))⟩]) (.cond (.tmp 18) (.seq (.ops [
  ⟨(some 2),none,(.asg (.const (.bool false)))⟩]) .ret) .skip)) (.seq (.draw (mB 31 2146959360) [] [⟨0,(mB 31 2146959360),[],⟨(some 19),none,(.fa 2 (.tmp 1))⟩⟩,⟨1,(mB 31 2146435072),[],⟨(some 20),none,(.load 1 false (.tmp 19))⟩⟩,⟨2,(mB 31 2146959360),[],⟨(some 21),none,(.mkf 62 [] [(.tmp 1)])⟩⟩,⟨3,(mB 31 2143289344),[],⟨(some 22),none,(.call 61 [(.tmp 20),(.tmp 21)])⟩⟩,⟨4,(mB 31 2139095040),[],⟨(some 23),none,(.un .not (.tmp 22))⟩⟩,⟨5,(mB 31 2130706432),[],⟨(some 24),none,(.mv (.tmp 23))⟩⟩,⟨6,(mB 31 2113929216),[],⟨(some 25),(some (24,true)),(.load 3 true (.tmp 1))⟩⟩,⟨7,(mB 31 2080374784),[],⟨(some 26),(some (24,true)),(.call 64 [(.tmp 25)])⟩⟩,⟨8,(mB 31 2013265920),[],⟨(some 27),(some (24,true)),(.mlen (.tmp 26))⟩⟩,⟨9,(mB 31 2113929216),[],⟨(some 28),(some (24,true)),(.fa 2 (.tmp 1))⟩⟩,⟨10,(mB 31 1845493760),[],⟨(some 29),(some (24,true)),(.load 1 false (.tmp 28))⟩⟩,⟨11,(mB 31 1308622848),[],⟨(some 30),(some (24,true)),(.len (.tmp 29))⟩⟩] [⟨(some 31),(some (24,true)),(.bin .eql (.tmp 27) (.tmp 30))⟩,⟨(some 32),none,(.pick (.tmp 24) (.tmp 31) (.const (.bool false)))⟩,⟨(some 2),none,(.asg (.tmp 32))⟩]) .ret)))
theorem law_impl_ValidMachine {a0 d:D} (h:code_impl_ValidMachine.wp (CT Tryz.prog TabG) (endQ [(.t 2)] d) [a0,.undef,.undef,.undef,.undef,.undef,.undef,.undef,.undef,.undef,.undef,.undef,.undef,.undef,.undef,.undef,.undef,.undef,.undef,.undef,.undef,.undef,.undef,.undef,.undef,.undef,.undef,.undef,.undef,.undef,.undef,.undef,.undef]):Contract Tryz.prog TabG 28 [a0] d :=
  contract_of (pt:=0) tabG Tryz.func28 (fun us W=>by kernel_rfl) (c:=Tryz.f28.body.getD .skip) (ms:=[]) (ms':=[]) (by kernel_rfl) (by kernel_rfl) (by kernel_rfl) h
set_option maxHeartbeats 1000000 in
theorem v_ValidMachine (m:Machine) (hn:m.Moves.length≤1048576):Contract Tryz.prog TabG 28 [.agg (Machine.td.d false m)] (.v (.bool (okMach m))):=by
  rw [Machine.td_d];refine law_impl_ValidMachine ?_;unfold code_impl_ValidMachine;simp -implicitDefEqProofs (disch:=omega) only [go_sem,↓reduceIte];cases c1:inR 1 5 m.States with
  | false=>have hr:okMach m=false:=(by unfold okMach;rw [c1];rfl);refine call_B (v_within _ _ _) (by simp -implicitDefEqProofs (disch:=omega) only [go_sem,↓reduceIte,deep,TD.rows,immLL_rI,immLL_rB8,immLL_rS,immLL_rBo,immLL_rII,immLL_rIIt,c1,hr];exact rfl) ?_;simp -implicitDefEqProofs (disch:=omega) only [go_sem,↓reduceIte ,c1,hr]
  | true =>
  cases c2:inR 1 4 m.Symbols with
  | false=>have hr:okMach m=false:=(by unfold okMach;rw [c1,c2];rfl);refine call_B (v_within _ _ _) (by simp -implicitDefEqProofs (disch:=omega) only [go_sem,↓reduceIte,deep,TD.rows,immLL_rI,immLL_rB8,immLL_rS,immLL_rBo,immLL_rII,immLL_rIIt,c1];exact rfl) ?_;simp -implicitDefEqProofs (disch:=omega) only [go_sem,↓reduceIte ,c1];refine call_B (v_within _ _ _) (by simp -implicitDefEqProofs (disch:=omega) only [go_sem,↓reduceIte,deep,TD.rows,immLL_rI,immLL_rB8,immLL_rS,immLL_rBo,immLL_rII,immLL_rIIt,c2,hr];exact rfl) ?_;simp -implicitDefEqProofs (disch:=omega) only [go_sem,↓reduceIte ,c2,hr]
  | true =>
  by_cases c3:m.Moves.length≤20
  · have d3:decide ((20:Int) < (m.Moves.length:Int))=false:=(by rw [decide_eq_false_iff_not];omega);have hb:okMach m=(m.Moves.all (mvOk m)&&ndM m.Moves):=(by unfold okMach;rw [c1,c2,decide_eq_true c3];rfl);obtain ⟨s1,s2⟩:=inR_iff.1 c1;obtain ⟨s3,s4⟩:=inR_iff.1 c2;have ht:=tab_len m.Moves;have hti:=(v_table m hn).imm;simp only [D.imm] at hti;refine call_B (v_within _ _ _) (by simp -implicitDefEqProofs (disch:=omega) only [go_sem,↓reduceIte,deep,TD.rows,immLL_rI,immLL_rB8,immLL_rS,immLL_rBo,immLL_rII,immLL_rIIt,c1];exact rfl) ?_;simp -implicitDefEqProofs (disch:=omega) only [go_sem,↓reduceIte ,c1];refine call_B (v_within _ _ _) (by simp -implicitDefEqProofs (disch:=omega) only [go_sem,↓reduceIte,deep,TD.rows,immLL_rI,immLL_rB8,immLL_rS,immLL_rBo,immLL_rII,immLL_rIIt,c2,List.length_map,d3];exact rfl) ?_;simp -implicitDefEqProofs (disch:=omega) only [go_sem,↓reduceIte ,c2,List.length_map,d3];cases h4:m.Moves.all (mvOk m) with
    | false=>have hr:okMach m=false:=(by rw [hb,h4];rfl);refine call_NB (v_ContainsFunc_Move _ [.iptr (Machine.td.d false m) 0] ⟨rfl,fun _=>rfl,fun _=>rfl,fun _=>rfl⟩ m.Moves (fun v=>!mvOk m v) (fun v _=>v_ValidMachine1 m v ⟨s1,s2⟩ ⟨s3,s4⟩) (by omega)) (by simp -implicitDefEqProofs (disch:=omega) only [go_sem,↓reduceIte,deep,TD.rows,immLL_rI,immLL_rB8,immLL_rS,immLL_rBo,immLL_rII,immLL_rIIt,any_not,Bool.not_not,h4,hr];exact rfl) ?_;simp -implicitDefEqProofs (disch:=omega) only [go_sem,↓reduceIte ,any_not,Bool.not_not,h4,hr]
    | true=>have hr:okMach m=ndM m.Moves:=(by rw [hb,h4];rfl);refine call_NB (v_ContainsFunc_Move _ [.iptr (Machine.td.d false m) 0] ⟨rfl,fun _=>rfl,fun _=>rfl,fun _=>rfl⟩ m.Moves (fun v=>!mvOk m v) (fun v _=>v_ValidMachine1 m v ⟨s1,s2⟩ ⟨s3,s4⟩) (by omega)) (by simp -implicitDefEqProofs (disch:=omega) only [go_sem,↓reduceIte,deep,TD.rows,immLL_rI,immLL_rB8,immLL_rS,immLL_rBo,immLL_rII,immLL_rIIt,any_not,Bool.not_not,h4];exact rfl) ?_;simp -implicitDefEqProofs (disch:=omega) only [go_sem,↓reduceIte ,any_not,Bool.not_not,h4];refine call_NB (hti) (by simp -implicitDefEqProofs (disch:=omega) only [go_sem,↓reduceIte,deep,TD.rows,immLL_rI,immLL_rB8,immLL_rS,immLL_rBo,immLL_rII,immLL_rIIt,List.length_map,ht,hr];exact rfl) ?_;simp -implicitDefEqProofs (disch:=omega) only [go_sem,↓reduceIte ,List.length_map,ht,hr]
  · have d3:decide ((20:Int) < (m.Moves.length:Int))=true:=(by rw [decide_eq_true_eq];omega);have hr:okMach m=false:=(by unfold okMach;rw [c1,c2,decide_eq_false c3];rfl);refine call_B (v_within _ _ _) (by simp -implicitDefEqProofs (disch:=omega) only [go_sem,↓reduceIte,deep,TD.rows,immLL_rI,immLL_rB8,immLL_rS,immLL_rBo,immLL_rII,immLL_rIIt,c1];exact rfl) ?_;simp -implicitDefEqProofs (disch:=omega) only [go_sem,↓reduceIte ,c1];refine call_B (v_within _ _ _) (by simp -implicitDefEqProofs (disch:=omega) only [go_sem,↓reduceIte,deep,TD.rows,immLL_rI,immLL_rB8,immLL_rS,immLL_rBo,immLL_rII,immLL_rIIt,c2,List.length_map,d3,hr];exact rfl) ?_;simp -implicitDefEqProofs (disch:=omega) only [go_sem,↓reduceIte ,c2,List.length_map,d3,hr]
end Go.Proofs.YtjkbngjiagknkaaGreatDoor
