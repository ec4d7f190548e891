/- Laws that the proof stands on. -/
import Derived.Test.YtjkbngjiagknkaaGreatDoorZg12
import Derived.Test.YtjkbngjiagknkaaGreatDoorZg14
import Derived.Test.YtjkbngjiagknkaaGreatDoorZVTab
set_option linter.all false
namespace Go.Proofs.YtjkbngjiagknkaaGreatDoor
open Go.RowKit Go.V
attribute [local go_sem] List.getElem?_cons_succ List.getElem?_cons_zero List.set_cons_succ List.set_cons_zero List.map_cons List.map_nil List.length_cons List.length_nil List.all_cons List.all_nil List.drop_succ_cons List.drop_zero List.take_succ_cons List.take_zero List.flatMap_cons List.flatMap_nil List.cons_append List.nil_append List.append_nil List.headD_cons Value.oneCell' Bool.and_true Bool.true_and Bool.or_false Bool.false_or Bool.and_self Bool.not_true Bool.not_false and_true true_and beq_self_eq_true Bool.false_eq_true if_true if_false Nat.zero_add Nat.reduceAdd Nat.reduceMul Nat.reduceLeDiff Nat.le_refl Option.isSome_some Option.isSome_none not_true_eq_false not_false_eq_true ne_eq reduceCtorEq List.reverse_nil bne_self_eq_false Nat.reduceEqDiff List.isPrefixOf Bool.not_eq_true Bool.and_false Bool.false_and Bool.true_or Bool.or_true decide_true decide_false Nat.reduceBEq Nat.reduceBNe List.replicate_succ List.replicate_zero exists_eq_left' exists_eq_left Option.some.injEq or_false or_true true_or false_or Option.map_some Option.map_none mB Nat.reduceMod Nat.reduceDiv
set_option maxRecDepth 100000
def bytS (l:List UInt8):ByteArray:=⟨l.toArray⟩
def decS (n:Int):ByteArray:=⟨(itoaS n).toArray⟩
def digs (u:Nat):List UInt8:=if u=0 then [] else Lib.decDigits u
theorem digs_step {u:Nat} (h:u≠0):digs u=digs (u / 10)++[UInt8.ofNat (48+u % 10)]:=by
  unfold digs;rw [if_neg h,Lib.decDigits];by_cases h9:u < 10
  · rw [dif_pos h9,if_pos (by omega),Nat.mod_eq_of_lt h9];rfl
  · rw [dif_neg h9,if_neg (by omega)]
theorem digs_len {u k:Nat} (h:u < 10 ^ k):(digs u).length≤k:=by
  induction k generalizing u with
  | zero => have:u=0:=by omega
            subst this;simp [digs]
  | succ k ih =>
    by_cases h0:u=0
    · subst h0;simp [digs]
    · rw [digs_step h0,List.length_append];have:=ih (u:=u / 10) (by rw [Nat.pow_succ] at h;omega);simp only [List.length_cons,List.length_nil];omega
def code_impl_Decimal:VCode:=(.seq (.ops [
  ⟨(some 2),none,(.asg (.const (.string ⟨⟨[]⟩⟩)))⟩]) (.seq (.ops [
  ⟨(some 3),none,(.mv (.tmp 0))⟩,
  ⟨(some 4),none,(.callX 118 [(.tmp 3),(.const (.int .i64 10))])⟩,
  ⟨(some 2),none,(.asg (.tmp 4))⟩]) .ret))
theorem law_impl_Decimal {a0 d:D} (h:code_impl_Decimal.wp (CT Tryz.prog TabG) (endQ [(.t 2)] d) [a0,.undef,.undef,.undef,.undef]):Contract Tryz.prog TabG 103 [a0] d :=
  contract_of (pt:=0) tabG Tryz.func103 (fun us W=>by kernel_rfl) (c:=Tryz.f103.body.getD .skip) (ms:=[]) (ms':=[]) (by kernel_rfl) (by kernel_rfl) (by kernel_rfl) h
theorem v_Decimal_impl (n:Int) (hn:InK .i64 n):Contract Tryz.prog TabG 103 [.v (.int .i64 n)] (.v (.string (decS n))):=by refine law_impl_Decimal ?_;unfold code_impl_Decimal;simp -implicitDefEqProofs (disch:=omega) only [go_sem,↓reduceIte];refine call_B (v_FormatInt n hn) (by simp -implicitDefEqProofs (disch:=omega) only [go_sem,↓reduceIte,deep,TD.rows,immLL_rI,immLL_rB8,immLL_rS,immLL_rBo,immLL_rII,immLL_rIIt];exact rfl) ?_;simp -implicitDefEqProofs (disch:=omega) only [go_sem,↓reduceIte];rfl
def code_spec_Decimal:VCode:=(.seq (.ops [
  ⟨(some 2),none,(.asg (.const (.string ⟨⟨[]⟩⟩)))⟩]) (.seq (.ops [
  ⟨(some 3),none,(.asg (.const (.string ⟨⟨[]⟩⟩)))⟩]) (.seq (.ops [
  ⟨(some 6),none,(.mv (.tmp 0))⟩,
  ⟨(some 4),none,(.asg (.tmp 6))⟩]) (.seq (.block 0 (.loop (mB 31 2147483622) (.seq (.seq (.ops [
  ⟨(some 7),none,(.mv (.tmp 4))⟩,
  ⟨(some 8),none,(.bin .neq (.tmp 7) (.const (.int .i64 0)))⟩]) (.cond (.tmp 8) .skip (.exit 0))) (.block 1 (.seq (.ops [
  ⟨(some 9),none,(.mv (.tmp 4))⟩,
  ⟨(some 10),none,(.bin .rem (.tmp 9) (.const (.int .i64 10)))⟩,
  ⟨(some 5),none,(.asg (.tmp 10))⟩]) (.seq (.seq (.ops [
  ⟨(some 11),none,(.mv (.tmp 5))⟩,
  ⟨(some 12),none,(.bin .lss (.tmp 11) (.const (.int .i64 0)))⟩]) (.cond (.tmp 12) (.ops [
  ⟨(some 13),none,(.mv (.tmp 5))⟩,
  ⟨(some 14),none,(.un .neg (.tmp 13))⟩,
  ⟨(some 5),none,(.asg (.tmp 14))⟩]) .skip)) (.seq (.ops [
  ⟨(some 15),none,(.mv (.tmp 5))⟩,
  ⟨(some 16),none,(.bin .add (.const (.int .i64 48)) (.tmp 15))⟩,
  ⟨(some 17),none,(.conv .u8 (.tmp 16))⟩,
  ⟨(some 18),none,(.bsl 1 [(.tmp 17)])⟩,
  ⟨(some 19),none,(.b2s (.tmp 18))⟩,
  ⟨(some 20),none,(.mv (.tmp 3))⟩,
  ⟨(some 21),none,(.bin .add (.tmp 19) (.tmp 20))⟩,
  ⟨(some 3),none,(.asg (.tmp 21))⟩]) (.ops [
  ⟨(some 22),none,(.mv (.tmp 4))⟩,
  ⟨(some 23),none,(.bin .quo (.tmp 22) (.const (.int .i64 10)))⟩,
  ⟨(some 4),none,(.asg (.tmp 23))⟩])))))))) (.seq (.seq (.ops [
  ⟨(some 24),none,(.mv (.tmp 0))⟩,
  ⟨(some 25),none,(.bin .eql (.tmp 24) (.const (.int .i64 0)))⟩]) (.cond (.tmp 25) (.seq (.ops [
  ⟨(some 2),none,(.asg (.const (.string ⟨⟨[48]⟩⟩)))⟩]) .ret) .skip)) (.seq (.seq (.ops [
  ⟨(some 26),none,(.mv (.tmp 0))⟩,
  ⟨(some 27),none,(.bin .lss (.tmp 26) (.const (.int .i64 0)))⟩]) (.cond (.tmp 27) (.seq (.ops [
  ⟨(some 28),none,(.mv (.tmp 3))⟩,
  ⟨(some 29),none,(.bin .add (.const (.string ⟨⟨[45]⟩⟩)) (.tmp 28))⟩,
  ⟨(some 2),none,(.asg (.tmp 29))⟩]) .ret) .skip)) (.seq (.ops [
  ⟨(some 30),none,(.mv (.tmp 3))⟩,
  ⟨(some 2),none,(.asg (.tmp 30))⟩]) .ret)))))))
theorem law_spec_Decimal {a0 d:D} (h:code_spec_Decimal.wp (CT Tryz.prog TabG) (endQ [(.t 2)] d) [a0,.undef,.undef,.undef,.undef,.undef,.undef,.undef,.undef,.undef,.undef,.undef,.undef,.undef,.undef,.undef,.undef,.undef,.undef,.undef,.undef,.undef,.undef,.undef,.undef,.undef,.undef,.undef,.undef,.undef,.undef]):Contract Tryz.prog TabG 108 [a0] d :=
  contract_of (pt:=0) tabG Tryz.func108 (fun us W=>by kernel_rfl) (c:=Tryz.f108.body.getD .skip) (ms:=[(mB 31 2147483622)]) (ms':=[]) (by kernel_rfl) (by kernel_rfl) (by kernel_rfl) h
theorem v_Decimal_spec (n:Int) (hn:InK .i64 n):Contract Tryz.prog TabG 108 [.v (.int .i64 n)] (.v (.string (decS n))):=by
  refine law_spec_Decimal ?_;unfold code_spec_Decimal;have hn' : -9223372036854775808≤n∧n≤9223372036854775807:=by have:=hn;unfold InK at this;omega
  simp -implicitDefEqProofs (disch:=omega) only [go_sem,↓reduceIte];refine loop_ov (by simp -implicitDefEqProofs (disch:=omega) only [go_sem,↓reduceIte];exact rfl) (fun z:Int × List UInt8=>[(3,.v (.string (bytS z.2))),(4,.v (.int .i64 z.1))]) (fun _=>by simp only [ovr_nil,ovr_cons,List.set_cons_zero,List.set_cons_succ];exact rfl) (fun z:Int × List UInt8=>(-9223372036854775808≤z.1∧z.1≤9223372036854775807)∧digs z.1.natAbs++z.2=digs n.natAbs) (fun z:Int × List UInt8=>z.1.natAbs) ((n,[])) (nleA) (?_) ?_
  · exact ⟨hn',by simp⟩
  rintro ⟨m,l⟩ ⟨h1,h2⟩;simp only at h1 h2;have hlen:(digs n.natAbs).length≤20:=digs_len (k:=20) (by omega);have hl:l.length≤20:=by rw [← h2,List.length_append] at hlen;omega
  have hsz:(bytS l).size=l.length:=rfl;by_cases hm:m=0
  · subst hm;have e2:l=digs n.natAbs:=h2;by_cases h0:n=0
    · subst h0;simp -implicitDefEqProofs (disch:=omega) only [go_sem,↓reduceIte ,decide_true];have e:itoaS 0=[48]:=by simp [itoaS,Lib.itoa,Lib.decDigits]
      unfold decS;rw [e]
    · have hd:digs n.natAbs=Lib.decDigits n.natAbs:=(by unfold digs;rw [if_neg (by omega)]);by_cases h3:n < 0
      · simp -implicitDefEqProofs (disch:=omega) only [go_sem,↓reduceIte ,h0,h3,decide_true,decide_false];refine ⟨by rw [hsz];unfold maxLen;show 1+l.length≤_;omega,?_⟩;have e:itoaS n=45::l:=by unfold itoaS Lib.itoa;rw [if_pos h3,e2,hd]
        unfold decS bytS;rw [e];exact congrArg Value.string (by apply ByteArray.ext;simp)
      · simp -implicitDefEqProofs (disch:=omega) only [go_sem,↓reduceIte ,h0,h3,decide_true,decide_false];have e:itoaS n=l:=by unfold itoaS Lib.itoa;rw [if_neg h3,e2,hd];congr 1;omega
        unfold decS bytS;rw [e]
  · obtain ⟨k,hk⟩:∃ k,k=m.natAbs % 10:=⟨_,rfl⟩
    have hk9:k≤9:=(by omega);have hm0:m.natAbs≠0:=(by omega);have hS:strI [((48+k:Nat):Int)]++bytS l=bytS (UInt8.ofNat (48+k)::l):=(by apply ByteArray.ext;simp only [strI,bytS,List.map_cons,List.map_nil,Int.toNat_natCast];simp);have hq:(m.tdiv 10).natAbs=m.natAbs / 10:=(by rw [Int.natAbs_tdiv];rfl);have hnext:digs (m.natAbs / 10)++UInt8.ofNat (48+k)::l=digs n.natAbs:=(by rw [← h2,digs_step hm0,← hk,List.append_assoc];rfl);have hb10 : -9223372036854775808≤m.tdiv 10∧m.tdiv 10≤9223372036854775807:=(by have:(m.tdiv 10).natAbs≤922337203685477580:=(by rw [hq];omega);omega);have hsz1:(strI [((48+k:Nat):Int)]).size=1:=rfl;have w1:IntKind.i64.wrap (48+(k:Int))=((48+k:Nat):Int):=(by rw [wrI (by omega) (by omega)];omega);have w2:IntKind.u8.wrap ((48+k:Nat):Int)=((48+k:Nat):Int):=(by simp [IntKind.wrap,IntKind.signed,IntKind.bits];omega);by_cases h3:m < 0
    · have hd:m.tmod 10 = -(k:Int):=by
        obtain ⟨u,rfl⟩:∃ u:Nat,m = -(u:Int):=⟨m.natAbs,by omega⟩
        rw [Int.neg_tmod];have:((u:Int)).tmod 10=((u % 10:Nat):Int):=rfl;rw [this,hk];congr 2;omega
      have w3:IntKind.i64.wrap (-(-(k:Int)))=(k:Int):=(by rw [wrI (by omega) (by omega)];omega);have w4:IntKind.i64.wrap (0 - (-(k:Int)))=(k:Int):=(by rw [wrI (by omega) (by omega)];omega);simp -implicitDefEqProofs (disch:=omega) only [go_sem,↓reduceIte ,hm,hd];refine ⟨by omega,cond_split ?_ ?_⟩ <;> intro hlt
      · simp -implicitDefEqProofs (disch:=omega) only [go_sem,↓reduceIte ,hm,hd,w1,w2,w3,w4];refine ⟨[((48+k:Nat):Int)],rfl,?_,by omega,(m.tdiv 10,UInt8.ofNat (48+k)::l),?_,⟨hb10,?_⟩,?_⟩
        · rw [hsz1,hsz];unfold maxLen;omega
        · simp only;rw [hq];omega
        · simp only;rw [hq];exact hnext
        · rw [hS,wrI hb10.1 hb10.2];(try simp -implicitDefEqProofs only [nleL_cc,nleL_nn,nle_self,nle_boxs,nle_aggs,nle_nils,and_self,and_true,true_and]) <;> repeat' (first | exact nle_of_eq rfl | exact nle_nil | apply And.intro | apply nle_sl | apply nleLL_cons | apply nleL_cons | exact nleL_nil | exact nleLL_nil | apply nle_box | apply nle_agg)
      · have e0 : -(k:Int)=(k:Int):=(by have:=hlt;simp at this;omega);simp -implicitDefEqProofs (disch:=omega) only [go_sem,↓reduceIte ,hm,hd,e0,w1,w2];refine ⟨[((48+k:Nat):Int)],rfl,?_,by omega,(m.tdiv 10,UInt8.ofNat (48+k)::l),?_,⟨hb10,?_⟩,?_⟩
        · rw [hsz1,hsz];unfold maxLen;omega
        · simp only;rw [hq];omega
        · simp only;rw [hq];exact hnext
        · rw [hS,wrI hb10.1 hb10.2];(try simp -implicitDefEqProofs only [nleL_cc,nleL_nn,nle_self,nle_boxs,nle_aggs,nle_nils,and_self,and_true,true_and]) <;> repeat' (first | exact nle_of_eq rfl | exact nle_nil | apply And.intro | apply nle_sl | apply nleLL_cons | apply nleL_cons | exact nleL_nil | exact nleLL_nil | apply nle_box | apply nle_agg)
    · have hd:m.tmod 10=(k:Int):=by
        obtain ⟨u,rfl⟩:∃ u:Nat,m=(u:Int):=⟨m.natAbs,by omega⟩
        have:((u:Int)).tmod 10=((u % 10:Nat):Int):=rfl;rw [this,hk];congr 2
      have hk0:decide ((k:Int) < 0)=false:=(by rw [decide_eq_false_iff_not];omega);simp -implicitDefEqProofs (disch:=omega) only [go_sem,↓reduceIte ,hm,hd,hk0];refine ⟨by omega,?_⟩;simp -implicitDefEqProofs (disch:=omega) only [go_sem,↓reduceIte ,hm,hd,w1,w2];refine ⟨[((48+k:Nat):Int)],rfl,?_,by omega,(m.tdiv 10,UInt8.ofNat (48+k)::l),?_,⟨hb10,?_⟩,?_⟩
      · rw [hsz1,hsz];unfold maxLen;omega
      · simp only;rw [hq];omega
      · simp only;rw [hq];exact hnext
      · rw [hS,wrI hb10.1 hb10.2];(try simp -implicitDefEqProofs only [nleL_cc,nleL_nn,nle_self,nle_boxs,nle_aggs,nle_nils,and_self,and_true,true_and]) <;> repeat' (first | exact nle_of_eq rfl | exact nle_nil | apply And.intro | apply nle_sl | apply nleLL_cons | apply nleL_cons | exact nleL_nil | exact nleLL_nil | apply nle_box | apply nle_agg)
end Go.Proofs.YtjkbngjiagknkaaGreatDoor
