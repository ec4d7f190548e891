/- Laws that the proof stands on. -/
import Derived.Test.YtdlchnlpmofpmaaGreatDoorZg13
import Derived.Test.YtdlchnlpmofpmaaGreatDoorZg15
import Derived.Test.YtdlchnlpmofpmaaGreatDoorZVTab
import Derived.Test.YtdlchnlpmofpmaaGreatDoorZg12
import Derived.Test.YtdlchnlpmofpmaaGreatDoorZVB
import Derived.Test.YtdlchnlpmofpmaaGreatDoorProg
import Derived.Test.YtdlchnlpmofpmaaGreatDoorZg14
set_option linter.all false
namespace Go.Proofs.YtdlchnlpmofpmaaGreatDoor
open Go.RowKit Go.V
attribute [local go_sem] List.getElem?_cons_succ List.getElem?_cons_zero List.set_cons_succ List.set_cons_zero List.map_cons List.map_nil List.length_cons List.length_nil List.all_cons List.all_nil List.drop_succ_cons List.drop_zero List.take_succ_cons List.take_zero List.flatMap_cons List.flatMap_nil List.cons_append List.nil_append List.append_nil List.headD_cons Value.oneCell' Bool.and_true Bool.true_and Bool.or_false Bool.false_or Bool.and_self Bool.not_true Bool.not_false and_true true_and beq_self_eq_true Bool.false_eq_true if_true if_false Nat.zero_add Nat.reduceAdd Nat.reduceMul Nat.reduceLeDiff Nat.le_refl Option.isSome_some Option.isSome_none not_true_eq_false not_false_eq_true ne_eq reduceCtorEq List.reverse_nil bne_self_eq_false Nat.reduceEqDiff List.isPrefixOf Bool.not_eq_true Bool.and_false Bool.false_and Bool.true_or Bool.or_true decide_true decide_false Nat.reduceBEq Nat.reduceBNe List.replicate_succ List.replicate_zero exists_eq_left' exists_eq_left Option.some.injEq or_false or_true true_or false_or Option.map_some Option.map_none mB Nat.reduceMod Nat.reduceDiv
set_option maxRecDepth 100000
def yPx (l:List UInt8):ByteArray:=⟨l.toArray⟩
def zQx (n:Int):ByteArray:=⟨(zFv n).toArray⟩
def zV3 (u:Nat):List UInt8:=if u=0 then [] else Lib.decDigits u
theorem zSp {u:Nat}(h:u≠0):zV3 u=zV3 (u / 10)++[UInt8.ofNat (48+u % 10)]:=by
  unfold zV3;rw [if_neg h,Lib.decDigits];by_cases h9:u<10
  · rw [dif_pos h9,if_pos (by omega),Nat.mod_eq_of_lt h9];rfl
  · rw [dif_neg h9,if_neg (by omega)]
theorem yI3 {u k:Nat}(h:u<10 ^ k):(zV3 u).length≤k:=by
  induction k generalizing u with
  | zero => have:u=0:=by omega
            subst this;simp [zV3]
  | succ k ih =>
    by_cases h0:u=0
    · subst h0;simp [zV3]
    · rw [zSp h0,List.length_append];have:=ih (u:=u / 10) (by rw [Nat.pow_succ] at h;omega);simp only [List.length_cons,List.length_nil];omega
def code_impl_Decimal:VCode:=(.seq (.ops [
  ⟨(some 2),none,(.asg (.const (.string ⟨⟨[]⟩⟩)))⟩]) (.seq (.ops [
  ⟨(some 3),none,(.mv (.tmp 0))⟩,
  ⟨(some 4),none,(.callX 120 [(.tmp 3),(.const (.int .i64 10))])⟩,
  ⟨(some 2),none,(.asg (.tmp 4))⟩]) .ret))
theorem zLb {a0 d:D}(h:code_impl_Decimal.wp (CT Tryz.prog zAr) (zC9 [(.t 2)] d) [a0,.undef,.undef,.undef,.undef]):Contract Tryz.prog zAr 103 [a0] d :=
  zAk (pt:=0) zC6 Tryz.func103 (fun us W=>by kernel_rfl) (c:=Tryz.f103.body.getD .skip) (ms:=[]) (ms':=[]) (by kernel_rfl) (by kernel_rfl) (by kernel_rfl) h
theorem zNz (n:Int)(hn:InK .i64 n):Contract Tryz.prog zAr 103 [.v (.int .i64 n)] (.v (.string (zQx n))):=by refine zLb ?_;unfold code_impl_Decimal;simp -implicitDefEqProofs (disch:=omega) only [go_sem,↓reduceIte];refine zAm (zTd n hn) (by simp -implicitDefEqProofs (disch:=omega) only [go_sem,↓reduceIte,deep,TD.rows,zAe,zAc,zAf,zAb,zAd,zAa];exact rfl) ?_;simp -implicitDefEqProofs (disch:=omega) only [go_sem,↓reduceIte];rfl
def code_spec_Decimal:VCode:=(.seq (.ops [
  ⟨(some 2),none,(.asg (.const (.string ⟨⟨[]⟩⟩)))⟩]) (.seq (.ops [
  ⟨(some 3),none,(.asg (.const (.string ⟨⟨[]⟩⟩)))⟩]) (.seq (.ops [
  ⟨(some 6),none,(.mv (.tmp 0))⟩,
  ⟨(some 4),none,(.asg (.tmp 6))⟩]) (.seq (.block 0 (.loop (mB 31 2147483622) (.seq (.seq (.ops [
  ⟨(some 7),none,(.mv (.tmp 4))⟩,
  ⟨(some 8),none,(.bin .neq (.tmp 7) (.const (.int .i64 0)))⟩]) (.cond (.tmp 8) .skip (.exit 0))) (.block 1 (.seq (.ops [
  ⟨(some 9),none,(.mv (.tmp 4))⟩,
  ⟨(some 10),none,(.bin .rem (.tmp 9) (.const (.int .i64 10)))⟩,
  ⟨(some 5),none,(.asg (.tmp 10))⟩]) (.seq (.seq (.ops [
  ⟨(some 11),none,(.mv (.tmp 5))⟩,
  ⟨(some 12),none,(.bin .lss (.tmp 11) (.const (.int .i64 0)))⟩]) (.cond (.tmp 12) (.ops [
  ⟨(some 13),none,(.mv (.tmp 5))⟩,
  ⟨(some 14),none,(.un .neg (.tmp 13))⟩,
  ⟨(some 5),none,(.asg (.tmp 14))⟩]) .skip)) (.seq (.ops [
  ⟨(some 15),none,(.mv (.tmp 5))⟩,
  ⟨(some 16),none,(.bin .add (.const (.int .i64 48)) (.tmp 15))⟩,
  ⟨(some 17),none,(.conv .u8 (.tmp 16))⟩,
  ⟨(some 18),none,(.bsl 1 [(.tmp 17)])⟩,
  ⟨(some 19),none,(.b2s (.tmp 18))⟩,
  ⟨(some 20),none,(.mv (.tmp 3))⟩,
  ⟨(some 21),none,(.bin .add (.tmp 19) (.tmp 20))⟩,
  ⟨(some 3),none,(.asg (.tmp 21))⟩]) (.ops [
  ⟨(some 22),none,(.mv (.tmp 4))⟩,
  ⟨(some 23),none,(.bin .quo (.tmp 22) (.const (.int .i64 10)))⟩,
  ⟨(some 4),none,(.asg (.tmp 23))⟩])))))))) (.seq (.seq (.ops [
  ⟨(some 24),none,(.mv (.tmp 0))⟩,
  ⟨(some 25),none,(.bin .eql (.tmp 24) (.const (.int .i64 0)))⟩]) (.cond (.tmp 25) (.seq (.ops [
  ⟨(some 2),none,(.asg (.const (.string ⟨⟨[48]⟩⟩)))⟩]) .ret) .skip)) (.seq (.seq (.ops [
  ⟨(some 26),none,(.mv (.tmp 0))⟩,
  ⟨(some 27),none,(.bin .lss (.tmp 26) (.const (.int .i64 0)))⟩]) (.cond (.tmp 27) (.seq (.ops [
  ⟨(some 28),none,(.mv (.tmp 3))⟩,
  ⟨(some 29),none,(.bin .add (.const (.string ⟨⟨[45]⟩⟩)) (.tmp 28))⟩,
  ⟨(some 2),none,(.asg (.tmp 29))⟩]) .ret) .skip)) (.seq (.ops [
  ⟨(some 30),none,(.mv (.tmp 3))⟩,
  ⟨(some 2),none,(.asg (.tmp 30))⟩]) .ret)))))))
theorem zK8 {a0 d:D}(h:code_spec_Decimal.wp (CT Tryz.prog zAr) (zC9 [(.t 2)] d) [a0,.undef,.undef,.undef,.undef,.undef,.undef,.undef,.undef,.undef,.undef,.undef,.undef,.undef,.undef,.undef,.undef,.undef,.undef,.undef,.undef,.undef,.undef,.undef,.undef,.undef,.undef,.undef,.undef,.undef,.undef]):Contract Tryz.prog zAr 93 [a0] d :=
  zAk (pt:=0) zC6 Tryz.func93 (fun us W=>by kernel_rfl) (c:=Tryz.f93.body.getD .skip) (ms:=[(mB 31 2147483622)]) (ms':=[]) (by kernel_rfl) (by kernel_rfl) (by kernel_rfl) h
theorem zG4 (n:Int) (hn:InK .i64 n):Contract Tryz.prog zAr 93 [.v (.int .i64 n)] (.v (.string (zQx n))):=by
  refine zK8 ?_;unfold code_spec_Decimal;have hn' : -9223372036854775808≤n∧n≤9223372036854775807:=by have:=hn;unfold InK at this;omega
  simp -implicitDefEqProofs (disch:=omega) only [go_sem,↓reduceIte];refine zF9 (by simp -implicitDefEqProofs (disch:=omega) only [go_sem,↓reduceIte];exact rfl) (fun z:Int×List UInt8=>[(3,.v (.string (yPx z.2))),(4,.v (.int .i64 z.1))]) (fun _=>by simp only [zFk,zD1,List.set_cons_zero,List.set_cons_succ];exact rfl) (fun z:Int×List UInt8=>(-9223372036854775808≤z.1∧z.1≤9223372036854775807)∧zV3 z.1.natAbs++z.2=zV3 n.natAbs) (fun z:Int×List UInt8=>z.1.natAbs) ((n,[])) (zDo) (?_) ?_
  · exact ⟨hn',by simp⟩
  rintro ⟨m,l⟩ ⟨h1,h2⟩;simp only at h1 h2;have hlen:(zV3 n.natAbs).length≤20:=yI3 (k:=20) (by omega);have hl:l.length≤20:=by rw [← h2,List.length_append] at hlen;omega
  have hsz:(yPx l).size=l.length:=rfl;by_cases hm:m=0
  · subst hm;have e2:l=zV3 n.natAbs:=h2;by_cases h0:n=0
    · subst h0;simp -implicitDefEqProofs (disch:=omega) only [go_sem,↓reduceIte ,decide_true];have e:zFv 0=[48]:=by simp [zFv,Lib.itoa,Lib.decDigits]
      unfold zQx;rw [e]
    · have hd:zV3 n.natAbs=Lib.decDigits n.natAbs:=(by unfold zV3;rw [if_neg (by omega)]);by_cases h3:n<0
      · simp -implicitDefEqProofs (disch:=omega) only [go_sem,↓reduceIte ,h0,h3,decide_true,decide_false];refine ⟨by rw [hsz];unfold maxLen;show 1+l.length≤_;omega,?_⟩;have e:zFv n=45::l:=by unfold zFv Lib.itoa;rw [if_pos h3,e2,hd]
        unfold zQx yPx;rw [e];exact congrArg Value.string (by apply ByteArray.ext;simp)
      · simp -implicitDefEqProofs (disch:=omega) only [go_sem,↓reduceIte ,h0,h3,decide_true,decide_false];have e:zFv n=l:=by unfold zFv Lib.itoa;rw [if_neg h3,e2,hd];congr 1;omega
        unfold zQx yPx;rw [e]
  · obtain ⟨k,hk⟩:∃ k,k=m.natAbs % 10:=⟨_,rfl⟩
    have hk9:k≤9:=(by omega);have hm0:m.natAbs≠0:=(by omega);have hS:zZd [((48+k:Nat):Int)]++yPx l=yPx (UInt8.ofNat (48+k)::l):=(by apply ByteArray.ext;simp only [zZd,yPx,List.map_cons,List.map_nil,Int.toNat_natCast];simp);have hq:(m.tdiv 10).natAbs=m.natAbs / 10:=(by rw [Int.natAbs_tdiv];rfl);have hnext:zV3 (m.natAbs / 10)++UInt8.ofNat (48+k)::l=zV3 n.natAbs:=(by rw [← h2,zSp hm0,← hk,List.append_assoc];rfl);have hb10 : -9223372036854775808≤m.tdiv 10∧m.tdiv 10≤9223372036854775807:=(by have:(m.tdiv 10).natAbs≤922337203685477580:=(by rw [hq];omega);omega);have hsz1:(zZd [((48+k:Nat):Int)]).size=1:=rfl;have w1:IntKind.i64.wrap (48+(k:Int))=((48+k:Nat):Int):=(by rw [wrI (by omega) (by omega)];omega);have w2:IntKind.u8.wrap ((48+k:Nat):Int)=((48+k:Nat):Int):=(by simp [IntKind.wrap,IntKind.signed,IntKind.bits];omega);by_cases h3:m<0
    · have hd:m.tmod 10 = -(k:Int):=by
        obtain ⟨u,rfl⟩:∃ u:Nat,m = -(u:Int):=⟨m.natAbs,by omega⟩
        rw [Int.neg_tmod];have:((u:Int)).tmod 10=((u % 10:Nat):Int):=rfl;rw [this,hk];congr 2;omega
      have w3:IntKind.i64.wrap (-(-(k:Int)))=(k:Int):=(by rw [wrI (by omega) (by omega)];omega);have w4:IntKind.i64.wrap (0-(-(k:Int)))=(k:Int):=(by rw [wrI (by omega) (by omega)];omega);simp -implicitDefEqProofs (disch:=omega) only [go_sem,↓reduceIte ,hm,hd];refine ⟨by omega,zAn ?_ ?_⟩<;>intro hlt
      · simp -implicitDefEqProofs (disch:=omega) only [go_sem,↓reduceIte ,hm,hd,w1,w2,w3,w4];refine ⟨[((48+k:Nat):Int)],rfl,?_,by omega,(m.tdiv 10,UInt8.ofNat (48+k)::l),?_,⟨hb10,?_⟩,?_⟩
        · rw [hsz1,hsz];unfold maxLen;omega
        · simp only;rw [hq];omega
        · simp only;rw [hq];exact hnext
        · rw [hS,wrI hb10.1 hb10.2];(try simp -implicitDefEqProofs only [zCs,zCr,zB0,zB2,zB3,zB1,and_self,and_true,true_and])<;>repeat' (first | exact zBd rfl | exact zCd | apply And.intro | apply zDz | apply zBb | apply zA7 | exact zBo | exact zBm | apply zCe | apply zCl)
      · have e0 : -(k:Int)=(k:Int):=(by have:=hlt;simp at this;omega);simp -implicitDefEqProofs (disch:=omega) only [go_sem,↓reduceIte ,hm,hd,e0,w1,w2];refine ⟨[((48+k:Nat):Int)],rfl,?_,by omega,(m.tdiv 10,UInt8.ofNat (48+k)::l),?_,⟨hb10,?_⟩,?_⟩
        · rw [hsz1,hsz];unfold maxLen;omega
        · simp only;rw [hq];omega
        · simp only;rw [hq];exact hnext
        · rw [hS,wrI hb10.1 hb10.2];(try simp -implicitDefEqProofs only [zCs,zCr,zB0,zB2,zB3,zB1,and_self,and_true,true_and])<;>repeat' (first | exact zBd rfl | exact zCd | apply And.intro | apply zDz | apply zBb | apply zA7 | exact zBo | exact zBm | apply zCe | apply zCl)
    · have hd:m.tmod 10=(k:Int):=by
        obtain ⟨u,rfl⟩:∃ u:Nat,m=(u:Int):=⟨m.natAbs,by omega⟩
        have:((u:Int)).tmod 10=((u % 10:Nat):Int):=rfl;rw [this,hk];congr 2
      have hk0:decide ((k:Int)<0)=false:=(by rw [decide_eq_false_iff_not];omega);simp -implicitDefEqProofs (disch:=omega) only [go_sem,↓reduceIte ,hm,hd,hk0];refine ⟨by omega,?_⟩;simp -implicitDefEqProofs (disch:=omega) only [go_sem,↓reduceIte ,hm,hd,w1,w2];refine ⟨[((48+k:Nat):Int)],rfl,?_,by omega,(m.tdiv 10,UInt8.ofNat (48+k)::l),?_,⟨hb10,?_⟩,?_⟩
      · rw [hsz1,hsz];unfold maxLen;omega
      · simp only;rw [hq];omega
      · simp only;rw [hq];exact hnext
      · rw [hS,wrI hb10.1 hb10.2];(try simp -implicitDefEqProofs only [zCs,zCr,zB0,zB2,zB3,zB1,and_self,and_true,true_and])<;>repeat' (first | exact zBd rfl | exact zCd | apply And.intro | apply zDz | apply zBb | apply zA7 | exact zBo | exact zBm | apply zCe | apply zCl)
def bsA (ps:List Placed)(p:Point):Nat:=bsP (ps.map (·.At)) p
def atP (ps:List Placed)(p:Point):Bool:=match ps[bsA ps p]? with
  | some x=>decide (x.At=p)
  | none=>false
def yOh (ps:List Placed)(p:Point):Int:=if atP ps p then (bsA ps p:Nat) else -1
def yEz (ps:List Placed)(p:Point):Int:=if atP ps p then (match ps[bsA ps p]? with | some x=>x.Tile | none => -1) else -1
theorem zGa {ps:List Placed}{p:Point}{k:Nat}(hk:k<ps.length):zOx (ps.map (·.At)) p k=zB6 ps[k].At p:=by unfold zOx;rw [List.getElem?_map,List.getElem?_eq_getElem hk];rfl
theorem yU5 {ps:List Placed}{p:Point}(h:atP ps p=true):∃ hb:bsA ps p<ps.length,ps[bsA ps p].At=p:=by
  unfold atP at h;split at h
  · rename_i x hx;obtain ⟨h1,h2⟩:=List.getElem?_eq_some_iff.1 hx;exact ⟨h1,by rw [h2];exact of_decide_eq_true h⟩
  · cases h
def code_spec_l03Index:VCode:=(.seq (.ops [
  ⟨(some 3),none,(.box (.tmp 1))⟩,
  ⟨(some 4),none,(.asg (.const (.int .i64 0)))⟩]) (.seq (.ops [
  ⟨(some 5),none,(.asg (.const (.int .i64 0)))⟩]) (.seq (.ops [
  ⟨(some 8),none,(.mv (.tmp 0))⟩,
  ⟨(some 9),none,(.nilc (.tmp 8))⟩,
  ⟨(some 10),none,(.fa 0 (.tmp 9))⟩,
  ⟨(some 11),none,(.load 1 false (.tmp 10))⟩,
  ⟨(some 12),none,(.len (.tmp 11))⟩,
  ⟨(some 6),none,(.asg (.tmp 12))⟩]) (.seq (.block 0 (.loop (mB 53 9007199254740886) (.seq (.seq (.ops [
  ⟨(some 13),none,(.mv (.tmp 5))⟩,
  ⟨(some 14),none,(.mv (.tmp 6))⟩,
  ⟨(some 15),none,(.bin .lss (.tmp 13) (.tmp 14))⟩]) (.cond (.tmp 15) .skip (.exit 0))) (.block 1 (.seq (.ops [
  ⟨(some 16),none,(.mv (.tmp 5))⟩,
  ⟨(some 17),none,(.mv (.tmp 6))⟩,
  ⟨(some 18),none,(.bin .add (.tmp 16) (.tmp 17))⟩,
  ⟨(some 19),none,(.bin .quo (.tmp 18) (.const (.int .i64 2)))⟩,
  ⟨(some 7),none,(.asg (.tmp 19))⟩]) (.seq (.draw (mB 29 535822336) [] [⟨0,(mB 29 535822336),[],⟨(some 20),none,(.mv (.tmp 0))⟩⟩,⟨1,(mB 29 534773760),[],⟨(some 21),none,(.nilc (.tmp 20))⟩⟩,⟨2,(mB 29 532676608),[],⟨(some 22),none,(.fa 0 (.tmp 21))⟩⟩,⟨3,(mB 29 528482304),[],⟨(some 23),none,(.load 1 false (.tmp 22))⟩⟩,⟨4,(mB 29 535822336),[],⟨(some 24),none,(.mv (.tmp 7))⟩⟩,⟨5,(mB 29 503316480),[],⟨(some 25),none,(.ia 3 (.tmp 23) (.tmp 24))⟩⟩,⟨6,(mB 29 469762048),[],⟨(some 26),none,(.fa 0 (.tmp 25))⟩⟩,⟨7,(mB 29 402653184),[],⟨(some 27),none,(.load 2 true (.tmp 26))⟩⟩,⟨8,(mB 29 535822336),[],⟨(some 28),none,(.load 2 true (.tmp 3))⟩⟩] [⟨(some 29),none,(.callX 67 [(.tmp 27),(.tmp 28)])⟩]) (.cond (.tmp 29) (.ops [
  ⟨(some 30),none,(.mv (.tmp 7))⟩,
  ⟨(some 31),none,(.bin .add (.tmp 30) (.const (.int .i64 1)))⟩,
  ⟨(some 5),none,(.asg (.tmp 31))⟩]) (.ops [
  ⟨(some 32),none,(.mv (.tmp 7))⟩,
  ⟨(some 6),none,(.asg (.tmp 32))⟩])))))))) (.seq (.seq (.draw (mB 50 1125891316908032) [] [⟨0,(mB 50 1125891316908032),[],⟨(some 33),none,(.mv (.tmp 5))⟩⟩,⟨1,(mB 50 1125891316908032),[],⟨(some 34),none,(.mv (.tmp 0))⟩⟩,⟨2,(mB 50 1125874137038848),[],⟨(some 35),none,(.nilc (.tmp 34))⟩⟩,⟨3,(mB 50 1125839777300480),[],⟨(some 36),none,(.fa 0 (.tmp 35))⟩⟩,⟨4,(mB 50 1125771057823744),[],⟨(some 37),none,(.load 1 false (.tmp 36))⟩⟩,⟨5,(mB 50 1125633618870272),[],⟨(some 38),none,(.len (.tmp 37))⟩⟩,⟨6,(mB 50 1125350151028736),[],⟨(some 39),none,(.bin .lss (.tmp 33) (.tmp 38))⟩⟩,⟨7,(mB 50 1124800395214848),[],⟨(some 40),none,(.mv (.tmp 39))⟩⟩,⟨8,(mB 50 1123700883587072),[],⟨(some 41),(some (40,true)),(.mv (.tmp 0))⟩⟩,⟨9,(mB 50 1121501860331520),[],⟨(some 42),(some (40,true)),(.nilc (.tmp 41))⟩⟩,⟨10,(mB 50 1117103813820416),[],⟨(some 43),(some (40,true)),(.fa 0 (.tmp 42))⟩⟩,⟨11,(mB 50 1108307720798208),[],⟨(some 44),(some (40,true)),(.load 1 false (.tmp 43))⟩⟩,⟨12,(mB 50 1123700883587072),[],⟨(some 45),(some (40,true)),(.mv (.tmp 5))⟩⟩,⟨13,(mB 50 1055531162664960),[],⟨(some 46),(some (40,true)),(.ia 3 (.tmp 44) (.tmp 45))⟩⟩,⟨14,(mB 50 985162418487296),[],⟨(some 47),(some (40,true)),(.fa 0 (.tmp 46))⟩⟩,⟨15,(mB 50 844424930131968),[],⟨(some 48),(some (40,true)),(.load 2 true (.tmp 47))⟩⟩,⟨16,(mB 50 1123700883587072),[],⟨(some 49),(some (40,true)),(.load 2 true (.tmp 3))⟩⟩] [⟨(some 50),(some (40,true)),(.eqs false [1,1] (.tmp 48) (.tmp 49))⟩,⟨(some 51),none,(.pick (.tmp 40) (.tmp 50) (.const (.bool false)))⟩]) (.cond (.tmp 51) (.seq (.ops [
  ⟨(some 52),none,(.mv (.tmp 5))⟩,
  ⟨(some 4),none,(.asg (.tmp 52))⟩]) .ret) .skip)) (.seq (.ops [
  ⟨(some 4),none,(.asg (.const (.int .i64 (-1))))⟩]) .ret))))))
theorem zJ1 {a0 a1 d:D}(h:code_spec_l03Index.wp (CT Tryz.prog zAr) (zC9 [(.t 4)] d) [a0,a1,.undef,.undef,.undef,.undef,.undef,.undef,.undef,.undef,.undef,.undef,.undef,.undef,.undef,.undef,.undef,.undef,.undef,.undef,.undef,.undef,.undef,.undef,.undef,.undef,.undef,.undef,.undef,.undef,.undef,.undef,.undef,.undef,.undef,.undef,.undef,.undef,.undef,.undef,.undef,.undef,.undef,.undef,.undef,.undef,.undef,.undef,.undef,.undef,.undef,.undef,.undef]):Contract Tryz.prog zAr 41 [a0,a1] d :=
  zAk (pt:=0) zC6 Tryz.func41 (fun us W=>by kernel_rfl) (c:=Tryz.f41.body.getD .skip) (ms:=[(mB 53 9007199254740886)]) (ms':=[]) (by kernel_rfl) (by kernel_rfl) (by kernel_rfl) h
set_option maxHeartbeats 2000000 in
theorem zWt (b:Assembly)(p:Point)(hn:b.Tiles.length≤1048576):Contract Tryz.prog zAr 41 [.iptr (Assembly.td.d false b) 0,.agg (Point.td.d false p)] (.v (.int .i64 (yOh b.Tiles p))):=by
  rw [Assembly.td_d,Point.td_d];refine zJ1 ?_;unfold code_spec_l03Index;simp -implicitDefEqProofs (disch:=omega) only [go_sem,↓reduceIte ,List.length_map];refine zF9 (by simp -implicitDefEqProofs (disch:=omega) only [go_sem,↓reduceIte];exact rfl) (fun z:Nat×Nat=>[(5,.v (.int .i64 z.1)),(6,.v (.int .i64 z.2))]) (fun _=>by simp only [zFk,zD1,List.set_cons_zero,List.set_cons_succ];exact rfl) (fun z:Nat×Nat=>z.1≤z.2∧z.2≤b.Tiles.length∧∃ n,z.2-z.1≤n∧bsF (zOx (b.Tiles.map (·.At)) p) n z.1 z.2=bsA b.Tiles p) (fun z:Nat×Nat=>z.2-z.1) ((0,b.Tiles.length)) (zDo) (?_) ?_
  · exact ⟨Nat.zero_le _,Nat.le_refl _,(b.Tiles.map (·.At)).length,by rw [List.length_map];omega,by unfold bsA bsP;rw [List.length_map]⟩
  rintro ⟨i,j⟩ ⟨h1,h2,n,h3,h4⟩;simp only at h1 h2 h3 h4;simp -implicitDefEqProofs (disch:=omega) only [go_sem,↓reduceIte ,List.length_map,Int.toNat_natCast,Int.ofNat_lt,Int.natCast_nonneg,List.getElem?_map,Option.map_some];refine zAn ?_ ?_<;>intro hlt
  · have hlt:i<j:=(by simpa using hlt);have hm:(i+j) / 2<b.Tiles.length:=(by omega);have e1:=List.getElem?_eq_getElem hm;have hs:=yGl (i:=i) (j:=j) (by omega) (by omega);have hl:=zGa (p:=p) hm;obtain ⟨n,rfl⟩:∃ m,n=m+1:=⟨n-1,by omega⟩
    rw [bsF,if_pos hlt] at h4;simp -implicitDefEqProofs (disch:=omega) only [go_sem,↓reduceIte ,List.length_map,Int.toNat_natCast,Int.ofNat_lt,Int.natCast_nonneg,List.getElem?_map,Option.map_some,hs,hm,e1,Placed.td_d,Int.reduceEq];refine zAm (zFp b.Tiles[(i+j) / 2].At p) (by simp -implicitDefEqProofs (disch:=omega) only [go_sem,↓reduceIte,deep,TD.rows,zAe,zAc,zAf,zAb,zAd,zAa];exact rfl) ?_;simp -implicitDefEqProofs (disch:=omega) only [go_sem,↓reduceIte];refine zAn ?_ ?_<;>intro hc
    · simp -implicitDefEqProofs (disch:=omega) only [go_sem,↓reduceIte ,wrN];rw [hl,hc,if_pos rfl] at h4;exact ⟨((i+j) / 2+1,j),by simp only;omega,⟨by simp only;omega,h2,n,by simp only;omega,h4⟩,zDo⟩
    · simp -implicitDefEqProofs (disch:=omega) only [go_sem,↓reduceIte];rw [hl,hc,if_neg (by decide)] at h4;exact ⟨(i,(i+j) / 2),by simp only;omega,⟨by simp only;omega,by simp only;omega,n,by simp only;omega,h4⟩,zDo⟩
  · have hge:¬ i<j:=(by simpa using hlt);have hb:bsA b.Tiles p=i:=(by rw [← h4,yD0 hge]);simp -implicitDefEqProofs (disch:=omega) only [go_sem,↓reduceIte ,List.length_map,Int.toNat_natCast,Int.ofNat_lt,Int.natCast_nonneg,List.getElem?_map,Option.map_some];refine zLu ?_ ?_<;>intro hi
    · have hi:i<b.Tiles.length:=(by simpa using hi);have e1:=List.getElem?_eq_getElem hi;have hh:atP b.Tiles p=decide (b.Tiles[i].At=p):=(by unfold atP;rw [hb,e1]);have hd:(decide (b.Tiles[i].At.X=p.X)&&decide (b.Tiles[i].At.Y=p.Y))=decide (b.Tiles[i].At=p):=Point.eq_dec _ _;cases hc:decide (b.Tiles[i].At=p) with
      | false=>rw [hc] at hd hh;simp -implicitDefEqProofs (disch:=omega) only [go_sem,↓reduceIte ,List.length_map,Int.toNat_natCast,Int.ofNat_lt,Int.natCast_nonneg,List.getElem?_map,Option.map_some,hi,e1,Placed.td_d,hd,yOh,hh]
      | true=>rw [hc] at hd hh;simp -implicitDefEqProofs (disch:=omega) only [go_sem,↓reduceIte ,List.length_map,Int.toNat_natCast,Int.ofNat_lt,Int.natCast_nonneg,List.getElem?_map,Option.map_some,hi,e1,Placed.td_d,hd,yOh,hh,hb]
    · have hi:¬ i<b.Tiles.length:=(by simpa using hi);have hh:atP b.Tiles p=false:=(by unfold atP;rw [hb,List.getElem?_eq_none (Nat.le_of_not_lt hi)]);simp -implicitDefEqProofs (disch:=omega) only [go_sem,↓reduceIte ,hi,yOh,hh]
def zJm (x:Placed) (ys:List Placed):Nat→List Placed×Bool
  | 0=>([],false)
  | i+1=>match ys[i]? with
    | some y=>if (!(zJm x ys i).2&&zB6 x.At y.At) then ((zJm x ys i).1++[x]++[y],true) else ((zJm x ys i).1++[y],(zJm x ys i).2)
    | none=>zJm x ys i
theorem zVk (x:Placed)(ys:List Placed):∀ i,(zJm x ys i).1.length≤i+1∧((zJm x ys i).2=false→(zJm x ys i).1.length≤i)
  | 0=>by simp [zJm]
  | i + 1=>by
    have ih:=zVk x ys i;unfold zJm;split
    · split
      · rename_i h;simp only [Bool.and_eq_true,Bool.not_eq_true'] at h;have:=ih.2 h.1;simp;omega
      · simp only [List.length_append,List.length_cons,List.length_nil];exact ⟨by omega,fun h=>by have:=ih.2 h;omega⟩
    · exact ⟨by omega,fun h=>by have:=ih.2 h;omega⟩
def yMu (x:Placed)(ys:List Placed):List Placed:=if (zJm x ys ys.length).2 then (zJm x ys ys.length).1 else (zJm x ys ys.length).1++[x]
def code_spec_l03Put:VCode:=(.seq (.ops [
  ⟨(some 4),none,(.box (.tmp 1))⟩,
  ⟨(some 6),none,(.alloc [(.slice none 0 0)])⟩]) (.seq (.ops [
  ⟨(some 10),none,(.build [(.slice none 0 0)] [])⟩,
  ⟨(some 7),none,(.alloc [(.slice none 0 0)])⟩,
  ⟨none,none,(.store 1 (.tmp 7) (.tmp 10))⟩]) (.seq (.ops [
  ⟨(some 8),none,(.asg (.const (.bool false)))⟩]) (.seq (.seq (.ops [
  ⟨(some 9),none,(.asg (.const (.int .i64 0)))⟩]) (.block 0 (.loop (mB 65 36893488147419102250) (.seq (.seq (.ops [
  ⟨(some 11),none,(.mv (.tmp 9))⟩,
  ⟨(some 12),none,(.mv (.tmp 0))⟩,
  ⟨(some 13),none,(.nilc (.tmp 12))⟩,
  ⟨(some 14),none,(.fa 0 (.tmp 13))⟩,
  ⟨(some 15),none,(.load 1 false (.tmp 14))⟩,
  ⟨(some 16),none,(.len (.tmp 15))⟩,
  ⟨(some 17),none,(.bin .lss (.tmp 11) (.tmp 16))⟩]) (.cond (.tmp 17) .skip (.exit 0))) (.seq (.block 1 (.seq (.seq (.draw (mB 32 4293918720) [] [⟨0,(mB 32 4293918720),[],⟨(some 20),none,(.mv (.tmp 8))⟩⟩,⟨1,(mB 32 4292870144),[],⟨(some 21),none,(.un .not (.tmp 20))⟩⟩,⟨2,(mB 32 4290772992),[],⟨(some 22),none,(.mv (.tmp 21))⟩⟩,⟨3,(mB 32 4286578688),[],⟨(some 23),(some (22,true)),(.load 2 true (.tmp 4))⟩⟩,⟨4,(mB 32 4286578688),[],⟨(some 24),(some (22,true)),(.mv (.tmp 0))⟩⟩,⟨5,(mB 32 4269801472),[],⟨(some 25),(some (22,true)),(.nilc (.tmp 24))⟩⟩,⟨6,(mB 32 4236247040),[],⟨(some 26),(some (22,true)),(.fa 0 (.tmp 25))⟩⟩,⟨7,(mB 32 4169138176),[],⟨(some 27),(some (22,true)),(.load 1 false (.tmp 26))⟩⟩,⟨8,(mB 32 4286578688),[],⟨(some 28),(some (22,true)),(.mv (.tmp 9))⟩⟩,⟨9,(mB 32 3766484992),[],⟨(some 29),(some (22,true)),(.ia 3 (.tmp 27) (.tmp 28))⟩⟩,⟨10,(mB 32 3229614080),[],⟨(some 30),(some (22,true)),(.fa 0 (.tmp 29))⟩⟩,⟨11,(mB 32 2155872256),[],⟨(some 31),(some (22,true)),(.load 2 true (.tmp 30))⟩⟩] [⟨(some 32),(some (22,true)),(.callX 67 [(.tmp 23),(.tmp 31)])⟩,⟨(some 33),none,(.pick (.tmp 22) (.tmp 32) (.const (.bool false)))⟩]) (.cond (.tmp 33) (.seq (.ops [
  ⟨(some 8),none,(.asg (.const (.bool true)))⟩]) (.ops [
  ⟨(some 34),none,(.fa 0 (.tmp 7))⟩,
  ⟨(some 35),none,(.load 1 false (.tmp 34))⟩,
  ⟨(some 36),none,(.load 2 true (.tmp 4))⟩,
  ⟨(some 37),none,(.mv (.tmp 2))⟩,
  ⟨(some 38),none,(.build [(.int .i64 0),(.int .i64 0),(.int .i64 0)] [(0,2,(.tmp 36)),(2,1,(.tmp 37))])⟩,
  ⟨(some 39),none,(.bsl 3 [(.tmp 38)])⟩,
  ⟨(some 40),none,(.app 3 24 (.tmp 35) (.tmp 39))⟩,
  ⟨(some 41),none,(.fa 0 (.tmp 7))⟩,
  ⟨none,none,(.store 1 (.tmp 41) (.tmp 40))⟩])) .skip)) (.draw (mB 52 4499201580859392) (mB 51 1125899906842624) [⟨0,(mB 52 4499201580859392),[],⟨(some 42),none,(.fa 0 (.tmp 7))⟩⟩,⟨1,(mB 52 4494803534348288),[],⟨(some 43),none,(.load 1 false (.tmp 42))⟩⟩,⟨2,(mB 52 4499201580859392),[],⟨(some 44),none,(.mv (.tmp 0))⟩⟩,⟨3,(mB 52 4481609394814976),[],⟨(some 45),none,(.nilc (.tmp 44))⟩⟩,⟨4,(mB 52 4446425022726144),[],⟨(some 46),none,(.fa 0 (.tmp 45))⟩⟩,⟨5,(mB 52 4376056278548480),[],⟨(some 47),none,(.load 1 false (.tmp 46))⟩⟩,⟨6,(mB 52 4499201580859392),[],⟨(some 48),none,(.mv (.tmp 9))⟩⟩,⟨7,(mB 52 3953843813482496),[],⟨(some 49),none,(.ia 3 (.tmp 47) (.tmp 48))⟩⟩,⟨8,(mB 52 3390893860061184),[],⟨(some 50),none,(.load 3 true (.tmp 49))⟩⟩,⟨9,(mB 52 2264993953218560),(mB 51 1125899906842624),⟨(some 51),none,(.bslN 3 [(.tmp 50)])⟩⟩] [⟨(some 52),none,(.app 3 24 (.tmp 43) (.tmp 51))⟩,⟨(some 53),none,(.fa 0 (.tmp 7))⟩,⟨none,none,(.store 1 (.tmp 53) (.tmp 52))⟩]))) (.ops [
  ⟨(some 18),none,(.mv (.tmp 9))⟩,
  ⟨(some 19),none,(.bin .add (.tmp 18) (.const (.int .i64 1)))⟩,
  ⟨(some 9),none,(.asg (.tmp 19))⟩])))))) (.seq (.seq (.ops [
  ⟨(some 54),none,(.mv (.tmp 8))⟩,
  ⟨(some 55),none,(.un .not (.tmp 54))⟩]) (.cond (.tmp 55) (.ops [
  ⟨(some 56),none,(.fa 0 (.tmp 7))⟩,
  ⟨(some 57),none,(.load 1 false (.tmp 56))⟩,
  ⟨(some 58),none,(.load 2 true (.tmp 4))⟩,
  ⟨(some 59),none,(.mv (.tmp 2))⟩,
  ⟨(some 60),none,(.build [(.int .i64 0),(.int .i64 0),(.int .i64 0)] [(0,2,(.tmp 58)),(2,1,(.tmp 59))])⟩,
  ⟨(some 61),none,(.bsl 3 [(.tmp 60)])⟩,
  ⟨(some 62),none,(.app 3 24 (.tmp 57) (.tmp 61))⟩,
  ⟨(some 63),none,(.fa 0 (.tmp 7))⟩,
  ⟨none,none,(.store 1 (.tmp 63) (.tmp 62))⟩]) .skip)) (.seq (.ops [
  ⟨(some 64),none,(.load 1 true (.tmp 7))⟩,
  ⟨none,none,(.store 1 (.tmp 6) (.tmp 64))⟩]) .ret))))))
theorem zMu {a0 a1 a2 d:D}(h:code_spec_l03Put.wp (CT Tryz.prog zAr) (zC9 [(.c 6 1 true)] d) [a0,a1,a2,.undef,.undef,.undef,.undef,.undef,.undef,.undef,.undef,.undef,.undef,.undef,.undef,.undef,.undef,.undef,.undef,.undef,.undef,.undef,.undef,.undef,.undef,.undef,.undef,.undef,.undef,.undef,.undef,.undef,.undef,.undef,.undef,.undef,.undef,.undef,.undef,.undef,.undef,.undef,.undef,.undef,.undef,.undef,.undef,.undef,.undef,.undef,.undef,.undef,.undef,.undef,.undef,.undef,.undef,.undef,.undef,.undef,.undef,.undef,.undef,.undef,.undef]):Contract Tryz.prog zAr 42 [a0,a1,a2] d :=
  zAk (pt:=0) zC6 Tryz.func42 (fun us W=>by kernel_rfl) (c:=Tryz.f42.body.getD .skip) (ms:=[(mB 65 36893488147419102250)]) (ms':=[]) (by kernel_rfl) (by kernel_rfl) (by kernel_rfl) h
set_option maxHeartbeats 2000000 in
theorem yEl (b:Assembly) (p:Point) (t:Int) (hn:b.Tiles.length≤1048576):Contract Tryz.prog zAr 42 [.iptr (Assembly.td.d false b) 0,.agg (Point.td.d false p),.v (.int .i64 t)] (.agg (Assembly.td.d true ⟨yMu ⟨p,t⟩ b.Tiles⟩)):=by
  simp only [Assembly.td_d,Point.td_d];refine zMu ?_;unfold code_spec_l03Put;simp -implicitDefEqProofs (disch:=omega) only [go_sem,↓reduceIte ,List.length_map];refine zF9 (by simp -implicitDefEqProofs (disch:=omega) only [go_sem,↓reduceIte];exact rfl) (fun i:Nat=>[(7,.box none [.sl true 3 ((zJm ⟨p,t⟩ b.Tiles i).1.map (Placed.td.d true))]),(8,.v (.bool (zJm ⟨p,t⟩ b.Tiles i).2)),(9,.v (.int .i64 (i:Nat)))]) (fun _=>by simp only [zFk,zD1,List.set_cons_zero,List.set_cons_succ];exact rfl) (fun i:Nat=>i≤b.Tiles.length) (fun i:Nat=>b.Tiles.length-i) (0) (zDo) (?_) ?_
  · exact Nat.zero_le _
  intro i hi;have hL:=zVk ⟨p,t⟩ b.Tiles i;have hstep:∀ y,b.Tiles[i]?=some y→zJm ⟨p,t⟩ b.Tiles (i+1)=if (!(zJm ⟨p,t⟩ b.Tiles i).2&&zB6 p y.At) then ((zJm ⟨p,t⟩ b.Tiles i).1++[⟨p,t⟩]++[y],true) else ((zJm ⟨p,t⟩ b.Tiles i).1++[y],(zJm ⟨p,t⟩ b.Tiles i).2):=fun y hy=>by show (match b.Tiles[i]? with | some y=>_ | none=>_)=_;rw [hy]
  have hend:i=b.Tiles.length→yMu ⟨p,t⟩ b.Tiles=if (zJm ⟨p,t⟩ b.Tiles i).2 then (zJm ⟨p,t⟩ b.Tiles i).1 else (zJm ⟨p,t⟩ b.Tiles i).1++[⟨p,t⟩]:=fun h=>by rw [h];rfl
  generalize zJm ⟨p,t⟩ b.Tiles i=z at *;obtain ⟨o,dn⟩:=z;simp only at hL hstep hend;have hq:(List.map (Placed.td.d true) o).length≤2097152:=by rw [List.length_map];omega
  have hq1:(List.map (Placed.td.d true) (o++[⟨p,t⟩])).length≤2097152:=(by rw [List.length_map,List.length_append,List.length_cons,List.length_nil];omega);simp -implicitDefEqProofs (disch:=omega) only [go_sem,↓reduceIte ,List.length_map,Int.toNat_natCast,Int.ofNat_lt,Int.natCast_nonneg,List.getElem?_map,Option.map_some];refine zAn ?_ ?_<;>intro hlt
  · have hlt:i<b.Tiles.length:=(by simpa using hlt);have e1:=List.getElem?_eq_getElem hlt;have hst:=hstep _ e1;have hL1:=zFp p b.Tiles[i].At;simp only [Point.td_d] at hL1;cases dn with
    | true =>
      simp only [Bool.not_true,Bool.false_and] at hst;simp -implicitDefEqProofs (disch:=omega) only [go_sem,↓reduceIte ,List.length_map,Int.toNat_natCast,Int.ofNat_lt,Int.natCast_nonneg,List.getElem?_map,Option.map_some,hlt,e1,Placed.td_d,wrN];refine ⟨by omega,?_⟩;refine ⟨i+1,by omega,hlt,?_⟩;rw [hst];simp only [Bool.false_eq_true,if_false,List.map_append,List.map_cons,List.map_nil,Placed.td_d]
      (try simp -implicitDefEqProofs only [zCs,zCr,zB0,zB2,zB3,zB1,and_self,and_true,true_and])<;>repeat' (first | exact zBd rfl | exact zCd | apply And.intro | apply zDz | apply zBb | apply zA7 | exact zBo | exact zBm | apply zCe | apply zCl)
    | false =>
      simp -implicitDefEqProofs (disch:=omega) only [go_sem,↓reduceIte ,List.length_map,Int.toNat_natCast,Int.ofNat_lt,Int.natCast_nonneg,List.getElem?_map,Option.map_some,hlt,e1,Placed.td_d];cases l1:zB6 p b.Tiles[i].At with
      | true =>
        rw [l1] at hst;refine zAm (hL1) (by simp -implicitDefEqProofs (disch:=omega) only [go_sem,↓reduceIte,deep,TD.rows,zAe,zAc,zAf,zAb,zAd,zAa,l1,List.length_map,Int.toNat_natCast,Int.ofNat_lt,Int.natCast_nonneg,List.getElem?_map,Option.map_some,hlt,e1,Placed.td_d,wrN];exact rfl) ?_;simp -implicitDefEqProofs (disch:=omega) only [go_sem,↓reduceIte ,l1,List.length_map,Int.toNat_natCast,Int.ofNat_lt,Int.natCast_nonneg,List.getElem?_map,Option.map_some,hlt,e1,Placed.td_d,wrN];refine ⟨by omega,?_⟩;simp -implicitDefEqProofs (disch:=omega) only [go_sem,↓reduceIte ,List.length_map,Int.toNat_natCast,Int.ofNat_lt,Int.natCast_nonneg,List.getElem?_map,Option.map_some,hlt,e1,Placed.td_d,wrN,List.length_append,List.length_map,List.length_cons,List.length_nil];refine ⟨by omega,?_⟩;refine ⟨i+1,by omega,hlt,?_⟩;rw [hst];simp only [Bool.not_false,Bool.true_and,if_true,List.map_append,List.map_cons,List.map_nil,Placed.td_d]
        (try simp -implicitDefEqProofs only [zCs,zCr,zB0,zB2,zB3,zB1,and_self,and_true,true_and])<;>repeat' (first | exact zBd rfl | exact zCd | apply And.intro | apply zDz | apply zBb | apply zA7 | exact zBo | exact zBm | apply zCe | apply zCl)
      | false =>
        rw [l1] at hst;refine zAm (hL1) (by simp -implicitDefEqProofs (disch:=omega) only [go_sem,↓reduceIte,deep,TD.rows,zAe,zAc,zAf,zAb,zAd,zAa,l1,List.length_map,Int.toNat_natCast,Int.ofNat_lt,Int.natCast_nonneg,List.getElem?_map,Option.map_some,hlt,e1,Placed.td_d,wrN];exact rfl) ?_;simp -implicitDefEqProofs (disch:=omega) only [go_sem,↓reduceIte ,l1,List.length_map,Int.toNat_natCast,Int.ofNat_lt,Int.natCast_nonneg,List.getElem?_map,Option.map_some,hlt,e1,Placed.td_d,wrN];refine ⟨by omega,?_⟩;refine ⟨i+1,by omega,hlt,?_⟩;rw [hst];simp only [Bool.not_false,Bool.true_and,Bool.false_eq_true,if_false,List.map_append,List.map_cons,List.map_nil,Placed.td_d]
        (try simp -implicitDefEqProofs only [zCs,zCr,zB0,zB2,zB3,zB1,and_self,and_true,true_and])<;>repeat' (first | exact zBd rfl | exact zCd | apply And.intro | apply zDz | apply zBb | apply zA7 | exact zBo | exact zBm | apply zCe | apply zCl)
  · obtain rfl:i=b.Tiles.length:=(by have:¬ i<b.Tiles.length:=(by simpa using hlt);omega);rw [hend rfl];cases dn with
    | true=>simp -implicitDefEqProofs (disch:=omega) only [go_sem,↓reduceIte]
    | false=>simp -implicitDefEqProofs (disch:=omega) only [go_sem,↓reduceIte ,wrN];refine ⟨by omega,?_⟩;simp only [Bool.false_eq_true,if_false,List.map_append,List.map_cons,List.map_nil,Placed.td_d]
def code_impl_TileSet_tileNamed_1:VCode:=(.seq (.ops [
  ⟨(some 2),none,(.box (.tmp 0))⟩,
  ⟨(some 3),none,(.asg (.const (.bool false)))⟩]) (.seq (.ops [
  ⟨(some 4),none,(.fa 0 (.tmp 2))⟩,
  ⟨(some 5),none,(.load 1 false (.tmp 4))⟩,
  ⟨(some 6),none,(.load 1 false (.tmp 1))⟩,
  ⟨(some 7),none,(.bin .eql (.tmp 5) (.tmp 6))⟩,
  ⟨(some 3),none,(.asg (.tmp 7))⟩]) .ret))
theorem zD4 {a0 a1 d:D}(h:code_impl_TileSet_tileNamed_1.wp (CT Tryz.prog zAr) (zC9 [(.t 3)] d) [a0,a1,.undef,.undef,.undef,.undef,.undef,.undef]):Contract Tryz.prog zAr 85 [a0,a1] d :=
  zAk (pt:=0) zC6 Tryz.func85 (fun us W=>by kernel_rfl) (c:=Tryz.f85.body.getD .skip) (ms:=[]) (ms':=[]) (by kernel_rfl) (by kernel_rfl) (by kernel_rfl) h
def code_impl_TileSet_tileNamed:VCode:=(.seq (.ops [
  ⟨(some 2),none,(.box (.tmp 0))⟩,
  ⟨(some 3),none,(.box (.tmp 1))⟩,
  ⟨(some 4),none,(.asg (.const (.int .i64 0)))⟩]) (.seq (.ops [
  ⟨(some 5),none,(.fa 1 (.tmp 2))⟩,
  ⟨(some 6),none,(.load 1 false (.tmp 5))⟩,
  ⟨(some 7),none,(.mkf 85 [] [(.tmp 3)])⟩,
  ⟨(some 8),none,(.callX 84 [(.tmp 6),(.tmp 7)])⟩,
  ⟨(some 4),none,(.asg (.tmp 8))⟩]) .ret))
theorem zEn {a0 a1 d:D}(h:code_impl_TileSet_tileNamed.wp (CT Tryz.prog zAr) (zC9 [(.t 4)] d) [a0,a1,.undef,.undef,.undef,.undef,.undef,.undef,.undef]):Contract Tryz.prog zAr 50 [a0,a1] d :=
  zAk (pt:=0) zC6 Tryz.func50 (fun us W=>by kernel_rfl) (c:=Tryz.f50.body.getD .skip) (ms:=[]) (ms':=[]) (by kernel_rfl) (by kernel_rfl) (by kernel_rfl) h
theorem zQy (g:Tile)(n:ByteArray):Contract Tryz.prog zAr 85 [.agg (Tile.td.d false g),.iptr [.v (.string n)] 0] (.v (.bool (decide (g.Name=n)))):=by rw [Tile.td_d];refine zD4 ?_;unfold code_impl_TileSet_tileNamed_1;simp -implicitDefEqProofs (disch:=omega) only [go_sem,↓reduceIte]
theorem zS7 (ts:List Tile)(gs:List Glue)(n:ByteArray)(hg:ts.length≤1048576):Contract Tryz.prog zAr 50 [.agg [.sl false 2 (gs.map (Glue.td.d false)),.sl false 2 (ts.map (Tile.td.d false))],.v (.string n)] (.v (.int .i64 (zQu ts n))):=by refine zEn ?_;unfold code_impl_TileSet_tileNamed;simp -implicitDefEqProofs (disch:=omega) only [go_sem,↓reduceIte];refine zAm (zK3 _ [.iptr [.v (.string n)] 0] ⟨rfl,fun _=>rfl,fun _=>rfl,fun _=>rfl⟩ ts (fun g=>decide (g.Name=n)) (fun x _=>zQy x n) (by omega)) (by simp -implicitDefEqProofs (disch:=omega) only [go_sem,↓reduceIte,deep,TD.rows,zAe,zAc,zAf,zAb,zAd,zAa];exact rfl) ?_;simp -implicitDefEqProofs (disch:=omega) only [go_sem,↓reduceIte];rfl
def zG8:Nat→Nat→ByteArray→ByteArray
  | 0,_,out=>out
  | f+1,n,out=>if n=0 then out else zG8 f (n / 10) (zZd [((48+n % 10:Nat):Int)]++out)
def markT (k:Int):ByteArray:=if k≤0 then ⟨⟨[109,48]⟩⟩ else ⟨⟨[109]⟩⟩++zG8 20 k.toNat ⟨⟨[]⟩⟩
theorem zUl (f:Nat)(out:ByteArray):zG8 f 0 out=out:=by cases f<;>rfl
theorem zL7 (xs:List Int):(zZd xs).size=xs.length:=by unfold zZd;simp [ByteArray.size]
theorem zNa:∀ (f n:Nat) (out:ByteArray),(zG8 f n out).size≤f+out.size
  | 0,_,out=>by simp [zG8]
  | f+1,n,out=>by
    unfold zG8;split
    · omega
    · have:=zNa f (n / 10) (zZd [((48+n % 10:Nat):Int)]++out);rw [ByteArray.size_append,zL7] at this;simp only [List.length_cons,List.length_nil] at this;omega
theorem zGr (k:Int):(markT k).size≤maxLen:=by
  unfold markT maxLen;split
  · decide
  · rw [ByteArray.size_append];have:=zNa 20 k.toNat ⟨⟨[]⟩⟩
    have h0:(⟨⟨[]⟩⟩:ByteArray).size=0:=rfl;have h1:(⟨⟨[109]⟩⟩:ByteArray).size=1:=rfl;omega
def code_laws_markText:VCode:=(.seq (.ops [
  ⟨(some 2),none,(.asg (.const (.string ⟨⟨[]⟩⟩)))⟩]) (.seq (.seq (.ops [
  ⟨(some 4),none,(.mv (.tmp 0))⟩,
  ⟨(some 5),none,(.bin .leq (.tmp 4) (.const (.int .i64 0)))⟩]) (.cond (.tmp 5) (.seq (.ops [
  ⟨(some 2),none,(.asg (.const (.string ⟨⟨[109,48]⟩⟩)))⟩]) .ret) .skip)) (.seq (.ops [
  ⟨(some 3),none,(.asg (.const (.string ⟨⟨[]⟩⟩)))⟩]) (.seq (.block 0 (.loop (mB 20 1048566) (.seq (.seq (.ops [
  ⟨(some 6),none,(.mv (.tmp 0))⟩,
  ⟨(some 7),none,(.bin .gtr (.tmp 6) (.const (.int .i64 0)))⟩]) (.cond (.tmp 7) .skip (.exit 0))) (.block 1 (.seq (.ops [
  ⟨(some 8),none,(.mv (.tmp 0))⟩,
  ⟨(some 9),none,(.bin .rem (.tmp 8) (.const (.int .i64 10)))⟩,
  ⟨(some 10),none,(.bin .add (.const (.int .i64 48)) (.tmp 9))⟩,
  ⟨(some 11),none,(.conv .u8 (.tmp 10))⟩,
  ⟨(some 12),none,(.bsl 1 [(.tmp 11)])⟩,
  ⟨(some 13),none,(.b2s (.tmp 12))⟩,
  ⟨(some 14),none,(.mv (.tmp 3))⟩,
  ⟨(some 15),none,(.bin .add (.tmp 13) (.tmp 14))⟩,
  ⟨(some 3),none,(.asg (.tmp 15))⟩]) (.ops [
  ⟨(some 16),none,(.mv (.tmp 0))⟩,
  ⟨(some 17),none,(.bin .quo (.tmp 16) (.const (.int .i64 10)))⟩,
  ⟨(some 0),none,(.asg (.tmp 17))⟩])))))) (.seq (.ops [
  ⟨(some 18),none,(.mv (.tmp 3))⟩,
  ⟨(some 19),none,(.bin .add (.const (.string ⟨⟨[109]⟩⟩)) (.tmp 18))⟩,
  ⟨(some 2),none,(.asg (.tmp 19))⟩]) .ret)))))
theorem zJ6 {a0 d:D}(h:code_laws_markText.wp (CT Tryz.prog NoG) (zC9 [(.t 2)] d) [a0,.undef,.undef,.undef,.undef,.undef,.undef,.undef,.undef,.undef,.undef,.undef,.undef,.undef,.undef,.undef,.undef,.undef,.undef,.undef]):Contract Tryz.prog NoG 60 [a0] d :=
  zAk (pt:=0) noG Tryz.func60 (fun us W=>by kernel_rfl) (c:=Tryz.f60.body.getD .skip) (ms:=[(mB 20 1048566)]) (ms':=[]) (by kernel_rfl) (by kernel_rfl) (by kernel_rfl) h
theorem zWq (k:Int) (hk:k≤4611686018427387904):Contract Tryz.prog NoG 60 [.v (.int .i64 k)] (.v (.string (markT k))):=by
  refine zJ6 ?_;unfold code_laws_markText;simp -implicitDefEqProofs (disch:=omega) only [go_sem,↓reduceIte];refine zAn ?_ ?_<;>intro h
  · have h:k≤0:=of_decide_eq_true h;simp -implicitDefEqProofs (disch:=omega) only [go_sem,↓reduceIte];unfold markT;rw [if_pos h]
  · have h:¬ k≤0:=of_decide_eq_false h;obtain ⟨n,rfl⟩:∃ n:Nat,k=(n:Int):=⟨k.toNat,by omega⟩
    have hm:markT (n:Int)=⟨⟨[109]⟩⟩++zG8 20 n ⟨⟨[]⟩⟩:=(by unfold markT;rw [if_neg h];rfl);simp -implicitDefEqProofs (disch:=omega) only [go_sem,↓reduceIte];refine zCm (fun z:Nat×ByteArray=>[.v (.int .i64 z.1),.undef,.undef,.v (.string z.2),.undef,.undef,.undef,.undef,.undef,.undef,.undef,.undef,.undef,.undef,.undef,.undef,.undef,.undef,.undef,.undef]) (fun z=>z.1≤n∧∃ f,z.1<10 ^ f∧f+z.2.size≤20∧zG8 f z.1 z.2=zG8 20 n ⟨⟨[]⟩⟩) (fun z=>z.1) (n,⟨⟨[]⟩⟩) (zDo) ⟨Nat.le_refl _,20,by simp only;omega,by simp only;exact Nat.le_refl 20,rfl⟩ ?_;rintro ⟨m,out⟩ ⟨hmn,f,hf,hs,hd⟩;simp only at hmn hf hs hd;simp -implicitDefEqProofs (disch:=omega) only [go_sem,↓reduceIte];refine zAn ?_ ?_<;>intro hp
    · have hp:0<m:=(by have:=of_decide_eq_true hp;omega);cases f with
      | zero=>simp at hf;omega
      | succ f =>
        have e1:((m:Nat):Int).tmod 10=((m % 10:Nat):Int):=rfl;have e2:IntKind.i64.wrap (48+((m % 10:Nat):Int))=((48+m % 10:Nat):Int):=(by rw [wrI (by omega) (by omega)];simp);have e3:IntKind.u8.wrap ((48+m % 10:Nat):Int)=((48+m % 10:Nat):Int):=IntWalk.u8_in _ (by omega);have e4:IntKind.i64.wrap (((m:Nat):Int).tdiv 10)=((m / 10:Nat):Int):=(by rw [show ((m:Nat):Int).tdiv 10=((m / 10:Nat):Int) from rfl,wrI (by omega) (by omega)]);simp -implicitDefEqProofs (disch:=omega) only [go_sem,↓reduceIte ,e1,e2,e3];refine And.intro (by omega) ?_;refine ⟨[((48+m % 10:Nat):Int)],rfl,?_⟩;simp -implicitDefEqProofs (disch:=omega) only [go_sem,↓reduceIte ,e4];refine And.intro (by rw [zL7];unfold maxLen;simp only [List.length_cons,List.length_nil];omega) ?_;refine And.intro (by omega) ?_;refine ⟨(m / 10,zZd [((48+m % 10:Nat):Int)]++out),by simp only;omega,⟨by simp only;omega,f,?_,?_,?_⟩,zDo⟩
        · simp only;rw [Nat.pow_succ] at hf;omega
        · simp only;rw [ByteArray.size_append,zL7];simp only [List.length_cons,List.length_nil];omega
        · rw [← hd];simp only [zG8];rw [if_neg (by omega)]
    · have hp:m=0:=(by have:=of_decide_eq_false hp;omega);subst hp;rw [zUl] at hd;simp -implicitDefEqProofs (disch:=omega) only [go_sem,↓reduceIte];refine And.intro (by unfold maxLen;show 1+out.size≤_;omega) ?_;rw [hm,hd]
theorem zKr (k:Int)(w:World)(hk:k≤4611686018427387904):Calls Tryz.prog 60 #[.int .i64 k] w fun e w'=>e=.returned (.string (markT k))∧Below w.heap.size w w':=by refine (Contract.at (us:=[.int .i64 k]) (zWq k hk) gI (Nat.le_refl _) (zL1 (yJu _) zU4)).mono ?_;rintro e w' ⟨⟨v,I,F,rfl,hT,_,_⟩,hb⟩;simp only [T] at hT;exact ⟨by rw [hT.1],hb⟩
end Go.Proofs.YtdlchnlpmofpmaaGreatDoor
