/- Laws that the proof stands on. -/
import Derived.Test.YteaicicfbpehbaaGreatDoorZg12
import Derived.Test.YteaicicfbpehbaaGreatDoorZg13
import Derived.Test.YteaicicfbpehbaaGreatDoorZVTab
import Derived.Test.YteaicicfbpehbaaGreatDoorZg11
set_option linter.all false
namespace Go.Proofs.YteaicicfbpehbaaGreatDoor
open Go.RowKit Go.V
attribute [local go_sem] List.getElem?_cons_succ List.getElem?_cons_zero List.set_cons_succ List.set_cons_zero List.map_cons List.map_nil List.length_cons List.length_nil List.all_cons List.all_nil List.drop_succ_cons List.drop_zero List.take_succ_cons List.take_zero List.flatMap_cons List.flatMap_nil List.cons_append List.nil_append List.append_nil List.headD_cons Value.oneCell' Bool.and_true Bool.true_and Bool.or_false Bool.false_or Bool.and_self Bool.not_true Bool.not_false and_true true_and beq_self_eq_true Bool.false_eq_true if_true if_false Nat.zero_add Nat.reduceAdd Nat.reduceMul Nat.reduceLeDiff Nat.le_refl Option.isSome_some Option.isSome_none not_true_eq_false not_false_eq_true ne_eq reduceCtorEq List.reverse_nil bne_self_eq_false Nat.reduceEqDiff List.isPrefixOf Bool.not_eq_true Bool.and_false Bool.false_and Bool.true_or Bool.or_true decide_true decide_false Nat.reduceBEq Nat.reduceBNe List.replicate_succ List.replicate_zero exists_eq_left' exists_eq_left Option.some.injEq or_false or_true true_or false_or Option.map_some Option.map_none mB Nat.reduceMod Nat.reduceDiv
set_option maxRecDepth 100000
def yNu (l:List UInt8):ByteArray:=⟨l.toArray⟩
def zNf (n:Int):ByteArray:=⟨(zM3 n).toArray⟩
def zT3 (u:Nat):List UInt8:=if u=0 then [] else Lib.decDigits u
theorem zSb {u:Nat} (h:u≠0):zT3 u=zT3 (u / 10)++[UInt8.ofNat (48+u % 10)]:=by
  unfold zT3;rw [if_neg h,Lib.decDigits];by_cases h9:u < 10
  · rw [dif_pos h9,if_pos (by omega),Nat.mod_eq_of_lt h9];rfl
  · rw [dif_neg h9,if_neg (by omega)]
theorem zVg {u k:Nat} (h:u < 10 ^ k):(zT3 u).length≤k:=by
  induction k generalizing u with
  | zero => have:u=0:=by omega
            subst this;simp [zT3]
  | succ k ih =>
    by_cases h0:u=0
    · subst h0;simp [zT3]
    · rw [zSb h0,List.length_append];have:=ih (u:=u / 10) (by rw [Nat.pow_succ] at h;omega);simp only [List.length_cons,List.length_nil];omega
theorem zJs (n:Int) (hn:InK .i64 n):(zNf n).size≤20:=by
  have hn' : -9223372036854775808≤n∧n≤9223372036854775807:=(by have:=hn;unfold InK at this;omega);have h1:(zNf n).size=(zM3 n).length:=rfl;have h2:∀ u:Nat,u < 10 ^ 19→(Lib.decDigits u).length≤19:=by
    intro u hu;by_cases h0:u=0
    · subst h0;rw [Lib.decDigits];simp
    · have:=zVg hu;unfold zT3 at this;rwa [if_neg h0] at this
  rw [h1];unfold zM3 Lib.itoa;by_cases h:n < 0
  · rw [if_pos h,List.length_cons];have:=h2 n.natAbs (by omega);omega
  · rw [if_neg h];have:=h2 n.toNat (by omega)
    omega
def code_impl_Decimal:VCode:=(.seq (.ops [
  ⟨(some 2),none,(.asg (.const (.string ⟨⟨[]⟩⟩)))⟩]) (.seq (.ops [
  ⟨(some 3),none,(.mv (.tmp 0))⟩,
  ⟨(some 4),none,(.callX 99 [(.tmp 3),(.const (.int .i64 10))])⟩,
  ⟨(some 2),none,(.asg (.tmp 4))⟩]) .ret))
theorem zLl {a0 d:D} (h:code_impl_Decimal.wp (CT Tryz.prog zA8) (zD5 [(.t 2)] d) [a0,.undef,.undef,.undef,.undef]):Contract Tryz.prog zA8 88 [a0] d :=
  zAm (pt:=0) zDy Tryz.func88 (fun us W=>by kernel_rfl) (c:=Tryz.f88.body.getD .skip) (ms:=[]) (ms':=[]) (by kernel_rfl) (by kernel_rfl) (by kernel_rfl) h
theorem zCn (n:Int) (hn:InK .i64 n):Contract Tryz.prog zA8 88 [.v (.int .i64 n)] (.v (.string (zNf n))):=by refine zLl ?_;unfold code_impl_Decimal;simp -implicitDefEqProofs (disch:=omega) only [go_sem,↓reduceIte];refine zAk (zSt n hn) (by simp -implicitDefEqProofs (disch:=omega) only [go_sem,↓reduceIte,deep,TD.rows,zAe,zAc,zAf,zAb,zAd,zAa];exact rfl) ?_;simp -implicitDefEqProofs (disch:=omega) only [go_sem,↓reduceIte];rfl
def code_spec_Decimal:VCode:=(.seq (.ops [
  ⟨(some 2),none,(.asg (.const (.string ⟨⟨[]⟩⟩)))⟩]) (.seq (.ops [
  ⟨(some 3),none,(.asg (.const (.string ⟨⟨[]⟩⟩)))⟩]) (.seq (.ops [
  ⟨(some 6),none,(.mv (.tmp 0))⟩,
  ⟨(some 4),none,(.asg (.tmp 6))⟩]) (.seq (.block 0 (.loop (mB 31 2147483622) (.seq (.seq (.ops [
  ⟨(some 7),none,(.mv (.tmp 4))⟩,
  ⟨(some 8),none,(.bin .neq (.tmp 7) (.const (.int .i64 0)))⟩]) (.cond (.tmp 8) .skip (.exit 0))) (.block 1 (.seq (.ops [
  ⟨(some 9),none,(.mv (.tmp 4))⟩,
  ⟨(some 10),none,(.bin .rem (.tmp 9) (.const (.int .i64 10)))⟩,
  ⟨(some 5),none,(.asg (.tmp 10))⟩]) (.seq (.seq (.ops [
  ⟨(some 11),none,(.mv (.tmp 5))⟩,
  ⟨(some 12),none,(.bin .lss (.tmp 11) (.const (.int .i64 0)))⟩]) (.cond (.tmp 12) (.ops [
  ⟨(some 13),none,(.mv (.tmp 5))⟩,
  ⟨(some 14),none,(.un .neg (.tmp 13))⟩,
  ⟨(some 5),none,(.asg (.tmp 14))⟩]) .skip)) (.seq (.ops [
  ⟨(some 15),none,(.mv (.tmp 5))⟩,
  ⟨(some 16),none,(.bin .add (.const (.int .i64 48)) (.tmp 15))⟩,
  ⟨(some 17),none,(.conv .u8 (.tmp 16))⟩,
  ⟨(some 18),none,(.bsl 1 [(.tmp 17)])⟩,
  ⟨(some 19),none,(.b2s (.tmp 18))⟩,
  ⟨(some 20),none,(.mv (.tmp 3))⟩,
  ⟨(some 21),none,(.bin .add (.tmp 19) (.tmp 20))⟩,
  ⟨(some 3),none,(.asg (.tmp 21))⟩]) (.ops [
  ⟨(some 22),none,(.mv (.tmp 4))⟩,
  ⟨(some 23),none,(.bin .quo (.tmp 22) (.const (.int .i64 10)))⟩,
  ⟨(some 4),none,(.asg (.tmp 23))⟩])))))))) (.seq (.seq (.ops [
  ⟨(some 24),none,(.mv (.tmp 0))⟩,
  ⟨(some 25),none,(.bin .eql (.tmp 24) (.const (.int .i64 0)))⟩]) (.cond (.tmp 25) (.seq (.ops [
  ⟨(some 2),none,(.asg (.const (.string ⟨⟨[48]⟩⟩)))⟩]) .ret) .skip)) (.seq (.seq (.ops [
  ⟨(some 26),none,(.mv (.tmp 0))⟩,
  ⟨(some 27),none,(.bin .lss (.tmp 26) (.const (.int .i64 0)))⟩]) (.cond (.tmp 27) (.seq (.ops [
  ⟨(some 28),none,(.mv (.tmp 3))⟩,
  ⟨(some 29),none,(.bin .add (.const (.string ⟨⟨[45]⟩⟩)) (.tmp 28))⟩,
  ⟨(some 2),none,(.asg (.tmp 29))⟩]) .ret) .skip)) (.seq (.ops [
  ⟨(some 30),none,(.mv (.tmp 3))⟩,
  ⟨(some 2),none,(.asg (.tmp 30))⟩]) .ret)))))))
theorem zLg {a0 d:D} (h:code_spec_Decimal.wp (CT Tryz.prog zA8) (zD5 [(.t 2)] d) [a0,.undef,.undef,.undef,.undef,.undef,.undef,.undef,.undef,.undef,.undef,.undef,.undef,.undef,.undef,.undef,.undef,.undef,.undef,.undef,.undef,.undef,.undef,.undef,.undef,.undef,.undef,.undef,.undef,.undef,.undef]):Contract Tryz.prog zA8 43 [a0] d :=
  zAm (pt:=0) zDy Tryz.func43 (fun us W=>by kernel_rfl) (c:=Tryz.f43.body.getD .skip) (ms:=[(mB 31 2147483622)]) (ms':=[]) (by kernel_rfl) (by kernel_rfl) (by kernel_rfl) h
theorem zAr (n:Int) (hn:InK .i64 n):Contract Tryz.prog zA8 43 [.v (.int .i64 n)] (.v (.string (zNf n))):=by
  refine zLg ?_;unfold code_spec_Decimal;have hn' : -9223372036854775808≤n∧n≤9223372036854775807:=by have:=hn;unfold InK at this;omega
  simp -implicitDefEqProofs (disch:=omega) only [go_sem,↓reduceIte];refine zBz (by simp -implicitDefEqProofs (disch:=omega) only [go_sem,↓reduceIte];exact rfl) (fun z:Int × List UInt8=>[(3,.v (.string (yNu z.2))),(4,.v (.int .i64 z.1))]) (fun _=>by simp only [zBy,zBe,List.set_cons_zero,List.set_cons_succ];exact rfl) (fun z:Int × List UInt8=>(-9223372036854775808≤z.1∧z.1≤9223372036854775807)∧zT3 z.1.natAbs++z.2=zT3 n.natAbs) (fun z:Int × List UInt8=>z.1.natAbs) ((n,[])) (zDf) (?_) ?_
  · exact ⟨hn',by simp⟩
  rintro ⟨m,l⟩ ⟨h1,h2⟩;simp only at h1 h2;have hlen:(zT3 n.natAbs).length≤20:=zVg (k:=20) (by omega);have hl:l.length≤20:=by rw [← h2,List.length_append] at hlen;omega
  have hsz:(yNu l).size=l.length:=rfl;by_cases hm:m=0
  · subst hm;have e2:l=zT3 n.natAbs:=h2;by_cases h0:n=0
    · subst h0;simp -implicitDefEqProofs (disch:=omega) only [go_sem,↓reduceIte ,decide_true];have e:zM3 0=[48]:=by simp [zM3,Lib.itoa,Lib.decDigits]
      unfold zNf;rw [e]
    · have hd:zT3 n.natAbs=Lib.decDigits n.natAbs:=(by unfold zT3;rw [if_neg (by omega)]);by_cases h3:n < 0
      · simp -implicitDefEqProofs (disch:=omega) only [go_sem,↓reduceIte ,h0,h3,decide_true,decide_false];refine ⟨by rw [hsz];unfold maxLen;show 1+l.length≤_;omega,?_⟩;have e:zM3 n=45::l:=by unfold zM3 Lib.itoa;rw [if_pos h3,e2,hd]
        unfold zNf yNu;rw [e];exact congrArg Value.string (by apply ByteArray.ext;simp)
      · simp -implicitDefEqProofs (disch:=omega) only [go_sem,↓reduceIte ,h0,h3,decide_true,decide_false];have e:zM3 n=l:=by unfold zM3 Lib.itoa;rw [if_neg h3,e2,hd];congr 1;omega
        unfold zNf yNu;rw [e]
  · obtain ⟨k,hk⟩:∃ k,k=m.natAbs % 10:=⟨_,rfl⟩
    have hk9:k≤9:=(by omega);have hm0:m.natAbs≠0:=(by omega);have hS:zYc [((48+k:Nat):Int)]++yNu l=yNu (UInt8.ofNat (48+k)::l):=(by apply ByteArray.ext;simp only [zYc,yNu,List.map_cons,List.map_nil,Int.toNat_natCast];simp);have hq:(m.tdiv 10).natAbs=m.natAbs / 10:=(by rw [Int.natAbs_tdiv];rfl);have hnext:zT3 (m.natAbs / 10)++UInt8.ofNat (48+k)::l=zT3 n.natAbs:=(by rw [← h2,zSb hm0,← hk,List.append_assoc];rfl);have hb10 : -9223372036854775808≤m.tdiv 10∧m.tdiv 10≤9223372036854775807:=(by have:(m.tdiv 10).natAbs≤922337203685477580:=(by rw [hq];omega);omega);have hsz1:(zYc [((48+k:Nat):Int)]).size=1:=rfl;have w1:IntKind.i64.wrap (48+(k:Int))=((48+k:Nat):Int):=(by rw [wrI (by omega) (by omega)];omega);have w2:IntKind.u8.wrap ((48+k:Nat):Int)=((48+k:Nat):Int):=(by simp [IntKind.wrap,IntKind.signed,IntKind.bits];omega);by_cases h3:m < 0
    · have hd:m.tmod 10 = -(k:Int):=by
        obtain ⟨u,rfl⟩:∃ u:Nat,m = -(u:Int):=⟨m.natAbs,by omega⟩
        rw [Int.neg_tmod];have:((u:Int)).tmod 10=((u % 10:Nat):Int):=rfl;rw [this,hk];congr 2;omega
      have w3:IntKind.i64.wrap (-(-(k:Int)))=(k:Int):=(by rw [wrI (by omega) (by omega)];omega);have w4:IntKind.i64.wrap (0 - (-(k:Int)))=(k:Int):=(by rw [wrI (by omega) (by omega)];omega);simp -implicitDefEqProofs (disch:=omega) only [go_sem,↓reduceIte ,hm,hd];refine ⟨by omega,zAo ?_ ?_⟩ <;> intro hlt
      · simp -implicitDefEqProofs (disch:=omega) only [go_sem,↓reduceIte ,hm,hd,w1,w2,w3,w4];refine ⟨[((48+k:Nat):Int)],rfl,?_,by omega,(m.tdiv 10,UInt8.ofNat (48+k)::l),?_,⟨hb10,?_⟩,?_⟩
        · rw [hsz1,hsz];unfold maxLen;omega
        · simp only;rw [hq];omega
        · simp only;rw [hq];exact hnext
        · rw [hS,wrI hb10.1 hb10.2];(try simp -implicitDefEqProofs only [zCe,zCd,zBs,zBu,zBv,zBt,and_self,and_true,true_and]) <;> repeat' (first | exact zBi rfl | exact zB8 | apply And.intro | apply zCz | apply zA9 | apply zBc | exact zBq | exact zBj | apply zB9 | apply zCa)
      · have e0 : -(k:Int)=(k:Int):=(by have:=hlt;simp at this;omega);simp -implicitDefEqProofs (disch:=omega) only [go_sem,↓reduceIte ,hm,hd,e0,w1,w2];refine ⟨[((48+k:Nat):Int)],rfl,?_,by omega,(m.tdiv 10,UInt8.ofNat (48+k)::l),?_,⟨hb10,?_⟩,?_⟩
        · rw [hsz1,hsz];unfold maxLen;omega
        · simp only;rw [hq];omega
        · simp only;rw [hq];exact hnext
        · rw [hS,wrI hb10.1 hb10.2];(try simp -implicitDefEqProofs only [zCe,zCd,zBs,zBu,zBv,zBt,and_self,and_true,true_and]) <;> repeat' (first | exact zBi rfl | exact zB8 | apply And.intro | apply zCz | apply zA9 | apply zBc | exact zBq | exact zBj | apply zB9 | apply zCa)
    · have hd:m.tmod 10=(k:Int):=by
        obtain ⟨u,rfl⟩:∃ u:Nat,m=(u:Int):=⟨m.natAbs,by omega⟩
        have:((u:Int)).tmod 10=((u % 10:Nat):Int):=rfl;rw [this,hk];congr 2
      have hk0:decide ((k:Int) < 0)=false:=(by rw [decide_eq_false_iff_not];omega);simp -implicitDefEqProofs (disch:=omega) only [go_sem,↓reduceIte ,hm,hd,hk0];refine ⟨by omega,?_⟩;simp -implicitDefEqProofs (disch:=omega) only [go_sem,↓reduceIte ,hm,hd,w1,w2];refine ⟨[((48+k:Nat):Int)],rfl,?_,by omega,(m.tdiv 10,UInt8.ofNat (48+k)::l),?_,⟨hb10,?_⟩,?_⟩
      · rw [hsz1,hsz];unfold maxLen;omega
      · simp only;rw [hq];omega
      · simp only;rw [hq];exact hnext
      · rw [hS,wrI hb10.1 hb10.2];(try simp -implicitDefEqProofs only [zCe,zCd,zBs,zBu,zBv,zBt,and_self,and_true,true_and]) <;> repeat' (first | exact zBi rfl | exact zB8 | apply And.intro | apply zCz | apply zA9 | apply zBc | exact zBq | exact zBj | apply zB9 | apply zCa)
structure setB (a:TileSet):Prop where
  g:a.Glues.length≤1048576
  t:a.Tiles.length≤1048576
  gn:∀ x,x∈a.Glues→x.Name.size≤1048576
  tn:∀ x,x∈a.Tiles→x.Name.size≤1048576
  ts:∀ x,x∈a.Tiles→x.Sides.length≤1048576
def yMn (gs:List Glue) (n:ByteArray):Int:=zV5 (fun g:Glue=>decide (g.Name=n)) gs
def yTi (ts:List Tile) (n:ByteArray):Int:=zV5 (fun t:Tile=>decide (t.Name=n)) ts
/-! names in maps -/
theorem getD_some {s:List Int} {k:Nat} (h:k < s.length):s[k]?=some (s.getD k 0):=by rw [List.getD_eq_getElem?_getD,List.getElem?_eq_getElem h];rfl
theorem zPr {a b:ByteArray}:keq (.string a) (.string b)=decide (b=a):=by rw [Bool.eq_iff_iff,decide_eq_true_eq];show (a==b)=true↔b=a;rw [MapKept.bytes_beq];exact eq_comm
theorem zQv {α:Type} {xs:List α} {i:Nat} (hi:i < xs.length):xs.take i++[xs[i]]=xs.take (i+1):=(List.take_succ_eq_append_getElem hi).symm
def code_spec_l02Glue:VCode:=(.seq (.ops [
  ⟨(some 4),none,(.asg (.const (.int .i64 0)))⟩]) (.seq (.seq (.ops [
  ⟨(some 5),none,(.asg (.const (.int .i64 0)))⟩]) (.block 0 (.loop (mB 27 134217692) (.seq (.seq (.ops [
  ⟨(some 6),none,(.mv (.tmp 5))⟩,
  ⟨(some 7),none,(.mv (.tmp 0))⟩,
  ⟨(some 8),none,(.nilc (.tmp 7))⟩,
  ⟨(some 9),none,(.fa 0 (.tmp 8))⟩,
  ⟨(some 10),none,(.load 1 false (.tmp 9))⟩,
  ⟨(some 11),none,(.len (.tmp 10))⟩,
  ⟨(some 12),none,(.bin .lss (.tmp 6) (.tmp 11))⟩]) (.cond (.tmp 12) .skip (.exit 0))) (.seq (.block 1 (.seq (.ops [
  ⟨(some 15),none,(.mv (.tmp 0))⟩,
  ⟨(some 16),none,(.nilc (.tmp 15))⟩,
  ⟨(some 17),none,(.fa 0 (.tmp 16))⟩,
  ⟨(some 18),none,(.load 1 false (.tmp 17))⟩,
  ⟨(some 19),none,(.mv (.tmp 5))⟩,
  ⟨(some 20),none,(.ia 2 (.tmp 18) (.tmp 19))⟩,
  ⟨(some 21),none,(.fa 0 (.tmp 20))⟩,
  ⟨(some 22),none,(.load 1 false (.tmp 21))⟩,
  ⟨(some 23),none,(.mv (.tmp 1))⟩,
  ⟨(some 24),none,(.bin .eql (.tmp 22) (.tmp 23))⟩]) (.cond (.tmp 24) (.seq (.ops [
  ⟨(some 25),none,(.mv (.tmp 5))⟩,
  ⟨(some 26),none,(.bin .add (.tmp 25) (.const (.int .i64 1)))⟩,
  ⟨(some 4),none,(.asg (.tmp 26))⟩]) .ret) .skip))) (.ops [
  ⟨(some 13),none,(.mv (.tmp 5))⟩,
  ⟨(some 14),none,(.bin .add (.tmp 13) (.const (.int .i64 1)))⟩,
  ⟨(some 5),none,(.asg (.tmp 14))⟩])))))) (.seq (.ops [
  ⟨(some 4),none,(.asg (.const (.int .i64 0)))⟩]) .ret)))
theorem zLf {a0 a1 d:D} (h:code_spec_l02Glue.wp (CT Tryz.prog zA8) (zD5 [(.t 4)] d) [a0,a1,.undef,.undef,.undef,.undef,.undef,.undef,.undef,.undef,.undef,.undef,.undef,.undef,.undef,.undef,.undef,.undef,.undef,.undef,.undef,.undef,.undef,.undef,.undef,.undef,.undef]):Contract Tryz.prog zA8 76 [a0,a1] d :=
  zAm (pt:=0) zDy Tryz.func76 (fun us W=>by kernel_rfl) (c:=Tryz.f76.body.getD .skip) (ms:=[(mB 27 134217692)]) (ms':=[]) (by kernel_rfl) (by kernel_rfl) (by kernel_rfl) h
def code_spec_l02Tile:VCode:=(.seq (.ops [
  ⟨(some 4),none,(.asg (.const (.int .i64 0)))⟩]) (.seq (.seq (.ops [
  ⟨(some 5),none,(.asg (.const (.int .i64 0)))⟩]) (.block 0 (.loop (mB 26 67108828) (.seq (.seq (.ops [
  ⟨(some 6),none,(.mv (.tmp 5))⟩,
  ⟨(some 7),none,(.mv (.tmp 0))⟩,
  ⟨(some 8),none,(.nilc (.tmp 7))⟩,
  ⟨(some 9),none,(.fa 1 (.tmp 8))⟩,
  ⟨(some 10),none,(.load 1 false (.tmp 9))⟩,
  ⟨(some 11),none,(.len (.tmp 10))⟩,
  ⟨(some 12),none,(.bin .lss (.tmp 6) (.tmp 11))⟩]) (.cond (.tmp 12) .skip (.exit 0))) (.seq (.block 1 (.seq (.ops [
  ⟨(some 15),none,(.mv (.tmp 0))⟩,
  ⟨(some 16),none,(.nilc (.tmp 15))⟩,
  ⟨(some 17),none,(.fa 1 (.tmp 16))⟩,
  ⟨(some 18),none,(.load 1 false (.tmp 17))⟩,
  ⟨(some 19),none,(.mv (.tmp 5))⟩,
  ⟨(some 20),none,(.ia 2 (.tmp 18) (.tmp 19))⟩,
  ⟨(some 21),none,(.fa 0 (.tmp 20))⟩,
  ⟨(some 22),none,(.load 1 false (.tmp 21))⟩,
  ⟨(some 23),none,(.mv (.tmp 1))⟩,
  ⟨(some 24),none,(.bin .eql (.tmp 22) (.tmp 23))⟩]) (.cond (.tmp 24) (.seq (.ops [
  ⟨(some 25),none,(.mv (.tmp 5))⟩,
  ⟨(some 4),none,(.asg (.tmp 25))⟩]) .ret) .skip))) (.ops [
  ⟨(some 13),none,(.mv (.tmp 5))⟩,
  ⟨(some 14),none,(.bin .add (.tmp 13) (.const (.int .i64 1)))⟩,
  ⟨(some 5),none,(.asg (.tmp 14))⟩])))))) (.seq (.ops [
  ⟨(some 4),none,(.asg (.const (.int .i64 (-1))))⟩]) .ret)))
theorem zLe {a0 a1 d:D} (h:code_spec_l02Tile.wp (CT Tryz.prog zA8) (zD5 [(.t 4)] d) [a0,a1,.undef,.undef,.undef,.undef,.undef,.undef,.undef,.undef,.undef,.undef,.undef,.undef,.undef,.undef,.undef,.undef,.undef,.undef,.undef,.undef,.undef,.undef,.undef,.undef]):Contract Tryz.prog zA8 77 [a0,a1] d :=
  zAm (pt:=0) zDy Tryz.func77 (fun us W=>by kernel_rfl) (c:=Tryz.f77.body.getD .skip) (ms:=[(mB 26 67108828)]) (ms':=[]) (by kernel_rfl) (by kernel_rfl) (by kernel_rfl) h
theorem zQq (a:TileSet) (n:ByteArray) (hg:a.Glues.length≤1048576):Contract Tryz.prog zA8 76 [.iptr (TileSet.td.d false a) 0,.v (.string n)] (.v (.int .i64 (yMn a.Glues n+1))):=by
  rw [TileSet.td_d];refine zLf ?_;unfold code_spec_l02Glue;simp -implicitDefEqProofs (disch:=omega) only [go_sem,↓reduceIte];refine zFn (fun i:Nat=>[.iptr [.sl false 2 (a.Glues.map (Glue.td.d false)),.sl false 2 (a.Tiles.map (Tile.td.d false))] 0,.v (.string n),.undef,.undef,.undef,.v (.int .i64 i),.undef,.undef,.undef,.undef,.undef,.undef,.undef,.undef,.undef,.undef,.undef,.undef,.undef,.undef,.undef,.undef,.undef,.undef,.undef,.undef,.undef]) (fun i=>i≤a.Glues.length∧∀ j (hj:j < a.Glues.length),j < i→decide (a.Glues[j].Name=n)=false) (fun i=>a.Glues.length - i) 0 (zDf) ⟨Nat.zero_le _,fun _ _ h=>absurd h (Nat.not_lt_zero _)⟩ ?_;rintro i ⟨hi,ha⟩;simp -implicitDefEqProofs (disch:=omega) only [go_sem,↓reduceIte ,List.length_map,Int.toNat_natCast,Int.ofNat_lt,Int.natCast_nonneg,List.getElem?_map,Option.map_some];refine zAo ?_ ?_ <;> intro hlt
  · have hlt:i < a.Glues.length:=(by simpa using hlt);have e1:=List.getElem?_eq_getElem hlt;simp -implicitDefEqProofs (disch:=omega) only [go_sem,↓reduceIte ,List.length_map,Int.toNat_natCast,Int.ofNat_lt,Int.natCast_nonneg,List.getElem?_map,Option.map_some,hlt,e1,Glue.td_d];refine zAo ?_ ?_ <;> intro hc
    · have hv:yMn a.Glues n=(i:Int):=zIr _ a.Glues i hlt (fun j hj h=>ha j hj h) hc;simp -implicitDefEqProofs (disch:=omega) only [go_sem,↓reduceIte ,wrN];rw [hv];simp
    · simp -implicitDefEqProofs (disch:=omega) only [go_sem,↓reduceIte ,wrN];refine ⟨i+1,by omega,⟨hlt,fun j hj h=>?_⟩,zDf⟩;by_cases hji:j=i
      · subst hji;exact hc
      · exact ha j hj (by omega)
  · have hge:i=a.Glues.length:=by have:¬ i < a.Glues.length:=by simpa using hlt
                                  omega
    subst hge;have hv:yMn a.Glues n = -1:=zEv _ a.Glues (fun j hj=>ha j hj hj);simp -implicitDefEqProofs (disch:=omega) only [go_sem,↓reduceIte];rw [hv];rfl
theorem zYp (a:TileSet) (n:ByteArray) (hg:a.Tiles.length≤1048576):Contract Tryz.prog zA8 77 [.iptr (TileSet.td.d false a) 0,.v (.string n)] (.v (.int .i64 (yTi a.Tiles n))):=by
  rw [TileSet.td_d];refine zLe ?_;unfold code_spec_l02Tile;simp -implicitDefEqProofs (disch:=omega) only [go_sem,↓reduceIte];refine zFn (fun i:Nat=>[.iptr [.sl false 2 (a.Glues.map (Glue.td.d false)),.sl false 2 (a.Tiles.map (Tile.td.d false))] 0,.v (.string n),.undef,.undef,.undef,.v (.int .i64 i),.undef,.undef,.undef,.undef,.undef,.undef,.undef,.undef,.undef,.undef,.undef,.undef,.undef,.undef,.undef,.undef,.undef,.undef,.undef,.undef]) (fun i=>i≤a.Tiles.length∧∀ j (hj:j < a.Tiles.length),j < i→decide (a.Tiles[j].Name=n)=false) (fun i=>a.Tiles.length - i) 0 (zDf) ⟨Nat.zero_le _,fun _ _ h=>absurd h (Nat.not_lt_zero _)⟩ ?_;rintro i ⟨hi,ha⟩;simp -implicitDefEqProofs (disch:=omega) only [go_sem,↓reduceIte ,List.length_map,Int.toNat_natCast,Int.ofNat_lt,Int.natCast_nonneg,List.getElem?_map,Option.map_some];refine zAo ?_ ?_ <;> intro hlt
  · have hlt:i < a.Tiles.length:=(by simpa using hlt);have e1:=List.getElem?_eq_getElem hlt;simp -implicitDefEqProofs (disch:=omega) only [go_sem,↓reduceIte ,List.length_map,Int.toNat_natCast,Int.ofNat_lt,Int.natCast_nonneg,List.getElem?_map,Option.map_some,hlt,e1,Tile.td_d];refine zAo ?_ ?_ <;> intro hc
    · have hv:yTi a.Tiles n=(i:Int):=zIr _ a.Tiles i hlt (fun j hj h=>ha j hj h) hc;simp -implicitDefEqProofs (disch:=omega) only [go_sem,↓reduceIte ,wrN];rw [hv]
    · simp -implicitDefEqProofs (disch:=omega) only [go_sem,↓reduceIte ,wrN];refine ⟨i+1,by omega,⟨hlt,fun j hj h=>?_⟩,zDf⟩;by_cases hji:j=i
      · subst hji;exact hc
      · exact ha j hj (by omega)
  · have hge:i=a.Tiles.length:=by have:¬ i < a.Tiles.length:=by simpa using hlt
                                  omega
    subst hge;have hv:yTi a.Tiles n = -1:=zEv _ a.Tiles (fun j hj=>ha j hj hj);simp -implicitDefEqProofs (disch:=omega) only [go_sem,↓reduceIte];rw [hv]
end Go.Proofs.YteaicicfbpehbaaGreatDoor
