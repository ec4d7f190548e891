/- Laws that the proof stands on. -/
import Derived.Test.YteaicicfbpehbaaGreatDoorZVB
import Derived.Test.YteaicicfbpehbaaGreatDoorProg
import Derived.Test.YteaicicfbpehbaaGreatDoorZVTab
import Derived.Test.YteaicicfbpehbaaGreatDoorZg6
import Derived.Test.YteaicicfbpehbaaGreatDoorZg11
set_option linter.all false
namespace Go.Proofs.YteaicicfbpehbaaGreatDoor
open Go.RowKit Go.V
attribute [local go_sem] List.getElem?_cons_succ List.getElem?_cons_zero List.set_cons_succ List.set_cons_zero List.map_cons List.map_nil List.length_cons List.length_nil List.all_cons List.all_nil List.drop_succ_cons List.drop_zero List.take_succ_cons List.take_zero List.flatMap_cons List.flatMap_nil List.cons_append List.nil_append List.append_nil List.headD_cons Value.oneCell' Bool.and_true Bool.true_and Bool.or_false Bool.false_or Bool.and_self Bool.not_true Bool.not_false and_true true_and beq_self_eq_true Bool.false_eq_true if_true if_false Nat.zero_add Nat.reduceAdd Nat.reduceMul Nat.reduceLeDiff Nat.le_refl Option.isSome_some Option.isSome_none not_true_eq_false not_false_eq_true ne_eq reduceCtorEq List.reverse_nil bne_self_eq_false Nat.reduceEqDiff List.isPrefixOf Bool.not_eq_true Bool.and_false Bool.false_and Bool.true_or Bool.or_true decide_true decide_false Nat.reduceBEq Nat.reduceBNe List.replicate_succ List.replicate_zero exists_eq_left' exists_eq_left Option.some.injEq or_false or_true true_or false_or Option.map_some Option.map_none mB Nat.reduceMod Nat.reduceDiv
set_option maxRecDepth 100000
def inR (lo hi n:Int):Bool:=decide (lo≤n)&&decide (n≤hi)
theorem inR_iff {lo hi n:Int}:inR lo hi n=true↔lo≤n∧n≤hi:=by simp [inR]
def code_spec_l00In:VCode:=(.seq (.ops [
  ⟨(some 6),none,(.asg (.const (.bool false)))⟩]) (.seq (.ops [
  ⟨(some 7),none,(.mv (.tmp 0))⟩,
  ⟨(some 8),none,(.mv (.tmp 1))⟩,
  ⟨(some 9),none,(.bin .geq (.tmp 7) (.tmp 8))⟩,
  ⟨(some 10),none,(.mv (.tmp 9))⟩,
  ⟨(some 11),(some (10,true)),(.mv (.tmp 0))⟩,
  ⟨(some 12),(some (10,true)),(.mv (.tmp 2))⟩,
  ⟨(some 13),(some (10,true)),(.bin .leq (.tmp 11) (.tmp 12))⟩,
  ⟨(some 14),none,(.pick (.tmp 10) (.tmp 13) (.const (.bool false)))⟩,
  ⟨(some 6),none,(.asg (.tmp 14))⟩]) .ret))
theorem zN3 {a0 a1 a2 d:D} (h:code_spec_l00In.wp (CT Tryz.prog zA8) (zD5 [(.t 6)] d) [a0,a1,a2,.undef,.undef,.undef,.undef,.undef,.undef,.undef,.undef,.undef,.undef,.undef,.undef]):Contract Tryz.prog zA8 72 [a0,a1,a2] d :=
  zAm (pt:=0) zDy Tryz.func72 (fun us W=>by kernel_rfl) (c:=Tryz.f72.body.getD .skip) (ms:=[]) (ms':=[]) (by kernel_rfl) (by kernel_rfl) (by kernel_rfl) h
theorem zDb (a b c:Int):Contract Tryz.prog zA8 72 [.v (.int .i64 a),.v (.int .i64 b),.v (.int .i64 c)] (.v (.bool (inR b c a))):=by
  refine zN3 ?_;unfold code_spec_l00In inR;simp -implicitDefEqProofs (disch:=omega) only [go_sem,↓reduceIte];refine zEa ?_ ?_ <;> intro h
  · simp -implicitDefEqProofs (disch:=omega) only [go_sem,↓reduceIte ,h]
  · simp -implicitDefEqProofs (disch:=omega) only [go_sem,↓reduceIte ,h]
def code_impl_within:VCode:=(.seq (.ops [
  ⟨(some 6),none,(.asg (.const (.bool false)))⟩]) (.seq (.ops [
  ⟨(some 7),none,(.mv (.tmp 0))⟩,
  ⟨(some 8),none,(.mv (.tmp 1))⟩,
  ⟨(some 9),none,(.bin .geq (.tmp 7) (.tmp 8))⟩,
  ⟨(some 10),none,(.mv (.tmp 9))⟩,
  ⟨(some 11),(some (10,true)),(.mv (.tmp 0))⟩,
  ⟨(some 12),(some (10,true)),(.mv (.tmp 2))⟩,
  ⟨(some 13),(some (10,true)),(.bin .leq (.tmp 11) (.tmp 12))⟩,
  ⟨(some 14),none,(.pick (.tmp 10) (.tmp 13) (.const (.bool false)))⟩,
  ⟨(some 6),none,(.asg (.tmp 14))⟩]) .ret))
theorem zMz {a0 a1 a2 d:D} (h:code_impl_within.wp (CT Tryz.prog zA8) (zD5 [(.t 6)] d) [a0,a1,a2,.undef,.undef,.undef,.undef,.undef,.undef,.undef,.undef,.undef,.undef,.undef,.undef]):Contract Tryz.prog zA8 49 [a0,a1,a2] d :=
  zAm (pt:=0) zDy Tryz.func49 (fun us W=>by kernel_rfl) (c:=Tryz.f49.body.getD .skip) (ms:=[]) (ms':=[]) (by kernel_rfl) (by kernel_rfl) (by kernel_rfl) h
theorem zF6 (a b c:Int):Contract Tryz.prog zA8 49 [.v (.int .i64 a),.v (.int .i64 b),.v (.int .i64 c)] (.v (.bool (inR b c a))):=by
  refine zMz ?_;unfold code_impl_within inR;simp -implicitDefEqProofs (disch:=omega) only [go_sem,↓reduceIte];refine zEa ?_ ?_ <;> intro h
  · simp -implicitDefEqProofs (disch:=omega) only [go_sem,↓reduceIte ,h]
  · simp -implicitDefEqProofs (disch:=omega) only [go_sem,↓reduceIte ,h]
def code_impl_isIndex:VCode:=(.seq (.ops [
  ⟨(some 4),none,(.asg (.const (.bool false)))⟩]) (.seq (.ops [
  ⟨(some 5),none,(.mv (.tmp 0))⟩,
  ⟨(some 6),none,(.mv (.tmp 1))⟩,
  ⟨(some 7),none,(.bin .sub (.tmp 6) (.const (.int .i64 1)))⟩,
  ⟨(some 8),none,(.callX 49 [(.tmp 5),(.const (.int .i64 0)),(.tmp 7)])⟩,
  ⟨(some 4),none,(.asg (.tmp 8))⟩]) .ret))
theorem zLj {a0 a1 d:D} (h:code_impl_isIndex.wp (CT Tryz.prog zA8) (zD5 [(.t 4)] d) [a0,a1,.undef,.undef,.undef,.undef,.undef,.undef,.undef]):Contract Tryz.prog zA8 84 [a0,a1] d :=
  zAm (pt:=0) zDy Tryz.func84 (fun us W=>by kernel_rfl) (c:=Tryz.f84.body.getD .skip) (ms:=[]) (ms':=[]) (by kernel_rfl) (by kernel_rfl) (by kernel_rfl) h
theorem zIp (i n:Int) (h1:0≤n) (h2:n≤1099511627776):Contract Tryz.prog zA8 84 [.v (.int .i64 i),.v (.int .i64 n)] (.v (.bool (inR 0 (n - 1) i))):=by refine zLj ?_;unfold code_impl_isIndex;have hw:IntKind.i64.wrap (n - 1)=n - 1:=wrI (by omega) (by omega);simp -implicitDefEqProofs (disch:=omega) only [go_sem,↓reduceIte ,hw];refine zAk (zF6 _ _ _) (by simp -implicitDefEqProofs (disch:=omega) only [go_sem,↓reduceIte,deep,TD.rows,zAe,zAc,zAf,zAb,zAd,zAa];exact rfl) ?_;simp -implicitDefEqProofs (disch:=omega) only [go_sem,↓reduceIte]
def code_slices_IndexFunc_int64_int64:VCode:=(.seq (.ops [
  ⟨(some 4),none,(.asg (.const (.int .i64 0)))⟩]) (.seq (.seq (.ops [
  ⟨(some 6),none,(.mv (.tmp 0))⟩,
  ⟨(some 7),none,(.len (.tmp 6))⟩,
  ⟨(some 8),none,(.mv (.const (.int .i64 0)))⟩]) (.block 0 (.loop (mB 19 523900) (.seq (.ops [
  ⟨(some 9),none,(.bin .lss (.tmp 8) (.tmp 7))⟩]) (.seq (.cond (.tmp 9) .skip (.exit 0)) (.seq (.block 1 (.seq (.ops [
  ⟨(some 10),none,(.mv (.tmp 8))⟩,
  ⟨(some 5),none,(.asg (.tmp 10))⟩]) (.seq (.ops [
  ⟨(some 11),none,(.mv (.tmp 1))⟩,
  ⟨(some 12),none,(.mv (.tmp 0))⟩,
  ⟨(some 13),none,(.mv (.tmp 5))⟩,
  ⟨(some 14),none,(.ia 1 (.tmp 12) (.tmp 13))⟩,
  ⟨(some 15),none,(.load 1 false (.tmp 14))⟩,
  ⟨(some 16),none,(.callvX (.tmp 11) [(.tmp 15)])⟩]) (.cond (.tmp 16) (.seq (.ops [
  ⟨(some 17),none,(.mv (.tmp 5))⟩,
  ⟨(some 4),none,(.asg (.tmp 17))⟩]) .ret) .skip)))) (.ops [
  ⟨(some 18),none,(.bin .add (.tmp 8) (.const (.int .i64 1)))⟩,
  ⟨(some 8),none,(.mv (.tmp 18))⟩]))))))) (.seq (.ops [
  ⟨(some 4),none,(.asg (.const (.int .i64 (-1))))⟩]) .ret)))
theorem zD2 {a0 a1 d:D} (h:code_slices_IndexFunc_int64_int64.wp (CT Tryz.prog zA8) (zD5 [(.t 4)] d) [a0,a1,.undef,.undef,.undef,.undef,.undef,.undef,.undef,.undef,.undef,.undef,.undef,.undef,.undef,.undef,.undef,.undef,.undef]):Contract Tryz.prog zA8 98 [a0,a1] d :=
  zAm (pt:=0) zDy Tryz.func98 (fun us W=>by kernel_rfl) (c:=Tryz.f98.body.getD .skip) (ms:=[(mB 19 523900)]) (ms':=[]) (by kernel_rfl) (by kernel_rfl) (by kernel_rfl) h
theorem zJ5 (f:FuncId) (caps:List D) (hd:CapsOK caps) (xs:List Int) (p:Int→Bool) (hc:∀ x,x∈xs→Contract Tryz.prog zA8 f (.v (.int .i64 x)::caps) (.v (.bool (p x)))) (hn:xs.length≤1099511627776) :
    Contract Tryz.prog zA8 98 [.sl false 1 (xs.map (rI)),.fn f [] caps] (.v (.int .i64 (zV5 p xs))):=by
  refine zD2 ?_;unfold code_slices_IndexFunc_int64_int64;simp -implicitDefEqProofs (disch:=omega) only [go_sem,↓reduceIte ,hd.owny,hd.pr];refine zFn (fun i:Nat=>[.sl false 1 (xs.map (rI)),.fn f [] caps,.undef,.undef,.undef,.undef,.undef,.v (.int .i64 (xs.map (rI)).length),.v (.int .i64 i),.undef,.undef,.undef,.undef,.undef,.undef,.undef,.undef,.undef,.undef]) (fun i=>i≤xs.length∧∀ j (hj:j < xs.length),j < i→p xs[j]=false) (fun i=>xs.length - i) 0 ?_ ⟨Nat.zero_le _,fun j _ h=>absurd h (Nat.not_lt_zero _)⟩ ?_
  · simp -implicitDefEqProofs (disch:=omega) only [go_sem,↓reduceIte ,hd.owny,hd.pr]
    (try simp -implicitDefEqProofs only [zCe,zCd,zBs,zBu,zBv,zBt,and_self,and_true,true_and]) <;> repeat' (first | exact zBi rfl | exact zB8 | apply And.intro | apply zCz | apply zA9 | apply zBc | exact zBq | exact zBj | apply zB9 | apply zCa)
  rintro i ⟨hi,ha⟩;simp -implicitDefEqProofs (disch:=omega) only [go_sem,↓reduceIte ,List.length_map,Int.toNat_natCast,Int.ofNat_lt,Int.natCast_nonneg,List.getElem?_map,Option.map_some,hd.owny,hd.pr];refine zAo ?_ ?_ <;> intro hlt
  · have hlt:i < xs.length:=(by simpa using hlt);have hx:=List.getElem?_eq_getElem hlt;simp -implicitDefEqProofs (disch:=omega) only [go_sem,↓reduceIte ,List.length_map,Int.toNat_natCast,Int.ofNat_lt,Int.natCast_nonneg,List.getElem?_map,Option.map_some,hlt,hx,hd.owny,hd.pr];have hcx:=hc _ (List.getElem_mem hlt);refine zVp (f:=f) (first:=[]) (caps:=caps) ?_ hcx ?_ (.inl rfl) ?_
    · simp -implicitDefEqProofs (disch:=omega) only [go_sem,↓reduceIte ,hd.owny]
    · refine zAl ?_;simp only [List.nil_append,List.cons_append,List.map_cons,List.map_nil,hd.d8,List.map_append];simp only [deep,raw,List.getElem?_cons_succ,List.getElem?_cons_zero,List.map_cons,List.map_nil,TD.rows,zAe,zAc,zAf,zAb]
    simp -implicitDefEqProofs (disch:=omega) only [go_sem,↓reduceIte ,hd.owny,hd.pr];refine zAo ?_ ?_ <;> intro hp
    · simp -implicitDefEqProofs (disch:=omega) only [go_sem,↓reduceIte ,hd.owny,hd.pr];rw [zIr p xs i hlt ha hp]
    · simp -implicitDefEqProofs (disch:=omega) only [go_sem,↓reduceIte ,wrN,hd.owny,hd.pr];refine ⟨i+1,by omega,⟨hlt,fun j hj h=>?_⟩,zDf⟩;rcases Nat.lt_or_ge j i with h' | h'
      · exact ha j hj h'
      · have:j=i:=(by omega);subst this;exact hp
  · have hlt:¬ i < xs.length:=(by simpa using hlt);simp -implicitDefEqProofs (disch:=omega) only [go_sem,↓reduceIte];rw [zEv p xs (fun j hj=>ha j hj (by omega))]
def code_slices_ContainsFunc_int64_int64:VCode:=(.seq (.ops [
  ⟨(some 4),none,(.asg (.const (.bool false)))⟩]) (.seq (.ops [
  ⟨(some 5),none,(.mv (.tmp 0))⟩,
  ⟨(some 6),none,(.mv (.tmp 1))⟩,
  ⟨(some 7),none,(.callX 98 [(.tmp 5),(.tmp 6)])⟩,
  ⟨(some 8),none,(.bin .geq (.tmp 7) (.const (.int .i64 0)))⟩,
  ⟨(some 4),none,(.asg (.tmp 8))⟩]) .ret))
theorem zDt {a0 a1 d:D} (h:code_slices_ContainsFunc_int64_int64.wp (CT Tryz.prog zA8) (zD5 [(.t 4)] d) [a0,a1,.undef,.undef,.undef,.undef,.undef,.undef,.undef]):Contract Tryz.prog zA8 85 [a0,a1] d :=
  zAm (pt:=0) zDy Tryz.func85 (fun us W=>by kernel_rfl) (c:=Tryz.f85.body.getD .skip) (ms:=[]) (ms':=[]) (by kernel_rfl) (by kernel_rfl) (by kernel_rfl) h
theorem zHr (f:FuncId) (caps:List D) (hd:CapsOK caps) (xs:List Int) (p:Int→Bool) (hc:∀ x,x∈xs→Contract Tryz.prog zA8 f (.v (.int .i64 x)::caps) (.v (.bool (p x)))) (hn:xs.length≤1099511627776) :
    Contract Tryz.prog zA8 85 [.sl false 1 (xs.map (rI)),.fn f [] caps] (.v (.bool (xs.any p))):=by
  refine zDt ?_;unfold code_slices_ContainsFunc_int64_int64;simp -implicitDefEqProofs (disch:=omega) only [go_sem,↓reduceIte ,hd.owny,hd.pr];refine zT8 (zJ5 f caps hd xs p hc hn) ?_ (.inl rfl) ?_
  · refine zAl ?_;simp only [List.map_cons,List.map_nil,deep,raw,List.getElem?_cons_succ,List.getElem?_cons_zero,TD.rows,zAe,zAc,zAf,zAb,hd.owny,hd.pr,hd.d7]
    try rfl
  simp -implicitDefEqProofs (disch:=omega) only [go_sem,↓reduceIte];exact congrArg Value.bool (zPb p xs)
def zHx:Nat→Nat→ByteArray→ByteArray
  | 0,_,out=>out
  | f+1,n,out=>if n=0 then out else zHx f (n / 10) (zYc [((48+n % 10:Nat):Int)]++out)
def markT (k:Int):ByteArray:=if k≤0 then ⟨⟨[109,48]⟩⟩ else ⟨⟨[109]⟩⟩++zHx 20 k.toNat ⟨⟨[]⟩⟩
theorem zT5 (f:Nat) (out:ByteArray):zHx f 0 out=out:=by cases f <;> rfl
theorem zMc (xs:List Int):(zYc xs).size=xs.length:=by unfold zYc;simp [ByteArray.size]
theorem zNg:∀ (f n:Nat) (out:ByteArray),(zHx f n out).size≤f+out.size
  | 0,_,out=>by simp [zHx]
  | f+1,n,out=>by
    unfold zHx;split
    · omega
    · have:=zNg f (n / 10) (zYc [((48+n % 10:Nat):Int)]++out);rw [ByteArray.size_append,zMc] at this;simp only [List.length_cons,List.length_nil] at this;omega
theorem zHn (k:Int):(markT k).size≤maxLen:=by
  unfold markT maxLen;split
  · decide
  · rw [ByteArray.size_append];have:=zNg 20 k.toNat ⟨⟨[]⟩⟩
    have h0:(⟨⟨[]⟩⟩:ByteArray).size=0:=rfl;have h1:(⟨⟨[109]⟩⟩:ByteArray).size=1:=rfl;omega
def code_laws_markText:VCode:=(.seq (.ops [
  ⟨(some 2),none,(.asg (.const (.string ⟨⟨[]⟩⟩)))⟩]) (.seq (.seq (.ops [
  ⟨(some 4),none,(.mv (.tmp 0))⟩,
  ⟨(some 5),none,(.bin .leq (.tmp 4) (.const (.int .i64 0)))⟩]) (.cond (.tmp 5) (.seq (.ops [
  ⟨(some 2),none,(.asg (.const (.string ⟨⟨[109,48]⟩⟩)))⟩]) .ret) .skip)) (.seq (.ops [
  ⟨(some 3),none,(.asg (.const (.string ⟨⟨[]⟩⟩)))⟩]) (.seq (.block 0 (.loop (mB 20 1048566) (.seq (.seq (.ops [
  ⟨(some 6),none,(.mv (.tmp 0))⟩,
  ⟨(some 7),none,(.bin .gtr (.tmp 6) (.const (.int .i64 0)))⟩]) (.cond (.tmp 7) .skip (.exit 0))) (.block 1 (.seq (.ops [
  ⟨(some 8),none,(.mv (.tmp 0))⟩,
  ⟨(some 9),none,(.bin .rem (.tmp 8) (.const (.int .i64 10)))⟩,
  ⟨(some 10),none,(.bin .add (.const (.int .i64 48)) (.tmp 9))⟩,
  ⟨(some 11),none,(.conv .u8 (.tmp 10))⟩,
  ⟨(some 12),none,(.bsl 1 [(.tmp 11)])⟩,
  ⟨(some 13),none,(.b2s (.tmp 12))⟩,
  ⟨(some 14),none,(.mv (.tmp 3))⟩,
  ⟨(some 15),none,(.bin .add (.tmp 13) (.tmp 14))⟩,
  ⟨(some 3),none,(.asg (.tmp 15))⟩]) (.ops [
  ⟨(some 16),none,(.mv (.tmp 0))⟩,
  ⟨(some 17),none,(.bin .quo (.tmp 16) (.const (.int .i64 10)))⟩,
  ⟨(some 0),none,(.asg (.tmp 17))⟩])))))) (.seq (.ops [
  ⟨(some 18),none,(.mv (.tmp 3))⟩,
  ⟨(some 19),none,(.bin .add (.const (.string ⟨⟨[109]⟩⟩)) (.tmp 18))⟩,
  ⟨(some 2),none,(.asg (.tmp 19))⟩]) .ret)))))
theorem zKi {a0 d:D} (h:code_laws_markText.wp (CT Tryz.prog NoG) (zD5 [(.t 2)] d) [a0,.undef,.undef,.undef,.undef,.undef,.undef,.undef,.undef,.undef,.undef,.undef,.undef,.undef,.undef,.undef,.undef,.undef,.undef,.undef]):Contract Tryz.prog NoG 94 [a0] d :=
  zAm (pt:=0) noG Tryz.func94 (fun us W=>by kernel_rfl) (c:=Tryz.f94.body.getD .skip) (ms:=[(mB 20 1048566)]) (ms':=[]) (by kernel_rfl) (by kernel_rfl) (by kernel_rfl) h
theorem zVz (k:Int) (hk:k≤4611686018427387904):Contract Tryz.prog NoG 94 [.v (.int .i64 k)] (.v (.string (markT k))):=by
  refine zKi ?_;unfold code_laws_markText;simp -implicitDefEqProofs (disch:=omega) only [go_sem,↓reduceIte];refine zAo ?_ ?_ <;> intro h
  · have h:k≤0:=of_decide_eq_true h;simp -implicitDefEqProofs (disch:=omega) only [go_sem,↓reduceIte];unfold markT;rw [if_pos h]
  · have h:¬ k≤0:=of_decide_eq_false h;obtain ⟨n,rfl⟩:∃ n:Nat,k=(n:Int):=⟨k.toNat,by omega⟩
    have hm:markT (n:Int)=⟨⟨[109]⟩⟩++zHx 20 n ⟨⟨[]⟩⟩:=(by unfold markT;rw [if_neg h];rfl);simp -implicitDefEqProofs (disch:=omega) only [go_sem,↓reduceIte];refine zFn (fun z:Nat × ByteArray=>[.v (.int .i64 z.1),.undef,.undef,.v (.string z.2),.undef,.undef,.undef,.undef,.undef,.undef,.undef,.undef,.undef,.undef,.undef,.undef,.undef,.undef,.undef,.undef]) (fun z=>z.1≤n∧∃ f,z.1 < 10 ^ f∧f+z.2.size≤20∧zHx f z.1 z.2=zHx 20 n ⟨⟨[]⟩⟩) (fun z=>z.1) (n,⟨⟨[]⟩⟩) (zDf) ⟨Nat.le_refl _,20,by simp only;omega,by simp only;exact Nat.le_refl 20,rfl⟩ ?_;rintro ⟨m,out⟩ ⟨hmn,f,hf,hs,hd⟩;simp only at hmn hf hs hd;simp -implicitDefEqProofs (disch:=omega) only [go_sem,↓reduceIte];refine zAo ?_ ?_ <;> intro hp
    · have hp:0 < m:=(by have:=of_decide_eq_true hp;omega);cases f with
      | zero=>simp at hf;omega
      | succ f =>
        have e1:((m:Nat):Int).tmod 10=((m % 10:Nat):Int):=rfl;have e2:IntKind.i64.wrap (48+((m % 10:Nat):Int))=((48+m % 10:Nat):Int):=(by rw [wrI (by omega) (by omega)];simp);have e3:IntKind.u8.wrap ((48+m % 10:Nat):Int)=((48+m % 10:Nat):Int):=IntWalk.u8_in _ (by omega);have e4:IntKind.i64.wrap (((m:Nat):Int).tdiv 10)=((m / 10:Nat):Int):=(by rw [show ((m:Nat):Int).tdiv 10=((m / 10:Nat):Int) from rfl,wrI (by omega) (by omega)]);simp -implicitDefEqProofs (disch:=omega) only [go_sem,↓reduceIte ,e1,e2,e3];refine And.intro (by omega) ?_;refine ⟨[((48+m % 10:Nat):Int)],rfl,?_⟩;simp -implicitDefEqProofs (disch:=omega) only [go_sem,↓reduceIte ,e4];refine And.intro (by rw [zMc];unfold maxLen;simp only [List.length_cons,List.length_nil];omega) ?_;refine And.intro (by omega) ?_;refine ⟨(m / 10,zYc [((48+m % 10:Nat):Int)]++out),by simp only;omega,⟨by simp only;omega,f,?_,?_,?_⟩,zDf⟩
        · simp only;rw [Nat.pow_succ] at hf;omega
        · simp only;rw [ByteArray.size_append,zMc];simp only [List.length_cons,List.length_nil];omega
        · rw [← hd];simp only [zHx];rw [if_neg (by omega)]
    · have hp:m=0:=(by have:=of_decide_eq_false hp;omega);subst hp;rw [zT5] at hd;simp -implicitDefEqProofs (disch:=omega) only [go_sem,↓reduceIte];refine And.intro (by unfold maxLen;show 1+out.size≤_;omega) ?_;rw [hm,hd]
theorem zFg (k:Int) (w:World) (hk:k≤4611686018427387904):Calls Tryz.prog 94 #[.int .i64 k] w fun e w'=>e=.returned (.string (markT k))∧Below w.heap.size w w':=by refine (Contract.at (us:=[.int .i64 k]) (zVz k hk) gI (Nat.le_refl _) (zL6 (yO3 _) zUf)).mono ?_;rintro e w' ⟨⟨v,I,F,rfl,hT,_,_⟩,hb⟩;simp only [T] at hT;exact ⟨by rw [hT.1],hb⟩
def yOy (a b:Int):Int:=if a < b then -1 else if b < a then 1 else 0
def code_cmp_isNaN_int64:VCode:=(.seq (.ops [
  ⟨(some 2),none,(.asg (.const (.bool false)))⟩]) (.seq (.ops [
  ⟨(some 3),none,(.mv (.tmp 0))⟩,
  ⟨(some 4),none,(.mv (.tmp 0))⟩,
  ⟨(some 5),none,(.bin .neq (.tmp 3) (.tmp 4))⟩,
  ⟨(some 2),none,(.asg (.tmp 5))⟩]) .ret))
theorem zIb {a0 d:D} (h:code_cmp_isNaN_int64.wp (CT Tryz.prog zA8) (zD5 [(.t 2)] d) [a0,.undef,.undef,.undef,.undef,.undef]):Contract Tryz.prog zA8 97 [a0] d :=
  zAm (pt:=0) zDy Tryz.func97 (fun us W=>by kernel_rfl) (c:=Tryz.f97.body.getD .skip) (ms:=[]) (ms':=[]) (by kernel_rfl) (by kernel_rfl) (by kernel_rfl) h
theorem zYq (a:Int):Contract Tryz.prog zA8 97 [.v (.int .i64 a)] (.v (.bool false)):=by refine zIb ?_;unfold code_cmp_isNaN_int64;simp -implicitDefEqProofs (disch:=omega) only [go_sem,↓reduceIte]
def code_cmp_Compare_int64:VCode:=(.seq (.ops [
  ⟨(some 4),none,(.asg (.const (.int .i64 0)))⟩]) (.seq (.ops [
  ⟨(some 7),none,(.mv (.tmp 0))⟩,
  ⟨(some 8),none,(.callX 97 [(.tmp 7)])⟩,
  ⟨(some 5),none,(.asg (.tmp 8))⟩]) (.seq (.ops [
  ⟨(some 9),none,(.mv (.tmp 1))⟩,
  ⟨(some 10),none,(.callX 97 [(.tmp 9)])⟩,
  ⟨(some 6),none,(.asg (.tmp 10))⟩]) (.seq (.seq (.ops [
  ⟨(some 11),none,(.mv (.tmp 5))⟩]) (.cond (.tmp 11) (.seq (.seq (.ops [
  ⟨(some 12),none,(.mv (.tmp 6))⟩]) (.cond (.tmp 12) (.seq (.ops [
  ⟨(some 4),none,(.asg (.const (.int .i64 0)))⟩]) .ret) .skip)) (.seq (.ops [
  ⟨(some 4),none,(.asg (.const (.int .i64 (-1))))⟩]) .ret)) .skip)) (.seq (.seq (.ops [
  ⟨(some 13),none,(.mv (.tmp 6))⟩]) (.cond (.tmp 13) (.seq (.ops [
  ⟨(some 4),none,(.asg (.const (.int .i64 1)))⟩]) .ret) .skip)) (.seq (.seq (.ops [
  ⟨(some 14),none,(.mv (.tmp 0))⟩,
  ⟨(some 15),none,(.mv (.tmp 1))⟩,
  ⟨(some 16),none,(.bin .lss (.tmp 14) (.tmp 15))⟩]) (.cond (.tmp 16) (.seq (.ops [
  ⟨(some 4),none,(.asg (.const (.int .i64 (-1))))⟩]) .ret) .skip)) (.seq (.seq (.ops [
  ⟨(some 17),none,(.mv (.tmp 0))⟩,
  ⟨(some 18),none,(.mv (.tmp 1))⟩,
  ⟨(some 19),none,(.bin .gtr (.tmp 17) (.tmp 18))⟩]) (.cond (.tmp 19) (.seq (.ops [
  ⟨(some 4),none,(.asg (.const (.int .i64 1)))⟩]) .ret) .skip)) (.seq (.ops [
  ⟨(some 4),none,(.asg (.const (.int .i64 0)))⟩]) .ret))))))))
theorem zG5 {a0 a1 d:D} (h:code_cmp_Compare_int64.wp (CT Tryz.prog zA8) (zD5 [(.t 4)] d) [a0,a1,.undef,.undef,.undef,.undef,.undef,.undef,.undef,.undef,.undef,.undef,.undef,.undef,.undef,.undef,.undef,.undef,.undef,.undef]):Contract Tryz.prog zA8 82 [a0,a1] d :=
  zAm (pt:=0) zDy Tryz.func82 (fun us W=>by kernel_rfl) (c:=Tryz.f82.body.getD .skip) (ms:=[]) (ms':=[]) (by kernel_rfl) (by kernel_rfl) (by kernel_rfl) h
theorem zQt (a b:Int):Contract Tryz.prog zA8 82 [.v (.int .i64 a),.v (.int .i64 b)] (.v (.int .i64 (yOy a b))):=by
  refine zG5 ?_;unfold code_cmp_Compare_int64 yOy;simp -implicitDefEqProofs (disch:=omega) only [go_sem,↓reduceIte];refine zAk (zYq a) (by simp -implicitDefEqProofs (disch:=omega) only [go_sem,↓reduceIte,deep,TD.rows,zAe,zAc,zAf,zAb,zAd,zAa];exact rfl) ?_;simp -implicitDefEqProofs (disch:=omega) only [go_sem,↓reduceIte];refine zAk (zYq b) (by simp -implicitDefEqProofs (disch:=omega) only [go_sem,↓reduceIte,deep,TD.rows,zAe,zAc,zAf,zAb,zAd,zAa];exact rfl) ?_;simp -implicitDefEqProofs (disch:=omega) only [go_sem,↓reduceIte];refine zAo ?_ ?_ <;> intro h
  · have:=of_decide_eq_true h;simp -implicitDefEqProofs (disch:=omega) only [go_sem,↓reduceIte];simp [this]
  · have h1:=of_decide_eq_false h;simp -implicitDefEqProofs (disch:=omega) only [go_sem,↓reduceIte];refine zAo ?_ ?_ <;> intro h
    · have:=of_decide_eq_true h;simp -implicitDefEqProofs (disch:=omega) only [go_sem,↓reduceIte];simp [h1,this]
    · have:=of_decide_eq_false h;simp -implicitDefEqProofs (disch:=omega) only [go_sem,↓reduceIte];simp [h1,this]
def code_cmp_Or_int:VCode:=(.seq (.ops [
  ⟨(some 2),none,(.asg (.const (.int .i64 0)))⟩]) (.seq (.ops [
  ⟨(some 3),none,(.asg (.const (.int .i64 0)))⟩]) (.seq (.seq (.ops [
  ⟨(some 6),none,(.mv (.tmp 0))⟩,
  ⟨(some 7),none,(.len (.tmp 6))⟩,
  ⟨(some 8),none,(.mv (.const (.int .i64 0)))⟩]) (.block 0 (.loop (mB 18 261687) (.seq (.ops [
  ⟨(some 9),none,(.bin .lss (.tmp 8) (.tmp 7))⟩]) (.seq (.cond (.tmp 9) .skip (.exit 0)) (.seq (.block 1 (.seq (.ops [
  ⟨(some 10),none,(.ia 1 (.tmp 6) (.tmp 8))⟩,
  ⟨(some 11),none,(.load 1 false (.tmp 10))⟩,
  ⟨(some 5),none,(.asg (.tmp 11))⟩]) (.seq (.ops [
  ⟨(some 12),none,(.mv (.tmp 5))⟩,
  ⟨(some 13),none,(.mv (.tmp 3))⟩,
  ⟨(some 14),none,(.bin .neq (.tmp 12) (.tmp 13))⟩]) (.cond (.tmp 14) (.seq (.ops [
  ⟨(some 15),none,(.mv (.tmp 5))⟩,
  ⟨(some 2),none,(.asg (.tmp 15))⟩]) .ret) .skip)))) (.ops [
  ⟨(some 16),none,(.bin .add (.tmp 8) (.const (.int .i64 1)))⟩,
  ⟨(some 8),none,(.mv (.tmp 16))⟩]))))))) (.seq (.ops [
  ⟨(some 17),none,(.mv (.tmp 3))⟩,
  ⟨(some 2),none,(.asg (.tmp 17))⟩]) .ret))))
theorem zN5 {a0 d:D} (h:code_cmp_Or_int.wp (CT Tryz.prog zA8) (zD5 [(.t 2)] d) [a0,.undef,.undef,.undef,.undef,.undef,.undef,.undef,.undef,.undef,.undef,.undef,.undef,.undef,.undef,.undef,.undef,.undef]):Contract Tryz.prog zA8 81 [a0] d :=
  zAm (pt:=0) zDy Tryz.func81 (fun us W=>by kernel_rfl) (c:=Tryz.f81.body.getD .skip) (ms:=[(mB 18 261687)]) (ms':=[]) (by kernel_rfl) (by kernel_rfl) (by kernel_rfl) h
theorem yTv (a b:Int):Contract Tryz.prog zA8 81 [.sl false 1 [[.v (.int .i64 a)],[.v (.int .i64 b)]]] (.v (.int .i64 (if a=0 then b else a))):=by
  refine zN5 ?_;unfold code_cmp_Or_int;simp -implicitDefEqProofs (disch:=omega) only [go_sem,↓reduceIte];refine zFn (fun i:Nat=>[.undef,.undef,.undef,.v (.int .i64 0),.undef,.undef,.sl false 1 [[.v (.int .i64 a)],[.v (.int .i64 b)]],.v (.int .i64 2),.v (.int .i64 i),.undef,.undef,.undef,.undef,.undef,.undef,.undef,.undef,.undef]) (fun i=>i=0∨(i=1∧a=0)∨(i=2∧a=0∧b=0)) (fun i=>2 - i) 0 (zDf) (.inl rfl) ?_;rintro i (rfl | ⟨rfl,h0⟩ | ⟨rfl,h0,h1⟩)
  · simp -implicitDefEqProofs (disch:=omega) only [go_sem,↓reduceIte ,Int.natCast_zero,Int.natCast_one,Int.cast_ofNat_Int,Int.ofNat_le,Int.toNat_zero,Nat.sub_zero,Int.le_refl,Int.reduceLT,Int.reduceLE,Int.reduceEq,Int.reduceAdd,Int.reduceSub,Int.reduceMul,Int.reduceToNat,Int.reduceNeg];refine zAo ?_ ?_ <;> intro h
    · simp -implicitDefEqProofs (disch:=omega) only [go_sem,↓reduceIte];simp at h;simp [h]
    · simp -implicitDefEqProofs (disch:=omega) only [go_sem,↓reduceIte ,Int.natCast_zero,Int.natCast_one,Int.cast_ofNat_Int,Int.ofNat_le,Int.toNat_zero,Nat.sub_zero,Int.le_refl,Int.reduceLT,Int.reduceLE,Int.reduceEq,Int.reduceAdd,Int.reduceSub,Int.reduceMul,Int.reduceToNat,Int.reduceNeg,IntWalk.i64_in];simp at h;exact ⟨1,by omega,.inr (.inl ⟨rfl,h⟩),zDf⟩
  · simp -implicitDefEqProofs (disch:=omega) only [go_sem,↓reduceIte ,Int.natCast_zero,Int.natCast_one,Int.cast_ofNat_Int,Int.ofNat_le,Int.toNat_zero,Nat.sub_zero,Int.le_refl,Int.reduceLT,Int.reduceLE,Int.reduceEq,Int.reduceAdd,Int.reduceSub,Int.reduceMul,Int.reduceToNat,Int.reduceNeg];refine zAo ?_ ?_ <;> intro h
    · simp -implicitDefEqProofs (disch:=omega) only [go_sem,↓reduceIte];simp [h0]
    · simp -implicitDefEqProofs (disch:=omega) only [go_sem,↓reduceIte ,Int.natCast_zero,Int.natCast_one,Int.cast_ofNat_Int,Int.ofNat_le,Int.toNat_zero,Nat.sub_zero,Int.le_refl,Int.reduceLT,Int.reduceLE,Int.reduceEq,Int.reduceAdd,Int.reduceSub,Int.reduceMul,Int.reduceToNat,Int.reduceNeg];simp at h;exact ⟨2,by omega,.inr (.inr ⟨rfl,h0,h⟩),zDf⟩
  · simp -implicitDefEqProofs (disch:=omega) only [go_sem,↓reduceIte ,Int.natCast_zero,Int.natCast_one,Int.cast_ofNat_Int,Int.ofNat_le,Int.toNat_zero,Nat.sub_zero,Int.le_refl,Int.reduceLT,Int.reduceLE,Int.reduceEq,Int.reduceAdd,Int.reduceSub,Int.reduceMul,Int.reduceToNat,Int.reduceNeg];simp [h0,h1]
def code_impl_below_1:VCode:=(.seq (.ops [
  ⟨(some 3),none,(.asg (.const (.bool false)))⟩]) (.seq (.ops [
  ⟨(some 4),none,(.mv (.tmp 0))⟩,
  ⟨(some 5),none,(.load 1 false (.tmp 1))⟩,
  ⟨(some 6),none,(.bin .sub (.tmp 5) (.const (.int .i64 1)))⟩,
  ⟨(some 7),none,(.callX 49 [(.tmp 4),(.const (.int .i64 0)),(.tmp 6)])⟩,
  ⟨(some 8),none,(.un .not (.tmp 7))⟩,
  ⟨(some 3),none,(.asg (.tmp 8))⟩]) .ret))
theorem zLk {a0 a1 d:D} (h:code_impl_below_1.wp (CT Tryz.prog zA8) (zD5 [(.t 3)] d) [a0,a1,.undef,.undef,.undef,.undef,.undef,.undef,.undef]):Contract Tryz.prog zA8 86 [a0,a1] d :=
  zAm (pt:=0) zDy Tryz.func86 (fun us W=>by kernel_rfl) (c:=Tryz.f86.body.getD .skip) (ms:=[]) (ms':=[]) (by kernel_rfl) (by kernel_rfl) (by kernel_rfl) h
def code_impl_below:VCode:=(.seq (.ops [
  ⟨(some 3),none,(.box (.tmp 1))⟩,
  ⟨(some 4),none,(.asg (.const (.bool false)))⟩]) (.seq (.ops [
  ⟨(some 5),none,(.mv (.tmp 0))⟩,
  ⟨(some 6),none,(.mkf 86 [] [(.tmp 3)])⟩,
  ⟨(some 7),none,(.callX 85 [(.tmp 5),(.tmp 6)])⟩,
  ⟨(some 8),none,(.un .not (.tmp 7))⟩,
  ⟨(some 4),none,(.asg (.tmp 8))⟩]) .ret))
theorem zN4 {a0 a1 d:D} (h:code_impl_below.wp (CT Tryz.prog zA8) (zD5 [(.t 4)] d) [a0,a1,.undef,.undef,.undef,.undef,.undef,.undef,.undef]):Contract Tryz.prog zA8 55 [a0,a1] d :=
  zAm (pt:=0) zDy Tryz.func55 (fun us W=>by kernel_rfl) (c:=Tryz.f55.body.getD .skip) (ms:=[]) (ms':=[]) (by kernel_rfl) (by kernel_rfl) (by kernel_rfl) h
theorem yC7 (n l:Int) (hl:0≤l) (hl2:l≤1099511627776):Contract Tryz.prog zA8 86 [.v (.int .i64 n),.iptr [.v (.int .i64 l)] 0] (.v (.bool (!inR 0 (l - 1) n))):=by refine zLk ?_;unfold code_impl_below_1;have hw:IntKind.i64.wrap (l - 1)=l - 1:=wrI (by omega) (by omega);simp -implicitDefEqProofs (disch:=omega) only [go_sem,↓reduceIte ,hw];refine zAk (zF6 n 0 (l - 1)) (by simp -implicitDefEqProofs (disch:=omega) only [go_sem,↓reduceIte,deep,TD.rows,zAe,zAc,zAf,zAb,zAd,zAa];exact rfl) ?_;simp -implicitDefEqProofs (disch:=omega) only [go_sem,↓reduceIte]
theorem yI4 (xs:List Int) (l:Int) (hl:0≤l) (hl2:l≤1099511627776) (hn:xs.length≤1048576):Contract Tryz.prog zA8 55 [.sl false 1 (xs.map rI),.v (.int .i64 l)] (.v (.bool (xs.all (inR 0 (l - 1))))):=by refine zN4 ?_;unfold code_impl_below;simp -implicitDefEqProofs (disch:=omega) only [go_sem,↓reduceIte];refine zAk (zHr _ [.iptr [.v (.int .i64 l)] 0] ⟨rfl,fun _=>rfl,fun _=>rfl,fun _=>rfl⟩ xs (fun n=>!inR 0 (l - 1) n) (fun x _=>yC7 x l hl hl2) (by omega)) (by simp -implicitDefEqProofs (disch:=omega) only [go_sem,↓reduceIte,deep,TD.rows,zAe,zAc,zAf,zAb,zAd,zAa,zQj,Bool.not_not];exact rfl) ?_;simp -implicitDefEqProofs (disch:=omega) only [go_sem,↓reduceIte ,zQj,Bool.not_not]
def code_slices_IndexFunc_ss_int64_int64:VCode:=(.seq (.ops [
  ⟨(some 4),none,(.asg (.const (.int .i64 0)))⟩]) (.seq (.seq (.ops [
  ⟨(some 6),none,(.mv (.tmp 0))⟩,
  ⟨(some 7),none,(.len (.tmp 6))⟩,
  ⟨(some 8),none,(.mv (.const (.int .i64 0)))⟩]) (.block 0 (.loop (mB 19 523900) (.seq (.ops [
  ⟨(some 9),none,(.bin .lss (.tmp 8) (.tmp 7))⟩]) (.seq (.cond (.tmp 9) .skip (.exit 0)) (.seq (.block 1 (.seq (.ops [
  ⟨(some 10),none,(.mv (.tmp 8))⟩,
  ⟨(some 5),none,(.asg (.tmp 10))⟩]) (.seq (.ops [
  ⟨(some 11),none,(.mv (.tmp 1))⟩,
  ⟨(some 12),none,(.mv (.tmp 0))⟩,
  ⟨(some 13),none,(.mv (.tmp 5))⟩,
  ⟨(some 14),none,(.ia 1 (.tmp 12) (.tmp 13))⟩,
  ⟨(some 15),none,(.load 1 false (.tmp 14))⟩,
  ⟨(some 16),none,(.callvX (.tmp 11) [(.tmp 15)])⟩]) (.cond (.tmp 16) (.seq (.ops [
  ⟨(some 17),none,(.mv (.tmp 5))⟩,
  ⟨(some 4),none,(.asg (.tmp 17))⟩]) .ret) .skip)))) (.ops [
  ⟨(some 18),none,(.bin .add (.tmp 8) (.const (.int .i64 1)))⟩,
  ⟨(some 8),none,(.mv (.tmp 18))⟩]))))))) (.seq (.ops [
  ⟨(some 4),none,(.asg (.const (.int .i64 (-1))))⟩]) .ret)))
theorem zDs {a0 a1 d:D} (h:code_slices_IndexFunc_ss_int64_int64.wp (CT Tryz.prog zA8) (zD5 [(.t 4)] d) [a0,a1,.undef,.undef,.undef,.undef,.undef,.undef,.undef,.undef,.undef,.undef,.undef,.undef,.undef,.undef,.undef,.undef,.undef]):Contract Tryz.prog zA8 83 [a0,a1] d :=
  zAm (pt:=0) zDy Tryz.func83 (fun us W=>by kernel_rfl) (c:=Tryz.f83.body.getD .skip) (ms:=[(mB 19 523900)]) (ms':=[]) (by kernel_rfl) (by kernel_rfl) (by kernel_rfl) h
theorem zIq (f:FuncId) (caps:List D) (hd:CapsOK caps) (xs:List (List Int)) (p:(List Int)→Bool) (hc:∀ x,x∈xs→Contract Tryz.prog zA8 f (.sl false 1 (x.map (rI))::caps) (.v (.bool (p x)))) (hn:xs.length≤1099511627776) :
    Contract Tryz.prog zA8 83 [D.sl false 1 (xs.map (fun x=>[D.sl false 1 (x.map (rI))])),.fn f [] caps] (.v (.int .i64 (zV5 p xs))):=by
  refine zDs ?_;unfold code_slices_IndexFunc_ss_int64_int64;simp -implicitDefEqProofs (disch:=omega) only [go_sem,↓reduceIte ,hd.owny,hd.pr];refine zFn (fun i:Nat=>[.sl false 1 (xs.map (fun x=>[D.sl false 1 (x.map (rI))])),.fn f [] caps,.undef,.undef,.undef,.undef,.undef,.v (.int .i64 (xs.map (fun x=>[D.sl false 1 (x.map (rI))])).length),.v (.int .i64 i),.undef,.undef,.undef,.undef,.undef,.undef,.undef,.undef,.undef,.undef]) (fun i=>i≤xs.length∧∀ j (hj:j < xs.length),j < i→p xs[j]=false) (fun i=>xs.length - i) 0 ?_ ⟨Nat.zero_le _,fun j _ h=>absurd h (Nat.not_lt_zero _)⟩ ?_
  · simp -implicitDefEqProofs (disch:=omega) only [go_sem,↓reduceIte ,hd.owny,hd.pr]
    (try simp -implicitDefEqProofs only [zCe,zCd,zBs,zBu,zBv,zBt,and_self,and_true,true_and]) <;> repeat' (first | exact zBi rfl | exact zB8 | apply And.intro | apply zCz | apply zA9 | apply zBc | exact zBq | exact zBj | apply zB9 | apply zCa)
  rintro i ⟨hi,ha⟩;simp -implicitDefEqProofs (disch:=omega) only [go_sem,↓reduceIte ,List.length_map,Int.toNat_natCast,Int.ofNat_lt,Int.natCast_nonneg,List.getElem?_map,Option.map_some,hd.owny,hd.pr];refine zAo ?_ ?_ <;> intro hlt
  · have hlt:i < xs.length:=(by simpa using hlt);have hx:=List.getElem?_eq_getElem hlt;simp -implicitDefEqProofs (disch:=omega) only [go_sem,↓reduceIte ,List.length_map,Int.toNat_natCast,Int.ofNat_lt,Int.natCast_nonneg,List.getElem?_map,Option.map_some,hlt,hx,hd.owny,hd.pr];have hcx:=hc _ (List.getElem_mem hlt);refine zVp (f:=f) (first:=[]) (caps:=caps) ?_ hcx ?_ (.inl rfl) ?_
    · simp -implicitDefEqProofs (disch:=omega) only [go_sem,↓reduceIte ,hd.owny]
    · refine zAl ?_;simp only [List.nil_append,List.cons_append,List.map_cons,List.map_nil,hd.d8,List.map_append];simp only [deep,raw,List.getElem?_cons_succ,List.getElem?_cons_zero,List.map_cons,List.map_nil,TD.rows,zAe,zAc,zAf,zAb,zAd]
    simp -implicitDefEqProofs (disch:=omega) only [go_sem,↓reduceIte ,hd.owny,hd.pr];refine zAo ?_ ?_ <;> intro hp
    · simp -implicitDefEqProofs (disch:=omega) only [go_sem,↓reduceIte ,hd.owny,hd.pr];rw [zIr p xs i hlt ha hp]
    · simp -implicitDefEqProofs (disch:=omega) only [go_sem,↓reduceIte ,wrN,hd.owny,hd.pr];refine ⟨i+1,by omega,⟨hlt,fun j hj h=>?_⟩,zDf⟩;rcases Nat.lt_or_ge j i with h' | h'
      · exact ha j hj h'
      · have:j=i:=(by omega);subst this;exact hp
  · have hlt:¬ i < xs.length:=(by simpa using hlt);simp -implicitDefEqProofs (disch:=omega) only [go_sem,↓reduceIte];rw [zEv p xs (fun j hj=>ha j hj (by omega))]
def code_slices_ContainsFunc_ss_int64_int64:VCode:=(.seq (.ops [
  ⟨(some 4),none,(.asg (.const (.bool false)))⟩]) (.seq (.ops [
  ⟨(some 5),none,(.mv (.tmp 0))⟩,
  ⟨(some 6),none,(.mv (.tmp 1))⟩,
  ⟨(some 7),none,(.callX 83 [(.tmp 5),(.tmp 6)])⟩,
  ⟨(some 8),none,(.bin .geq (.tmp 7) (.const (.int .i64 0)))⟩,
  ⟨(some 4),none,(.asg (.tmp 8))⟩]) .ret))
theorem zDi {a0 a1 d:D} (h:code_slices_ContainsFunc_ss_int64_int64.wp (CT Tryz.prog zA8) (zD5 [(.t 4)] d) [a0,a1,.undef,.undef,.undef,.undef,.undef,.undef,.undef]):Contract Tryz.prog zA8 52 [a0,a1] d :=
  zAm (pt:=0) zDy Tryz.func52 (fun us W=>by kernel_rfl) (c:=Tryz.f52.body.getD .skip) (ms:=[]) (ms':=[]) (by kernel_rfl) (by kernel_rfl) (by kernel_rfl) h
theorem zGw (f:FuncId) (caps:List D) (hd:CapsOK caps) (xs:List (List Int)) (p:(List Int)→Bool) (hc:∀ x,x∈xs→Contract Tryz.prog zA8 f (.sl false 1 (x.map (rI))::caps) (.v (.bool (p x)))) (hn:xs.length≤1099511627776) :
    Contract Tryz.prog zA8 52 [D.sl false 1 (xs.map (fun x=>[D.sl false 1 (x.map (rI))])),.fn f [] caps] (.v (.bool (xs.any p))):=by
  refine zDi ?_;unfold code_slices_ContainsFunc_ss_int64_int64;simp -implicitDefEqProofs (disch:=omega) only [go_sem,↓reduceIte ,hd.owny,hd.pr];refine zT8 (zIq f caps hd xs p hc hn) ?_ (.inl rfl) ?_
  · refine zAl ?_;simp only [List.map_cons,List.map_nil,deep,raw,List.getElem?_cons_succ,List.getElem?_cons_zero,TD.rows,zAe,zAc,zAf,zAb,zAd,hd.owny,hd.pr,hd.d7]
    try rfl
  simp -implicitDefEqProofs (disch:=omega) only [go_sem,↓reduceIte];exact congrArg Value.bool (zPb p xs)
def yCw (a b:Int):Int:=IntKind.i64.wrap ((BitVec.ofInt 64 a &&& BitVec.ofInt 64 b).toNat:Nat)
def zX6 (n:Int):Int:=2 ^ n.toNat - 1
def zIe (n:Int) (c:Cube):Bool:=inR 0 (zX6 n) c.Care&&decide (yCw c.Valu c.Care=c.Valu)
def zIj (a b:Cube):Bool:=decide (a.Care < b.Care)||(decide (a.Care=b.Care)&&decide (a.Valu < b.Valu))
def okR (hi:Int) (l:List Int) (i:Nat):Bool:=inR 0 hi (l.getD i 0)&&(decide (i=0)||decide (l.getD (i - 1) 0 < l.getD i 0))
def zFd (hi:Int) (l:List Int):Bool:=(List.range l.length).all (okR hi l)
def yB9:Cube:=⟨0,0⟩
def okC (n:Int) (l:List Cube) (i:Nat):Bool:=zIe n (l.getD i yB9)&&(decide (i=0)||zIj (l.getD (i - 1) yB9) (l.getD i yB9))
def zDj (f:Form):Bool:=inR 1 4 f.Inputs&&(inR 1 3 f.Sums.length&&(decide (f.Cubes.length≤81)&&((List.range f.Cubes.length).all (okC f.Inputs f.Cubes)&&f.Sums.all (zFd ((f.Cubes.length:Int) - 1)))))
theorem zEl {p:Nat→Bool} {i:Nat}:(List.range (i+1)).all p=((List.range i).all p&&p i):=by rw [List.range_succ,List.all_append];simp
theorem zHg {p:Nat→Bool} {i n:Nat} (h:i < n) (hp:p i=false):(List.range n).all p=false:=by rw [List.all_eq_false];exact ⟨i,by simpa using h,by simp [hp]⟩
theorem getD_in {α:Type} {l:List α} {i:Nat} (h:i < l.length) (d:α):l.getD i d=l[i]:=by rw [List.getD_eq_getElem?_getD,List.getElem?_eq_getElem h,Option.getD_some]
theorem yOr {a b:Int} (h0:0≤b) (h1:b≤1000):0≤yCw a b∧yCw a b≤b:=by have h:(BitVec.ofInt 64 a &&& BitVec.ofInt 64 b).toNat≤b.toNat:=(by rw [BitVec.toNat_and];refine Nat.le_trans Nat.and_le_right ?_;rw [BitVec.toNat_ofInt];omega);unfold yCw;rw [wrI (by omega) (by omega)];omega
theorem yNr {n:Int} (h:inR 1 4 n=true):1≤zX6 n∧zX6 n≤15:=by
  rw [inR_iff] at h;have:n=1∨n=2∨n=3∨n=4:=by omega
  rcases this with rfl | rfl | rfl | rfl <;> exact ⟨by decide,by decide⟩
theorem yIm {n:Int} (h:inR 1 4 n=true):IntKind.i64.wrap (IntKind.i64.wrap (1*2 ^ min n.toNat 64) - 1)=zX6 n:=by
  rw [inR_iff] at h;have:n=1∨n=2∨n=3∨n=4:=by omega
  rcases this with rfl | rfl | rfl | rfl <;> decide
theorem yG6 {n:Int} {c:Cube} (hn:inR 1 4 n=true) (h:zIe n c=true):inR 0 (zX6 n) c.Valu=true:=by unfold zIe at h;rw [Bool.and_eq_true,decide_eq_true_eq,inR_iff] at h;have h1:=yNr hn;have h2:=yOr (a:=c.Valu) h.1.1 (by omega);rw [inR_iff];omega
theorem in0 {n:Int} (h:inR 1 4 n=true):(0≤n)=True:=by rw [inR_iff] at h;rw [eq_iff_iff];simp only [iff_true];omega
def code_impl_isCube:VCode:=(.seq (.ops [
  ⟨(some 3),none,(.box (.tmp 1))⟩,
  ⟨(some 4),none,(.asg (.const (.bool false)))⟩]) (.seq (.draw (mB 19 524256) [] [⟨0,(mB 19 524256),[],⟨(some 5),none,(.fa 0 (.tmp 3))⟩⟩,⟨1,(mB 19 524224),[],⟨(some 6),none,(.load 1 false (.tmp 5))⟩⟩,⟨2,(mB 19 524256),[],⟨(some 7),none,(.mv (.tmp 0))⟩⟩,⟨3,(mB 19 524128),[],⟨(some 8),none,(.bin .shl (.const (.int .i64 1)) (.tmp 7))⟩⟩,⟨4,(mB 19 523872),[],⟨(some 9),none,(.bin .sub (.tmp 8) (.const (.int .i64 1)))⟩⟩,⟨5,(mB 19 523264),[],⟨(some 10),none,(.call 49 [(.tmp 6),(.const (.int .i64 0)),(.tmp 9)])⟩⟩,⟨6,(mB 19 522240),[],⟨(some 11),none,(.mv (.tmp 10))⟩⟩,⟨7,(mB 19 520192),[],⟨(some 12),(some (11,true)),(.fa 1 (.tmp 3))⟩⟩,⟨8,(mB 19 516096),[],⟨(some 13),(some (11,true)),(.load 1 false (.tmp 12))⟩⟩,⟨9,(mB 19 520192),[],⟨(some 14),(some (11,true)),(.fa 0 (.tmp 3))⟩⟩,⟨10,(mB 19 503808),[],⟨(some 15),(some (11,true)),(.load 1 false (.tmp 14))⟩⟩,⟨11,(mB 19 458752),[],⟨(some 16),(some (11,true)),(.bin .and (.tmp 13) (.tmp 15))⟩⟩,⟨12,(mB 19 520192),[],⟨(some 17),(some (11,true)),(.fa 1 (.tmp 3))⟩⟩,⟨13,(mB 19 389120),[],⟨(some 18),(some (11,true)),(.load 1 false (.tmp 17))⟩⟩] [⟨(some 19),(some (11,true)),(.bin .eql (.tmp 16) (.tmp 18))⟩,⟨(some 20),none,(.pick (.tmp 11) (.tmp 19) (.const (.bool false)))⟩,⟨(some 4),none,(.asg (.tmp 20))⟩]) .ret))
theorem zM1 {a0 a1 d:D} (h:code_impl_isCube.wp (CT Tryz.prog zA8) (zD5 [(.t 4)] d) [a0,a1,.undef,.undef,.undef,.undef,.undef,.undef,.undef,.undef,.undef,.undef,.undef,.undef,.undef,.undef,.undef,.undef,.undef,.undef,.undef]):Contract Tryz.prog zA8 50 [a0,a1] d :=
  zAm (pt:=0) zDy Tryz.func50 (fun us W=>by kernel_rfl) (c:=Tryz.f50.body.getD .skip) (ms:=[]) (ms':=[]) (by kernel_rfl) (by kernel_rfl) (by kernel_rfl) h
def code_spec_l19Cube:VCode:=(.seq (.ops [
  ⟨(some 3),none,(.box (.tmp 1))⟩,
  ⟨(some 4),none,(.asg (.const (.bool false)))⟩]) (.seq (.draw (mB 27 134217696) [] [⟨0,(mB 27 134217696),[],⟨(some 5),none,(.fa 0 (.tmp 3))⟩⟩,⟨1,(mB 27 134217664),[],⟨(some 6),none,(.load 1 false (.tmp 5))⟩⟩,⟨2,(mB 27 134217696),[],⟨(some 7),none,(.mv (.tmp 0))⟩⟩,⟨3,(mB 27 134217568),[],⟨(some 8),none,(.bin .shl (.const (.int .i64 1)) (.tmp 7))⟩⟩,⟨4,(mB 27 134217312),[],⟨(some 9),none,(.bin .sub (.tmp 8) (.const (.int .i64 1)))⟩⟩,⟨5,(mB 27 134216704),[],⟨(some 10),none,(.call 72 [(.tmp 6),(.const (.int .i64 0)),(.tmp 9)])⟩⟩,⟨6,(mB 27 134215680),[],⟨(some 11),none,(.mv (.tmp 10))⟩⟩,⟨7,(mB 27 134213632),[],⟨(some 12),(some (11,true)),(.fa 1 (.tmp 3))⟩⟩,⟨8,(mB 27 134209536),[],⟨(some 13),(some (11,true)),(.load 1 false (.tmp 12))⟩⟩,⟨9,(mB 27 134213632),[],⟨(some 14),(some (11,true)),(.mv (.tmp 0))⟩⟩,⟨10,(mB 27 134197248),[],⟨(some 15),(some (11,true)),(.bin .shl (.const (.int .i64 1)) (.tmp 14))⟩⟩,⟨11,(mB 27 134164480),[],⟨(some 16),(some (11,true)),(.bin .sub (.tmp 15) (.const (.int .i64 1)))⟩⟩,⟨12,(mB 27 134086656),[],⟨(some 17),(some (11,true)),(.call 72 [(.tmp 13),(.const (.int .i64 0)),(.tmp 16)])⟩⟩,⟨13,(mB 27 133955584),[],⟨(some 18),none,(.pick (.tmp 11) (.tmp 17) (.const (.bool false)))⟩⟩,⟨14,(mB 27 133693440),[],⟨(some 19),none,(.mv (.tmp 18))⟩⟩,⟨15,(mB 27 133169152),[],⟨(some 20),(some (19,true)),(.fa 1 (.tmp 3))⟩⟩,⟨16,(mB 27 132120576),[],⟨(some 21),(some (19,true)),(.load 1 false (.tmp 20))⟩⟩,⟨17,(mB 27 133169152),[],⟨(some 22),(some (19,true)),(.fa 0 (.tmp 3))⟩⟩,⟨18,(mB 27 128974848),[],⟨(some 23),(some (19,true)),(.load 1 false (.tmp 22))⟩⟩,⟨19,(mB 27 117440512),[],⟨(some 24),(some (19,true)),(.bin .and (.tmp 21) (.tmp 23))⟩⟩,⟨20,(mB 27 133169152),[],⟨(some 25),(some (19,true)),(.fa 1 (.tmp 3))⟩⟩,⟨21,(mB 27 99614720),[],⟨(some 26),(some (19,true)),(.load 1 false (.tmp 25))⟩⟩] [⟨(some 27),(some (19,true)),(.bin .eql (.tmp 24) (.tmp 26))⟩,⟨(some 28),none,(.pick (.tmp 19) (.tmp 27) (.const (.bool false)))⟩,⟨(some 4),none,(.asg (.tmp 28))⟩]) .ret))
theorem zLc {a0 a1 d:D} (h:code_spec_l19Cube.wp (CT Tryz.prog zA8) (zD5 [(.t 4)] d) [a0,a1,.undef,.undef,.undef,.undef,.undef,.undef,.undef,.undef,.undef,.undef,.undef,.undef,.undef,.undef,.undef,.undef,.undef,.undef,.undef,.undef,.undef,.undef,.undef,.undef,.undef,.undef,.undef]):Contract Tryz.prog zA8 73 [a0,a1] d :=
  zAm (pt:=0) zDy Tryz.func73 (fun us W=>by kernel_rfl) (c:=Tryz.f73.body.getD .skip) (ms:=[]) (ms':=[]) (by kernel_rfl) (by kernel_rfl) (by kernel_rfl) h
def code_spec_l19Before:VCode:=(.seq (.ops [
  ⟨(some 2),none,(.box (.tmp 0))⟩,
  ⟨(some 3),none,(.box (.tmp 1))⟩,
  ⟨(some 4),none,(.asg (.const (.bool false)))⟩]) (.seq (.ops [
  ⟨(some 5),none,(.fa 0 (.tmp 2))⟩,
  ⟨(some 6),none,(.load 1 false (.tmp 5))⟩,
  ⟨(some 7),none,(.fa 0 (.tmp 3))⟩,
  ⟨(some 8),none,(.load 1 false (.tmp 7))⟩,
  ⟨(some 9),none,(.bin .lss (.tmp 6) (.tmp 8))⟩,
  ⟨(some 10),none,(.mv (.tmp 9))⟩,
  ⟨(some 11),(some (10,false)),(.fa 0 (.tmp 2))⟩,
  ⟨(some 12),(some (10,false)),(.load 1 false (.tmp 11))⟩,
  ⟨(some 13),(some (10,false)),(.fa 0 (.tmp 3))⟩,
  ⟨(some 14),(some (10,false)),(.load 1 false (.tmp 13))⟩,
  ⟨(some 15),(some (10,false)),(.bin .eql (.tmp 12) (.tmp 14))⟩,
  ⟨(some 16),(some (10,false)),(.mv (.tmp 15))⟩,
  ⟨(some 17),(some (16,true)),(.fa 1 (.tmp 2))⟩,
  ⟨(some 18),(some (16,true)),(.load 1 false (.tmp 17))⟩,
  ⟨(some 19),(some (16,true)),(.fa 1 (.tmp 3))⟩,
  ⟨(some 20),(some (16,true)),(.load 1 false (.tmp 19))⟩,
  ⟨(some 21),(some (16,true)),(.bin .lss (.tmp 18) (.tmp 20))⟩,
  ⟨(some 22),(some (10,false)),(.pick (.tmp 16) (.tmp 21) (.const (.bool false)))⟩,
  ⟨(some 23),none,(.pick (.tmp 10) (.const (.bool true)) (.tmp 22))⟩,
  ⟨(some 4),none,(.asg (.tmp 23))⟩]) .ret))
theorem zI9 {a0 a1 d:D} (h:code_spec_l19Before.wp (CT Tryz.prog zA8) (zD5 [(.t 4)] d) [a0,a1,.undef,.undef,.undef,.undef,.undef,.undef,.undef,.undef,.undef,.undef,.undef,.undef,.undef,.undef,.undef,.undef,.undef,.undef,.undef,.undef,.undef,.undef]):Contract Tryz.prog zA8 74 [a0,a1] d :=
  zAm (pt:=0) zDy Tryz.func74 (fun us W=>by kernel_rfl) (c:=Tryz.f74.body.getD .skip) (ms:=[]) (ms':=[]) (by kernel_rfl) (by kernel_rfl) (by kernel_rfl) h
def code_impl_compareCubes:VCode:=(.seq (.ops [
  ⟨(some 2),none,(.box (.tmp 0))⟩,
  ⟨(some 3),none,(.box (.tmp 1))⟩,
  ⟨(some 4),none,(.asg (.const (.int .i64 0)))⟩]) (.seq (.draw (mB 14 16352) [] [⟨0,(mB 14 16352),[],⟨(some 5),none,(.fa 0 (.tmp 2))⟩⟩,⟨1,(mB 14 16320),[],⟨(some 6),none,(.load 1 false (.tmp 5))⟩⟩,⟨2,(mB 14 16352),[],⟨(some 7),none,(.fa 0 (.tmp 3))⟩⟩,⟨3,(mB 14 16224),[],⟨(some 8),none,(.load 1 false (.tmp 7))⟩⟩,⟨4,(mB 14 15872),[],⟨(some 9),none,(.call 82 [(.tmp 6),(.tmp 8)])⟩⟩,⟨5,(mB 14 16352),[],⟨(some 10),none,(.fa 1 (.tmp 2))⟩⟩,⟨6,(mB 14 15328),[],⟨(some 11),none,(.load 1 false (.tmp 10))⟩⟩,⟨7,(mB 14 16352),[],⟨(some 12),none,(.fa 1 (.tmp 3))⟩⟩,⟨8,(mB 14 12256),[],⟨(some 13),none,(.load 1 false (.tmp 12))⟩⟩] [⟨(some 14),none,(.callX 82 [(.tmp 11),(.tmp 13)])⟩,⟨(some 15),none,(.bsl 1 [(.tmp 9),(.tmp 14)])⟩,⟨(some 16),none,(.callX 81 [(.tmp 15)])⟩,⟨(some 4),none,(.asg (.tmp 16))⟩]) .ret))
theorem zG4 {a0 a1 d:D} (h:code_impl_compareCubes.wp (CT Tryz.prog zA8) (zD5 [(.t 4)] d) [a0,a1,.undef,.undef,.undef,.undef,.undef,.undef,.undef,.undef,.undef,.undef,.undef,.undef,.undef,.undef,.undef]):Contract Tryz.prog zA8 51 [a0,a1] d :=
  zAm (pt:=0) zDy Tryz.func51 (fun us W=>by kernel_rfl) (c:=Tryz.f51.body.getD .skip) (ms:=[]) (ms':=[]) (by kernel_rfl) (by kernel_rfl) (by kernel_rfl) h
theorem yC4 (n:Int) (c:Cube) (hn:inR 1 4 n=true):Contract Tryz.prog zA8 50 [.v (.int .i64 n),.agg (Cube.td.d false c)] (.v (.bool (zIe n c))):=by
  have hw:=yIm hn;have h0:=in0 hn;rw [Cube.td_d];refine zM1 ?_;unfold code_impl_isCube zIe;simp -implicitDefEqProofs (disch:=omega) only [go_sem,↓reduceIte ,hw,h0];cases h:inR 0 (zX6 n) c.Care with
  | false=>refine zAx (zF6 _ _ _) (by simp -implicitDefEqProofs (disch:=omega) only [go_sem,↓reduceIte,deep,TD.rows,zAe,zAc,zAf,zAb,zAd,zAa,h];exact rfl) ?_;simp -implicitDefEqProofs (disch:=omega) only [go_sem,↓reduceIte ,h]
  | true=>refine zAx (zF6 _ _ _) (by simp -implicitDefEqProofs (disch:=omega) only [go_sem,↓reduceIte,deep,TD.rows,zAe,zAc,zAf,zAb,zAd,zAa,h,yCw];exact rfl) ?_;simp -implicitDefEqProofs (disch:=omega) only [go_sem,↓reduceIte ,h,yCw];exact congrArg Value.bool (decide_eq_decide.2 Iff.rfl)
theorem zYn (n:Int) (c:Cube) (hn:inR 1 4 n=true):Contract Tryz.prog zA8 73 [.v (.int .i64 n),.agg (Cube.td.d false c)] (.v (.bool (zIe n c))):=by
  have hw:=yIm hn;have h0:=in0 hn;rw [Cube.td_d];refine zLc ?_;unfold code_spec_l19Cube;simp -implicitDefEqProofs (disch:=omega) only [go_sem,↓reduceIte ,hw,h0];cases h:inR 0 (zX6 n) c.Care with
  | false=>have hr:zIe n c=false:=(by unfold zIe;rw [h];rfl);refine zAx (zDb _ _ _) (by simp -implicitDefEqProofs (disch:=omega) only [go_sem,↓reduceIte,deep,TD.rows,zAe,zAc,zAf,zAb,zAd,zAa,h,hr];exact rfl) ?_;simp -implicitDefEqProofs (disch:=omega) only [go_sem,↓reduceIte ,h,hr]
  | true =>
    refine zAx (zDb _ _ _) (by simp -implicitDefEqProofs (disch:=omega) only [go_sem,↓reduceIte,deep,TD.rows,zAe,zAc,zAf,zAb,zAd,zAa,h,hw,h0];exact rfl) ?_;simp -implicitDefEqProofs (disch:=omega) only [go_sem,↓reduceIte ,h,hw,h0];cases h2:inR 0 (zX6 n) c.Valu with
    | false =>
      have hr:zIe n c=false:=by
        cases hc:zIe n c with
        | false=>rfl
        | true=>rw [yG6 hn hc] at h2;cases h2
      refine zAx (zDb _ _ _) (by simp -implicitDefEqProofs (disch:=omega) only [go_sem,↓reduceIte,deep,TD.rows,zAe,zAc,zAf,zAb,zAd,zAa,h2,hr];exact rfl) ?_;simp -implicitDefEqProofs (disch:=omega) only [go_sem,↓reduceIte ,h2,hr]
    | true=>have hr:zIe n c=decide (yCw c.Valu c.Care=c.Valu):=(by unfold zIe;rw [h];rfl);refine zAx (zDb _ _ _) (by simp -implicitDefEqProofs (disch:=omega) only [go_sem,↓reduceIte,deep,TD.rows,zAe,zAc,zAf,zAb,zAd,zAa,h2,hr,yCw];exact rfl) ?_;simp -implicitDefEqProofs (disch:=omega) only [go_sem,↓reduceIte ,h2,hr,yCw];exact congrArg Value.bool (decide_eq_decide.2 Iff.rfl)
theorem zSq (a b:Cube):Contract Tryz.prog zA8 74 [.agg (Cube.td.d false a),.agg (Cube.td.d false b)] (.v (.bool (zIj a b))):=by
  rw [Cube.td_d,Cube.td_d];refine zI9 ?_;unfold code_spec_l19Before zIj;cases h1:decide (a.Care < b.Care) with
  | true=>simp -implicitDefEqProofs (disch:=omega) only [go_sem,↓reduceIte ,h1]
  | false =>
    cases h2:decide (a.Care=b.Care) with
    | true=>simp -implicitDefEqProofs (disch:=omega) only [go_sem,↓reduceIte ,h1,h2]
    | false=>simp -implicitDefEqProofs (disch:=omega) only [go_sem,↓reduceIte ,h1,h2]
def yTt (a b:Cube):Int:=if yOy a.Care b.Care=0 then yOy a.Valu b.Valu else yOy a.Care b.Care
theorem yNq (a b:Cube):decide (0≤yTt a b)=!zIj a b:=by rw [Bool.eq_iff_iff];simp only [yTt,yOy,zIj,Bool.not_eq_true',Bool.or_eq_false_iff,Bool.and_eq_false_iff,decide_eq_true_eq,decide_eq_false_iff_not];by_cases h1:a.Care < b.Care <;> by_cases h2:b.Care < a.Care <;> by_cases h3:a.Valu < b.Valu <;> by_cases h4:b.Valu < a.Valu <;> simp [h1,h2,h3,h4] <;> omega
theorem zN0 (a b:Cube):Contract Tryz.prog zA8 51 [.agg (Cube.td.d false a),.agg (Cube.td.d false b)] (.v (.int .i64 (yTt a b))):=by rw [Cube.td_d,Cube.td_d];refine zG4 ?_;unfold code_impl_compareCubes yTt;simp -implicitDefEqProofs (disch:=omega) only [go_sem,↓reduceIte];refine zAx (zQt _ _) (by simp -implicitDefEqProofs (disch:=omega) only [go_sem,↓reduceIte,deep,TD.rows,zAe,zAc,zAf,zAb,zAd,zAa];exact rfl) ?_;simp -implicitDefEqProofs (disch:=omega) only [go_sem,↓reduceIte];refine zAk (zQt _ _) (by simp -implicitDefEqProofs (disch:=omega) only [go_sem,↓reduceIte,deep,TD.rows,zAe,zAc,zAf,zAb,zAd,zAa];exact rfl) ?_;simp -implicitDefEqProofs (disch:=omega) only [go_sem,↓reduceIte];refine zAk (yTv _ _) (by simp -implicitDefEqProofs (disch:=omega) only [go_sem,↓reduceIte,deep,TD.rows,zAe,zAc,zAf,zAb,zAd,zAa];exact rfl) ?_;simp -implicitDefEqProofs (disch:=omega) only [go_sem,↓reduceIte]
def code_impl_ascending:VCode:=(.seq (.ops [
  ⟨(some 4),none,(.asg (.const (.bool false)))⟩]) (.seq (.seq (.ops [
  ⟨(some 7),none,(.mv (.tmp 0))⟩,
  ⟨(some 8),none,(.len (.tmp 7))⟩,
  ⟨(some 9),none,(.mv (.const (.int .i64 0)))⟩]) (.block 0 (.loop (mB 32 4294966396) (.seq (.ops [
  ⟨(some 10),none,(.bin .lss (.tmp 9) (.tmp 8))⟩]) (.seq (.cond (.tmp 10) .skip (.exit 0)) (.seq (.block 1 (.seq (.ops [
  ⟨(some 11),none,(.mv (.tmp 9))⟩,
  ⟨(some 12),none,(.ia 1 (.tmp 7) (.tmp 9))⟩,
  ⟨(some 13),none,(.load 1 false (.tmp 12))⟩,
  ⟨(some 5),none,(.asg (.tmp 11))⟩,
  ⟨(some 6),none,(.asg (.tmp 13))⟩]) (.seq (.ops [
  ⟨(some 14),none,(.mv (.tmp 6))⟩,
  ⟨(some 15),none,(.mv (.tmp 1))⟩,
  ⟨(some 16),none,(.callX 84 [(.tmp 14),(.tmp 15)])⟩,
  ⟨(some 17),none,(.un .not (.tmp 16))⟩,
  ⟨(some 18),none,(.mv (.tmp 17))⟩,
  ⟨(some 19),(some (18,false)),(.mv (.tmp 5))⟩,
  ⟨(some 20),(some (18,false)),(.bin .gtr (.tmp 19) (.const (.int .i64 0)))⟩,
  ⟨(some 21),(some (18,false)),(.mv (.tmp 20))⟩,
  ⟨(some 22),(some (21,true)),(.mv (.tmp 6))⟩,
  ⟨(some 23),(some (21,true)),(.mv (.tmp 0))⟩,
  ⟨(some 24),(some (21,true)),(.mv (.tmp 5))⟩,
  ⟨(some 25),(some (21,true)),(.bin .sub (.tmp 24) (.const (.int .i64 1)))⟩,
  ⟨(some 26),(some (21,true)),(.ia 1 (.tmp 23) (.tmp 25))⟩,
  ⟨(some 27),(some (21,true)),(.load 1 false (.tmp 26))⟩,
  ⟨(some 28),(some (21,true)),(.bin .leq (.tmp 22) (.tmp 27))⟩,
  ⟨(some 29),(some (18,false)),(.pick (.tmp 21) (.tmp 28) (.const (.bool false)))⟩,
  ⟨(some 30),none,(.pick (.tmp 18) (.const (.bool true)) (.tmp 29))⟩]) (.cond (.tmp 30) (.seq (.ops [
  ⟨(some 4),none,(.asg (.const (.bool false)))⟩]) .ret) .skip)))) (.ops [
  ⟨(some 31),none,(.bin .add (.tmp 9) (.const (.int .i64 1)))⟩,
  ⟨(some 9),none,(.mv (.tmp 31))⟩]))))))) (.seq (.ops [
  ⟨(some 4),none,(.asg (.const (.bool true)))⟩]) .ret)))
theorem zJb {a0 a1 d:D} (h:code_impl_ascending.wp (CT Tryz.prog zA8) (zD5 [(.t 4)] d) [a0,a1,.undef,.undef,.undef,.undef,.undef,.undef,.undef,.undef,.undef,.undef,.undef,.undef,.undef,.undef,.undef,.undef,.undef,.undef,.undef,.undef,.undef,.undef,.undef,.undef,.undef,.undef,.undef,.undef,.undef,.undef]):Contract Tryz.prog zA8 54 [a0,a1] d :=
  zAm (pt:=0) zDy Tryz.func54 (fun us W=>by kernel_rfl) (c:=Tryz.f54.body.getD .skip) (ms:=[(mB 32 4294966396)]) (ms':=[]) (by kernel_rfl) (by kernel_rfl) (by kernel_rfl) h
def code_spec_l00Rises:VCode:=(.seq (.ops [
  ⟨(some 6),none,(.asg (.const (.bool false)))⟩]) (.seq (.seq (.ops [
  ⟨(some 7),none,(.asg (.const (.int .i64 0)))⟩]) (.block 0 (.loop (mB 38 274877906808) (.seq (.seq (.ops [
  ⟨(some 8),none,(.mv (.tmp 7))⟩,
  ⟨(some 9),none,(.mv (.tmp 0))⟩,
  ⟨(some 10),none,(.len (.tmp 9))⟩,
  ⟨(some 11),none,(.bin .lss (.tmp 8) (.tmp 10))⟩]) (.cond (.tmp 11) .skip (.exit 0))) (.seq (.block 1 (.seq (.draw (mB 35 34359721984) [] [⟨0,(mB 35 34359721984),[],⟨(some 14),none,(.mv (.tmp 0))⟩⟩,⟨1,(mB 35 34359721984),[],⟨(some 15),none,(.mv (.tmp 7))⟩⟩,⟨2,(mB 35 34359672832),[],⟨(some 16),none,(.ia 1 (.tmp 14) (.tmp 15))⟩⟩,⟨3,(mB 35 34359607296),[],⟨(some 17),none,(.load 1 false (.tmp 16))⟩⟩,⟨4,(mB 35 34359721984),[],⟨(some 18),none,(.mv (.tmp 1))⟩⟩,⟨5,(mB 35 34359721984),[],⟨(some 19),none,(.mv (.tmp 2))⟩⟩,⟨6,(mB 35 34358689792),[],⟨(some 20),none,(.call 72 [(.tmp 17),(.tmp 18),(.tmp 19)])⟩⟩,⟨7,(mB 35 34357641216),[],⟨(some 21),none,(.un .not (.tmp 20))⟩⟩,⟨8,(mB 35 34355544064),[],⟨(some 22),none,(.mv (.tmp 21))⟩⟩,⟨9,(mB 35 34351349760),[],⟨(some 23),(some (22,false)),(.mv (.tmp 7))⟩⟩,⟨10,(mB 35 34342961152),[],⟨(some 24),(some (22,false)),(.bin .gtr (.tmp 23) (.const (.int .i64 0)))⟩⟩,⟨11,(mB 35 34326183936),[],⟨(some 25),(some (22,false)),(.mv (.tmp 24))⟩⟩,⟨12,(mB 35 34292629504),[],⟨(some 26),(some (25,true)),(.mv (.tmp 0))⟩⟩,⟨13,(mB 35 34292629504),[],⟨(some 27),(some (25,true)),(.mv (.tmp 7))⟩⟩,⟨14,(mB 35 34158411776),[],⟨(some 28),(some (25,true)),(.bin .sub (.tmp 27) (.const (.int .i64 1)))⟩⟩,⟨15,(mB 35 33822867456),[],⟨(some 29),(some (25,true)),(.ia 1 (.tmp 26) (.tmp 28))⟩⟩,⟨16,(mB 35 33285996544),[],⟨(some 30),(some (25,true)),(.load 1 false (.tmp 29))⟩⟩,⟨17,(mB 35 34292629504),[],⟨(some 31),(some (25,true)),(.mv (.tmp 0))⟩⟩,⟨18,(mB 35 34292629504),[],⟨(some 32),(some (25,true)),(.mv (.tmp 7))⟩⟩,⟨19,(mB 35 27850178560),[],⟨(some 33),(some (25,true)),(.ia 1 (.tmp 31) (.tmp 32))⟩⟩,⟨20,(mB 35 19260243968),[],⟨(some 34),(some (25,true)),(.load 1 false (.tmp 33))⟩⟩] [⟨(some 35),(some (25,true)),(.bin .geq (.tmp 30) (.tmp 34))⟩,⟨(some 36),(some (22,false)),(.pick (.tmp 25) (.tmp 35) (.const (.bool false)))⟩,⟨(some 37),none,(.pick (.tmp 22) (.const (.bool true)) (.tmp 36))⟩]) (.cond (.tmp 37) (.seq (.ops [
  ⟨(some 6),none,(.asg (.const (.bool false)))⟩]) .ret) .skip))) (.ops [
  ⟨(some 12),none,(.mv (.tmp 7))⟩,
  ⟨(some 13),none,(.bin .add (.tmp 12) (.const (.int .i64 1)))⟩,
  ⟨(some 7),none,(.asg (.tmp 13))⟩])))))) (.seq (.ops [
  ⟨(some 6),none,(.asg (.const (.bool true)))⟩]) .ret)))
theorem zKg {a0 a1 a2 d:D} (h:code_spec_l00Rises.wp (CT Tryz.prog zA8) (zD5 [(.t 6)] d) [a0,a1,a2,.undef,.undef,.undef,.undef,.undef,.undef,.undef,.undef,.undef,.undef,.undef,.undef,.undef,.undef,.undef,.undef,.undef,.undef,.undef,.undef,.undef,.undef,.undef,.undef,.undef,.undef,.undef,.undef,.undef,.undef,.undef,.undef,.undef,.undef,.undef]):Contract Tryz.prog zA8 75 [a0,a1,a2] d :=
  zAm (pt:=0) zDy Tryz.func75 (fun us W=>by kernel_rfl) (c:=Tryz.f75.body.getD .skip) (ms:=[(mB 38 274877906808)]) (ms':=[]) (by kernel_rfl) (by kernel_rfl) (by kernel_rfl) h
def code_impl_inputsOk:VCode:=(.seq (.ops [
  ⟨(some 2),none,(.asg (.const (.bool false)))⟩]) (.seq (.ops [
  ⟨(some 3),none,(.mv (.tmp 0))⟩,
  ⟨(some 4),none,(.callX 49 [(.tmp 3),(.const (.int .i64 1)),(.const (.int .i64 4))])⟩,
  ⟨(some 2),none,(.asg (.tmp 4))⟩]) .ret))
theorem zKl {a0 d:D} (h:code_impl_inputsOk.wp (CT Tryz.prog zA8) (zD5 [(.t 2)] d) [a0,.undef,.undef,.undef,.undef]):Contract Tryz.prog zA8 48 [a0] d :=
  zAm (pt:=0) zDy Tryz.func48 (fun us W=>by kernel_rfl) (c:=Tryz.f48.body.getD .skip) (ms:=[]) (ms':=[]) (by kernel_rfl) (by kernel_rfl) (by kernel_rfl) h
theorem zHh (n:Int):Contract Tryz.prog zA8 48 [.v (.int .i64 n)] (.v (.bool (inR 1 4 n))):=by refine zKl ?_;unfold code_impl_inputsOk;simp -implicitDefEqProofs (disch:=omega) only [go_sem,↓reduceIte];refine zAk (zF6 _ _ _) (by simp -implicitDefEqProofs (disch:=omega) only [go_sem,↓reduceIte,deep,TD.rows,zAe,zAc,zAf,zAb,zAd,zAa];exact rfl) ?_;simp -implicitDefEqProofs (disch:=omega) only [go_sem,↓reduceIte]
theorem zlt:decide ((0:Int) < ((0:Nat):Int))=false:=by decide
theorem yH5 {hi:Int} {l:List Int} {i:Nat} (h:i < l.length):okR hi l i=(inR 0 hi l[i]&&(decide (i=0)||decide (l.getD (i - 1) 0 < l[i]))):=by unfold okR;rw [getD_in h]
set_option maxHeartbeats 1000000 in
theorem zSr (l:List Int) (m:Nat) (hm:m≤1048576) (hl:l.length≤1048576):Contract Tryz.prog zA8 54 [.sl false 1 (l.map rI),.v (.int .i64 (m:Int))] (.v (.bool (zFd ((m:Int) - 1) l))):=by
  refine zJb ?_;unfold code_impl_ascending;simp -implicitDefEqProofs (disch:=omega) only [go_sem,↓reduceIte];refine zBz (by simp -implicitDefEqProofs (disch:=omega) only [go_sem,↓reduceIte];exact rfl) (fun i:Nat=>[(9,.v (.int .i64 (i:Nat)))]) (fun _=>by simp only [zBy,zBe,List.set_cons_zero,List.set_cons_succ];exact rfl) (fun i:Nat=>i≤l.length∧(List.range i).all (okR ((m:Int) - 1) l)=true) (fun i:Nat=>l.length - i) (0) (zDf) (?_) ?_
  · exact ⟨Nat.zero_le _,rfl⟩
  rintro i ⟨hi,hok⟩;simp -implicitDefEqProofs (disch:=omega) only [go_sem,↓reduceIte ,List.length_map,Int.toNat_natCast,Int.ofNat_lt,Int.natCast_nonneg,List.getElem?_map,Option.map_some];refine zAo ?_ ?_ <;> intro hlt
  · have hlt:i < l.length:=(by simpa using hlt);have e1:=List.getElem?_eq_getElem hlt;have hat:=yH5 (hi:=(m:Int) - 1) hlt;cases hx:inR 0 ((m:Int) - 1) l[i] with
    | false=>have hno:zFd ((m:Int) - 1) l=false:=zHg hlt (by rw [hat,hx];rfl);simp -implicitDefEqProofs (disch:=omega) only [go_sem,↓reduceIte ,List.length_map,Int.toNat_natCast,Int.ofNat_lt,Int.natCast_nonneg,List.getElem?_map,Option.map_some,hlt,e1,rI];refine zAk (zIp l[i] (m:Int) (by omega) (by omega)) (by simp -implicitDefEqProofs (disch:=omega) only [go_sem,↓reduceIte,deep,TD.rows,zAe,zAc,zAf,zAb,zAd,zAa,hx,hno];exact rfl) ?_;simp -implicitDefEqProofs (disch:=omega) only [go_sem,↓reduceIte ,hx,hno]
    | true =>
      rw [hx,Bool.true_and] at hat
      by_cases h0:i=0
      · subst h0;have hnx:(List.range (0+1)).all (okR ((m:Int) - 1) l)=true:=by rw [zEl,hok,hat];rfl
        simp -implicitDefEqProofs (disch:=omega) only [go_sem,↓reduceIte ,List.length_map,Int.toNat_natCast,Int.ofNat_lt,Int.natCast_nonneg,List.getElem?_map,Option.map_some,hlt,e1,rI];refine zAk (zIp l[0] (m:Int) (by omega) (by omega)) (by simp -implicitDefEqProofs (disch:=omega) only [go_sem,↓reduceIte,deep,TD.rows,zAe,zAc,zAf,zAb,zAd,zAa,hx,zlt,wrN];exact rfl) ?_;simp -implicitDefEqProofs (disch:=omega) only [go_sem,↓reduceIte ,hx,zlt,wrN];exact ⟨0+1,by omega,⟨hlt,hnx⟩,zDf⟩
      · have d0:decide ((0:Int) < (i:Int))=true:=(by rw [decide_eq_true_eq];omega);have hw:IntKind.i64.wrap ((i:Int) - 1)=((i - 1:Nat):Int):=(by rw [wrI (by omega) (by omega)];omega);have hlt2:i - 1 < l.length:=(by omega);have e2:=List.getElem?_eq_getElem hlt2;rw [decide_eq_false h0,Bool.false_or,getD_in hlt2] at hat
        cases hc:decide (l[i]≤l[i - 1]) with
        | true=>have hno:zFd ((m:Int) - 1) l=false:=zHg hlt (by rw [hat,decide_eq_false_iff_not];rw [decide_eq_true_eq] at hc;omega);simp -implicitDefEqProofs (disch:=omega) only [go_sem,↓reduceIte ,List.length_map,Int.toNat_natCast,Int.ofNat_lt,Int.natCast_nonneg,List.getElem?_map,Option.map_some,hlt,e1,rI];refine zAk (zIp l[i] (m:Int) (by omega) (by omega)) (by simp -implicitDefEqProofs (disch:=omega) only [go_sem,↓reduceIte,deep,TD.rows,zAe,zAc,zAf,zAb,zAd,zAa,hx,d0,hw,List.length_map,Int.toNat_natCast,Int.ofNat_lt,Int.natCast_nonneg,List.getElem?_map,Option.map_some,hlt2,e2,rI,hc,hno];exact rfl) ?_;simp -implicitDefEqProofs (disch:=omega) only [go_sem,↓reduceIte ,hx,d0,hw,List.length_map,Int.toNat_natCast,Int.ofNat_lt,Int.natCast_nonneg,List.getElem?_map,Option.map_some,hlt2,e2,rI,hc,hno]
        | false=>have hnx:(List.range (i+1)).all (okR ((m:Int) - 1) l)=true:=(by rw [zEl,hok,hat,Bool.true_and,decide_eq_true_eq];rw [decide_eq_false_iff_not] at hc;omega);simp -implicitDefEqProofs (disch:=omega) only [go_sem,↓reduceIte ,List.length_map,Int.toNat_natCast,Int.ofNat_lt,Int.natCast_nonneg,List.getElem?_map,Option.map_some,hlt,e1,rI];refine zAk (zIp l[i] (m:Int) (by omega) (by omega)) (by simp -implicitDefEqProofs (disch:=omega) only [go_sem,↓reduceIte,deep,TD.rows,zAe,zAc,zAf,zAb,zAd,zAa,hx,d0,hw,List.length_map,Int.toNat_natCast,Int.ofNat_lt,Int.natCast_nonneg,List.getElem?_map,Option.map_some,hlt2,e2,rI,hc,wrN];exact rfl) ?_;simp -implicitDefEqProofs (disch:=omega) only [go_sem,↓reduceIte ,hx,d0,hw,List.length_map,Int.toNat_natCast,Int.ofNat_lt,Int.natCast_nonneg,List.getElem?_map,Option.map_some,hlt2,e2,rI,hc,wrN];exact ⟨i+1,by omega,⟨hlt,hnx⟩,zDf⟩
  · obtain rfl:i=l.length:=(by have:¬ i < l.length:=(by simpa using hlt);omega);have hy:zFd ((m:Int) - 1) l=true:=hok;simp -implicitDefEqProofs (disch:=omega) only [go_sem,↓reduceIte ,hy]
set_option maxHeartbeats 1000000 in
theorem zV3 (l:List Int) (hi:Int) (hl:l.length≤1048576):Contract Tryz.prog zA8 75 [.sl false 1 (l.map rI),.v (.int .i64 0),.v (.int .i64 hi)] (.v (.bool (zFd hi l))):=by
  refine zKg ?_;unfold code_spec_l00Rises;simp -implicitDefEqProofs (disch:=omega) only [go_sem,↓reduceIte];refine zBz (by simp -implicitDefEqProofs (disch:=omega) only [go_sem,↓reduceIte];exact rfl) (fun i:Nat=>[(7,.v (.int .i64 (i:Nat)))]) (fun _=>by simp only [zBy,zBe,List.set_cons_zero,List.set_cons_succ];exact rfl) (fun i:Nat=>i≤l.length∧(List.range i).all (okR hi l)=true) (fun i:Nat=>l.length - i) (0) (zDf) (?_) ?_
  · exact ⟨Nat.zero_le _,rfl⟩
  rintro i ⟨hii,hok⟩;simp -implicitDefEqProofs (disch:=omega) only [go_sem,↓reduceIte ,List.length_map,Int.toNat_natCast,Int.ofNat_lt,Int.natCast_nonneg,List.getElem?_map,Option.map_some];refine zAo ?_ ?_ <;> intro hlt
  · have hlt:i < l.length:=(by simpa using hlt);have e1:=List.getElem?_eq_getElem hlt;have hat:=yH5 (hi:=hi) hlt;cases hx:inR 0 hi l[i] with
    | false=>have hno:zFd hi l=false:=zHg hlt (by rw [hat,hx];rfl);simp -implicitDefEqProofs (disch:=omega) only [go_sem,↓reduceIte ,List.length_map,Int.toNat_natCast,Int.ofNat_lt,Int.natCast_nonneg,List.getElem?_map,Option.map_some,hlt,e1,rI];refine zAx (zDb _ _ _) (by simp -implicitDefEqProofs (disch:=omega) only [go_sem,↓reduceIte,deep,TD.rows,zAe,zAc,zAf,zAb,zAd,zAa,hx,hno];exact rfl) ?_;simp -implicitDefEqProofs (disch:=omega) only [go_sem,↓reduceIte ,hx,hno]
    | true =>
      rw [hx,Bool.true_and] at hat
      by_cases h0:i=0
      · subst h0;have hnx:(List.range (0+1)).all (okR hi l)=true:=by rw [zEl,hok,hat];rfl
        simp -implicitDefEqProofs (disch:=omega) only [go_sem,↓reduceIte ,List.length_map,Int.toNat_natCast,Int.ofNat_lt,Int.natCast_nonneg,List.getElem?_map,Option.map_some,hlt,e1,rI];refine zAx (zDb _ _ _) (by simp -implicitDefEqProofs (disch:=omega) only [go_sem,↓reduceIte,deep,TD.rows,zAe,zAc,zAf,zAb,zAd,zAa,hx,zlt,wrN];exact rfl) ?_;simp -implicitDefEqProofs (disch:=omega) only [go_sem,↓reduceIte ,hx,zlt,wrN];exact ⟨0+1,by omega,⟨hlt,hnx⟩,zDf⟩
      · have d0:decide ((0:Int) < (i:Int))=true:=(by rw [decide_eq_true_eq];omega);have hw:IntKind.i64.wrap ((i:Int) - 1)=((i - 1:Nat):Int):=(by rw [wrI (by omega) (by omega)];omega);have hlt2:i - 1 < l.length:=(by omega);have e2:=List.getElem?_eq_getElem hlt2;rw [decide_eq_false h0,Bool.false_or,getD_in hlt2] at hat
        cases hc:decide (l[i]≤l[i - 1]) with
        | true=>have hno:zFd hi l=false:=zHg hlt (by rw [hat,decide_eq_false_iff_not];rw [decide_eq_true_eq] at hc;omega);simp -implicitDefEqProofs (disch:=omega) only [go_sem,↓reduceIte ,List.length_map,Int.toNat_natCast,Int.ofNat_lt,Int.natCast_nonneg,List.getElem?_map,Option.map_some,hlt,e1,rI];refine zAx (zDb _ _ _) (by simp -implicitDefEqProofs (disch:=omega) only [go_sem,↓reduceIte,deep,TD.rows,zAe,zAc,zAf,zAb,zAd,zAa,hx,d0,hw,List.length_map,Int.toNat_natCast,Int.ofNat_lt,Int.natCast_nonneg,List.getElem?_map,Option.map_some,hlt2,hlt,e1,e2,rI,hc,hno];exact rfl) ?_;simp -implicitDefEqProofs (disch:=omega) only [go_sem,↓reduceIte ,hx,d0,hw,List.length_map,Int.toNat_natCast,Int.ofNat_lt,Int.natCast_nonneg,List.getElem?_map,Option.map_some,hlt2,hlt,e1,e2,rI,hc,hno]
        | false=>have hnx:(List.range (i+1)).all (okR hi l)=true:=(by rw [zEl,hok,hat,Bool.true_and,decide_eq_true_eq];rw [decide_eq_false_iff_not] at hc;omega);simp -implicitDefEqProofs (disch:=omega) only [go_sem,↓reduceIte ,List.length_map,Int.toNat_natCast,Int.ofNat_lt,Int.natCast_nonneg,List.getElem?_map,Option.map_some,hlt,e1,rI];refine zAx (zDb _ _ _) (by simp -implicitDefEqProofs (disch:=omega) only [go_sem,↓reduceIte,deep,TD.rows,zAe,zAc,zAf,zAb,zAd,zAa,hx,d0,hw,List.length_map,Int.toNat_natCast,Int.ofNat_lt,Int.natCast_nonneg,List.getElem?_map,Option.map_some,hlt2,hlt,e1,e2,rI,hc,wrN];exact rfl) ?_;simp -implicitDefEqProofs (disch:=omega) only [go_sem,↓reduceIte ,hx,d0,hw,List.length_map,Int.toNat_natCast,Int.ofNat_lt,Int.natCast_nonneg,List.getElem?_map,Option.map_some,hlt2,hlt,e1,e2,rI,hc,wrN];exact ⟨i+1,by omega,⟨hlt,hnx⟩,zDf⟩
  · obtain rfl:i=l.length:=(by have:¬ i < l.length:=(by simpa using hlt);omega);have hy:zFd hi l=true:=hok;simp -implicitDefEqProofs (disch:=omega) only [go_sem,↓reduceIte ,hy]
structure frmB (f:Form):Prop where
  c:f.Cubes.length≤1048576
  s:f.Sums.length≤1048576
  l:∀ x,x∈f.Sums→x.length≤1048576
theorem yH6 {n:Int} {l:List Cube} {i:Nat} (h:i < l.length):okC n l i=(zIe n l[i]&&(decide (i=0)||zIj (l.getD (i - 1) yB9) l[i])):=by unfold okC;rw [getD_in h]
def code_impl_ValidForm_1:VCode:=(.seq (.ops [
  ⟨(some 3),none,(.asg (.const (.bool false)))⟩]) (.seq (.ops [
  ⟨(some 4),none,(.mv (.tmp 0))⟩,
  ⟨(some 5),none,(.fa 1 (.tmp 1))⟩,
  ⟨(some 6),none,(.load 1 false (.tmp 5))⟩,
  ⟨(some 7),none,(.len (.tmp 6))⟩,
  ⟨(some 8),none,(.callX 54 [(.tmp 4),(.tmp 7)])⟩,
  ⟨(some 9),none,(.un .not (.tmp 8))⟩,
  ⟨(some 3),none,(.asg (.tmp 9))⟩]) .ret))
theorem zHt {a0 a1 d:D} (h:code_impl_ValidForm_1.wp (CT Tryz.prog zA8) (zD5 [(.t 3)] d) [a0,a1,.undef,.undef,.undef,.undef,.undef,.undef,.undef,.undef]):Contract Tryz.prog zA8 53 [a0,a1] d :=
  zAm (pt:=0) zDy Tryz.func53 (fun us W=>by kernel_rfl) (c:=Tryz.f53.body.getD .skip) (ms:=[]) (ms':=[]) (by kernel_rfl) (by kernel_rfl) (by kernel_rfl) h
def code_impl_ValidForm:VCode:=(.seq (.ops [
  ⟨(some 1),none,(.box (.tmp 0))⟩,
  ⟨(some 2),none,(.asg (.const (.bool false)))⟩]) (.seq (.seq (.ops [
  ⟨(some 5),none,(.fa 0 (.tmp 1))⟩,
  ⟨(some 6),none,(.load 1 false (.tmp 5))⟩,
  ⟨(some 7),none,(.callX 48 [(.tmp 6)])⟩,
  ⟨(some 8),none,(.un .not (.tmp 7))⟩,
  ⟨(some 9),none,(.mv (.tmp 8))⟩,
  ⟨(some 10),(some (9,false)),(.fa 1 (.tmp 1))⟩,
  ⟨(some 11),(some (9,false)),(.load 1 false (.tmp 10))⟩,
  ⟨(some 12),(some (9,false)),(.len (.tmp 11))⟩,
  ⟨(some 13),(some (9,false)),(.bin .gtr (.tmp 12) (.const (.int .i64 81)))⟩,
  ⟨(some 14),none,(.pick (.tmp 9) (.const (.bool true)) (.tmp 13))⟩,
  ⟨(some 15),none,(.mv (.tmp 14))⟩,
  ⟨(some 16),(some (15,false)),(.fa 2 (.tmp 1))⟩,
  ⟨(some 17),(some (15,false)),(.load 1 false (.tmp 16))⟩,
  ⟨(some 18),(some (15,false)),(.len (.tmp 17))⟩,
  ⟨(some 19),(some (15,false)),(.callX 49 [(.tmp 18),(.const (.int .i64 1)),(.const (.int .i64 3))])⟩,
  ⟨(some 20),(some (15,false)),(.un .not (.tmp 19))⟩,
  ⟨(some 21),none,(.pick (.tmp 15) (.const (.bool true)) (.tmp 20))⟩]) (.cond (.tmp 21) (.seq (.ops [
  ⟨(some 2),none,(.asg (.const (.bool false)))⟩]) .ret) .skip)) (.seq (.seq (.ops [
  ⟨(some 22),none,(.fa 1 (.tmp 1))⟩,
  ⟨(some 23),none,(.load 1 false (.tmp 22))⟩,
  ⟨(some 24),none,(.len (.tmp 23))⟩,
  ⟨(some 25),none,(.mv (.const (.int .i64 0)))⟩]) (.block 0 (.loop (mB 56 72057593975013373) (.seq (.ops [
  ⟨(some 26),none,(.bin .lss (.tmp 25) (.tmp 24))⟩]) (.seq (.cond (.tmp 26) .skip (.exit 0)) (.seq (.block 1 (.seq (.ops [
  ⟨(some 27),none,(.mv (.tmp 25))⟩,
  ⟨(some 28),none,(.ia 2 (.tmp 23) (.tmp 25))⟩,
  ⟨(some 29),none,(.load 2 true (.tmp 28))⟩,
  ⟨(some 4),none,(.alloc [(.int .i64 0),(.int .i64 0)])⟩,
  ⟨(some 3),none,(.asg (.tmp 27))⟩,
  ⟨none,none,(.store 2 (.tmp 4) (.tmp 29))⟩]) (.seq (.draw (mB 46 70367670435840) [] [⟨0,(mB 46 70367670435840),[],⟨(some 30),none,(.fa 0 (.tmp 1))⟩⟩,⟨1,(mB 46 70366596694016),[],⟨(some 31),none,(.load 1 false (.tmp 30))⟩⟩,⟨2,(mB 46 70367670435840),[],⟨(some 32),none,(.load 2 true (.tmp 4))⟩⟩,⟨3,(mB 46 70360154243072),[],⟨(some 33),none,(.call 50 [(.tmp 31),(.tmp 32)])⟩⟩,⟨4,(mB 46 70351564308480),[],⟨(some 34),none,(.un .not (.tmp 33))⟩⟩,⟨5,(mB 46 70334384439296),[],⟨(some 35),none,(.mv (.tmp 34))⟩⟩,⟨6,(mB 46 70300024700928),[],⟨(some 36),(some (35,false)),(.mv (.tmp 3))⟩⟩,⟨7,(mB 46 70231305224192),[],⟨(some 37),(some (35,false)),(.bin .gtr (.tmp 36) (.const (.int .i64 0)))⟩⟩,⟨8,(mB 46 70093866270720),[],⟨(some 38),(some (35,false)),(.mv (.tmp 37))⟩⟩,⟨9,(mB 46 69818988363776),[],⟨(some 39),(some (38,true)),(.fa 1 (.tmp 1))⟩⟩,⟨10,(mB 46 69269232549888),[],⟨(some 40),(some (38,true)),(.load 1 false (.tmp 39))⟩⟩,⟨11,(mB 46 69818988363776),[],⟨(some 41),(some (38,true)),(.mv (.tmp 3))⟩⟩,⟨12,(mB 46 67619965108224),[],⟨(some 42),(some (38,true)),(.bin .sub (.tmp 41) (.const (.int .i64 1)))⟩⟩,⟨13,(mB 46 61572651155456),[],⟨(some 43),(some (38,true)),(.ia 2 (.tmp 40) (.tmp 42))⟩⟩,⟨14,(mB 46 52776558133248),[],⟨(some 44),(some (38,true)),(.load 2 true (.tmp 43))⟩⟩,⟨15,(mB 46 69818988363776),[],⟨(some 45),(some (38,true)),(.load 2 true (.tmp 4))⟩⟩] [⟨(some 46),(some (38,true)),(.callX 51 [(.tmp 44),(.tmp 45)])⟩,⟨(some 47),(some (38,true)),(.bin .geq (.tmp 46) (.const (.int .i64 0)))⟩,⟨(some 48),(some (35,false)),(.pick (.tmp 38) (.tmp 47) (.const (.bool false)))⟩,⟨(some 49),none,(.pick (.tmp 35) (.const (.bool true)) (.tmp 48))⟩]) (.cond (.tmp 49) (.seq (.ops [
  ⟨(some 2),none,(.asg (.const (.bool false)))⟩]) .ret) .skip)))) (.ops [
  ⟨(some 50),none,(.bin .add (.tmp 25) (.const (.int .i64 1)))⟩,
  ⟨(some 25),none,(.mv (.tmp 50))⟩]))))))) (.seq (.ops [
  ⟨(some 51),none,(.fa 2 (.tmp 1))⟩,
  ⟨(some 52),none,(.load 1 false (.tmp 51))⟩,
  ⟨(some 53),none,(.mkf 53 [] [(.tmp 1)])⟩,
  ⟨(some 54),none,(.callX 52 [(.tmp 52),(.tmp 53)])⟩,
  ⟨(some 55),none,(.un .not (.tmp 54))⟩,
  ⟨(some 2),none,(.asg (.tmp 55))⟩]) .ret))))
theorem zJc {a0 d:D} (h:code_impl_ValidForm.wp (CT Tryz.prog zA8) (zD5 [(.t 2)] d) [a0,.undef,.undef,.undef,.undef,.undef,.undef,.undef,.undef,.undef,.undef,.undef,.undef,.undef,.undef,.undef,.undef,.undef,.undef,.undef,.undef,.undef,.undef,.undef,.undef,.undef,.undef,.undef,.undef,.undef,.undef,.undef,.undef,.undef,.undef,.undef,.undef,.undef,.undef,.undef,.undef,.undef,.undef,.undef,.undef,.undef,.undef,.undef,.undef,.undef,.undef,.undef,.undef,.undef,.undef,.undef]):Contract Tryz.prog zA8 22 [a0] d :=
  zAm (pt:=0) zDy Tryz.func22 (fun us W=>by kernel_rfl) (c:=Tryz.f22.body.getD .skip) (ms:=[(mB 56 72057593975013373)]) (ms':=[]) (by kernel_rfl) (by kernel_rfl) (by kernel_rfl) h
theorem zQs (f:Form) (x:List Int) (hc:f.Cubes.length≤1048576) (hx:x.length≤1048576):Contract Tryz.prog zA8 53 [.sl false 1 (x.map rI),.iptr (Form.td.d false f) 0] (.v (.bool (!zFd ((f.Cubes.length:Int) - 1) x))):=by rw [Form.td_d];refine zHt ?_;unfold code_impl_ValidForm_1;simp -implicitDefEqProofs (disch:=omega) only [go_sem,↓reduceIte ,List.length_map];refine zAk (zSr x f.Cubes.length hc hx) (by simp -implicitDefEqProofs (disch:=omega) only [go_sem,↓reduceIte,deep,TD.rows,zAe,zAc,zAf,zAb,zAd,zAa];exact rfl) ?_;simp -implicitDefEqProofs (disch:=omega) only [go_sem,↓reduceIte]
set_option maxHeartbeats 1000000 in
theorem zSs (f:Form) (hf:frmB f):Contract Tryz.prog zA8 22 [.agg (Form.td.d false f)] (.v (.bool (zDj f))):=by
  have hc:=hf.c;have hs:=hf.s;rw [Form.td_d];refine zJc ?_;unfold code_impl_ValidForm;cases h1:inR 1 4 f.Inputs with
  | false=>have hr:zDj f=false:=(by unfold zDj;rw [h1];rfl);simp -implicitDefEqProofs (disch:=omega) only [go_sem,↓reduceIte];refine zAk (zHh _) (by simp -implicitDefEqProofs (disch:=omega) only [go_sem,↓reduceIte,deep,TD.rows,zAe,zAc,zAf,zAb,zAd,zAa,h1,hr];exact rfl) ?_;simp -implicitDefEqProofs (disch:=omega) only [go_sem,↓reduceIte ,h1,hr]
  | true =>
  by_cases h3:f.Cubes.length≤81
  case neg=>have d3:decide ((81:Int) < (f.Cubes.length:Int))=true:=(by rw [decide_eq_true_eq];omega);have hr:zDj f=false:=(by unfold zDj;rw [decide_eq_false h3,Bool.false_and,Bool.and_false,Bool.and_false]);simp -implicitDefEqProofs (disch:=omega) only [go_sem,↓reduceIte];refine zAk (zHh _) (by simp -implicitDefEqProofs (disch:=omega) only [go_sem,↓reduceIte,deep,TD.rows,zAe,zAc,zAf,zAb,zAd,zAa,h1,List.length_map,d3,hr];exact rfl) ?_;simp -implicitDefEqProofs (disch:=omega) only [go_sem,↓reduceIte ,h1,List.length_map,d3,hr]
  case pos =>
  have d3:decide ((81:Int) < (f.Cubes.length:Int))=false:=(by rw [decide_eq_false_iff_not];omega);cases h2:inR 1 3 (f.Sums.length:Int) with
  | false=>have hr:zDj f=false:=(by unfold zDj;rw [h2,Bool.false_and,Bool.and_false]);simp -implicitDefEqProofs (disch:=omega) only [go_sem,↓reduceIte];refine zAk (zHh _) (by simp -implicitDefEqProofs (disch:=omega) only [go_sem,↓reduceIte,deep,TD.rows,zAe,zAc,zAf,zAb,zAd,zAa,h1,List.length_map,d3];exact rfl) ?_;simp -implicitDefEqProofs (disch:=omega) only [go_sem,↓reduceIte ,h1,List.length_map,d3];refine zAk (zF6 _ _ _) (by simp -implicitDefEqProofs (disch:=omega) only [go_sem,↓reduceIte,deep,TD.rows,zAe,zAc,zAf,zAb,zAd,zAa,h2,hr];exact rfl) ?_;simp -implicitDefEqProofs (disch:=omega) only [go_sem,↓reduceIte ,h2,hr]
  | true =>
  have hr:zDj f=((List.range f.Cubes.length).all (okC f.Inputs f.Cubes)&&f.Sums.all (zFd ((f.Cubes.length:Int) - 1))):=(by unfold zDj;rw [h1,h2,decide_eq_true h3];rfl);simp -implicitDefEqProofs (disch:=omega) only [go_sem,↓reduceIte];refine zAk (zHh _) (by simp -implicitDefEqProofs (disch:=omega) only [go_sem,↓reduceIte,deep,TD.rows,zAe,zAc,zAf,zAb,zAd,zAa,h1,List.length_map,d3];exact rfl) ?_;simp -implicitDefEqProofs (disch:=omega) only [go_sem,↓reduceIte ,h1,List.length_map,d3];refine zAk (zF6 _ _ _) (by simp -implicitDefEqProofs (disch:=omega) only [go_sem,↓reduceIte,deep,TD.rows,zAe,zAc,zAf,zAb,zAd,zAa,h2];exact rfl) ?_;simp -implicitDefEqProofs (disch:=omega) only [go_sem,↓reduceIte ,h2];refine zBz (by simp -implicitDefEqProofs (disch:=omega) only [go_sem,↓reduceIte];exact rfl) (fun i:Nat=>[(25,.v (.int .i64 (i:Nat)))]) (fun _=>by simp only [zBy,zBe,List.set_cons_zero,List.set_cons_succ];exact rfl) (fun i:Nat=>i≤f.Cubes.length∧(List.range i).all (okC f.Inputs f.Cubes)=true) (fun i:Nat=>f.Cubes.length - i) (0) (zDf) (?_) ?_
  · exact ⟨Nat.zero_le _,rfl⟩
  rintro i ⟨hi,hok⟩;simp -implicitDefEqProofs (disch:=omega) only [go_sem,↓reduceIte ,List.length_map,Int.toNat_natCast,Int.ofNat_lt,Int.natCast_nonneg,List.getElem?_map,Option.map_some];refine zAo ?_ ?_ <;> intro hlt
  · have hlt:i < f.Cubes.length:=(by simpa using hlt);have e1:=List.getElem?_eq_getElem hlt;have hat:=yH6 (n:=f.Inputs) hlt;have hq:=yC4 f.Inputs f.Cubes[i] h1;rw [Cube.td_d] at hq;cases hx:zIe f.Inputs f.Cubes[i] with
    | false=>have hno:zDj f=false:=(by rw [hr,zHg hlt (by rw [hat,hx];rfl)];rfl);simp -implicitDefEqProofs (disch:=omega) only [go_sem,↓reduceIte ,List.length_map,Int.toNat_natCast,Int.ofNat_lt,Int.natCast_nonneg,List.getElem?_map,Option.map_some,hlt,e1,Cube.td_d];refine zAx (hq) (by simp -implicitDefEqProofs (disch:=omega) only [go_sem,↓reduceIte,deep,TD.rows,zAe,zAc,zAf,zAb,zAd,zAa,hx,hno];exact rfl) ?_;simp -implicitDefEqProofs (disch:=omega) only [go_sem,↓reduceIte ,hx,hno]
    | true =>
      rw [hx,Bool.true_and] at hat
      by_cases h0:i=0
      · subst h0;have hnx:(List.range (0+1)).all (okC f.Inputs f.Cubes)=true:=by rw [zEl,hok,hat];rfl
        simp -implicitDefEqProofs (disch:=omega) only [go_sem,↓reduceIte ,List.length_map,Int.toNat_natCast,Int.ofNat_lt,Int.natCast_nonneg,List.getElem?_map,Option.map_some,hlt,e1,Cube.td_d];refine zAx (hq) (by simp -implicitDefEqProofs (disch:=omega) only [go_sem,↓reduceIte,deep,TD.rows,zAe,zAc,zAf,zAb,zAd,zAa,hx,zlt,wrN];exact rfl) ?_;simp -implicitDefEqProofs (disch:=omega) only [go_sem,↓reduceIte ,hx,zlt,wrN];exact ⟨0+1,by omega,⟨hlt,hnx⟩,zDf⟩
      · have d0:decide ((0:Int) < (i:Int))=true:=(by rw [decide_eq_true_eq];omega);have hw:IntKind.i64.wrap ((i:Int) - 1)=((i - 1:Nat):Int):=(by rw [wrI (by omega) (by omega)];omega);have hlt2:i - 1 < f.Cubes.length:=(by omega);have e2:=List.getElem?_eq_getElem hlt2;rw [decide_eq_false h0,Bool.false_or,getD_in hlt2] at hat
        have hcm:=zN0 f.Cubes[i - 1] f.Cubes[i];have hge:=yNq f.Cubes[i - 1] f.Cubes[i];rw [Cube.td_d,Cube.td_d] at hcm;cases hb:zIj f.Cubes[i - 1] f.Cubes[i] with
        | false =>
          rw [hb] at hge;have hno:zDj f=false:=by rw [hr,zHg hlt (by rw [hat,hb])];rfl
          simp -implicitDefEqProofs (disch:=omega) only [go_sem,↓reduceIte ,List.length_map,Int.toNat_natCast,Int.ofNat_lt,Int.natCast_nonneg,List.getElem?_map,Option.map_some,hlt,e1,Cube.td_d];refine zAx (hq) (by simp -implicitDefEqProofs (disch:=omega) only [go_sem,↓reduceIte,deep,TD.rows,zAe,zAc,zAf,zAb,zAd,zAa,hx,d0,hw,List.length_map,Int.toNat_natCast,Int.ofNat_lt,Int.natCast_nonneg,List.getElem?_map,Option.map_some,hlt2,e2,Cube.td_d];exact rfl) ?_;simp -implicitDefEqProofs (disch:=omega) only [go_sem,↓reduceIte ,hx,d0,hw,List.length_map,Int.toNat_natCast,Int.ofNat_lt,Int.natCast_nonneg,List.getElem?_map,Option.map_some,hlt2,e2,Cube.td_d];refine zAk (hcm) (by simp -implicitDefEqProofs (disch:=omega) only [go_sem,↓reduceIte,deep,TD.rows,zAe,zAc,zAf,zAb,zAd,zAa,hge,hno];exact rfl) ?_;simp -implicitDefEqProofs (disch:=omega) only [go_sem,↓reduceIte ,hge,hno]
        | true =>
          rw [hb] at hge;have hnx:(List.range (i+1)).all (okC f.Inputs f.Cubes)=true:=by rw [zEl,hok,hat,hb];rfl
          simp -implicitDefEqProofs (disch:=omega) only [go_sem,↓reduceIte ,List.length_map,Int.toNat_natCast,Int.ofNat_lt,Int.natCast_nonneg,List.getElem?_map,Option.map_some,hlt,e1,Cube.td_d];refine zAx (hq) (by simp -implicitDefEqProofs (disch:=omega) only [go_sem,↓reduceIte,deep,TD.rows,zAe,zAc,zAf,zAb,zAd,zAa,hx,d0,hw,List.length_map,Int.toNat_natCast,Int.ofNat_lt,Int.natCast_nonneg,List.getElem?_map,Option.map_some,hlt2,e2,Cube.td_d];exact rfl) ?_;simp -implicitDefEqProofs (disch:=omega) only [go_sem,↓reduceIte ,hx,d0,hw,List.length_map,Int.toNat_natCast,Int.ofNat_lt,Int.natCast_nonneg,List.getElem?_map,Option.map_some,hlt2,e2,Cube.td_d];refine zAk (hcm) (by simp -implicitDefEqProofs (disch:=omega) only [go_sem,↓reduceIte,deep,TD.rows,zAe,zAc,zAf,zAb,zAd,zAa,hge,wrN];exact rfl) ?_;simp -implicitDefEqProofs (disch:=omega) only [go_sem,↓reduceIte ,hge,wrN];exact ⟨i+1,by omega,⟨hlt,hnx⟩,zDf⟩
  · obtain rfl:i=f.Cubes.length:=(by have:¬ i < f.Cubes.length:=(by simpa using hlt);omega);simp -implicitDefEqProofs (disch:=omega) only [go_sem,↓reduceIte];refine zAk (zGw _ [.iptr (Form.td.d false f) 0] ⟨rfl,fun _=>rfl,fun _=>rfl,fun _=>rfl⟩ f.Sums (fun x=>!zFd ((f.Cubes.length:Int) - 1) x) (fun x hx=>zQs f x hc (hf.l x hx)) (by omega)) (by simp -implicitDefEqProofs (disch:=omega) only [go_sem,↓reduceIte,deep,TD.rows,zAe,zAc,zAf,zAb,zAd,zAa,zQj,Bool.not_not,hr,hok,Bool.true_and];exact rfl) ?_;simp -implicitDefEqProofs (disch:=omega) only [go_sem,↓reduceIte ,zQj,Bool.not_not,hr,hok,Bool.true_and]
def code_spec_l19Form:VCode:=(.seq (.ops [
  ⟨(some 2),none,(.asg (.const (.bool false)))⟩]) (.seq (.seq (.ops [
  ⟨(some 5),none,(.mv (.tmp 0))⟩,
  ⟨(some 6),none,(.nilc (.tmp 5))⟩,
  ⟨(some 7),none,(.fa 0 (.tmp 6))⟩,
  ⟨(some 8),none,(.load 1 false (.tmp 7))⟩,
  ⟨(some 9),none,(.callX 72 [(.tmp 8),(.const (.int .i64 1)),(.const (.int .i64 4))])⟩,
  ⟨(some 10),none,(.un .not (.tmp 9))⟩,
  ⟨(some 11),none,(.mv (.tmp 10))⟩,
  ⟨(some 12),(some (11,false)),(.mv (.tmp 0))⟩,
  ⟨(some 13),(some (11,false)),(.nilc (.tmp 12))⟩,
  ⟨(some 14),(some (11,false)),(.fa 2 (.tmp 13))⟩,
  ⟨(some 15),(some (11,false)),(.load 1 false (.tmp 14))⟩,
  ⟨(some 16),(some (11,false)),(.len (.tmp 15))⟩,
  ⟨(some 17),(some (11,false)),(.callX 72 [(.tmp 16),(.const (.int .i64 1)),(.const (.int .i64 3))])⟩,
  ⟨(some 18),(some (11,false)),(.un .not (.tmp 17))⟩,
  ⟨(some 19),none,(.pick (.tmp 11) (.const (.bool true)) (.tmp 18))⟩,
  ⟨(some 20),none,(.mv (.tmp 19))⟩,
  ⟨(some 21),(some (20,false)),(.mv (.tmp 0))⟩,
  ⟨(some 22),(some (20,false)),(.nilc (.tmp 21))⟩,
  ⟨(some 23),(some (20,false)),(.fa 1 (.tmp 22))⟩,
  ⟨(some 24),(some (20,false)),(.load 1 false (.tmp 23))⟩,
  ⟨(some 25),(some (20,false)),(.len (.tmp 24))⟩,
  ⟨(some 26),(some (20,false)),(.bin .gtr (.tmp 25) (.const (.int .i64 81)))⟩,
  ⟨(some 27),none,(.pick (.tmp 20) (.const (.bool true)) (.tmp 26))⟩]) (.cond (.tmp 27) (.seq (.ops [
  ⟨(some 2),none,(.asg (.const (.bool false)))⟩]) .ret) .skip)) (.seq (.seq (.ops [
  ⟨(some 3),none,(.asg (.const (.int .i64 0)))⟩]) (.block 0 (.loop (mB 97 158456325028528675187087900662) (.seq (.seq (.ops [
  ⟨(some 28),none,(.mv (.tmp 3))⟩,
  ⟨(some 29),none,(.mv (.tmp 0))⟩,
  ⟨(some 30),none,(.nilc (.tmp 29))⟩,
  ⟨(some 31),none,(.fa 1 (.tmp 30))⟩,
  ⟨(some 32),none,(.load 1 false (.tmp 31))⟩,
  ⟨(some 33),none,(.len (.tmp 32))⟩,
  ⟨(some 34),none,(.bin .lss (.tmp 28) (.tmp 33))⟩]) (.cond (.tmp 34) .skip (.exit 0))) (.seq (.block 1 (.seq (.draw (mB 69 590295810221266698240) [] [⟨0,(mB 69 590295810221266698240),[],⟨(some 37),none,(.mv (.tmp 0))⟩⟩,⟨1,(mB 69 590295810083827744768),[],⟨(some 38),none,(.nilc (.tmp 37))⟩⟩,⟨2,(mB 69 590295809808949837824),[],⟨(some 39),none,(.fa 0 (.tmp 38))⟩⟩,⟨3,(mB 69 590295809259194023936),[],⟨(some 40),none,(.load 1 false (.tmp 39))⟩⟩,⟨4,(mB 69 590295810221266698240),[],⟨(some 41),none,(.mv (.tmp 0))⟩⟩,⟨5,(mB 69 590295808022243442688),[],⟨(some 42),none,(.nilc (.tmp 41))⟩⟩,⟨6,(mB 69 590295803624196931584),[],⟨(some 43),none,(.fa 1 (.tmp 42))⟩⟩,⟨7,(mB 69 590295794828103909376),[],⟨(some 44),none,(.load 1 false (.tmp 43))⟩⟩,⟨8,(mB 69 590295810221266698240),[],⟨(some 45),none,(.mv (.tmp 3))⟩⟩,⟨9,(mB 69 590295742051545776128),[],⟨(some 46),none,(.ia 2 (.tmp 44) (.tmp 45))⟩⟩,⟨10,(mB 69 590295671682801598464),[],⟨(some 47),none,(.load 2 true (.tmp 46))⟩⟩,⟨11,(mB 69 590295528883728941056),[],⟨(some 48),none,(.call 73 [(.tmp 40),(.tmp 47)])⟩⟩,⟨12,(mB 69 590295247408752230400),[],⟨(some 49),none,(.un .not (.tmp 48))⟩⟩,⟨13,(mB 69 590294684458798809088),[],⟨(some 50),none,(.mv (.tmp 49))⟩⟩,⟨14,(mB 69 590293558558891966464),[],⟨(some 51),(some (50,false)),(.mv (.tmp 3))⟩⟩,⟨15,(mB 69 590291306759078281216),[],⟨(some 52),(some (50,false)),(.bin .gtr (.tmp 51) (.const (.int .i64 0)))⟩⟩,⟨16,(mB 69 590286803159450910720),[],⟨(some 53),(some (50,false)),(.mv (.tmp 52))⟩⟩,⟨17,(mB 69 590277795960196169728),[],⟨(some 54),(some (53,true)),(.mv (.tmp 0))⟩⟩,⟨18,(mB 69 590259781561686687744),[],⟨(some 55),(some (53,true)),(.nilc (.tmp 54))⟩⟩,⟨19,(mB 69 590223752764667723776),[],⟨(some 56),(some (53,true)),(.fa 1 (.tmp 55))⟩⟩,⟨20,(mB 69 590151695170629795840),[],⟨(some 57),(some (53,true)),(.load 1 false (.tmp 56))⟩⟩,⟨21,(mB 69 590277795960196169728),[],⟨(some 58),(some (53,true)),(.mv (.tmp 3))⟩⟩,⟨22,(mB 69 589989565584044457984),[],⟨(some 59),(some (53,true)),(.bin .sub (.tmp 58) (.const (.int .i64 1)))⟩⟩,⟨23,(mB 69 589142888854098804736),[],⟨(some 60),(some (53,true)),(.ia 2 (.tmp 57) (.tmp 59))⟩⟩,⟨24,(mB 69 587989967349491957760),[],⟨(some 61),(some (53,true)),(.load 2 true (.tmp 60))⟩⟩,⟨25,(mB 69 590277795960196169728),[],⟨(some 62),(some (53,true)),(.mv (.tmp 0))⟩⟩,⟨26,(mB 69 585666109941768781824),[],⟨(some 63),(some (53,true)),(.nilc (.tmp 62))⟩⟩,⟨27,(mB 69 576442737904914006016),[],⟨(some 64),(some (53,true)),(.fa 1 (.tmp 63))⟩⟩,⟨28,(mB 69 557995993831204454400),[],⟨(some 65),(some (53,true)),(.load 1 false (.tmp 64))⟩⟩,⟨29,(mB 69 590277795960196169728),[],⟨(some 66),(some (53,true)),(.mv (.tmp 3))⟩⟩,⟨30,(mB 69 447315529388947144704),[],⟨(some 67),(some (53,true)),(.ia 2 (.tmp 65) (.tmp 66))⟩⟩,⟨31,(mB 69 299741576799270731776),[],⟨(some 68),(some (53,true)),(.load 2 true (.tmp 67))⟩⟩] [⟨(some 69),(some (53,true)),(.callX 74 [(.tmp 61),(.tmp 68)])⟩,⟨(some 70),(some (53,true)),(.un .not (.tmp 69))⟩,⟨(some 71),(some (50,false)),(.pick (.tmp 53) (.tmp 70) (.const (.bool false)))⟩,⟨(some 72),none,(.pick (.tmp 50) (.const (.bool true)) (.tmp 71))⟩]) (.cond (.tmp 72) (.seq (.ops [
  ⟨(some 2),none,(.asg (.const (.bool false)))⟩]) .ret) .skip))) (.ops [
  ⟨(some 35),none,(.mv (.tmp 3))⟩,
  ⟨(some 36),none,(.bin .add (.tmp 35) (.const (.int .i64 1)))⟩,
  ⟨(some 3),none,(.asg (.tmp 36))⟩])))))) (.seq (.seq (.ops [
  ⟨(some 4),none,(.asg (.const (.int .i64 0)))⟩]) (.block 2 (.loop (mB 97 158456325028528675187087900654) (.seq (.seq (.ops [
  ⟨(some 73),none,(.mv (.tmp 4))⟩,
  ⟨(some 74),none,(.mv (.tmp 0))⟩,
  ⟨(some 75),none,(.nilc (.tmp 74))⟩,
  ⟨(some 76),none,(.fa 2 (.tmp 75))⟩,
  ⟨(some 77),none,(.load 1 false (.tmp 76))⟩,
  ⟨(some 78),none,(.len (.tmp 77))⟩,
  ⟨(some 79),none,(.bin .lss (.tmp 73) (.tmp 78))⟩]) (.cond (.tmp 79) .skip (.exit 2))) (.seq (.block 3 (.seq (.draw (mB 95 39609245553853710280073150464) [] [⟨0,(mB 95 39609245553853710280073150464),[],⟨(some 82),none,(.mv (.tmp 0))⟩⟩,⟨1,(mB 95 39604409850575251763374325760),[],⟨(some 83),none,(.nilc (.tmp 82))⟩⟩,⟨2,(mB 95 39594738444018334729976676352),[],⟨(some 84),none,(.fa 2 (.tmp 83))⟩⟩,⟨3,(mB 95 39575395630904500663181377536),[],⟨(some 85),none,(.load 1 false (.tmp 84))⟩⟩,⟨4,(mB 95 39609245553853710280073150464),[],⟨(some 86),none,(.mv (.tmp 4))⟩⟩,⟨5,(mB 95 39459338752221496262409584640),[],⟨(some 87),none,(.ia 1 (.tmp 85) (.tmp 86))⟩⟩,⟨6,(mB 95 39304596247310823728047194112),[],⟨(some 88),none,(.load 1 false (.tmp 87))⟩⟩,⟨7,(mB 95 39609245553853710280073150464),[],⟨(some 89),none,(.mv (.tmp 0))⟩⟩,⟨8,(mB 95 38990275534211020142623588352),[],⟨(some 90),none,(.nilc (.tmp 89))⟩⟩,⟨9,(mB 95 37752335494925639867724464128),[],⟨(some 91),none,(.fa 1 (.tmp 90))⟩⟩,⟨10,(mB 95 35276455416354879317926215680),[],⟨(some 92),none,(.load 1 false (.tmp 91))⟩⟩,⟨11,(mB 95 30324695259213358218329718784),[],⟨(some 93),none,(.len (.tmp 92))⟩⟩,⟨12,(mB 95 20421174944930316019136724992),[],⟨(some 94),none,(.bin .sub (.tmp 93) (.const (.int .i64 1)))⟩⟩] [⟨(some 95),none,(.callX 75 [(.tmp 88),(.const (.int .i64 0)),(.tmp 94)])⟩,⟨(some 96),none,(.un .not (.tmp 95))⟩]) (.cond (.tmp 96) (.seq (.ops [
  ⟨(some 2),none,(.asg (.const (.bool false)))⟩]) .ret) .skip))) (.ops [
  ⟨(some 80),none,(.mv (.tmp 4))⟩,
  ⟨(some 81),none,(.bin .add (.tmp 80) (.const (.int .i64 1)))⟩,
  ⟨(some 4),none,(.asg (.tmp 81))⟩])))))) (.seq (.ops [
  ⟨(some 2),none,(.asg (.const (.bool true)))⟩]) .ret)))))
theorem zLb {a0 d:D} (h:code_spec_l19Form.wp (CT Tryz.prog zA8) (zD5 [(.t 2)] d) [a0,.undef,.undef,.undef,.undef,.undef,.undef,.undef,.undef,.undef,.undef,.undef,.undef,.undef,.undef,.undef,.undef,.undef,.undef,.undef,.undef,.undef,.undef,.undef,.undef,.undef,.undef,.undef,.undef,.undef,.undef,.undef,.undef,.undef,.undef,.undef,.undef,.undef,.undef,.undef,.undef,.undef,.undef,.undef,.undef,.undef,.undef,.undef,.undef,.undef,.undef,.undef,.undef,.undef,.undef,.undef,.undef,.undef,.undef,.undef,.undef,.undef,.undef,.undef,.undef,.undef,.undef,.undef,.undef,.undef,.undef,.undef,.undef,.undef,.undef,.undef,.undef,.undef,.undef,.undef,.undef,.undef,.undef,.undef,.undef,.undef,.undef,.undef,.undef,.undef,.undef,.undef,.undef,.undef,.undef,.undef,.undef]):Contract Tryz.prog zA8 38 [a0] d :=
  zAm (pt:=0) zDy Tryz.func38 (fun us W=>by kernel_rfl) (c:=Tryz.f38.body.getD .skip) (ms:=[(mB 97 158456325028528675187087900662),(mB 97 158456325028528675187087900654)]) (ms':=[]) (by kernel_rfl) (by kernel_rfl) (by kernel_rfl) h
set_option maxHeartbeats 1000000 in
theorem zYm (f:Form) (hf:frmB f):Contract Tryz.prog zA8 38 [.iptr (Form.td.d false f) 0] (.v (.bool (zDj f))):=by
  have hc:=hf.c;have hs:=hf.s;rw [Form.td_d];refine zLb ?_;unfold code_spec_l19Form;cases h1:inR 1 4 f.Inputs with
  | false=>have hr:zDj f=false:=(by unfold zDj;rw [h1];rfl);simp -implicitDefEqProofs (disch:=omega) only [go_sem,↓reduceIte];refine zAk (zDb _ _ _) (by simp -implicitDefEqProofs (disch:=omega) only [go_sem,↓reduceIte,deep,TD.rows,zAe,zAc,zAf,zAb,zAd,zAa,h1,hr];exact rfl) ?_;simp -implicitDefEqProofs (disch:=omega) only [go_sem,↓reduceIte ,h1,hr]
  | true =>
  cases h2:inR 1 3 (f.Sums.length:Int) with
  | false=>have hr:zDj f=false:=(by unfold zDj;rw [h2,Bool.false_and,Bool.and_false]);simp -implicitDefEqProofs (disch:=omega) only [go_sem,↓reduceIte];refine zAk (zDb _ _ _) (by simp -implicitDefEqProofs (disch:=omega) only [go_sem,↓reduceIte,deep,TD.rows,zAe,zAc,zAf,zAb,zAd,zAa,h1,List.length_map];exact rfl) ?_;simp -implicitDefEqProofs (disch:=omega) only [go_sem,↓reduceIte ,h1,List.length_map];refine zAk (zDb _ _ _) (by simp -implicitDefEqProofs (disch:=omega) only [go_sem,↓reduceIte,deep,TD.rows,zAe,zAc,zAf,zAb,zAd,zAa,h2,hr];exact rfl) ?_;simp -implicitDefEqProofs (disch:=omega) only [go_sem,↓reduceIte ,h2,hr]
  | true =>
  by_cases h3:f.Cubes.length≤81
  case neg=>have d3:decide ((81:Int) < (f.Cubes.length:Int))=true:=(by rw [decide_eq_true_eq];omega);have hr:zDj f=false:=(by unfold zDj;rw [decide_eq_false h3,Bool.false_and,Bool.and_false,Bool.and_false]);simp -implicitDefEqProofs (disch:=omega) only [go_sem,↓reduceIte];refine zAk (zDb _ _ _) (by simp -implicitDefEqProofs (disch:=omega) only [go_sem,↓reduceIte,deep,TD.rows,zAe,zAc,zAf,zAb,zAd,zAa,h1,List.length_map];exact rfl) ?_;simp -implicitDefEqProofs (disch:=omega) only [go_sem,↓reduceIte ,h1,List.length_map];refine zAk (zDb _ _ _) (by simp -implicitDefEqProofs (disch:=omega) only [go_sem,↓reduceIte,deep,TD.rows,zAe,zAc,zAf,zAb,zAd,zAa,h2,List.length_map,d3,hr];exact rfl) ?_;simp -implicitDefEqProofs (disch:=omega) only [go_sem,↓reduceIte ,h2,List.length_map,d3,hr]
  case pos =>
  have d3:decide ((81:Int) < (f.Cubes.length:Int))=false:=(by rw [decide_eq_false_iff_not];omega);have hr:zDj f=((List.range f.Cubes.length).all (okC f.Inputs f.Cubes)&&f.Sums.all (zFd ((f.Cubes.length:Int) - 1))):=(by unfold zDj;rw [h1,h2,decide_eq_true h3];rfl);simp -implicitDefEqProofs (disch:=omega) only [go_sem,↓reduceIte];refine zAk (zDb _ _ _) (by simp -implicitDefEqProofs (disch:=omega) only [go_sem,↓reduceIte,deep,TD.rows,zAe,zAc,zAf,zAb,zAd,zAa,h1,List.length_map];exact rfl) ?_;simp -implicitDefEqProofs (disch:=omega) only [go_sem,↓reduceIte ,h1,List.length_map];refine zAk (zDb _ _ _) (by simp -implicitDefEqProofs (disch:=omega) only [go_sem,↓reduceIte,deep,TD.rows,zAe,zAc,zAf,zAb,zAd,zAa,h2,List.length_map,d3];exact rfl) ?_;simp -implicitDefEqProofs (disch:=omega) only [go_sem,↓reduceIte ,h2,List.length_map,d3];refine zBz (by simp -implicitDefEqProofs (disch:=omega) only [go_sem,↓reduceIte];exact rfl) (fun i:Nat=>[(3,.v (.int .i64 (i:Nat)))]) (fun _=>by simp only [zBy,zBe,List.set_cons_zero,List.set_cons_succ];exact rfl) (fun i:Nat=>i≤f.Cubes.length∧(List.range i).all (okC f.Inputs f.Cubes)=true) (fun i:Nat=>f.Cubes.length - i) (0) (zDf) (?_) ?_
  · exact ⟨Nat.zero_le _,rfl⟩
  rintro i ⟨hi,hok⟩;simp -implicitDefEqProofs (disch:=omega) only [go_sem,↓reduceIte ,List.length_map,Int.toNat_natCast,Int.ofNat_lt,Int.natCast_nonneg,List.getElem?_map,Option.map_some];refine zAo ?_ ?_ <;> intro hlt
  · have hlt:i < f.Cubes.length:=(by simpa using hlt);have e1:=List.getElem?_eq_getElem hlt;have hat:=yH6 (n:=f.Inputs) hlt;have hq:=zYn f.Inputs f.Cubes[i] h1;rw [Cube.td_d] at hq;cases hx:zIe f.Inputs f.Cubes[i] with
    | false=>have hno:zDj f=false:=(by rw [hr,zHg hlt (by rw [hat,hx];rfl)];rfl);simp -implicitDefEqProofs (disch:=omega) only [go_sem,↓reduceIte ,List.length_map,Int.toNat_natCast,Int.ofNat_lt,Int.natCast_nonneg,List.getElem?_map,Option.map_some,hlt,e1,Cube.td_d];refine zAx (hq) (by simp -implicitDefEqProofs (disch:=omega) only [go_sem,↓reduceIte,deep,TD.rows,zAe,zAc,zAf,zAb,zAd,zAa,hx,hno];exact rfl) ?_;simp -implicitDefEqProofs (disch:=omega) only [go_sem,↓reduceIte ,hx,hno]
    | true =>
      rw [hx,Bool.true_and] at hat
      by_cases h0:i=0
      · subst h0;have hnx:(List.range (0+1)).all (okC f.Inputs f.Cubes)=true:=by rw [zEl,hok,hat];rfl
        simp -implicitDefEqProofs (disch:=omega) only [go_sem,↓reduceIte ,List.length_map,Int.toNat_natCast,Int.ofNat_lt,Int.natCast_nonneg,List.getElem?_map,Option.map_some,hlt,e1,Cube.td_d];refine zAx (hq) (by simp -implicitDefEqProofs (disch:=omega) only [go_sem,↓reduceIte,deep,TD.rows,zAe,zAc,zAf,zAb,zAd,zAa,hx,zlt,wrN];exact rfl) ?_;simp -implicitDefEqProofs (disch:=omega) only [go_sem,↓reduceIte ,hx,zlt,wrN];exact ⟨0+1,by omega,⟨hlt,hnx⟩,zDf⟩
      · have d0:decide ((0:Int) < (i:Int))=true:=(by rw [decide_eq_true_eq];omega);have hw:IntKind.i64.wrap ((i:Int) - 1)=((i - 1:Nat):Int):=(by rw [wrI (by omega) (by omega)];omega);have hlt2:i - 1 < f.Cubes.length:=(by omega);have e2:=List.getElem?_eq_getElem hlt2;rw [decide_eq_false h0,Bool.false_or,getD_in hlt2] at hat
        have hcm:=zSq f.Cubes[i - 1] f.Cubes[i];rw [Cube.td_d,Cube.td_d] at hcm;cases hb:zIj f.Cubes[i - 1] f.Cubes[i] with
        | false=>have hno:zDj f=false:=(by rw [hr,zHg hlt (by rw [hat,hb])];rfl);simp -implicitDefEqProofs (disch:=omega) only [go_sem,↓reduceIte ,List.length_map,Int.toNat_natCast,Int.ofNat_lt,Int.natCast_nonneg,List.getElem?_map,Option.map_some,hlt,e1,Cube.td_d];refine zAx (hq) (by simp -implicitDefEqProofs (disch:=omega) only [go_sem,↓reduceIte,deep,TD.rows,zAe,zAc,zAf,zAb,zAd,zAa,hx,d0,hw,List.length_map,Int.toNat_natCast,Int.ofNat_lt,Int.natCast_nonneg,List.getElem?_map,Option.map_some,hlt2,hlt,e1,e2,Cube.td_d];exact rfl) ?_;simp -implicitDefEqProofs (disch:=omega) only [go_sem,↓reduceIte ,hx,d0,hw,List.length_map,Int.toNat_natCast,Int.ofNat_lt,Int.natCast_nonneg,List.getElem?_map,Option.map_some,hlt2,hlt,e1,e2,Cube.td_d];refine zAk (hcm) (by simp -implicitDefEqProofs (disch:=omega) only [go_sem,↓reduceIte,deep,TD.rows,zAe,zAc,zAf,zAb,zAd,zAa,hb,hno];exact rfl) ?_;simp -implicitDefEqProofs (disch:=omega) only [go_sem,↓reduceIte ,hb,hno]
        | true=>have hnx:(List.range (i+1)).all (okC f.Inputs f.Cubes)=true:=(by rw [zEl,hok,hat,hb];rfl);simp -implicitDefEqProofs (disch:=omega) only [go_sem,↓reduceIte ,List.length_map,Int.toNat_natCast,Int.ofNat_lt,Int.natCast_nonneg,List.getElem?_map,Option.map_some,hlt,e1,Cube.td_d];refine zAx (hq) (by simp -implicitDefEqProofs (disch:=omega) only [go_sem,↓reduceIte,deep,TD.rows,zAe,zAc,zAf,zAb,zAd,zAa,hx,d0,hw,List.length_map,Int.toNat_natCast,Int.ofNat_lt,Int.natCast_nonneg,List.getElem?_map,Option.map_some,hlt2,hlt,e1,e2,Cube.td_d];exact rfl) ?_;simp -implicitDefEqProofs (disch:=omega) only [go_sem,↓reduceIte ,hx,d0,hw,List.length_map,Int.toNat_natCast,Int.ofNat_lt,Int.natCast_nonneg,List.getElem?_map,Option.map_some,hlt2,hlt,e1,e2,Cube.td_d];refine zAk (hcm) (by simp -implicitDefEqProofs (disch:=omega) only [go_sem,↓reduceIte,deep,TD.rows,zAe,zAc,zAf,zAb,zAd,zAa,hb,wrN];exact rfl) ?_;simp -implicitDefEqProofs (disch:=omega) only [go_sem,↓reduceIte ,hb,wrN];exact ⟨i+1,by omega,⟨hlt,hnx⟩,zDf⟩
  · obtain rfl:i=f.Cubes.length:=(by have:¬ i < f.Cubes.length:=(by simpa using hlt);omega);rw [hok,Bool.true_and] at hr;have hwc:IntKind.i64.wrap ((f.Cubes.length:Int) - 1)=(f.Cubes.length:Int) - 1:=wrI (by omega) (by omega);simp -implicitDefEqProofs (disch:=omega) only [go_sem,↓reduceIte];refine zBz (by simp -implicitDefEqProofs (disch:=omega) only [go_sem,↓reduceIte];exact rfl) (fun i:Nat=>[(4,.v (.int .i64 (i:Nat)))]) (fun _=>by simp only [zBy,zBe,List.set_cons_zero,List.set_cons_succ];exact rfl) (fun i:Nat=>i≤f.Sums.length∧(f.Sums.take i).all (zFd ((f.Cubes.length:Int) - 1))=true) (fun i:Nat=>f.Sums.length - i) (0) (zDf) (?_) ?_
    · exact ⟨Nat.zero_le _,rfl⟩
    rintro i ⟨hi,hok⟩;simp -implicitDefEqProofs (disch:=omega) only [go_sem,↓reduceIte ,List.length_map,Int.toNat_natCast,Int.ofNat_lt,Int.natCast_nonneg,List.getElem?_map,Option.map_some];refine zAo ?_ ?_ <;> intro hlt
    · have hlt:i < f.Sums.length:=(by simpa using hlt);have e1:=List.getElem?_eq_getElem hlt;have hrs:=zV3 f.Sums[i] ((f.Cubes.length:Int) - 1) (hf.l _ (List.getElem_mem hlt));cases hx:zFd ((f.Cubes.length:Int) - 1) f.Sums[i] with
      | false=>have hno:zDj f=false:=(by rw [hr,List.all_eq_false];exact ⟨_,List.getElem_mem hlt,by simp [hx]⟩);simp -implicitDefEqProofs (disch:=omega) only [go_sem,↓reduceIte ,List.length_map,Int.toNat_natCast,Int.ofNat_lt,Int.natCast_nonneg,List.getElem?_map,Option.map_some,hlt,e1,List.length_map,hwc];refine zAk (hrs) (by simp -implicitDefEqProofs (disch:=omega) only [go_sem,↓reduceIte,deep,TD.rows,zAe,zAc,zAf,zAb,zAd,zAa,hx,hno];exact rfl) ?_;simp -implicitDefEqProofs (disch:=omega) only [go_sem,↓reduceIte ,hx,hno]
      | true=>have hnx:(f.Sums.take (i+1)).all (zFd ((f.Cubes.length:Int) - 1))=true:=(by rw [List.take_succ_eq_append_getElem hlt,List.all_append,hok];simp [hx]);simp -implicitDefEqProofs (disch:=omega) only [go_sem,↓reduceIte ,List.length_map,Int.toNat_natCast,Int.ofNat_lt,Int.natCast_nonneg,List.getElem?_map,Option.map_some,hlt,e1,List.length_map,hwc];refine zAk (hrs) (by simp -implicitDefEqProofs (disch:=omega) only [go_sem,↓reduceIte,deep,TD.rows,zAe,zAc,zAf,zAb,zAd,zAa,hx,wrN];exact rfl) ?_;simp -implicitDefEqProofs (disch:=omega) only [go_sem,↓reduceIte ,hx,wrN];exact ⟨i+1,by omega,⟨hlt,hnx⟩,zDf⟩
    · obtain rfl:i=f.Sums.length:=(by have:¬ i < f.Sums.length:=(by simpa using hlt);omega);rw [List.take_length] at hok;have hy:zDj f=true:=(by rw [hr,hok]);simp -implicitDefEqProofs (disch:=omega) only [go_sem,↓reduceIte ,hy]
/-! Bits, sizes. -/
def zIi (n:Int) (l:List Int):Bool:=decide ((l.length:Int)=n)&&l.all (inR 0 1)
def code_impl_bitsOk:VCode:=(.seq (.ops [
  ⟨(some 4),none,(.asg (.const (.bool false)))⟩]) (.seq (.ops [
  ⟨(some 5),none,(.mv (.tmp 0))⟩,
  ⟨(some 6),none,(.len (.tmp 5))⟩,
  ⟨(some 7),none,(.mv (.tmp 1))⟩,
  ⟨(some 8),none,(.bin .eql (.tmp 6) (.tmp 7))⟩,
  ⟨(some 9),none,(.mv (.tmp 8))⟩,
  ⟨(some 10),(some (9,true)),(.mv (.tmp 0))⟩,
  ⟨(some 11),(some (9,true)),(.callX 55 [(.tmp 10),(.const (.int .i64 2))])⟩,
  ⟨(some 12),none,(.pick (.tmp 9) (.tmp 11) (.const (.bool false)))⟩,
  ⟨(some 4),none,(.asg (.tmp 12))⟩]) .ret))
theorem zM2 {a0 a1 d:D} (h:code_impl_bitsOk.wp (CT Tryz.prog zA8) (zD5 [(.t 4)] d) [a0,a1,.undef,.undef,.undef,.undef,.undef,.undef,.undef,.undef,.undef,.undef,.undef]):Contract Tryz.prog zA8 23 [a0,a1] d :=
  zAm (pt:=0) zDy Tryz.func23 (fun us W=>by kernel_rfl) (c:=Tryz.f23.body.getD .skip) (ms:=[]) (ms':=[]) (by kernel_rfl) (by kernel_rfl) (by kernel_rfl) h
def code_spec_l19Bits:VCode:=(.seq (.ops [
  ⟨(some 4),none,(.asg (.const (.bool false)))⟩]) (.seq (.seq (.ops [
  ⟨(some 6),none,(.mv (.tmp 1))⟩,
  ⟨(some 7),none,(.len (.tmp 6))⟩,
  ⟨(some 8),none,(.mv (.tmp 0))⟩,
  ⟨(some 9),none,(.bin .neq (.tmp 7) (.tmp 8))⟩]) (.cond (.tmp 9) (.seq (.ops [
  ⟨(some 4),none,(.asg (.const (.bool false)))⟩]) .ret) .skip)) (.seq (.seq (.ops [
  ⟨(some 5),none,(.asg (.const (.int .i64 0)))⟩]) (.block 0 (.loop (mB 22 4194269) (.seq (.seq (.ops [
  ⟨(some 10),none,(.mv (.tmp 5))⟩,
  ⟨(some 11),none,(.mv (.tmp 1))⟩,
  ⟨(some 12),none,(.len (.tmp 11))⟩,
  ⟨(some 13),none,(.bin .lss (.tmp 10) (.tmp 12))⟩]) (.cond (.tmp 13) .skip (.exit 0))) (.seq (.block 1 (.seq (.ops [
  ⟨(some 16),none,(.mv (.tmp 1))⟩,
  ⟨(some 17),none,(.mv (.tmp 5))⟩,
  ⟨(some 18),none,(.ia 1 (.tmp 16) (.tmp 17))⟩,
  ⟨(some 19),none,(.load 1 false (.tmp 18))⟩,
  ⟨(some 20),none,(.callX 72 [(.tmp 19),(.const (.int .i64 0)),(.const (.int .i64 1))])⟩,
  ⟨(some 21),none,(.un .not (.tmp 20))⟩]) (.cond (.tmp 21) (.seq (.ops [
  ⟨(some 4),none,(.asg (.const (.bool false)))⟩]) .ret) .skip))) (.ops [
  ⟨(some 14),none,(.mv (.tmp 5))⟩,
  ⟨(some 15),none,(.bin .add (.tmp 14) (.const (.int .i64 1)))⟩,
  ⟨(some 5),none,(.asg (.tmp 15))⟩])))))) (.seq (.ops [
  ⟨(some 4),none,(.asg (.const (.bool true)))⟩]) .ret))))
theorem zLd {a0 a1 d:D} (h:code_spec_l19Bits.wp (CT Tryz.prog zA8) (zD5 [(.t 4)] d) [a0,a1,.undef,.undef,.undef,.undef,.undef,.undef,.undef,.undef,.undef,.undef,.undef,.undef,.undef,.undef,.undef,.undef,.undef,.undef,.undef,.undef]):Contract Tryz.prog zA8 39 [a0,a1] d :=
  zAm (pt:=0) zDy Tryz.func39 (fun us W=>by kernel_rfl) (c:=Tryz.f39.body.getD .skip) (ms:=[(mB 22 4194269)]) (ms':=[]) (by kernel_rfl) (by kernel_rfl) (by kernel_rfl) h
def code_spec_l20Sizes:VCode:=(.seq (.ops [
  ⟨(some 2),none,(.asg (.const (.int .i64 0)))⟩,
  ⟨(some 3),none,(.asg (.const (.int .i64 0)))⟩,
  ⟨(some 4),none,(.asg (.const (.int .i64 0)))⟩]) (.seq (.ops [
  ⟨(some 7),none,(.mv (.tmp 0))⟩,
  ⟨(some 8),none,(.nilc (.tmp 7))⟩,
  ⟨(some 9),none,(.fa 1 (.tmp 8))⟩,
  ⟨(some 10),none,(.load 1 false (.tmp 9))⟩,
  ⟨(some 11),none,(.len (.tmp 10))⟩,
  ⟨(some 5),none,(.asg (.tmp 11))⟩]) (.seq (.draw (mB 21 2093056) [] [⟨0,(mB 21 2093056),[],⟨(some 12),none,(.mv (.tmp 0))⟩⟩,⟨1,(mB 21 2088960),[],⟨(some 13),none,(.nilc (.tmp 12))⟩⟩,⟨2,(mB 21 2080768),[],⟨(some 14),none,(.fa 0 (.tmp 13))⟩⟩,⟨3,(mB 21 2064384),[],⟨(some 15),none,(.load 1 false (.tmp 14))⟩⟩,⟨4,(mB 21 2093056),[],⟨(some 16),none,(.mv (.tmp 0))⟩⟩,⟨5,(mB 21 2027520),[],⟨(some 17),none,(.nilc (.tmp 16))⟩⟩,⟨6,(mB 21 1896448),[],⟨(some 18),none,(.fa 2 (.tmp 17))⟩⟩,⟨7,(mB 21 1634304),[],⟨(some 19),none,(.load 1 false (.tmp 18))⟩⟩,⟨8,(mB 21 1110016),[],⟨(some 20),none,(.len (.tmp 19))⟩⟩] [⟨(some 21),none,(.bin .add (.tmp 15) (.tmp 20))⟩,⟨(some 6),none,(.asg (.tmp 21))⟩]) (.seq (.ops [
  ⟨(some 22),none,(.mv (.tmp 5))⟩,
  ⟨(some 23),none,(.bin .add (.const (.int .i64 1)) (.tmp 22))⟩,
  ⟨(some 24),none,(.mv (.tmp 6))⟩,
  ⟨(some 25),none,(.bin .add (.tmp 23) (.tmp 24))⟩,
  ⟨(some 26),none,(.mv (.tmp 5))⟩,
  ⟨(some 27),none,(.bin .mul (.const (.int .i64 4)) (.tmp 26))⟩,
  ⟨(some 28),none,(.mv (.tmp 6))⟩,
  ⟨(some 29),none,(.bin .mul (.tmp 27) (.tmp 28))⟩,
  ⟨(some 30),none,(.bin .add (.tmp 25) (.tmp 29))⟩,
  ⟨(some 31),none,(.mv (.tmp 5))⟩,
  ⟨(some 32),none,(.bin .add (.tmp 31) (.const (.int .i64 1)))⟩,
  ⟨(some 33),none,(.mv (.tmp 6))⟩,
  ⟨(some 34),none,(.bin .add (.tmp 33) (.const (.int .i64 1)))⟩,
  ⟨(some 35),none,(.bin .mul (.tmp 32) (.tmp 34))⟩,
  ⟨(some 36),none,(.mv (.tmp 5))⟩,
  ⟨(some 37),none,(.bin .add (.const (.int .i64 4)) (.tmp 36))⟩,
  ⟨(some 38),none,(.mv (.tmp 6))⟩,
  ⟨(some 39),none,(.bin .add (.tmp 37) (.tmp 38))⟩,
  ⟨(some 40),none,(.mv (.tmp 5))⟩,
  ⟨(some 41),none,(.bin .mul (.const (.int .i64 2)) (.tmp 40))⟩,
  ⟨(some 42),none,(.mv (.tmp 6))⟩,
  ⟨(some 43),none,(.bin .mul (.tmp 41) (.tmp 42))⟩,
  ⟨(some 44),none,(.bin .add (.tmp 39) (.tmp 43))⟩,
  ⟨(some 2),none,(.asg (.tmp 30))⟩,
  ⟨(some 3),none,(.asg (.tmp 35))⟩,
  ⟨(some 4),none,(.asg (.tmp 44))⟩]) .ret))))
theorem zKe {a0 d:D} (h:code_spec_l20Sizes.wp (CT Tryz.prog zA8) (zD5 [(.t 2),(.t 3),(.t 4)] d) [a0,.undef,.undef,.undef,.undef,.undef,.undef,.undef,.undef,.undef,.undef,.undef,.undef,.undef,.undef,.undef,.undef,.undef,.undef,.undef,.undef,.undef,.undef,.undef,.undef,.undef,.undef,.undef,.undef,.undef,.undef,.undef,.undef,.undef,.undef,.undef,.undef,.undef,.undef,.undef,.undef,.undef,.undef,.undef,.undef]):Contract Tryz.prog zA8 40 [a0] d :=
  zAm (pt:=0) zDy Tryz.func40 (fun us W=>by kernel_rfl) (c:=Tryz.f40.body.getD .skip) (ms:=[]) (ms':=[]) (by kernel_rfl) (by kernel_rfl) (by kernel_rfl) h
def code_spec_l20Asked:VCode:=(.seq (.ops [
  ⟨(some 4),none,(.asg (.const (.int .i64 0)))⟩]) (.seq (.seq (.ops [
  ⟨(some 8),none,(.mv (.tmp 0))⟩,
  ⟨(some 9),none,(.callX 38 [(.tmp 8)])⟩,
  ⟨(some 10),none,(.un .not (.tmp 9))⟩]) (.cond (.tmp 10) (.seq (.ops [
  ⟨(some 4),none,(.asg (.const (.int .i64 1)))⟩]) .ret) .skip)) (.seq (.seq (.ops [
  ⟨(some 11),none,(.mv (.tmp 0))⟩,
  ⟨(some 12),none,(.nilc (.tmp 11))⟩,
  ⟨(some 13),none,(.fa 0 (.tmp 12))⟩,
  ⟨(some 14),none,(.load 1 false (.tmp 13))⟩,
  ⟨(some 15),none,(.mv (.tmp 1))⟩,
  ⟨(some 16),none,(.callX 39 [(.tmp 14),(.tmp 15)])⟩,
  ⟨(some 17),none,(.un .not (.tmp 16))⟩]) (.cond (.tmp 17) (.seq (.ops [
  ⟨(some 4),none,(.asg (.const (.int .i64 2)))⟩]) .ret) .skip)) (.seq (.ops [
  ⟨(some 19),none,(.mv (.tmp 0))⟩,
  ⟨(some 20),none,(.callX 40 [(.tmp 19)])⟩,
  ⟨(some 18),none,(.mv (.tmp 20))⟩,
  ⟨(some 21),none,(.ext (.tmp 18) 0)⟩,
  ⟨(some 22),none,(.ext (.tmp 18) 1)⟩,
  ⟨(some 23),none,(.ext (.tmp 18) 2)⟩,
  ⟨(some 5),none,(.asg (.tmp 21))⟩,
  ⟨(some 6),none,(.asg (.tmp 22))⟩,
  ⟨(some 7),none,(.asg (.tmp 23))⟩]) (.seq (.seq (.ops [
  ⟨(some 24),none,(.mv (.tmp 5))⟩,
  ⟨(some 25),none,(.bin .gtr (.tmp 24) (.const (.int .i64 160)))⟩,
  ⟨(some 26),none,(.mv (.tmp 25))⟩,
  ⟨(some 27),(some (26,false)),(.mv (.tmp 7))⟩,
  ⟨(some 28),(some (26,false)),(.bin .gtr (.tmp 27) (.const (.int .i64 200)))⟩,
  ⟨(some 29),none,(.pick (.tmp 26) (.const (.bool true)) (.tmp 28))⟩]) (.cond (.tmp 29) (.seq (.ops [
  ⟨(some 4),none,(.asg (.const (.int .i64 4)))⟩]) .ret) .skip)) (.seq (.ops [
  ⟨(some 4),none,(.asg (.const (.int .i64 0)))⟩]) .ret))))))
theorem zKf {a0 a1 d:D} (h:code_spec_l20Asked.wp (CT Tryz.prog zA8) (zD5 [(.t 4)] d) [a0,a1,.undef,.undef,.undef,.undef,.undef,.undef,.undef,.undef,.undef,.undef,.undef,.undef,.undef,.undef,.undef,.undef,.undef,.undef,.undef,.undef,.undef,.undef,.undef,.undef,.undef,.undef,.undef,.undef]):Contract Tryz.prog zA8 18 [a0,a1] d :=
  zAm (pt:=0) zDy Tryz.func18 (fun us W=>by kernel_rfl) (c:=Tryz.f18.body.getD .skip) (ms:=[]) (ms':=[]) (by kernel_rfl) (by kernel_rfl) (by kernel_rfl) h
theorem yC6 (n:Int) (l:List Int) (hl:l.length≤1048576):Contract Tryz.prog zA8 23 [.sl false 1 (l.map rI),.v (.int .i64 n)] (.v (.bool (zIi n l))):=by
  refine zM2 ?_;unfold code_impl_bitsOk zIi;have hb:=yI4 l 2 (by omega) (by omega) hl;cases h:decide ((l.length:Int)=n) with
  | false=>simp -implicitDefEqProofs (disch:=omega) only [go_sem,↓reduceIte ,List.length_map,h]
  | true=>simp -implicitDefEqProofs (disch:=omega) only [go_sem,↓reduceIte ,List.length_map,h];refine zAk (hb) (by simp -implicitDefEqProofs (disch:=omega) only [go_sem,↓reduceIte,deep,TD.rows,zAe,zAc,zAf,zAb,zAd,zAa];exact rfl) ?_;simp -implicitDefEqProofs (disch:=omega) only [go_sem,↓reduceIte];rfl
theorem zYo (n:Int) (l:List Int) (hl:l.length≤1048576):Contract Tryz.prog zA8 39 [.v (.int .i64 n),.sl false 1 (l.map rI)] (.v (.bool (zIi n l))):=by
  refine zLd ?_;unfold code_spec_l19Bits;cases h:decide ((l.length:Int)=n) with
  | false=>have hr:zIi n l=false:=(by unfold zIi;rw [h];rfl);simp -implicitDefEqProofs (disch:=omega) only [go_sem,↓reduceIte ,List.length_map,h,hr]
  | true =>
    have hr:zIi n l=l.all (inR 0 1):=(by unfold zIi;rw [h];rfl);simp -implicitDefEqProofs (disch:=omega) only [go_sem,↓reduceIte ,List.length_map,h];refine zBz (by simp -implicitDefEqProofs (disch:=omega) only [go_sem,↓reduceIte];exact rfl) (fun i:Nat=>[(5,.v (.int .i64 (i:Nat)))]) (fun _=>by simp only [zBy,zBe,List.set_cons_zero,List.set_cons_succ];exact rfl) (fun i:Nat=>i≤l.length∧(l.take i).all (inR 0 1)=true) (fun i:Nat=>l.length - i) (0) (zDf) (?_) ?_
    · exact ⟨Nat.zero_le _,rfl⟩
    rintro i ⟨hi,hok⟩;simp -implicitDefEqProofs (disch:=omega) only [go_sem,↓reduceIte ,List.length_map,Int.toNat_natCast,Int.ofNat_lt,Int.natCast_nonneg,List.getElem?_map,Option.map_some];refine zAo ?_ ?_ <;> intro hlt
    · have hlt:i < l.length:=(by simpa using hlt);have e1:=List.getElem?_eq_getElem hlt;cases hx:inR 0 1 l[i] with
      | false=>have hno:zIi n l=false:=(by rw [hr,List.all_eq_false];exact ⟨_,List.getElem_mem hlt,by simp [hx]⟩);simp -implicitDefEqProofs (disch:=omega) only [go_sem,↓reduceIte ,List.length_map,Int.toNat_natCast,Int.ofNat_lt,Int.natCast_nonneg,List.getElem?_map,Option.map_some,hlt,e1,rI];refine zAk (zDb _ _ _) (by simp -implicitDefEqProofs (disch:=omega) only [go_sem,↓reduceIte,deep,TD.rows,zAe,zAc,zAf,zAb,zAd,zAa,hx,hno];exact rfl) ?_;simp -implicitDefEqProofs (disch:=omega) only [go_sem,↓reduceIte ,hx,hno]
      | true=>have hnx:(l.take (i+1)).all (inR 0 1)=true:=(by rw [List.take_succ_eq_append_getElem hlt,List.all_append,hok];simp [hx]);simp -implicitDefEqProofs (disch:=omega) only [go_sem,↓reduceIte ,List.length_map,Int.toNat_natCast,Int.ofNat_lt,Int.natCast_nonneg,List.getElem?_map,Option.map_some,hlt,e1,rI];refine zAk (zDb _ _ _) (by simp -implicitDefEqProofs (disch:=omega) only [go_sem,↓reduceIte,deep,TD.rows,zAe,zAc,zAf,zAb,zAd,zAa,hx,wrN];exact rfl) ?_;simp -implicitDefEqProofs (disch:=omega) only [go_sem,↓reduceIte ,hx,wrN];exact ⟨i+1,by omega,⟨hlt,hnx⟩,zDf⟩
    · obtain rfl:i=l.length:=(by have:¬ i < l.length:=(by simpa using hlt);omega);rw [List.take_length] at hok;have hy:zIi n l=true:=(by rw [hr,hok]);simp -implicitDefEqProofs (disch:=omega) only [go_sem,↓reduceIte ,hy]
def frT (f:Form):Int:=1+(f.Cubes.length:Int)+(f.Inputs+f.Sums.length)+4*f.Cubes.length*(f.Inputs+f.Sums.length)
def frG (f:Form):Int:=4+(f.Cubes.length:Int)+(f.Inputs+f.Sums.length)+2*f.Cubes.length*(f.Inputs+f.Sums.length)
def frA (f:Form):Int:=((f.Cubes.length:Int)+1)*((f.Inputs+f.Sums.length)+1)
def zEs (f:Form) (l:List Int):Int:=if zDj f=true then (if zIi f.Inputs l=true then (if 160 < frT f∨200 < frG f then 4 else 0) else 2) else 1
theorem zHq {f:Form} (h:zDj f=true):(1≤f.Inputs∧f.Inputs≤4)∧(1≤(f.Sums.length:Int)∧(f.Sums.length:Int)≤3)∧f.Cubes.length≤81:=by unfold zDj at h;simp only [Bool.and_eq_true,inR_iff,decide_eq_true_eq] at h;exact ⟨h.1,h.2.1,h.2.2.1⟩
theorem zRs {f:Form} (h:zDj f=true):∃ c r:Nat,(c:Int)=f.Inputs+f.Sums.length∧r=f.Cubes.length∧2≤c∧c≤7∧r≤81∧r*c≤567:=by obtain ⟨h1,h2,h3⟩:=zHq h;refine ⟨(f.Inputs+f.Sums.length).toNat,f.Cubes.length,by omega,rfl,by omega,by omega,h3,?_⟩;have:=Nat.mul_le_mul h3 (show (f.Inputs+f.Sums.length).toNat≤7 by omega);omega
theorem zV1 (f:Form) (h:zDj f=true):Contract Tryz.prog zA8 40 [.iptr (Form.td.d false f) 0] (.tup [.v (.int .i64 (frT f)),.v (.int .i64 (frA f)),.v (.int .i64 (frG f))]):=by obtain ⟨c,r,hc,hr,c1,c2,r1,hm⟩:=zRs h;have w0:IntKind.i64.wrap (f.Inputs+(f.Sums.length:Int))=(c:Int):=(by rw [← hc];exact wrI (by omega) (by omega));have w1:IntKind.i64.wrap (1+(r:Int))=((1+r:Nat):Int):=(by rw [wrI (by omega) (by omega)];omega);have w2:IntKind.i64.wrap (((1+r:Nat):Int)+(c:Int))=((1+r+c:Nat):Int):=(by rw [wrI (by omega) (by omega)];omega);have w3:IntKind.i64.wrap (4*(r:Int))=((4*r:Nat):Int):=(by rw [wrI (by omega) (by omega)];omega);have m4:((4*r:Nat):Int)*(c:Int)=((4*(r*c):Nat):Int):=(by rw [← Int.natCast_mul,Nat.mul_assoc]);have w4:IntKind.i64.wrap (((4*r:Nat):Int)*(c:Int))=((4*(r*c):Nat):Int):=(by rw [m4];exact wrI (by omega) (by omega));have w5:IntKind.i64.wrap (((1+r+c:Nat):Int)+((4*(r*c):Nat):Int))=((1+r+c+4*(r*c):Nat):Int):=(by rw [wrI (by omega) (by omega)];omega);have w6:IntKind.i64.wrap ((r:Int)+1)=((r+1:Nat):Int):=(by rw [wrI (by omega) (by omega)];omega);have w7:IntKind.i64.wrap ((c:Int)+1)=((c+1:Nat):Int):=(by rw [wrI (by omega) (by omega)];omega);have hm8:=Nat.mul_le_mul (show r+1≤82 by omega) (show c+1≤8 by omega);have w8:IntKind.i64.wrap (((r+1:Nat):Int)*((c+1:Nat):Int))=(((r+1)*(c+1):Nat):Int):=(by rw [← Int.natCast_mul];exact wrI (by omega) (by omega));have w9:IntKind.i64.wrap (4+(r:Int))=((4+r:Nat):Int):=(by rw [wrI (by omega) (by omega)];omega);have wa:IntKind.i64.wrap (((4+r:Nat):Int)+(c:Int))=((4+r+c:Nat):Int):=(by rw [wrI (by omega) (by omega)];omega);have wb:IntKind.i64.wrap (2*(r:Int))=((2*r:Nat):Int):=(by rw [wrI (by omega) (by omega)];omega);have mc:((2*r:Nat):Int)*(c:Int)=((2*(r*c):Nat):Int):=(by rw [← Int.natCast_mul,Nat.mul_assoc]);have wc:IntKind.i64.wrap (((2*r:Nat):Int)*(c:Int))=((2*(r*c):Nat):Int):=(by rw [mc];exact wrI (by omega) (by omega));have wd:IntKind.i64.wrap (((4+r+c:Nat):Int)+((2*(r*c):Nat):Int))=((4+r+c+2*(r*c):Nat):Int):=(by rw [wrI (by omega) (by omega)];omega);have t1:frT f=((1+r+c+4*(r*c):Nat):Int):=(by unfold frT;rw [← hr,← hc,Int.mul_assoc,← Int.natCast_mul];omega);have t2:frG f=((4+r+c+2*(r*c):Nat):Int):=(by unfold frG;rw [← hr,← hc,Int.mul_assoc,← Int.natCast_mul];omega);have t3:frA f=(((r+1)*(c+1):Nat):Int):=(by unfold frA;rw [← hr,← hc,Int.natCast_mul];rfl);rw [t1,t2,t3];rw [Form.td_d];refine zKe ?_;unfold code_spec_l20Sizes;simp -implicitDefEqProofs (disch:=omega) only [go_sem,↓reduceIte ,List.length_map,← hr,w0,w1,w2,w3,w4,w5,w6,w7,w8,w9,wa,wb,wc,wd]
def yBv (l:List Int) (x:Int):Bool:=l.any (fun y=>decide (x=y))
theorem yBu {l:List Int} {x:Int} {i:Nat} (h:i < l.length):yBv (l.take (i+1)) x=(yBv (l.take i) x||decide (x=l[i])):=by unfold yBv;rw [List.take_succ_eq_append_getElem h,List.any_append];simp
theorem yGg {l:List Int} {x:Int} {i:Nat} (h:i < l.length) (e:decide (x=l[i])=true):yBv l x=true:=by unfold yBv;rw [List.any_eq_true];exact ⟨l[i],List.getElem_mem h,e⟩
def code_slices_Index_int64_int64:VCode:=(.seq (.ops [
  ⟨(some 4),none,(.asg (.const (.int .i64 0)))⟩]) (.seq (.seq (.ops [
  ⟨(some 6),none,(.mv (.tmp 0))⟩,
  ⟨(some 7),none,(.len (.tmp 6))⟩,
  ⟨(some 8),none,(.mv (.const (.int .i64 0)))⟩]) (.block 0 (.loop (mB 19 523900) (.seq (.ops [
  ⟨(some 9),none,(.bin .lss (.tmp 8) (.tmp 7))⟩]) (.seq (.cond (.tmp 9) .skip (.exit 0)) (.seq (.block 1 (.seq (.ops [
  ⟨(some 10),none,(.mv (.tmp 8))⟩,
  ⟨(some 5),none,(.asg (.tmp 10))⟩]) (.seq (.ops [
  ⟨(some 11),none,(.mv (.tmp 1))⟩,
  ⟨(some 12),none,(.mv (.tmp 0))⟩,
  ⟨(some 13),none,(.mv (.tmp 5))⟩,
  ⟨(some 14),none,(.ia 1 (.tmp 12) (.tmp 13))⟩,
  ⟨(some 15),none,(.load 1 false (.tmp 14))⟩,
  ⟨(some 16),none,(.bin .eql (.tmp 11) (.tmp 15))⟩]) (.cond (.tmp 16) (.seq (.ops [
  ⟨(some 17),none,(.mv (.tmp 5))⟩,
  ⟨(some 4),none,(.asg (.tmp 17))⟩]) .ret) .skip)))) (.ops [
  ⟨(some 18),none,(.bin .add (.tmp 8) (.const (.int .i64 1)))⟩,
  ⟨(some 8),none,(.mv (.tmp 18))⟩]))))))) (.seq (.ops [
  ⟨(some 4),none,(.asg (.const (.int .i64 (-1))))⟩]) .ret)))
theorem zEq {a0 a1 d:D} (h:code_slices_Index_int64_int64.wp (CT Tryz.prog zA8) (zD5 [(.t 4)] d) [a0,a1,.undef,.undef,.undef,.undef,.undef,.undef,.undef,.undef,.undef,.undef,.undef,.undef,.undef,.undef,.undef,.undef,.undef]):Contract Tryz.prog zA8 100 [a0,a1] d :=
  zAm (pt:=0) zDy Tryz.func100 (fun us W=>by kernel_rfl) (c:=Tryz.f100.body.getD .skip) (ms:=[(mB 19 523900)]) (ms':=[]) (by kernel_rfl) (by kernel_rfl) (by kernel_rfl) h
def code_slices_Contains_int64_int64:VCode:=(.seq (.ops [
  ⟨(some 4),none,(.asg (.const (.bool false)))⟩]) (.seq (.ops [
  ⟨(some 5),none,(.mv (.tmp 0))⟩,
  ⟨(some 6),none,(.mv (.tmp 1))⟩,
  ⟨(some 7),none,(.callX 100 [(.tmp 5),(.tmp 6)])⟩,
  ⟨(some 8),none,(.bin .geq (.tmp 7) (.const (.int .i64 0)))⟩,
  ⟨(some 4),none,(.asg (.tmp 8))⟩]) .ret))
theorem zD9 {a0 a1 d:D} (h:code_slices_Contains_int64_int64.wp (CT Tryz.prog zA8) (zD5 [(.t 4)] d) [a0,a1,.undef,.undef,.undef,.undef,.undef,.undef,.undef]):Contract Tryz.prog zA8 90 [a0,a1] d :=
  zAm (pt:=0) zDy Tryz.func90 (fun us W=>by kernel_rfl) (c:=Tryz.f90.body.getD .skip) (ms:=[]) (ms':=[]) (by kernel_rfl) (by kernel_rfl) (by kernel_rfl) h
def code_spec_l00Has:VCode:=(.seq (.ops [
  ⟨(some 4),none,(.asg (.const (.bool false)))⟩]) (.seq (.seq (.ops [
  ⟨(some 5),none,(.asg (.const (.int .i64 0)))⟩]) (.block 0 (.loop (mB 18 262108) (.seq (.seq (.ops [
  ⟨(some 6),none,(.mv (.tmp 5))⟩,
  ⟨(some 7),none,(.mv (.tmp 0))⟩,
  ⟨(some 8),none,(.len (.tmp 7))⟩,
  ⟨(some 9),none,(.bin .lss (.tmp 6) (.tmp 8))⟩]) (.cond (.tmp 9) .skip (.exit 0))) (.seq (.block 1 (.seq (.ops [
  ⟨(some 12),none,(.mv (.tmp 0))⟩,
  ⟨(some 13),none,(.mv (.tmp 5))⟩,
  ⟨(some 14),none,(.ia 1 (.tmp 12) (.tmp 13))⟩,
  ⟨(some 15),none,(.load 1 false (.tmp 14))⟩,
  ⟨(some 16),none,(.mv (.tmp 1))⟩,
  ⟨(some 17),none,(.bin .eql (.tmp 15) (.tmp 16))⟩]) (.cond (.tmp 17) (.seq (.ops [
  ⟨(some 4),none,(.asg (.const (.bool true)))⟩]) .ret) .skip))) (.ops [
  ⟨(some 10),none,(.mv (.tmp 5))⟩,
  ⟨(some 11),none,(.bin .add (.tmp 10) (.const (.int .i64 1)))⟩,
  ⟨(some 5),none,(.asg (.tmp 11))⟩])))))) (.seq (.ops [
  ⟨(some 4),none,(.asg (.const (.bool false)))⟩]) .ret)))
theorem zMw {a0 a1 d:D} (h:code_spec_l00Has.wp (CT Tryz.prog zA8) (zD5 [(.t 4)] d) [a0,a1,.undef,.undef,.undef,.undef,.undef,.undef,.undef,.undef,.undef,.undef,.undef,.undef,.undef,.undef,.undef,.undef]):Contract Tryz.prog zA8 96 [a0,a1] d :=
  zAm (pt:=0) zDy Tryz.func96 (fun us W=>by kernel_rfl) (c:=Tryz.f96.body.getD .skip) (ms:=[(mB 18 262108)]) (ms':=[]) (by kernel_rfl) (by kernel_rfl) (by kernel_rfl) h
theorem zPa (l:List Int) (x:Int) (hn:l.length≤1048576):∃ k:Int,decide (0≤k)=yBv l x∧Contract Tryz.prog zA8 100 [.sl false 1 (l.map rI),.v (.int .i64 x)] (.v (.int .i64 k)):=by
  refine ⟨zV5 (fun y=>decide (x=y)) l,?_,?_⟩
  · exact zPb _ l
  refine zEq ?_;unfold code_slices_Index_int64_int64;simp -implicitDefEqProofs (disch:=omega) only [go_sem,↓reduceIte];refine zBz (by simp -implicitDefEqProofs (disch:=omega) only [go_sem,↓reduceIte];exact rfl) (fun i:Nat=>[(8,.v (.int .i64 (i:Nat)))]) (fun _=>by simp only [zBy,zBe,List.set_cons_zero,List.set_cons_succ];exact rfl) (fun i:Nat=>i≤l.length∧∀ j (hj:j < l.length),j < i→decide (x=l[j])=false) (fun i:Nat=>l.length - i) (0) (zDf) (?_) ?_
  · exact ⟨Nat.zero_le _,fun j _ h=>absurd h (Nat.not_lt_zero _)⟩
  rintro i ⟨hi,ha⟩;simp -implicitDefEqProofs (disch:=omega) only [go_sem,↓reduceIte ,List.length_map,Int.toNat_natCast,Int.ofNat_lt,Int.natCast_nonneg,List.getElem?_map,Option.map_some];refine zAo ?_ ?_ <;> intro hlt
  · have hlt:i < l.length:=(by simpa using hlt);have e1:=List.getElem?_eq_getElem hlt;simp -implicitDefEqProofs (disch:=omega) only [go_sem,↓reduceIte ,List.length_map,Int.toNat_natCast,Int.ofNat_lt,Int.natCast_nonneg,List.getElem?_map,Option.map_some,hlt,e1,rI];refine zAo ?_ ?_ <;> intro hp
    · simp -implicitDefEqProofs (disch:=omega) only [go_sem,↓reduceIte];rw [zIr (fun y=>decide (x=y)) l i hlt ha hp]
    · simp -implicitDefEqProofs (disch:=omega) only [go_sem,↓reduceIte ,wrN];refine ⟨i+1,by omega,⟨hlt,fun j hj h=>?_⟩,zDf⟩;rcases Nat.lt_or_ge j i with h' | h'
      · exact ha j hj h'
      · have:j=i:=(by omega);subst this;exact hp
  · have hlt:¬ i < l.length:=(by simpa using hlt);simp -implicitDefEqProofs (disch:=omega) only [go_sem,↓reduceIte];rw [zEv (fun y=>decide (x=y)) l (fun j hj=>ha j hj (by omega))]
theorem zK7 (l:List Int) (x:Int) (hn:l.length≤1048576):Contract Tryz.prog zA8 90 [.sl false 1 (l.map rI),.v (.int .i64 x)] (.v (.bool (yBv l x))):=by obtain ⟨k,hk,hc⟩:=zPa l x hn;refine zD9 ?_;unfold code_slices_Contains_int64_int64;simp -implicitDefEqProofs (disch:=omega) only [go_sem,↓reduceIte];refine zAk (hc) (by simp -implicitDefEqProofs (disch:=omega) only [go_sem,↓reduceIte,deep,TD.rows,zAe,zAc,zAf,zAb,zAd,zAa,hk];exact rfl) ?_;simp -implicitDefEqProofs (disch:=omega) only [go_sem,↓reduceIte ,hk]
theorem yC3 (l:List Int) (x:Int) (hn:l.length≤1048576):Contract Tryz.prog zA8 96 [.sl false 1 (l.map rI),.v (.int .i64 x)] (.v (.bool (yBv l x))):=by
  refine zMw ?_;unfold code_spec_l00Has;simp -implicitDefEqProofs (disch:=omega) only [go_sem,↓reduceIte];refine zBz (by simp -implicitDefEqProofs (disch:=omega) only [go_sem,↓reduceIte];exact rfl) (fun i:Nat=>[(5,.v (.int .i64 (i:Nat)))]) (fun _=>by simp only [zBy,zBe,List.set_cons_zero,List.set_cons_succ];exact rfl) (fun i:Nat=>i≤l.length∧yBv (l.take i) x=false) (fun i:Nat=>l.length - i) (0) (zDf) (?_) ?_
  · exact ⟨Nat.zero_le _,rfl⟩
  rintro i ⟨hi,ha⟩;simp -implicitDefEqProofs (disch:=omega) only [go_sem,↓reduceIte ,List.length_map,Int.toNat_natCast,Int.ofNat_lt,Int.natCast_nonneg,List.getElem?_map,Option.map_some];refine zAo ?_ ?_ <;> intro hlt
  · have hlt:i < l.length:=(by simpa using hlt);have e1:=List.getElem?_eq_getElem hlt;simp -implicitDefEqProofs (disch:=omega) only [go_sem,↓reduceIte ,List.length_map,Int.toNat_natCast,Int.ofNat_lt,Int.natCast_nonneg,List.getElem?_map,Option.map_some,hlt,e1,rI];refine zAo ?_ ?_ <;> intro hp
    · have hp':decide (x=l[i])=true:=(by simpa [eq_comm] using hp);have hy:=yGg hlt hp';simp -implicitDefEqProofs (disch:=omega) only [go_sem,↓reduceIte ,hy]
    · have hp':decide (x=l[i])=false:=(by simpa [eq_comm] using hp);have hnx:yBv (l.take (i+1)) x=false:=(by rw [yBu hlt,ha,hp'];rfl);simp -implicitDefEqProofs (disch:=omega) only [go_sem,↓reduceIte ,wrN];exact ⟨i+1,by omega,⟨hlt,hnx⟩,zDf⟩
  · obtain rfl:i=l.length:=(by have:¬ i < l.length:=(by simpa using hlt);omega);rw [List.take_length] at ha;simp -implicitDefEqProofs (disch:=omega) only [go_sem,↓reduceIte ,ha]
def code_laws_toInt64S:VCode:=(.seq (.ops [
  ⟨(some 2),none,(.asg (.const (.slice none 0 0)))⟩]) (.seq (.ops [
  ⟨(some 5),none,(.mv (.tmp 0))⟩,
  ⟨(some 6),none,(.len (.tmp 5))⟩,
  ⟨(some 7),none,(.mks 1 8 [(.int .i64 0)] (.tmp 6) (.tmp 6))⟩,
  ⟨(some 3),none,(.asg (.tmp 7))⟩]) (.seq (.seq (.ops [
  ⟨(some 4),none,(.asg (.const (.int .i64 0)))⟩]) (.block 0 (.loop (mB 22 4194150) (.seq (.seq (.ops [
  ⟨(some 8),none,(.mv (.tmp 4))⟩,
  ⟨(some 9),none,(.mv (.tmp 0))⟩,
  ⟨(some 10),none,(.len (.tmp 9))⟩,
  ⟨(some 11),none,(.bin .lss (.tmp 8) (.tmp 10))⟩]) (.cond (.tmp 11) .skip (.exit 0))) (.seq (.block 1 (.ops [
  ⟨(some 14),none,(.mv (.tmp 3))⟩,
  ⟨(some 15),none,(.mv (.tmp 4))⟩,
  ⟨(some 16),none,(.mv (.tmp 0))⟩,
  ⟨(some 17),none,(.mv (.tmp 4))⟩,
  ⟨(some 18),none,(.ia 1 (.tmp 16) (.tmp 17))⟩,
  ⟨(some 19),none,(.load 1 false (.tmp 18))⟩,
  ⟨(some 20),none,(.ia 1 (.tmp 14) (.tmp 15))⟩,
  ⟨none,none,(.store 1 (.tmp 20) (.tmp 19))⟩])) (.ops [
  ⟨(some 12),none,(.mv (.tmp 4))⟩,
  ⟨(some 13),none,(.bin .add (.tmp 12) (.const (.int .i64 1)))⟩,
  ⟨(some 4),none,(.asg (.tmp 13))⟩])))))) (.seq (.ops [
  ⟨(some 21),none,(.mv (.tmp 3))⟩,
  ⟨(some 2),none,(.asg (.tmp 21))⟩]) .ret))))
theorem zKh {a0 d:D} (h:code_laws_toInt64S.wp (CT Tryz.prog zA8) (zD5 [(.t 2)] d) [a0,.undef,.undef,.undef,.undef,.undef,.undef,.undef,.undef,.undef,.undef,.undef,.undef,.undef,.undef,.undef,.undef,.undef,.undef,.undef,.undef,.undef]):Contract Tryz.prog zA8 7 [a0] d :=
  zAm (pt:=0) zDy Tryz.func7 (fun us W=>by kernel_rfl) (c:=Tryz.f7.body.getD .skip) (ms:=[(mB 22 4194150)]) (ms':=[]) (by kernel_rfl) (by kernel_rfl) (by kernel_rfl) h
set_option maxHeartbeats 2000000 in
theorem zFp (xs:List Int) (hn:xs.length≤1048576):Contract Tryz.prog zA8 7 [.sl false 1 (xs.map (rI))] (.sl true 1 (xs.map (rI))):=by
  have hl:xs.length≤1048576:=(by exact hn);refine zKh ?_;unfold code_laws_toInt64S;simp -implicitDefEqProofs (disch:=omega) only [go_sem,↓reduceIte ,List.length_map,Int.toNat_natCast];refine ⟨by omega,by omega,by omega,?_⟩;refine zFn (fun k:Nat=>[.sl false 1 (xs.map (rI)),.undef,.undef,.sl true 1 ((xs.take k).map (rI)++List.replicate (xs.length - k) [D.v (.int .i64 0)]),.v (.int .i64 k),.undef,.undef,.undef,.undef,.undef,.undef,.undef,.undef,.undef,.undef,.undef,.undef,.undef,.undef,.undef,.undef,.undef]) (fun k=>k≤xs.length) (fun k=>xs.length - k) 0 (zDf) (Nat.zero_le _) ?_;intro k hk;simp -implicitDefEqProofs (disch:=omega) only [go_sem,↓reduceIte ,List.length_map,Int.toNat_natCast,Int.ofNat_lt,Int.natCast_nonneg,List.getElem?_map,Option.map_some];refine zAo ?_ ?_ <;> intro hlt
  · have hlt:k < xs.length:=(by simpa using hlt);have e1:=List.getElem?_eq_getElem hlt;have g1:=zP8 xs (rI) [D.v (.int .i64 0)] k;have g2:=zTx xs (rI) [D.v (.int .i64 0)] k hlt;have g3:=zNe xs (rI) [D.v (.int .i64 0)] k hlt;have g4:k < ((xs.take k).map (rI)++List.replicate (xs.length - k) [D.v (.int .i64 0)]).length:=(by rw [g1];exact hlt);simp -implicitDefEqProofs (disch:=omega) only [go_sem,↓reduceIte ,List.length_map,Int.toNat_natCast,Int.ofNat_lt,Int.natCast_nonneg,List.getElem?_map,Option.map_some,hlt,e1,g1,g2,List.set_set,List.getElem?_set_self g4,wrN];refine ⟨k+1,by omega,hlt,?_⟩;rw [← g3]
    (try simp -implicitDefEqProofs only [zCe,zCd,zBs,zBu,zBv,zBt,and_self,and_true,true_and]) <;> repeat' (first | exact zBi rfl | exact zB8 | apply And.intro | apply zCz | apply zA9 | apply zBc | exact zBq | exact zBj | apply zB9 | apply zCa)
  · have hge:k=xs.length:=(by have:¬ k < xs.length:=(by simpa using hlt);omega);subst hge;simp -implicitDefEqProofs (disch:=omega) only [go_sem,↓reduceIte ,zP9]
def code_laws_toInt64SS:VCode:=(.seq (.ops [
  ⟨(some 2),none,(.asg (.const (.slice none 0 0)))⟩]) (.seq (.ops [
  ⟨(some 5),none,(.mv (.tmp 0))⟩,
  ⟨(some 6),none,(.len (.tmp 5))⟩,
  ⟨(some 7),none,(.mks 1 24 [(.slice none 0 0)] (.tmp 6) (.tmp 6))⟩,
  ⟨(some 3),none,(.asg (.tmp 7))⟩]) (.seq (.seq (.ops [
  ⟨(some 4),none,(.asg (.const (.int .i64 0)))⟩]) (.block 0 (.loop (mB 23 8388454) (.seq (.seq (.ops [
  ⟨(some 8),none,(.mv (.tmp 4))⟩,
  ⟨(some 9),none,(.mv (.tmp 0))⟩,
  ⟨(some 10),none,(.len (.tmp 9))⟩,
  ⟨(some 11),none,(.bin .lss (.tmp 8) (.tmp 10))⟩]) (.cond (.tmp 11) .skip (.exit 0))) (.seq (.block 1 (.ops [
  ⟨(some 14),none,(.mv (.tmp 3))⟩,
  ⟨(some 15),none,(.mv (.tmp 4))⟩,
  ⟨(some 16),none,(.mv (.tmp 0))⟩,
  ⟨(some 17),none,(.mv (.tmp 4))⟩,
  ⟨(some 18),none,(.ia 1 (.tmp 16) (.tmp 17))⟩,
  ⟨(some 19),none,(.load 1 false (.tmp 18))⟩,
  ⟨(some 20),none,(.callX 7 [(.tmp 19)])⟩,
  ⟨(some 21),none,(.ia 1 (.tmp 14) (.tmp 15))⟩,
  ⟨none,none,(.store 1 (.tmp 21) (.tmp 20))⟩])) (.ops [
  ⟨(some 12),none,(.mv (.tmp 4))⟩,
  ⟨(some 13),none,(.bin .add (.tmp 12) (.const (.int .i64 1)))⟩,
  ⟨(some 4),none,(.asg (.tmp 13))⟩])))))) (.seq (.ops [
  ⟨(some 22),none,(.mv (.tmp 3))⟩,
  ⟨(some 2),none,(.asg (.tmp 22))⟩]) .ret))))
theorem zJa {a0 d:D} (h:code_laws_toInt64SS.wp (CT Tryz.prog zA8) (zD5 [(.t 2)] d) [a0,.undef,.undef,.undef,.undef,.undef,.undef,.undef,.undef,.undef,.undef,.undef,.undef,.undef,.undef,.undef,.undef,.undef,.undef,.undef,.undef,.undef,.undef]):Contract Tryz.prog zA8 21 [a0] d :=
  zAm (pt:=0) zDy Tryz.func21 (fun us W=>by kernel_rfl) (c:=Tryz.f21.body.getD .skip) (ms:=[(mB 23 8388454)]) (ms':=[]) (by kernel_rfl) (by kernel_rfl) (by kernel_rfl) h
set_option maxHeartbeats 2000000 in
theorem zSo (xs:List (List Int)) (hn:zJ3 (fun x:List Int=>x.length) xs≤1048576):Contract Tryz.prog zA8 21 [.sl false 1 (xs.map (fun x=>[D.sl false 1 (x.map (rI))]))] (.sl true 1 (xs.map (fun x=>[D.sl true 1 (x.map (rI))]))):=by
  have hl:xs.length≤1048576:=(by have:=zVk (fun x:List Int=>x.length) xs;omega);refine zJa ?_;unfold code_laws_toInt64SS;simp -implicitDefEqProofs (disch:=omega) only [go_sem,↓reduceIte ,List.length_map,Int.toNat_natCast];refine ⟨by omega,by omega,by omega,?_⟩;refine zFn (fun k:Nat=>[.sl false 1 (xs.map (fun x=>[D.sl false 1 (x.map (rI))])),.undef,.undef,.sl true 1 ((xs.take k).map (fun x=>[D.sl true 1 (x.map (rI))])++List.replicate (xs.length - k) [D.nils]),.v (.int .i64 k),.undef,.undef,.undef,.undef,.undef,.undef,.undef,.undef,.undef,.undef,.undef,.undef,.undef,.undef,.undef,.undef,.undef,.undef]) (fun k=>k≤xs.length) (fun k=>xs.length - k) 0 (zDf) (Nat.zero_le _) ?_;intro k hk;simp -implicitDefEqProofs (disch:=omega) only [go_sem,↓reduceIte ,List.length_map,Int.toNat_natCast,Int.ofNat_lt,Int.natCast_nonneg,List.getElem?_map,Option.map_some];refine zAo ?_ ?_ <;> intro hlt
  · have hlt:k < xs.length:=(by simpa using hlt);have e1:=List.getElem?_eq_getElem hlt;have g1:=zP8 xs (fun x=>[D.sl true 1 (x.map (rI))]) [D.nils] k;have g2:=zTx xs (fun x=>[D.sl true 1 (x.map (rI))]) [D.nils] k hlt;have g3:=zNe xs (fun x=>[D.sl true 1 (x.map (rI))]) [D.nils] k hlt;have g4:k < ((xs.take k).map (fun x=>[D.sl true 1 (x.map (rI))])++List.replicate (xs.length - k) [D.nils]).length:=(by rw [g1];exact hlt);have hm:=yHa (fun x:List Int=>x.length) xs k hlt;simp -implicitDefEqProofs (disch:=omega) only [go_sem,↓reduceIte ,List.length_map,Int.toNat_natCast,Int.ofNat_lt,Int.natCast_nonneg,List.getElem?_map,Option.map_some,hlt,e1,g1,g2,List.set_set,List.getElem?_set_self g4,wrN];refine zAk (zFp xs[k] (by omega)) (by simp -implicitDefEqProofs (disch:=omega) only [go_sem,↓reduceIte,deep,TD.rows,zAe,zAc,zAf,zAb,zAd,zAa,List.length_map,Int.toNat_natCast,Int.ofNat_lt,Int.natCast_nonneg,List.getElem?_map,Option.map_some,hlt,e1,g1,g2,List.set_set,List.getElem?_set_self g4,wrN];exact rfl) ?_;simp -implicitDefEqProofs (disch:=omega) only [go_sem,↓reduceIte ,List.length_map,Int.toNat_natCast,Int.ofNat_lt,Int.natCast_nonneg,List.getElem?_map,Option.map_some,hlt,e1,g1,g2,List.set_set,List.getElem?_set_self g4,wrN];refine ⟨k+1,by omega,hlt,?_⟩;rw [← g3]
    (try simp -implicitDefEqProofs only [zCe,zCd,zBs,zBu,zBv,zBt,and_self,and_true,true_and]) <;> repeat' (first | exact zBi rfl | exact zB8 | apply And.intro | apply zCz | apply zA9 | apply zBc | exact zBq | exact zBj | apply zB9 | apply zCa)
  · have hge:k=xs.length:=(by have:¬ k < xs.length:=(by simpa using hlt);omega);subst hge;simp -implicitDefEqProofs (disch:=omega) only [go_sem,↓reduceIte ,zP9]
def code_laws_toCube:VCode:=(.seq (.ops [
  ⟨(some 1),none,(.box (.tmp 0))⟩,
  ⟨(some 2),none,(.alloc [(.int .i64 0),(.int .i64 0)])⟩]) (.seq (.ops [
  ⟨(some 3),none,(.alloc [(.int .i64 0),(.int .i64 0)])⟩]) (.seq (.ops [
  ⟨(some 4),none,(.fa 0 (.tmp 1))⟩,
  ⟨(some 5),none,(.load 1 false (.tmp 4))⟩,
  ⟨(some 6),none,(.fa 0 (.tmp 3))⟩,
  ⟨none,none,(.store 1 (.tmp 6) (.tmp 5))⟩]) (.seq (.ops [
  ⟨(some 7),none,(.fa 1 (.tmp 1))⟩,
  ⟨(some 8),none,(.load 1 false (.tmp 7))⟩,
  ⟨(some 9),none,(.fa 1 (.tmp 3))⟩,
  ⟨none,none,(.store 1 (.tmp 9) (.tmp 8))⟩]) (.seq (.ops [
  ⟨(some 10),none,(.load 2 true (.tmp 3))⟩,
  ⟨none,none,(.store 2 (.tmp 2) (.tmp 10))⟩]) .ret)))))
theorem zMy {a0 d:D} (h:code_laws_toCube.wp (CT Tryz.prog zA8) (zD5 [(.c 2 2 true)] d) [a0,.undef,.undef,.undef,.undef,.undef,.undef,.undef,.undef,.undef,.undef]):Contract Tryz.prog zA8 47 [a0] d :=
  zAm (pt:=0) zDy Tryz.func47 (fun us W=>by kernel_rfl) (c:=Tryz.f47.body.getD .skip) (ms:=[]) (ms':=[]) (by kernel_rfl) (by kernel_rfl) (by kernel_rfl) h
set_option maxHeartbeats 2000000 in
theorem yC1 (q:Cube):Contract Tryz.prog zA8 47 [.agg (Cube.td.d false q)] (.agg (Cube.td.d true q)):=by rw [Cube.td_d,Cube.td_d];refine zMy ?_;unfold code_laws_toCube;simp -implicitDefEqProofs (disch:=omega) only [go_sem,↓reduceIte]
def code_laws_toCubeS:VCode:=(.seq (.ops [
  ⟨(some 2),none,(.asg (.const (.slice none 0 0)))⟩]) (.seq (.ops [
  ⟨(some 5),none,(.mv (.tmp 0))⟩,
  ⟨(some 6),none,(.len (.tmp 5))⟩,
  ⟨(some 7),none,(.mks 2 16 [(.int .i64 0),(.int .i64 0)] (.tmp 6) (.tmp 6))⟩,
  ⟨(some 3),none,(.asg (.tmp 7))⟩]) (.seq (.seq (.ops [
  ⟨(some 4),none,(.asg (.const (.int .i64 0)))⟩]) (.block 0 (.loop (mB 23 8388454) (.seq (.seq (.ops [
  ⟨(some 8),none,(.mv (.tmp 4))⟩,
  ⟨(some 9),none,(.mv (.tmp 0))⟩,
  ⟨(some 10),none,(.len (.tmp 9))⟩,
  ⟨(some 11),none,(.bin .lss (.tmp 8) (.tmp 10))⟩]) (.cond (.tmp 11) .skip (.exit 0))) (.seq (.block 1 (.ops [
  ⟨(some 14),none,(.mv (.tmp 3))⟩,
  ⟨(some 15),none,(.mv (.tmp 4))⟩,
  ⟨(some 16),none,(.mv (.tmp 0))⟩,
  ⟨(some 17),none,(.mv (.tmp 4))⟩,
  ⟨(some 18),none,(.ia 2 (.tmp 16) (.tmp 17))⟩,
  ⟨(some 19),none,(.load 2 true (.tmp 18))⟩,
  ⟨(some 20),none,(.callX 47 [(.tmp 19)])⟩,
  ⟨(some 21),none,(.ia 2 (.tmp 14) (.tmp 15))⟩,
  ⟨none,none,(.store 2 (.tmp 21) (.tmp 20))⟩])) (.ops [
  ⟨(some 12),none,(.mv (.tmp 4))⟩,
  ⟨(some 13),none,(.bin .add (.tmp 12) (.const (.int .i64 1)))⟩,
  ⟨(some 4),none,(.asg (.tmp 13))⟩])))))) (.seq (.ops [
  ⟨(some 22),none,(.mv (.tmp 3))⟩,
  ⟨(some 2),none,(.asg (.tmp 22))⟩]) .ret))))
theorem zLh {a0 d:D} (h:code_laws_toCubeS.wp (CT Tryz.prog zA8) (zD5 [(.t 2)] d) [a0,.undef,.undef,.undef,.undef,.undef,.undef,.undef,.undef,.undef,.undef,.undef,.undef,.undef,.undef,.undef,.undef,.undef,.undef,.undef,.undef,.undef,.undef]):Contract Tryz.prog zA8 20 [a0] d :=
  zAm (pt:=0) zDy Tryz.func20 (fun us W=>by kernel_rfl) (c:=Tryz.f20.body.getD .skip) (ms:=[(mB 23 8388454)]) (ms':=[]) (by kernel_rfl) (by kernel_rfl) (by kernel_rfl) h
set_option maxHeartbeats 2000000 in
theorem zYk (xs:List Cube) (hn:xs.length≤1048576):Contract Tryz.prog zA8 20 [.sl false 2 (xs.map (Cube.td.d false))] (.sl true 2 (xs.map (Cube.td.d true))):=by
  have hl:xs.length≤1048576:=(by exact hn);refine zLh ?_;unfold code_laws_toCubeS;simp -implicitDefEqProofs (disch:=omega) only [go_sem,↓reduceIte ,List.length_map,Int.toNat_natCast];refine ⟨by omega,by omega,by omega,?_⟩;refine zFn (fun k:Nat=>[.sl false 2 (xs.map (Cube.td.d false)),.undef,.undef,.sl true 2 ((xs.take k).map (Cube.td.d true)++List.replicate (xs.length - k) [D.v (.int .i64 0),D.v (.int .i64 0)]),.v (.int .i64 k),.undef,.undef,.undef,.undef,.undef,.undef,.undef,.undef,.undef,.undef,.undef,.undef,.undef,.undef,.undef,.undef,.undef,.undef]) (fun k=>k≤xs.length) (fun k=>xs.length - k) 0 (zDf) (Nat.zero_le _) ?_;intro k hk;simp -implicitDefEqProofs (disch:=omega) only [go_sem,↓reduceIte ,List.length_map,Int.toNat_natCast,Int.ofNat_lt,Int.natCast_nonneg,List.getElem?_map,Option.map_some];refine zAo ?_ ?_ <;> intro hlt
  · have hlt:k < xs.length:=(by simpa using hlt);have e1:=List.getElem?_eq_getElem hlt;have g1:=zP8 xs (Cube.td.d true) [D.v (.int .i64 0),D.v (.int .i64 0)] k;have g2:=zTx xs (Cube.td.d true) [D.v (.int .i64 0),D.v (.int .i64 0)] k hlt;have g3:=zNe xs (Cube.td.d true) [D.v (.int .i64 0),D.v (.int .i64 0)] k hlt;have g4:k < ((xs.take k).map (Cube.td.d true)++List.replicate (xs.length - k) [D.v (.int .i64 0),D.v (.int .i64 0)]).length:=(by rw [g1];exact hlt);simp -implicitDefEqProofs (disch:=omega) only [go_sem,↓reduceIte ,List.length_map,Int.toNat_natCast,Int.ofNat_lt,Int.natCast_nonneg,List.getElem?_map,Option.map_some,hlt,e1,g1,g2,List.set_set,List.getElem?_set_self g4,wrN,Cube.td_d];refine zAk (yC1 xs[k]) (by simp -implicitDefEqProofs (disch:=omega) only [go_sem,↓reduceIte,deep,TD.rows,zAe,zAc,zAf,zAb,zAd,zAa,List.length_map,Int.toNat_natCast,Int.ofNat_lt,Int.natCast_nonneg,List.getElem?_map,Option.map_some,hlt,e1,g1,g2,List.set_set,List.getElem?_set_self g4,wrN,Cube.td_d];exact rfl) ?_;simp -implicitDefEqProofs (disch:=omega) only [go_sem,↓reduceIte ,List.length_map,Int.toNat_natCast,Int.ofNat_lt,Int.natCast_nonneg,List.getElem?_map,Option.map_some,hlt,e1,g1,g2,List.set_set,List.getElem?_set_self g4,wrN,Cube.td_d];refine ⟨k+1,by omega,hlt,?_⟩;rw [← g3];rw [Cube.td_d]
    (try simp -implicitDefEqProofs only [zCe,zCd,zBs,zBu,zBv,zBt,and_self,and_true,true_and]) <;> repeat' (first | exact zBi rfl | exact zB8 | apply And.intro | apply zCz | apply zA9 | apply zBc | exact zBq | exact zBj | apply zB9 | apply zCa)
  · have hge:k=xs.length:=(by have:¬ k < xs.length:=(by simpa using hlt);omega);subst hge;simp -implicitDefEqProofs (disch:=omega) only [go_sem,↓reduceIte ,zP9]
def code_laws_toForm:VCode:=(.seq (.ops [
  ⟨(some 1),none,(.box (.tmp 0))⟩,
  ⟨(some 2),none,(.alloc [(.int .i64 0),(.slice none 0 0),(.slice none 0 0)])⟩]) (.seq (.ops [
  ⟨(some 3),none,(.alloc [(.int .i64 0),(.slice none 0 0),(.slice none 0 0)])⟩]) (.seq (.ops [
  ⟨(some 4),none,(.fa 0 (.tmp 1))⟩,
  ⟨(some 5),none,(.load 1 false (.tmp 4))⟩,
  ⟨(some 6),none,(.fa 0 (.tmp 3))⟩,
  ⟨none,none,(.store 1 (.tmp 6) (.tmp 5))⟩]) (.seq (.ops [
  ⟨(some 7),none,(.fa 1 (.tmp 1))⟩,
  ⟨(some 8),none,(.load 1 false (.tmp 7))⟩,
  ⟨(some 9),none,(.callX 20 [(.tmp 8)])⟩,
  ⟨(some 10),none,(.fa 1 (.tmp 3))⟩,
  ⟨none,none,(.store 1 (.tmp 10) (.tmp 9))⟩]) (.seq (.ops [
  ⟨(some 11),none,(.fa 2 (.tmp 1))⟩,
  ⟨(some 12),none,(.load 1 false (.tmp 11))⟩,
  ⟨(some 13),none,(.callX 21 [(.tmp 12)])⟩,
  ⟨(some 14),none,(.fa 2 (.tmp 3))⟩,
  ⟨none,none,(.store 1 (.tmp 14) (.tmp 13))⟩]) (.seq (.ops [
  ⟨(some 15),none,(.load 3 true (.tmp 3))⟩,
  ⟨none,none,(.store 3 (.tmp 2) (.tmp 15))⟩]) .ret))))))
theorem zMx {a0 d:D} (h:code_laws_toForm.wp (CT Tryz.prog zA8) (zD5 [(.c 2 3 true)] d) [a0,.undef,.undef,.undef,.undef,.undef,.undef,.undef,.undef,.undef,.undef,.undef,.undef,.undef,.undef,.undef]):Contract Tryz.prog zA8 6 [a0] d :=
  zAm (pt:=0) zDy Tryz.func6 (fun us W=>by kernel_rfl) (c:=Tryz.f6.body.getD .skip) (ms:=[]) (ms':=[]) (by kernel_rfl) (by kernel_rfl) (by kernel_rfl) h
set_option maxHeartbeats 2000000 in
theorem zLq (q:Form) (hn:Form.cnt q≤1048576):Contract Tryz.prog zA8 6 [.agg (Form.td.d false q)] (.agg (Form.td.d true q)):=by rw [Form.td_d,Form.td_d];refine zMx ?_;unfold code_laws_toForm;have hn0:=hn;unfold Form.cnt at hn;simp -implicitDefEqProofs (disch:=omega) only [go_sem,↓reduceIte];refine zAk (zYk q.Cubes (by omega)) (by simp -implicitDefEqProofs (disch:=omega) only [go_sem,↓reduceIte,deep,TD.rows,zAe,zAc,zAf,zAb,zAd,zAa];exact rfl) ?_;simp -implicitDefEqProofs (disch:=omega) only [go_sem,↓reduceIte];refine zAk (zSo q.Sums (by omega)) (by simp -implicitDefEqProofs (disch:=omega) only [go_sem,↓reduceIte,deep,TD.rows,zAe,zAc,zAf,zAb,zAd,zAa];exact rfl) ?_;simp -implicitDefEqProofs (disch:=omega) only [go_sem,↓reduceIte]
end Go.Proofs.YteaicicfbpehbaaGreatDoor
