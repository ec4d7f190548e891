/- Laws that the proof stands on. -/
import Derived.Test.YtaleehohmpohoaaZVB
import Derived.Test.YtaleehohmpohoaaProg
import Derived.Test.YtaleehohmpohoaaZMark
import Derived.Test.YtaleehohmpohoaaZVMv
import Derived.Test.YtaleehohmpohoaaZVTree
set_option linter.all false
namespace Go.Proofs.Ytaleehohmpohoaa
open Go.RowKit Go.V
attribute [local go_sem] List.getElem?_cons_succ List.getElem?_cons_zero List.set_cons_succ List.set_cons_zero List.map_cons List.map_nil List.length_cons List.length_nil List.all_cons List.all_nil List.drop_succ_cons List.drop_zero List.take_succ_cons List.take_zero List.flatMap_cons List.flatMap_nil List.cons_append List.nil_append List.append_nil List.headD_cons Value.oneCell' Bool.and_true Bool.true_and Bool.or_false Bool.false_or Bool.and_self Bool.not_true Bool.not_false and_true true_and beq_self_eq_true Bool.false_eq_true if_true if_false Nat.zero_add Nat.reduceAdd Nat.reduceMul Nat.reduceLeDiff Nat.le_refl Option.isSome_some Option.isSome_none not_true_eq_false not_false_eq_true ne_eq reduceCtorEq List.reverse_nil bne_self_eq_false Nat.reduceEqDiff List.isPrefixOf Bool.not_eq_true Bool.and_false Bool.false_and Bool.true_or Bool.or_true decide_true decide_false Nat.reduceBEq Nat.reduceBNe List.replicate_succ List.replicate_zero exists_eq_left' exists_eq_left Option.some.injEq or_false or_true true_or false_or Option.map_some Option.map_none mB Nat.reduceMod Nat.reduceDiv
set_option maxRecDepth 100000
def inR (lo hi n:Int):Bool:=decide (lo≤n)&&decide (n≤hi)
theorem inR_iff {lo hi n:Int}:inR lo hi n=true↔lo≤n∧n≤hi:=by simp [inR]
def code_spec_l00In:VCode:=(.seq (.ops [
  ⟨some 6,none,.asg (.const (.bool false))⟩]) (.seq (.ops [
  ⟨some 7,none,.mv (.tmp 0)⟩,
  ⟨some 8,none,.mv (.tmp 1)⟩,
  ⟨some 9,none,.bin .geq (.tmp 7) (.tmp 8)⟩,
  ⟨some 10,none,.mv (.tmp 9)⟩,
  ⟨some 11,some (10,true),.mv (.tmp 0)⟩,
  ⟨some 12,some (10,true),.mv (.tmp 2)⟩,
  ⟨some 13,some (10,true),.bin .leq (.tmp 11) (.tmp 12)⟩,
  ⟨some 14,none,.pick (.tmp 10) (.tmp 13) (.const (.bool false))⟩,
  ⟨some 6,none,.asg (.tmp 14)⟩]) .ret))
theorem law_spec_l00In {a0 a1 a2 d:D}(h:code_spec_l00In.wp (CT Try.prog NoG) (endQ [(.t 6)] d) [a0,a1,a2,.undef,.undef,.undef,.undef,.undef,.undef,.undef,.undef,.undef,.undef,.undef,.undef]):Contract Try.prog NoG 45 [a0,a1,a2] d :=
  contract_of (pt:=0) noG Try.func45 (fun us W=>by kernel_rfl) (c:=Try.f45.body.getD .skip) (ms:=[]) (ms':=[]) (by kernel_rfl) (by kernel_rfl) (by kernel_rfl) h
theorem v_l00In (a b c:Int):Contract Try.prog NoG 45 [.v (.int .i64 a),.v (.int .i64 b),.v (.int .i64 c)] (.v (.bool (inR b c a))):=by
  refine law_spec_l00In ?_;unfold code_spec_l00In inR;simp -implicitDefEqProofs (disch:=omega) only [go_sem,↓reduceIte];refine guard_split ?_ ?_<;>intro h
  · simp -implicitDefEqProofs (disch:=omega) only [go_sem,↓reduceIte ,h]
  · simp -implicitDefEqProofs (disch:=omega) only [go_sem,↓reduceIte ,h]
def code_impl_within:VCode:=(.seq (.ops [
  ⟨some 6,none,.asg (.const (.bool false))⟩]) (.seq (.ops [
  ⟨some 7,none,.mv (.tmp 0)⟩,
  ⟨some 8,none,.mv (.tmp 1)⟩,
  ⟨some 9,none,.bin .geq (.tmp 7) (.tmp 8)⟩,
  ⟨some 10,none,.mv (.tmp 9)⟩,
  ⟨some 11,some (10,true),.mv (.tmp 0)⟩,
  ⟨some 12,some (10,true),.mv (.tmp 2)⟩,
  ⟨some 13,some (10,true),.bin .leq (.tmp 11) (.tmp 12)⟩,
  ⟨some 14,none,.pick (.tmp 10) (.tmp 13) (.const (.bool false))⟩,
  ⟨some 6,none,.asg (.tmp 14)⟩]) .ret))
theorem law_impl_within {a0 a1 a2 d:D}(h:code_impl_within.wp (CT Try.prog NoG) (endQ [(.t 6)] d) [a0,a1,a2,.undef,.undef,.undef,.undef,.undef,.undef,.undef,.undef,.undef,.undef,.undef,.undef]):Contract Try.prog NoG 48 [a0,a1,a2] d :=
  contract_of (pt:=0) noG Try.func48 (fun us W=>by kernel_rfl) (c:=Try.f48.body.getD .skip) (ms:=[]) (ms':=[]) (by kernel_rfl) (by kernel_rfl) (by kernel_rfl) h
theorem v_within (a b c:Int):Contract Try.prog NoG 48 [.v (.int .i64 a),.v (.int .i64 b),.v (.int .i64 c)] (.v (.bool (inR b c a))):=by
  refine law_impl_within ?_;unfold code_impl_within inR;simp -implicitDefEqProofs (disch:=omega) only [go_sem,↓reduceIte];refine guard_split ?_ ?_<;>intro h
  · simp -implicitDefEqProofs (disch:=omega) only [go_sem,↓reduceIte ,h]
  · simp -implicitDefEqProofs (disch:=omega) only [go_sem,↓reduceIte ,h]
def code_spec_l00Max:VCode:=(.seq (.ops [
  ⟨some 4,none,.asg (.const (.int .i64 0))⟩]) (.seq (.seq (.ops [
  ⟨some 5,none,.mv (.tmp 0)⟩,
  ⟨some 6,none,.mv (.tmp 1)⟩,
  ⟨some 7,none,.bin .gtr (.tmp 5) (.tmp 6)⟩]) (.cond (.tmp 7) (.seq (.ops [
  ⟨some 8,none,.mv (.tmp 0)⟩,
  ⟨some 4,none,.asg (.tmp 8)⟩]) .ret) .skip)) (.seq (.ops [
  ⟨some 9,none,.mv (.tmp 1)⟩,
  ⟨some 4,none,.asg (.tmp 9)⟩]) .ret)))
theorem law_spec_l00Max {a0 a1 d:D}(h:code_spec_l00Max.wp (CT Try.prog NoG) (endQ [(.t 4)] d) [a0,a1,.undef,.undef,.undef,.undef,.undef,.undef,.undef,.undef]):Contract Try.prog NoG 110 [a0,a1] d :=
  contract_of (pt:=0) noG Try.func110 (fun us W=>by kernel_rfl) (c:=Try.f110.body.getD .skip) (ms:=[]) (ms':=[]) (by kernel_rfl) (by kernel_rfl) (by kernel_rfl) h
theorem v_l00Max (a b:Int):Contract Try.prog NoG 110 [.v (.int .i64 a),.v (.int .i64 b)] (.v (.int .i64 (max a b))):=by
  refine law_spec_l00Max ?_;unfold code_spec_l00Max;simp -implicitDefEqProofs (disch:=omega) only [go_sem,↓reduceIte];refine cond_split ?_ ?_<;>intro h
  · have:=of_decide_eq_true h;simp -implicitDefEqProofs (disch:=omega) only [go_sem,↓reduceIte];apply congrArg (Value.int .i64);omega
  · have:=of_decide_eq_false h;simp -implicitDefEqProofs (disch:=omega) only [go_sem,↓reduceIte];apply congrArg (Value.int .i64);omega
def code_slices_IndexFunc_int64_int64:VCode:=(.seq (.ops [
  ⟨some 4,none,.asg (.const (.int .i64 0))⟩]) (.seq (.seq (.ops [
  ⟨some 6,none,.mv (.tmp 0)⟩,
  ⟨some 7,none,.len (.tmp 6)⟩,
  ⟨some 8,none,.mv (.const (.int .i64 0))⟩]) (.block 0 (.loop (mB 19 523900) (.seq (.ops [
  ⟨some 9,none,.bin .lss (.tmp 8) (.tmp 7)⟩]) (.seq (.cond (.tmp 9) .skip (.exit 0)) (.seq (.block 1 (.seq (.ops [
  ⟨some 10,none,.mv (.tmp 8)⟩,
  ⟨some 5,none,.asg (.tmp 10)⟩]) (.seq (.ops [
  ⟨some 11,none,.mv (.tmp 1)⟩,
  ⟨some 12,none,.mv (.tmp 0)⟩,
  ⟨some 13,none,.mv (.tmp 5)⟩,
  ⟨some 14,none,.ia 1 (.tmp 12) (.tmp 13)⟩,
  ⟨some 15,none,.load 1 false (.tmp 14)⟩,
  ⟨some 16,none,.callvX (.tmp 11) [(.tmp 15)]⟩]) (.cond (.tmp 16) (.seq (.ops [
  ⟨some 17,none,.mv (.tmp 5)⟩,
  ⟨some 4,none,.asg (.tmp 17)⟩]) .ret) .skip)))) (.ops [
  ⟨some 18,none,.bin .add (.tmp 8) (.const (.int .i64 1))⟩,
  ⟨some 8,none,.mv (.tmp 18)⟩]))))))) (.seq (.ops [
  ⟨some 4,none,.asg (.const (.int .i64 (-1)))⟩]) .ret)))
theorem law_slices_IndexFunc_int64_int64 {a0 a1 d:D}(h:code_slices_IndexFunc_int64_int64.wp (CT Try.prog NoG) (endQ [(.t 4)] d) [a0,a1,.undef,.undef,.undef,.undef,.undef,.undef,.undef,.undef,.undef,.undef,.undef,.undef,.undef,.undef,.undef,.undef,.undef]):Contract Try.prog NoG 115 [a0,a1] d :=
  contract_of (pt:=0) noG Try.func115 (fun us W=>by kernel_rfl) (c:=Try.f115.body.getD .skip) (ms:=[(mB 19 523900)]) (ms':=[]) (by kernel_rfl) (by kernel_rfl) (by kernel_rfl) h
theorem v_IndexFunc_Int64 (f:FuncId)(caps:List D)(hd:CapsOK caps)(xs:List Int)(p:Int→Bool)(hc:∀ x,x∈xs→Contract Try.prog NoG f (.v (.int .i64 x)::caps) (.v (.bool (p x))))(hn:xs.length≤1099511627776) :
    Contract Try.prog NoG 115 [.sl false 1 (xs.map (rI)),.fn f [] caps] (.v (.int .i64 (vIdx p xs))):=by
  refine law_slices_IndexFunc_int64_int64 ?_;unfold code_slices_IndexFunc_int64_int64;simp -implicitDefEqProofs (disch:=omega) only [go_sem,↓reduceIte ,hd.owny,hd.pr];refine loop_st (fun i:Nat=>[.sl false 1 (xs.map (rI)),.fn f [] caps,.undef,.undef,.undef,.undef,.undef,.v (.int .i64 (xs.map (rI)).length),.v (.int .i64 i),.undef,.undef,.undef,.undef,.undef,.undef,.undef,.undef,.undef,.undef]) (fun i=>i≤xs.length∧∀ j (hj:j<xs.length),j<i→p xs[j]=false) (fun i=>xs.length-i) 0 ?_ ⟨Nat.zero_le _,fun j _ h=>absurd h (Nat.not_lt_zero _)⟩ ?_
  · simp -implicitDefEqProofs (disch:=omega) only [go_sem,↓reduceIte ,hd.owny,hd.pr]
    (try simp -implicitDefEqProofs only [nleL_cc,nleL_nn,nle_self,nle_boxs,nle_aggs,nle_nils,and_self,and_true,true_and])<;>repeat' (first | exact nle_of_eq rfl | exact nle_nil | apply And.intro | apply nle_sl | apply nleLL_cons | apply nleL_cons | exact nleL_nil | exact nleLL_nil | apply nle_box | apply nle_agg)
  rintro i ⟨hi,ha⟩;simp -implicitDefEqProofs (disch:=omega) only [go_sem,↓reduceIte ,List.length_map,Int.toNat_natCast,Int.ofNat_lt,Int.natCast_nonneg,List.getElem?_map,Option.map_some,hd.owny,hd.pr];refine cond_split ?_ ?_<;>intro hlt
  · have hlt:i<xs.length:=(by simpa using hlt);have hx:=List.getElem?_eq_getElem hlt;simp -implicitDefEqProofs (disch:=omega) only [go_sem,↓reduceIte ,List.length_map,Int.toNat_natCast,Int.ofNat_lt,Int.natCast_nonneg,List.getElem?_map,Option.map_some,hlt,hx,hd.owny,hd.pr];have hcx:=hc _ (List.getElem_mem hlt);refine callv_le (f:=f) (first:=[]) (caps:=caps) ?_ hcx ?_ (.inl rfl) ?_
    · simp -implicitDefEqProofs (disch:=omega) only [go_sem,↓reduceIte ,hd.owny]
    · refine leL_of_eq ?_;simp only [List.nil_append,List.cons_append,List.map_cons,List.map_nil,hd.d8,List.map_append];simp only [deep,raw,List.getElem?_cons_succ,List.getElem?_cons_zero,List.map_cons,List.map_nil,TD.rows,immLL_rI,immLL_rB8,immLL_rS,immLL_rBo]
    simp -implicitDefEqProofs (disch:=omega) only [go_sem,↓reduceIte ,hd.owny,hd.pr];refine cond_split ?_ ?_<;>intro hp
    · simp -implicitDefEqProofs (disch:=omega) only [go_sem,↓reduceIte ,hd.owny,hd.pr];rw [vIdx_hit p xs i hlt ha hp]
    · simp -implicitDefEqProofs (disch:=omega) only [go_sem,↓reduceIte ,wrN,hd.owny,hd.pr];refine ⟨i+1,by omega,⟨hlt,fun j hj h=>?_⟩,nleA⟩;rcases Nat.lt_or_ge j i with h' | h'
      · exact ha j hj h'
      · have:j=i:=(by omega);subst this;exact hp
  · have hlt:¬ i<xs.length:=(by simpa using hlt);simp -implicitDefEqProofs (disch:=omega) only [go_sem,↓reduceIte];rw [vIdx_miss p xs (fun j hj=>ha j hj (by omega))]
def code_slices_ContainsFunc_int64_int64:VCode:=(.seq (.ops [
  ⟨some 4,none,.asg (.const (.bool false))⟩]) (.seq (.ops [
  ⟨some 5,none,.mv (.tmp 0)⟩,
  ⟨some 6,none,.mv (.tmp 1)⟩,
  ⟨some 7,none,.callX 115 [(.tmp 5),(.tmp 6)]⟩,
  ⟨some 8,none,.bin .geq (.tmp 7) (.const (.int .i64 0))⟩,
  ⟨some 4,none,.asg (.tmp 8)⟩]) .ret))
theorem law_slices_ContainsFunc_int64_int64 {a0 a1 d:D}(h:code_slices_ContainsFunc_int64_int64.wp (CT Try.prog NoG) (endQ [(.t 4)] d) [a0,a1,.undef,.undef,.undef,.undef,.undef,.undef,.undef]):Contract Try.prog NoG 103 [a0,a1] d :=
  contract_of (pt:=0) noG Try.func103 (fun us W=>by kernel_rfl) (c:=Try.f103.body.getD .skip) (ms:=[]) (ms':=[]) (by kernel_rfl) (by kernel_rfl) (by kernel_rfl) h
theorem v_ContainsFunc_Int64 (f:FuncId)(caps:List D)(hd:CapsOK caps)(xs:List Int)(p:Int→Bool)(hc:∀ x,x∈xs→Contract Try.prog NoG f (.v (.int .i64 x)::caps) (.v (.bool (p x))))(hn:xs.length≤1099511627776) :
    Contract Try.prog NoG 103 [.sl false 1 (xs.map (rI)),.fn f [] caps] (.v (.bool (xs.any p))):=by
  refine law_slices_ContainsFunc_int64_int64 ?_;unfold code_slices_ContainsFunc_int64_int64;simp -implicitDefEqProofs (disch:=omega) only [go_sem,↓reduceIte ,hd.owny,hd.pr];refine call_le (v_IndexFunc_Int64 f caps hd xs p hc hn) ?_ (.inl rfl) ?_
  · refine leL_of_eq ?_;simp only [List.map_cons,List.map_nil,deep,raw,List.getElem?_cons_succ,List.getElem?_cons_zero,TD.rows,immLL_rI,immLL_rB8,immLL_rS,immLL_rBo,hd.owny,hd.pr,hd.d7]
    try rfl
  simp -implicitDefEqProofs (disch:=omega) only [go_sem,↓reduceIte];exact congrArg Value.bool (vIdx_any p xs)
def code_impl_below_1:VCode:=(.seq (.ops [
  ⟨some 3,none,.asg (.const (.bool false))⟩]) (.seq (.ops [
  ⟨some 4,none,.mv (.tmp 0)⟩,
  ⟨some 5,none,.load 1 false (.tmp 1)⟩,
  ⟨some 6,none,.bin .sub (.tmp 5) (.const (.int .i64 1))⟩,
  ⟨some 7,none,.callX 48 [(.tmp 4),(.const (.int .i64 0)),(.tmp 6)]⟩,
  ⟨some 8,none,.un .not (.tmp 7)⟩,
  ⟨some 3,none,.asg (.tmp 8)⟩]) .ret))
theorem law_impl_below_1 {a0 a1 d:D}(h:code_impl_below_1.wp (CT Try.prog NoG) (endQ [(.t 3)] d) [a0,a1,.undef,.undef,.undef,.undef,.undef,.undef,.undef]):Contract Try.prog NoG 104 [a0,a1] d :=
  contract_of (pt:=0) noG Try.func104 (fun us W=>by kernel_rfl) (c:=Try.f104.body.getD .skip) (ms:=[]) (ms':=[]) (by kernel_rfl) (by kernel_rfl) (by kernel_rfl) h
def code_impl_below:VCode:=(.seq (.ops [
  ⟨some 3,none,.box (.tmp 1)⟩,
  ⟨some 4,none,.asg (.const (.bool false))⟩]) (.seq (.ops [
  ⟨some 5,none,.mv (.tmp 0)⟩,
  ⟨some 6,none,.mkf 104 [] [(.tmp 3)]⟩,
  ⟨some 7,none,.callX 103 [(.tmp 5),(.tmp 6)]⟩,
  ⟨some 8,none,.un .not (.tmp 7)⟩,
  ⟨some 4,none,.asg (.tmp 8)⟩]) .ret))
theorem law_impl_below {a0 a1 d:D}(h:code_impl_below.wp (CT Try.prog NoG) (endQ [(.t 4)] d) [a0,a1,.undef,.undef,.undef,.undef,.undef,.undef,.undef]):Contract Try.prog NoG 86 [a0,a1] d :=
  contract_of (pt:=0) noG Try.func86 (fun us W=>by kernel_rfl) (c:=Try.f86.body.getD .skip) (ms:=[]) (ms':=[]) (by kernel_rfl) (by kernel_rfl) (by kernel_rfl) h
theorem v_below1 (n l:Int)(hl:0≤l)(hl2:l≤1099511627776):Contract Try.prog NoG 104 [.v (.int .i64 n),.iptr [.v (.int .i64 l)] 0] (.v (.bool (!inR 0 (l-1) n))):=by refine law_impl_below_1 ?_;unfold code_impl_below_1;have hw:IntKind.i64.wrap (l-1)=l-1:=wrI (by omega) (by omega);simp -implicitDefEqProofs (disch:=omega) only [go_sem,↓reduceIte ,hw];refine call_B (v_within n 0 (l-1)) (by simp -implicitDefEqProofs (disch:=omega) only [go_sem,↓reduceIte,deep,TD.rows,immLL_rI,immLL_rB8,immLL_rS,immLL_rBo,immLL_rII,immLL_rIIt];exact rfl) ?_;simp -implicitDefEqProofs (disch:=omega) only [go_sem,↓reduceIte]
theorem v_below (xs:List Int)(l:Int)(hl:0≤l)(hl2:l≤1099511627776)(hn:xs.length≤1048576):Contract Try.prog NoG 86 [.sl false 1 (xs.map rI),.v (.int .i64 l)] (.v (.bool (xs.all (inR 0 (l-1))))):=by refine law_impl_below ?_;unfold code_impl_below;simp -implicitDefEqProofs (disch:=omega) only [go_sem,↓reduceIte];refine call_B (v_ContainsFunc_Int64 _ [.iptr [.v (.int .i64 l)] 0] ⟨rfl,fun _=>rfl,fun _=>rfl,fun _=>rfl⟩ xs (fun n=>!inR 0 (l-1) n) (fun x _=>v_below1 x l hl hl2) (by omega)) (by simp -implicitDefEqProofs (disch:=omega) only [go_sem,↓reduceIte,deep,TD.rows,immLL_rI,immLL_rB8,immLL_rS,immLL_rBo,immLL_rII,immLL_rIIt,any_not,Bool.not_not];exact rfl) ?_;simp -implicitDefEqProofs (disch:=omega) only [go_sem,↓reduceIte ,any_not,Bool.not_not]
structure Src where
  code:List Int
  pos:Nat
  seed:Int
def Src.d (s:Src):List D:=[.sl false 1 (s.code.map rB8),.v (.int .i64 (s.pos:Nat)),.v (.int .u64 s.seed)]
def srcB (s:Src):Int:=if s.pos<s.code.length then IntKind.i64.wrap (s.code.getD s.pos 0) else 0
def srcSeed (s:Src):Int:=IntKind.u64.wrap (IntKind.u64.wrap (IntKind.u64.wrap (s.seed*6364136223846793005)+IntKind.u64.wrap (srcB s))+1442695040888963407)
def srcN (s:Src):Src:=⟨s.code,s.pos+1,srcSeed s⟩
structure SrcB (k:Nat) (s:Src):Prop where
  code:∀ x,x∈s.code→0≤x∧x≤255
  len:s.code.length≤1048576
  pos:s.pos+k≤4611686018427387904
theorem SrcB.mono {k l:Nat}{s:Src}(h:SrcB k s)(hl:l≤k):SrcB l s:=⟨h.code,h.len,by have:=h.pos;omega⟩
theorem SrcB.next {k:Nat}{s:Src}(h:SrcB (k+1) s):SrcB k (srcN s):=⟨h.code,h.len,by have:=h.pos;simp only [srcN];omega⟩
def pickN (s:Src)(n:Int):Src:=if n≤1 then s else if 200<n then srcN (srcN s) else srcN s
theorem SrcB.pick {k:Nat}{s:Src}(h:SrcB (k+2) s)(n:Int):SrcB k (pickN s n):=by
  unfold pickN;split
  · exact h.mono (by omega)
  · split
    · exact h.next.next
    · exact h.next.mono (by omega)
abbrev ms_impl_designSearch_take_0:List (List Bool):=[]
theorem cc_impl_designSearch_take_0:cCode Try.prog 12 (cL (Try.f121.body.getD .skip)) ms_impl_designSearch_take_0=some ((.ops [
  ⟨some 5,none,.box (.tmp 2)⟩,
  ⟨some 6,none,.asg (.const (.bool false))⟩]),ms_impl_designSearch_take_0):=by kernel_rfl
abbrev tM_impl_designSearch_take_1:List Nat:=[0,2,4,5,7,9,10,12,14]
abbrev tv_impl_designSearch_take_1_0:VO:=⟨some 7,none,.mv (.tmp 0)⟩
theorem tw_impl_designSearch_take_1_0:vo? Try.prog (rO (cL (cR (Try.f121.body.getD .skip)))) 0=some tv_impl_designSearch_take_1_0:=by kernel_rfl
abbrev tv_impl_designSearch_take_1_1:VO:=⟨some 8,none,.nilc (.tmp 7)⟩
theorem tw_impl_designSearch_take_1_1:vo? Try.prog (rO (cL (cR (Try.f121.body.getD .skip)))) 1=some tv_impl_designSearch_take_1_1:=by kernel_rfl
abbrev tv_impl_designSearch_take_1_2:VO:=⟨some 9,none,.fa 12 (.tmp 8)⟩
theorem tw_impl_designSearch_take_1_2:vo? Try.prog (rO (cL (cR (Try.f121.body.getD .skip)))) 2=some tv_impl_designSearch_take_1_2:=by kernel_rfl
abbrev tv_impl_designSearch_take_1_3:VO:=⟨some 10,none,.load 1 false (.tmp 9)⟩
theorem tw_impl_designSearch_take_1_3:vo? Try.prog (rO (cL (cR (Try.f121.body.getD .skip)))) 3=some tv_impl_designSearch_take_1_3:=by kernel_rfl
abbrev tv_impl_designSearch_take_1_4:VO:=⟨some 11,none,.mv (.tmp 1)⟩
theorem tw_impl_designSearch_take_1_4:vo? Try.prog (rO (cL (cR (Try.f121.body.getD .skip)))) 4=some tv_impl_designSearch_take_1_4:=by kernel_rfl
abbrev tv_impl_designSearch_take_1_5:VO:=⟨some 12,none,.mv (.tmp 0)⟩
theorem tw_impl_designSearch_take_1_5:vo? Try.prog (rO (cL (cR (Try.f121.body.getD .skip)))) 5=some tv_impl_designSearch_take_1_5:=by kernel_rfl
abbrev tv_impl_designSearch_take_1_6:VO:=⟨some 13,none,.nilc (.tmp 12)⟩
theorem tw_impl_designSearch_take_1_6:vo? Try.prog (rO (cL (cR (Try.f121.body.getD .skip)))) 6=some tv_impl_designSearch_take_1_6:=by kernel_rfl
abbrev tv_impl_designSearch_take_1_7:VO:=⟨some 14,none,.fa 13 (.tmp 13)⟩
theorem tw_impl_designSearch_take_1_7:vo? Try.prog (rO (cL (cR (Try.f121.body.getD .skip)))) 7=some tv_impl_designSearch_take_1_7:=by kernel_rfl
abbrev tv_impl_designSearch_take_1_8:VO:=⟨some 15,none,.load 1 false (.tmp 14)⟩
theorem tw_impl_designSearch_take_1_8:vo? Try.prog (rO (cL (cR (Try.f121.body.getD .skip)))) 8=some tv_impl_designSearch_take_1_8:=by kernel_rfl
abbrev tv_impl_designSearch_take_1_9:VO:=⟨some 16,none,.mv (.tmp 1)⟩
theorem tw_impl_designSearch_take_1_9:vo? Try.prog (rO (cL (cR (Try.f121.body.getD .skip)))) 9=some tv_impl_designSearch_take_1_9:=by kernel_rfl
abbrev tv_impl_designSearch_take_1_10:VO:=⟨some 17,none,.fa 1 (.tmp 5)⟩
theorem tw_impl_designSearch_take_1_10:vo? Try.prog (rO (cL (cR (Try.f121.body.getD .skip)))) 10=some tv_impl_designSearch_take_1_10:=by kernel_rfl
abbrev tv_impl_designSearch_take_1_11:VO:=⟨some 18,none,.load 1 false (.tmp 17)⟩
theorem tw_impl_designSearch_take_1_11:vo? Try.prog (rO (cL (cR (Try.f121.body.getD .skip)))) 11=some tv_impl_designSearch_take_1_11:=by kernel_rfl
abbrev tv_impl_designSearch_take_1_12:VO:=⟨some 19,none,.fa 2 (.tmp 5)⟩
theorem tw_impl_designSearch_take_1_12:vo? Try.prog (rO (cL (cR (Try.f121.body.getD .skip)))) 12=some tv_impl_designSearch_take_1_12:=by kernel_rfl
abbrev tv_impl_designSearch_take_1_13:VO:=⟨some 20,none,.load 1 false (.tmp 19)⟩
theorem tw_impl_designSearch_take_1_13:vo? Try.prog (rO (cL (cR (Try.f121.body.getD .skip)))) 13=some tv_impl_designSearch_take_1_13:=by kernel_rfl
abbrev tv_impl_designSearch_take_1_14:VO:=⟨some 21,none,.ia 1 (.tmp 10) (.tmp 11)⟩
theorem tw_impl_designSearch_take_1_14:vo? Try.prog (rO (cL (cR (Try.f121.body.getD .skip)))) 14=some tv_impl_designSearch_take_1_14:=by kernel_rfl
abbrev tv_impl_designSearch_take_1_15:VO:=⟨none,none,.store 1 (.tmp 21) (.tmp 18)⟩
theorem tw_impl_designSearch_take_1_15:vo? Try.prog (rO (cL (cR (Try.f121.body.getD .skip)))) 15=some tv_impl_designSearch_take_1_15:=by kernel_rfl
theorem tg_impl_designSearch_take_1_65535:GT Try.prog (rO (cL (cR (Try.f121.body.getD .skip)))) tM_impl_designSearch_take_1 16 2 (mA 18 65535) .done 1:=gt_done (by kernel_rfl)
abbrev tt_impl_designSearch_take_1_32767:VT:=.br 15 tv_impl_designSearch_take_1_15 VT.done .nil
theorem tg_impl_designSearch_take_1_32767:GT Try.prog (rO (cL (cR (Try.f121.body.getD .skip)))) tM_impl_designSearch_take_1 16 3 (mA 18 32767) tt_impl_designSearch_take_1_32767 2:=gt_l (l:=[15]) (by kernel_rfl) (by kernel_rfl) (by kernel_rfl) (by kernel_rfl) (gl_cons tw_impl_designSearch_take_1_15 (by kernel_rfl) tg_impl_designSearch_take_1_65535 gl_nil)
abbrev tt_impl_designSearch_take_1_57343:VT:=.br 13 tv_impl_designSearch_take_1_13 VT.done .nil
theorem tg_impl_designSearch_take_1_57343:GT Try.prog (rO (cL (cR (Try.f121.body.getD .skip)))) tM_impl_designSearch_take_1 16 3 (mA 18 57343) tt_impl_designSearch_take_1_57343 2:=gt_l (l:=[13]) (by kernel_rfl) (by kernel_rfl) (by kernel_rfl) (by kernel_rfl) (gl_cons tw_impl_designSearch_take_1_13 (by kernel_rfl) tg_impl_designSearch_take_1_65535 gl_nil)
abbrev tt_impl_designSearch_take_1_24575:VT:=.br 13 tv_impl_designSearch_take_1_13 tt_impl_designSearch_take_1_32767 (.br 15 tv_impl_designSearch_take_1_15 tt_impl_designSearch_take_1_57343 .nil)
theorem tg_impl_designSearch_take_1_24575:GT Try.prog (rO (cL (cR (Try.f121.body.getD .skip)))) tM_impl_designSearch_take_1 16 4 (mA 18 24575) tt_impl_designSearch_take_1_24575 5:=gt_l (l:=[13,15]) (by kernel_rfl) (by kernel_rfl) (by kernel_rfl) (by kernel_rfl) (gl_cons tw_impl_designSearch_take_1_13 (by kernel_rfl) tg_impl_designSearch_take_1_32767 (gl_cons tw_impl_designSearch_take_1_15 (by kernel_rfl) tg_impl_designSearch_take_1_57343 gl_nil))
abbrev tt_impl_designSearch_take_1_16383:VT:=.h 14 tv_impl_designSearch_take_1_14 tt_impl_designSearch_take_1_32767
theorem tg_impl_designSearch_take_1_16383:GT Try.prog (rO (cL (cR (Try.f121.body.getD .skip)))) tM_impl_designSearch_take_1 16 4 (mA 18 16383) tt_impl_designSearch_take_1_16383 3:=gt_h (by kernel_rfl) (by kernel_rfl) tw_impl_designSearch_take_1_14 (by kernel_rfl) tg_impl_designSearch_take_1_32767
abbrev tt_impl_designSearch_take_1_8191:VT:=.h 14 tv_impl_designSearch_take_1_14 tt_impl_designSearch_take_1_24575
theorem tg_impl_designSearch_take_1_8191:GT Try.prog (rO (cL (cR (Try.f121.body.getD .skip)))) tM_impl_designSearch_take_1 16 5 (mA 18 8191) tt_impl_designSearch_take_1_8191 6:=gt_h (by kernel_rfl) (by kernel_rfl) tw_impl_designSearch_take_1_14 (by kernel_rfl) tg_impl_designSearch_take_1_24575
abbrev tt_impl_designSearch_take_1_14335:VT:=.br 11 tv_impl_designSearch_take_1_11 tt_impl_designSearch_take_1_16383 .nil
theorem tg_impl_designSearch_take_1_14335:GT Try.prog (rO (cL (cR (Try.f121.body.getD .skip)))) tM_impl_designSearch_take_1 16 5 (mA 18 14335) tt_impl_designSearch_take_1_14335 4:=gt_l (l:=[11]) (by kernel_rfl) (by kernel_rfl) (by kernel_rfl) (by kernel_rfl) (gl_cons tw_impl_designSearch_take_1_11 (by kernel_rfl) tg_impl_designSearch_take_1_16383 gl_nil)
abbrev tt_impl_designSearch_take_1_16127:VT:=.br 8 tv_impl_designSearch_take_1_8 tt_impl_designSearch_take_1_16383 .nil
theorem tg_impl_designSearch_take_1_16127:GT Try.prog (rO (cL (cR (Try.f121.body.getD .skip)))) tM_impl_designSearch_take_1 16 5 (mA 18 16127) tt_impl_designSearch_take_1_16127 4:=gt_l (l:=[8]) (by kernel_rfl) (by kernel_rfl) (by kernel_rfl) (by kernel_rfl) (gl_cons tw_impl_designSearch_take_1_8 (by kernel_rfl) tg_impl_designSearch_take_1_16383 gl_nil)
abbrev tt_impl_designSearch_take_1_16375:VT:=.br 3 tv_impl_designSearch_take_1_3 tt_impl_designSearch_take_1_16383 .nil
theorem tg_impl_designSearch_take_1_16375:GT Try.prog (rO (cL (cR (Try.f121.body.getD .skip)))) tM_impl_designSearch_take_1 16 5 (mA 18 16375) tt_impl_designSearch_take_1_16375 4:=gt_l (l:=[3]) (by kernel_rfl) (by kernel_rfl) (by kernel_rfl) (by kernel_rfl) (gl_cons tw_impl_designSearch_take_1_3 (by kernel_rfl) tg_impl_designSearch_take_1_16383 gl_nil)
abbrev tt_impl_designSearch_take_1_6143:VT:=.br 11 tv_impl_designSearch_take_1_11 tt_impl_designSearch_take_1_8191 (.br 13 tv_impl_designSearch_take_1_13 tt_impl_designSearch_take_1_14335 .nil)
theorem tg_impl_designSearch_take_1_6143:GT Try.prog (rO (cL (cR (Try.f121.body.getD .skip)))) tM_impl_designSearch_take_1 16 6 (mA 18 6143) tt_impl_designSearch_take_1_6143 11:=gt_l (l:=[11,13]) (by kernel_rfl) (by kernel_rfl) (by kernel_rfl) (by kernel_rfl) (gl_cons tw_impl_designSearch_take_1_11 (by kernel_rfl) tg_impl_designSearch_take_1_8191 (gl_cons tw_impl_designSearch_take_1_13 (by kernel_rfl) tg_impl_designSearch_take_1_14335 gl_nil))
abbrev tt_impl_designSearch_take_1_7935:VT:=.br 8 tv_impl_designSearch_take_1_8 tt_impl_designSearch_take_1_8191 (.br 13 tv_impl_designSearch_take_1_13 tt_impl_designSearch_take_1_16127 .nil)
theorem tg_impl_designSearch_take_1_7935:GT Try.prog (rO (cL (cR (Try.f121.body.getD .skip)))) tM_impl_designSearch_take_1 16 6 (mA 18 7935) tt_impl_designSearch_take_1_7935 11:=gt_l (l:=[8,13]) (by kernel_rfl) (by kernel_rfl) (by kernel_rfl) (by kernel_rfl) (gl_cons tw_impl_designSearch_take_1_8 (by kernel_rfl) tg_impl_designSearch_take_1_8191 (gl_cons tw_impl_designSearch_take_1_13 (by kernel_rfl) tg_impl_designSearch_take_1_16127 gl_nil))
abbrev tt_impl_designSearch_take_1_14079:VT:=.br 8 tv_impl_designSearch_take_1_8 tt_impl_designSearch_take_1_14335 (.br 11 tv_impl_designSearch_take_1_11 tt_impl_designSearch_take_1_16127 .nil)
theorem tg_impl_designSearch_take_1_14079:GT Try.prog (rO (cL (cR (Try.f121.body.getD .skip)))) tM_impl_designSearch_take_1 16 6 (mA 18 14079) tt_impl_designSearch_take_1_14079 9:=gt_l (l:=[8,11]) (by kernel_rfl) (by kernel_rfl) (by kernel_rfl) (by kernel_rfl) (gl_cons tw_impl_designSearch_take_1_8 (by kernel_rfl) tg_impl_designSearch_take_1_14335 (gl_cons tw_impl_designSearch_take_1_11 (by kernel_rfl) tg_impl_designSearch_take_1_16127 gl_nil))
abbrev tt_impl_designSearch_take_1_15999:VT:=.h 7 tv_impl_designSearch_take_1_7 tt_impl_designSearch_take_1_16127
theorem tg_impl_designSearch_take_1_15999:GT Try.prog (rO (cL (cR (Try.f121.body.getD .skip)))) tM_impl_designSearch_take_1 16 6 (mA 18 15999) tt_impl_designSearch_take_1_15999 5:=gt_h (by kernel_rfl) (by kernel_rfl) tw_impl_designSearch_take_1_7 (by kernel_rfl) tg_impl_designSearch_take_1_16127
abbrev tt_impl_designSearch_take_1_8183:VT:=.br 3 tv_impl_designSearch_take_1_3 tt_impl_designSearch_take_1_8191 (.br 13 tv_impl_designSearch_take_1_13 tt_impl_designSearch_take_1_16375 .nil)
theorem tg_impl_designSearch_take_1_8183:GT Try.prog (rO (cL (cR (Try.f121.body.getD .skip)))) tM_impl_designSearch_take_1 16 6 (mA 18 8183) tt_impl_designSearch_take_1_8183 11:=gt_l (l:=[3,13]) (by kernel_rfl) (by kernel_rfl) (by kernel_rfl) (by kernel_rfl) (gl_cons tw_impl_designSearch_take_1_3 (by kernel_rfl) tg_impl_designSearch_take_1_8191 (gl_cons tw_impl_designSearch_take_1_13 (by kernel_rfl) tg_impl_designSearch_take_1_16375 gl_nil))
abbrev tt_impl_designSearch_take_1_14327:VT:=.br 3 tv_impl_designSearch_take_1_3 tt_impl_designSearch_take_1_14335 (.br 11 tv_impl_designSearch_take_1_11 tt_impl_designSearch_take_1_16375 .nil)
theorem tg_impl_designSearch_take_1_14327:GT Try.prog (rO (cL (cR (Try.f121.body.getD .skip)))) tM_impl_designSearch_take_1 16 6 (mA 18 14327) tt_impl_designSearch_take_1_14327 9:=gt_l (l:=[3,11]) (by kernel_rfl) (by kernel_rfl) (by kernel_rfl) (by kernel_rfl) (gl_cons tw_impl_designSearch_take_1_3 (by kernel_rfl) tg_impl_designSearch_take_1_14335 (gl_cons tw_impl_designSearch_take_1_11 (by kernel_rfl) tg_impl_designSearch_take_1_16375 gl_nil))
abbrev tt_impl_designSearch_take_1_16119:VT:=.br 3 tv_impl_designSearch_take_1_3 tt_impl_designSearch_take_1_16127 (.br 8 tv_impl_designSearch_take_1_8 tt_impl_designSearch_take_1_16375 .nil)
theorem tg_impl_designSearch_take_1_16119:GT Try.prog (rO (cL (cR (Try.f121.body.getD .skip)))) tM_impl_designSearch_take_1 16 6 (mA 18 16119) tt_impl_designSearch_take_1_16119 9:=gt_l (l:=[3,8]) (by kernel_rfl) (by kernel_rfl) (by kernel_rfl) (by kernel_rfl) (gl_cons tw_impl_designSearch_take_1_3 (by kernel_rfl) tg_impl_designSearch_take_1_16127 (gl_cons tw_impl_designSearch_take_1_8 (by kernel_rfl) tg_impl_designSearch_take_1_16375 gl_nil))
abbrev tt_impl_designSearch_take_1_16371:VT:=.h 2 tv_impl_designSearch_take_1_2 tt_impl_designSearch_take_1_16375
theorem tg_impl_designSearch_take_1_16371:GT Try.prog (rO (cL (cR (Try.f121.body.getD .skip)))) tM_impl_designSearch_take_1 16 6 (mA 18 16371) tt_impl_designSearch_take_1_16371 5:=gt_h (by kernel_rfl) (by kernel_rfl) tw_impl_designSearch_take_1_2 (by kernel_rfl) tg_impl_designSearch_take_1_16375
abbrev tt_impl_designSearch_take_1_5887:VT:=.br 8 tv_impl_designSearch_take_1_8 tt_impl_designSearch_take_1_6143 (.br 11 tv_impl_designSearch_take_1_11 tt_impl_designSearch_take_1_7935 (.br 13 tv_impl_designSearch_take_1_13 tt_impl_designSearch_take_1_14079 .nil))
theorem tg_impl_designSearch_take_1_5887:GT Try.prog (rO (cL (cR (Try.f121.body.getD .skip)))) tM_impl_designSearch_take_1 16 7 (mA 18 5887) tt_impl_designSearch_take_1_5887 32:=gt_l (l:=[8,11,13]) (by kernel_rfl) (by kernel_rfl) (by kernel_rfl) (by kernel_rfl) (gl_cons tw_impl_designSearch_take_1_8 (by kernel_rfl) tg_impl_designSearch_take_1_6143 (gl_cons tw_impl_designSearch_take_1_11 (by kernel_rfl) tg_impl_designSearch_take_1_7935 (gl_cons tw_impl_designSearch_take_1_13 (by kernel_rfl) tg_impl_designSearch_take_1_14079 gl_nil)))
abbrev tt_impl_designSearch_take_1_7807:VT:=.h 7 tv_impl_designSearch_take_1_7 tt_impl_designSearch_take_1_7935
theorem tg_impl_designSearch_take_1_7807:GT Try.prog (rO (cL (cR (Try.f121.body.getD .skip)))) tM_impl_designSearch_take_1 16 7 (mA 18 7807) tt_impl_designSearch_take_1_7807 12:=gt_h (by kernel_rfl) (by kernel_rfl) tw_impl_designSearch_take_1_7 (by kernel_rfl) tg_impl_designSearch_take_1_7935
abbrev tt_impl_designSearch_take_1_15935:VT:=.br 6 tv_impl_designSearch_take_1_6 tt_impl_designSearch_take_1_15999 .nil
theorem tg_impl_designSearch_take_1_15935:GT Try.prog (rO (cL (cR (Try.f121.body.getD .skip)))) tM_impl_designSearch_take_1 16 7 (mA 18 15935) tt_impl_designSearch_take_1_15935 6:=gt_l (l:=[6]) (by kernel_rfl) (by kernel_rfl) (by kernel_rfl) (by kernel_rfl) (gl_cons tw_impl_designSearch_take_1_6 (by kernel_rfl) tg_impl_designSearch_take_1_15999 gl_nil)
abbrev tt_impl_designSearch_take_1_13951:VT:=.h 7 tv_impl_designSearch_take_1_7 tt_impl_designSearch_take_1_14079
theorem tg_impl_designSearch_take_1_13951:GT Try.prog (rO (cL (cR (Try.f121.body.getD .skip)))) tM_impl_designSearch_take_1 16 7 (mA 18 13951) tt_impl_designSearch_take_1_13951 10:=gt_h (by kernel_rfl) (by kernel_rfl) tw_impl_designSearch_take_1_7 (by kernel_rfl) tg_impl_designSearch_take_1_14079
abbrev tt_impl_designSearch_take_1_6135:VT:=.br 3 tv_impl_designSearch_take_1_3 tt_impl_designSearch_take_1_6143 (.br 11 tv_impl_designSearch_take_1_11 tt_impl_designSearch_take_1_8183 (.br 13 tv_impl_designSearch_take_1_13 tt_impl_designSearch_take_1_14327 .nil))
theorem tg_impl_designSearch_take_1_6135:GT Try.prog (rO (cL (cR (Try.f121.body.getD .skip)))) tM_impl_designSearch_take_1 16 7 (mA 18 6135) tt_impl_designSearch_take_1_6135 32:=gt_l (l:=[3,11,13]) (by kernel_rfl) (by kernel_rfl) (by kernel_rfl) (by kernel_rfl) (gl_cons tw_impl_designSearch_take_1_3 (by kernel_rfl) tg_impl_designSearch_take_1_6143 (gl_cons tw_impl_designSearch_take_1_11 (by kernel_rfl) tg_impl_designSearch_take_1_8183 (gl_cons tw_impl_designSearch_take_1_13 (by kernel_rfl) tg_impl_designSearch_take_1_14327 gl_nil)))
abbrev tt_impl_designSearch_take_1_7927:VT:=.br 3 tv_impl_designSearch_take_1_3 tt_impl_designSearch_take_1_7935 (.br 8 tv_impl_designSearch_take_1_8 tt_impl_designSearch_take_1_8183 (.br 13 tv_impl_designSearch_take_1_13 tt_impl_designSearch_take_1_16119 .nil))
theorem tg_impl_designSearch_take_1_7927:GT Try.prog (rO (cL (cR (Try.f121.body.getD .skip)))) tM_impl_designSearch_take_1 16 7 (mA 18 7927) tt_impl_designSearch_take_1_7927 32:=gt_l (l:=[3,8,13]) (by kernel_rfl) (by kernel_rfl) (by kernel_rfl) (by kernel_rfl) (gl_cons tw_impl_designSearch_take_1_3 (by kernel_rfl) tg_impl_designSearch_take_1_7935 (gl_cons tw_impl_designSearch_take_1_8 (by kernel_rfl) tg_impl_designSearch_take_1_8183 (gl_cons tw_impl_designSearch_take_1_13 (by kernel_rfl) tg_impl_designSearch_take_1_16119 gl_nil)))
abbrev tt_impl_designSearch_take_1_14071:VT:=.br 3 tv_impl_designSearch_take_1_3 tt_impl_designSearch_take_1_14079 (.br 8 tv_impl_designSearch_take_1_8 tt_impl_designSearch_take_1_14327 (.br 11 tv_impl_designSearch_take_1_11 tt_impl_designSearch_take_1_16119 .nil))
theorem tg_impl_designSearch_take_1_14071:GT Try.prog (rO (cL (cR (Try.f121.body.getD .skip)))) tM_impl_designSearch_take_1 16 7 (mA 18 14071) tt_impl_designSearch_take_1_14071 28:=gt_l (l:=[3,8,11]) (by kernel_rfl) (by kernel_rfl) (by kernel_rfl) (by kernel_rfl) (gl_cons tw_impl_designSearch_take_1_3 (by kernel_rfl) tg_impl_designSearch_take_1_14079 (gl_cons tw_impl_designSearch_take_1_8 (by kernel_rfl) tg_impl_designSearch_take_1_14327 (gl_cons tw_impl_designSearch_take_1_11 (by kernel_rfl) tg_impl_designSearch_take_1_16119 gl_nil)))
abbrev tt_impl_designSearch_take_1_15991:VT:=.h 7 tv_impl_designSearch_take_1_7 tt_impl_designSearch_take_1_16119
theorem tg_impl_designSearch_take_1_15991:GT Try.prog (rO (cL (cR (Try.f121.body.getD .skip)))) tM_impl_designSearch_take_1 16 7 (mA 18 15991) tt_impl_designSearch_take_1_15991 10:=gt_h (by kernel_rfl) (by kernel_rfl) tw_impl_designSearch_take_1_7 (by kernel_rfl) tg_impl_designSearch_take_1_16119
abbrev tt_impl_designSearch_take_1_8179:VT:=.h 2 tv_impl_designSearch_take_1_2 tt_impl_designSearch_take_1_8183
theorem tg_impl_designSearch_take_1_8179:GT Try.prog (rO (cL (cR (Try.f121.body.getD .skip)))) tM_impl_designSearch_take_1 16 7 (mA 18 8179) tt_impl_designSearch_take_1_8179 12:=gt_h (by kernel_rfl) (by kernel_rfl) tw_impl_designSearch_take_1_2 (by kernel_rfl) tg_impl_designSearch_take_1_8183
abbrev tt_impl_designSearch_take_1_16369:VT:=.br 1 tv_impl_designSearch_take_1_1 tt_impl_designSearch_take_1_16371 .nil
theorem tg_impl_designSearch_take_1_16369:GT Try.prog (rO (cL (cR (Try.f121.body.getD .skip)))) tM_impl_designSearch_take_1 16 7 (mA 18 16369) tt_impl_designSearch_take_1_16369 6:=gt_l (l:=[1]) (by kernel_rfl) (by kernel_rfl) (by kernel_rfl) (by kernel_rfl) (gl_cons tw_impl_designSearch_take_1_1 (by kernel_rfl) tg_impl_designSearch_take_1_16371 gl_nil)
abbrev tt_impl_designSearch_take_1_14323:VT:=.h 2 tv_impl_designSearch_take_1_2 tt_impl_designSearch_take_1_14327
theorem tg_impl_designSearch_take_1_14323:GT Try.prog (rO (cL (cR (Try.f121.body.getD .skip)))) tM_impl_designSearch_take_1 16 7 (mA 18 14323) tt_impl_designSearch_take_1_14323 10:=gt_h (by kernel_rfl) (by kernel_rfl) tw_impl_designSearch_take_1_2 (by kernel_rfl) tg_impl_designSearch_take_1_14327
abbrev tt_impl_designSearch_take_1_16115:VT:=.h 2 tv_impl_designSearch_take_1_2 tt_impl_designSearch_take_1_16119
theorem tg_impl_designSearch_take_1_16115:GT Try.prog (rO (cL (cR (Try.f121.body.getD .skip)))) tM_impl_designSearch_take_1 16 7 (mA 18 16115) tt_impl_designSearch_take_1_16115 10:=gt_h (by kernel_rfl) (by kernel_rfl) tw_impl_designSearch_take_1_2 (by kernel_rfl) tg_impl_designSearch_take_1_16119
abbrev tt_impl_designSearch_take_1_5759:VT:=.h 7 tv_impl_designSearch_take_1_7 tt_impl_designSearch_take_1_5887
theorem tg_impl_designSearch_take_1_5759:GT Try.prog (rO (cL (cR (Try.f121.body.getD .skip)))) tM_impl_designSearch_take_1 16 8 (mA 18 5759) tt_impl_designSearch_take_1_5759 33:=gt_h (by kernel_rfl) (by kernel_rfl) tw_impl_designSearch_take_1_7 (by kernel_rfl) tg_impl_designSearch_take_1_5887
abbrev tt_impl_designSearch_take_1_7743:VT:=.br 6 tv_impl_designSearch_take_1_6 tt_impl_designSearch_take_1_7807 (.br 13 tv_impl_designSearch_take_1_13 tt_impl_designSearch_take_1_15935 .nil)
theorem tg_impl_designSearch_take_1_7743:GT Try.prog (rO (cL (cR (Try.f121.body.getD .skip)))) tM_impl_designSearch_take_1 16 8 (mA 18 7743) tt_impl_designSearch_take_1_7743 19:=gt_l (l:=[6,13]) (by kernel_rfl) (by kernel_rfl) (by kernel_rfl) (by kernel_rfl) (gl_cons tw_impl_designSearch_take_1_6 (by kernel_rfl) tg_impl_designSearch_take_1_7807 (gl_cons tw_impl_designSearch_take_1_13 (by kernel_rfl) tg_impl_designSearch_take_1_15935 gl_nil))
abbrev tt_impl_designSearch_take_1_13887:VT:=.br 6 tv_impl_designSearch_take_1_6 tt_impl_designSearch_take_1_13951 (.br 11 tv_impl_designSearch_take_1_11 tt_impl_designSearch_take_1_15935 .nil)
theorem tg_impl_designSearch_take_1_13887:GT Try.prog (rO (cL (cR (Try.f121.body.getD .skip)))) tM_impl_designSearch_take_1 16 8 (mA 18 13887) tt_impl_designSearch_take_1_13887 17:=gt_l (l:=[6,11]) (by kernel_rfl) (by kernel_rfl) (by kernel_rfl) (by kernel_rfl) (gl_cons tw_impl_designSearch_take_1_6 (by kernel_rfl) tg_impl_designSearch_take_1_13951 (gl_cons tw_impl_designSearch_take_1_11 (by kernel_rfl) tg_impl_designSearch_take_1_15935 gl_nil))
abbrev tt_impl_designSearch_take_1_5879:VT:=.br 3 tv_impl_designSearch_take_1_3 tt_impl_designSearch_take_1_5887 (.br 8 tv_impl_designSearch_take_1_8 tt_impl_designSearch_take_1_6135 (.br 11 tv_impl_designSearch_take_1_11 tt_impl_designSearch_take_1_7927 (.br 13 tv_impl_designSearch_take_1_13 tt_impl_designSearch_take_1_14071 .nil)))
theorem tg_impl_designSearch_take_1_5879:GT Try.prog (rO (cL (cR (Try.f121.body.getD .skip)))) tM_impl_designSearch_take_1 16 8 (mA 18 5879) tt_impl_designSearch_take_1_5879 125:=gt_l (l:=[3,8,11,13]) (by kernel_rfl) (by kernel_rfl) (by kernel_rfl) (by kernel_rfl) (gl_cons tw_impl_designSearch_take_1_3 (by kernel_rfl) tg_impl_designSearch_take_1_5887 (gl_cons tw_impl_designSearch_take_1_8 (by kernel_rfl) tg_impl_designSearch_take_1_6135 (gl_cons tw_impl_designSearch_take_1_11 (by kernel_rfl) tg_impl_designSearch_take_1_7927 (gl_cons tw_impl_designSearch_take_1_13 (by kernel_rfl) tg_impl_designSearch_take_1_14071 gl_nil))))
abbrev tt_impl_designSearch_take_1_7799:VT:=.h 7 tv_impl_designSearch_take_1_7 tt_impl_designSearch_take_1_7927
theorem tg_impl_designSearch_take_1_7799:GT Try.prog (rO (cL (cR (Try.f121.body.getD .skip)))) tM_impl_designSearch_take_1 16 8 (mA 18 7799) tt_impl_designSearch_take_1_7799 33:=gt_h (by kernel_rfl) (by kernel_rfl) tw_impl_designSearch_take_1_7 (by kernel_rfl) tg_impl_designSearch_take_1_7927
abbrev tt_impl_designSearch_take_1_15927:VT:=.br 3 tv_impl_designSearch_take_1_3 tt_impl_designSearch_take_1_15935 (.br 6 tv_impl_designSearch_take_1_6 tt_impl_designSearch_take_1_15991 .nil)
theorem tg_impl_designSearch_take_1_15927:GT Try.prog (rO (cL (cR (Try.f121.body.getD .skip)))) tM_impl_designSearch_take_1 16 8 (mA 18 15927) tt_impl_designSearch_take_1_15927 17:=gt_l (l:=[3,6]) (by kernel_rfl) (by kernel_rfl) (by kernel_rfl) (by kernel_rfl) (gl_cons tw_impl_designSearch_take_1_3 (by kernel_rfl) tg_impl_designSearch_take_1_15935 (gl_cons tw_impl_designSearch_take_1_6 (by kernel_rfl) tg_impl_designSearch_take_1_15991 gl_nil))
abbrev tt_impl_designSearch_take_1_13943:VT:=.h 7 tv_impl_designSearch_take_1_7 tt_impl_designSearch_take_1_14071
theorem tg_impl_designSearch_take_1_13943:GT Try.prog (rO (cL (cR (Try.f121.body.getD .skip)))) tM_impl_designSearch_take_1 16 8 (mA 18 13943) tt_impl_designSearch_take_1_13943 29:=gt_h (by kernel_rfl) (by kernel_rfl) tw_impl_designSearch_take_1_7 (by kernel_rfl) tg_impl_designSearch_take_1_14071
abbrev tt_impl_designSearch_take_1_6131:VT:=.h 2 tv_impl_designSearch_take_1_2 tt_impl_designSearch_take_1_6135
theorem tg_impl_designSearch_take_1_6131:GT Try.prog (rO (cL (cR (Try.f121.body.getD .skip)))) tM_impl_designSearch_take_1 16 8 (mA 18 6131) tt_impl_designSearch_take_1_6131 33:=gt_h (by kernel_rfl) (by kernel_rfl) tw_impl_designSearch_take_1_2 (by kernel_rfl) tg_impl_designSearch_take_1_6135
abbrev tt_impl_designSearch_take_1_8177:VT:=.br 1 tv_impl_designSearch_take_1_1 tt_impl_designSearch_take_1_8179 (.br 13 tv_impl_designSearch_take_1_13 tt_impl_designSearch_take_1_16369 .nil)
theorem tg_impl_designSearch_take_1_8177:GT Try.prog (rO (cL (cR (Try.f121.body.getD .skip)))) tM_impl_designSearch_take_1 16 8 (mA 18 8177) tt_impl_designSearch_take_1_8177 19:=gt_l (l:=[1,13]) (by kernel_rfl) (by kernel_rfl) (by kernel_rfl) (by kernel_rfl) (gl_cons tw_impl_designSearch_take_1_1 (by kernel_rfl) tg_impl_designSearch_take_1_8179 (gl_cons tw_impl_designSearch_take_1_13 (by kernel_rfl) tg_impl_designSearch_take_1_16369 gl_nil))
abbrev tt_impl_designSearch_take_1_14321:VT:=.br 1 tv_impl_designSearch_take_1_1 tt_impl_designSearch_take_1_14323 (.br 11 tv_impl_designSearch_take_1_11 tt_impl_designSearch_take_1_16369 .nil)
theorem tg_impl_designSearch_take_1_14321:GT Try.prog (rO (cL (cR (Try.f121.body.getD .skip)))) tM_impl_designSearch_take_1 16 8 (mA 18 14321) tt_impl_designSearch_take_1_14321 17:=gt_l (l:=[1,11]) (by kernel_rfl) (by kernel_rfl) (by kernel_rfl) (by kernel_rfl) (gl_cons tw_impl_designSearch_take_1_1 (by kernel_rfl) tg_impl_designSearch_take_1_14323 (gl_cons tw_impl_designSearch_take_1_11 (by kernel_rfl) tg_impl_designSearch_take_1_16369 gl_nil))
abbrev tt_impl_designSearch_take_1_7923:VT:=.h 2 tv_impl_designSearch_take_1_2 tt_impl_designSearch_take_1_7927
theorem tg_impl_designSearch_take_1_7923:GT Try.prog (rO (cL (cR (Try.f121.body.getD .skip)))) tM_impl_designSearch_take_1 16 8 (mA 18 7923) tt_impl_designSearch_take_1_7923 33:=gt_h (by kernel_rfl) (by kernel_rfl) tw_impl_designSearch_take_1_2 (by kernel_rfl) tg_impl_designSearch_take_1_7927
abbrev tt_impl_designSearch_take_1_16113:VT:=.br 1 tv_impl_designSearch_take_1_1 tt_impl_designSearch_take_1_16115 (.br 8 tv_impl_designSearch_take_1_8 tt_impl_designSearch_take_1_16369 .nil)
theorem tg_impl_designSearch_take_1_16113:GT Try.prog (rO (cL (cR (Try.f121.body.getD .skip)))) tM_impl_designSearch_take_1 16 8 (mA 18 16113) tt_impl_designSearch_take_1_16113 17:=gt_l (l:=[1,8]) (by kernel_rfl) (by kernel_rfl) (by kernel_rfl) (by kernel_rfl) (gl_cons tw_impl_designSearch_take_1_1 (by kernel_rfl) tg_impl_designSearch_take_1_16115 (gl_cons tw_impl_designSearch_take_1_8 (by kernel_rfl) tg_impl_designSearch_take_1_16369 gl_nil))
abbrev tt_impl_designSearch_take_1_14067:VT:=.h 2 tv_impl_designSearch_take_1_2 tt_impl_designSearch_take_1_14071
theorem tg_impl_designSearch_take_1_14067:GT Try.prog (rO (cL (cR (Try.f121.body.getD .skip)))) tM_impl_designSearch_take_1 16 8 (mA 18 14067) tt_impl_designSearch_take_1_14067 29:=gt_h (by kernel_rfl) (by kernel_rfl) tw_impl_designSearch_take_1_2 (by kernel_rfl) tg_impl_designSearch_take_1_14071
abbrev tt_impl_designSearch_take_1_5695:VT:=.br 6 tv_impl_designSearch_take_1_6 tt_impl_designSearch_take_1_5759 (.br 11 tv_impl_designSearch_take_1_11 tt_impl_designSearch_take_1_7743 (.br 13 tv_impl_designSearch_take_1_13 tt_impl_designSearch_take_1_13887 .nil))
theorem tg_impl_designSearch_take_1_5695:GT Try.prog (rO (cL (cR (Try.f121.body.getD .skip)))) tM_impl_designSearch_take_1 16 9 (mA 18 5695) tt_impl_designSearch_take_1_5695 70:=gt_l (l:=[6,11,13]) (by kernel_rfl) (by kernel_rfl) (by kernel_rfl) (by kernel_rfl) (gl_cons tw_impl_designSearch_take_1_6 (by kernel_rfl) tg_impl_designSearch_take_1_5759 (gl_cons tw_impl_designSearch_take_1_11 (by kernel_rfl) tg_impl_designSearch_take_1_7743 (gl_cons tw_impl_designSearch_take_1_13 (by kernel_rfl) tg_impl_designSearch_take_1_13887 gl_nil)))
abbrev tt_impl_designSearch_take_1_5751:VT:=.h 7 tv_impl_designSearch_take_1_7 tt_impl_designSearch_take_1_5879
theorem tg_impl_designSearch_take_1_5751:GT Try.prog (rO (cL (cR (Try.f121.body.getD .skip)))) tM_impl_designSearch_take_1 16 9 (mA 18 5751) tt_impl_designSearch_take_1_5751 126:=gt_h (by kernel_rfl) (by kernel_rfl) tw_impl_designSearch_take_1_7 (by kernel_rfl) tg_impl_designSearch_take_1_5879
abbrev tt_impl_designSearch_take_1_7735:VT:=.br 3 tv_impl_designSearch_take_1_3 tt_impl_designSearch_take_1_7743 (.br 6 tv_impl_designSearch_take_1_6 tt_impl_designSearch_take_1_7799 (.br 13 tv_impl_designSearch_take_1_13 tt_impl_designSearch_take_1_15927 .nil))
theorem tg_impl_designSearch_take_1_7735:GT Try.prog (rO (cL (cR (Try.f121.body.getD .skip)))) tM_impl_designSearch_take_1 16 9 (mA 18 7735) tt_impl_designSearch_take_1_7735 70:=gt_l (l:=[3,6,13]) (by kernel_rfl) (by kernel_rfl) (by kernel_rfl) (by kernel_rfl) (gl_cons tw_impl_designSearch_take_1_3 (by kernel_rfl) tg_impl_designSearch_take_1_7743 (gl_cons tw_impl_designSearch_take_1_6 (by kernel_rfl) tg_impl_designSearch_take_1_7799 (gl_cons tw_impl_designSearch_take_1_13 (by kernel_rfl) tg_impl_designSearch_take_1_15927 gl_nil)))
abbrev tt_impl_designSearch_take_1_13879:VT:=.br 3 tv_impl_designSearch_take_1_3 tt_impl_designSearch_take_1_13887 (.br 6 tv_impl_designSearch_take_1_6 tt_impl_designSearch_take_1_13943 (.br 11 tv_impl_designSearch_take_1_11 tt_impl_designSearch_take_1_15927 .nil))
theorem tg_impl_designSearch_take_1_13879:GT Try.prog (rO (cL (cR (Try.f121.body.getD .skip)))) tM_impl_designSearch_take_1 16 9 (mA 18 13879) tt_impl_designSearch_take_1_13879 64:=gt_l (l:=[3,6,11]) (by kernel_rfl) (by kernel_rfl) (by kernel_rfl) (by kernel_rfl) (gl_cons tw_impl_designSearch_take_1_3 (by kernel_rfl) tg_impl_designSearch_take_1_13887 (gl_cons tw_impl_designSearch_take_1_6 (by kernel_rfl) tg_impl_designSearch_take_1_13943 (gl_cons tw_impl_designSearch_take_1_11 (by kernel_rfl) tg_impl_designSearch_take_1_15927 gl_nil)))
abbrev tt_impl_designSearch_take_1_5875:VT:=.h 2 tv_impl_designSearch_take_1_2 tt_impl_designSearch_take_1_5879
theorem tg_impl_designSearch_take_1_5875:GT Try.prog (rO (cL (cR (Try.f121.body.getD .skip)))) tM_impl_designSearch_take_1 16 9 (mA 18 5875) tt_impl_designSearch_take_1_5875 126:=gt_h (by kernel_rfl) (by kernel_rfl) tw_impl_designSearch_take_1_2 (by kernel_rfl) tg_impl_designSearch_take_1_5879
abbrev tt_impl_designSearch_take_1_6129:VT:=.br 1 tv_impl_designSearch_take_1_1 tt_impl_designSearch_take_1_6131 (.br 11 tv_impl_designSearch_take_1_11 tt_impl_designSearch_take_1_8177 (.br 13 tv_impl_designSearch_take_1_13 tt_impl_designSearch_take_1_14321 .nil))
theorem tg_impl_designSearch_take_1_6129:GT Try.prog (rO (cL (cR (Try.f121.body.getD .skip)))) tM_impl_designSearch_take_1 16 9 (mA 18 6129) tt_impl_designSearch_take_1_6129 70:=gt_l (l:=[1,11,13]) (by kernel_rfl) (by kernel_rfl) (by kernel_rfl) (by kernel_rfl) (gl_cons tw_impl_designSearch_take_1_1 (by kernel_rfl) tg_impl_designSearch_take_1_6131 (gl_cons tw_impl_designSearch_take_1_11 (by kernel_rfl) tg_impl_designSearch_take_1_8177 (gl_cons tw_impl_designSearch_take_1_13 (by kernel_rfl) tg_impl_designSearch_take_1_14321 gl_nil)))
abbrev tt_impl_designSearch_take_1_7921:VT:=.br 1 tv_impl_designSearch_take_1_1 tt_impl_designSearch_take_1_7923 (.br 8 tv_impl_designSearch_take_1_8 tt_impl_designSearch_take_1_8177 (.br 13 tv_impl_designSearch_take_1_13 tt_impl_designSearch_take_1_16113 .nil))
theorem tg_impl_designSearch_take_1_7921:GT Try.prog (rO (cL (cR (Try.f121.body.getD .skip)))) tM_impl_designSearch_take_1 16 9 (mA 18 7921) tt_impl_designSearch_take_1_7921 70:=gt_l (l:=[1,8,13]) (by kernel_rfl) (by kernel_rfl) (by kernel_rfl) (by kernel_rfl) (gl_cons tw_impl_designSearch_take_1_1 (by kernel_rfl) tg_impl_designSearch_take_1_7923 (gl_cons tw_impl_designSearch_take_1_8 (by kernel_rfl) tg_impl_designSearch_take_1_8177 (gl_cons tw_impl_designSearch_take_1_13 (by kernel_rfl) tg_impl_designSearch_take_1_16113 gl_nil)))
abbrev tt_impl_designSearch_take_1_14065:VT:=.br 1 tv_impl_designSearch_take_1_1 tt_impl_designSearch_take_1_14067 (.br 8 tv_impl_designSearch_take_1_8 tt_impl_designSearch_take_1_14321 (.br 11 tv_impl_designSearch_take_1_11 tt_impl_designSearch_take_1_16113 .nil))
theorem tg_impl_designSearch_take_1_14065:GT Try.prog (rO (cL (cR (Try.f121.body.getD .skip)))) tM_impl_designSearch_take_1 16 9 (mA 18 14065) tt_impl_designSearch_take_1_14065 64:=gt_l (l:=[1,8,11]) (by kernel_rfl) (by kernel_rfl) (by kernel_rfl) (by kernel_rfl) (gl_cons tw_impl_designSearch_take_1_1 (by kernel_rfl) tg_impl_designSearch_take_1_14067 (gl_cons tw_impl_designSearch_take_1_8 (by kernel_rfl) tg_impl_designSearch_take_1_14321 (gl_cons tw_impl_designSearch_take_1_11 (by kernel_rfl) tg_impl_designSearch_take_1_16113 gl_nil)))
abbrev tt_impl_designSearch_take_1_15923:VT:=.h 2 tv_impl_designSearch_take_1_2 tt_impl_designSearch_take_1_15927
theorem tg_impl_designSearch_take_1_15923:GT Try.prog (rO (cL (cR (Try.f121.body.getD .skip)))) tM_impl_designSearch_take_1 16 9 (mA 18 15923) tt_impl_designSearch_take_1_15923 18:=gt_h (by kernel_rfl) (by kernel_rfl) tw_impl_designSearch_take_1_2 (by kernel_rfl) tg_impl_designSearch_take_1_15927
abbrev tt_impl_designSearch_take_1_15985:VT:=.h 7 tv_impl_designSearch_take_1_7 tt_impl_designSearch_take_1_16113
theorem tg_impl_designSearch_take_1_15985:GT Try.prog (rO (cL (cR (Try.f121.body.getD .skip)))) tM_impl_designSearch_take_1 16 9 (mA 18 15985) tt_impl_designSearch_take_1_15985 18:=gt_h (by kernel_rfl) (by kernel_rfl) tw_impl_designSearch_take_1_7 (by kernel_rfl) tg_impl_designSearch_take_1_16113
abbrev tt_impl_designSearch_take_1_5687:VT:=.br 3 tv_impl_designSearch_take_1_3 tt_impl_designSearch_take_1_5695 (.br 6 tv_impl_designSearch_take_1_6 tt_impl_designSearch_take_1_5751 (.br 11 tv_impl_designSearch_take_1_11 tt_impl_designSearch_take_1_7735 (.br 13 tv_impl_designSearch_take_1_13 tt_impl_designSearch_take_1_13879 .nil)))
theorem tg_impl_designSearch_take_1_5687:GT Try.prog (rO (cL (cR (Try.f121.body.getD .skip)))) tM_impl_designSearch_take_1 16 10 (mA 18 5687) tt_impl_designSearch_take_1_5687 331:=gt_l (l:=[3,6,11,13]) (by kernel_rfl) (by kernel_rfl) (by kernel_rfl) (by kernel_rfl) (gl_cons tw_impl_designSearch_take_1_3 (by kernel_rfl) tg_impl_designSearch_take_1_5695 (gl_cons tw_impl_designSearch_take_1_6 (by kernel_rfl) tg_impl_designSearch_take_1_5751 (gl_cons tw_impl_designSearch_take_1_11 (by kernel_rfl) tg_impl_designSearch_take_1_7735 (gl_cons tw_impl_designSearch_take_1_13 (by kernel_rfl) tg_impl_designSearch_take_1_13879 gl_nil))))
abbrev tt_impl_designSearch_take_1_5873:VT:=.br 1 tv_impl_designSearch_take_1_1 tt_impl_designSearch_take_1_5875 (.br 8 tv_impl_designSearch_take_1_8 tt_impl_designSearch_take_1_6129 (.br 11 tv_impl_designSearch_take_1_11 tt_impl_designSearch_take_1_7921 (.br 13 tv_impl_designSearch_take_1_13 tt_impl_designSearch_take_1_14065 .nil)))
theorem tg_impl_designSearch_take_1_5873:GT Try.prog (rO (cL (cR (Try.f121.body.getD .skip)))) tM_impl_designSearch_take_1 16 10 (mA 18 5873) tt_impl_designSearch_take_1_5873 331:=gt_l (l:=[1,8,11,13]) (by kernel_rfl) (by kernel_rfl) (by kernel_rfl) (by kernel_rfl) (gl_cons tw_impl_designSearch_take_1_1 (by kernel_rfl) tg_impl_designSearch_take_1_5875 (gl_cons tw_impl_designSearch_take_1_8 (by kernel_rfl) tg_impl_designSearch_take_1_6129 (gl_cons tw_impl_designSearch_take_1_11 (by kernel_rfl) tg_impl_designSearch_take_1_7921 (gl_cons tw_impl_designSearch_take_1_13 (by kernel_rfl) tg_impl_designSearch_take_1_14065 gl_nil))))
abbrev tt_impl_designSearch_take_1_7731:VT:=.h 2 tv_impl_designSearch_take_1_2 tt_impl_designSearch_take_1_7735
theorem tg_impl_designSearch_take_1_7731:GT Try.prog (rO (cL (cR (Try.f121.body.getD .skip)))) tM_impl_designSearch_take_1 16 10 (mA 18 7731) tt_impl_designSearch_take_1_7731 71:=gt_h (by kernel_rfl) (by kernel_rfl) tw_impl_designSearch_take_1_2 (by kernel_rfl) tg_impl_designSearch_take_1_7735
abbrev tt_impl_designSearch_take_1_7793:VT:=.h 7 tv_impl_designSearch_take_1_7 tt_impl_designSearch_take_1_7921
theorem tg_impl_designSearch_take_1_7793:GT Try.prog (rO (cL (cR (Try.f121.body.getD .skip)))) tM_impl_designSearch_take_1 16 10 (mA 18 7793) tt_impl_designSearch_take_1_7793 71:=gt_h (by kernel_rfl) (by kernel_rfl) tw_impl_designSearch_take_1_7 (by kernel_rfl) tg_impl_designSearch_take_1_7921
abbrev tt_impl_designSearch_take_1_15921:VT:=.br 1 tv_impl_designSearch_take_1_1 tt_impl_designSearch_take_1_15923 (.br 6 tv_impl_designSearch_take_1_6 tt_impl_designSearch_take_1_15985 .nil)
theorem tg_impl_designSearch_take_1_15921:GT Try.prog (rO (cL (cR (Try.f121.body.getD .skip)))) tM_impl_designSearch_take_1 16 10 (mA 18 15921) tt_impl_designSearch_take_1_15921 37:=gt_l (l:=[1,6]) (by kernel_rfl) (by kernel_rfl) (by kernel_rfl) (by kernel_rfl) (gl_cons tw_impl_designSearch_take_1_1 (by kernel_rfl) tg_impl_designSearch_take_1_15923 (gl_cons tw_impl_designSearch_take_1_6 (by kernel_rfl) tg_impl_designSearch_take_1_15985 gl_nil))
abbrev tt_impl_designSearch_take_1_13875:VT:=.h 2 tv_impl_designSearch_take_1_2 tt_impl_designSearch_take_1_13879
theorem tg_impl_designSearch_take_1_13875:GT Try.prog (rO (cL (cR (Try.f121.body.getD .skip)))) tM_impl_designSearch_take_1 16 10 (mA 18 13875) tt_impl_designSearch_take_1_13875 65:=gt_h (by kernel_rfl) (by kernel_rfl) tw_impl_designSearch_take_1_2 (by kernel_rfl) tg_impl_designSearch_take_1_13879
abbrev tt_impl_designSearch_take_1_13937:VT:=.h 7 tv_impl_designSearch_take_1_7 tt_impl_designSearch_take_1_14065
theorem tg_impl_designSearch_take_1_13937:GT Try.prog (rO (cL (cR (Try.f121.body.getD .skip)))) tM_impl_designSearch_take_1 16 10 (mA 18 13937) tt_impl_designSearch_take_1_13937 65:=gt_h (by kernel_rfl) (by kernel_rfl) tw_impl_designSearch_take_1_7 (by kernel_rfl) tg_impl_designSearch_take_1_14065
abbrev tt_impl_designSearch_take_1_5683:VT:=.h 2 tv_impl_designSearch_take_1_2 tt_impl_designSearch_take_1_5687
theorem tg_impl_designSearch_take_1_5683:GT Try.prog (rO (cL (cR (Try.f121.body.getD .skip)))) tM_impl_designSearch_take_1 16 11 (mA 18 5683) tt_impl_designSearch_take_1_5683 332:=gt_h (by kernel_rfl) (by kernel_rfl) tw_impl_designSearch_take_1_2 (by kernel_rfl) tg_impl_designSearch_take_1_5687
abbrev tt_impl_designSearch_take_1_5745:VT:=.h 7 tv_impl_designSearch_take_1_7 tt_impl_designSearch_take_1_5873
theorem tg_impl_designSearch_take_1_5745:GT Try.prog (rO (cL (cR (Try.f121.body.getD .skip)))) tM_impl_designSearch_take_1 16 11 (mA 18 5745) tt_impl_designSearch_take_1_5745 332:=gt_h (by kernel_rfl) (by kernel_rfl) tw_impl_designSearch_take_1_7 (by kernel_rfl) tg_impl_designSearch_take_1_5873
abbrev tt_impl_designSearch_take_1_7729:VT:=.br 1 tv_impl_designSearch_take_1_1 tt_impl_designSearch_take_1_7731 (.br 6 tv_impl_designSearch_take_1_6 tt_impl_designSearch_take_1_7793 (.br 13 tv_impl_designSearch_take_1_13 tt_impl_designSearch_take_1_15921 .nil))
theorem tg_impl_designSearch_take_1_7729:GT Try.prog (rO (cL (cR (Try.f121.body.getD .skip)))) tM_impl_designSearch_take_1 16 11 (mA 18 7729) tt_impl_designSearch_take_1_7729 180:=gt_l (l:=[1,6,13]) (by kernel_rfl) (by kernel_rfl) (by kernel_rfl) (by kernel_rfl) (gl_cons tw_impl_designSearch_take_1_1 (by kernel_rfl) tg_impl_designSearch_take_1_7731 (gl_cons tw_impl_designSearch_take_1_6 (by kernel_rfl) tg_impl_designSearch_take_1_7793 (gl_cons tw_impl_designSearch_take_1_13 (by kernel_rfl) tg_impl_designSearch_take_1_15921 gl_nil)))
abbrev tt_impl_designSearch_take_1_13873:VT:=.br 1 tv_impl_designSearch_take_1_1 tt_impl_designSearch_take_1_13875 (.br 6 tv_impl_designSearch_take_1_6 tt_impl_designSearch_take_1_13937 (.br 11 tv_impl_designSearch_take_1_11 tt_impl_designSearch_take_1_15921 .nil))
theorem tg_impl_designSearch_take_1_13873:GT Try.prog (rO (cL (cR (Try.f121.body.getD .skip)))) tM_impl_designSearch_take_1 16 11 (mA 18 13873) tt_impl_designSearch_take_1_13873 168:=gt_l (l:=[1,6,11]) (by kernel_rfl) (by kernel_rfl) (by kernel_rfl) (by kernel_rfl) (gl_cons tw_impl_designSearch_take_1_1 (by kernel_rfl) tg_impl_designSearch_take_1_13875 (gl_cons tw_impl_designSearch_take_1_6 (by kernel_rfl) tg_impl_designSearch_take_1_13937 (gl_cons tw_impl_designSearch_take_1_11 (by kernel_rfl) tg_impl_designSearch_take_1_15921 gl_nil)))
abbrev tt_impl_designSearch_take_1_5681:VT:=.br 1 tv_impl_designSearch_take_1_1 tt_impl_designSearch_take_1_5683 (.br 6 tv_impl_designSearch_take_1_6 tt_impl_designSearch_take_1_5745 (.br 11 tv_impl_designSearch_take_1_11 tt_impl_designSearch_take_1_7729 (.br 13 tv_impl_designSearch_take_1_13 tt_impl_designSearch_take_1_13873 .nil)))
theorem tg_impl_designSearch_take_1_5681:GT Try.prog (rO (cL (cR (Try.f121.body.getD .skip)))) tM_impl_designSearch_take_1 16 12 (mA 18 5681) tt_impl_designSearch_take_1_5681 1013:=gt_l (l:=[1,6,11,13]) (by kernel_rfl) (by kernel_rfl) (by kernel_rfl) (by kernel_rfl) (gl_cons tw_impl_designSearch_take_1_1 (by kernel_rfl) tg_impl_designSearch_take_1_5683 (gl_cons tw_impl_designSearch_take_1_6 (by kernel_rfl) tg_impl_designSearch_take_1_5745 (gl_cons tw_impl_designSearch_take_1_11 (by kernel_rfl) tg_impl_designSearch_take_1_7729 (gl_cons tw_impl_designSearch_take_1_13 (by kernel_rfl) tg_impl_designSearch_take_1_13873 gl_nil))))
abbrev tt_impl_designSearch_take_1_1585:VT:=.h 12 tv_impl_designSearch_take_1_12 tt_impl_designSearch_take_1_5681
theorem tg_impl_designSearch_take_1_1585:GT Try.prog (rO (cL (cR (Try.f121.body.getD .skip)))) tM_impl_designSearch_take_1 16 13 (mA 18 1585) tt_impl_designSearch_take_1_1585 1014:=gt_h (by kernel_rfl) (by kernel_rfl) tw_impl_designSearch_take_1_12 (by kernel_rfl) tg_impl_designSearch_take_1_5681
abbrev tt_impl_designSearch_take_1_561:VT:=.h 10 tv_impl_designSearch_take_1_10 tt_impl_designSearch_take_1_1585
theorem tg_impl_designSearch_take_1_561:GT Try.prog (rO (cL (cR (Try.f121.body.getD .skip)))) tM_impl_designSearch_take_1 16 14 (mA 18 561) tt_impl_designSearch_take_1_561 1015:=gt_h (by kernel_rfl) (by kernel_rfl) tw_impl_designSearch_take_1_10 (by kernel_rfl) tg_impl_designSearch_take_1_1585
abbrev tt_impl_designSearch_take_1_49:VT:=.h 9 tv_impl_designSearch_take_1_9 tt_impl_designSearch_take_1_561
theorem tg_impl_designSearch_take_1_49:GT Try.prog (rO (cL (cR (Try.f121.body.getD .skip)))) tM_impl_designSearch_take_1 16 15 (mA 18 49) tt_impl_designSearch_take_1_49 1016:=gt_h (by kernel_rfl) (by kernel_rfl) tw_impl_designSearch_take_1_9 (by kernel_rfl) tg_impl_designSearch_take_1_561
abbrev tt_impl_designSearch_take_1_17:VT:=.h 5 tv_impl_designSearch_take_1_5 tt_impl_designSearch_take_1_49
theorem tg_impl_designSearch_take_1_17:GT Try.prog (rO (cL (cR (Try.f121.body.getD .skip)))) tM_impl_designSearch_take_1 16 16 (mA 18 17) tt_impl_designSearch_take_1_17 1017:=gt_h (by kernel_rfl) (by kernel_rfl) tw_impl_designSearch_take_1_5 (by kernel_rfl) tg_impl_designSearch_take_1_49
abbrev tt_impl_designSearch_take_1_1:VT:=.h 4 tv_impl_designSearch_take_1_4 tt_impl_designSearch_take_1_17
theorem tg_impl_designSearch_take_1_1:GT Try.prog (rO (cL (cR (Try.f121.body.getD .skip)))) tM_impl_designSearch_take_1 16 17 (mA 18 1) tt_impl_designSearch_take_1_1 1018:=gt_h (by kernel_rfl) (by kernel_rfl) tw_impl_designSearch_take_1_4 (by kernel_rfl) tg_impl_designSearch_take_1_17
abbrev tt_impl_designSearch_take_1_0:VT:=.h 0 tv_impl_designSearch_take_1_0 tt_impl_designSearch_take_1_1
theorem tg_impl_designSearch_take_1_0:GT Try.prog (rO (cL (cR (Try.f121.body.getD .skip)))) tM_impl_designSearch_take_1 16 18 (mA 18 0) tt_impl_designSearch_take_1_0 1019:=gt_h (by kernel_rfl) (by kernel_rfl) tw_impl_designSearch_take_1_0 (by kernel_rfl) tg_impl_designSearch_take_1_1
def cd_impl_designSearch_take_1:VCode:=.drawT tt_impl_designSearch_take_1_0 [⟨some 22,none,.ia 1 (.tmp 15) (.tmp 16)⟩,⟨none,none,.store 1 (.tmp 22) (.tmp 20)⟩]
theorem cc_impl_designSearch_take_1:cCode Try.prog 12 (cL (cR (Try.f121.body.getD .skip))) ms_impl_designSearch_take_0=some (cd_impl_designSearch_take_1,ms_impl_designSearch_take_0):=cc_tree (nh:=16) (M:=tM_impl_designSearch_take_1) (k:=18) (n:=1019) (by kernel_rfl) (by kernel_rfl) (by kernel_rfl) (by kernel_rfl) (by kernel_rfl) (by kernel_rfl) tg_impl_designSearch_take_1_0 (by decide) (by kernel_rfl)
def cd_impl_designSearch_take_2:VCode:=(.ops [
  ⟨some 23,none,.mv (.tmp 0)⟩,
  ⟨some 24,none,.mv (.tmp 1)⟩,
  ⟨some 25,none,.bin .add (.tmp 24) (.const (.int .i64 1))⟩,
  ⟨some 26,none,.callX 73 [(.tmp 23),(.tmp 25)]⟩,
  ⟨some 6,none,.asg (.tmp 26)⟩])
theorem cc_impl_designSearch_take_2:cCode Try.prog 12 (cL (cR (cR (Try.f121.body.getD .skip)))) ms_impl_designSearch_take_0=some (cd_impl_designSearch_take_2,ms_impl_designSearch_take_0):=by kernel_rfl
theorem cc_impl_designSearch_take_3:cCode Try.prog 12 (cR (cR (cR (Try.f121.body.getD .skip)))) ms_impl_designSearch_take_0=some (.ret,ms_impl_designSearch_take_0):=by kernel_rfl
def code_impl_designSearch_take:VCode:=(.seq (.ops [
  ⟨some 5,none,.box (.tmp 2)⟩,
  ⟨some 6,none,.asg (.const (.bool false))⟩]) (.seq cd_impl_designSearch_take_1 (.seq cd_impl_designSearch_take_2 .ret)))
theorem law_impl_designSearch_take {a0 a1 a2 d:D}{cells cells':List D}(h:∀ b,code_impl_designSearch_take.wp (CT Try.prog NoG) (endX [(.t 6)] d 0 b cells') [.box (some b) cells,a1,a2,.undef,.undef,.undef,.undef,.undef,.undef,.undef,.undef,.undef,.undef,.undef,.undef,.undef,.undef,.undef,.undef,.undef,.undef,.undef,.undef,.undef,.undef,.undef,.undef]):ContractX Try.prog NoG 121 0 [a0,a1,a2] cells d cells' :=
  contract_ofX (pt:=12) noG Try.func121 (fun us W=>by kernel_rfl) (c:=Try.f121.body.getD .skip) (ms:=[]) (ms':=[]) (by kernel_rfl) (cc_seq cc_impl_designSearch_take_0 (cc_seq cc_impl_designSearch_take_1 (cc_seq cc_impl_designSearch_take_2 cc_impl_designSearch_take_3))) (by kernel_rfl) (by simp) h
def code_spec_l00Own:VCode:=(.seq (.ops [
  ⟨some 2,none,.asg (.const (.slice none 0 0))⟩]) (.seq (.ops [
  ⟨some 3,none,.bsl 1 []⟩,
  ⟨some 4,none,.mv (.tmp 0)⟩,
  ⟨some 5,none,.app 1 8 (.tmp 3) (.tmp 4)⟩,
  ⟨some 2,none,.asg (.tmp 5)⟩]) .ret))
theorem law_spec_l00Own {a0 d:D}(h:code_spec_l00Own.wp (CT Try.prog NoG) (endQ [(.t 2)] d) [a0,.undef,.undef,.undef,.undef,.undef]):Contract Try.prog NoG 94 [a0] d :=
  contract_of (pt:=0) noG Try.func94 (fun us W=>by kernel_rfl) (c:=Try.f94.body.getD .skip) (ms:=[]) (ms':=[]) (by kernel_rfl) (by kernel_rfl) (by kernel_rfl) h
theorem v_l00Own (xs:List Int)(hn:xs.length≤1048576):Contract Try.prog NoG 94 [.sl false 1 (xs.map rI)] (.sl true 1 (xs.map rI)):=by refine law_spec_l00Own ?_;unfold code_spec_l00Own;simp -implicitDefEqProofs (disch:=omega) only [go_sem,↓reduceIte ,List.length_map];omega
def code_laws_toInt64S:VCode:=(.seq (.ops [
  ⟨some 2,none,.asg (.const (.slice none 0 0))⟩]) (.seq (.ops [
  ⟨some 5,none,.mv (.tmp 0)⟩,
  ⟨some 6,none,.len (.tmp 5)⟩,
  ⟨some 7,none,.mks 1 8 [(.int .i64 0)] (.tmp 6) (.tmp 6)⟩,
  ⟨some 3,none,.asg (.tmp 7)⟩]) (.seq (.seq (.ops [
  ⟨some 4,none,.asg (.const (.int .i64 0))⟩]) (.block 0 (.loop (mB 22 4194150) (.seq (.seq (.ops [
  ⟨some 8,none,.mv (.tmp 4)⟩,
  ⟨some 9,none,.mv (.tmp 0)⟩,
  ⟨some 10,none,.len (.tmp 9)⟩,
  ⟨some 11,none,.bin .lss (.tmp 8) (.tmp 10)⟩]) (.cond (.tmp 11) .skip (.exit 0))) (.seq (.block 1 (.ops [
  ⟨some 14,none,.mv (.tmp 3)⟩,
  ⟨some 15,none,.mv (.tmp 4)⟩,
  ⟨some 16,none,.mv (.tmp 0)⟩,
  ⟨some 17,none,.mv (.tmp 4)⟩,
  ⟨some 18,none,.ia 1 (.tmp 16) (.tmp 17)⟩,
  ⟨some 19,none,.load 1 false (.tmp 18)⟩,
  ⟨some 20,none,.ia 1 (.tmp 14) (.tmp 15)⟩,
  ⟨none,none,.store 1 (.tmp 20) (.tmp 19)⟩])) (.ops [
  ⟨some 12,none,.mv (.tmp 4)⟩,
  ⟨some 13,none,.bin .add (.tmp 12) (.const (.int .i64 1))⟩,
  ⟨some 4,none,.asg (.tmp 13)⟩])))))) (.seq (.ops [
  ⟨some 21,none,.mv (.tmp 3)⟩,
  ⟨some 2,none,.asg (.tmp 21)⟩]) .ret))))
theorem law_laws_toInt64S {a0 d:D}(h:code_laws_toInt64S.wp (CT Try.prog NoG) (endQ [(.t 2)] d) [a0,.undef,.undef,.undef,.undef,.undef,.undef,.undef,.undef,.undef,.undef,.undef,.undef,.undef,.undef,.undef,.undef,.undef,.undef,.undef,.undef,.undef]):Contract Try.prog NoG 34 [a0] d :=
  contract_of (pt:=0) noG Try.func34 (fun us W=>by kernel_rfl) (c:=Try.f34.body.getD .skip) (ms:=[(mB 22 4194150)]) (ms':=[]) (by kernel_rfl) (by kernel_rfl) (by kernel_rfl) h
set_option maxHeartbeats 2000000 in
theorem v_toInt64S (xs:List Int)(hn:xs.length≤1048576):Contract Try.prog NoG 34 [.sl false 1 (xs.map (rI))] (.sl true 1 (xs.map (rI))):=by
  have hl:xs.length≤1048576:=(by exact hn);refine law_laws_toInt64S ?_;unfold code_laws_toInt64S;simp -implicitDefEqProofs (disch:=omega) only [go_sem,↓reduceIte ,List.length_map,Int.toNat_natCast];refine ⟨by omega,by omega,by omega,?_⟩;refine loop_st (fun k:Nat=>[.sl false 1 (xs.map (rI)),.undef,.undef,.sl true 1 ((xs.take k).map (rI)++List.replicate (xs.length-k) [D.v (.int .i64 0)]),.v (.int .i64 k),.undef,.undef,.undef,.undef,.undef,.undef,.undef,.undef,.undef,.undef,.undef,.undef,.undef,.undef,.undef,.undef,.undef]) (fun k=>k≤xs.length) (fun k=>xs.length-k) 0 (nleA) (Nat.zero_le _) ?_;intro k hk;simp -implicitDefEqProofs (disch:=omega) only [go_sem,↓reduceIte ,List.length_map,Int.toNat_natCast,Int.ofNat_lt,Int.natCast_nonneg,List.getElem?_map,Option.map_some];refine cond_split ?_ ?_<;>intro hlt
  · have hlt:k<xs.length:=(by simpa using hlt);have e1:=List.getElem?_eq_getElem hlt;have g1:=fill_len xs (rI) [D.v (.int .i64 0)] k;have g2:=fill_at xs (rI) [D.v (.int .i64 0)] k hlt;have g3:=fill_next xs (rI) [D.v (.int .i64 0)] k hlt;have g4:k<((xs.take k).map (rI)++List.replicate (xs.length-k) [D.v (.int .i64 0)]).length:=(by rw [g1];exact hlt);simp -implicitDefEqProofs (disch:=omega) only [go_sem,↓reduceIte ,List.length_map,Int.toNat_natCast,Int.ofNat_lt,Int.natCast_nonneg,List.getElem?_map,Option.map_some,hlt,e1,g1,g2,List.set_set,List.getElem?_set_self g4,wrN];refine ⟨k+1,by omega,hlt,?_⟩;rw [← g3]
    (try simp -implicitDefEqProofs only [nleL_cc,nleL_nn,nle_self,nle_boxs,nle_aggs,nle_nils,and_self,and_true,true_and])<;>repeat' (first | exact nle_of_eq rfl | exact nle_nil | apply And.intro | apply nle_sl | apply nleLL_cons | apply nleL_cons | exact nleL_nil | exact nleLL_nil | apply nle_box | apply nle_agg)
  · have hge:k=xs.length:=(by have:¬ k<xs.length:=(by simpa using hlt);omega);subst hge;simp -implicitDefEqProofs (disch:=omega) only [go_sem,↓reduceIte ,fill_end]
end Go.Proofs.Ytaleehohmpohoaa
