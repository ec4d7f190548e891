/- Laws that the proof stands on. -/
import Derived.Test.YtaleehohmpohoaaZVB
import Derived.Test.YtaleehohmpohoaaProg
import Derived.Test.YtaleehohmpohoaaZMark
import Derived.Test.YtaleehohmpohoaaZVMv
import Derived.Test.YtaleehohmpohoaaZVSeg
set_option linter.all false
namespace Go.Proofs.Ytaleehohmpohoaa
open Go.RowKit Go.V
attribute [local go_sem] xBh xBb xBc xA8 xA6 xBl xBk xBy xBm xC7 xBt xCi xBn xCl xB6 xCg xBi xBp xBw xCn Value.oneCell' xCp xCu xCv xC0 xC1 xBr xB7 and_true true_and beq_self_eq_true xBa if_true if_false xB2 Nat.reduceAdd Nat.reduceMul Nat.reduceLeDiff xBj xB5 xB0 not_true_eq_false not_false_eq_true ne_eq reduceCtorEq xCf bne_self_eq_false Nat.reduceEqDiff List.isPrefixOf xB9 xCm xCq xC5 xCx decide_true decide_false Nat.reduceBEq Nat.reduceBNe xBv xBz exists_eq_left' exists_eq_left xAv or_false or_true true_or false_or xAx xCk mB Nat.reduceMod Nat.reduceDiv
set_option maxRecDepth 100000
def inR (lo hi n:Int):Bool:=decide (lo≤n)&&decide (n≤hi)
theorem zDq {lo hi n:Int}:inR lo hi n=true↔lo≤n∧n≤hi:=by simp [inR]
def code_spec_l00In:VCode:=(.seq (.ops [
  ⟨some 6,none,.asg (.const (.bool false))⟩]) (.seq (.ops [
  ⟨some 7,none,.mv (.tmp 0)⟩,
  ⟨some 8,none,.mv (.tmp 1)⟩,
  ⟨some 9,none,.bin .geq (.tmp 7) (.tmp 8)⟩,
  ⟨some 10,none,.mv (.tmp 9)⟩,
  ⟨some 11,some (10,true),.mv (.tmp 0)⟩,
  ⟨some 12,some (10,true),.mv (.tmp 2)⟩,
  ⟨some 13,some (10,true),.bin .leq (.tmp 11) (.tmp 12)⟩,
  ⟨some 14,none,.pick (.tmp 10) (.tmp 13) (.const (.bool false))⟩,
  ⟨some 6,none,.asg (.tmp 14)⟩]) .ret))
theorem zTz {a0 a1 a2 d:D}(h:code_spec_l00In.wp (CT Try.prog NoG) (zHy [(.t 6)] d) [a0,a1,a2,.undef,.undef,.undef,.undef,.undef,.undef,.undef,.undef,.undef,.undef,.undef,.undef]):Contract Try.prog NoG 45 [a0,a1,a2] d :=
  zAo (pt:=0) noG Try.func45 (fun us W=>by kernel_rfl) (c:=Try.f45.body.getD .skip) (ms:=[]) (ms':=[]) (by kernel_rfl) (by kernel_rfl) (by kernel_rfl) h
theorem zFw (a b c:Int):Contract Try.prog NoG 45 [.v (.int .i64 a),.v (.int .i64 b),.v (.int .i64 c)] (.v (.bool (inR b c a))):=by
  refine zTz ?_;unfold code_spec_l00In inR;simp -implicitDefEqProofs (disch:=omega) only [go_sem,↓reduceIte];refine zTc ?_ ?_<;>intro h
  · simp -implicitDefEqProofs (disch:=omega) only [go_sem,↓reduceIte ,h]
  · simp -implicitDefEqProofs (disch:=omega) only [go_sem,↓reduceIte ,h]
def code_impl_within:VCode:=(.seq (.ops [
  ⟨some 6,none,.asg (.const (.bool false))⟩]) (.seq (.ops [
  ⟨some 7,none,.mv (.tmp 0)⟩,
  ⟨some 8,none,.mv (.tmp 1)⟩,
  ⟨some 9,none,.bin .geq (.tmp 7) (.tmp 8)⟩,
  ⟨some 10,none,.mv (.tmp 9)⟩,
  ⟨some 11,some (10,true),.mv (.tmp 0)⟩,
  ⟨some 12,some (10,true),.mv (.tmp 2)⟩,
  ⟨some 13,some (10,true),.bin .leq (.tmp 11) (.tmp 12)⟩,
  ⟨some 14,none,.pick (.tmp 10) (.tmp 13) (.const (.bool false))⟩,
  ⟨some 6,none,.asg (.tmp 14)⟩]) .ret))
theorem zS9 {a0 a1 a2 d:D}(h:code_impl_within.wp (CT Try.prog NoG) (zHy [(.t 6)] d) [a0,a1,a2,.undef,.undef,.undef,.undef,.undef,.undef,.undef,.undef,.undef,.undef,.undef,.undef]):Contract Try.prog NoG 48 [a0,a1,a2] d :=
  zAo (pt:=0) noG Try.func48 (fun us W=>by kernel_rfl) (c:=Try.f48.body.getD .skip) (ms:=[]) (ms':=[]) (by kernel_rfl) (by kernel_rfl) (by kernel_rfl) h
theorem zIj (a b c:Int):Contract Try.prog NoG 48 [.v (.int .i64 a),.v (.int .i64 b),.v (.int .i64 c)] (.v (.bool (inR b c a))):=by
  refine zS9 ?_;unfold code_impl_within inR;simp -implicitDefEqProofs (disch:=omega) only [go_sem,↓reduceIte];refine zTc ?_ ?_<;>intro h
  · simp -implicitDefEqProofs (disch:=omega) only [go_sem,↓reduceIte ,h]
  · simp -implicitDefEqProofs (disch:=omega) only [go_sem,↓reduceIte ,h]
def code_slices_IndexFunc_int64_int64:VCode:=(.seq (.ops [
  ⟨some 4,none,.asg (.const (.int .i64 0))⟩]) (.seq (.seq (.ops [
  ⟨some 6,none,.mv (.tmp 0)⟩,
  ⟨some 7,none,.len (.tmp 6)⟩,
  ⟨some 8,none,.mv (.const (.int .i64 0))⟩]) (.block 0 (.loop (mB 19 523900) (.seq (.ops [
  ⟨some 9,none,.bin .lss (.tmp 8) (.tmp 7)⟩]) (.seq (.cond (.tmp 9) .skip (.exit 0)) (.seq (.block 1 (.seq (.ops [
  ⟨some 10,none,.mv (.tmp 8)⟩,
  ⟨some 5,none,.asg (.tmp 10)⟩]) (.seq (.ops [
  ⟨some 11,none,.mv (.tmp 1)⟩,
  ⟨some 12,none,.mv (.tmp 0)⟩,
  ⟨some 13,none,.mv (.tmp 5)⟩,
  ⟨some 14,none,.ia 1 (.tmp 12) (.tmp 13)⟩,
  ⟨some 15,none,.load 1 false (.tmp 14)⟩,
  ⟨some 16,none,.callvX (.tmp 11) [(.tmp 15)]⟩]) (.cond (.tmp 16) (.seq (.ops [
  ⟨some 17,none,.mv (.tmp 5)⟩,
  ⟨some 4,none,.asg (.tmp 17)⟩]) .ret) .skip)))) (.ops [
  ⟨some 18,none,.bin .add (.tmp 8) (.const (.int .i64 1))⟩,
  ⟨some 8,none,.mv (.tmp 18)⟩]))))))) (.seq (.ops [
  ⟨some 4,none,.asg (.const (.int .i64 (-1)))⟩]) .ret)))
theorem zFt {a0 a1 d:D}(h:code_slices_IndexFunc_int64_int64.wp (CT Try.prog NoG) (zHy [(.t 4)] d) [a0,a1,.undef,.undef,.undef,.undef,.undef,.undef,.undef,.undef,.undef,.undef,.undef,.undef,.undef,.undef,.undef,.undef,.undef]):Contract Try.prog NoG 115 [a0,a1] d :=
  zAo (pt:=0) noG Try.func115 (fun us W=>by kernel_rfl) (c:=Try.f115.body.getD .skip) (ms:=[(mB 19 523900)]) (ms':=[]) (by kernel_rfl) (by kernel_rfl) (by kernel_rfl) h
theorem zPv (f:FuncId)(caps:List D)(hd:CapsOK caps)(xs:List Int)(p:Int→Bool)(hc:∀ x,x∈xs→Contract Try.prog NoG f (.v (.int .i64 x)::caps) (.v (.bool (p x))))(hn:xs.length≤1099511627776) :
    Contract Try.prog NoG 115 [.sl false 1 (xs.map (rI)),.fn f [] caps] (.v (.int .i64 (yJk p xs))):=by
  refine zFt ?_;unfold code_slices_IndexFunc_int64_int64;simp -implicitDefEqProofs (disch:=omega) only [go_sem,↓reduceIte ,hd.owny,hd.pr];refine zV2 (fun i:Nat=>[.sl false 1 (xs.map (rI)),.fn f [] caps,.undef,.undef,.undef,.undef,.undef,.v (.int .i64 (xs.map (rI)).length),.v (.int .i64 i),.undef,.undef,.undef,.undef,.undef,.undef,.undef,.undef,.undef,.undef]) (fun i=>i≤xs.length∧∀ j (hj:j<xs.length),j<i→p xs[j]=false) (fun i=>xs.length-i) 0 ?_ ⟨xCs _,fun j _ h=>absurd h (Nat.not_lt_zero _)⟩ ?_
  · simp -implicitDefEqProofs (disch:=omega) only [go_sem,↓reduceIte ,hd.owny,hd.pr]
    exact qAa
  rintro i ⟨hi,ha⟩;simp -implicitDefEqProofs (disch:=omega) only [go_sem,↓reduceIte ,xAw,xAz,xA7,xA0,xAy,xAx,hd.owny,hd.pr];refine zAp ?_ ?_<;>intro hlt
  · have hlt:i<xs.length:=qAg;have hx:=xA1 hlt;simp -implicitDefEqProofs (disch:=omega) only [go_sem,↓reduceIte ,xAw,xAz,xA7,xA0,xAy,xAx,hlt,hx,hd.owny,hd.pr];have hcx:=hc _ (xB3 hlt);refine yCa (f:=f) (first:=[]) (caps:=caps) ?_ hcx ?_ (.inl rfl) ?_
    · simp -implicitDefEqProofs (disch:=omega) only [go_sem,↓reduceIte ,hd.owny]
    · refine zBs ?_;simp only [xBp,xBi,xA6,xBl,hd.d8,xBo];simp only [deep,raw,xBh,xBb,xA6,xBl,TD.rows,zAw,zAt,zA0,zAs]
    simp -implicitDefEqProofs (disch:=omega) only [go_sem,↓reduceIte ,hd.owny,hd.pr];refine zAp ?_ ?_<;>intro hp
    · simp -implicitDefEqProofs (disch:=omega) only [go_sem,↓reduceIte ,hd.owny,hd.pr];rw [zVi p xs i hlt ha hp]
    · simp -implicitDefEqProofs (disch:=omega) only [go_sem,↓reduceIte ,wrN,hd.owny,hd.pr];refine ⟨i+1,by omega,⟨hlt,fun j hj h=>?_⟩,zD2⟩;rcases xF7 j i with h' | h'
      · exact ha j hj h'
      · have:j=i:=qAc;subst this;exact hp
  · have hlt:¬ i<xs.length:=qAg;simp -implicitDefEqProofs (disch:=omega) only [go_sem,↓reduceIte];rw [zR8 p xs (fun j hj=>ha j hj qAc)]
def code_slices_ContainsFunc_int64_int64:VCode:=(.seq (.ops [
  ⟨some 4,none,.asg (.const (.bool false))⟩]) (.seq (.ops [
  ⟨some 5,none,.mv (.tmp 0)⟩,
  ⟨some 6,none,.mv (.tmp 1)⟩,
  ⟨some 7,none,.callX 115 [(.tmp 5),(.tmp 6)]⟩,
  ⟨some 8,none,.bin .geq (.tmp 7) (.const (.int .i64 0))⟩,
  ⟨some 4,none,.asg (.tmp 8)⟩]) .ret))
theorem zEi {a0 a1 d:D}(h:code_slices_ContainsFunc_int64_int64.wp (CT Try.prog NoG) (zHy [(.t 4)] d) [a0,a1,.undef,.undef,.undef,.undef,.undef,.undef,.undef]):Contract Try.prog NoG 103 [a0,a1] d :=
  zAo (pt:=0) noG Try.func103 (fun us W=>by kernel_rfl) (c:=Try.f103.body.getD .skip) (ms:=[]) (ms':=[]) (by kernel_rfl) (by kernel_rfl) (by kernel_rfl) h
theorem zLl (f:FuncId)(caps:List D)(hd:CapsOK caps)(xs:List Int)(p:Int→Bool)(hc:∀ x,x∈xs→Contract Try.prog NoG f (.v (.int .i64 x)::caps) (.v (.bool (p x))))(hn:xs.length≤1099511627776) :
    Contract Try.prog NoG 103 [.sl false 1 (xs.map (rI)),.fn f [] caps] (.v (.bool (xs.any p))):=by
  refine zEi ?_;unfold code_slices_ContainsFunc_int64_int64;simp -implicitDefEqProofs (disch:=omega) only [go_sem,↓reduceIte ,hd.owny,hd.pr];refine zZx (zPv f caps hd xs p hc hn) ?_ (.inl rfl) ?_
  · refine zBs ?_;simp only [xA6,xBl,deep,raw,xBh,xBb,TD.rows,zAw,zAt,zA0,zAs,hd.owny,hd.pr,hd.d7]
    try rfl
  simp -implicitDefEqProofs (disch:=omega) only [go_sem,↓reduceIte];exact congrArg Value.bool (zZ4 p xs)
def code_impl_below_1:VCode:=(.seq (.ops [
  ⟨some 3,none,.asg (.const (.bool false))⟩]) (.seq (.ops [
  ⟨some 4,none,.mv (.tmp 0)⟩,
  ⟨some 5,none,.load 1 false (.tmp 1)⟩,
  ⟨some 6,none,.bin .sub (.tmp 5) (.const (.int .i64 1))⟩,
  ⟨some 7,none,.callX 48 [(.tmp 4),(.const (.int .i64 0)),(.tmp 6)]⟩,
  ⟨some 8,none,.un .not (.tmp 7)⟩,
  ⟨some 3,none,.asg (.tmp 8)⟩]) .ret))
theorem zRa {a0 a1 d:D}(h:code_impl_below_1.wp (CT Try.prog NoG) (zHy [(.t 3)] d) [a0,a1,.undef,.undef,.undef,.undef,.undef,.undef,.undef]):Contract Try.prog NoG 104 [a0,a1] d :=
  zAo (pt:=0) noG Try.func104 (fun us W=>by kernel_rfl) (c:=Try.f104.body.getD .skip) (ms:=[]) (ms':=[]) (by kernel_rfl) (by kernel_rfl) (by kernel_rfl) h
def code_impl_below:VCode:=(.seq (.ops [
  ⟨some 3,none,.box (.tmp 1)⟩,
  ⟨some 4,none,.asg (.const (.bool false))⟩]) (.seq (.ops [
  ⟨some 5,none,.mv (.tmp 0)⟩,
  ⟨some 6,none,.mkf 104 [] [(.tmp 3)]⟩,
  ⟨some 7,none,.callX 103 [(.tmp 5),(.tmp 6)]⟩,
  ⟨some 8,none,.un .not (.tmp 7)⟩,
  ⟨some 4,none,.asg (.tmp 8)⟩]) .ret))
theorem zT1 {a0 a1 d:D}(h:code_impl_below.wp (CT Try.prog NoG) (zHy [(.t 4)] d) [a0,a1,.undef,.undef,.undef,.undef,.undef,.undef,.undef]):Contract Try.prog NoG 86 [a0,a1] d :=
  zAo (pt:=0) noG Try.func86 (fun us W=>by kernel_rfl) (c:=Try.f86.body.getD .skip) (ms:=[]) (ms':=[]) (by kernel_rfl) (by kernel_rfl) (by kernel_rfl) h
theorem yJy (n l:Int)(hl:0≤l)(hl2:l≤1099511627776):Contract Try.prog NoG 104 [.v (.int .i64 n),.iptr [.v (.int .i64 l)] 0] (.v (.bool (!inR 0 (l-1) n))):=by refine zRa ?_;unfold code_impl_below_1;have hw:IntKind.i64.wrap (l-1)=l-1:=wrI qAc qAc;simp -implicitDefEqProofs (disch:=omega) only [go_sem,↓reduceIte ,hw];refine zAr (zIj n 0 (l-1)) qAb ?_;simp -implicitDefEqProofs (disch:=omega) only [go_sem,↓reduceIte]
theorem yE1 (xs:List Int)(l:Int)(hl:0≤l)(hl2:l≤1099511627776)(hn:xs.length≤1048576):Contract Try.prog NoG 86 [.sl false 1 (xs.map rI),.v (.int .i64 l)] (.v (.bool (xs.all (inR 0 (l-1))))):=by refine zT1 ?_;unfold code_impl_below;simp -implicitDefEqProofs (disch:=omega) only [go_sem,↓reduceIte];refine zAr (zLl _ [.iptr [.v (.int .i64 l)] 0] ⟨rfl,fun _=>rfl,fun _=>rfl,fun _=>rfl⟩ xs (fun n=>!inR 0 (l-1) n) (fun x _=>yJy x l hl hl2) qAc) (by simp -implicitDefEqProofs (disch:=omega) only [go_sem,↓reduceIte,deep,TD.rows,zAw,zAt,zA0,zAs,zAv,zAq,zWl,xG0];exact rfl) ?_;simp -implicitDefEqProofs (disch:=omega) only [go_sem,↓reduceIte ,zWl,xG0]
def code_slices_Clone_int64_int64:VCode:=(.seq (.ops [
  ⟨some 2,none,.asg (.const (.slice none 0 0))⟩]) (.seq (.seq (.ops [
  ⟨some 3,none,.mv (.tmp 0)⟩,
  ⟨some 4,none,.isnil false (.tmp 3)⟩]) (.cond (.tmp 4) (.seq (.ops [
  ⟨some 2,none,.asg (.const (.slice none 0 0))⟩]) .ret) .skip)) (.seq (.ops [
  ⟨some 5,none,.bsl 1 []⟩,
  ⟨some 6,none,.mv (.tmp 0)⟩,
  ⟨some 7,none,.app 1 8 (.tmp 5) (.tmp 6)⟩,
  ⟨some 2,none,.asg (.tmp 7)⟩]) .ret)))
theorem zGj {a0 d:D}(h:code_slices_Clone_int64_int64.wp (CT Try.prog NoG) (zHy [(.t 2)] d) [a0,.undef,.undef,.undef,.undef,.undef,.undef,.undef]):Contract Try.prog NoG 69 [a0] d :=
  zAo (pt:=0) noG Try.func69 (fun us W=>by kernel_rfl) (c:=Try.f69.body.getD .skip) (ms:=[]) (ms':=[]) (by kernel_rfl) (by kernel_rfl) (by kernel_rfl) h
theorem zVh (xs:List Int)(hn:xs.length≤1048576):Contract Try.prog NoG 69 [.sl false 1 (xs.map rI)] (.sl true 1 (xs.map rI)):=by
  refine zGj ?_;unfold code_slices_Clone_int64_int64;simp -implicitDefEqProofs (disch:=omega) only [go_sem,↓reduceIte];refine zZk (fun b hb=>?_);simp -implicitDefEqProofs (disch:=omega) only [go_sem,↓reduceIte];refine zAp ?_ ?_<;>intro h
  · simp -implicitDefEqProofs (disch:=omega) only [go_sem,↓reduceIte];exact hb (by rw [h];rfl)
  · simp -implicitDefEqProofs (disch:=omega) only [go_sem,↓reduceIte ,xAw]
    first | omega | exact ⟨by omega,rfl⟩
def code_spec_l00Own:VCode:=(.seq (.ops [
  ⟨some 2,none,.asg (.const (.slice none 0 0))⟩]) (.seq (.ops [
  ⟨some 3,none,.bsl 1 []⟩,
  ⟨some 4,none,.mv (.tmp 0)⟩,
  ⟨some 5,none,.app 1 8 (.tmp 3) (.tmp 4)⟩,
  ⟨some 2,none,.asg (.tmp 5)⟩]) .ret))
theorem zS8 {a0 d:D}(h:code_spec_l00Own.wp (CT Try.prog NoG) (zHy [(.t 2)] d) [a0,.undef,.undef,.undef,.undef,.undef]):Contract Try.prog NoG 94 [a0] d :=
  zAo (pt:=0) noG Try.func94 (fun us W=>by kernel_rfl) (c:=Try.f94.body.getD .skip) (ms:=[]) (ms':=[]) (by kernel_rfl) (by kernel_rfl) (by kernel_rfl) h
theorem yJx (xs:List Int)(hn:xs.length≤1048576):Contract Try.prog NoG 94 [.sl false 1 (xs.map rI)] (.sl true 1 (xs.map rI)):=by refine zS8 ?_;unfold code_spec_l00Own;simp -implicitDefEqProofs (disch:=omega) only [go_sem,↓reduceIte ,xAw];omega
abbrev zN9:VO:=⟨some 43,none,.load 1 false (.tmp 42)⟩
abbrev yAc:VO:=⟨some 50,none,.ia 1 (.tmp 46) (.tmp 49)⟩
abbrev yAd:VO:=⟨some 52,none,.callX 37 [(.tmp 44),(.tmp 51)]⟩
abbrev yAe:VT:=(.br 11 ⟨some 53,none,.bsl 1 [(.tmp 52)]⟩ .done .nil)
abbrev yAf:VT:=(.br 10 yAd yAe .nil)
abbrev yAg:VT:=(.br 9 ⟨some 51,none,.load 1 false (.tmp 50)⟩ yAf .nil)
def zD9:VT:=(.h 0 ⟨some 42,none,.fa 1 (.tmp 9)⟩ (.h 2 ⟨some 44,none,.mv (.tmp 8)⟩ (.h 3 ⟨some 45,none,.fa 1 (.tmp 1)⟩ (.h 5 ⟨some 47,none,.mv (.tmp 11)⟩ (.h 6 ⟨some 48,none,.mv (.tmp 6)⟩ (.h 7 ⟨some 49,none,.bin .quo (.tmp 47) (.tmp 48)⟩ (.br 1 zN9 (.br 4 ⟨some 46,none,.load 1 false (.tmp 45)⟩ (.h 8 yAc yAg) .nil) (.br 4 ⟨some 46,none,.load 1 false (.tmp 45)⟩ (.h 8 yAc (.br 1 zN9 yAg (.br 9 ⟨some 51,none,.load 1 false (.tmp 50)⟩ (.br 1 zN9 yAf (.br 10 yAd (.br 1 zN9 yAe (.br 11 ⟨some 53,none,.bsl 1 [(.tmp 52)]⟩ (.br 1 zN9 .done .nil) .nil)) .nil)) .nil))) .nil))))))))
abbrev zN8:VO:=⟨some 60,none,.load 1 false (.tmp 59)⟩
abbrev zZ7:VO:=⟨some 65,none,.ia 1 (.tmp 63) (.tmp 64)⟩
abbrev zZ8:VO:=⟨some 67,none,.callX 37 [(.tmp 61),(.tmp 66)]⟩
abbrev zZ9:VT:=(.br 9 ⟨some 68,none,.bsl 1 [(.tmp 67)]⟩ .done .nil)
abbrev yAa:VT:=(.br 8 zZ8 zZ9 .nil)
abbrev yAb:VT:=(.br 7 ⟨some 66,none,.load 1 false (.tmp 65)⟩ yAa .nil)
def zC0:VT:=(.h 0 ⟨some 59,none,.fa 0 (.tmp 9)⟩ (.h 2 ⟨some 61,none,.mv (.tmp 7)⟩ (.h 3 ⟨some 62,none,.fa 0 (.tmp 1)⟩ (.h 5 ⟨some 64,none,.mv (.tmp 11)⟩ (.br 1 zN8 (.br 4 ⟨some 63,none,.load 1 false (.tmp 62)⟩ (.h 6 zZ7 yAb) .nil) (.br 4 ⟨some 63,none,.load 1 false (.tmp 62)⟩ (.h 6 zZ7 (.br 1 zN8 yAb (.br 7 ⟨some 66,none,.load 1 false (.tmp 65)⟩ (.br 1 zN8 yAa (.br 8 zZ8 (.br 1 zN8 zZ9 (.br 9 ⟨some 68,none,.bsl 1 [(.tmp 67)]⟩ (.br 1 zN8 .done .nil) .nil)) .nil)) .nil))) .nil))))))
abbrev zSd:VO:=⟨some 87,none,.load 1 false (.tmp 86)⟩
abbrev zW5:VO:=⟨some 84,none,.callX 37 [(.tmp 81),(.tmp 83)]⟩
abbrev zW6:VT:=(.br 3 zW5 .done .nil)
def zBj:VT:=(.h 0 ⟨some 81,none,.mv (.tmp 7)⟩ (.h 1 ⟨some 82,none,.fa 1 (.tmp 13)⟩ (.h 4 ⟨some 85,none,.mv (.tmp 8)⟩ (.h 5 ⟨some 86,none,.fa 2 (.tmp 13)⟩ (.br 2 ⟨some 83,none,.load 1 false (.tmp 82)⟩ (.br 3 zW5 (.br 6 zSd .done .nil) (.br 6 zSd zW6 .nil)) (.br 6 zSd (.br 2 ⟨some 83,none,.load 1 false (.tmp 82)⟩ zW6 .nil) .nil))))))
abbrev zE3:VO:=⟨some 97,none,.load 1 false (.tmp 96)⟩
abbrev zB7:VO:=⟨some 92,none,.load 1 false (.tmp 91)⟩
abbrev zBu:VO:=⟨some 90,none,.load 1 false (.tmp 89)⟩
abbrev zCr:VO:=⟨some 101,none,.load 1 false (.tmp 100)⟩
abbrev zE4:VO:=⟨some 98,none,.callX 37 [(.tmp 95),(.tmp 97)]⟩
abbrev zK6:VO:=⟨some 102,none,.callX 37 [(.tmp 99),(.tmp 101)]⟩
abbrev zT8:VT:=(.br 15 ⟨some 104,none,.bsl 5 [(.tmp 103)]⟩ .done .nil)
abbrev zT9:VO:=⟨some 103,none,.build [(.int .i64 0),(.int .i64 0),(.int .i64 0),(.int .i64 0),(.int .i64 0)] [(0,1,(.tmp 92)),(1,1,(.tmp 93)),(2,1,(.tmp 94)),(3,1,(.tmp 98)),(4,1,(.tmp 102))]⟩
abbrev zPw:VT:=(.br 14 zT9 zT8 .nil)
abbrev zUa:VT:=(.br 3 zB7 zPw .nil)
abbrev zK7:VT:=(.br 13 zK6 zPw .nil)
abbrev zPx:VT:=(.br 12 zCr zK7 .nil)
abbrev zK8:VT:=(.br 9 zE4 zK7 .nil)
abbrev zPy:VT:=(.br 8 zE3 zK8 .nil)
abbrev zUb:VT:=(.br 1 zBu zPw (.br 14 zT9 (.br 1 zBu zT8 (.br 15 ⟨some 104,none,.bsl 5 [(.tmp 103)]⟩ (.br 1 zBu .done .nil) .nil)) .nil))
abbrev zPz:VT:=(.br 3 zB7 zK7 (.br 13 zK6 zUa .nil))
abbrev zP0:VT:=(.br 9 zE4 zPx (.br 12 zCr zK8 .nil))
abbrev zP1:VT:=(.br 1 zBu zK7 (.br 13 zK6 zUb .nil))
abbrev zUc:VT:=(.br 3 zB7 zPx (.br 12 zCr zPz .nil))
abbrev zSb:VT:=(.br 3 zB7 zK8 (.br 9 zE4 zPz .nil))
abbrev zWx:VT:=(.br 8 zE3 zP0 (.br 12 zCr zPy .nil))
abbrev zWy:VT:=(.br 1 zBu zPx (.br 12 zCr zP1 .nil))
abbrev zSc:VT:=(.br 1 zBu zK8 (.br 9 zE4 zP1 .nil))
abbrev zWz:VT:=(.br 3 zB7 zPy (.br 8 zE3 zSb .nil))
abbrev zW0:VT:=(.br 1 zBu zPy (.br 8 zE3 zSc .nil))
abbrev zW1:VT:=(.br 1 zBu zPz (.br 3 zB7 zP1 (.br 13 zK6 (.br 1 zBu zUa (.br 3 zB7 zUb .nil)) .nil)))
abbrev zW2:VT:=(.br 3 zB7 zP0 (.br 9 zE4 zUc (.br 12 zCr zSb .nil)))
abbrev zW3:VT:=(.br 1 zBu zP0 (.br 9 zE4 zWy (.br 12 zCr zSc .nil)))
abbrev zW4:VT:=(.br 1 zBu zSb (.br 3 zB7 zSc (.br 9 zE4 zW1 .nil)))
def zCz:VT:=(.h 0 ⟨some 89,none,.fa 2 (.tmp 9)⟩ (.h 2 ⟨some 91,none,.fa 0 (.tmp 13)⟩ (.h 4 ⟨some 93,none,.mv (.tmp 14)⟩ (.h 5 ⟨some 94,none,.mv (.tmp 15)⟩ (.h 6 ⟨some 95,none,.mv (.tmp 7)⟩ (.h 7 ⟨some 96,none,.fa 3 (.tmp 13)⟩ (.h 10 ⟨some 99,none,.mv (.tmp 8)⟩ (.h 11 ⟨some 100,none,.fa 4 (.tmp 13)⟩ (.br 1 zBu (.br 3 zB7 zWx (.br 8 zE3 zW2 (.br 12 zCr zWz .nil))) (.br 3 zB7 (.br 1 zBu zWx (.br 8 zE3 zW3 (.br 12 zCr zW0 .nil))) (.br 8 zE3 (.br 1 zBu zW2 (.br 3 zB7 zW3 (.br 9 zE4 (.br 1 zBu zUc (.br 3 zB7 zWy (.br 12 zCr zW1 .nil))) (.br 12 zCr zW4 .nil)))) (.br 12 zCr (.br 1 zBu zWz (.br 3 zB7 zW0 (.br 8 zE3 zW4 .nil))) .nil))))))))))))
def code_impl_CanonicalDesign:VCode:=(.seq (.ops [
  ⟨some 1,none,.box (.tmp 0)⟩,
  ⟨some 2,none,.alloc [(.slice none 0 0),(.slice none 0 0),(.slice none 0 0)]⟩,
  ⟨some 3,none,.asg (.const (.int .i64 0))⟩]) (.seq (.ops [
  ⟨some 17,none,.load 3 true (.tmp 1)⟩,
  ⟨some 18,none,.callX 36 [(.tmp 17)]⟩,
  ⟨some 16,none,.mv (.tmp 18)⟩,
  ⟨some 19,none,.ext (.tmp 16) 0⟩,
  ⟨some 20,none,.ext (.tmp 16) 1⟩,
  ⟨some 4,none,.asg (.tmp 19)⟩,
  ⟨some 5,none,.asg (.tmp 20)⟩]) (.seq (.seq (.ops [
  ⟨some 21,none,.mv (.tmp 5)⟩,
  ⟨some 22,none,.bin .neq (.tmp 21) (.const (.int .i64 0))⟩]) (.cond (.tmp 22) (.seq (.ops [
  ⟨some 23,none,.build [(.slice none 0 0),(.slice none 0 0),(.slice none 0 0)] []⟩,
  ⟨some 24,none,.mv (.tmp 5)⟩,
  ⟨none,none,.store 3 (.tmp 2) (.tmp 23)⟩,
  ⟨some 3,none,.asg (.tmp 24)⟩]) .ret) .skip)) (.seq (.ops [
  ⟨some 25,none,.fa 0 (.tmp 1)⟩,
  ⟨some 26,none,.load 1 false (.tmp 25)⟩,
  ⟨some 27,none,.len (.tmp 26)⟩,
  ⟨some 6,none,.asg (.tmp 27)⟩]) (.seq (.ops [
  ⟨some 28,none,.mkm (.int .i64)⟩,
  ⟨some 29,none,.mkm (.int .i64)⟩,
  ⟨some 7,none,.asg (.tmp 28)⟩,
  ⟨some 8,none,.asg (.tmp 29)⟩]) (.seq (.ops [
  ⟨some 9,none,.alloc [(.slice none 0 0),(.slice none 0 0),(.slice none 0 0)]⟩]) (.seq (.ops [
  ⟨some 30,none,.mkm (.int .i64)⟩,
  ⟨some 10,none,.asg (.tmp 30)⟩]) (.seq (.seq (.ops [
  ⟨some 31,none,.mv (.tmp 4)⟩,
  ⟨some 32,none,.len (.tmp 31)⟩,
  ⟨some 33,none,.mv (.const (.int .i64 0))⟩]) (.block 0 (.loop (mB 109 0x1ffffffffffffffffffc0ff0f829) (.seq (.ops [
  ⟨some 34,none,.bin .lss (.tmp 33) (.tmp 32)⟩]) (.seq (.cond (.tmp 34) .skip (.exit 0)) (.seq (.block 1 (.seq (.ops [
  ⟨some 35,none,.mv (.tmp 33)⟩,
  ⟨some 36,none,.ia 1 (.tmp 31) (.tmp 33)⟩,
  ⟨some 37,none,.load 1 false (.tmp 36)⟩,
  ⟨some 11,none,.asg (.tmp 35)⟩,
  ⟨some 12,none,.asg (.tmp 37)⟩]) (.seq (.seq (.ops [
  ⟨some 38,none,.mv (.tmp 11)⟩,
  ⟨some 39,none,.mv (.tmp 6)⟩,
  ⟨some 40,none,.bin .rem (.tmp 38) (.tmp 39)⟩,
  ⟨some 41,none,.bin .eql (.tmp 40) (.const (.int .i64 0))⟩]) (.cond (.tmp 41) (.drawT zD9 [⟨some 54,none,.app 1 8 (.tmp 43) (.tmp 53)⟩,⟨some 55,none,.fa 1 (.tmp 9)⟩,⟨none,none,.store 1 (.tmp 55) (.tmp 54)⟩]) .skip)) (.seq (.seq (.ops [
  ⟨some 56,none,.mv (.tmp 11)⟩,
  ⟨some 57,none,.mv (.tmp 6)⟩,
  ⟨some 58,none,.bin .lss (.tmp 56) (.tmp 57)⟩]) (.cond (.tmp 58) (.drawT zC0 [⟨some 69,none,.app 1 8 (.tmp 60) (.tmp 68)⟩,⟨some 70,none,.fa 0 (.tmp 9)⟩,⟨none,none,.store 1 (.tmp 70) (.tmp 69)⟩]) .skip)) (.seq (.seq (.ops [
  ⟨some 71,none,.mv (.tmp 10)⟩,
  ⟨some 72,none,.mv (.tmp 12)⟩,
  ⟨some 73,none,.mlk (.int .i64) (.bool false) false (.tmp 71) (.tmp 72)⟩]) (.cond (.tmp 73) (.exit 1) .skip)) (.seq (.ops [
  ⟨some 74,none,.mv (.tmp 10)⟩,
  ⟨some 75,none,.mv (.tmp 12)⟩,
  ⟨none,none,.mupd (.int .i64) (.tmp 74) (.tmp 75) (.const (.bool true))⟩]) (.seq (.ops [
  ⟨some 76,none,.fa 2 (.tmp 1)⟩,
  ⟨some 77,none,.load 1 false (.tmp 76)⟩,
  ⟨some 78,none,.mv (.tmp 12)⟩,
  ⟨some 79,none,.ia 5 (.tmp 77) (.tmp 78)⟩,
  ⟨some 80,none,.load 5 true (.tmp 79)⟩,
  ⟨some 13,none,.alloc [(.int .i64 0),(.int .i64 0),(.int .i64 0),(.int .i64 0),(.int .i64 0)]⟩,
  ⟨none,none,.store 5 (.tmp 13) (.tmp 80)⟩]) (.seq (.drawT zBj [⟨some 88,none,.callX 37 [(.tmp 85),(.tmp 87)]⟩,⟨some 14,none,.asg (.tmp 84)⟩,⟨some 15,none,.asg (.tmp 88)⟩]) (.drawT zCz [⟨some 105,none,.app 5 40 (.tmp 90) (.tmp 104)⟩,⟨some 106,none,.fa 2 (.tmp 9)⟩,⟨none,none,.store 1 (.tmp 106) (.tmp 105)⟩]))))))))) (.ops [
  ⟨some 107,none,.bin .add (.tmp 33) (.const (.int .i64 1))⟩,
  ⟨some 33,none,.mv (.tmp 107)⟩]))))))) (.seq (.ops [
  ⟨some 108,none,.load 3 true (.tmp 9)⟩,
  ⟨none,none,.store 3 (.tmp 2) (.tmp 108)⟩,
  ⟨some 3,none,.asg (.const (.int .i64 0))⟩]) .ret)))))))))
theorem zHu {a0 d:D}(h:code_impl_CanonicalDesign.wp (CT Try.prog NoG) (zHy [(.c 2 3 true),(.t 3)] d) [a0,.undef,.undef,.undef,.undef,.undef,.undef,.undef,.undef,.undef,.undef,.undef,.undef,.undef,.undef,.undef,.undef,.undef,.undef,.undef,.undef,.undef,.undef,.undef,.undef,.undef,.undef,.undef,.undef,.undef,.undef,.undef,.undef,.undef,.undef,.undef,.undef,.undef,.undef,.undef,.undef,.undef,.undef,.undef,.undef,.undef,.undef,.undef,.undef,.undef,.undef,.undef,.undef,.undef,.undef,.undef,.undef,.undef,.undef,.undef,.undef,.undef,.undef,.undef,.undef,.undef,.undef,.undef,.undef,.undef,.undef,.undef,.undef,.undef,.undef,.undef,.undef,.undef,.undef,.undef,.undef,.undef,.undef,.undef,.undef,.undef,.undef,.undef,.undef,.undef,.undef,.undef,.undef,.undef,.undef,.undef,.undef,.undef,.undef,.undef,.undef,.undef,.undef,.undef,.undef,.undef,.undef,.undef,.undef]):Contract Try.prog NoG 10 [a0] d :=
  zAo (pt:=1031647789056) noG Try.func10 (fun us W=>by kernel_rfl) (c:=Try.f10.body.getD .skip) (ms:=[(mB 109 0x1ffffffffffffffffffc0ff0f829)]) (ms':=[]) (by kernel_rfl) (by kernel_rfl) (by kernel_rfl) h
def code_spec_CanonicalDesign:VCode:=(.seq (.ops [
  ⟨some 1,none,.box (.tmp 0)⟩,
  ⟨some 2,none,.alloc [(.slice none 0 0),(.slice none 0 0),(.slice none 0 0)]⟩,
  ⟨some 3,none,.asg (.const (.int .i64 0))⟩]) (.seq (.ops [
  ⟨some 18,none,.load 3 true (.tmp 1)⟩,
  ⟨some 19,none,.callX 32 [(.tmp 18)]⟩,
  ⟨some 17,none,.mv (.tmp 19)⟩,
  ⟨some 20,none,.ext (.tmp 17) 0⟩,
  ⟨some 21,none,.ext (.tmp 17) 1⟩,
  ⟨some 4,none,.asg (.tmp 20)⟩,
  ⟨some 5,none,.asg (.tmp 21)⟩]) (.seq (.seq (.ops [
  ⟨some 22,none,.mv (.tmp 5)⟩,
  ⟨some 23,none,.bin .neq (.tmp 22) (.const (.int .i64 0))⟩]) (.cond (.tmp 23) (.seq (.ops [
  ⟨some 24,none,.build [(.slice none 0 0),(.slice none 0 0),(.slice none 0 0)] []⟩,
  ⟨some 25,none,.mv (.tmp 5)⟩,
  ⟨none,none,.store 3 (.tmp 2) (.tmp 24)⟩,
  ⟨some 3,none,.asg (.tmp 25)⟩]) .ret) .skip)) (.seq (.ops [
  ⟨some 26,none,.bsl 1 []⟩,
  ⟨some 6,none,.asg (.tmp 26)⟩]) (.seq (.ops [
  ⟨some 27,none,.bsl 1 []⟩,
  ⟨some 7,none,.asg (.tmp 27)⟩]) (.seq (.seq (.ops [
  ⟨some 8,none,.asg (.const (.int .i64 0))⟩]) (.block 0 (.loop (mB 137 0x1ffffffffffffffffffffffffc0f3e1fe29) (.seq (.seq (.ops [
  ⟨some 28,none,.mv (.tmp 8)⟩,
  ⟨some 29,none,.bin .leq (.tmp 28) (.const (.int .i64 119))⟩]) (.cond (.tmp 29) .skip (.exit 0))) (.seq (.block 1 (.seq (.ops [
  ⟨some 32,none,.mv (.tmp 6)⟩,
  ⟨some 33,none,.bsl 1 [(.const (.int .i64 (-1)))]⟩,
  ⟨some 34,none,.app 1 8 (.tmp 32) (.tmp 33)⟩,
  ⟨some 6,none,.asg (.tmp 34)⟩]) (.ops [
  ⟨some 35,none,.mv (.tmp 7)⟩,
  ⟨some 36,none,.bsl 1 [(.const (.int .i64 (-1)))]⟩,
  ⟨some 37,none,.app 1 8 (.tmp 35) (.tmp 36)⟩,
  ⟨some 7,none,.asg (.tmp 37)⟩]))) (.ops [
  ⟨some 30,none,.mv (.tmp 8)⟩,
  ⟨some 31,none,.bin .add (.tmp 30) (.const (.int .i64 1))⟩,
  ⟨some 8,none,.asg (.tmp 31)⟩])))))) (.seq (.ops [
  ⟨some 9,none,.alloc [(.int .i64 0)]⟩,
  ⟨none,none,.store 1 (.tmp 9) (.const (.int .i64 0))⟩]) (.seq (.ops [
  ⟨some 10,none,.alloc [(.int .i64 0)]⟩,
  ⟨none,none,.store 1 (.tmp 10) (.const (.int .i64 0))⟩]) (.seq (.ops [
  ⟨some 38,none,.build [(.slice none 0 0),(.slice none 0 0),(.slice none 0 0)] []⟩,
  ⟨some 11,none,.alloc [(.slice none 0 0),(.slice none 0 0),(.slice none 0 0)]⟩,
  ⟨none,none,.store 3 (.tmp 11) (.tmp 38)⟩]) (.seq (.ops [
  ⟨some 39,none,.fa 2 (.tmp 1)⟩,
  ⟨some 40,none,.load 1 false (.tmp 39)⟩,
  ⟨some 41,none,.len (.tmp 40)⟩,
  ⟨some 42,none,.mks 1 1 [(.bool false)] (.tmp 41) (.tmp 41)⟩,
  ⟨some 12,none,.asg (.tmp 42)⟩]) (.seq (.ops [
  ⟨some 43,none,.fa 0 (.tmp 1)⟩,
  ⟨some 44,none,.load 1 false (.tmp 43)⟩,
  ⟨some 45,none,.len (.tmp 44)⟩,
  ⟨some 13,none,.asg (.tmp 45)⟩]) (.seq (.seq (.ops [
  ⟨some 14,none,.asg (.const (.int .i64 0))⟩]) (.block 2 (.loop (mB 137 0x1fffffffffffffffffffffffbc0f3e18129) (.seq (.seq (.ops [
  ⟨some 46,none,.mv (.tmp 14)⟩,
  ⟨some 47,none,.mv (.tmp 4)⟩,
  ⟨some 48,none,.len (.tmp 47)⟩,
  ⟨some 49,none,.bin .lss (.tmp 46) (.tmp 48)⟩]) (.cond (.tmp 49) .skip (.exit 2))) (.seq (.block 3 (.seq (.seq (.ops [
  ⟨some 52,none,.mv (.tmp 14)⟩,
  ⟨some 53,none,.mv (.tmp 13)⟩,
  ⟨some 54,none,.bin .rem (.tmp 52) (.tmp 53)⟩,
  ⟨some 55,none,.bin .eql (.tmp 54) (.const (.int .i64 0))⟩]) (.cond (.tmp 55) (.drawT (.h 0 ⟨some 56,none,.fa 1 (.tmp 11)⟩ (.h 2 ⟨some 58,none,.mv (.tmp 7)⟩ (.h 3 ⟨some 59,none,.fa 1 (.tmp 1)⟩ (.h 5 ⟨some 61,none,.mv (.tmp 14)⟩ (.h 6 ⟨some 62,none,.mv (.tmp 13)⟩ (.h 7 ⟨some 63,none,.bin .quo (.tmp 61) (.tmp 62)⟩ (.br 1 ⟨some 57,none,.load 1 false (.tmp 56)⟩ (.br 4 ⟨some 60,none,.load 1 false (.tmp 59)⟩ (.h 8 ⟨some 64,none,.ia 1 (.tmp 60) (.tmp 63)⟩ (.br 9 ⟨some 65,none,.load 1 false (.tmp 64)⟩ (.br 10 ⟨some 66,none,.callX 33 [(.tmp 58),(.tmp 65),(.tmp 10)]⟩ (.br 11 ⟨some 67,none,.bsl 1 [(.tmp 66)]⟩ .done .nil) .nil) .nil)) .nil) (.br 4 ⟨some 60,none,.load 1 false (.tmp 59)⟩ (.h 8 ⟨some 64,none,.ia 1 (.tmp 60) (.tmp 63)⟩ (.br 1 ⟨some 57,none,.load 1 false (.tmp 56)⟩ (.br 9 ⟨some 65,none,.load 1 false (.tmp 64)⟩ (.br 10 ⟨some 66,none,.callX 33 [(.tmp 58),(.tmp 65),(.tmp 10)]⟩ (.br 11 ⟨some 67,none,.bsl 1 [(.tmp 66)]⟩ .done .nil) .nil) .nil) (.br 9 ⟨some 65,none,.load 1 false (.tmp 64)⟩ (.br 1 ⟨some 57,none,.load 1 false (.tmp 56)⟩ (.br 10 ⟨some 66,none,.callX 33 [(.tmp 58),(.tmp 65),(.tmp 10)]⟩ (.br 11 ⟨some 67,none,.bsl 1 [(.tmp 66)]⟩ .done .nil) .nil) (.br 10 ⟨some 66,none,.callX 33 [(.tmp 58),(.tmp 65),(.tmp 10)]⟩ (.br 1 ⟨some 57,none,.load 1 false (.tmp 56)⟩ (.br 11 ⟨some 67,none,.bsl 1 [(.tmp 66)]⟩ .done .nil) (.br 11 ⟨some 67,none,.bsl 1 [(.tmp 66)]⟩ (.br 1 ⟨some 57,none,.load 1 false (.tmp 56)⟩ .done .nil) .nil)) .nil)) .nil))) .nil)))))))) [⟨some 68,none,.app 1 8 (.tmp 57) (.tmp 67)⟩,⟨some 69,none,.fa 1 (.tmp 11)⟩,⟨none,none,.store 1 (.tmp 69) (.tmp 68)⟩]) .skip)) (.seq (.seq (.ops [
  ⟨some 70,none,.mv (.tmp 14)⟩,
  ⟨some 71,none,.mv (.tmp 13)⟩,
  ⟨some 72,none,.bin .lss (.tmp 70) (.tmp 71)⟩]) (.cond (.tmp 72) (.drawT (.h 0 ⟨some 73,none,.fa 0 (.tmp 11)⟩ (.h 2 ⟨some 75,none,.mv (.tmp 6)⟩ (.h 3 ⟨some 76,none,.fa 0 (.tmp 1)⟩ (.h 5 ⟨some 78,none,.mv (.tmp 14)⟩ (.br 1 ⟨some 74,none,.load 1 false (.tmp 73)⟩ (.br 4 ⟨some 77,none,.load 1 false (.tmp 76)⟩ (.h 6 ⟨some 79,none,.ia 1 (.tmp 77) (.tmp 78)⟩ (.br 7 ⟨some 80,none,.load 1 false (.tmp 79)⟩ (.br 8 ⟨some 81,none,.callX 33 [(.tmp 75),(.tmp 80),(.tmp 9)]⟩ (.br 9 ⟨some 82,none,.bsl 1 [(.tmp 81)]⟩ .done .nil) .nil) .nil)) .nil) (.br 4 ⟨some 77,none,.load 1 false (.tmp 76)⟩ (.h 6 ⟨some 79,none,.ia 1 (.tmp 77) (.tmp 78)⟩ (.br 1 ⟨some 74,none,.load 1 false (.tmp 73)⟩ (.br 7 ⟨some 80,none,.load 1 false (.tmp 79)⟩ (.br 8 ⟨some 81,none,.callX 33 [(.tmp 75),(.tmp 80),(.tmp 9)]⟩ (.br 9 ⟨some 82,none,.bsl 1 [(.tmp 81)]⟩ .done .nil) .nil) .nil) (.br 7 ⟨some 80,none,.load 1 false (.tmp 79)⟩ (.br 1 ⟨some 74,none,.load 1 false (.tmp 73)⟩ (.br 8 ⟨some 81,none,.callX 33 [(.tmp 75),(.tmp 80),(.tmp 9)]⟩ (.br 9 ⟨some 82,none,.bsl 1 [(.tmp 81)]⟩ .done .nil) .nil) (.br 8 ⟨some 81,none,.callX 33 [(.tmp 75),(.tmp 80),(.tmp 9)]⟩ (.br 1 ⟨some 74,none,.load 1 false (.tmp 73)⟩ (.br 9 ⟨some 82,none,.bsl 1 [(.tmp 81)]⟩ .done .nil) (.br 9 ⟨some 82,none,.bsl 1 [(.tmp 81)]⟩ (.br 1 ⟨some 74,none,.load 1 false (.tmp 73)⟩ .done .nil) .nil)) .nil)) .nil))) .nil)))))) [⟨some 83,none,.app 1 8 (.tmp 74) (.tmp 82)⟩,⟨some 84,none,.fa 0 (.tmp 11)⟩,⟨none,none,.store 1 (.tmp 84) (.tmp 83)⟩]) .skip)) (.seq (.draw (mB 93 0x1fe000000000000000008000) [] [⟨0,mB 93 0x1fe000000000000000008000,[],⟨some 85,none,.fa 2 (.tmp 1)⟩⟩,⟨1,mB 93 0x1fc000000000000000008000,[],⟨some 86,none,.load 1 false (.tmp 85)⟩⟩,⟨2,mB 93 0x1fe000000000000000008000,[],⟨some 87,none,.mv (.tmp 4)⟩⟩,⟨3,mB 93 0x1fe000000000000000008000,[],⟨some 88,none,.mv (.tmp 14)⟩⟩,⟨4,mB 93 0x1e6000000000000000008000,[],⟨some 89,none,.ia 1 (.tmp 87) (.tmp 88)⟩⟩,⟨5,mB 93 0x1c6000000000000000008000,[],⟨some 90,none,.load 1 false (.tmp 89)⟩⟩,⟨6,mB 93 0x180000000000000000008000,[],⟨some 91,none,.ia 5 (.tmp 86) (.tmp 90)⟩⟩,⟨7,mB 93 0x100000000000000000008000,[],⟨some 92,none,.load 5 true (.tmp 91)⟩⟩,⟨8,mB 93 0x1fe000000000000000008000,[],⟨some 15,none,.alloc [(.int .i64 0),(.int .i64 0),(.int .i64 0),(.int .i64 0),(.int .i64 0)]⟩⟩] [⟨none,none,.store 5 (.tmp 15) (.tmp 92)⟩]) (.seq (.ops [
  ⟨some 93,none,.mv (.tmp 12)⟩,
  ⟨some 94,none,.mv (.tmp 4)⟩,
  ⟨some 95,none,.mv (.tmp 14)⟩,
  ⟨some 96,none,.ia 1 (.tmp 94) (.tmp 95)⟩,
  ⟨some 97,none,.load 1 false (.tmp 96)⟩,
  ⟨some 98,none,.ia 1 (.tmp 93) (.tmp 97)⟩,
  ⟨some 99,none,.load 1 false (.tmp 98)⟩,
  ⟨some 100,none,.un .not (.tmp 99)⟩]) (.cond (.tmp 100) (.seq (.ops [
  ⟨some 101,none,.mv (.tmp 12)⟩,
  ⟨some 102,none,.mv (.tmp 4)⟩,
  ⟨some 103,none,.mv (.tmp 14)⟩,
  ⟨some 104,none,.ia 1 (.tmp 102) (.tmp 103)⟩,
  ⟨some 105,none,.load 1 false (.tmp 104)⟩,
  ⟨some 106,none,.ia 1 (.tmp 101) (.tmp 105)⟩,
  ⟨none,none,.store 1 (.tmp 106) (.const (.bool true))⟩]) (.seq (.draw (mB 120 0xfff800000000000000000000010000) (mB 119 0x421000000000000000000000000000) [⟨0,mB 120 0xfff800000000000000000000010000,[],⟨some 107,none,.fa 0 (.tmp 15)⟩⟩,⟨1,mB 120 0xfff000000000000000000000010000,[],⟨some 108,none,.load 1 false (.tmp 107)⟩⟩,⟨2,mB 120 0xfff800000000000000000000010000,[],⟨some 109,none,.mv (.tmp 6)⟩⟩,⟨3,mB 120 0xfff800000000000000000000010000,[],⟨some 110,none,.fa 3 (.tmp 15)⟩⟩,⟨4,mB 120 0xffb800000000000000000000010000,[],⟨some 111,none,.load 1 false (.tmp 110)⟩⟩,⟨5,mB 120 0xff1800000000000000000000010000,[],⟨some 112,none,.ia 1 (.tmp 109) (.tmp 111)⟩⟩,⟨6,mB 120 0xfe1800000000000000000000010000,[],⟨some 113,none,.load 1 false (.tmp 112)⟩⟩,⟨7,mB 120 0xfff800000000000000000000010000,[],⟨some 114,none,.mv (.tmp 7)⟩⟩,⟨8,mB 120 0xfff800000000000000000000010000,[],⟨some 115,none,.fa 4 (.tmp 15)⟩⟩,⟨9,mB 120 0xf7f800000000000000000000010000,[],⟨some 116,none,.load 1 false (.tmp 115)⟩⟩,⟨10,mB 120 0xe3f800000000000000000000010000,[],⟨some 117,none,.ia 1 (.tmp 114) (.tmp 116)⟩⟩,⟨11,mB 120 0xc3f800000000000000000000010000,[],⟨some 118,none,.load 1 false (.tmp 117)⟩⟩,⟨12,mB 120 0x800000000000000000000000010000,(mB 119 0x421000000000000000000000000000),⟨some 119,none,.build [(.int .i64 0),(.int .i64 0),(.int .i64 0),(.int .i64 0),(.int .i64 0)] [(0,1,(.tmp 108)),(3,1,(.tmp 113)),(4,1,(.tmp 118))]⟩⟩,⟨13,mB 120 0xfff800000000000000000000010000,[],⟨some 16,none,.alloc [(.int .i64 0),(.int .i64 0),(.int .i64 0),(.int .i64 0),(.int .i64 0)]⟩⟩] [⟨none,none,.store 5 (.tmp 16) (.tmp 119)⟩]) (.seq (.ops [
  ⟨some 120,none,.mv (.tmp 6)⟩,
  ⟨some 121,none,.fa 1 (.tmp 15)⟩,
  ⟨some 122,none,.load 1 false (.tmp 121)⟩,
  ⟨some 123,none,.callX 33 [(.tmp 120),(.tmp 122),(.tmp 9)]⟩,
  ⟨some 124,none,.fa 1 (.tmp 16)⟩,
  ⟨none,none,.store 1 (.tmp 124) (.tmp 123)⟩]) (.seq (.ops [
  ⟨some 125,none,.mv (.tmp 7)⟩,
  ⟨some 126,none,.fa 2 (.tmp 15)⟩,
  ⟨some 127,none,.load 1 false (.tmp 126)⟩,
  ⟨some 128,none,.callX 33 [(.tmp 125),(.tmp 127),(.tmp 10)]⟩,
  ⟨some 129,none,.fa 2 (.tmp 16)⟩,
  ⟨none,none,.store 1 (.tmp 129) (.tmp 128)⟩]) (.ops [
  ⟨some 130,none,.fa 2 (.tmp 11)⟩,
  ⟨some 131,none,.load 1 false (.tmp 130)⟩,
  ⟨some 132,none,.load 5 true (.tmp 16)⟩,
  ⟨some 133,none,.bsl 5 [(.tmp 132)]⟩,
  ⟨some 134,none,.app 5 40 (.tmp 131) (.tmp 133)⟩,
  ⟨some 135,none,.fa 2 (.tmp 11)⟩,
  ⟨none,none,.store 1 (.tmp 135) (.tmp 134)⟩]))))) .skip)))))) (.ops [
  ⟨some 50,none,.mv (.tmp 14)⟩,
  ⟨some 51,none,.bin .add (.tmp 50) (.const (.int .i64 1))⟩,
  ⟨some 14,none,.asg (.tmp 51)⟩])))))) (.seq (.ops [
  ⟨some 136,none,.load 3 true (.tmp 11)⟩,
  ⟨none,none,.store 3 (.tmp 2) (.tmp 136)⟩,
  ⟨some 3,none,.asg (.const (.int .i64 0))⟩]) .ret)))))))))))))
theorem zHt {a0 d:D}(h:code_spec_CanonicalDesign.wp (CT Try.prog NoG) (zHy [(.c 2 3 true),(.t 3)] d) [a0,.undef,.undef,.undef,.undef,.undef,.undef,.undef,.undef,.undef,.undef,.undef,.undef,.undef,.undef,.undef,.undef,.undef,.undef,.undef,.undef,.undef,.undef,.undef,.undef,.undef,.undef,.undef,.undef,.undef,.undef,.undef,.undef,.undef,.undef,.undef,.undef,.undef,.undef,.undef,.undef,.undef,.undef,.undef,.undef,.undef,.undef,.undef,.undef,.undef,.undef,.undef,.undef,.undef,.undef,.undef,.undef,.undef,.undef,.undef,.undef,.undef,.undef,.undef,.undef,.undef,.undef,.undef,.undef,.undef,.undef,.undef,.undef,.undef,.undef,.undef,.undef,.undef,.undef,.undef,.undef,.undef,.undef,.undef,.undef,.undef,.undef,.undef,.undef,.undef,.undef,.undef,.undef,.undef,.undef,.undef,.undef,.undef,.undef,.undef,.undef,.undef,.undef,.undef,.undef,.undef,.undef,.undef,.undef,.undef,.undef,.undef,.undef,.undef,.undef,.undef,.undef,.undef,.undef,.undef,.undef,.undef,.undef,.undef,.undef,.undef,.undef,.undef,.undef,.undef,.undef,.undef,.undef,.undef,.undef,.undef,.undef]):Contract Try.prog NoG 8 [a0] d :=
  zAo (pt:=56075093016576) noG Try.func8 (fun us W=>by kernel_rfl) (c:=Try.f8.body.getD .skip) (ms:=[(mB 137 0x1ffffffffffffffffffffffffc0f3e1fe29),(mB 137 0x1fffffffffffffffffffffffbc0f3e18129)]) (ms':=[]) (by kernel_rfl) (by kernel_rfl) (by kernel_rfl) h
theorem yIc {C:CtrT}{s:List D}{f:FuncId}{l:List Operand}{K:D→List D→Prop}(h:zAh C s (.callX f l) K):zAh C s (.callX f l) K:=h
structure Src where
  code:List Int
  pos:Nat
  seed:Int
def Src.d (s:Src):List D:=[.sl false 1 (s.code.map rB8),.v (.int .i64 (s.pos:Nat)),.v (.int .u64 s.seed)]
def yKf (s:Src):Int:=if s.pos<s.code.length then IntKind.i64.wrap (s.code.getD s.pos 0) else 0
def zLw (s:Src):Int:=IntKind.u64.wrap (IntKind.u64.wrap (IntKind.u64.wrap (s.seed*6364136223846793005)+IntKind.u64.wrap (yKf s))+1442695040888963407)
def yUv (x:Int):Int:=IntKind.i64.wrap (IntKind.u64.wrap ((BitVec.ofInt IntKind.u64.bits (x.fdiv (2 ^ min (Int.toNat 40) IntKind.u64.bits)) &&& BitVec.ofInt IntKind.u64.bits 255).toNat))
def zUd (s:Src):Int:=if s.pos<s.code.length then yKf s else yUv (zLw s)
def zWo (s:Src):Src:=⟨s.code,s.pos+1,zLw s⟩
structure SrcB (k:Nat) (s:Src):Prop where
  code:∀ x,x∈s.code→0≤x∧x≤255
  len:s.code.length≤1048576
  pos:s.pos+k≤4611686018427387904
theorem SrcB.mono {k l:Nat}{s:Src}(h:SrcB k s)(hl:l≤k):SrcB l s:=⟨h.code,h.len,by have:=h.pos;omega⟩
theorem SrcB.next {k:Nat}{s:Src}(h:SrcB (k+1) s):SrcB k (zWo s):=⟨h.code,h.len,by have:=h.pos;simp only [zWo];omega⟩
theorem yPx {k:Nat}{s:Src}(h:SrcB k s):0≤yKf s∧yKf s≤255:=by
  unfold yKf;split
  · rename_i hl;have:=h.code (s.code.getD s.pos 0) (by rw [xA3,xA1 hl];exact xB3 hl);rw [wrI qAc qAc];exact this
  · omega
theorem yRw (x:Int):0≤yUv x∧yUv x≤255:=by
  unfold yUv;have h1:(BitVec.ofInt IntKind.u64.bits (x.fdiv (2 ^ min (Int.toNat 40) IntKind.u64.bits)) &&& BitVec.ofInt IntKind.u64.bits 255).toNat≤255:=by rw [BitVec.toNat_and];exact Nat.and_le_right
  generalize (BitVec.ofInt IntKind.u64.bits (x.fdiv (2 ^ min (Int.toNat 40) IntKind.u64.bits)) &&& BitVec.ofInt IntKind.u64.bits 255).toNat=n at h1;have h2:IntKind.u64.wrap (n:Int)=(n:Int):=by simp only [IntKind.wrap,IntKind.bits,IntKind.signed];simp;omega
  rw [h2,wrI qAc qAc];omega
theorem zVn {k:Nat}{s:Src}(h:SrcB k s):0≤zUd s∧zUd s≤255:=by
  unfold zUd;split
  · exact yPx h
  · exact yRw _
def code_spec_l00Src_next:VCode:=(.seq (.ops [
  ⟨some 2,none,.asg (.const (.int .i64 0))⟩]) (.seq (.ops [
  ⟨some 3,none,.asg (.const (.int .i64 0))⟩]) (.seq (.seq (.draw (mB 13 8176) [] [⟨0,mB 13 8176,[],⟨some 4,none,.mv (.tmp 0)⟩⟩,⟨1,mB 13 8160,[],⟨some 5,none,.nilc (.tmp 4)⟩⟩,⟨2,mB 13 8128,[],⟨some 6,none,.fa 1 (.tmp 5)⟩⟩,⟨3,mB 13 8064,[],⟨some 7,none,.load 1 false (.tmp 6)⟩⟩,⟨4,mB 13 8176,[],⟨some 8,none,.mv (.tmp 0)⟩⟩,⟨5,mB 13 7920,[],⟨some 9,none,.nilc (.tmp 8)⟩⟩,⟨6,mB 13 7408,[],⟨some 10,none,.fa 0 (.tmp 9)⟩⟩,⟨7,mB 13 6384,[],⟨some 11,none,.load 1 false (.tmp 10)⟩⟩,⟨8,mB 13 4336,[],⟨some 12,none,.len (.tmp 11)⟩⟩] [⟨some 13,none,.bin .lss (.tmp 7) (.tmp 12)⟩]) (.cond (.tmp 13) (.draw (mB 22 4177920) [] [⟨0,mB 22 4177920,[],⟨some 14,none,.mv (.tmp 0)⟩⟩,⟨1,mB 22 4161536,[],⟨some 15,none,.nilc (.tmp 14)⟩⟩,⟨2,mB 22 4128768,[],⟨some 16,none,.fa 0 (.tmp 15)⟩⟩,⟨3,mB 22 4063232,[],⟨some 17,none,.load 1 false (.tmp 16)⟩⟩,⟨4,mB 22 4177920,[],⟨some 18,none,.mv (.tmp 0)⟩⟩,⟨5,mB 22 3915776,[],⟨some 19,none,.nilc (.tmp 18)⟩⟩,⟨6,mB 22 3391488,[],⟨some 20,none,.fa 1 (.tmp 19)⟩⟩,⟨7,mB 22 2342912,[],⟨some 21,none,.load 1 false (.tmp 20)⟩⟩] [⟨some 22,none,.ia 1 (.tmp 17) (.tmp 21)⟩,⟨some 23,none,.load 1 false (.tmp 22)⟩,⟨some 24,none,.conv .i64 (.tmp 23)⟩,⟨some 3,none,.asg (.tmp 24)⟩]) .skip)) (.seq (.ops [
  ⟨some 25,none,.mv (.tmp 0)⟩,
  ⟨some 26,none,.nilc (.tmp 25)⟩,
  ⟨some 27,none,.fa 1 (.tmp 26)⟩,
  ⟨some 28,none,.load 1 false (.tmp 27)⟩,
  ⟨some 29,none,.bin .add (.tmp 28) (.const (.int .i64 1))⟩,
  ⟨some 30,none,.nilc (.tmp 25)⟩,
  ⟨some 31,none,.fa 1 (.tmp 30)⟩,
  ⟨none,none,.store 1 (.tmp 31) (.tmp 29)⟩]) (.seq (.ops [
  ⟨some 32,none,.mv (.tmp 0)⟩,
  ⟨some 33,none,.mv (.tmp 0)⟩,
  ⟨some 34,none,.nilc (.tmp 33)⟩,
  ⟨some 35,none,.fa 2 (.tmp 34)⟩,
  ⟨some 36,none,.load 1 false (.tmp 35)⟩,
  ⟨some 37,none,.bin .mul (.tmp 36) (.const (.int .u64 6364136223846793005))⟩,
  ⟨some 38,none,.mv (.tmp 3)⟩,
  ⟨some 39,none,.conv .u64 (.tmp 38)⟩,
  ⟨some 40,none,.bin .add (.tmp 37) (.tmp 39)⟩,
  ⟨some 41,none,.bin .add (.tmp 40) (.const (.int .u64 1442695040888963407))⟩,
  ⟨some 42,none,.nilc (.tmp 32)⟩,
  ⟨some 43,none,.fa 2 (.tmp 42)⟩,
  ⟨none,none,.store 1 (.tmp 43) (.tmp 41)⟩]) (.seq (.seq (.draw (mB 53 0x1ff00000000000) [] [⟨0,mB 53 0x1ff00000000000,[],⟨some 44,none,.mv (.tmp 0)⟩⟩,⟨1,mB 53 0x1fe00000000000,[],⟨some 45,none,.nilc (.tmp 44)⟩⟩,⟨2,mB 53 0x1fc00000000000,[],⟨some 46,none,.fa 1 (.tmp 45)⟩⟩,⟨3,mB 53 0x1f800000000000,[],⟨some 47,none,.load 1 false (.tmp 46)⟩⟩,⟨4,mB 53 0x1ff00000000000,[],⟨some 48,none,.mv (.tmp 0)⟩⟩,⟨5,mB 53 0x1ef00000000000,[],⟨some 49,none,.nilc (.tmp 48)⟩⟩,⟨6,mB 53 0x1cf00000000000,[],⟨some 50,none,.fa 0 (.tmp 49)⟩⟩,⟨7,mB 53 0x18f00000000000,[],⟨some 51,none,.load 1 false (.tmp 50)⟩⟩,⟨8,mB 53 0x10f00000000000,[],⟨some 52,none,.len (.tmp 51)⟩⟩] [⟨some 53,none,.bin .leq (.tmp 47) (.tmp 52)⟩]) (.cond (.tmp 53) (.seq (.ops [
  ⟨some 54,none,.mv (.tmp 3)⟩,
  ⟨some 2,none,.asg (.tmp 54)⟩]) .ret) .skip)) (.seq (.ops [
  ⟨some 55,none,.mv (.tmp 0)⟩,
  ⟨some 56,none,.nilc (.tmp 55)⟩,
  ⟨some 57,none,.fa 2 (.tmp 56)⟩,
  ⟨some 58,none,.load 1 false (.tmp 57)⟩,
  ⟨some 59,none,.bin .shr (.tmp 58) (.const (.int .u64 40))⟩,
  ⟨some 60,none,.bin .and (.tmp 59) (.const (.int .u64 255))⟩,
  ⟨some 61,none,.conv .i64 (.tmp 60)⟩,
  ⟨some 2,none,.asg (.tmp 61)⟩]) .ret)))))))
theorem zLo {a0 d:D}{cells cells':List D}(h:∀ b,code_spec_l00Src_next.wp (CT Try.prog NoG) (yOu [(.t 2)] d 0 b cells') [.box (some b) cells,.undef,.undef,.undef,.undef,.undef,.undef,.undef,.undef,.undef,.undef,.undef,.undef,.undef,.undef,.undef,.undef,.undef,.undef,.undef,.undef,.undef,.undef,.undef,.undef,.undef,.undef,.undef,.undef,.undef,.undef,.undef,.undef,.undef,.undef,.undef,.undef,.undef,.undef,.undef,.undef,.undef,.undef,.undef,.undef,.undef,.undef,.undef,.undef,.undef,.undef,.undef,.undef,.undef,.undef,.undef,.undef,.undef,.undef,.undef,.undef,.undef]):ContractX Try.prog NoG 76 0 [a0] cells d cells' :=
  zE7 (pt:=0) noG Try.func76 (fun us W=>by kernel_rfl) (c:=Try.f76.body.getD .skip) (ms:=[]) (ms':=[]) (by kernel_rfl) (by kernel_rfl) (by kernel_rfl) qAh h
def code_spec_l00From:VCode:=(.seq (.ops [
  ⟨some 2,none,.asg (.const (.pointer none))⟩]) (.seq (.ops [
  ⟨some 3,none,.mv (.tmp 0)⟩,
  ⟨some 4,none,.build [(.slice none 0 0),(.int .i64 0),(.int .u64 0)] [(0,1,(.tmp 3))]⟩,
  ⟨some 5,none,.box (.tmp 4)⟩,
  ⟨some 2,none,.asg (.tmp 5)⟩]) .ret))
theorem zQ7 {a0 d:D}(h:code_spec_l00From.wp (CT Try.prog NoG) (zHy [(.t 2)] d) [a0,.undef,.undef,.undef,.undef,.undef]):Contract Try.prog NoG 50 [a0] d :=
  zAo (pt:=0) noG Try.func50 (fun us W=>by kernel_rfl) (c:=Try.f50.body.getD .skip) (ms:=[]) (ms':=[]) (by kernel_rfl) (by kernel_rfl) (by kernel_rfl) h
set_option maxHeartbeats 1000000 in
theorem yEv (s:Src)(hs:SrcB 1 s):ContractX Try.prog NoG 76 0 [.undef] s.d (.v (.int .i64 (zUd s))) (zWo s).d:=by
  refine zLo ?_;intro b;unfold code_spec_l00Src_next Src.d;have hp:=hs.pos;have hl:=hs.len;have w1:IntKind.i64.wrap ((s.pos:Int)+1)=((s.pos+1:Nat):Int):=by rw [wrI qAc qAc];omega
  by_cases h:s.pos<s.code.length
  · have d1:decide ((s.pos:Int)<(s.code.length:Int))=true:=(by rw [decide_eq_true_eq];omega);have d2:decide (((s.pos+1:Nat):Int)≤(s.code.length:Int))=true:=(by rw [decide_eq_true_eq];omega);have e1:=xA1 h;have hb:yKf s=IntKind.i64.wrap s.code[s.pos]:=(by unfold yKf;rw [if_pos h,xA3,e1];rfl);have hv:zUd s=IntKind.i64.wrap s.code[s.pos]:=(by unfold zUd;rw [if_pos h,hb]);have hn:zWo s=⟨s.code,s.pos+1,IntKind.u64.wrap (IntKind.u64.wrap (IntKind.u64.wrap (s.seed*6364136223846793005)+IntKind.u64.wrap (IntKind.i64.wrap s.code[s.pos]))+1442695040888963407)⟩:=(by unfold zWo zLw;rw [hb]);rw [hv,hn];simp -implicitDefEqProofs (disch:=omega) only [go_sem,↓reduceIte ,xAw,d1,xAw,xAz,xA7,xA0,xAy,xAx,h,e1,w1,d2]
  · have d1:decide ((s.pos:Int)<(s.code.length:Int))=false:=qBu;have d2:decide (((s.pos+1:Nat):Int)≤(s.code.length:Int))=false:=qBu;have hb:yKf s=0:=(by unfold yKf;rw [if_neg h]);have hv:zUd s=yUv (zLw s):=(by unfold zUd;rw [if_neg h]);have hn:zWo s=⟨s.code,s.pos+1,IntKind.u64.wrap (IntKind.u64.wrap (IntKind.u64.wrap (s.seed*6364136223846793005)+IntKind.u64.wrap 0)+1442695040888963407)⟩:=(by unfold zWo zLw;rw [hb]);have hq:zLw s=IntKind.u64.wrap (IntKind.u64.wrap (IntKind.u64.wrap (s.seed*6364136223846793005)+IntKind.u64.wrap 0)+1442695040888963407):=(by unfold zLw;rw [hb]);rw [hv,hn,hq];unfold yUv;simp -implicitDefEqProofs (disch:=omega) only [go_sem,↓reduceIte ,xAw,d1,w1,d2];omega
theorem yEz (code:List Int):Contract Try.prog NoG 50 [.sl false 1 (code.map rB8)] (.box none (Src.d ⟨code,0,0⟩)):=by refine zQ7 ?_;unfold code_spec_l00From Src.d;simp -implicitDefEqProofs (disch:=omega) only [go_sem,↓reduceIte];rfl
def zCu (s:Src)(n:Int):Int:=if n≤1 then 0 else if 200<n then (zUd s*256+zUd (zWo s)).tmod n else (zUd s).tmod n
def zCc (s:Src)(n:Int):Src:=if n≤1 then s else if 200<n then zWo (zWo s) else zWo s
theorem SrcB.pick {k:Nat}{s:Src}(h:SrcB (k+2) s)(n:Int):SrcB k (zCc s n):=by
  unfold zCc;split
  · exact h.mono qAc
  · split
    · exact h.next.next
    · exact h.next.mono qAc
theorem zHa {k:Nat}{s:Src}(h:SrcB (k+2) s){n:Int}(hn:1≤n):0≤zCu s n∧zCu s n<n:=by
  have h1:=zVn h;have h2:=zVn h.next;have key:∀ x:Int,0≤x→0≤x.tmod n∧x.tmod n<n:=fun x hx=>by rw [xF3 hx];exact ⟨Int.emod_nonneg _ qAc,Int.emod_lt_of_pos _ qAc⟩
  unfold zCu;split
  · omega
  · split
    · exact key _ qAc
    · exact key _ h1.1
def code_spec_l00Src_pick:VCode:=(.seq (.ops [
  ⟨some 4,none,.asg (.const (.int .i64 0))⟩]) (.seq (.seq (.ops [
  ⟨some 6,none,.mv (.tmp 1)⟩,
  ⟨some 7,none,.bin .leq (.tmp 6) (.const (.int .i64 1))⟩]) (.cond (.tmp 7) (.seq (.ops [
  ⟨some 4,none,.asg (.const (.int .i64 0))⟩]) .ret) .skip)) (.seq (.ops [
  ⟨some 8,none,.mv (.tmp 0)⟩,
  ⟨some 9,none,.callX 76 [(.tmp 8)]⟩,
  ⟨some 5,none,.asg (.tmp 9)⟩]) (.seq (.seq (.ops [
  ⟨some 10,none,.mv (.tmp 1)⟩,
  ⟨some 11,none,.bin .gtr (.tmp 10) (.const (.int .i64 200))⟩]) (.cond (.tmp 11) (.ops [
  ⟨some 12,none,.mv (.tmp 5)⟩,
  ⟨some 13,none,.bin .mul (.tmp 12) (.const (.int .i64 256))⟩,
  ⟨some 14,none,.mv (.tmp 0)⟩,
  ⟨some 15,none,.callX 76 [(.tmp 14)]⟩,
  ⟨some 16,none,.bin .add (.tmp 13) (.tmp 15)⟩,
  ⟨some 5,none,.asg (.tmp 16)⟩]) .skip)) (.seq (.ops [
  ⟨some 17,none,.mv (.tmp 5)⟩,
  ⟨some 18,none,.mv (.tmp 1)⟩,
  ⟨some 19,none,.bin .rem (.tmp 17) (.tmp 18)⟩,
  ⟨some 4,none,.asg (.tmp 19)⟩]) .ret)))))
theorem zLn {a0 a1 d:D}{cells cells':List D}(h:∀ b,code_spec_l00Src_pick.wp (CT Try.prog NoG) (yOu [(.t 4)] d 0 b cells') [.box (some b) cells,a1,.undef,.undef,.undef,.undef,.undef,.undef,.undef,.undef,.undef,.undef,.undef,.undef,.undef,.undef,.undef,.undef,.undef,.undef]):ContractX Try.prog NoG 54 0 [a0,a1] cells d cells' :=
  zE7 (pt:=0) noG Try.func54 (fun us W=>by kernel_rfl) (c:=Try.f54.body.getD .skip) (ms:=[]) (ms':=[]) (by kernel_rfl) (by kernel_rfl) (by kernel_rfl) qAh h
set_option maxHeartbeats 1000000 in
theorem zN6 (s:Src)(n:Int)(hs:SrcB 2 s):ContractX Try.prog NoG 54 0 [.undef,.v (.int .i64 n)] s.d (.v (.int .i64 (zCu s n))) (zCc s n).d:=by
  refine zLn ?_;intro b;unfold code_spec_l00Src_pick;have h1:=zVn hs;have h2:=zVn hs.next;by_cases hn:n≤1
  · have d1:decide (n≤1)=true:=decide_eq_true hn;have e1:zCu s n=0:=(by unfold zCu;rw [if_pos hn]);have e2:zCc s n=s:=(by unfold zCc;rw [if_pos hn]);rw [e1,e2];unfold Src.d;simp -implicitDefEqProofs (disch:=omega) only [go_sem,↓reduceIte ,d1]
  · have d1:decide (n≤1)=false:=decide_eq_false hn;have d0:n≠0:=qAc;by_cases h200:200<n
    · have d2:decide (200<n)=true:=decide_eq_true h200;have e1:zCu s n=(zUd s*256+zUd (zWo s)).tmod n:=(by unfold zCu;rw [if_neg hn,if_pos h200]);have e2:zCc s n=zWo (zWo s):=(by unfold zCc;rw [if_neg hn,if_pos h200]);have w1:IntKind.i64.wrap (zUd s*256)=zUd s*256:=wrI qAc qAc;have w2:IntKind.i64.wrap (zUd s*256+zUd (zWo s))=zUd s*256+zUd (zWo s):=wrI qAc qAc;rw [e1,e2];simp only [Src.d];simp -implicitDefEqProofs (disch:=omega) only [go_sem,↓reduceIte ,d1];refine zD1 (i:=0) (r:=0) (yEv s (hs.mono qAc)) rfl rfl (by simp -implicitDefEqProofs (disch:=omega) only [go_sem,↓reduceIte,deep,TD.rows,zAw,zAt,zA0,zAs,zAv,zAq,Src.d,d2,w1];exact rfl) ?_;simp -implicitDefEqProofs (disch:=omega) only [go_sem,↓reduceIte ,Src.d,d2,w1];refine zD1 (i:=0) (r:=0) (yEv (zWo s) hs.next) rfl rfl (by simp -implicitDefEqProofs (disch:=omega) only [go_sem,↓reduceIte,deep,TD.rows,zAw,zAt,zA0,zAs,zAv,zAq,Src.d,w2,d0];exact rfl) ?_;simp -implicitDefEqProofs (disch:=omega) only [go_sem,↓reduceIte ,Src.d,w2,d0]
    · have d2:decide (200<n)=false:=decide_eq_false h200;have e1:zCu s n=(zUd s).tmod n:=(by unfold zCu;rw [if_neg hn,if_neg h200]);have e2:zCc s n=zWo s:=(by unfold zCc;rw [if_neg hn,if_neg h200]);rw [e1,e2];simp only [Src.d];simp -implicitDefEqProofs (disch:=omega) only [go_sem,↓reduceIte ,d1];refine zD1 (i:=0) (r:=0) (yEv s (hs.mono qAc)) rfl rfl (by simp -implicitDefEqProofs (disch:=omega) only [go_sem,↓reduceIte,deep,TD.rows,zAw,zAt,zA0,zAs,zAv,zAq,Src.d,d2,d0];exact rfl) ?_;simp -implicitDefEqProofs (disch:=omega) only [go_sem,↓reduceIte ,Src.d,d2,d0]
def code_spec_l00Src_among:VCode:=(.seq (.ops [
  ⟨some 4,none,.asg (.const (.int .i64 0))⟩]) (.seq (.ops [
  ⟨some 5,none,.mv (.tmp 1)⟩,
  ⟨some 6,none,.mv (.tmp 0)⟩,
  ⟨some 7,none,.mv (.tmp 1)⟩,
  ⟨some 8,none,.len (.tmp 7)⟩,
  ⟨some 9,none,.callX 54 [(.tmp 6),(.tmp 8)]⟩,
  ⟨some 10,none,.ia 1 (.tmp 5) (.tmp 9)⟩,
  ⟨some 11,none,.load 1 false (.tmp 10)⟩,
  ⟨some 4,none,.asg (.tmp 11)⟩]) .ret))
theorem zKl {a0 a1 d:D}{cells cells':List D}(h:∀ b,code_spec_l00Src_among.wp (CT Try.prog NoG) (yOu [(.t 4)] d 0 b cells') [.box (some b) cells,a1,.undef,.undef,.undef,.undef,.undef,.undef,.undef,.undef,.undef,.undef]):ContractX Try.prog NoG 53 0 [a0,a1] cells d cells' :=
  zE7 (pt:=0) noG Try.func53 (fun us W=>by kernel_rfl) (c:=Try.f53.body.getD .skip) (ms:=[]) (ms':=[]) (by kernel_rfl) (by kernel_rfl) (by kernel_rfl) qAh h
theorem yE2 (s:Src)(xs:List Int)(hs:SrcB 2 s)(h0:0<xs.length)(hl:xs.length≤1048576):ContractX Try.prog NoG 53 0 [.undef,.sl false 1 (xs.map rI)] s.d (.v (.int .i64 (xs.getD (zCu s xs.length).toNat 0))) (zCc s xs.length).d:=by
  refine zKl ?_;intro b;unfold code_spec_l00Src_among;have hp:=zHa (k:=0) hs (n:=xs.length) qAc;obtain ⟨k,hk⟩:∃ k:Nat,zCu s xs.length=(k:Int):=⟨(zCu s xs.length).toNat,by omega⟩
  have hlt:k<xs.length:=qAc;have e1:=xA1 hlt;have e2:xs.getD k 0=xs[k]:=(by rw [xA3,e1];rfl);rw [hk,xAz,e2];simp only [Src.d];simp -implicitDefEqProofs (disch:=omega) only [go_sem,↓reduceIte ,xAw];refine zD1 (i:=0) (r:=0) (zN6 s xs.length hs) rfl rfl (by simp -implicitDefEqProofs (disch:=omega) only [go_sem,↓reduceIte,deep,TD.rows,zAw,zAt,zA0,zAs,zAv,zAq,Src.d,hk,xAw,xAz,xA7,xA0,xAy,xAx,hlt,e1];exact rfl) ?_;simp -implicitDefEqProofs (disch:=omega) only [go_sem,↓reduceIte ,Src.d,hk,xAw,xAz,xA7,xA0,xAy,xAx,hlt,e1]
abbrev zFd:List Bool:=(mB 266 0x3fffffffffffffffffffffffffffffffffffffffffffffffffffffffffffc1b7ebe)
abbrev zFe:List Bool:=(mB 266 0x3fffffffffffffffffffffffffffffffffffffffffffffffffffffffffffc1d7ebe)
abbrev zFf:List Bool:=(mB 266 0x3fffffffffffffffffffffffffffffffffffffffffffffffffffffffffffc1e7ebe)
abbrev zFg:List Bool:=(mB 266 0x3fffffffffffffffffffffffffffffffffffffffffffffffffffffffffffc1fe2be)
abbrev zFh:List Bool:=(mB 266 0x3fffffffffffffffffffffffffffffffffffffffffffffffffffffffffffc1ff2be)
abbrev zFi:List Bool:=(mB 266 0x3fffffffffffffffffffffffffffffffffffffffffffffffffffffffffffc1ffabe)
abbrev zFj:List Bool:=(mB 266 0x3fffffffffffffffffffffffffffffffffffffffffffffffffffffffffffc1ffcb8)
abbrev zAk:List (List Bool):=[]
abbrev zAy:List (List Bool):=zFd::zAk
abbrev zAz:List (List Bool):=zFe::zAy
abbrev zAe:List (List Bool):=zFf::zAz
abbrev zBc:List (List Bool):=zFg::zAe
abbrev zA4:List (List Bool):=zFh::zBc
abbrev zAi:List (List Bool):=zFi::zA4
abbrev zB8:List (List Bool):=zFj::zAi
theorem zPn:zAj Try.prog 0 (cL (Try.f58.body.getD .skip)) zB8=some ((.ops [
  ⟨some 6,none,.alloc [(.slice none 0 0),(.slice none 0 0),(.slice none 0 0)]⟩,
  ⟨some 7,none,.asg (.const (.bool false))⟩]),zB8):=by kernel_rfl
def zFq:VCode:=(.ops [
  ⟨some 21,none,.mv (.tmp 0)⟩,
  ⟨some 22,none,.nilc (.tmp 21)⟩,
  ⟨some 23,none,.load 3 true (.tmp 22)⟩,
  ⟨some 24,none,.build [(.slice none 0 0),(.slice none 0 0),(.slice none 0 0),(.slice none 0 0),(.slice none 0 0)] [(0,3,(.tmp 23))]⟩,
  ⟨some 25,none,.box (.tmp 24)⟩,
  ⟨some 8,none,.asg (.tmp 25)⟩])
theorem zPm:zAj Try.prog 0 (cL (cR (Try.f58.body.getD .skip))) zB8=some (zFq,zB8):=by kernel_rfl
theorem zPl:zAj Try.prog 0 (cL (cL (cR (cR (Try.f58.body.getD .skip))))) zB8=some ((.ops [
  ⟨some 9,none,.asg (.const (.int .i64 0))⟩]),zB8):=by kernel_rfl
theorem zPk:zAj Try.prog 0 (cL (cL (cL (cL (cR (cL (cR (cR (Try.f58.body.getD .skip))))))))) zAi=some ((.ops [
  ⟨some 26,none,.mv (.tmp 9)⟩,
  ⟨some 27,none,.bin .leq (.tmp 26) (.const (.int .i64 119))⟩]),zAi):=by kernel_rfl
theorem zPj:zAj Try.prog 0 (cL (cR (cL (cL (cL (cR (cL (cR (cR (Try.f58.body.getD .skip)))))))))) zAi=some (.skip,zAi):=by kernel_rfl
theorem zPi:zAj Try.prog 0 (cR (cR (cL (cL (cL (cR (cL (cR (cR (Try.f58.body.getD .skip)))))))))) zAi=some ((.exit 0),zAi):=by kernel_rfl
def zFp:VCode:=(.ops [
  ⟨some 30,none,.mv (.tmp 8)⟩,
  ⟨some 31,none,.mv (.tmp 8)⟩,
  ⟨some 32,none,.nilc (.tmp 31)⟩,
  ⟨some 33,none,.fa 3 (.tmp 32)⟩,
  ⟨some 34,none,.load 1 false (.tmp 33)⟩,
  ⟨some 35,none,.mv (.tmp 9)⟩,
  ⟨some 36,none,.bsl 1 [(.tmp 35)]⟩,
  ⟨some 37,none,.app 1 8 (.tmp 34) (.tmp 36)⟩,
  ⟨some 38,none,.nilc (.tmp 30)⟩,
  ⟨some 39,none,.fa 3 (.tmp 38)⟩,
  ⟨none,none,.store 1 (.tmp 39) (.tmp 37)⟩])
theorem zPh:zAj Try.prog 0 (cL (cL (cL (cR (cL (cL (cR (cL (cR (cR (Try.f58.body.getD .skip))))))))))) zAi=some (zFp,zAi):=by kernel_rfl
def zFo:VCode:=(.ops [
  ⟨some 40,none,.mv (.tmp 8)⟩,
  ⟨some 41,none,.mv (.tmp 8)⟩,
  ⟨some 42,none,.nilc (.tmp 41)⟩,
  ⟨some 43,none,.fa 4 (.tmp 42)⟩,
  ⟨some 44,none,.load 1 false (.tmp 43)⟩,
  ⟨some 45,none,.mv (.tmp 9)⟩,
  ⟨some 46,none,.bsl 1 [(.tmp 45)]⟩,
  ⟨some 47,none,.app 1 8 (.tmp 44) (.tmp 46)⟩,
  ⟨some 48,none,.nilc (.tmp 40)⟩,
  ⟨some 49,none,.fa 4 (.tmp 48)⟩,
  ⟨none,none,.store 1 (.tmp 49) (.tmp 47)⟩])
theorem zPg:zAj Try.prog 0 (cR (cL (cL (cR (cL (cL (cR (cL (cR (cR (Try.f58.body.getD .skip))))))))))) zAi=some (zFo,zAi):=by kernel_rfl
def zFn:VCode:=(.ops [
  ⟨some 28,none,.mv (.tmp 9)⟩,
  ⟨some 29,none,.bin .add (.tmp 28) (.const (.int .i64 1))⟩,
  ⟨some 9,none,.asg (.tmp 29)⟩])
theorem zPf:zAj Try.prog 0 (cR (cR (cL (cL (cR (cL (cR (cR (Try.f58.body.getD .skip))))))))) zAi=some (zFn,zAi):=by kernel_rfl
def zFm:VCode:=(.draw (mB 66 0x3fffc000000000000) [] [⟨0,mB 66 0x3fffc000000000000,[],⟨some 50,none,.mv (.tmp 0)⟩⟩,⟨1,mB 66 0x3fff8000000000000,[],⟨some 51,none,.nilc (.tmp 50)⟩⟩,⟨2,mB 66 0x3fff0000000000000,[],⟨some 52,none,.fa 2 (.tmp 51)⟩⟩,⟨3,mB 66 0x3ffe0000000000000,[],⟨some 53,none,.load 1 false (.tmp 52)⟩⟩,⟨4,mB 66 0x3fffc000000000000,[],⟨some 54,none,.mv (.tmp 1)⟩⟩,⟨5,mB 66 0x3ff80000000000000,[],⟨some 55,none,.ia 5 (.tmp 53) (.tmp 54)⟩⟩,⟨6,mB 66 0x3ff00000000000000,[],⟨some 56,none,.fa 0 (.tmp 55)⟩⟩,⟨7,mB 66 0x3fe00000000000000,[],⟨some 57,none,.load 1 false (.tmp 56)⟩⟩,⟨8,mB 66 0x3fffc000000000000,[],⟨some 58,none,.mv (.tmp 0)⟩⟩,⟨9,mB 66 0x3fbfc000000000000,[],⟨some 59,none,.nilc (.tmp 58)⟩⟩,⟨10,mB 66 0x3f3fc000000000000,[],⟨some 60,none,.fa 2 (.tmp 59)⟩⟩,⟨11,mB 66 0x3e3fc000000000000,[],⟨some 61,none,.load 1 false (.tmp 60)⟩⟩,⟨12,mB 66 0x3fffc000000000000,[],⟨some 62,none,.mv (.tmp 2)⟩⟩,⟨13,mB 66 0x383fc000000000000,[],⟨some 63,none,.ia 5 (.tmp 61) (.tmp 62)⟩⟩,⟨14,mB 66 0x303fc000000000000,[],⟨some 64,none,.fa 0 (.tmp 63)⟩⟩,⟨15,mB 66 0x203fc000000000000,[],⟨some 65,none,.load 1 false (.tmp 64)⟩⟩] [⟨some 66,none,.bin .neq (.tmp 57) (.tmp 65)⟩])
theorem zPe:zAj Try.prog 0 (cL (cL (cR (cR (cR (Try.f58.body.getD .skip)))))) zAi=some (zFm,zAi):=by kernel_rfl
def zE1:VCode:=(.ops [
  ⟨some 67,none,.build [(.slice none 0 0),(.slice none 0 0),(.slice none 0 0)] []⟩,
  ⟨none,none,.store 3 (.tmp 6) (.tmp 67)⟩,
  ⟨some 7,none,.asg (.const (.bool false))⟩])
theorem zNw:zAj Try.prog 0 (cL (cL (cR (cL (cR (cR (cR (Try.f58.body.getD .skip)))))))) zAi=some (zE1,zAi):=by kernel_rfl
theorem zNv:zAj Try.prog 0 (cR (cL (cR (cL (cR (cR (cR (Try.f58.body.getD .skip)))))))) zAi=some (.ret,zAi):=by kernel_rfl
theorem zNu:zAj Try.prog 0 (cR (cR (cL (cR (cR (cR (Try.f58.body.getD .skip))))))) zAi=some (.skip,zAi):=by kernel_rfl
def zE0:VCode:=(.ops [
  ⟨some 68,none,.mv (.tmp 8)⟩,
  ⟨some 69,none,.mv (.tmp 1)⟩,
  ⟨some 70,none,.mv (.tmp 2)⟩,
  ⟨some 71,none,.callX 83 [(.tmp 68),(.tmp 69),(.tmp 70)]⟩])
theorem zNt:zAj Try.prog 0 (cL (cR (cR (cR (cR (Try.f58.body.getD .skip)))))) zAi=some (zE0,zAi):=by kernel_rfl
theorem zNs:zAj Try.prog 0 (cL (cR (cR (cR (cR (cR (Try.f58.body.getD .skip))))))) zAi=some ((.ops [
  ⟨some 10,none,.asg (.const (.bool true))⟩]),zAi):=by kernel_rfl
theorem zNr:zAj Try.prog 0 (cL (cL (cL (cL (cL (cR (cR (cR (cR (cR (cR (Try.f58.body.getD .skip)))))))))))) zA4=some ((.ops [
  ⟨some 72,none,.mv (.tmp 10)⟩]),zA4):=by kernel_rfl
theorem zNq:zAj Try.prog 0 (cL (cR (cL (cL (cL (cL (cR (cR (cR (cR (cR (cR (Try.f58.body.getD .skip))))))))))))) zA4=some (.skip,zA4):=by kernel_rfl
theorem zNp:zAj Try.prog 0 (cR (cR (cL (cL (cL (cL (cR (cR (cR (cR (cR (cR (Try.f58.body.getD .skip))))))))))))) zA4=some ((.exit 2),zA4):=by kernel_rfl
theorem zNo:zAj Try.prog 0 (cL (cL (cR (cL (cL (cL (cR (cR (cR (cR (cR (cR (Try.f58.body.getD .skip))))))))))))) zA4=some ((.ops [
  ⟨some 10,none,.asg (.const (.bool false))⟩]),zA4):=by kernel_rfl
theorem zNn:zAj Try.prog 0 (cL (cR (cL (cR (cL (cL (cL (cR (cR (cR (cR (cR (cR (Try.f58.body.getD .skip)))))))))))))) zA4=some ((.ops [
  ⟨some 11,none,.asg (.const (.int .i64 0))⟩]),zA4):=by kernel_rfl
def zEz:VCode:=(.ops [
  ⟨some 73,none,.mv (.tmp 11)⟩,
  ⟨some 74,none,.mv (.tmp 0)⟩,
  ⟨some 75,none,.nilc (.tmp 74)⟩,
  ⟨some 76,none,.fa 2 (.tmp 75)⟩,
  ⟨some 77,none,.load 1 false (.tmp 76)⟩,
  ⟨some 78,none,.len (.tmp 77)⟩,
  ⟨some 79,none,.bin .lss (.tmp 73) (.tmp 78)⟩])
theorem zNm:zAj Try.prog 0 (cL (cL (cL (cL (cR (cR (cL (cR (cL (cL (cL (cR (cR (cR (cR (cR (cR (Try.f58.body.getD .skip)))))))))))))))))) zBc=some (zEz,zBc):=by kernel_rfl
theorem zNl:zAj Try.prog 0 (cL (cR (cL (cL (cL (cR (cR (cL (cR (cL (cL (cL (cR (cR (cR (cR (cR (cR (Try.f58.body.getD .skip))))))))))))))))))) zBc=some (.skip,zBc):=by kernel_rfl
theorem zNk:zAj Try.prog 0 (cR (cR (cL (cL (cL (cR (cR (cL (cR (cL (cL (cL (cR (cR (cR (cR (cR (cR (Try.f58.body.getD .skip))))))))))))))))))) zBc=some ((.exit 4),zBc):=by kernel_rfl
theorem zNj:zAj Try.prog 0 (cL (cL (cL (cR (cL (cL (cR (cR (cL (cR (cL (cL (cL (cR (cR (cR (cR (cR (cR (Try.f58.body.getD .skip)))))))))))))))))))) zBc=some ((.ops [
  ⟨some 12,none,.asg (.const (.int .i64 0))⟩]),zBc):=by kernel_rfl
def zEy:VCode:=(.ops [
  ⟨some 82,none,.mv (.tmp 12)⟩,
  ⟨some 83,none,.mv (.tmp 11)⟩,
  ⟨some 84,none,.bin .lss (.tmp 82) (.tmp 83)⟩])
theorem zNi:zAj Try.prog 0 (cL (cL (cL (cL (cR (cL (cL (cR (cL (cL (cR (cR (cL (cR (cL (cL (cL (cR (cR (cR (cR (cR (cR (Try.f58.body.getD .skip)))))))))))))))))))))))) zAe=some (zEy,zAe):=by kernel_rfl
theorem zNh:zAj Try.prog 0 (cL (cR (cL (cL (cL (cR (cL (cL (cR (cL (cL (cR (cR (cL (cR (cL (cL (cL (cR (cR (cR (cR (cR (cR (Try.f58.body.getD .skip))))))))))))))))))))))))) zAe=some (.skip,zAe):=by kernel_rfl
theorem zNg:zAj Try.prog 0 (cR (cR (cL (cL (cL (cR (cL (cL (cR (cL (cL (cR (cR (cL (cR (cL (cL (cL (cR (cR (cR (cR (cR (cR (Try.f58.body.getD .skip))))))))))))))))))))))))) zAe=some ((.exit 6),zAe):=by kernel_rfl
def zB3:VCode:=(.ops [
  ⟨some 87,none,.mv (.tmp 0)⟩,
  ⟨some 88,none,.nilc (.tmp 87)⟩,
  ⟨some 89,none,.fa 2 (.tmp 88)⟩,
  ⟨some 90,none,.load 1 false (.tmp 89)⟩,
  ⟨some 91,none,.mv (.tmp 11)⟩,
  ⟨some 92,none,.ia 5 (.tmp 90) (.tmp 91)⟩,
  ⟨some 93,none,.load 5 true (.tmp 92)⟩,
  ⟨some 13,none,.alloc [(.int .i64 0),(.int .i64 0),(.int .i64 0),(.int .i64 0),(.int .i64 0)]⟩,
  ⟨none,none,.store 5 (.tmp 13) (.tmp 93)⟩])
theorem zNf:zAj Try.prog 0 (cL (cL (cL (cR (cL (cL (cR (cL (cL (cR (cL (cL (cR (cR (cL (cR (cL (cL (cL (cR (cR (cR (cR (cR (cR (Try.f58.body.getD .skip)))))))))))))))))))))))))) zAe=some (zB3,zAe):=by kernel_rfl
def zB2:VCode:=(.ops [
  ⟨some 94,none,.mv (.tmp 0)⟩,
  ⟨some 95,none,.nilc (.tmp 94)⟩,
  ⟨some 96,none,.fa 2 (.tmp 95)⟩,
  ⟨some 97,none,.load 1 false (.tmp 96)⟩,
  ⟨some 98,none,.mv (.tmp 12)⟩,
  ⟨some 99,none,.ia 5 (.tmp 97) (.tmp 98)⟩,
  ⟨some 100,none,.load 5 true (.tmp 99)⟩,
  ⟨some 14,none,.alloc [(.int .i64 0),(.int .i64 0),(.int .i64 0),(.int .i64 0),(.int .i64 0)]⟩,
  ⟨none,none,.store 5 (.tmp 14) (.tmp 100)⟩])
theorem zNe:zAj Try.prog 0 (cL (cR (cL (cL (cR (cL (cL (cR (cL (cL (cR (cL (cL (cR (cR (cL (cR (cL (cL (cL (cR (cR (cR (cR (cR (cR (Try.f58.body.getD .skip))))))))))))))))))))))))))) zAe=some (zB2,zAe):=by kernel_rfl
def zB1:VCode:=(.draw (mB 135 0x7fffffffe0000000000000000000000000) [] [⟨0,mB 135 0x7fffffffe0000000000000000000000000,[],⟨some 101,none,.mv (.tmp 8)⟩⟩,⟨1,mB 135 0x7fffffffc0000000000000000000000000,[],⟨some 102,none,.nilc (.tmp 101)⟩⟩,⟨2,mB 135 0x7fffffff80000000000000000000000000,[],⟨some 103,none,.fa 3 (.tmp 102)⟩⟩,⟨3,mB 135 0x7fffffff00000000000000000000000000,[],⟨some 104,none,.load 1 false (.tmp 103)⟩⟩,⟨4,mB 135 0x7fffffffe0000000000000000000000000,[],⟨some 105,none,.fa 3 (.tmp 13)⟩⟩,⟨5,mB 135 0x7ffffffde0000000000000000000000000,[],⟨some 106,none,.load 1 false (.tmp 105)⟩⟩,⟨6,mB 135 0x7ffffff800000000000000000000000000,[],⟨some 107,none,.ia 1 (.tmp 104) (.tmp 106)⟩⟩,⟨7,mB 135 0x7ffffff000000000000000000000000000,[],⟨some 108,none,.load 1 false (.tmp 107)⟩⟩,⟨8,mB 135 0x7fffffffe0000000000000000000000000,[],⟨some 109,none,.mv (.tmp 8)⟩⟩,⟨9,mB 135 0x7fffffdfe0000000000000000000000000,[],⟨some 110,none,.nilc (.tmp 109)⟩⟩,⟨10,mB 135 0x7fffff9fe0000000000000000000000000,[],⟨some 111,none,.fa 3 (.tmp 110)⟩⟩,⟨11,mB 135 0x7fffff1fe0000000000000000000000000,[],⟨some 112,none,.load 1 false (.tmp 111)⟩⟩,⟨12,mB 135 0x7fffffffe0000000000000000000000000,[],⟨some 113,none,.fa 3 (.tmp 14)⟩⟩,⟨13,mB 135 0x7ffffdffe0000000000000000000000000,[],⟨some 114,none,.load 1 false (.tmp 113)⟩⟩,⟨14,mB 135 0x7ffff81fe0000000000000000000000000,[],⟨some 115,none,.ia 1 (.tmp 112) (.tmp 114)⟩⟩,⟨15,mB 135 0x7ffff01fe0000000000000000000000000,[],⟨some 116,none,.load 1 false (.tmp 115)⟩⟩,⟨16,mB 135 0x7fffe00000000000000000000000000000,[],⟨some 117,none,.bin .neq (.tmp 108) (.tmp 116)⟩⟩,⟨17,mB 135 0x7fffc00000000000000000000000000000,[],⟨some 118,none,.mv (.tmp 117)⟩⟩,⟨18,mB 135 0x7fff800000000000000000000000000000,[],⟨some 119,some (118,false),.mv (.tmp 8)⟩⟩,⟨19,mB 135 0x7fff000000000000000000000000000000,[],⟨some 120,some (118,false),.nilc (.tmp 119)⟩⟩,⟨20,mB 135 0x7ffe000000000000000000000000000000,[],⟨some 121,some (118,false),.fa 4 (.tmp 120)⟩⟩,⟨21,mB 135 0x7ffc000000000000000000000000000000,[],⟨some 122,some (118,false),.load 1 false (.tmp 121)⟩⟩,⟨22,mB 135 0x7fff800000000000000000000000000000,[],⟨some 123,some (118,false),.fa 4 (.tmp 13)⟩⟩,⟨23,mB 135 0x7ff7800000000000000000000000000000,[],⟨some 124,some (118,false),.load 1 false (.tmp 123)⟩⟩,⟨24,mB 135 0x7fe0000000000000000000000000000000,[],⟨some 125,some (118,false),.ia 1 (.tmp 122) (.tmp 124)⟩⟩,⟨25,mB 135 0x7fc0000000000000000000000000000000,[],⟨some 126,some (118,false),.load 1 false (.tmp 125)⟩⟩,⟨26,mB 135 0x7fff800000000000000000000000000000,[],⟨some 127,some (118,false),.mv (.tmp 8)⟩⟩,⟨27,mB 135 0x7f7f800000000000000000000000000000,[],⟨some 128,some (118,false),.nilc (.tmp 127)⟩⟩,⟨28,mB 135 0x7e7f800000000000000000000000000000,[],⟨some 129,some (118,false),.fa 4 (.tmp 128)⟩⟩,⟨29,mB 135 0x7c7f800000000000000000000000000000,[],⟨some 130,some (118,false),.load 1 false (.tmp 129)⟩⟩,⟨30,mB 135 0x7fff800000000000000000000000000000,[],⟨some 131,some (118,false),.fa 4 (.tmp 14)⟩⟩,⟨31,mB 135 0x77ff800000000000000000000000000000,[],⟨some 132,some (118,false),.load 1 false (.tmp 131)⟩⟩,⟨32,mB 135 0x607f800000000000000000000000000000,[],⟨some 133,some (118,false),.ia 1 (.tmp 130) (.tmp 132)⟩⟩,⟨33,mB 135 0x407f800000000000000000000000000000,[],⟨some 134,some (118,false),.load 1 false (.tmp 133)⟩⟩] [⟨some 135,some (118,false),.bin .neq (.tmp 126) (.tmp 134)⟩,⟨some 136,none,.pick (.tmp 118) (.const (.bool true)) (.tmp 135)⟩])
theorem zNd:zAj Try.prog 0 (cL (cL (cR (cR (cL (cL (cR (cL (cL (cR (cL (cL (cR (cL (cL (cR (cR (cL (cR (cL (cL (cL (cR (cR (cR (cR (cR (cR (Try.f58.body.getD .skip))))))))))))))))))))))))))))) zAe=some (zB1,zAe):=by kernel_rfl
theorem zNc:zAj Try.prog 0 (cL (cR (cL (cR (cR (cL (cL (cR (cL (cL (cR (cL (cL (cR (cL (cL (cR (cR (cL (cR (cL (cL (cL (cR (cR (cR (cR (cR (cR (Try.f58.body.getD .skip)))))))))))))))))))))))))))))) zAe=some ((.exit 7),zAe):=by kernel_rfl
theorem zNb:zAj Try.prog 0 (cR (cR (cL (cR (cR (cL (cL (cR (cL (cL (cR (cL (cL (cR (cL (cL (cR (cR (cL (cR (cL (cL (cL (cR (cR (cR (cR (cR (cR (Try.f58.body.getD .skip)))))))))))))))))))))))))))))) zAe=some (.skip,zAe):=by kernel_rfl
def zDi:VCode:=(.ops [
  ⟨some 137,none,.fa 0 (.tmp 13)⟩,
  ⟨some 138,none,.load 1 false (.tmp 137)⟩,
  ⟨some 139,none,.fa 0 (.tmp 14)⟩,
  ⟨some 140,none,.load 1 false (.tmp 139)⟩,
  ⟨some 141,none,.bin .neq (.tmp 138) (.tmp 140)⟩])
theorem zNa:zAj Try.prog 0 (cL (cL (cR (cR (cR (cL (cL (cR (cL (cL (cR (cL (cL (cR (cL (cL (cR (cR (cL (cR (cL (cL (cL (cR (cR (cR (cR (cR (cR (Try.f58.body.getD .skip)))))))))))))))))))))))))))))) zAe=some (zDi,zAe):=by kernel_rfl
def zEx:VCode:=(.ops [
  ⟨some 142,none,.build [(.slice none 0 0),(.slice none 0 0),(.slice none 0 0)] []⟩,
  ⟨none,none,.store 3 (.tmp 6) (.tmp 142)⟩,
  ⟨some 7,none,.asg (.const (.bool false))⟩])
theorem zM9:zAj Try.prog 0 (cL (cL (cR (cL (cR (cR (cR (cL (cL (cR (cL (cL (cR (cL (cL (cR (cL (cL (cR (cR (cL (cR (cL (cL (cL (cR (cR (cR (cR (cR (cR (Try.f58.body.getD .skip)))))))))))))))))))))))))))))))) zAe=some (zEx,zAe):=by kernel_rfl
theorem zM8:zAj Try.prog 0 (cR (cL (cR (cL (cR (cR (cR (cL (cL (cR (cL (cL (cR (cL (cL (cR (cL (cL (cR (cR (cL (cR (cL (cL (cL (cR (cR (cR (cR (cR (cR (Try.f58.body.getD .skip)))))))))))))))))))))))))))))))) zAe=some (.ret,zAe):=by kernel_rfl
theorem zM7:zAj Try.prog 0 (cR (cR (cL (cR (cR (cR (cL (cL (cR (cL (cL (cR (cL (cL (cR (cL (cL (cR (cR (cL (cR (cL (cL (cL (cR (cR (cR (cR (cR (cR (Try.f58.body.getD .skip))))))))))))))))))))))))))))))) zAe=some (.skip,zAe):=by kernel_rfl
def zEw:VCode:=(.ops [
  ⟨some 143,none,.mv (.tmp 8)⟩,
  ⟨some 144,none,.mv (.tmp 11)⟩,
  ⟨some 145,none,.mv (.tmp 12)⟩,
  ⟨some 146,none,.callX 83 [(.tmp 143),(.tmp 144),(.tmp 145)]⟩])
theorem zM6:zAj Try.prog 0 (cL (cR (cR (cR (cR (cL (cL (cR (cL (cL (cR (cL (cL (cR (cL (cL (cR (cR (cL (cR (cL (cL (cL (cR (cR (cR (cR (cR (cR (Try.f58.body.getD .skip)))))))))))))))))))))))))))))) zAe=some (zEw,zAe):=by kernel_rfl
theorem zM5:zAj Try.prog 0 (cL (cR (cR (cR (cR (cR (cL (cL (cR (cL (cL (cR (cL (cL (cR (cL (cL (cR (cR (cL (cR (cL (cL (cL (cR (cR (cR (cR (cR (cR (Try.f58.body.getD .skip))))))))))))))))))))))))))))))) zAe=some ((.ops [
  ⟨some 10,none,.asg (.const (.bool true))⟩]),zAe):=by kernel_rfl
theorem zM4:zAj Try.prog 0 (cR (cR (cR (cR (cR (cR (cL (cL (cR (cL (cL (cR (cL (cL (cR (cL (cL (cR (cR (cL (cR (cL (cL (cL (cR (cR (cR (cR (cR (cR (Try.f58.body.getD .skip))))))))))))))))))))))))))))))) zAe=some (.skip,zAe):=by kernel_rfl
def zB0:VCode:=(.ops [
  ⟨some 85,none,.mv (.tmp 12)⟩,
  ⟨some 86,none,.bin .add (.tmp 85) (.const (.int .i64 1))⟩,
  ⟨some 12,none,.asg (.tmp 86)⟩])
theorem zM3:zAj Try.prog 0 (cR (cR (cL (cL (cR (cL (cL (cR (cL (cL (cR (cR (cL (cR (cL (cL (cL (cR (cR (cR (cR (cR (cR (Try.f58.body.getD .skip)))))))))))))))))))))))) zAe=some (zB0,zAe):=by kernel_rfl
def zEv:VCode:=(.ops [
  ⟨some 80,none,.mv (.tmp 11)⟩,
  ⟨some 81,none,.bin .add (.tmp 80) (.const (.int .i64 1))⟩,
  ⟨some 11,none,.asg (.tmp 81)⟩])
theorem zM2:zAj Try.prog 0 (cR (cR (cL (cL (cR (cR (cL (cR (cL (cL (cL (cR (cR (cR (cR (cR (cR (Try.f58.body.getD .skip)))))))))))))))))) zAe=some (zEv,zAe):=by kernel_rfl
def zEu:VCode:=(.ops [
  ⟨some 147,none,.build [(.slice none 0 0),(.slice none 0 0),(.slice none 0 0)] []⟩,
  ⟨some 15,none,.alloc [(.slice none 0 0),(.slice none 0 0),(.slice none 0 0)]⟩,
  ⟨none,none,.store 3 (.tmp 15) (.tmp 147)⟩])
theorem zM1:zAj Try.prog 0 (cL (cR (cR (cR (cR (cR (cR (cR (Try.f58.body.getD .skip))))))))) zAe=some (zEu,zAe):=by kernel_rfl
theorem zM0:zAj Try.prog 0 (cL (cL (cR (cR (cR (cR (cR (cR (cR (cR (Try.f58.body.getD .skip))))))))))) zAe=some ((.ops [
  ⟨some 16,none,.asg (.const (.int .i64 0))⟩]),zAe):=by kernel_rfl
def zEt:VCode:=(.ops [
  ⟨some 148,none,.mv (.tmp 16)⟩,
  ⟨some 149,none,.mv (.tmp 0)⟩,
  ⟨some 150,none,.nilc (.tmp 149)⟩,
  ⟨some 151,none,.fa 0 (.tmp 150)⟩,
  ⟨some 152,none,.load 1 false (.tmp 151)⟩,
  ⟨some 153,none,.len (.tmp 152)⟩,
  ⟨some 154,none,.bin .lss (.tmp 148) (.tmp 153)⟩])
theorem zMz:zAj Try.prog 0 (cL (cL (cL (cL (cR (cL (cR (cR (cR (cR (cR (cR (cR (cR (Try.f58.body.getD .skip))))))))))))))) zAz=some (zEt,zAz):=by kernel_rfl
theorem zMy:zAj Try.prog 0 (cL (cR (cL (cL (cL (cR (cL (cR (cR (cR (cR (cR (cR (cR (cR (Try.f58.body.getD .skip)))))))))))))))) zAz=some (.skip,zAz):=by kernel_rfl
theorem zMx:zAj Try.prog 0 (cR (cR (cL (cL (cL (cR (cL (cR (cR (cR (cR (cR (cR (cR (cR (Try.f58.body.getD .skip)))))))))))))))) zAz=some ((.exit 8),zAz):=by kernel_rfl
def zEs:VCode:=(.draw (mB 173 0x1fffe000000000000000000000000000000000000000) (mB 172 0x8000000000000000000000000000000000000000000) [⟨0,mB 173 0x1fffe000000000000000000000000000000000000000,[],⟨some 157,none,.fa 0 (.tmp 15)⟩⟩,⟨1,mB 173 0x1fffc000000000000000000000000000000000000000,[],⟨some 158,none,.load 1 false (.tmp 157)⟩⟩,⟨2,mB 173 0x1fffe000000000000000000000000000000000000000,[],⟨some 159,none,.mv (.tmp 8)⟩⟩,⟨3,mB 173 0x1fff6000000000000000000000000000000000000000,[],⟨some 160,none,.nilc (.tmp 159)⟩⟩,⟨4,mB 173 0x1ffe6000000000000000000000000000000000000000,[],⟨some 161,none,.fa 3 (.tmp 160)⟩⟩,⟨5,mB 173 0x1ffc6000000000000000000000000000000000000000,[],⟨some 162,none,.load 1 false (.tmp 161)⟩⟩,⟨6,mB 173 0x1fffe000000000000000000000000000000000000000,[],⟨some 163,none,.mv (.tmp 0)⟩⟩,⟨7,mB 173 0x1ff7e000000000000000000000000000000000000000,[],⟨some 164,none,.nilc (.tmp 163)⟩⟩,⟨8,mB 173 0x1fe7e000000000000000000000000000000000000000,[],⟨some 165,none,.fa 0 (.tmp 164)⟩⟩,⟨9,mB 173 0x1fc7e000000000000000000000000000000000000000,[],⟨some 166,none,.load 1 false (.tmp 165)⟩⟩,⟨10,mB 173 0x1fffe000000000000000000000000000000000000000,[],⟨some 167,none,.mv (.tmp 16)⟩⟩,⟨11,mB 173 0x1f07e000000000000000000000000000000000000000,[],⟨some 168,none,.ia 1 (.tmp 166) (.tmp 167)⟩⟩,⟨12,mB 173 0x1e07e000000000000000000000000000000000000000,[],⟨some 169,none,.load 1 false (.tmp 168)⟩⟩,⟨13,mB 173 0x1c006000000000000000000000000000000000000000,[],⟨some 170,none,.ia 1 (.tmp 162) (.tmp 169)⟩⟩,⟨14,mB 173 0x18006000000000000000000000000000000000000000,[],⟨some 171,none,.load 1 false (.tmp 170)⟩⟩,⟨15,mB 173 0x10006000000000000000000000000000000000000000,(mB 172 0x8000000000000000000000000000000000000000000),⟨some 172,none,.bslN 1 [(.tmp 171)]⟩⟩] [⟨some 173,none,.app 1 8 (.tmp 158) (.tmp 172)⟩,⟨some 174,none,.fa 0 (.tmp 15)⟩,⟨none,none,.store 1 (.tmp 174) (.tmp 173)⟩])
theorem zMw:zAj Try.prog 0 (cL (cL (cR (cL (cL (cR (cL (cR (cR (cR (cR (cR (cR (cR (cR (Try.f58.body.getD .skip)))))))))))))))) zAz=some (zEs,zAz):=by kernel_rfl
def zEr:VCode:=(.ops [
  ⟨some 155,none,.mv (.tmp 16)⟩,
  ⟨some 156,none,.bin .add (.tmp 155) (.const (.int .i64 1))⟩,
  ⟨some 16,none,.asg (.tmp 156)⟩])
theorem zMv:zAj Try.prog 0 (cR (cR (cL (cL (cR (cL (cR (cR (cR (cR (cR (cR (cR (cR (Try.f58.body.getD .skip))))))))))))))) zAz=some (zEr,zAz):=by kernel_rfl
theorem zMu:zAj Try.prog 0 (cL (cL (cR (cR (cR (cR (cR (cR (cR (cR (cR (Try.f58.body.getD .skip)))))))))))) zAz=some ((.ops [
  ⟨some 17,none,.asg (.const (.int .i64 0))⟩]),zAz):=by kernel_rfl
def zEq:VCode:=(.ops [
  ⟨some 175,none,.mv (.tmp 17)⟩,
  ⟨some 176,none,.mv (.tmp 0)⟩,
  ⟨some 177,none,.nilc (.tmp 176)⟩,
  ⟨some 178,none,.fa 1 (.tmp 177)⟩,
  ⟨some 179,none,.load 1 false (.tmp 178)⟩,
  ⟨some 180,none,.len (.tmp 179)⟩,
  ⟨some 181,none,.bin .lss (.tmp 175) (.tmp 180)⟩])
theorem zMt:zAj Try.prog 0 (cL (cL (cL (cL (cR (cL (cR (cR (cR (cR (cR (cR (cR (cR (cR (Try.f58.body.getD .skip)))))))))))))))) zAy=some (zEq,zAy):=by kernel_rfl
theorem zMs:zAj Try.prog 0 (cL (cR (cL (cL (cL (cR (cL (cR (cR (cR (cR (cR (cR (cR (cR (cR (Try.f58.body.getD .skip))))))))))))))))) zAy=some (.skip,zAy):=by kernel_rfl
theorem zMr:zAj Try.prog 0 (cR (cR (cL (cL (cL (cR (cL (cR (cR (cR (cR (cR (cR (cR (cR (cR (Try.f58.body.getD .skip))))))))))))))))) zAy=some ((.exit 10),zAy):=by kernel_rfl
def zEp:VCode:=(.draw (mB 200 0xffff0000000000000000000000000000000000000000000000) (mB 199 0x40000000000000000000000000000000000000000000000000) [⟨0,mB 200 0xffff0000000000000000000000000000000000000000000000,[],⟨some 184,none,.fa 1 (.tmp 15)⟩⟩,⟨1,mB 200 0xfffe0000000000000000000000000000000000000000000000,[],⟨some 185,none,.load 1 false (.tmp 184)⟩⟩,⟨2,mB 200 0xffff0000000000000000000000000000000000000000000000,[],⟨some 186,none,.mv (.tmp 8)⟩⟩,⟨3,mB 200 0xfffb0000000000000000000000000000000000000000000000,[],⟨some 187,none,.nilc (.tmp 186)⟩⟩,⟨4,mB 200 0xfff30000000000000000000000000000000000000000000000,[],⟨some 188,none,.fa 4 (.tmp 187)⟩⟩,⟨5,mB 200 0xffe30000000000000000000000000000000000000000000000,[],⟨some 189,none,.load 1 false (.tmp 188)⟩⟩,⟨6,mB 200 0xffff0000000000000000000000000000000000000000000000,[],⟨some 190,none,.mv (.tmp 0)⟩⟩,⟨7,mB 200 0xffbf0000000000000000000000000000000000000000000000,[],⟨some 191,none,.nilc (.tmp 190)⟩⟩,⟨8,mB 200 0xff3f0000000000000000000000000000000000000000000000,[],⟨some 192,none,.fa 1 (.tmp 191)⟩⟩,⟨9,mB 200 0xfe3f0000000000000000000000000000000000000000000000,[],⟨some 193,none,.load 1 false (.tmp 192)⟩⟩,⟨10,mB 200 0xffff0000000000000000000000000000000000000000000000,[],⟨some 194,none,.mv (.tmp 17)⟩⟩,⟨11,mB 200 0xf83f0000000000000000000000000000000000000000000000,[],⟨some 195,none,.ia 1 (.tmp 193) (.tmp 194)⟩⟩,⟨12,mB 200 0xf03f0000000000000000000000000000000000000000000000,[],⟨some 196,none,.load 1 false (.tmp 195)⟩⟩,⟨13,mB 200 0xe0030000000000000000000000000000000000000000000000,[],⟨some 197,none,.ia 1 (.tmp 189) (.tmp 196)⟩⟩,⟨14,mB 200 0xc0030000000000000000000000000000000000000000000000,[],⟨some 198,none,.load 1 false (.tmp 197)⟩⟩,⟨15,mB 200 0x80030000000000000000000000000000000000000000000000,(mB 199 0x40000000000000000000000000000000000000000000000000),⟨some 199,none,.bslN 1 [(.tmp 198)]⟩⟩] [⟨some 200,none,.app 1 8 (.tmp 185) (.tmp 199)⟩,⟨some 201,none,.fa 1 (.tmp 15)⟩,⟨none,none,.store 1 (.tmp 201) (.tmp 200)⟩])
theorem zMq:zAj Try.prog 0 (cL (cL (cR (cL (cL (cR (cL (cR (cR (cR (cR (cR (cR (cR (cR (cR (Try.f58.body.getD .skip))))))))))))))))) zAy=some (zEp,zAy):=by kernel_rfl
def zEo:VCode:=(.ops [
  ⟨some 182,none,.mv (.tmp 17)⟩,
  ⟨some 183,none,.bin .add (.tmp 182) (.const (.int .i64 1))⟩,
  ⟨some 17,none,.asg (.tmp 183)⟩])
theorem zMp:zAj Try.prog 0 (cR (cR (cL (cL (cR (cL (cR (cR (cR (cR (cR (cR (cR (cR (cR (Try.f58.body.getD .skip)))))))))))))))) zAy=some (zEo,zAy):=by kernel_rfl
theorem zMo:zAj Try.prog 0 (cL (cL (cR (cR (cR (cR (cR (cR (cR (cR (cR (cR (Try.f58.body.getD .skip))))))))))))) zAy=some ((.ops [
  ⟨some 18,none,.asg (.const (.int .i64 0))⟩]),zAy):=by kernel_rfl
def zEn:VCode:=(.ops [
  ⟨some 202,none,.mv (.tmp 18)⟩,
  ⟨some 203,none,.mv (.tmp 0)⟩,
  ⟨some 204,none,.nilc (.tmp 203)⟩,
  ⟨some 205,none,.fa 2 (.tmp 204)⟩,
  ⟨some 206,none,.load 1 false (.tmp 205)⟩,
  ⟨some 207,none,.len (.tmp 206)⟩,
  ⟨some 208,none,.bin .lss (.tmp 202) (.tmp 207)⟩])
theorem zMn:zAj Try.prog 0 (cL (cL (cL (cL (cR (cL (cR (cR (cR (cR (cR (cR (cR (cR (cR (cR (Try.f58.body.getD .skip))))))))))))))))) zAk=some (zEn,zAk):=by kernel_rfl
theorem zMm:zAj Try.prog 0 (cL (cR (cL (cL (cL (cR (cL (cR (cR (cR (cR (cR (cR (cR (cR (cR (cR (Try.f58.body.getD .skip)))))))))))))))))) zAk=some (.skip,zAk):=by kernel_rfl
theorem zMl:zAj Try.prog 0 (cR (cR (cL (cL (cL (cR (cL (cR (cR (cR (cR (cR (cR (cR (cR (cR (cR (Try.f58.body.getD .skip)))))))))))))))))) zAk=some ((.exit 12),zAk):=by kernel_rfl
def zEm:VCode:=(.ops [
  ⟨some 211,none,.mv (.tmp 0)⟩,
  ⟨some 212,none,.nilc (.tmp 211)⟩,
  ⟨some 213,none,.fa 2 (.tmp 212)⟩,
  ⟨some 214,none,.load 1 false (.tmp 213)⟩,
  ⟨some 215,none,.mv (.tmp 18)⟩,
  ⟨some 216,none,.ia 5 (.tmp 214) (.tmp 215)⟩,
  ⟨some 217,none,.load 5 true (.tmp 216)⟩,
  ⟨some 19,none,.alloc [(.int .i64 0),(.int .i64 0),(.int .i64 0),(.int .i64 0),(.int .i64 0)]⟩,
  ⟨none,none,.store 5 (.tmp 19) (.tmp 217)⟩])
theorem zMk:zAj Try.prog 0 (cL (cL (cL (cR (cL (cL (cR (cL (cR (cR (cR (cR (cR (cR (cR (cR (cR (cR (Try.f58.body.getD .skip))))))))))))))))))) zAk=some (zEm,zAk):=by kernel_rfl
def zEl:VCode:=(.draw (mB 253 0x1ffffffffc000000000000000000000000000000000000000000000000100000) (mB 252 0x808080808000000000000000000000000000000000000000000000000000000) [⟨0,mB 253 0x1ffffffffc000000000000000000000000000000000000000000000000100000,[],⟨some 218,none,.fa 0 (.tmp 19)⟩⟩,⟨1,mB 253 0x1ffffffff8000000000000000000000000000000000000000000000000100000,[],⟨some 219,none,.load 1 false (.tmp 218)⟩⟩,⟨2,mB 253 0x1ffffffffc000000000000000000000000000000000000000000000000100000,[],⟨some 220,none,.mv (.tmp 8)⟩⟩,⟨3,mB 253 0x1fffffffec000000000000000000000000000000000000000000000000100000,[],⟨some 221,none,.nilc (.tmp 220)⟩⟩,⟨4,mB 253 0x1fffffffcc000000000000000000000000000000000000000000000000100000,[],⟨some 222,none,.fa 3 (.tmp 221)⟩⟩,⟨5,mB 253 0x1fffffff8c000000000000000000000000000000000000000000000000100000,[],⟨some 223,none,.load 1 false (.tmp 222)⟩⟩,⟨6,mB 253 0x1ffffffffc000000000000000000000000000000000000000000000000100000,[],⟨some 224,none,.fa 1 (.tmp 19)⟩⟩,⟨7,mB 253 0x1ffffffefc000000000000000000000000000000000000000000000000100000,[],⟨some 225,none,.load 1 false (.tmp 224)⟩⟩,⟨8,mB 253 0x1ffffffc0c000000000000000000000000000000000000000000000000100000,[],⟨some 226,none,.ia 1 (.tmp 223) (.tmp 225)⟩⟩,⟨9,mB 253 0x1ffffff80c000000000000000000000000000000000000000000000000100000,[],⟨some 227,none,.load 1 false (.tmp 226)⟩⟩,⟨10,mB 253 0x1ffffffffc000000000000000000000000000000000000000000000000100000,[],⟨some 228,none,.mv (.tmp 8)⟩⟩,⟨11,mB 253 0x1fffffeffc000000000000000000000000000000000000000000000000100000,[],⟨some 229,none,.nilc (.tmp 228)⟩⟩,⟨12,mB 253 0x1fffffcffc000000000000000000000000000000000000000000000000100000,[],⟨some 230,none,.fa 4 (.tmp 229)⟩⟩,⟨13,mB 253 0x1fffff8ffc000000000000000000000000000000000000000000000000100000,[],⟨some 231,none,.load 1 false (.tmp 230)⟩⟩,⟨14,mB 253 0x1ffffffffc000000000000000000000000000000000000000000000000100000,[],⟨some 232,none,.fa 2 (.tmp 19)⟩⟩,⟨15,mB 253 0x1ffffefffc000000000000000000000000000000000000000000000000100000,[],⟨some 233,none,.load 1 false (.tmp 232)⟩⟩,⟨16,mB 253 0x1ffffc0ffc000000000000000000000000000000000000000000000000100000,[],⟨some 234,none,.ia 1 (.tmp 231) (.tmp 233)⟩⟩,⟨17,mB 253 0x1ffff80ffc000000000000000000000000000000000000000000000000100000,[],⟨some 235,none,.load 1 false (.tmp 234)⟩⟩,⟨18,mB 253 0x1ffffffffc000000000000000000000000000000000000000000000000100000,[],⟨some 236,none,.mv (.tmp 8)⟩⟩,⟨19,mB 253 0x1fffeffffc000000000000000000000000000000000000000000000000100000,[],⟨some 237,none,.nilc (.tmp 236)⟩⟩,⟨20,mB 253 0x1fffcffffc000000000000000000000000000000000000000000000000100000,[],⟨some 238,none,.fa 3 (.tmp 237)⟩⟩,⟨21,mB 253 0x1fff8ffffc000000000000000000000000000000000000000000000000100000,[],⟨some 239,none,.load 1 false (.tmp 238)⟩⟩,⟨22,mB 253 0x1ffffffffc000000000000000000000000000000000000000000000000100000,[],⟨some 240,none,.fa 3 (.tmp 19)⟩⟩,⟨23,mB 253 0x1ffefffffc000000000000000000000000000000000000000000000000100000,[],⟨some 241,none,.load 1 false (.tmp 240)⟩⟩,⟨24,mB 253 0x1ffc0ffffc000000000000000000000000000000000000000000000000100000,[],⟨some 242,none,.ia 1 (.tmp 239) (.tmp 241)⟩⟩,⟨25,mB 253 0x1ff80ffffc000000000000000000000000000000000000000000000000100000,[],⟨some 243,none,.load 1 false (.tmp 242)⟩⟩,⟨26,mB 253 0x1ffffffffc000000000000000000000000000000000000000000000000100000,[],⟨some 244,none,.mv (.tmp 8)⟩⟩,⟨27,mB 253 0x1feffffffc000000000000000000000000000000000000000000000000100000,[],⟨some 245,none,.nilc (.tmp 244)⟩⟩,⟨28,mB 253 0x1fcffffffc000000000000000000000000000000000000000000000000100000,[],⟨some 246,none,.fa 4 (.tmp 245)⟩⟩,⟨29,mB 253 0x1f8ffffffc000000000000000000000000000000000000000000000000100000,[],⟨some 247,none,.load 1 false (.tmp 246)⟩⟩,⟨30,mB 253 0x1ffffffffc000000000000000000000000000000000000000000000000100000,[],⟨some 248,none,.fa 4 (.tmp 19)⟩⟩,⟨31,mB 253 0x1efffffffc000000000000000000000000000000000000000000000000100000,[],⟨some 249,none,.load 1 false (.tmp 248)⟩⟩,⟨32,mB 253 0x1c0ffffffc000000000000000000000000000000000000000000000000100000,[],⟨some 250,none,.ia 1 (.tmp 247) (.tmp 249)⟩⟩,⟨33,mB 253 0x180ffffffc000000000000000000000000000000000000000000000000100000,[],⟨some 251,none,.load 1 false (.tmp 250)⟩⟩,⟨34,mB 253 0x1000000000000000000000000000000000000000000000000000000000100000,(mB 252 0x808080808000000000000000000000000000000000000000000000000000000),⟨some 252,none,.build [(.int .i64 0),(.int .i64 0),(.int .i64 0),(.int .i64 0),(.int .i64 0)] [(0,1,(.tmp 219)),(1,1,(.tmp 227)),(2,1,(.tmp 235)),(3,1,(.tmp 243)),(4,1,(.tmp 251))]⟩⟩,⟨35,mB 253 0x1ffffffffc000000000000000000000000000000000000000000000000100000,[],⟨some 20,none,.alloc [(.int .i64 0),(.int .i64 0),(.int .i64 0),(.int .i64 0),(.int .i64 0)]⟩⟩] [⟨none,none,.store 5 (.tmp 20) (.tmp 252)⟩])
theorem zMj:zAj Try.prog 0 (cL (cR (cL (cL (cR (cL (cL (cR (cL (cR (cR (cR (cR (cR (cR (cR (cR (cR (cR (Try.f58.body.getD .skip)))))))))))))))))))) zAk=some (zEl,zAk):=by kernel_rfl
def zEk:VCode:=(.ops [
  ⟨some 253,none,.fa 3 (.tmp 20)⟩,
  ⟨some 254,none,.load 1 false (.tmp 253)⟩,
  ⟨some 255,none,.fa 4 (.tmp 20)⟩,
  ⟨some 256,none,.load 1 false (.tmp 255)⟩,
  ⟨some 257,none,.callX 84 [(.tmp 15),(.tmp 254),(.tmp 256)]⟩,
  ⟨some 258,none,.bin .lss (.tmp 257) (.const (.int .i64 0))⟩])
theorem zMi:zAj Try.prog 0 (cL (cR (cR (cL (cL (cR (cL (cL (cR (cL (cR (cR (cR (cR (cR (cR (cR (cR (cR (cR (Try.f58.body.getD .skip))))))))))))))))))))) zAk=some (zEk,zAk):=by kernel_rfl
def zDh:VCode:=(.ops [
  ⟨some 259,none,.fa 2 (.tmp 15)⟩,
  ⟨some 260,none,.load 1 false (.tmp 259)⟩,
  ⟨some 261,none,.load 5 true (.tmp 20)⟩,
  ⟨some 262,none,.bsl 5 [(.tmp 261)]⟩,
  ⟨some 263,none,.app 5 40 (.tmp 260) (.tmp 262)⟩,
  ⟨some 264,none,.fa 2 (.tmp 15)⟩,
  ⟨none,none,.store 1 (.tmp 264) (.tmp 263)⟩])
theorem zMh:zAj Try.prog 0 (cL (cR (cR (cR (cL (cL (cR (cL (cL (cR (cL (cR (cR (cR (cR (cR (cR (cR (cR (cR (cR (Try.f58.body.getD .skip)))))))))))))))))))))) zAk=some (zDh,zAk):=by kernel_rfl
theorem zMg:zAj Try.prog 0 (cR (cR (cR (cR (cL (cL (cR (cL (cL (cR (cL (cR (cR (cR (cR (cR (cR (cR (cR (cR (cR (Try.f58.body.getD .skip)))))))))))))))))))))) zAk=some (.skip,zAk):=by kernel_rfl
def zBz:VCode:=(.ops [
  ⟨some 209,none,.mv (.tmp 18)⟩,
  ⟨some 210,none,.bin .add (.tmp 209) (.const (.int .i64 1))⟩,
  ⟨some 18,none,.asg (.tmp 210)⟩])
theorem zMf:zAj Try.prog 0 (cR (cR (cL (cL (cR (cL (cR (cR (cR (cR (cR (cR (cR (cR (cR (cR (Try.f58.body.getD .skip))))))))))))))))) zAk=some (zBz,zAk):=by kernel_rfl
def zEj:VCode:=(.ops [
  ⟨some 265,none,.load 3 true (.tmp 15)⟩,
  ⟨none,none,.store 3 (.tmp 6) (.tmp 265)⟩,
  ⟨some 7,none,.asg (.const (.bool true))⟩])
theorem zMe:zAj Try.prog 0 (cL (cR (cR (cR (cR (cR (cR (cR (cR (cR (cR (cR (Try.f58.body.getD .skip))))))))))))) zAk=some (zEj,zAk):=by kernel_rfl
theorem zMd:zAj Try.prog 0 (cR (cR (cR (cR (cR (cR (cR (cR (cR (cR (cR (cR (Try.f58.body.getD .skip))))))))))))) zAk=some (.ret,zAk):=by kernel_rfl
def code_spec_l24Merge:VCode:=(.seq (.ops [
  ⟨some 6,none,.alloc [(.slice none 0 0),(.slice none 0 0),(.slice none 0 0)]⟩,
  ⟨some 7,none,.asg (.const (.bool false))⟩]) (.seq zFq (.seq (.seq (.ops [
  ⟨some 9,none,.asg (.const (.int .i64 0))⟩]) (.block 0 (.loop zFj (.seq (.seq (.ops [
  ⟨some 26,none,.mv (.tmp 9)⟩,
  ⟨some 27,none,.bin .leq (.tmp 26) (.const (.int .i64 119))⟩]) (.cond (.tmp 27) .skip (.exit 0))) (.seq (.block 1 (.seq zFp zFo)) zFn))))) (.seq (.seq zFm (.cond (.tmp 66) (.seq zE1 .ret) .skip)) (.seq zE0 (.seq (.ops [
  ⟨some 10,none,.asg (.const (.bool true))⟩]) (.seq (.block 2 (.loop zFi (.seq (.seq (.ops [
  ⟨some 72,none,.mv (.tmp 10)⟩]) (.cond (.tmp 72) .skip (.exit 2))) (.block 3 (.seq (.ops [
  ⟨some 10,none,.asg (.const (.bool false))⟩]) (.seq (.ops [
  ⟨some 11,none,.asg (.const (.int .i64 0))⟩]) (.block 4 (.loop zFh (.seq (.seq zEz (.cond (.tmp 79) .skip (.exit 4))) (.seq (.block 5 (.seq (.ops [
  ⟨some 12,none,.asg (.const (.int .i64 0))⟩]) (.block 6 (.loop zFg (.seq (.seq zEy (.cond (.tmp 84) .skip (.exit 6))) (.seq (.block 7 (.seq zB3 (.seq zB2 (.seq (.seq zB1 (.cond (.tmp 136) (.exit 7) .skip)) (.seq (.seq zDi (.cond (.tmp 141) (.seq zEx .ret) .skip)) (.seq zEw (.cond (.tmp 146) (.ops [
  ⟨some 10,none,.asg (.const (.bool true))⟩]) .skip))))))) zB0)))))) zEv)))))))))) (.seq zEu (.seq (.seq (.ops [
  ⟨some 16,none,.asg (.const (.int .i64 0))⟩]) (.block 8 (.loop zFf (.seq (.seq zEt (.cond (.tmp 154) .skip (.exit 8))) (.seq (.block 9 zEs) zEr))))) (.seq (.seq (.ops [
  ⟨some 17,none,.asg (.const (.int .i64 0))⟩]) (.block 10 (.loop zFe (.seq (.seq zEq (.cond (.tmp 181) .skip (.exit 10))) (.seq (.block 11 zEp) zEo))))) (.seq (.seq (.ops [
  ⟨some 18,none,.asg (.const (.int .i64 0))⟩]) (.block 12 (.loop zFd (.seq (.seq zEn (.cond (.tmp 208) .skip (.exit 12))) (.seq (.block 13 (.seq zEm (.seq zEl (.seq zEk (.cond (.tmp 258) zDh .skip))))) zBz))))) (.seq zEj .ret))))))))))))
theorem zQb {a0 a1 a2 d:D}(h:code_spec_l24Merge.wp (CT Try.prog NoG) (zHy [(.c 6 3 true),(.t 7)] d) [a0,a1,a2,.undef,.undef,.undef,.undef,.undef,.undef,.undef,.undef,.undef,.undef,.undef,.undef,.undef,.undef,.undef,.undef,.undef,.undef,.undef,.undef,.undef,.undef,.undef,.undef,.undef,.undef,.undef,.undef,.undef,.undef,.undef,.undef,.undef,.undef,.undef,.undef,.undef,.undef,.undef,.undef,.undef,.undef,.undef,.undef,.undef,.undef,.undef,.undef,.undef,.undef,.undef,.undef,.undef,.undef,.undef,.undef,.undef,.undef,.undef,.undef,.undef,.undef,.undef,.undef,.undef,.undef,.undef,.undef,.undef,.undef,.undef,.undef,.undef,.undef,.undef,.undef,.undef,.undef,.undef,.undef,.undef,.undef,.undef,.undef,.undef,.undef,.undef,.undef,.undef,.undef,.undef,.undef,.undef,.undef,.undef,.undef,.undef,.undef,.undef,.undef,.undef,.undef,.undef,.undef,.undef,.undef,.undef,.undef,.undef,.undef,.undef,.undef,.undef,.undef,.undef,.undef,.undef,.undef,.undef,.undef,.undef,.undef,.undef,.undef,.undef,.undef,.undef,.undef,.undef,.undef,.undef,.undef,.undef,.undef,.undef,.undef,.undef,.undef,.undef,.undef,.undef,.undef,.undef,.undef,.undef,.undef,.undef,.undef,.undef,.undef,.undef,.undef,.undef,.undef,.undef,.undef,.undef,.undef,.undef,.undef,.undef,.undef,.undef,.undef,.undef,.undef,.undef,.undef,.undef,.undef,.undef,.undef,.undef,.undef,.undef,.undef,.undef,.undef,.undef,.undef,.undef,.undef,.undef,.undef,.undef,.undef,.undef,.undef,.undef,.undef,.undef,.undef,.undef,.undef,.undef,.undef,.undef,.undef,.undef,.undef,.undef,.undef,.undef,.undef,.undef,.undef,.undef,.undef,.undef,.undef,.undef,.undef,.undef,.undef,.undef,.undef,.undef,.undef,.undef,.undef,.undef,.undef,.undef,.undef,.undef,.undef,.undef,.undef,.undef,.undef,.undef,.undef,.undef,.undef,.undef,.undef,.undef,.undef,.undef,.undef,.undef,.undef,.undef,.undef,.undef,.undef,.undef,.undef,.undef,.undef,.undef,.undef,.undef,.undef,.undef,.undef,.undef,.undef,.undef,.undef,.undef,.undef,.undef]):Contract Try.prog NoG 58 [a0,a1,a2] d :=
  zAo (pt:=0) noG Try.func58 (fun us W=>by kernel_rfl) (c:=Try.f58.body.getD .skip) (ms:=[zFj,zFi,zFh,zFg,zFf,zFe,zFd]) (ms':=[]) (by kernel_rfl) (zAm zPn (zAm zPm (zAm (zAm zPl (zCd (zI7 (zAm (zAm zPk (zCb zPj zPi)) (zAm (zCd (zAm zPh zPg)) zPf))))) (zAm (zAm zPe (zCb (zAm zNw zNv) zNu)) (zAm zNt (zAm zNs (zAm (zCd (zI7 (zAm (zAm zNr (zCb zNq zNp)) (zCd (zAm zNo (zAm zNn (zCd (zI7 (zAm (zAm zNm (zCb zNl zNk)) (zAm (zCd (zAm zNj (zCd (zI7 (zAm (zAm zNi (zCb zNh zNg)) (zAm (zCd (zAm zNf (zAm zNe (zAm (zAm zNd (zCb zNc zNb)) (zAm (zAm zNa (zCb (zAm zM9 zM8) zM7)) (zAm zM6 (zCb zM5 zM4))))))) zM3)))))) zM2)))))))))) (zAm zM1 (zAm (zAm zM0 (zCd (zI7 (zAm (zAm zMz (zCb zMy zMx)) (zAm (zCd zMw) zMv))))) (zAm (zAm zMu (zCd (zI7 (zAm (zAm zMt (zCb zMs zMr)) (zAm (zCd zMq) zMp))))) (zAm (zAm zMo (zCd (zI7 (zAm (zAm zMn (zCb zMm zMl)) (zAm (zCd (zAm zMk (zAm zMj (zAm zMi (zCb zMh zMg))))) zMf))))) (zAm zMe zMd)))))))))))) (by kernel_rfl) h
end Go.Proofs.Ytaleehohmpohoaa
