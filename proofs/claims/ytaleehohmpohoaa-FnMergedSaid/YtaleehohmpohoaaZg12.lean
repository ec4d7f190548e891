/- Laws that the proof stands on. -/
import Derived.Test.YtaleehohmpohoaaZVB
import Derived.Test.YtaleehohmpohoaaProg
import Derived.Test.YtaleehohmpohoaaZVSeg
set_option linter.all false
namespace Go.Proofs.Ytaleehohmpohoaa
open Go.RowKit Go.V
attribute [local go_sem] xD4 xDy xDz xDv xDu xEb xD9 xEn xEa xFu xEi xE3 xEc xFd xEv xE2 xD7 xEd xEk xFg Value.oneCell' xFf xEy xFh xFl xFm xDw xD5 and_true true_and beq_self_eq_true xDr if_true if_false xEm Nat.reduceAdd Nat.reduceMul Nat.reduceLeDiff xD8 xEu xEt not_true_eq_false not_false_eq_true ne_eq reduceCtorEq xE1 bne_self_eq_false Nat.reduceEqDiff List.isPrefixOf xEs xFe xE0 xFt xFi decide_true decide_false Nat.reduceBEq Nat.reduceBNe xEl xEr exists_eq_left' exists_eq_left xDi or_false or_true true_or false_or xDk xFa mB Nat.reduceMod Nat.reduceDiv
set_option maxRecDepth 100000
def inR (lo hi n:Int):Bool:=decide (lo≤n)&&decide (n≤hi)
theorem inR_iff {lo hi n:Int}:inR lo hi n=true↔lo≤n∧n≤hi:=by simp [inR]
def code_spec_l00In:VCode:=(.seq (.ops [
  ⟨some 6,none,.asg (.const (.bool false))⟩]) (.seq (.ops [
  ⟨some 7,none,.mv (.tmp 0)⟩,
  ⟨some 8,none,.mv (.tmp 1)⟩,
  ⟨some 9,none,.bin .geq (.tmp 7) (.tmp 8)⟩,
  ⟨some 10,none,.mv (.tmp 9)⟩,
  ⟨some 11,some (10,true),.mv (.tmp 0)⟩,
  ⟨some 12,some (10,true),.mv (.tmp 2)⟩,
  ⟨some 13,some (10,true),.bin .leq (.tmp 11) (.tmp 12)⟩,
  ⟨some 14,none,.pick (.tmp 10) (.tmp 13) (.const (.bool false))⟩,
  ⟨some 6,none,.asg (.tmp 14)⟩]) .ret))
theorem zR5 {a0 a1 a2 d:D}(h:code_spec_l00In.wp (CT Try.prog NoG) (zG3 [(.t 6)] d) [a0,a1,a2,.undef,.undef,.undef,.undef,.undef,.undef,.undef,.undef,.undef,.undef,.undef,.undef]):Contract Try.prog NoG 45 [a0,a1,a2] d :=
  zAt (pt:=0) noG Try.func45 (fun us W=>by kernel_rfl) (c:=Try.f45.body.getD .skip) (ms:=[]) (ms':=[]) (by kernel_rfl) (by kernel_rfl) (by kernel_rfl) h
theorem zD7 (a b c:Int):Contract Try.prog NoG 45 [.v (.int .i64 a),.v (.int .i64 b),.v (.int .i64 c)] (.v (.bool (inR b c a))):=by
  refine zR5 ?_;unfold code_spec_l00In inR;simp -implicitDefEqProofs (disch:=omega) only [go_sem,↓reduceIte];refine zRi ?_ ?_<;>intro h
  · simp -implicitDefEqProofs (disch:=omega) only [go_sem,↓reduceIte ,h]
  · simp -implicitDefEqProofs (disch:=omega) only [go_sem,↓reduceIte ,h]
def code_impl_within:VCode:=(.seq (.ops [
  ⟨some 6,none,.asg (.const (.bool false))⟩]) (.seq (.ops [
  ⟨some 7,none,.mv (.tmp 0)⟩,
  ⟨some 8,none,.mv (.tmp 1)⟩,
  ⟨some 9,none,.bin .geq (.tmp 7) (.tmp 8)⟩,
  ⟨some 10,none,.mv (.tmp 9)⟩,
  ⟨some 11,some (10,true),.mv (.tmp 0)⟩,
  ⟨some 12,some (10,true),.mv (.tmp 2)⟩,
  ⟨some 13,some (10,true),.bin .leq (.tmp 11) (.tmp 12)⟩,
  ⟨some 14,none,.pick (.tmp 10) (.tmp 13) (.const (.bool false))⟩,
  ⟨some 6,none,.asg (.tmp 14)⟩]) .ret))
theorem zRe {a0 a1 a2 d:D}(h:code_impl_within.wp (CT Try.prog NoG) (zG3 [(.t 6)] d) [a0,a1,a2,.undef,.undef,.undef,.undef,.undef,.undef,.undef,.undef,.undef,.undef,.undef,.undef]):Contract Try.prog NoG 48 [a0,a1,a2] d :=
  zAt (pt:=0) noG Try.func48 (fun us W=>by kernel_rfl) (c:=Try.f48.body.getD .skip) (ms:=[]) (ms':=[]) (by kernel_rfl) (by kernel_rfl) (by kernel_rfl) h
theorem zGq (a b c:Int):Contract Try.prog NoG 48 [.v (.int .i64 a),.v (.int .i64 b),.v (.int .i64 c)] (.v (.bool (inR b c a))):=by
  refine zRe ?_;unfold code_impl_within inR;simp -implicitDefEqProofs (disch:=omega) only [go_sem,↓reduceIte];refine zRi ?_ ?_<;>intro h
  · simp -implicitDefEqProofs (disch:=omega) only [go_sem,↓reduceIte ,h]
  · simp -implicitDefEqProofs (disch:=omega) only [go_sem,↓reduceIte ,h]
def code_impl_isIndex:VCode:=(.seq (.ops [
  ⟨some 4,none,.asg (.const (.bool false))⟩]) (.seq (.ops [
  ⟨some 5,none,.mv (.tmp 0)⟩,
  ⟨some 6,none,.mv (.tmp 1)⟩,
  ⟨some 7,none,.bin .sub (.tmp 6) (.const (.int .i64 1))⟩,
  ⟨some 8,none,.callX 48 [(.tmp 5),(.const (.int .i64 0)),(.tmp 7)]⟩,
  ⟨some 4,none,.asg (.tmp 8)⟩]) .ret))
theorem zPl {a0 a1 d:D}(h:code_impl_isIndex.wp (CT Try.prog NoG) (zG3 [(.t 4)] d) [a0,a1,.undef,.undef,.undef,.undef,.undef,.undef,.undef]):Contract Try.prog NoG 55 [a0,a1] d :=
  zAt (pt:=0) noG Try.func55 (fun us W=>by kernel_rfl) (c:=Try.f55.body.getD .skip) (ms:=[]) (ms':=[]) (by kernel_rfl) (by kernel_rfl) (by kernel_rfl) h
theorem zU0 (i n:Int)(h1:0≤n)(h2:n≤1099511627776):Contract Try.prog NoG 55 [.v (.int .i64 i),.v (.int .i64 n)] (.v (.bool (inR 0 (n-1) i))):=by refine zPl ?_;unfold code_impl_isIndex;have hw:IntKind.i64.wrap (n-1)=n-1:=wrI (by omega) (by omega);simp -implicitDefEqProofs (disch:=omega) only [go_sem,↓reduceIte ,hw];refine zAs (zGq _ _ _) (by simp -implicitDefEqProofs (disch:=omega) only [go_sem,↓reduceIte,deep,TD.rows,zAf,zAc,zAg,zAb,zAd,zAa];exact rfl) ?_;simp -implicitDefEqProofs (disch:=omega) only [go_sem,↓reduceIte]
def code_slices_IndexFunc_int64_int64:VCode:=(.seq (.ops [
  ⟨some 4,none,.asg (.const (.int .i64 0))⟩]) (.seq (.seq (.ops [
  ⟨some 6,none,.mv (.tmp 0)⟩,
  ⟨some 7,none,.len (.tmp 6)⟩,
  ⟨some 8,none,.mv (.const (.int .i64 0))⟩]) (.block 0 (.loop (mB 19 523900) (.seq (.ops [
  ⟨some 9,none,.bin .lss (.tmp 8) (.tmp 7)⟩]) (.seq (.cond (.tmp 9) .skip (.exit 0)) (.seq (.block 1 (.seq (.ops [
  ⟨some 10,none,.mv (.tmp 8)⟩,
  ⟨some 5,none,.asg (.tmp 10)⟩]) (.seq (.ops [
  ⟨some 11,none,.mv (.tmp 1)⟩,
  ⟨some 12,none,.mv (.tmp 0)⟩,
  ⟨some 13,none,.mv (.tmp 5)⟩,
  ⟨some 14,none,.ia 1 (.tmp 12) (.tmp 13)⟩,
  ⟨some 15,none,.load 1 false (.tmp 14)⟩,
  ⟨some 16,none,.callvX (.tmp 11) [(.tmp 15)]⟩]) (.cond (.tmp 16) (.seq (.ops [
  ⟨some 17,none,.mv (.tmp 5)⟩,
  ⟨some 4,none,.asg (.tmp 17)⟩]) .ret) .skip)))) (.ops [
  ⟨some 18,none,.bin .add (.tmp 8) (.const (.int .i64 1))⟩,
  ⟨some 8,none,.mv (.tmp 18)⟩]))))))) (.seq (.ops [
  ⟨some 4,none,.asg (.const (.int .i64 (-1)))⟩]) .ret)))
theorem zFg {a0 a1 d:D}(h:code_slices_IndexFunc_int64_int64.wp (CT Try.prog NoG) (zG3 [(.t 4)] d) [a0,a1,.undef,.undef,.undef,.undef,.undef,.undef,.undef,.undef,.undef,.undef,.undef,.undef,.undef,.undef,.undef,.undef,.undef]):Contract Try.prog NoG 115 [a0,a1] d :=
  zAt (pt:=0) noG Try.func115 (fun us W=>by kernel_rfl) (c:=Try.f115.body.getD .skip) (ms:=[(mB 19 523900)]) (ms':=[]) (by kernel_rfl) (by kernel_rfl) (by kernel_rfl) h
theorem zOb (f:FuncId)(caps:List D)(hd:CapsOK caps)(xs:List Int)(p:Int→Bool)(hc:∀ x,x∈xs→Contract Try.prog NoG f (.v (.int .i64 x)::caps) (.v (.bool (p x))))(hn:xs.length≤1099511627776) :
    Contract Try.prog NoG 115 [.sl false 1 (xs.map (rI)),.fn f [] caps] (.v (.int .i64 (yId p xs))):=by
  refine zFg ?_;unfold code_slices_IndexFunc_int64_int64;simp -implicitDefEqProofs (disch:=omega) only [go_sem,↓reduceIte ,hd.owny,hd.pr];refine zT8 (fun i:Nat=>[.sl false 1 (xs.map (rI)),.fn f [] caps,.undef,.undef,.undef,.undef,.undef,.v (.int .i64 (xs.map (rI)).length),.v (.int .i64 i),.undef,.undef,.undef,.undef,.undef,.undef,.undef,.undef,.undef,.undef]) (fun i=>i≤xs.length∧∀ j (hj:j<xs.length),j<i→p xs[j]=false) (fun i=>xs.length-i) 0 ?_ ⟨xE9 _,fun j _ h=>absurd h (Nat.not_lt_zero _)⟩ ?_
  · simp -implicitDefEqProofs (disch:=omega) only [go_sem,↓reduceIte ,hd.owny,hd.pr]
    (try simp -implicitDefEqProofs only [zCz,zCy,zB6,zB8,zB9,zB7,and_self,and_true,true_and])<;>repeat' (first | exact zBr rfl | exact zCu | apply And.intro | apply zD3 | apply zBb | apply zBl | exact zB1 | exact zBs | apply zCv | apply zCw)
  rintro i ⟨hi,ha⟩;simp -implicitDefEqProofs (disch:=omega) only [go_sem,↓reduceIte ,xDj,xDo,xD3,xDp,xDm,xDk,hd.owny,hd.pr];refine zAu ?_ ?_<;>intro hlt
  · have hlt:i<xs.length:=(by simpa using hlt);have hx:=xDl hlt;simp -implicitDefEqProofs (disch:=omega) only [go_sem,↓reduceIte ,xDj,xDo,xD3,xDp,xDm,xDk,hlt,hx,hd.owny,hd.pr];have hcx:=hc _ (xEo hlt);refine zZs (f:=f) (first:=[]) (caps:=caps) ?_ hcx ?_ (.inl rfl) ?_
    · simp -implicitDefEqProofs (disch:=omega) only [go_sem,↓reduceIte ,hd.owny]
    · refine zA1 ?_;simp only [xEd,xD7,xDu,xEb,hd.d8,xEz];simp only [deep,raw,xD4,xDy,xDu,xEb,TD.rows,zAf,zAc,zAg,zAb]
    simp -implicitDefEqProofs (disch:=omega) only [go_sem,↓reduceIte ,hd.owny,hd.pr];refine zAu ?_ ?_<;>intro hp
    · simp -implicitDefEqProofs (disch:=omega) only [go_sem,↓reduceIte ,hd.owny,hd.pr];rw [zTq p xs i hlt ha hp]
    · simp -implicitDefEqProofs (disch:=omega) only [go_sem,↓reduceIte ,wrN,hd.owny,hd.pr];refine ⟨i+1,by omega,⟨hlt,fun j hj h=>?_⟩,zEx⟩;rcases xJb j i with h' | h'
      · exact ha j hj h'
      · have:j=i:=(by omega);subst this;exact hp
  · have hlt:¬ i<xs.length:=(by simpa using hlt);simp -implicitDefEqProofs (disch:=omega) only [go_sem,↓reduceIte];rw [zQk p xs (fun j hj=>ha j hj (by omega))]
def code_slices_ContainsFunc_int64_int64:VCode:=(.seq (.ops [
  ⟨some 4,none,.asg (.const (.bool false))⟩]) (.seq (.ops [
  ⟨some 5,none,.mv (.tmp 0)⟩,
  ⟨some 6,none,.mv (.tmp 1)⟩,
  ⟨some 7,none,.callX 115 [(.tmp 5),(.tmp 6)]⟩,
  ⟨some 8,none,.bin .geq (.tmp 7) (.const (.int .i64 0))⟩,
  ⟨some 4,none,.asg (.tmp 8)⟩]) .ret))
theorem zEa {a0 a1 d:D}(h:code_slices_ContainsFunc_int64_int64.wp (CT Try.prog NoG) (zG3 [(.t 4)] d) [a0,a1,.undef,.undef,.undef,.undef,.undef,.undef,.undef]):Contract Try.prog NoG 103 [a0,a1] d :=
  zAt (pt:=0) noG Try.func103 (fun us W=>by kernel_rfl) (c:=Try.f103.body.getD .skip) (ms:=[]) (ms':=[]) (by kernel_rfl) (by kernel_rfl) (by kernel_rfl) h
theorem zJu (f:FuncId)(caps:List D)(hd:CapsOK caps)(xs:List Int)(p:Int→Bool)(hc:∀ x,x∈xs→Contract Try.prog NoG f (.v (.int .i64 x)::caps) (.v (.bool (p x))))(hn:xs.length≤1099511627776) :
    Contract Try.prog NoG 103 [.sl false 1 (xs.map (rI)),.fn f [] caps] (.v (.bool (xs.any p))):=by
  refine zEa ?_;unfold code_slices_ContainsFunc_int64_int64;simp -implicitDefEqProofs (disch:=omega) only [go_sem,↓reduceIte ,hd.owny,hd.pr];refine zX1 (zOb f caps hd xs p hc hn) ?_ (.inl rfl) ?_
  · refine zA1 ?_;simp only [xDu,xEb,deep,raw,xD4,xDy,TD.rows,zAf,zAc,zAg,zAb,hd.owny,hd.pr,hd.d7]
    try rfl
  simp -implicitDefEqProofs (disch:=omega) only [go_sem,↓reduceIte];exact congrArg Value.bool (zYa p xs)
def code_impl_below_1:VCode:=(.seq (.ops [
  ⟨some 3,none,.asg (.const (.bool false))⟩]) (.seq (.ops [
  ⟨some 4,none,.mv (.tmp 0)⟩,
  ⟨some 5,none,.load 1 false (.tmp 1)⟩,
  ⟨some 6,none,.bin .sub (.tmp 5) (.const (.int .i64 1))⟩,
  ⟨some 7,none,.callX 48 [(.tmp 4),(.const (.int .i64 0)),(.tmp 6)]⟩,
  ⟨some 8,none,.un .not (.tmp 7)⟩,
  ⟨some 3,none,.asg (.tmp 8)⟩]) .ret))
theorem zPo {a0 a1 d:D}(h:code_impl_below_1.wp (CT Try.prog NoG) (zG3 [(.t 3)] d) [a0,a1,.undef,.undef,.undef,.undef,.undef,.undef,.undef]):Contract Try.prog NoG 104 [a0,a1] d :=
  zAt (pt:=0) noG Try.func104 (fun us W=>by kernel_rfl) (c:=Try.f104.body.getD .skip) (ms:=[]) (ms':=[]) (by kernel_rfl) (by kernel_rfl) (by kernel_rfl) h
def code_impl_below:VCode:=(.seq (.ops [
  ⟨some 3,none,.box (.tmp 1)⟩,
  ⟨some 4,none,.asg (.const (.bool false))⟩]) (.seq (.ops [
  ⟨some 5,none,.mv (.tmp 0)⟩,
  ⟨some 6,none,.mkf 104 [] [(.tmp 3)]⟩,
  ⟨some 7,none,.callX 103 [(.tmp 5),(.tmp 6)]⟩,
  ⟨some 8,none,.un .not (.tmp 7)⟩,
  ⟨some 4,none,.asg (.tmp 8)⟩]) .ret))
theorem zR7 {a0 a1 d:D}(h:code_impl_below.wp (CT Try.prog NoG) (zG3 [(.t 4)] d) [a0,a1,.undef,.undef,.undef,.undef,.undef,.undef,.undef]):Contract Try.prog NoG 86 [a0,a1] d :=
  zAt (pt:=0) noG Try.func86 (fun us W=>by kernel_rfl) (c:=Try.f86.body.getD .skip) (ms:=[]) (ms':=[]) (by kernel_rfl) (by kernel_rfl) (by kernel_rfl) h
theorem yIq (n l:Int)(hl:0≤l)(hl2:l≤1099511627776):Contract Try.prog NoG 104 [.v (.int .i64 n),.iptr [.v (.int .i64 l)] 0] (.v (.bool (!inR 0 (l-1) n))):=by refine zPo ?_;unfold code_impl_below_1;have hw:IntKind.i64.wrap (l-1)=l-1:=wrI (by omega) (by omega);simp -implicitDefEqProofs (disch:=omega) only [go_sem,↓reduceIte ,hw];refine zAs (zGq n 0 (l-1)) (by simp -implicitDefEqProofs (disch:=omega) only [go_sem,↓reduceIte,deep,TD.rows,zAf,zAc,zAg,zAb,zAd,zAa];exact rfl) ?_;simp -implicitDefEqProofs (disch:=omega) only [go_sem,↓reduceIte]
theorem yC3 (xs:List Int)(l:Int)(hl:0≤l)(hl2:l≤1099511627776)(hn:xs.length≤1048576):Contract Try.prog NoG 86 [.sl false 1 (xs.map rI),.v (.int .i64 l)] (.v (.bool (xs.all (inR 0 (l-1))))):=by refine zR7 ?_;unfold code_impl_below;simp -implicitDefEqProofs (disch:=omega) only [go_sem,↓reduceIte];refine zAs (zJu _ [.iptr [.v (.int .i64 l)] 0] ⟨rfl,fun _=>rfl,fun _=>rfl,fun _=>rfl⟩ xs (fun n=>!inR 0 (l-1) n) (fun x _=>yIq x l hl hl2) (by omega)) (by simp -implicitDefEqProofs (disch:=omega) only [go_sem,↓reduceIte,deep,TD.rows,zAf,zAc,zAg,zAb,zAd,zAa,zO0,xIf];exact rfl) ?_;simp -implicitDefEqProofs (disch:=omega) only [go_sem,↓reduceIte ,zO0,xIf]
def code_slices_Clone_int64_int64:VCode:=(.seq (.ops [
  ⟨some 2,none,.asg (.const (.slice none 0 0))⟩]) (.seq (.seq (.ops [
  ⟨some 3,none,.mv (.tmp 0)⟩,
  ⟨some 4,none,.isnil false (.tmp 3)⟩]) (.cond (.tmp 4) (.seq (.ops [
  ⟨some 2,none,.asg (.const (.slice none 0 0))⟩]) .ret) .skip)) (.seq (.ops [
  ⟨some 5,none,.bsl 1 []⟩,
  ⟨some 6,none,.mv (.tmp 0)⟩,
  ⟨some 7,none,.app 1 8 (.tmp 5) (.tmp 6)⟩,
  ⟨some 2,none,.asg (.tmp 7)⟩]) .ret)))
theorem zF9 {a0 d:D}(h:code_slices_Clone_int64_int64.wp (CT Try.prog NoG) (zG3 [(.t 2)] d) [a0,.undef,.undef,.undef,.undef,.undef,.undef,.undef]):Contract Try.prog NoG 69 [a0] d :=
  zAt (pt:=0) noG Try.func69 (fun us W=>by kernel_rfl) (c:=Try.f69.body.getD .skip) (ms:=[]) (ms':=[]) (by kernel_rfl) (by kernel_rfl) (by kernel_rfl) h
theorem zTp (xs:List Int)(hn:xs.length≤1048576):Contract Try.prog NoG 69 [.sl false 1 (xs.map rI)] (.sl true 1 (xs.map rI)):=by
  refine zF9 ?_;unfold code_slices_Clone_int64_int64;simp -implicitDefEqProofs (disch:=omega) only [go_sem,↓reduceIte];refine zXo (fun b hb=>?_);simp -implicitDefEqProofs (disch:=omega) only [go_sem,↓reduceIte];refine zAu ?_ ?_<;>intro h
  · simp -implicitDefEqProofs (disch:=omega) only [go_sem,↓reduceIte];exact hb (by rw [h];rfl)
  · simp -implicitDefEqProofs (disch:=omega) only [go_sem,↓reduceIte ,xDj]
    first | omega | exact ⟨by omega,rfl⟩
abbrev zE1:List Bool:=(mB 266 0x3fffffffffffffffffffffffffffffffffffffffffffffffffffffffffffc1b7ebe)
abbrev zE2:List Bool:=(mB 266 0x3fffffffffffffffffffffffffffffffffffffffffffffffffffffffffffc1d7ebe)
abbrev zE3:List Bool:=(mB 266 0x3fffffffffffffffffffffffffffffffffffffffffffffffffffffffffffc1e7ebe)
abbrev zE4:List Bool:=(mB 266 0x3fffffffffffffffffffffffffffffffffffffffffffffffffffffffffffc1fe2be)
abbrev zE5:List Bool:=(mB 266 0x3fffffffffffffffffffffffffffffffffffffffffffffffffffffffffffc1ff2be)
abbrev zE6:List Bool:=(mB 266 0x3fffffffffffffffffffffffffffffffffffffffffffffffffffffffffffc1ffabe)
abbrev zE7:List Bool:=(mB 266 0x3fffffffffffffffffffffffffffffffffffffffffffffffffffffffffffc1ffcb8)
abbrev zAp:List (List Bool):=[]
abbrev zAz:List (List Bool):=zE1::zAp
abbrev zA0:List (List Bool):=zE2::zAz
abbrev zAk:List (List Bool):=zE3::zA0
abbrev zBg:List (List Bool):=zE4::zAk
abbrev zA3:List (List Bool):=zE5::zBg
abbrev zAo:List (List Bool):=zE6::zA3
abbrev zCl:List (List Bool):=zE7::zAo
theorem zNt:zAr Try.prog 0 (cL (Try.f58.body.getD .skip)) zCl=some ((.ops [
  ⟨some 6,none,.alloc [(.slice none 0 0),(.slice none 0 0),(.slice none 0 0)]⟩,
  ⟨some 7,none,.asg (.const (.bool false))⟩]),zCl):=by kernel_rfl
def zFe:VCode:=(.ops [
  ⟨some 21,none,.mv (.tmp 0)⟩,
  ⟨some 22,none,.nilc (.tmp 21)⟩,
  ⟨some 23,none,.load 3 true (.tmp 22)⟩,
  ⟨some 24,none,.build [(.slice none 0 0),(.slice none 0 0),(.slice none 0 0),(.slice none 0 0),(.slice none 0 0)] [(0,3,(.tmp 23))]⟩,
  ⟨some 25,none,.box (.tmp 24)⟩,
  ⟨some 8,none,.asg (.tmp 25)⟩])
theorem zNs:zAr Try.prog 0 (cL (cR (Try.f58.body.getD .skip))) zCl=some (zFe,zCl):=by kernel_rfl
theorem zNr:zAr Try.prog 0 (cL (cL (cR (cR (Try.f58.body.getD .skip))))) zCl=some ((.ops [
  ⟨some 9,none,.asg (.const (.int .i64 0))⟩]),zCl):=by kernel_rfl
theorem zNq:zAr Try.prog 0 (cL (cL (cL (cL (cR (cL (cR (cR (Try.f58.body.getD .skip))))))))) zAo=some ((.ops [
  ⟨some 26,none,.mv (.tmp 9)⟩,
  ⟨some 27,none,.bin .leq (.tmp 26) (.const (.int .i64 119))⟩]),zAo):=by kernel_rfl
theorem zNp:zAr Try.prog 0 (cL (cR (cL (cL (cL (cR (cL (cR (cR (Try.f58.body.getD .skip)))))))))) zAo=some (.skip,zAo):=by kernel_rfl
theorem zNo:zAr Try.prog 0 (cR (cR (cL (cL (cL (cR (cL (cR (cR (Try.f58.body.getD .skip)))))))))) zAo=some ((.exit 0),zAo):=by kernel_rfl
def zFd:VCode:=(.ops [
  ⟨some 30,none,.mv (.tmp 8)⟩,
  ⟨some 31,none,.mv (.tmp 8)⟩,
  ⟨some 32,none,.nilc (.tmp 31)⟩,
  ⟨some 33,none,.fa 3 (.tmp 32)⟩,
  ⟨some 34,none,.load 1 false (.tmp 33)⟩,
  ⟨some 35,none,.mv (.tmp 9)⟩,
  ⟨some 36,none,.bsl 1 [(.tmp 35)]⟩,
  ⟨some 37,none,.app 1 8 (.tmp 34) (.tmp 36)⟩,
  ⟨some 38,none,.nilc (.tmp 30)⟩,
  ⟨some 39,none,.fa 3 (.tmp 38)⟩,
  ⟨none,none,.store 1 (.tmp 39) (.tmp 37)⟩])
theorem zNn:zAr Try.prog 0 (cL (cL (cL (cR (cL (cL (cR (cL (cR (cR (Try.f58.body.getD .skip))))))))))) zAo=some (zFd,zAo):=by kernel_rfl
def zFc:VCode:=(.ops [
  ⟨some 40,none,.mv (.tmp 8)⟩,
  ⟨some 41,none,.mv (.tmp 8)⟩,
  ⟨some 42,none,.nilc (.tmp 41)⟩,
  ⟨some 43,none,.fa 4 (.tmp 42)⟩,
  ⟨some 44,none,.load 1 false (.tmp 43)⟩,
  ⟨some 45,none,.mv (.tmp 9)⟩,
  ⟨some 46,none,.bsl 1 [(.tmp 45)]⟩,
  ⟨some 47,none,.app 1 8 (.tmp 44) (.tmp 46)⟩,
  ⟨some 48,none,.nilc (.tmp 40)⟩,
  ⟨some 49,none,.fa 4 (.tmp 48)⟩,
  ⟨none,none,.store 1 (.tmp 49) (.tmp 47)⟩])
theorem zNm:zAr Try.prog 0 (cR (cL (cL (cR (cL (cL (cR (cL (cR (cR (Try.f58.body.getD .skip))))))))))) zAo=some (zFc,zAo):=by kernel_rfl
def zFb:VCode:=(.ops [
  ⟨some 28,none,.mv (.tmp 9)⟩,
  ⟨some 29,none,.bin .add (.tmp 28) (.const (.int .i64 1))⟩,
  ⟨some 9,none,.asg (.tmp 29)⟩])
theorem zNl:zAr Try.prog 0 (cR (cR (cL (cL (cR (cL (cR (cR (Try.f58.body.getD .skip))))))))) zAo=some (zFb,zAo):=by kernel_rfl
def zFa:VCode:=(.draw (mB 66 0x3fffc000000000000) [] [⟨0,mB 66 0x3fffc000000000000,[],⟨some 50,none,.mv (.tmp 0)⟩⟩,⟨1,mB 66 0x3fff8000000000000,[],⟨some 51,none,.nilc (.tmp 50)⟩⟩,⟨2,mB 66 0x3fff0000000000000,[],⟨some 52,none,.fa 2 (.tmp 51)⟩⟩,⟨3,mB 66 0x3ffe0000000000000,[],⟨some 53,none,.load 1 false (.tmp 52)⟩⟩,⟨4,mB 66 0x3fffc000000000000,[],⟨some 54,none,.mv (.tmp 1)⟩⟩,⟨5,mB 66 0x3ff80000000000000,[],⟨some 55,none,.ia 5 (.tmp 53) (.tmp 54)⟩⟩,⟨6,mB 66 0x3ff00000000000000,[],⟨some 56,none,.fa 0 (.tmp 55)⟩⟩,⟨7,mB 66 0x3fe00000000000000,[],⟨some 57,none,.load 1 false (.tmp 56)⟩⟩,⟨8,mB 66 0x3fffc000000000000,[],⟨some 58,none,.mv (.tmp 0)⟩⟩,⟨9,mB 66 0x3fbfc000000000000,[],⟨some 59,none,.nilc (.tmp 58)⟩⟩,⟨10,mB 66 0x3f3fc000000000000,[],⟨some 60,none,.fa 2 (.tmp 59)⟩⟩,⟨11,mB 66 0x3e3fc000000000000,[],⟨some 61,none,.load 1 false (.tmp 60)⟩⟩,⟨12,mB 66 0x3fffc000000000000,[],⟨some 62,none,.mv (.tmp 2)⟩⟩,⟨13,mB 66 0x383fc000000000000,[],⟨some 63,none,.ia 5 (.tmp 61) (.tmp 62)⟩⟩,⟨14,mB 66 0x303fc000000000000,[],⟨some 64,none,.fa 0 (.tmp 63)⟩⟩,⟨15,mB 66 0x203fc000000000000,[],⟨some 65,none,.load 1 false (.tmp 64)⟩⟩] [⟨some 66,none,.bin .neq (.tmp 57) (.tmp 65)⟩])
theorem zNk:zAr Try.prog 0 (cL (cL (cR (cR (cR (Try.f58.body.getD .skip)))))) zAo=some (zFa,zAo):=by kernel_rfl
def zEt:VCode:=(.ops [
  ⟨some 67,none,.build [(.slice none 0 0),(.slice none 0 0),(.slice none 0 0)] []⟩,
  ⟨none,none,.store 3 (.tmp 6) (.tmp 67)⟩,
  ⟨some 7,none,.asg (.const (.bool false))⟩])
theorem zL5:zAr Try.prog 0 (cL (cL (cR (cL (cR (cR (cR (Try.f58.body.getD .skip)))))))) zAo=some (zEt,zAo):=by kernel_rfl
theorem zL4:zAr Try.prog 0 (cR (cL (cR (cL (cR (cR (cR (Try.f58.body.getD .skip)))))))) zAo=some (.ret,zAo):=by kernel_rfl
theorem zL3:zAr Try.prog 0 (cR (cR (cL (cR (cR (cR (Try.f58.body.getD .skip))))))) zAo=some (.skip,zAo):=by kernel_rfl
def zEs:VCode:=(.ops [
  ⟨some 68,none,.mv (.tmp 8)⟩,
  ⟨some 69,none,.mv (.tmp 1)⟩,
  ⟨some 70,none,.mv (.tmp 2)⟩,
  ⟨some 71,none,.callX 83 [(.tmp 68),(.tmp 69),(.tmp 70)]⟩])
theorem zL2:zAr Try.prog 0 (cL (cR (cR (cR (cR (Try.f58.body.getD .skip)))))) zAo=some (zEs,zAo):=by kernel_rfl
theorem zL1:zAr Try.prog 0 (cL (cR (cR (cR (cR (cR (Try.f58.body.getD .skip))))))) zAo=some ((.ops [
  ⟨some 10,none,.asg (.const (.bool true))⟩]),zAo):=by kernel_rfl
theorem zL0:zAr Try.prog 0 (cL (cL (cL (cL (cL (cR (cR (cR (cR (cR (cR (Try.f58.body.getD .skip)))))))))))) zA3=some ((.ops [
  ⟨some 72,none,.mv (.tmp 10)⟩]),zA3):=by kernel_rfl
theorem zLz:zAr Try.prog 0 (cL (cR (cL (cL (cL (cL (cR (cR (cR (cR (cR (cR (Try.f58.body.getD .skip))))))))))))) zA3=some (.skip,zA3):=by kernel_rfl
theorem zLy:zAr Try.prog 0 (cR (cR (cL (cL (cL (cL (cR (cR (cR (cR (cR (cR (Try.f58.body.getD .skip))))))))))))) zA3=some ((.exit 2),zA3):=by kernel_rfl
theorem zLx:zAr Try.prog 0 (cL (cL (cR (cL (cL (cL (cR (cR (cR (cR (cR (cR (Try.f58.body.getD .skip))))))))))))) zA3=some ((.ops [
  ⟨some 10,none,.asg (.const (.bool false))⟩]),zA3):=by kernel_rfl
theorem zLw:zAr Try.prog 0 (cL (cR (cL (cR (cL (cL (cL (cR (cR (cR (cR (cR (cR (Try.f58.body.getD .skip)))))))))))))) zA3=some ((.ops [
  ⟨some 11,none,.asg (.const (.int .i64 0))⟩]),zA3):=by kernel_rfl
def zEr:VCode:=(.ops [
  ⟨some 73,none,.mv (.tmp 11)⟩,
  ⟨some 74,none,.mv (.tmp 0)⟩,
  ⟨some 75,none,.nilc (.tmp 74)⟩,
  ⟨some 76,none,.fa 2 (.tmp 75)⟩,
  ⟨some 77,none,.load 1 false (.tmp 76)⟩,
  ⟨some 78,none,.len (.tmp 77)⟩,
  ⟨some 79,none,.bin .lss (.tmp 73) (.tmp 78)⟩])
theorem zLv:zAr Try.prog 0 (cL (cL (cL (cL (cR (cR (cL (cR (cL (cL (cL (cR (cR (cR (cR (cR (cR (Try.f58.body.getD .skip)))))))))))))))))) zBg=some (zEr,zBg):=by kernel_rfl
theorem zLu:zAr Try.prog 0 (cL (cR (cL (cL (cL (cR (cR (cL (cR (cL (cL (cL (cR (cR (cR (cR (cR (cR (Try.f58.body.getD .skip))))))))))))))))))) zBg=some (.skip,zBg):=by kernel_rfl
theorem zLt:zAr Try.prog 0 (cR (cR (cL (cL (cL (cR (cR (cL (cR (cL (cL (cL (cR (cR (cR (cR (cR (cR (Try.f58.body.getD .skip))))))))))))))))))) zBg=some ((.exit 4),zBg):=by kernel_rfl
theorem zLs:zAr Try.prog 0 (cL (cL (cL (cR (cL (cL (cR (cR (cL (cR (cL (cL (cL (cR (cR (cR (cR (cR (cR (Try.f58.body.getD .skip)))))))))))))))))))) zBg=some ((.ops [
  ⟨some 12,none,.asg (.const (.int .i64 0))⟩]),zBg):=by kernel_rfl
def zEq:VCode:=(.ops [
  ⟨some 82,none,.mv (.tmp 12)⟩,
  ⟨some 83,none,.mv (.tmp 11)⟩,
  ⟨some 84,none,.bin .lss (.tmp 82) (.tmp 83)⟩])
theorem zLr:zAr Try.prog 0 (cL (cL (cL (cL (cR (cL (cL (cR (cL (cL (cR (cR (cL (cR (cL (cL (cL (cR (cR (cR (cR (cR (cR (Try.f58.body.getD .skip)))))))))))))))))))))))) zAk=some (zEq,zAk):=by kernel_rfl
theorem zLq:zAr Try.prog 0 (cL (cR (cL (cL (cL (cR (cL (cL (cR (cL (cL (cR (cR (cL (cR (cL (cL (cL (cR (cR (cR (cR (cR (cR (Try.f58.body.getD .skip))))))))))))))))))))))))) zAk=some (.skip,zAk):=by kernel_rfl
theorem zLp:zAr Try.prog 0 (cR (cR (cL (cL (cL (cR (cL (cL (cR (cL (cL (cR (cR (cL (cR (cL (cL (cL (cR (cR (cR (cR (cR (cR (Try.f58.body.getD .skip))))))))))))))))))))))))) zAk=some ((.exit 6),zAk):=by kernel_rfl
def zCh:VCode:=(.ops [
  ⟨some 87,none,.mv (.tmp 0)⟩,
  ⟨some 88,none,.nilc (.tmp 87)⟩,
  ⟨some 89,none,.fa 2 (.tmp 88)⟩,
  ⟨some 90,none,.load 1 false (.tmp 89)⟩,
  ⟨some 91,none,.mv (.tmp 11)⟩,
  ⟨some 92,none,.ia 5 (.tmp 90) (.tmp 91)⟩,
  ⟨some 93,none,.load 5 true (.tmp 92)⟩,
  ⟨some 13,none,.alloc [(.int .i64 0),(.int .i64 0),(.int .i64 0),(.int .i64 0),(.int .i64 0)]⟩,
  ⟨none,none,.store 5 (.tmp 13) (.tmp 93)⟩])
theorem zLo:zAr Try.prog 0 (cL (cL (cL (cR (cL (cL (cR (cL (cL (cR (cL (cL (cR (cR (cL (cR (cL (cL (cL (cR (cR (cR (cR (cR (cR (Try.f58.body.getD .skip)))))))))))))))))))))))))) zAk=some (zCh,zAk):=by kernel_rfl
def zCg:VCode:=(.ops [
  ⟨some 94,none,.mv (.tmp 0)⟩,
  ⟨some 95,none,.nilc (.tmp 94)⟩,
  ⟨some 96,none,.fa 2 (.tmp 95)⟩,
  ⟨some 97,none,.load 1 false (.tmp 96)⟩,
  ⟨some 98,none,.mv (.tmp 12)⟩,
  ⟨some 99,none,.ia 5 (.tmp 97) (.tmp 98)⟩,
  ⟨some 100,none,.load 5 true (.tmp 99)⟩,
  ⟨some 14,none,.alloc [(.int .i64 0),(.int .i64 0),(.int .i64 0),(.int .i64 0),(.int .i64 0)]⟩,
  ⟨none,none,.store 5 (.tmp 14) (.tmp 100)⟩])
theorem zLn:zAr Try.prog 0 (cL (cR (cL (cL (cR (cL (cL (cR (cL (cL (cR (cL (cL (cR (cR (cL (cR (cL (cL (cL (cR (cR (cR (cR (cR (cR (Try.f58.body.getD .skip))))))))))))))))))))))))))) zAk=some (zCg,zAk):=by kernel_rfl
def zCf:VCode:=(.draw (mB 135 0x7fffffffe0000000000000000000000000) [] [⟨0,mB 135 0x7fffffffe0000000000000000000000000,[],⟨some 101,none,.mv (.tmp 8)⟩⟩,⟨1,mB 135 0x7fffffffc0000000000000000000000000,[],⟨some 102,none,.nilc (.tmp 101)⟩⟩,⟨2,mB 135 0x7fffffff80000000000000000000000000,[],⟨some 103,none,.fa 3 (.tmp 102)⟩⟩,⟨3,mB 135 0x7fffffff00000000000000000000000000,[],⟨some 104,none,.load 1 false (.tmp 103)⟩⟩,⟨4,mB 135 0x7fffffffe0000000000000000000000000,[],⟨some 105,none,.fa 3 (.tmp 13)⟩⟩,⟨5,mB 135 0x7ffffffde0000000000000000000000000,[],⟨some 106,none,.load 1 false (.tmp 105)⟩⟩,⟨6,mB 135 0x7ffffff800000000000000000000000000,[],⟨some 107,none,.ia 1 (.tmp 104) (.tmp 106)⟩⟩,⟨7,mB 135 0x7ffffff000000000000000000000000000,[],⟨some 108,none,.load 1 false (.tmp 107)⟩⟩,⟨8,mB 135 0x7fffffffe0000000000000000000000000,[],⟨some 109,none,.mv (.tmp 8)⟩⟩,⟨9,mB 135 0x7fffffdfe0000000000000000000000000,[],⟨some 110,none,.nilc (.tmp 109)⟩⟩,⟨10,mB 135 0x7fffff9fe0000000000000000000000000,[],⟨some 111,none,.fa 3 (.tmp 110)⟩⟩,⟨11,mB 135 0x7fffff1fe0000000000000000000000000,[],⟨some 112,none,.load 1 false (.tmp 111)⟩⟩,⟨12,mB 135 0x7fffffffe0000000000000000000000000,[],⟨some 113,none,.fa 3 (.tmp 14)⟩⟩,⟨13,mB 135 0x7ffffdffe0000000000000000000000000,[],⟨some 114,none,.load 1 false (.tmp 113)⟩⟩,⟨14,mB 135 0x7ffff81fe0000000000000000000000000,[],⟨some 115,none,.ia 1 (.tmp 112) (.tmp 114)⟩⟩,⟨15,mB 135 0x7ffff01fe0000000000000000000000000,[],⟨some 116,none,.load 1 false (.tmp 115)⟩⟩,⟨16,mB 135 0x7fffe00000000000000000000000000000,[],⟨some 117,none,.bin .neq (.tmp 108) (.tmp 116)⟩⟩,⟨17,mB 135 0x7fffc00000000000000000000000000000,[],⟨some 118,none,.mv (.tmp 117)⟩⟩,⟨18,mB 135 0x7fff800000000000000000000000000000,[],⟨some 119,some (118,false),.mv (.tmp 8)⟩⟩,⟨19,mB 135 0x7fff000000000000000000000000000000,[],⟨some 120,some (118,false),.nilc (.tmp 119)⟩⟩,⟨20,mB 135 0x7ffe000000000000000000000000000000,[],⟨some 121,some (118,false),.fa 4 (.tmp 120)⟩⟩,⟨21,mB 135 0x7ffc000000000000000000000000000000,[],⟨some 122,some (118,false),.load 1 false (.tmp 121)⟩⟩,⟨22,mB 135 0x7fff800000000000000000000000000000,[],⟨some 123,some (118,false),.fa 4 (.tmp 13)⟩⟩,⟨23,mB 135 0x7ff7800000000000000000000000000000,[],⟨some 124,some (118,false),.load 1 false (.tmp 123)⟩⟩,⟨24,mB 135 0x7fe0000000000000000000000000000000,[],⟨some 125,some (118,false),.ia 1 (.tmp 122) (.tmp 124)⟩⟩,⟨25,mB 135 0x7fc0000000000000000000000000000000,[],⟨some 126,some (118,false),.load 1 false (.tmp 125)⟩⟩,⟨26,mB 135 0x7fff800000000000000000000000000000,[],⟨some 127,some (118,false),.mv (.tmp 8)⟩⟩,⟨27,mB 135 0x7f7f800000000000000000000000000000,[],⟨some 128,some (118,false),.nilc (.tmp 127)⟩⟩,⟨28,mB 135 0x7e7f800000000000000000000000000000,[],⟨some 129,some (118,false),.fa 4 (.tmp 128)⟩⟩,⟨29,mB 135 0x7c7f800000000000000000000000000000,[],⟨some 130,some (118,false),.load 1 false (.tmp 129)⟩⟩,⟨30,mB 135 0x7fff800000000000000000000000000000,[],⟨some 131,some (118,false),.fa 4 (.tmp 14)⟩⟩,⟨31,mB 135 0x77ff800000000000000000000000000000,[],⟨some 132,some (118,false),.load 1 false (.tmp 131)⟩⟩,⟨32,mB 135 0x607f800000000000000000000000000000,[],⟨some 133,some (118,false),.ia 1 (.tmp 130) (.tmp 132)⟩⟩,⟨33,mB 135 0x407f800000000000000000000000000000,[],⟨some 134,some (118,false),.load 1 false (.tmp 133)⟩⟩] [⟨some 135,some (118,false),.bin .neq (.tmp 126) (.tmp 134)⟩,⟨some 136,none,.pick (.tmp 118) (.const (.bool true)) (.tmp 135)⟩])
theorem zLm:zAr Try.prog 0 (cL (cL (cR (cR (cL (cL (cR (cL (cL (cR (cL (cL (cR (cL (cL (cR (cR (cL (cR (cL (cL (cL (cR (cR (cR (cR (cR (cR (Try.f58.body.getD .skip))))))))))))))))))))))))))))) zAk=some (zCf,zAk):=by kernel_rfl
theorem zLl:zAr Try.prog 0 (cL (cR (cL (cR (cR (cL (cL (cR (cL (cL (cR (cL (cL (cR (cL (cL (cR (cR (cL (cR (cL (cL (cL (cR (cR (cR (cR (cR (cR (Try.f58.body.getD .skip)))))))))))))))))))))))))))))) zAk=some ((.exit 7),zAk):=by kernel_rfl
theorem zLk:zAr Try.prog 0 (cR (cR (cL (cR (cR (cL (cL (cR (cL (cL (cR (cL (cL (cR (cL (cL (cR (cR (cL (cR (cL (cL (cL (cR (cR (cR (cR (cR (cR (Try.f58.body.getD .skip)))))))))))))))))))))))))))))) zAk=some (.skip,zAk):=by kernel_rfl
def zDn:VCode:=(.ops [
  ⟨some 137,none,.fa 0 (.tmp 13)⟩,
  ⟨some 138,none,.load 1 false (.tmp 137)⟩,
  ⟨some 139,none,.fa 0 (.tmp 14)⟩,
  ⟨some 140,none,.load 1 false (.tmp 139)⟩,
  ⟨some 141,none,.bin .neq (.tmp 138) (.tmp 140)⟩])
theorem zLj:zAr Try.prog 0 (cL (cL (cR (cR (cR (cL (cL (cR (cL (cL (cR (cL (cL (cR (cL (cL (cR (cR (cL (cR (cL (cL (cL (cR (cR (cR (cR (cR (cR (Try.f58.body.getD .skip)))))))))))))))))))))))))))))) zAk=some (zDn,zAk):=by kernel_rfl
def zEp:VCode:=(.ops [
  ⟨some 142,none,.build [(.slice none 0 0),(.slice none 0 0),(.slice none 0 0)] []⟩,
  ⟨none,none,.store 3 (.tmp 6) (.tmp 142)⟩,
  ⟨some 7,none,.asg (.const (.bool false))⟩])
theorem zLi:zAr Try.prog 0 (cL (cL (cR (cL (cR (cR (cR (cL (cL (cR (cL (cL (cR (cL (cL (cR (cL (cL (cR (cR (cL (cR (cL (cL (cL (cR (cR (cR (cR (cR (cR (Try.f58.body.getD .skip)))))))))))))))))))))))))))))))) zAk=some (zEp,zAk):=by kernel_rfl
theorem zLh:zAr Try.prog 0 (cR (cL (cR (cL (cR (cR (cR (cL (cL (cR (cL (cL (cR (cL (cL (cR (cL (cL (cR (cR (cL (cR (cL (cL (cL (cR (cR (cR (cR (cR (cR (Try.f58.body.getD .skip)))))))))))))))))))))))))))))))) zAk=some (.ret,zAk):=by kernel_rfl
theorem zLg:zAr Try.prog 0 (cR (cR (cL (cR (cR (cR (cL (cL (cR (cL (cL (cR (cL (cL (cR (cL (cL (cR (cR (cL (cR (cL (cL (cL (cR (cR (cR (cR (cR (cR (Try.f58.body.getD .skip))))))))))))))))))))))))))))))) zAk=some (.skip,zAk):=by kernel_rfl
def zEo:VCode:=(.ops [
  ⟨some 143,none,.mv (.tmp 8)⟩,
  ⟨some 144,none,.mv (.tmp 11)⟩,
  ⟨some 145,none,.mv (.tmp 12)⟩,
  ⟨some 146,none,.callX 83 [(.tmp 143),(.tmp 144),(.tmp 145)]⟩])
theorem zLf:zAr Try.prog 0 (cL (cR (cR (cR (cR (cL (cL (cR (cL (cL (cR (cL (cL (cR (cL (cL (cR (cR (cL (cR (cL (cL (cL (cR (cR (cR (cR (cR (cR (Try.f58.body.getD .skip)))))))))))))))))))))))))))))) zAk=some (zEo,zAk):=by kernel_rfl
theorem zLe:zAr Try.prog 0 (cL (cR (cR (cR (cR (cR (cL (cL (cR (cL (cL (cR (cL (cL (cR (cL (cL (cR (cR (cL (cR (cL (cL (cL (cR (cR (cR (cR (cR (cR (Try.f58.body.getD .skip))))))))))))))))))))))))))))))) zAk=some ((.ops [
  ⟨some 10,none,.asg (.const (.bool true))⟩]),zAk):=by kernel_rfl
theorem zLd:zAr Try.prog 0 (cR (cR (cR (cR (cR (cR (cL (cL (cR (cL (cL (cR (cL (cL (cR (cL (cL (cR (cR (cL (cR (cL (cL (cL (cR (cR (cR (cR (cR (cR (Try.f58.body.getD .skip))))))))))))))))))))))))))))))) zAk=some (.skip,zAk):=by kernel_rfl
def zBn:VCode:=(.ops [
  ⟨some 85,none,.mv (.tmp 12)⟩,
  ⟨some 86,none,.bin .add (.tmp 85) (.const (.int .i64 1))⟩,
  ⟨some 12,none,.asg (.tmp 86)⟩])
theorem zLc:zAr Try.prog 0 (cR (cR (cL (cL (cR (cL (cL (cR (cL (cL (cR (cR (cL (cR (cL (cL (cL (cR (cR (cR (cR (cR (cR (Try.f58.body.getD .skip)))))))))))))))))))))))) zAk=some (zBn,zAk):=by kernel_rfl
def zEn:VCode:=(.ops [
  ⟨some 80,none,.mv (.tmp 11)⟩,
  ⟨some 81,none,.bin .add (.tmp 80) (.const (.int .i64 1))⟩,
  ⟨some 11,none,.asg (.tmp 81)⟩])
theorem zLb:zAr Try.prog 0 (cR (cR (cL (cL (cR (cR (cL (cR (cL (cL (cL (cR (cR (cR (cR (cR (cR (Try.f58.body.getD .skip)))))))))))))))))) zAk=some (zEn,zAk):=by kernel_rfl
def zEm:VCode:=(.ops [
  ⟨some 147,none,.build [(.slice none 0 0),(.slice none 0 0),(.slice none 0 0)] []⟩,
  ⟨some 15,none,.alloc [(.slice none 0 0),(.slice none 0 0),(.slice none 0 0)]⟩,
  ⟨none,none,.store 3 (.tmp 15) (.tmp 147)⟩])
theorem zLa:zAr Try.prog 0 (cL (cR (cR (cR (cR (cR (cR (cR (Try.f58.body.getD .skip))))))))) zAk=some (zEm,zAk):=by kernel_rfl
theorem zK9:zAr Try.prog 0 (cL (cL (cR (cR (cR (cR (cR (cR (cR (cR (Try.f58.body.getD .skip))))))))))) zAk=some ((.ops [
  ⟨some 16,none,.asg (.const (.int .i64 0))⟩]),zAk):=by kernel_rfl
def zEl:VCode:=(.ops [
  ⟨some 148,none,.mv (.tmp 16)⟩,
  ⟨some 149,none,.mv (.tmp 0)⟩,
  ⟨some 150,none,.nilc (.tmp 149)⟩,
  ⟨some 151,none,.fa 0 (.tmp 150)⟩,
  ⟨some 152,none,.load 1 false (.tmp 151)⟩,
  ⟨some 153,none,.len (.tmp 152)⟩,
  ⟨some 154,none,.bin .lss (.tmp 148) (.tmp 153)⟩])
theorem zK8:zAr Try.prog 0 (cL (cL (cL (cL (cR (cL (cR (cR (cR (cR (cR (cR (cR (cR (Try.f58.body.getD .skip))))))))))))))) zA0=some (zEl,zA0):=by kernel_rfl
theorem zK7:zAr Try.prog 0 (cL (cR (cL (cL (cL (cR (cL (cR (cR (cR (cR (cR (cR (cR (cR (Try.f58.body.getD .skip)))))))))))))))) zA0=some (.skip,zA0):=by kernel_rfl
theorem zK6:zAr Try.prog 0 (cR (cR (cL (cL (cL (cR (cL (cR (cR (cR (cR (cR (cR (cR (cR (Try.f58.body.getD .skip)))))))))))))))) zA0=some ((.exit 8),zA0):=by kernel_rfl
def zEk:VCode:=(.draw (mB 173 0x1fffe000000000000000000000000000000000000000) (mB 172 0x8000000000000000000000000000000000000000000) [⟨0,mB 173 0x1fffe000000000000000000000000000000000000000,[],⟨some 157,none,.fa 0 (.tmp 15)⟩⟩,⟨1,mB 173 0x1fffc000000000000000000000000000000000000000,[],⟨some 158,none,.load 1 false (.tmp 157)⟩⟩,⟨2,mB 173 0x1fffe000000000000000000000000000000000000000,[],⟨some 159,none,.mv (.tmp 8)⟩⟩,⟨3,mB 173 0x1fff6000000000000000000000000000000000000000,[],⟨some 160,none,.nilc (.tmp 159)⟩⟩,⟨4,mB 173 0x1ffe6000000000000000000000000000000000000000,[],⟨some 161,none,.fa 3 (.tmp 160)⟩⟩,⟨5,mB 173 0x1ffc6000000000000000000000000000000000000000,[],⟨some 162,none,.load 1 false (.tmp 161)⟩⟩,⟨6,mB 173 0x1fffe000000000000000000000000000000000000000,[],⟨some 163,none,.mv (.tmp 0)⟩⟩,⟨7,mB 173 0x1ff7e000000000000000000000000000000000000000,[],⟨some 164,none,.nilc (.tmp 163)⟩⟩,⟨8,mB 173 0x1fe7e000000000000000000000000000000000000000,[],⟨some 165,none,.fa 0 (.tmp 164)⟩⟩,⟨9,mB 173 0x1fc7e000000000000000000000000000000000000000,[],⟨some 166,none,.load 1 false (.tmp 165)⟩⟩,⟨10,mB 173 0x1fffe000000000000000000000000000000000000000,[],⟨some 167,none,.mv (.tmp 16)⟩⟩,⟨11,mB 173 0x1f07e000000000000000000000000000000000000000,[],⟨some 168,none,.ia 1 (.tmp 166) (.tmp 167)⟩⟩,⟨12,mB 173 0x1e07e000000000000000000000000000000000000000,[],⟨some 169,none,.load 1 false (.tmp 168)⟩⟩,⟨13,mB 173 0x1c006000000000000000000000000000000000000000,[],⟨some 170,none,.ia 1 (.tmp 162) (.tmp 169)⟩⟩,⟨14,mB 173 0x18006000000000000000000000000000000000000000,[],⟨some 171,none,.load 1 false (.tmp 170)⟩⟩,⟨15,mB 173 0x10006000000000000000000000000000000000000000,(mB 172 0x8000000000000000000000000000000000000000000),⟨some 172,none,.bslN 1 [(.tmp 171)]⟩⟩] [⟨some 173,none,.app 1 8 (.tmp 158) (.tmp 172)⟩,⟨some 174,none,.fa 0 (.tmp 15)⟩,⟨none,none,.store 1 (.tmp 174) (.tmp 173)⟩])
theorem zK5:zAr Try.prog 0 (cL (cL (cR (cL (cL (cR (cL (cR (cR (cR (cR (cR (cR (cR (cR (Try.f58.body.getD .skip)))))))))))))))) zA0=some (zEk,zA0):=by kernel_rfl
def zEj:VCode:=(.ops [
  ⟨some 155,none,.mv (.tmp 16)⟩,
  ⟨some 156,none,.bin .add (.tmp 155) (.const (.int .i64 1))⟩,
  ⟨some 16,none,.asg (.tmp 156)⟩])
theorem zK4:zAr Try.prog 0 (cR (cR (cL (cL (cR (cL (cR (cR (cR (cR (cR (cR (cR (cR (Try.f58.body.getD .skip))))))))))))))) zA0=some (zEj,zA0):=by kernel_rfl
theorem zK3:zAr Try.prog 0 (cL (cL (cR (cR (cR (cR (cR (cR (cR (cR (cR (Try.f58.body.getD .skip)))))))))))) zA0=some ((.ops [
  ⟨some 17,none,.asg (.const (.int .i64 0))⟩]),zA0):=by kernel_rfl
def zEi:VCode:=(.ops [
  ⟨some 175,none,.mv (.tmp 17)⟩,
  ⟨some 176,none,.mv (.tmp 0)⟩,
  ⟨some 177,none,.nilc (.tmp 176)⟩,
  ⟨some 178,none,.fa 1 (.tmp 177)⟩,
  ⟨some 179,none,.load 1 false (.tmp 178)⟩,
  ⟨some 180,none,.len (.tmp 179)⟩,
  ⟨some 181,none,.bin .lss (.tmp 175) (.tmp 180)⟩])
theorem zK2:zAr Try.prog 0 (cL (cL (cL (cL (cR (cL (cR (cR (cR (cR (cR (cR (cR (cR (cR (Try.f58.body.getD .skip)))))))))))))))) zAz=some (zEi,zAz):=by kernel_rfl
theorem zK1:zAr Try.prog 0 (cL (cR (cL (cL (cL (cR (cL (cR (cR (cR (cR (cR (cR (cR (cR (cR (Try.f58.body.getD .skip))))))))))))))))) zAz=some (.skip,zAz):=by kernel_rfl
theorem zK0:zAr Try.prog 0 (cR (cR (cL (cL (cL (cR (cL (cR (cR (cR (cR (cR (cR (cR (cR (cR (Try.f58.body.getD .skip))))))))))))))))) zAz=some ((.exit 10),zAz):=by kernel_rfl
def zEh:VCode:=(.draw (mB 200 0xffff0000000000000000000000000000000000000000000000) (mB 199 0x40000000000000000000000000000000000000000000000000) [⟨0,mB 200 0xffff0000000000000000000000000000000000000000000000,[],⟨some 184,none,.fa 1 (.tmp 15)⟩⟩,⟨1,mB 200 0xfffe0000000000000000000000000000000000000000000000,[],⟨some 185,none,.load 1 false (.tmp 184)⟩⟩,⟨2,mB 200 0xffff0000000000000000000000000000000000000000000000,[],⟨some 186,none,.mv (.tmp 8)⟩⟩,⟨3,mB 200 0xfffb0000000000000000000000000000000000000000000000,[],⟨some 187,none,.nilc (.tmp 186)⟩⟩,⟨4,mB 200 0xfff30000000000000000000000000000000000000000000000,[],⟨some 188,none,.fa 4 (.tmp 187)⟩⟩,⟨5,mB 200 0xffe30000000000000000000000000000000000000000000000,[],⟨some 189,none,.load 1 false (.tmp 188)⟩⟩,⟨6,mB 200 0xffff0000000000000000000000000000000000000000000000,[],⟨some 190,none,.mv (.tmp 0)⟩⟩,⟨7,mB 200 0xffbf0000000000000000000000000000000000000000000000,[],⟨some 191,none,.nilc (.tmp 190)⟩⟩,⟨8,mB 200 0xff3f0000000000000000000000000000000000000000000000,[],⟨some 192,none,.fa 1 (.tmp 191)⟩⟩,⟨9,mB 200 0xfe3f0000000000000000000000000000000000000000000000,[],⟨some 193,none,.load 1 false (.tmp 192)⟩⟩,⟨10,mB 200 0xffff0000000000000000000000000000000000000000000000,[],⟨some 194,none,.mv (.tmp 17)⟩⟩,⟨11,mB 200 0xf83f0000000000000000000000000000000000000000000000,[],⟨some 195,none,.ia 1 (.tmp 193) (.tmp 194)⟩⟩,⟨12,mB 200 0xf03f0000000000000000000000000000000000000000000000,[],⟨some 196,none,.load 1 false (.tmp 195)⟩⟩,⟨13,mB 200 0xe0030000000000000000000000000000000000000000000000,[],⟨some 197,none,.ia 1 (.tmp 189) (.tmp 196)⟩⟩,⟨14,mB 200 0xc0030000000000000000000000000000000000000000000000,[],⟨some 198,none,.load 1 false (.tmp 197)⟩⟩,⟨15,mB 200 0x80030000000000000000000000000000000000000000000000,(mB 199 0x40000000000000000000000000000000000000000000000000),⟨some 199,none,.bslN 1 [(.tmp 198)]⟩⟩] [⟨some 200,none,.app 1 8 (.tmp 185) (.tmp 199)⟩,⟨some 201,none,.fa 1 (.tmp 15)⟩,⟨none,none,.store 1 (.tmp 201) (.tmp 200)⟩])
theorem zKz:zAr Try.prog 0 (cL (cL (cR (cL (cL (cR (cL (cR (cR (cR (cR (cR (cR (cR (cR (cR (Try.f58.body.getD .skip))))))))))))))))) zAz=some (zEh,zAz):=by kernel_rfl
def zEg:VCode:=(.ops [
  ⟨some 182,none,.mv (.tmp 17)⟩,
  ⟨some 183,none,.bin .add (.tmp 182) (.const (.int .i64 1))⟩,
  ⟨some 17,none,.asg (.tmp 183)⟩])
theorem zKy:zAr Try.prog 0 (cR (cR (cL (cL (cR (cL (cR (cR (cR (cR (cR (cR (cR (cR (cR (Try.f58.body.getD .skip)))))))))))))))) zAz=some (zEg,zAz):=by kernel_rfl
theorem zKx:zAr Try.prog 0 (cL (cL (cR (cR (cR (cR (cR (cR (cR (cR (cR (cR (Try.f58.body.getD .skip))))))))))))) zAz=some ((.ops [
  ⟨some 18,none,.asg (.const (.int .i64 0))⟩]),zAz):=by kernel_rfl
def zEf:VCode:=(.ops [
  ⟨some 202,none,.mv (.tmp 18)⟩,
  ⟨some 203,none,.mv (.tmp 0)⟩,
  ⟨some 204,none,.nilc (.tmp 203)⟩,
  ⟨some 205,none,.fa 2 (.tmp 204)⟩,
  ⟨some 206,none,.load 1 false (.tmp 205)⟩,
  ⟨some 207,none,.len (.tmp 206)⟩,
  ⟨some 208,none,.bin .lss (.tmp 202) (.tmp 207)⟩])
theorem zKw:zAr Try.prog 0 (cL (cL (cL (cL (cR (cL (cR (cR (cR (cR (cR (cR (cR (cR (cR (cR (Try.f58.body.getD .skip))))))))))))))))) zAp=some (zEf,zAp):=by kernel_rfl
theorem zKv:zAr Try.prog 0 (cL (cR (cL (cL (cL (cR (cL (cR (cR (cR (cR (cR (cR (cR (cR (cR (cR (Try.f58.body.getD .skip)))))))))))))))))) zAp=some (.skip,zAp):=by kernel_rfl
theorem zKu:zAr Try.prog 0 (cR (cR (cL (cL (cL (cR (cL (cR (cR (cR (cR (cR (cR (cR (cR (cR (cR (Try.f58.body.getD .skip)))))))))))))))))) zAp=some ((.exit 12),zAp):=by kernel_rfl
def zEe:VCode:=(.ops [
  ⟨some 211,none,.mv (.tmp 0)⟩,
  ⟨some 212,none,.nilc (.tmp 211)⟩,
  ⟨some 213,none,.fa 2 (.tmp 212)⟩,
  ⟨some 214,none,.load 1 false (.tmp 213)⟩,
  ⟨some 215,none,.mv (.tmp 18)⟩,
  ⟨some 216,none,.ia 5 (.tmp 214) (.tmp 215)⟩,
  ⟨some 217,none,.load 5 true (.tmp 216)⟩,
  ⟨some 19,none,.alloc [(.int .i64 0),(.int .i64 0),(.int .i64 0),(.int .i64 0),(.int .i64 0)]⟩,
  ⟨none,none,.store 5 (.tmp 19) (.tmp 217)⟩])
theorem zKt:zAr Try.prog 0 (cL (cL (cL (cR (cL (cL (cR (cL (cR (cR (cR (cR (cR (cR (cR (cR (cR (cR (Try.f58.body.getD .skip))))))))))))))))))) zAp=some (zEe,zAp):=by kernel_rfl
def zEd:VCode:=(.draw (mB 253 0x1ffffffffc000000000000000000000000000000000000000000000000100000) (mB 252 0x808080808000000000000000000000000000000000000000000000000000000) [⟨0,mB 253 0x1ffffffffc000000000000000000000000000000000000000000000000100000,[],⟨some 218,none,.fa 0 (.tmp 19)⟩⟩,⟨1,mB 253 0x1ffffffff8000000000000000000000000000000000000000000000000100000,[],⟨some 219,none,.load 1 false (.tmp 218)⟩⟩,⟨2,mB 253 0x1ffffffffc000000000000000000000000000000000000000000000000100000,[],⟨some 220,none,.mv (.tmp 8)⟩⟩,⟨3,mB 253 0x1fffffffec000000000000000000000000000000000000000000000000100000,[],⟨some 221,none,.nilc (.tmp 220)⟩⟩,⟨4,mB 253 0x1fffffffcc000000000000000000000000000000000000000000000000100000,[],⟨some 222,none,.fa 3 (.tmp 221)⟩⟩,⟨5,mB 253 0x1fffffff8c000000000000000000000000000000000000000000000000100000,[],⟨some 223,none,.load 1 false (.tmp 222)⟩⟩,⟨6,mB 253 0x1ffffffffc000000000000000000000000000000000000000000000000100000,[],⟨some 224,none,.fa 1 (.tmp 19)⟩⟩,⟨7,mB 253 0x1ffffffefc000000000000000000000000000000000000000000000000100000,[],⟨some 225,none,.load 1 false (.tmp 224)⟩⟩,⟨8,mB 253 0x1ffffffc0c000000000000000000000000000000000000000000000000100000,[],⟨some 226,none,.ia 1 (.tmp 223) (.tmp 225)⟩⟩,⟨9,mB 253 0x1ffffff80c000000000000000000000000000000000000000000000000100000,[],⟨some 227,none,.load 1 false (.tmp 226)⟩⟩,⟨10,mB 253 0x1ffffffffc000000000000000000000000000000000000000000000000100000,[],⟨some 228,none,.mv (.tmp 8)⟩⟩,⟨11,mB 253 0x1fffffeffc000000000000000000000000000000000000000000000000100000,[],⟨some 229,none,.nilc (.tmp 228)⟩⟩,⟨12,mB 253 0x1fffffcffc000000000000000000000000000000000000000000000000100000,[],⟨some 230,none,.fa 4 (.tmp 229)⟩⟩,⟨13,mB 253 0x1fffff8ffc000000000000000000000000000000000000000000000000100000,[],⟨some 231,none,.load 1 false (.tmp 230)⟩⟩,⟨14,mB 253 0x1ffffffffc000000000000000000000000000000000000000000000000100000,[],⟨some 232,none,.fa 2 (.tmp 19)⟩⟩,⟨15,mB 253 0x1ffffefffc000000000000000000000000000000000000000000000000100000,[],⟨some 233,none,.load 1 false (.tmp 232)⟩⟩,⟨16,mB 253 0x1ffffc0ffc000000000000000000000000000000000000000000000000100000,[],⟨some 234,none,.ia 1 (.tmp 231) (.tmp 233)⟩⟩,⟨17,mB 253 0x1ffff80ffc000000000000000000000000000000000000000000000000100000,[],⟨some 235,none,.load 1 false (.tmp 234)⟩⟩,⟨18,mB 253 0x1ffffffffc000000000000000000000000000000000000000000000000100000,[],⟨some 236,none,.mv (.tmp 8)⟩⟩,⟨19,mB 253 0x1fffeffffc000000000000000000000000000000000000000000000000100000,[],⟨some 237,none,.nilc (.tmp 236)⟩⟩,⟨20,mB 253 0x1fffcffffc000000000000000000000000000000000000000000000000100000,[],⟨some 238,none,.fa 3 (.tmp 237)⟩⟩,⟨21,mB 253 0x1fff8ffffc000000000000000000000000000000000000000000000000100000,[],⟨some 239,none,.load 1 false (.tmp 238)⟩⟩,⟨22,mB 253 0x1ffffffffc000000000000000000000000000000000000000000000000100000,[],⟨some 240,none,.fa 3 (.tmp 19)⟩⟩,⟨23,mB 253 0x1ffefffffc000000000000000000000000000000000000000000000000100000,[],⟨some 241,none,.load 1 false (.tmp 240)⟩⟩,⟨24,mB 253 0x1ffc0ffffc000000000000000000000000000000000000000000000000100000,[],⟨some 242,none,.ia 1 (.tmp 239) (.tmp 241)⟩⟩,⟨25,mB 253 0x1ff80ffffc000000000000000000000000000000000000000000000000100000,[],⟨some 243,none,.load 1 false (.tmp 242)⟩⟩,⟨26,mB 253 0x1ffffffffc000000000000000000000000000000000000000000000000100000,[],⟨some 244,none,.mv (.tmp 8)⟩⟩,⟨27,mB 253 0x1feffffffc000000000000000000000000000000000000000000000000100000,[],⟨some 245,none,.nilc (.tmp 244)⟩⟩,⟨28,mB 253 0x1fcffffffc000000000000000000000000000000000000000000000000100000,[],⟨some 246,none,.fa 4 (.tmp 245)⟩⟩,⟨29,mB 253 0x1f8ffffffc000000000000000000000000000000000000000000000000100000,[],⟨some 247,none,.load 1 false (.tmp 246)⟩⟩,⟨30,mB 253 0x1ffffffffc000000000000000000000000000000000000000000000000100000,[],⟨some 248,none,.fa 4 (.tmp 19)⟩⟩,⟨31,mB 253 0x1efffffffc000000000000000000000000000000000000000000000000100000,[],⟨some 249,none,.load 1 false (.tmp 248)⟩⟩,⟨32,mB 253 0x1c0ffffffc000000000000000000000000000000000000000000000000100000,[],⟨some 250,none,.ia 1 (.tmp 247) (.tmp 249)⟩⟩,⟨33,mB 253 0x180ffffffc000000000000000000000000000000000000000000000000100000,[],⟨some 251,none,.load 1 false (.tmp 250)⟩⟩,⟨34,mB 253 0x1000000000000000000000000000000000000000000000000000000000100000,(mB 252 0x808080808000000000000000000000000000000000000000000000000000000),⟨some 252,none,.build [(.int .i64 0),(.int .i64 0),(.int .i64 0),(.int .i64 0),(.int .i64 0)] [(0,1,(.tmp 219)),(1,1,(.tmp 227)),(2,1,(.tmp 235)),(3,1,(.tmp 243)),(4,1,(.tmp 251))]⟩⟩,⟨35,mB 253 0x1ffffffffc000000000000000000000000000000000000000000000000100000,[],⟨some 20,none,.alloc [(.int .i64 0),(.int .i64 0),(.int .i64 0),(.int .i64 0),(.int .i64 0)]⟩⟩] [⟨none,none,.store 5 (.tmp 20) (.tmp 252)⟩])
theorem zKs:zAr Try.prog 0 (cL (cR (cL (cL (cR (cL (cL (cR (cL (cR (cR (cR (cR (cR (cR (cR (cR (cR (cR (Try.f58.body.getD .skip)))))))))))))))))))) zAp=some (zEd,zAp):=by kernel_rfl
def zEc:VCode:=(.ops [
  ⟨some 253,none,.fa 3 (.tmp 20)⟩,
  ⟨some 254,none,.load 1 false (.tmp 253)⟩,
  ⟨some 255,none,.fa 4 (.tmp 20)⟩,
  ⟨some 256,none,.load 1 false (.tmp 255)⟩,
  ⟨some 257,none,.callX 84 [(.tmp 15),(.tmp 254),(.tmp 256)]⟩,
  ⟨some 258,none,.bin .lss (.tmp 257) (.const (.int .i64 0))⟩])
theorem zKr:zAr Try.prog 0 (cL (cR (cR (cL (cL (cR (cL (cL (cR (cL (cR (cR (cR (cR (cR (cR (cR (cR (cR (cR (Try.f58.body.getD .skip))))))))))))))))))))) zAp=some (zEc,zAp):=by kernel_rfl
def zDm:VCode:=(.ops [
  ⟨some 259,none,.fa 2 (.tmp 15)⟩,
  ⟨some 260,none,.load 1 false (.tmp 259)⟩,
  ⟨some 261,none,.load 5 true (.tmp 20)⟩,
  ⟨some 262,none,.bsl 5 [(.tmp 261)]⟩,
  ⟨some 263,none,.app 5 40 (.tmp 260) (.tmp 262)⟩,
  ⟨some 264,none,.fa 2 (.tmp 15)⟩,
  ⟨none,none,.store 1 (.tmp 264) (.tmp 263)⟩])
theorem zKq:zAr Try.prog 0 (cL (cR (cR (cR (cL (cL (cR (cL (cL (cR (cL (cR (cR (cR (cR (cR (cR (cR (cR (cR (cR (Try.f58.body.getD .skip)))))))))))))))))))))) zAp=some (zDm,zAp):=by kernel_rfl
theorem zKp:zAr Try.prog 0 (cR (cR (cR (cR (cL (cL (cR (cL (cL (cR (cL (cR (cR (cR (cR (cR (cR (cR (cR (cR (cR (Try.f58.body.getD .skip)))))))))))))))))))))) zAp=some (.skip,zAp):=by kernel_rfl
def zCe:VCode:=(.ops [
  ⟨some 209,none,.mv (.tmp 18)⟩,
  ⟨some 210,none,.bin .add (.tmp 209) (.const (.int .i64 1))⟩,
  ⟨some 18,none,.asg (.tmp 210)⟩])
theorem zKo:zAr Try.prog 0 (cR (cR (cL (cL (cR (cL (cR (cR (cR (cR (cR (cR (cR (cR (cR (cR (Try.f58.body.getD .skip))))))))))))))))) zAp=some (zCe,zAp):=by kernel_rfl
def zEb:VCode:=(.ops [
  ⟨some 265,none,.load 3 true (.tmp 15)⟩,
  ⟨none,none,.store 3 (.tmp 6) (.tmp 265)⟩,
  ⟨some 7,none,.asg (.const (.bool true))⟩])
theorem zKn:zAr Try.prog 0 (cL (cR (cR (cR (cR (cR (cR (cR (cR (cR (cR (cR (Try.f58.body.getD .skip))))))))))))) zAp=some (zEb,zAp):=by kernel_rfl
theorem zKm:zAr Try.prog 0 (cR (cR (cR (cR (cR (cR (cR (cR (cR (cR (cR (cR (Try.f58.body.getD .skip))))))))))))) zAp=some (.ret,zAp):=by kernel_rfl
def code_spec_l24Merge:VCode:=(.seq (.ops [
  ⟨some 6,none,.alloc [(.slice none 0 0),(.slice none 0 0),(.slice none 0 0)]⟩,
  ⟨some 7,none,.asg (.const (.bool false))⟩]) (.seq zFe (.seq (.seq (.ops [
  ⟨some 9,none,.asg (.const (.int .i64 0))⟩]) (.block 0 (.loop zE7 (.seq (.seq (.ops [
  ⟨some 26,none,.mv (.tmp 9)⟩,
  ⟨some 27,none,.bin .leq (.tmp 26) (.const (.int .i64 119))⟩]) (.cond (.tmp 27) .skip (.exit 0))) (.seq (.block 1 (.seq zFd zFc)) zFb))))) (.seq (.seq zFa (.cond (.tmp 66) (.seq zEt .ret) .skip)) (.seq zEs (.seq (.ops [
  ⟨some 10,none,.asg (.const (.bool true))⟩]) (.seq (.block 2 (.loop zE6 (.seq (.seq (.ops [
  ⟨some 72,none,.mv (.tmp 10)⟩]) (.cond (.tmp 72) .skip (.exit 2))) (.block 3 (.seq (.ops [
  ⟨some 10,none,.asg (.const (.bool false))⟩]) (.seq (.ops [
  ⟨some 11,none,.asg (.const (.int .i64 0))⟩]) (.block 4 (.loop zE5 (.seq (.seq zEr (.cond (.tmp 79) .skip (.exit 4))) (.seq (.block 5 (.seq (.ops [
  ⟨some 12,none,.asg (.const (.int .i64 0))⟩]) (.block 6 (.loop zE4 (.seq (.seq zEq (.cond (.tmp 84) .skip (.exit 6))) (.seq (.block 7 (.seq zCh (.seq zCg (.seq (.seq zCf (.cond (.tmp 136) (.exit 7) .skip)) (.seq (.seq zDn (.cond (.tmp 141) (.seq zEp .ret) .skip)) (.seq zEo (.cond (.tmp 146) (.ops [
  ⟨some 10,none,.asg (.const (.bool true))⟩]) .skip))))))) zBn)))))) zEn)))))))))) (.seq zEm (.seq (.seq (.ops [
  ⟨some 16,none,.asg (.const (.int .i64 0))⟩]) (.block 8 (.loop zE3 (.seq (.seq zEl (.cond (.tmp 154) .skip (.exit 8))) (.seq (.block 9 zEk) zEj))))) (.seq (.seq (.ops [
  ⟨some 17,none,.asg (.const (.int .i64 0))⟩]) (.block 10 (.loop zE2 (.seq (.seq zEi (.cond (.tmp 181) .skip (.exit 10))) (.seq (.block 11 zEh) zEg))))) (.seq (.seq (.ops [
  ⟨some 18,none,.asg (.const (.int .i64 0))⟩]) (.block 12 (.loop zE1 (.seq (.seq zEf (.cond (.tmp 208) .skip (.exit 12))) (.seq (.block 13 (.seq zEe (.seq zEd (.seq zEc (.cond (.tmp 258) zDm .skip))))) zCe))))) (.seq zEb .ret))))))))))))
theorem zOn {a0 a1 a2 d:D}(h:code_spec_l24Merge.wp (CT Try.prog NoG) (zG3 [(.c 6 3 true),(.t 7)] d) [a0,a1,a2,.undef,.undef,.undef,.undef,.undef,.undef,.undef,.undef,.undef,.undef,.undef,.undef,.undef,.undef,.undef,.undef,.undef,.undef,.undef,.undef,.undef,.undef,.undef,.undef,.undef,.undef,.undef,.undef,.undef,.undef,.undef,.undef,.undef,.undef,.undef,.undef,.undef,.undef,.undef,.undef,.undef,.undef,.undef,.undef,.undef,.undef,.undef,.undef,.undef,.undef,.undef,.undef,.undef,.undef,.undef,.undef,.undef,.undef,.undef,.undef,.undef,.undef,.undef,.undef,.undef,.undef,.undef,.undef,.undef,.undef,.undef,.undef,.undef,.undef,.undef,.undef,.undef,.undef,.undef,.undef,.undef,.undef,.undef,.undef,.undef,.undef,.undef,.undef,.undef,.undef,.undef,.undef,.undef,.undef,.undef,.undef,.undef,.undef,.undef,.undef,.undef,.undef,.undef,.undef,.undef,.undef,.undef,.undef,.undef,.undef,.undef,.undef,.undef,.undef,.undef,.undef,.undef,.undef,.undef,.undef,.undef,.undef,.undef,.undef,.undef,.undef,.undef,.undef,.undef,.undef,.undef,.undef,.undef,.undef,.undef,.undef,.undef,.undef,.undef,.undef,.undef,.undef,.undef,.undef,.undef,.undef,.undef,.undef,.undef,.undef,.undef,.undef,.undef,.undef,.undef,.undef,.undef,.undef,.undef,.undef,.undef,.undef,.undef,.undef,.undef,.undef,.undef,.undef,.undef,.undef,.undef,.undef,.undef,.undef,.undef,.undef,.undef,.undef,.undef,.undef,.undef,.undef,.undef,.undef,.undef,.undef,.undef,.undef,.undef,.undef,.undef,.undef,.undef,.undef,.undef,.undef,.undef,.undef,.undef,.undef,.undef,.undef,.undef,.undef,.undef,.undef,.undef,.undef,.undef,.undef,.undef,.undef,.undef,.undef,.undef,.undef,.undef,.undef,.undef,.undef,.undef,.undef,.undef,.undef,.undef,.undef,.undef,.undef,.undef,.undef,.undef,.undef,.undef,.undef,.undef,.undef,.undef,.undef,.undef,.undef,.undef,.undef,.undef,.undef,.undef,.undef,.undef,.undef,.undef,.undef,.undef,.undef,.undef,.undef,.undef,.undef,.undef,.undef,.undef,.undef,.undef,.undef,.undef]):Contract Try.prog NoG 58 [a0,a1,a2] d :=
  zAt (pt:=0) noG Try.func58 (fun us W=>by kernel_rfl) (c:=Try.f58.body.getD .skip) (ms:=[zE7,zE6,zE5,zE4,zE3,zE2,zE1]) (ms':=[]) (by kernel_rfl) (zAw zNt (zAw zNs (zAw (zAw zNr (zC7 (zJd (zAw (zAw zNq (zC0 zNp zNo)) (zAw (zC7 (zAw zNn zNm)) zNl))))) (zAw (zAw zNk (zC0 (zAw zL5 zL4) zL3)) (zAw zL2 (zAw zL1 (zAw (zC7 (zJd (zAw (zAw zL0 (zC0 zLz zLy)) (zC7 (zAw zLx (zAw zLw (zC7 (zJd (zAw (zAw zLv (zC0 zLu zLt)) (zAw (zC7 (zAw zLs (zC7 (zJd (zAw (zAw zLr (zC0 zLq zLp)) (zAw (zC7 (zAw zLo (zAw zLn (zAw (zAw zLm (zC0 zLl zLk)) (zAw (zAw zLj (zC0 (zAw zLi zLh) zLg)) (zAw zLf (zC0 zLe zLd))))))) zLc)))))) zLb)))))))))) (zAw zLa (zAw (zAw zK9 (zC7 (zJd (zAw (zAw zK8 (zC0 zK7 zK6)) (zAw (zC7 zK5) zK4))))) (zAw (zAw zK3 (zC7 (zJd (zAw (zAw zK2 (zC0 zK1 zK0)) (zAw (zC7 zKz) zKy))))) (zAw (zAw zKx (zC7 (zJd (zAw (zAw zKw (zC0 zKv zKu)) (zAw (zC7 (zAw zKt (zAw zKs (zAw zKr (zC0 zKq zKp))))) zKo))))) (zAw zKn zKm)))))))))))) (by kernel_rfl) h
theorem zSv {C:CtrT}{s:List D}{f:FuncId}{l:List Operand}{K:D→List D→Prop}(h:zAn C s (.callX f l) K):zAn C s (.callX f l) K:=h
structure Src where
  code:List Int
  pos:Nat
  seed:Int
def Src.d (s:Src):List D:=[.sl false 1 (s.code.map rB8),.v (.int .i64 (s.pos:Nat)),.v (.int .u64 s.seed)]
def yI9 (s:Src):Int:=if s.pos<s.code.length then IntKind.i64.wrap (s.code.getD s.pos 0) else 0
def zJ9 (s:Src):Int:=IntKind.u64.wrap (IntKind.u64.wrap (IntKind.u64.wrap (s.seed*6364136223846793005)+IntKind.u64.wrap (yI9 s))+1442695040888963407)
def yV0 (x:Int):Int:=IntKind.i64.wrap (IntKind.u64.wrap ((BitVec.ofInt IntKind.u64.bits (x.fdiv (2 ^ min (Int.toNat 40) IntKind.u64.bits)) &&& BitVec.ofInt IntKind.u64.bits 255).toNat))
def zSg (s:Src):Int:=if s.pos<s.code.length then yI9 s else yV0 (zJ9 s)
def zUv (s:Src):Src:=⟨s.code,s.pos+1,zJ9 s⟩
structure SrcB (k:Nat) (s:Src):Prop where
  code:∀ x,x∈s.code→0≤x∧x≤255
  len:s.code.length≤1048576
  pos:s.pos+k≤4611686018427387904
theorem SrcB.mono {k l:Nat}{s:Src}(h:SrcB k s)(hl:l≤k):SrcB l s:=⟨h.code,h.len,by have:=h.pos;omega⟩
theorem SrcB.next {k:Nat}{s:Src}(h:SrcB (k+1) s):SrcB k (zUv s):=⟨h.code,h.len,by have:=h.pos;simp only [zUv];omega⟩
theorem yP0 {k:Nat}{s:Src}(h:SrcB k s):0≤yI9 s∧yI9 s≤255:=by
  unfold yI9;split
  · rename_i hl;have:=h.code (s.code.getD s.pos 0) (by rw [xDt,xDl hl];exact xEo hl);rw [wrI (by omega) (by omega)];exact this
  · omega
theorem ySe (x:Int):0≤yV0 x∧yV0 x≤255:=by
  unfold yV0;have h1:(BitVec.ofInt IntKind.u64.bits (x.fdiv (2 ^ min (Int.toNat 40) IntKind.u64.bits)) &&& BitVec.ofInt IntKind.u64.bits 255).toNat≤255:=by rw [BitVec.toNat_and];exact Nat.and_le_right
  generalize (BitVec.ofInt IntKind.u64.bits (x.fdiv (2 ^ min (Int.toNat 40) IntKind.u64.bits)) &&& BitVec.ofInt IntKind.u64.bits 255).toNat=n at h1;have h2:IntKind.u64.wrap (n:Int)=(n:Int):=by simp only [IntKind.wrap,IntKind.bits,IntKind.signed];simp;omega
  rw [h2,wrI (by omega) (by omega)];omega
theorem zTv {k:Nat}{s:Src}(h:SrcB k s):0≤zSg s∧zSg s≤255:=by
  unfold zSg;split
  · exact yP0 h
  · exact ySe _
def code_spec_l00Src_next:VCode:=(.seq (.ops [
  ⟨some 2,none,.asg (.const (.int .i64 0))⟩]) (.seq (.ops [
  ⟨some 3,none,.asg (.const (.int .i64 0))⟩]) (.seq (.seq (.draw (mB 13 8176) [] [⟨0,mB 13 8176,[],⟨some 4,none,.mv (.tmp 0)⟩⟩,⟨1,mB 13 8160,[],⟨some 5,none,.nilc (.tmp 4)⟩⟩,⟨2,mB 13 8128,[],⟨some 6,none,.fa 1 (.tmp 5)⟩⟩,⟨3,mB 13 8064,[],⟨some 7,none,.load 1 false (.tmp 6)⟩⟩,⟨4,mB 13 8176,[],⟨some 8,none,.mv (.tmp 0)⟩⟩,⟨5,mB 13 7920,[],⟨some 9,none,.nilc (.tmp 8)⟩⟩,⟨6,mB 13 7408,[],⟨some 10,none,.fa 0 (.tmp 9)⟩⟩,⟨7,mB 13 6384,[],⟨some 11,none,.load 1 false (.tmp 10)⟩⟩,⟨8,mB 13 4336,[],⟨some 12,none,.len (.tmp 11)⟩⟩] [⟨some 13,none,.bin .lss (.tmp 7) (.tmp 12)⟩]) (.cond (.tmp 13) (.draw (mB 22 4177920) [] [⟨0,mB 22 4177920,[],⟨some 14,none,.mv (.tmp 0)⟩⟩,⟨1,mB 22 4161536,[],⟨some 15,none,.nilc (.tmp 14)⟩⟩,⟨2,mB 22 4128768,[],⟨some 16,none,.fa 0 (.tmp 15)⟩⟩,⟨3,mB 22 4063232,[],⟨some 17,none,.load 1 false (.tmp 16)⟩⟩,⟨4,mB 22 4177920,[],⟨some 18,none,.mv (.tmp 0)⟩⟩,⟨5,mB 22 3915776,[],⟨some 19,none,.nilc (.tmp 18)⟩⟩,⟨6,mB 22 3391488,[],⟨some 20,none,.fa 1 (.tmp 19)⟩⟩,⟨7,mB 22 2342912,[],⟨some 21,none,.load 1 false (.tmp 20)⟩⟩] [⟨some 22,none,.ia 1 (.tmp 17) (.tmp 21)⟩,⟨some 23,none,.load 1 false (.tmp 22)⟩,⟨some 24,none,.conv .i64 (.tmp 23)⟩,⟨some 3,none,.asg (.tmp 24)⟩]) .skip)) (.seq (.ops [
  ⟨some 25,none,.mv (.tmp 0)⟩,
  ⟨some 26,none,.nilc (.tmp 25)⟩,
  ⟨some 27,none,.fa 1 (.tmp 26)⟩,
  ⟨some 28,none,.load 1 false (.tmp 27)⟩,
  ⟨some 29,none,.bin .add (.tmp 28) (.const (.int .i64 1))⟩,
  ⟨some 30,none,.nilc (.tmp 25)⟩,
  ⟨some 31,none,.fa 1 (.tmp 30)⟩,
  ⟨none,none,.store 1 (.tmp 31) (.tmp 29)⟩]) (.seq (.ops [
  ⟨some 32,none,.mv (.tmp 0)⟩,
  ⟨some 33,none,.mv (.tmp 0)⟩,
  ⟨some 34,none,.nilc (.tmp 33)⟩,
  ⟨some 35,none,.fa 2 (.tmp 34)⟩,
  ⟨some 36,none,.load 1 false (.tmp 35)⟩,
  ⟨some 37,none,.bin .mul (.tmp 36) (.const (.int .u64 6364136223846793005))⟩,
  ⟨some 38,none,.mv (.tmp 3)⟩,
  ⟨some 39,none,.conv .u64 (.tmp 38)⟩,
  ⟨some 40,none,.bin .add (.tmp 37) (.tmp 39)⟩,
  ⟨some 41,none,.bin .add (.tmp 40) (.const (.int .u64 1442695040888963407))⟩,
  ⟨some 42,none,.nilc (.tmp 32)⟩,
  ⟨some 43,none,.fa 2 (.tmp 42)⟩,
  ⟨none,none,.store 1 (.tmp 43) (.tmp 41)⟩]) (.seq (.seq (.draw (mB 53 0x1ff00000000000) [] [⟨0,mB 53 0x1ff00000000000,[],⟨some 44,none,.mv (.tmp 0)⟩⟩,⟨1,mB 53 0x1fe00000000000,[],⟨some 45,none,.nilc (.tmp 44)⟩⟩,⟨2,mB 53 0x1fc00000000000,[],⟨some 46,none,.fa 1 (.tmp 45)⟩⟩,⟨3,mB 53 0x1f800000000000,[],⟨some 47,none,.load 1 false (.tmp 46)⟩⟩,⟨4,mB 53 0x1ff00000000000,[],⟨some 48,none,.mv (.tmp 0)⟩⟩,⟨5,mB 53 0x1ef00000000000,[],⟨some 49,none,.nilc (.tmp 48)⟩⟩,⟨6,mB 53 0x1cf00000000000,[],⟨some 50,none,.fa 0 (.tmp 49)⟩⟩,⟨7,mB 53 0x18f00000000000,[],⟨some 51,none,.load 1 false (.tmp 50)⟩⟩,⟨8,mB 53 0x10f00000000000,[],⟨some 52,none,.len (.tmp 51)⟩⟩] [⟨some 53,none,.bin .leq (.tmp 47) (.tmp 52)⟩]) (.cond (.tmp 53) (.seq (.ops [
  ⟨some 54,none,.mv (.tmp 3)⟩,
  ⟨some 2,none,.asg (.tmp 54)⟩]) .ret) .skip)) (.seq (.ops [
  ⟨some 55,none,.mv (.tmp 0)⟩,
  ⟨some 56,none,.nilc (.tmp 55)⟩,
  ⟨some 57,none,.fa 2 (.tmp 56)⟩,
  ⟨some 58,none,.load 1 false (.tmp 57)⟩,
  ⟨some 59,none,.bin .shr (.tmp 58) (.const (.int .u64 40))⟩,
  ⟨some 60,none,.bin .and (.tmp 59) (.const (.int .u64 255))⟩,
  ⟨some 61,none,.conv .i64 (.tmp 60)⟩,
  ⟨some 2,none,.asg (.tmp 61)⟩]) .ret)))))))
theorem zJy {a0 d:D}{cells cells':List D}(h:∀ b,code_spec_l00Src_next.wp (CT Try.prog NoG) (yHl [(.t 2)] d 0 b cells') [.box (some b) cells,.undef,.undef,.undef,.undef,.undef,.undef,.undef,.undef,.undef,.undef,.undef,.undef,.undef,.undef,.undef,.undef,.undef,.undef,.undef,.undef,.undef,.undef,.undef,.undef,.undef,.undef,.undef,.undef,.undef,.undef,.undef,.undef,.undef,.undef,.undef,.undef,.undef,.undef,.undef,.undef,.undef,.undef,.undef,.undef,.undef,.undef,.undef,.undef,.undef,.undef,.undef,.undef,.undef,.undef,.undef,.undef,.undef,.undef,.undef,.undef,.undef]):ContractX Try.prog NoG 76 0 [a0] cells d cells' :=
  zDh (pt:=0) noG Try.func76 (fun us W=>by kernel_rfl) (c:=Try.f76.body.getD .skip) (ms:=[]) (ms':=[]) (by kernel_rfl) (by kernel_rfl) (by kernel_rfl) (by simp) h
def code_spec_l00From:VCode:=(.seq (.ops [
  ⟨some 2,none,.asg (.const (.pointer none))⟩]) (.seq (.ops [
  ⟨some 3,none,.mv (.tmp 0)⟩,
  ⟨some 4,none,.build [(.slice none 0 0),(.int .i64 0),(.int .u64 0)] [(0,1,(.tmp 3))]⟩,
  ⟨some 5,none,.box (.tmp 4)⟩,
  ⟨some 2,none,.asg (.tmp 5)⟩]) .ret))
theorem zPk {a0 d:D}(h:code_spec_l00From.wp (CT Try.prog NoG) (zG3 [(.t 2)] d) [a0,.undef,.undef,.undef,.undef,.undef]):Contract Try.prog NoG 50 [a0] d :=
  zAt (pt:=0) noG Try.func50 (fun us W=>by kernel_rfl) (c:=Try.f50.body.getD .skip) (ms:=[]) (ms':=[]) (by kernel_rfl) (by kernel_rfl) (by kernel_rfl) h
set_option maxHeartbeats 1000000 in
theorem yCx (s:Src)(hs:SrcB 1 s):ContractX Try.prog NoG 76 0 [.undef] s.d (.v (.int .i64 (zSg s))) (zUv s).d:=by
  refine zJy ?_;intro b;unfold code_spec_l00Src_next Src.d;have hp:=hs.pos;have hl:=hs.len;have w1:IntKind.i64.wrap ((s.pos:Int)+1)=((s.pos+1:Nat):Int):=by rw [wrI (by omega) (by omega)];omega
  by_cases h:s.pos<s.code.length
  · have d1:decide ((s.pos:Int)<(s.code.length:Int))=true:=(by rw [decide_eq_true_eq];omega);have d2:decide (((s.pos+1:Nat):Int)≤(s.code.length:Int))=true:=(by rw [decide_eq_true_eq];omega);have e1:=xDl h;have hb:yI9 s=IntKind.i64.wrap s.code[s.pos]:=(by unfold yI9;rw [if_pos h,xDt,e1];rfl);have hv:zSg s=IntKind.i64.wrap s.code[s.pos]:=(by unfold zSg;rw [if_pos h,hb]);have hn:zUv s=⟨s.code,s.pos+1,IntKind.u64.wrap (IntKind.u64.wrap (IntKind.u64.wrap (s.seed*6364136223846793005)+IntKind.u64.wrap (IntKind.i64.wrap s.code[s.pos]))+1442695040888963407)⟩:=(by unfold zUv zJ9;rw [hb]);rw [hv,hn];simp -implicitDefEqProofs (disch:=omega) only [go_sem,↓reduceIte ,xDj,d1,xDj,xDo,xD3,xDp,xDm,xDk,h,e1,w1,d2]
  · have d1:decide ((s.pos:Int)<(s.code.length:Int))=false:=(by rw [decide_eq_false_iff_not];omega);have d2:decide (((s.pos+1:Nat):Int)≤(s.code.length:Int))=false:=(by rw [decide_eq_false_iff_not];omega);have hb:yI9 s=0:=(by unfold yI9;rw [if_neg h]);have hv:zSg s=yV0 (zJ9 s):=(by unfold zSg;rw [if_neg h]);have hn:zUv s=⟨s.code,s.pos+1,IntKind.u64.wrap (IntKind.u64.wrap (IntKind.u64.wrap (s.seed*6364136223846793005)+IntKind.u64.wrap 0)+1442695040888963407)⟩:=(by unfold zUv zJ9;rw [hb]);have hq:zJ9 s=IntKind.u64.wrap (IntKind.u64.wrap (IntKind.u64.wrap (s.seed*6364136223846793005)+IntKind.u64.wrap 0)+1442695040888963407):=(by unfold zJ9;rw [hb]);rw [hv,hn,hq];unfold yV0;simp -implicitDefEqProofs (disch:=omega) only [go_sem,↓reduceIte ,xDj,d1,w1,d2];omega
theorem yC1 (code:List Int):Contract Try.prog NoG 50 [.sl false 1 (code.map rB8)] (.box none (Src.d ⟨code,0,0⟩)):=by refine zPk ?_;unfold code_spec_l00From Src.d;simp -implicitDefEqProofs (disch:=omega) only [go_sem,↓reduceIte];rfl
def zCq (s:Src)(n:Int):Int:=if n≤1 then 0 else if 200<n then (zSg s*256+zSg (zUv s)).tmod n else (zSg s).tmod n
def zBq (s:Src)(n:Int):Src:=if n≤1 then s else if 200<n then zUv (zUv s) else zUv s
theorem SrcB.pick {k:Nat}{s:Src}(h:SrcB (k+2) s)(n:Int):SrcB k (zBq s n):=by
  unfold zBq;split
  · exact h.mono (by omega)
  · split
    · exact h.next.next
    · exact h.next.mono (by omega)
theorem zGu {k:Nat}{s:Src}(h:SrcB (k+2) s){n:Int}(hn:1≤n):0≤zCq s n∧zCq s n<n:=by
  have h1:=zTv h;have h2:=zTv h.next;have key:∀ x:Int,0≤x→0≤x.tmod n∧x.tmod n<n:=fun x hx=>by rw [xIk hx];exact ⟨Int.emod_nonneg _ (by omega),Int.emod_lt_of_pos _ (by omega)⟩
  unfold zCq;split
  · omega
  · split
    · exact key _ (by omega)
    · exact key _ h1.1
def code_spec_l00Src_pick:VCode:=(.seq (.ops [
  ⟨some 4,none,.asg (.const (.int .i64 0))⟩]) (.seq (.seq (.ops [
  ⟨some 6,none,.mv (.tmp 1)⟩,
  ⟨some 7,none,.bin .leq (.tmp 6) (.const (.int .i64 1))⟩]) (.cond (.tmp 7) (.seq (.ops [
  ⟨some 4,none,.asg (.const (.int .i64 0))⟩]) .ret) .skip)) (.seq (.ops [
  ⟨some 8,none,.mv (.tmp 0)⟩,
  ⟨some 9,none,.callX 76 [(.tmp 8)]⟩,
  ⟨some 5,none,.asg (.tmp 9)⟩]) (.seq (.seq (.ops [
  ⟨some 10,none,.mv (.tmp 1)⟩,
  ⟨some 11,none,.bin .gtr (.tmp 10) (.const (.int .i64 200))⟩]) (.cond (.tmp 11) (.ops [
  ⟨some 12,none,.mv (.tmp 5)⟩,
  ⟨some 13,none,.bin .mul (.tmp 12) (.const (.int .i64 256))⟩,
  ⟨some 14,none,.mv (.tmp 0)⟩,
  ⟨some 15,none,.callX 76 [(.tmp 14)]⟩,
  ⟨some 16,none,.bin .add (.tmp 13) (.tmp 15)⟩,
  ⟨some 5,none,.asg (.tmp 16)⟩]) .skip)) (.seq (.ops [
  ⟨some 17,none,.mv (.tmp 5)⟩,
  ⟨some 18,none,.mv (.tmp 1)⟩,
  ⟨some 19,none,.bin .rem (.tmp 17) (.tmp 18)⟩,
  ⟨some 4,none,.asg (.tmp 19)⟩]) .ret)))))
theorem zJx {a0 a1 d:D}{cells cells':List D}(h:∀ b,code_spec_l00Src_pick.wp (CT Try.prog NoG) (yHl [(.t 4)] d 0 b cells') [.box (some b) cells,a1,.undef,.undef,.undef,.undef,.undef,.undef,.undef,.undef,.undef,.undef,.undef,.undef,.undef,.undef,.undef,.undef,.undef,.undef]):ContractX Try.prog NoG 54 0 [a0,a1] cells d cells' :=
  zDh (pt:=0) noG Try.func54 (fun us W=>by kernel_rfl) (c:=Try.f54.body.getD .skip) (ms:=[]) (ms':=[]) (by kernel_rfl) (by kernel_rfl) (by kernel_rfl) (by simp) h
set_option maxHeartbeats 1000000 in
theorem zG4 (s:Src)(n:Int)(hs:SrcB 2 s):ContractX Try.prog NoG 54 0 [.undef,.v (.int .i64 n)] s.d (.v (.int .i64 (zCq s n))) (zBq s n).d:=by
  refine zJx ?_;intro b;unfold code_spec_l00Src_pick;have h1:=zTv hs;have h2:=zTv hs.next;by_cases hn:n≤1
  · have d1:decide (n≤1)=true:=decide_eq_true hn;have e1:zCq s n=0:=(by unfold zCq;rw [if_pos hn]);have e2:zBq s n=s:=(by unfold zBq;rw [if_pos hn]);rw [e1,e2];unfold Src.d;simp -implicitDefEqProofs (disch:=omega) only [go_sem,↓reduceIte ,d1]
  · have d1:decide (n≤1)=false:=decide_eq_false hn;have d0:n≠0:=(by omega);by_cases h200:200<n
    · have d2:decide (200<n)=true:=decide_eq_true h200;have e1:zCq s n=(zSg s*256+zSg (zUv s)).tmod n:=(by unfold zCq;rw [if_neg hn,if_pos h200]);have e2:zBq s n=zUv (zUv s):=(by unfold zBq;rw [if_neg hn,if_pos h200]);have w1:IntKind.i64.wrap (zSg s*256)=zSg s*256:=wrI (by omega) (by omega);have w2:IntKind.i64.wrap (zSg s*256+zSg (zUv s))=zSg s*256+zSg (zUv s):=wrI (by omega) (by omega);rw [e1,e2];simp only [Src.d];simp -implicitDefEqProofs (disch:=omega) only [go_sem,↓reduceIte ,d1];refine zCx (i:=0) (r:=0) (yCx s (hs.mono (by omega))) rfl rfl (by simp -implicitDefEqProofs (disch:=omega) only [go_sem,↓reduceIte,deep,TD.rows,zAf,zAc,zAg,zAb,zAd,zAa,Src.d,d2,w1];exact rfl) ?_;simp -implicitDefEqProofs (disch:=omega) only [go_sem,↓reduceIte ,Src.d,d2,w1];refine zCx (i:=0) (r:=0) (yCx (zUv s) hs.next) rfl rfl (by simp -implicitDefEqProofs (disch:=omega) only [go_sem,↓reduceIte,deep,TD.rows,zAf,zAc,zAg,zAb,zAd,zAa,Src.d,w2,d0];exact rfl) ?_;simp -implicitDefEqProofs (disch:=omega) only [go_sem,↓reduceIte ,Src.d,w2,d0]
    · have d2:decide (200<n)=false:=decide_eq_false h200;have e1:zCq s n=(zSg s).tmod n:=(by unfold zCq;rw [if_neg hn,if_neg h200]);have e2:zBq s n=zUv s:=(by unfold zBq;rw [if_neg hn,if_neg h200]);rw [e1,e2];simp only [Src.d];simp -implicitDefEqProofs (disch:=omega) only [go_sem,↓reduceIte ,d1];refine zCx (i:=0) (r:=0) (yCx s (hs.mono (by omega))) rfl rfl (by simp -implicitDefEqProofs (disch:=omega) only [go_sem,↓reduceIte,deep,TD.rows,zAf,zAc,zAg,zAb,zAd,zAa,Src.d,d2,d0];exact rfl) ?_;simp -implicitDefEqProofs (disch:=omega) only [go_sem,↓reduceIte ,Src.d,d2,d0]
def yXi (s:Src)(n:Int):Bool:=decide (zCq s n=0)
def code_spec_l00Src_one:VCode:=(.seq (.ops [
  ⟨some 4,none,.asg (.const (.bool false))⟩]) (.seq (.ops [
  ⟨some 5,none,.mv (.tmp 0)⟩,
  ⟨some 6,none,.mv (.tmp 1)⟩,
  ⟨some 7,none,.callX 54 [(.tmp 5),(.tmp 6)]⟩,
  ⟨some 8,none,.bin .eql (.tmp 7) (.const (.int .i64 0))⟩,
  ⟨some 4,none,.asg (.tmp 8)⟩]) .ret))
theorem zKf {a0 a1 d:D}{cells cells':List D}(h:∀ b,code_spec_l00Src_one.wp (CT Try.prog NoG) (yHl [(.t 4)] d 0 b cells') [.box (some b) cells,a1,.undef,.undef,.undef,.undef,.undef,.undef,.undef]):ContractX Try.prog NoG 52 0 [a0,a1] cells d cells' :=
  zDh (pt:=0) noG Try.func52 (fun us W=>by kernel_rfl) (c:=Try.f52.body.getD .skip) (ms:=[]) (ms':=[]) (by kernel_rfl) (by kernel_rfl) (by kernel_rfl) (by simp) h
theorem xAu (s:Src)(n:Int)(hs:SrcB 2 s):ContractX Try.prog NoG 52 0 [.undef,.v (.int .i64 n)] s.d (.v (.bool (yXi s n))) (zBq s n).d:=by refine zKf ?_;intro b;unfold code_spec_l00Src_one yXi;simp only [Src.d];simp -implicitDefEqProofs (disch:=omega) only [go_sem,↓reduceIte];refine zCx (i:=0) (r:=0) (zG4 s n hs) rfl rfl (by simp -implicitDefEqProofs (disch:=omega) only [go_sem,↓reduceIte,deep,TD.rows,zAf,zAc,zAg,zAb,zAd,zAa,Src.d];exact rfl) ?_;simp -implicitDefEqProofs (disch:=omega) only [go_sem,↓reduceIte ,Src.d]
def code_spec_l00Src_among:VCode:=(.seq (.ops [
  ⟨some 4,none,.asg (.const (.int .i64 0))⟩]) (.seq (.ops [
  ⟨some 5,none,.mv (.tmp 1)⟩,
  ⟨some 6,none,.mv (.tmp 0)⟩,
  ⟨some 7,none,.mv (.tmp 1)⟩,
  ⟨some 8,none,.len (.tmp 7)⟩,
  ⟨some 9,none,.callX 54 [(.tmp 6),(.tmp 8)]⟩,
  ⟨some 10,none,.ia 1 (.tmp 5) (.tmp 9)⟩,
  ⟨some 11,none,.load 1 false (.tmp 10)⟩,
  ⟨some 4,none,.asg (.tmp 11)⟩]) .ret))
theorem zI1 {a0 a1 d:D}{cells cells':List D}(h:∀ b,code_spec_l00Src_among.wp (CT Try.prog NoG) (yHl [(.t 4)] d 0 b cells') [.box (some b) cells,a1,.undef,.undef,.undef,.undef,.undef,.undef,.undef,.undef,.undef,.undef]):ContractX Try.prog NoG 53 0 [a0,a1] cells d cells' :=
  zDh (pt:=0) noG Try.func53 (fun us W=>by kernel_rfl) (c:=Try.f53.body.getD .skip) (ms:=[]) (ms':=[]) (by kernel_rfl) (by kernel_rfl) (by kernel_rfl) (by simp) h
theorem zWs (s:Src)(xs:List Int)(hs:SrcB 2 s)(h0:0<xs.length)(hl:xs.length≤1048576):ContractX Try.prog NoG 53 0 [.undef,.sl false 1 (xs.map rI)] s.d (.v (.int .i64 (xs.getD (zCq s xs.length).toNat 0))) (zBq s xs.length).d:=by
  refine zI1 ?_;intro b;unfold code_spec_l00Src_among;have hp:=zGu (k:=0) hs (n:=xs.length) (by omega);obtain ⟨k,hk⟩:∃ k:Nat,zCq s xs.length=(k:Int):=⟨(zCq s xs.length).toNat,by omega⟩
  have hlt:k<xs.length:=(by omega);have e1:=xDl hlt;have e2:xs.getD k 0=xs[k]:=(by rw [xDt,e1];rfl);rw [hk,xDo,e2];simp only [Src.d];simp -implicitDefEqProofs (disch:=omega) only [go_sem,↓reduceIte ,xDj];refine zCx (i:=0) (r:=0) (zG4 s xs.length hs) rfl rfl (by simp -implicitDefEqProofs (disch:=omega) only [go_sem,↓reduceIte,deep,TD.rows,zAf,zAc,zAg,zAb,zAd,zAa,Src.d,hk,xDj,xDo,xD3,xDp,xDm,xDk,hlt,e1];exact rfl) ?_;simp -implicitDefEqProofs (disch:=omega) only [go_sem,↓reduceIte ,Src.d,hk,xDj,xDo,xD3,xDp,xDm,xDk,hlt,e1]
end Go.Proofs.Ytaleehohmpohoaa
