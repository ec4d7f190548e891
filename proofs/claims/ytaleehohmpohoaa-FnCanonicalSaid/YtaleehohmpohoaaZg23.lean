/- Laws that the proof stands on. -/
import Derived.Test.YtaleehohmpohoaaZVDsnP
import Derived.Test.YtaleehohmpohoaaZVBkPiece
import Derived.Test.YtaleehohmpohoaaZg13
import Derived.Test.YtaleehohmpohoaaZg19
set_option linter.all false
namespace Go.Proofs.Ytaleehohmpohoaa
open Go.RowKit Go.V
attribute [local go_sem] xBh xBb xBc xA8 xA6 xBl xBk xBy xBm xC7 xBt xCi xBn xCl xB6 xCg xBi xBp xBw xCn Value.oneCell' xCp xCu xCv xC0 xC1 xBr xB7 and_true true_and beq_self_eq_true xBa if_true if_false xB2 Nat.reduceAdd Nat.reduceMul Nat.reduceLeDiff xBj xB5 xB0 not_true_eq_false not_false_eq_true ne_eq reduceCtorEq xCf bne_self_eq_false Nat.reduceEqDiff List.isPrefixOf xB9 xCm xCq xC5 xCx decide_true decide_false Nat.reduceBEq Nat.reduceBNe xBv xBz exists_eq_left' exists_eq_left xAv or_false or_true true_or false_or xAx xCk mB Nat.reduceMod Nat.reduceDiv
set_option maxRecDepth 100000
theorem yMk {ps:List Piece}{i:Nat}(hi:i<ps.length):zQ2 (yEn ((zRi ps).take i)) (.agg #[.int .i64 (ps.getD (ps.length-1-i) p0).South,.int .i64 (ps.getD (ps.length-1-i) p0).West]) (.int .i64 ((ps.length-1-i:Nat):Int))=yEn ((zRi ps).take (i+1)):=by have h1:i<(zRi ps).length:=(by rw [zRh];exact hi);have h2:=yJ5 (key:=yUw) (val:=yUy) h1;rw [yK7 hi] at h2;have h3:ps.getD (ps.length-1-i) p0=ps[ps.length-1-i]'qAc:=(by rw [xA3,xA1 qAc];rfl);rw [h3];exact h2
def code_impl_byInlet:VCode:=(.seq (.ops [
  ⟨some 2,none,.asg (.const (.map none))⟩]) (.seq (.ops [
  ⟨some 6,none,.mkm (.flat [1,1])⟩,
  ⟨some 3,none,.alloc [(.map none)]⟩,
  ⟨none,none,.store 1 (.tmp 3) (.tmp 6)⟩]) (.seq (.seq (.ops [
  ⟨some 7,none,.mv (.tmp 0)⟩,
  ⟨some 8,none,.callX 93 [(.tmp 7)]⟩]) (.block 0 (.rangeF (.tmp 8) [9,10] (mB 18 261680) (.seq (.ops [
  ⟨some 4,none,.asg (.tmp 9)⟩]) (.ops [
  ⟨some 5,none,.alloc [(.int .i64 0),(.int .i64 0),(.int .i64 0),(.int .i64 0),(.int .i64 0)]⟩,
  ⟨none,none,.store 5 (.tmp 5) (.tmp 10)⟩])) (.block 1 (.ops [
  ⟨some 11,none,.load 1 false (.tmp 3)⟩,
  ⟨some 12,none,.fa 3 (.tmp 5)⟩,
  ⟨some 13,none,.load 1 false (.tmp 12)⟩,
  ⟨some 14,none,.fa 4 (.tmp 5)⟩,
  ⟨some 15,none,.load 1 false (.tmp 14)⟩,
  ⟨some 16,none,.build [(.int .i64 0),(.int .i64 0)] [(0,1,(.tmp 13)),(1,1,(.tmp 15))]⟩,
  ⟨some 17,none,.mv (.tmp 4)⟩,
  ⟨none,none,.mupd (.flat [1,1]) (.tmp 11) (.tmp 16) (.tmp 17)⟩]))))) (.seq (.ops [
  ⟨some 18,none,.load 1 false (.tmp 3)⟩,
  ⟨some 2,none,.asg (.tmp 18)⟩]) .ret))))
theorem zQ9 {a0 d:D}(h:code_impl_byInlet.wp (CT Try.prog NoG) (zHy [(.t 2)] d) [a0,.undef,.undef,.undef,.undef,.undef,.undef,.undef,.undef,.undef,.undef,.undef,.undef,.undef,.undef,.undef,.undef,.undef,.undef]):Contract Try.prog NoG 66 [a0] d :=
  zQw (pt:=0) noG Try.func66 (fun us W=>by kernel_rfl) (c:=Try.f66.body.getD .skip) (ms:=[]) (ms':=[]) (by kernel_rfl) (by kernel_rfl) (by kernel_rfl) (by kernel_rfl) h
set_option maxHeartbeats 1000000 in
theorem zWr (ps:List Piece)(hn:ps.length≤1048576):Contract Try.prog NoG 66 [.sl false 5 (ps.map (Piece.td.d false))] (.mp (.flat [1,1]) (yEn (zRi ps))):=by
  refine zQ9 ?_;unfold code_impl_byInlet;simp -implicitDefEqProofs (disch:=omega) only [go_sem,↓reduceIte];refine zAr (zQ0 ps) qAb ?_;simp -implicitDefEqProofs (disch:=omega) only [go_sem,↓reduceIte];refine yA0 (N:=ps.length) qAd (by rfl) (fun i=>bkP ps i) (zQc ps hn) (fun _ _=>rfl) qAd (fun i=>[(3,.box none [.mp (.flat [1,1]) (yEn ((zRi ps).take i))])]) (fun _=>by simp only [zBq,zBb,xA8,xBc];exact rfl) (by rw [show yEn ((zRi ps).take 0)=[] from rfl];exact qAa) ?_ ?_
  · intro i hi;have hs:=yMk hi;simp -implicitDefEqProofs (disch:=omega) only [go_sem,↓reduceIte ,bkP,Piece.td_d,hs];exact ⟨_,zD2,rfl⟩
  · have hN:(zRi ps).take ps.length=zRi ps:=(by rw [← zRh ps,xDj]);simp -implicitDefEqProofs (disch:=omega) only [go_sem,↓reduceIte ,hN]
structure dsnB (d:Design):Prop where
  b:d.Bottom.length≤1048576
  l:d.Left.length≤1048576
  p:d.Pieces.length≤1048576
theorem zWe {d:Design}(h:Design.cnt d≤1048576):dsnB d:=by have h1:Design.cnt d=d.Bottom.length+d.Left.length+d.Pieces.length:=rfl;exact ⟨by omega,by omega,by omega⟩
def code_impl_gluesOk:VCode:=(.seq (.ops [
  ⟨some 2,none,.asg (.const (.bool false))⟩]) (.seq (.ops [
  ⟨some 3,none,.mv (.tmp 0)⟩,
  ⟨some 4,none,.callX 86 [(.tmp 3),(.const (.int .i64 120))]⟩,
  ⟨some 2,none,.asg (.tmp 4)⟩]) .ret))
theorem zQ8 {a0 d:D}(h:code_impl_gluesOk.wp (CT Try.prog NoG) (zHy [(.t 2)] d) [a0,.undef,.undef,.undef,.undef]):Contract Try.prog NoG 64 [a0] d :=
  zAo (pt:=0) noG Try.func64 (fun us W=>by kernel_rfl) (c:=Try.f64.body.getD .skip) (ms:=[]) (ms':=[]) (by kernel_rfl) (by kernel_rfl) (by kernel_rfl) h
def code_impl_edgeOk:VCode:=(.seq (.ops [
  ⟨some 2,none,.asg (.const (.bool false))⟩]) (.seq (.ops [
  ⟨some 3,none,.mv (.tmp 0)⟩,
  ⟨some 4,none,.len (.tmp 3)⟩,
  ⟨some 5,none,.callX 48 [(.tmp 4),(.const (.int .i64 1)),(.const (.int .i64 10))]⟩,
  ⟨some 6,none,.mv (.tmp 5)⟩,
  ⟨some 7,some (6,true),.mv (.tmp 0)⟩,
  ⟨some 8,some (6,true),.callX 64 [(.tmp 7)]⟩,
  ⟨some 9,none,.pick (.tmp 6) (.tmp 8) (.const (.bool false))⟩,
  ⟨some 2,none,.asg (.tmp 9)⟩]) .ret))
theorem zTa {a0 d:D}(h:code_impl_edgeOk.wp (CT Try.prog NoG) (zHy [(.t 2)] d) [a0,.undef,.undef,.undef,.undef,.undef,.undef,.undef,.undef,.undef]):Contract Try.prog NoG 62 [a0] d :=
  zAo (pt:=0) noG Try.func62 (fun us W=>by kernel_rfl) (c:=Try.f62.body.getD .skip) (ms:=[]) (ms':=[]) (by kernel_rfl) (by kernel_rfl) (by kernel_rfl) h
def code_impl_ValidDesign_1:VCode:=(.seq (.ops [
  ⟨some 1,none,.box (.tmp 0)⟩,
  ⟨some 2,none,.asg (.const (.bool false))⟩]) (.seq (.ops [
  ⟨some 3,none,.fa 0 (.tmp 1)⟩,
  ⟨some 4,none,.load 1 false (.tmp 3)⟩,
  ⟨some 5,none,.callX 48 [(.tmp 4),(.const (.int .i64 0)),(.const (.int .i64 5))]⟩,
  ⟨some 6,none,.un .not (.tmp 5)⟩,
  ⟨some 7,none,.mv (.tmp 6)⟩,
  ⟨some 8,some (7,false),.fa 1 (.tmp 1)⟩,
  ⟨some 9,some (7,false),.load 1 false (.tmp 8)⟩,
  ⟨some 10,some (7,false),.fa 2 (.tmp 1)⟩,
  ⟨some 11,some (7,false),.load 1 false (.tmp 10)⟩,
  ⟨some 12,some (7,false),.fa 3 (.tmp 1)⟩,
  ⟨some 13,some (7,false),.load 1 false (.tmp 12)⟩,
  ⟨some 14,some (7,false),.fa 4 (.tmp 1)⟩,
  ⟨some 15,some (7,false),.load 1 false (.tmp 14)⟩,
  ⟨some 16,some (7,false),.bsl 1 [(.tmp 9),(.tmp 11),(.tmp 13),(.tmp 15)]⟩,
  ⟨some 17,some (7,false),.callX 64 [(.tmp 16)]⟩,
  ⟨some 18,some (7,false),.un .not (.tmp 17)⟩,
  ⟨some 19,none,.pick (.tmp 7) (.const (.bool true)) (.tmp 18)⟩,
  ⟨some 2,none,.asg (.tmp 19)⟩]) .ret))
theorem zJj {a0 d:D}(h:code_impl_ValidDesign_1.wp (CT Try.prog NoG) (zHy [(.t 2)] d) [a0,.undef,.undef,.undef,.undef,.undef,.undef,.undef,.undef,.undef,.undef,.undef,.undef,.undef,.undef,.undef,.undef,.undef,.undef,.undef]):Contract Try.prog NoG 63 [a0] d :=
  zAo (pt:=0) noG Try.func63 (fun us W=>by kernel_rfl) (c:=Try.f63.body.getD .skip) (ms:=[]) (ms':=[]) (by kernel_rfl) (by kernel_rfl) (by kernel_rfl) h
def code_impl_ValidDesign:VCode:=(.seq (.ops [
  ⟨some 1,none,.box (.tmp 0)⟩,
  ⟨some 2,none,.asg (.const (.bool false))⟩]) (.seq (.seq (.ops [
  ⟨some 4,none,.fa 0 (.tmp 1)⟩,
  ⟨some 5,none,.load 1 false (.tmp 4)⟩,
  ⟨some 6,none,.callX 62 [(.tmp 5)]⟩,
  ⟨some 7,none,.un .not (.tmp 6)⟩,
  ⟨some 8,none,.mv (.tmp 7)⟩,
  ⟨some 9,some (8,false),.fa 1 (.tmp 1)⟩,
  ⟨some 10,some (8,false),.load 1 false (.tmp 9)⟩,
  ⟨some 11,some (8,false),.callX 62 [(.tmp 10)]⟩,
  ⟨some 12,some (8,false),.un .not (.tmp 11)⟩,
  ⟨some 13,none,.pick (.tmp 8) (.const (.bool true)) (.tmp 12)⟩,
  ⟨some 14,none,.mv (.tmp 13)⟩,
  ⟨some 15,some (14,false),.fa 2 (.tmp 1)⟩,
  ⟨some 16,some (14,false),.load 1 false (.tmp 15)⟩,
  ⟨some 17,some (14,false),.len (.tmp 16)⟩,
  ⟨some 18,some (14,false),.bin .gtr (.tmp 17) (.const (.int .i64 100))⟩,
  ⟨some 19,none,.pick (.tmp 14) (.const (.bool true)) (.tmp 18)⟩]) (.cond (.tmp 19) (.seq (.ops [
  ⟨some 2,none,.asg (.const (.bool false))⟩]) .ret) .skip)) (.seq (.ops [
  ⟨some 3,none,.asg (.func 63)⟩]) (.seq (.draw (mB 33 8588886016) [] [⟨0,mB 33 8588886016,[],⟨some 20,none,.fa 2 (.tmp 1)⟩⟩,⟨1,mB 33 8587837440,[],⟨some 21,none,.load 1 false (.tmp 20)⟩⟩,⟨2,mB 33 8588886016,[],⟨some 22,none,.mv (.tmp 3)⟩⟩,⟨3,mB 33 8581545984,[],⟨some 23,none,.call 65 [(.tmp 21),(.tmp 22)]⟩⟩,⟨4,mB 33 8573157376,[],⟨some 24,none,.un .not (.tmp 23)⟩⟩,⟨5,mB 33 8556380160,[],⟨some 25,none,.mv (.tmp 24)⟩⟩,⟨6,mB 33 8522825728,[],⟨some 26,some (25,true),.fa 2 (.tmp 1)⟩⟩,⟨7,mB 33 8455716864,[],⟨some 27,some (25,true),.load 1 false (.tmp 26)⟩⟩,⟨8,mB 33 8321499136,[],⟨some 28,some (25,true),.call 66 [(.tmp 27)]⟩⟩,⟨9,mB 33 8053063680,[],⟨some 29,some (25,true),.mlen (.tmp 28)⟩⟩,⟨10,mB 33 8522825728,[],⟨some 30,some (25,true),.fa 2 (.tmp 1)⟩⟩,⟨11,mB 33 7449083904,[],⟨some 31,some (25,true),.load 1 false (.tmp 30)⟩⟩,⟨12,mB 33 5301600256,[],⟨some 32,some (25,true),.len (.tmp 31)⟩⟩] [⟨some 33,some (25,true),.bin .eql (.tmp 29) (.tmp 32)⟩,⟨some 34,none,.pick (.tmp 25) (.tmp 33) (.const (.bool false))⟩,⟨some 2,none,.asg (.tmp 34)⟩]) .ret))))
theorem zLr {a0 d:D}(h:code_impl_ValidDesign.wp (CT Try.prog NoG) (zHy [(.t 2)] d) [a0,.undef,.undef,.undef,.undef,.undef,.undef,.undef,.undef,.undef,.undef,.undef,.undef,.undef,.undef,.undef,.undef,.undef,.undef,.undef,.undef,.undef,.undef,.undef,.undef,.undef,.undef,.undef,.undef,.undef,.undef,.undef,.undef,.undef,.undef]):Contract Try.prog NoG 27 [a0] d :=
  zAo (pt:=0) noG Try.func27 (fun us W=>by kernel_rfl) (c:=Try.f27.body.getD .skip) (ms:=[]) (ms':=[]) (by kernel_rfl) (by kernel_rfl) (by kernel_rfl) h
theorem zWq (xs:List Int)(hn:xs.length≤1048576):Contract Try.prog NoG 64 [.sl false 1 (xs.map rI)] (.v (.bool (xs.all (inR 0 119)))):=by refine zQ8 ?_;unfold code_impl_gluesOk;simp -implicitDefEqProofs (disch:=omega) only [go_sem,↓reduceIte];refine zAr (yE1 xs 120 qAc qAc hn) (by simp -implicitDefEqProofs (disch:=omega) only [go_sem,↓reduceIte,deep,TD.rows,zAw,zAt,zA0,zAs,zAv,zAq,Int.reduceSub];exact rfl) ?_;simp -implicitDefEqProofs (disch:=omega) only [go_sem,↓reduceIte ,Int.reduceSub]
theorem zGh (xs:List Int)(hn:xs.length≤1048576):Contract Try.prog NoG 62 [.sl false 1 (xs.map rI)] (.v (.bool (zFv xs))):=by
  refine zTa ?_;unfold code_impl_edgeOk zFv;simp -implicitDefEqProofs (disch:=omega) only [go_sem,↓reduceIte ,xAw];cases h:inR 1 10 xs.length with
  | false=>refine zAr (zIj _ _ _) qAf ?_;simp -implicitDefEqProofs (disch:=omega) only [go_sem,↓reduceIte ,h]
  | true=>refine zAr (zIj _ _ _) qAf ?_;simp -implicitDefEqProofs (disch:=omega) only [go_sem,↓reduceIte ,h];refine zAr (zWq xs hn) qAb ?_;simp -implicitDefEqProofs (disch:=omega) only [go_sem,↓reduceIte]
theorem zT7 (p:Piece):Contract Try.prog NoG 63 [.agg (Piece.td.d false p)] (.v (.bool (!zTy p))):=by
  rw [Piece.td_d];refine zJj ?_;unfold code_impl_ValidDesign_1 zTy;simp -implicitDefEqProofs (disch:=omega) only [go_sem,↓reduceIte];cases h:inR 0 5 p.Color with
  | false=>refine zAr (zIj _ _ _) qAf ?_;simp -implicitDefEqProofs (disch:=omega) only [go_sem,↓reduceIte ,h]
  | true=>refine zAr (zIj _ _ _) qAf ?_;simp -implicitDefEqProofs (disch:=omega) only [go_sem,↓reduceIte ,h];refine zAr (zWq [p.North,p.East,p.South,p.West] qAh) qAb ?_;simp -implicitDefEqProofs (disch:=omega) only [go_sem,↓reduceIte]
set_option maxHeartbeats 1000000 in
theorem zN7 (d:Design)(hd:dsnB d):Contract Try.prog NoG 27 [.agg (Design.td.d false d)] (.v (.bool (zC1 d))):=by
  have hb:=hd.b;have hl:=hd.l;have hp:=hd.p;rw [Design.td_d];refine zLr ?_;unfold code_impl_ValidDesign zC1;simp -implicitDefEqProofs (disch:=omega) only [go_sem,↓reduceIte];cases h1:zFv d.Bottom with
  | false=>refine zAr (zGh d.Bottom hb) qAe ?_;simp -implicitDefEqProofs (disch:=omega) only [go_sem,↓reduceIte ,h1]
  | true =>
  cases h2:zFv d.Left with
  | false=>refine zAr (zGh d.Bottom hb) qAe ?_;simp -implicitDefEqProofs (disch:=omega) only [go_sem,↓reduceIte ,h1];refine zAr (zGh d.Left hl) qAr ?_;simp -implicitDefEqProofs (disch:=omega) only [go_sem,↓reduceIte ,h2]
  | true =>
  by_cases h3:d.Pieces.length≤100
  · have h3':decide ((100:Int)<(d.Pieces.length:Int))=false:=qBu;rw [decide_eq_true h3];cases h4:d.Pieces.all zTy with
    | false=>refine zAr (zGh d.Bottom hb) qAe ?_;simp -implicitDefEqProofs (disch:=omega) only [go_sem,↓reduceIte ,h1];refine zAr (zGh d.Left hl) qAq ?_;simp -implicitDefEqProofs (disch:=omega) only [go_sem,↓reduceIte ,h2,xAw,h3'];refine zK5 (zGe _ [] ⟨rfl,fun _=>rfl,fun _=>rfl,fun _=>rfl⟩ d.Pieces (fun p=>!zTy p) (fun x _=>zT7 x) qAc) qA3 ?_;simp -implicitDefEqProofs (disch:=omega) only [go_sem,↓reduceIte ,zWl,xG0,h4]
    | true=>refine zAr (zGh d.Bottom hb) qAe ?_;simp -implicitDefEqProofs (disch:=omega) only [go_sem,↓reduceIte ,h1];refine zAr (zGh d.Left hl) qAq ?_;simp -implicitDefEqProofs (disch:=omega) only [go_sem,↓reduceIte ,h2,xAw,h3'];refine zK5 (zGe _ [] ⟨rfl,fun _=>rfl,fun _=>rfl,fun _=>rfl⟩ d.Pieces (fun p=>!zTy p) (fun x _=>zT7 x) qAc) qA3 ?_;simp -implicitDefEqProofs (disch:=omega) only [go_sem,↓reduceIte ,zWl,xG0,h4];refine zK5 (zWr d.Pieces hp) (by simp -implicitDefEqProofs (disch:=omega) only [go_sem,↓reduceIte,deep,TD.rows,zAw,zAt,zA0,zAs,zAv,zAq,xAw,yIg];exact rfl) ?_;simp -implicitDefEqProofs (disch:=omega) only [go_sem,↓reduceIte ,xAw,yIg]
  · have h3':decide ((100:Int)<(d.Pieces.length:Int))=true:=(by rw [decide_eq_true_eq];omega);rw [decide_eq_false h3];refine zAr (zGh d.Bottom hb) qAe ?_;simp -implicitDefEqProofs (disch:=omega) only [go_sem,↓reduceIte ,h1];refine zAr (zGh d.Left hl) qAq ?_;simp -implicitDefEqProofs (disch:=omega) only [go_sem,↓reduceIte ,h2,xAw,h3']
theorem zRj {p:Nat→Bool}{i n:Nat}(hi:i<n)(h:p i=false):(List.range n).all p=false:=by rw [List.all_eq_false];exact ⟨i,by simpa using hi,by simp [h]⟩
theorem yO5 {α:Type}{xs:List α}{p:α→Bool}{j:Nat}(hj:j<xs.length)(h:p xs[j]=false):xs.all p=false:=by rw [List.all_eq_false];exact ⟨xs[j],xB3 hj,by simp [h]⟩
theorem zSf {α:Type}{xs:List α}{i:Nat}(hi:i<xs.length):xs.take (i+1)=xs.take i++[xs[i]]:=xCd hi
def code_spec_l24Numbers:VCode:=(.seq (.ops [
  ⟨some 2,none,.asg (.const (.bool false))⟩]) (.seq (.seq (.ops [
  ⟨some 4,none,.mv (.tmp 0)⟩,
  ⟨some 5,none,.len (.tmp 4)⟩,
  ⟨some 6,none,.callX 45 [(.tmp 5),(.const (.int .i64 1)),(.const (.int .i64 10))]⟩,
  ⟨some 7,none,.un .not (.tmp 6)⟩]) (.cond (.tmp 7) (.seq (.ops [
  ⟨some 2,none,.asg (.const (.bool false))⟩]) .ret) .skip)) (.seq (.seq (.ops [
  ⟨some 3,none,.asg (.const (.int .i64 0))⟩]) (.block 0 (.loop (mB 20 1048566) (.seq (.seq (.ops [
  ⟨some 8,none,.mv (.tmp 3)⟩,
  ⟨some 9,none,.mv (.tmp 0)⟩,
  ⟨some 10,none,.len (.tmp 9)⟩,
  ⟨some 11,none,.bin .lss (.tmp 8) (.tmp 10)⟩]) (.cond (.tmp 11) .skip (.exit 0))) (.seq (.block 1 (.seq (.ops [
  ⟨some 14,none,.mv (.tmp 0)⟩,
  ⟨some 15,none,.mv (.tmp 3)⟩,
  ⟨some 16,none,.ia 1 (.tmp 14) (.tmp 15)⟩,
  ⟨some 17,none,.load 1 false (.tmp 16)⟩,
  ⟨some 18,none,.callX 45 [(.tmp 17),(.const (.int .i64 0)),(.const (.int .i64 119))]⟩,
  ⟨some 19,none,.un .not (.tmp 18)⟩]) (.cond (.tmp 19) (.seq (.ops [
  ⟨some 2,none,.asg (.const (.bool false))⟩]) .ret) .skip))) (.ops [
  ⟨some 12,none,.mv (.tmp 3)⟩,
  ⟨some 13,none,.bin .add (.tmp 12) (.const (.int .i64 1))⟩,
  ⟨some 3,none,.asg (.tmp 13)⟩])))))) (.seq (.ops [
  ⟨some 2,none,.asg (.const (.bool true))⟩]) .ret))))
theorem zL2 {a0 d:D}(h:code_spec_l24Numbers.wp (CT Try.prog NoG) (zHy [(.t 2)] d) [a0,.undef,.undef,.undef,.undef,.undef,.undef,.undef,.undef,.undef,.undef,.undef,.undef,.undef,.undef,.undef,.undef,.undef,.undef,.undef]):Contract Try.prog NoG 81 [a0] d :=
  zAo (pt:=0) noG Try.func81 (fun us W=>by kernel_rfl) (c:=Try.f81.body.getD .skip) (ms:=[(mB 20 1048566)]) (ms':=[]) (by kernel_rfl) (by kernel_rfl) (by kernel_rfl) h
def code_spec_l24Piece:VCode:=(.seq (.ops [
  ⟨some 2,none,.asg (.const (.bool false))⟩]) (.seq (.ops [
  ⟨some 3,none,.mv (.tmp 0)⟩,
  ⟨some 4,none,.nilc (.tmp 3)⟩,
  ⟨some 5,none,.fa 0 (.tmp 4)⟩,
  ⟨some 6,none,.load 1 false (.tmp 5)⟩,
  ⟨some 7,none,.callX 45 [(.tmp 6),(.const (.int .i64 0)),(.const (.int .i64 5))]⟩,
  ⟨some 8,none,.mv (.tmp 7)⟩,
  ⟨some 9,some (8,true),.mv (.tmp 0)⟩,
  ⟨some 10,some (8,true),.nilc (.tmp 9)⟩,
  ⟨some 11,some (8,true),.fa 1 (.tmp 10)⟩,
  ⟨some 12,some (8,true),.load 1 false (.tmp 11)⟩,
  ⟨some 13,some (8,true),.callX 45 [(.tmp 12),(.const (.int .i64 0)),(.const (.int .i64 119))]⟩,
  ⟨some 14,none,.pick (.tmp 8) (.tmp 13) (.const (.bool false))⟩,
  ⟨some 15,none,.mv (.tmp 14)⟩,
  ⟨some 16,some (15,true),.mv (.tmp 0)⟩,
  ⟨some 17,some (15,true),.nilc (.tmp 16)⟩,
  ⟨some 18,some (15,true),.fa 2 (.tmp 17)⟩,
  ⟨some 19,some (15,true),.load 1 false (.tmp 18)⟩,
  ⟨some 20,some (15,true),.callX 45 [(.tmp 19),(.const (.int .i64 0)),(.const (.int .i64 119))]⟩,
  ⟨some 21,none,.pick (.tmp 15) (.tmp 20) (.const (.bool false))⟩,
  ⟨some 22,none,.mv (.tmp 21)⟩,
  ⟨some 23,some (22,true),.mv (.tmp 0)⟩,
  ⟨some 24,some (22,true),.nilc (.tmp 23)⟩,
  ⟨some 25,some (22,true),.fa 3 (.tmp 24)⟩,
  ⟨some 26,some (22,true),.load 1 false (.tmp 25)⟩,
  ⟨some 27,some (22,true),.callX 45 [(.tmp 26),(.const (.int .i64 0)),(.const (.int .i64 119))]⟩,
  ⟨some 28,none,.pick (.tmp 22) (.tmp 27) (.const (.bool false))⟩,
  ⟨some 29,none,.mv (.tmp 28)⟩,
  ⟨some 30,some (29,true),.mv (.tmp 0)⟩,
  ⟨some 31,some (29,true),.nilc (.tmp 30)⟩,
  ⟨some 32,some (29,true),.fa 4 (.tmp 31)⟩,
  ⟨some 33,some (29,true),.load 1 false (.tmp 32)⟩,
  ⟨some 34,some (29,true),.callX 45 [(.tmp 33),(.const (.int .i64 0)),(.const (.int .i64 119))]⟩,
  ⟨some 35,none,.pick (.tmp 29) (.tmp 34) (.const (.bool false))⟩,
  ⟨some 2,none,.asg (.tmp 35)⟩]) .ret))
theorem zQa {a0 d:D}(h:code_spec_l24Piece.wp (CT Try.prog NoG) (zHy [(.t 2)] d) [a0,.undef,.undef,.undef,.undef,.undef,.undef,.undef,.undef,.undef,.undef,.undef,.undef,.undef,.undef,.undef,.undef,.undef,.undef,.undef,.undef,.undef,.undef,.undef,.undef,.undef,.undef,.undef,.undef,.undef,.undef,.undef,.undef,.undef,.undef,.undef]):Contract Try.prog NoG 82 [a0] d :=
  zAo (pt:=0) noG Try.func82 (fun us W=>by kernel_rfl) (c:=Try.f82.body.getD .skip) (ms:=[]) (ms':=[]) (by kernel_rfl) (by kernel_rfl) (by kernel_rfl) h
def code_spec_l24Design:VCode:=(.seq (.ops [
  ⟨some 2,none,.asg (.const (.bool false))⟩]) (.seq (.seq (.ops [
  ⟨some 5,none,.mv (.tmp 0)⟩,
  ⟨some 6,none,.nilc (.tmp 5)⟩,
  ⟨some 7,none,.fa 0 (.tmp 6)⟩,
  ⟨some 8,none,.load 1 false (.tmp 7)⟩,
  ⟨some 9,none,.callX 81 [(.tmp 8)]⟩,
  ⟨some 10,none,.un .not (.tmp 9)⟩,
  ⟨some 11,none,.mv (.tmp 10)⟩,
  ⟨some 12,some (11,false),.mv (.tmp 0)⟩,
  ⟨some 13,some (11,false),.nilc (.tmp 12)⟩,
  ⟨some 14,some (11,false),.fa 1 (.tmp 13)⟩,
  ⟨some 15,some (11,false),.load 1 false (.tmp 14)⟩,
  ⟨some 16,some (11,false),.callX 81 [(.tmp 15)]⟩,
  ⟨some 17,some (11,false),.un .not (.tmp 16)⟩,
  ⟨some 18,none,.pick (.tmp 11) (.const (.bool true)) (.tmp 17)⟩,
  ⟨some 19,none,.mv (.tmp 18)⟩,
  ⟨some 20,some (19,false),.mv (.tmp 0)⟩,
  ⟨some 21,some (19,false),.nilc (.tmp 20)⟩,
  ⟨some 22,some (19,false),.fa 2 (.tmp 21)⟩,
  ⟨some 23,some (19,false),.load 1 false (.tmp 22)⟩,
  ⟨some 24,some (19,false),.len (.tmp 23)⟩,
  ⟨some 25,some (19,false),.bin .gtr (.tmp 24) (.const (.int .i64 100))⟩,
  ⟨some 26,none,.pick (.tmp 19) (.const (.bool true)) (.tmp 25)⟩]) (.cond (.tmp 26) (.seq (.ops [
  ⟨some 2,none,.asg (.const (.bool false))⟩]) .ret) .skip)) (.seq (.seq (.ops [
  ⟨some 3,none,.asg (.const (.int .i64 0))⟩]) (.block 0 (.loop (mB 85 0x1ffffffffffffffffffff6) (.seq (.seq (.ops [
  ⟨some 27,none,.mv (.tmp 3)⟩,
  ⟨some 28,none,.mv (.tmp 0)⟩,
  ⟨some 29,none,.nilc (.tmp 28)⟩,
  ⟨some 30,none,.fa 2 (.tmp 29)⟩,
  ⟨some 31,none,.load 1 false (.tmp 30)⟩,
  ⟨some 32,none,.len (.tmp 31)⟩,
  ⟨some 33,none,.bin .lss (.tmp 27) (.tmp 32)⟩]) (.cond (.tmp 33) .skip (.exit 0))) (.seq (.block 1 (.seq (.seq (.ops [
  ⟨some 36,none,.mv (.tmp 0)⟩,
  ⟨some 37,none,.nilc (.tmp 36)⟩,
  ⟨some 38,none,.fa 2 (.tmp 37)⟩,
  ⟨some 39,none,.load 1 false (.tmp 38)⟩,
  ⟨some 40,none,.mv (.tmp 3)⟩,
  ⟨some 41,none,.ia 5 (.tmp 39) (.tmp 40)⟩,
  ⟨some 42,none,.callX 82 [(.tmp 41)]⟩,
  ⟨some 43,none,.un .not (.tmp 42)⟩]) (.cond (.tmp 43) (.seq (.ops [
  ⟨some 2,none,.asg (.const (.bool false))⟩]) .ret) .skip)) (.seq (.ops [
  ⟨some 4,none,.asg (.const (.int .i64 0))⟩]) (.block 2 (.loop (mB 85 0x1fffffffffffffffffffe6) (.seq (.seq (.ops [
  ⟨some 44,none,.mv (.tmp 4)⟩,
  ⟨some 45,none,.mv (.tmp 3)⟩,
  ⟨some 46,none,.bin .lss (.tmp 44) (.tmp 45)⟩]) (.cond (.tmp 46) .skip (.exit 2))) (.seq (.block 3 (.seq (.draw (mB 83 0x7fffffffe000000000000) [] [⟨0,mB 83 0x7fffffffe000000000000,[],⟨some 49,none,.mv (.tmp 0)⟩⟩,⟨1,mB 83 0x7fffffffc000000000000,[],⟨some 50,none,.nilc (.tmp 49)⟩⟩,⟨2,mB 83 0x7fffffff8000000000000,[],⟨some 51,none,.fa 2 (.tmp 50)⟩⟩,⟨3,mB 83 0x7fffffff0000000000000,[],⟨some 52,none,.load 1 false (.tmp 51)⟩⟩,⟨4,mB 83 0x7fffffffe000000000000,[],⟨some 53,none,.mv (.tmp 4)⟩⟩,⟨5,mB 83 0x7ffffffc0000000000000,[],⟨some 54,none,.ia 5 (.tmp 52) (.tmp 53)⟩⟩,⟨6,mB 83 0x7ffffff80000000000000,[],⟨some 55,none,.fa 3 (.tmp 54)⟩⟩,⟨7,mB 83 0x7ffffff00000000000000,[],⟨some 56,none,.load 1 false (.tmp 55)⟩⟩,⟨8,mB 83 0x7fffffffe000000000000,[],⟨some 57,none,.mv (.tmp 0)⟩⟩,⟨9,mB 83 0x7fffffdfe000000000000,[],⟨some 58,none,.nilc (.tmp 57)⟩⟩,⟨10,mB 83 0x7fffff9fe000000000000,[],⟨some 59,none,.fa 2 (.tmp 58)⟩⟩,⟨11,mB 83 0x7fffff1fe000000000000,[],⟨some 60,none,.load 1 false (.tmp 59)⟩⟩,⟨12,mB 83 0x7fffffffe000000000000,[],⟨some 61,none,.mv (.tmp 3)⟩⟩,⟨13,mB 83 0x7ffffc1fe000000000000,[],⟨some 62,none,.ia 5 (.tmp 60) (.tmp 61)⟩⟩,⟨14,mB 83 0x7ffff81fe000000000000,[],⟨some 63,none,.fa 3 (.tmp 62)⟩⟩,⟨15,mB 83 0x7ffff01fe000000000000,[],⟨some 64,none,.load 1 false (.tmp 63)⟩⟩,⟨16,mB 83 0x7fffe0000000000000000,[],⟨some 65,none,.bin .eql (.tmp 56) (.tmp 64)⟩⟩,⟨17,mB 83 0x7fffc0000000000000000,[],⟨some 66,none,.mv (.tmp 65)⟩⟩,⟨18,mB 83 0x7fff80000000000000000,[],⟨some 67,some (66,true),.mv (.tmp 0)⟩⟩,⟨19,mB 83 0x7fff00000000000000000,[],⟨some 68,some (66,true),.nilc (.tmp 67)⟩⟩,⟨20,mB 83 0x7ffe00000000000000000,[],⟨some 69,some (66,true),.fa 2 (.tmp 68)⟩⟩,⟨21,mB 83 0x7ffc00000000000000000,[],⟨some 70,some (66,true),.load 1 false (.tmp 69)⟩⟩,⟨22,mB 83 0x7fff80000000000000000,[],⟨some 71,some (66,true),.mv (.tmp 4)⟩⟩,⟨23,mB 83 0x7ff000000000000000000,[],⟨some 72,some (66,true),.ia 5 (.tmp 70) (.tmp 71)⟩⟩,⟨24,mB 83 0x7fe000000000000000000,[],⟨some 73,some (66,true),.fa 4 (.tmp 72)⟩⟩,⟨25,mB 83 0x7fc000000000000000000,[],⟨some 74,some (66,true),.load 1 false (.tmp 73)⟩⟩,⟨26,mB 83 0x7fff80000000000000000,[],⟨some 75,some (66,true),.mv (.tmp 0)⟩⟩,⟨27,mB 83 0x7f7f80000000000000000,[],⟨some 76,some (66,true),.nilc (.tmp 75)⟩⟩,⟨28,mB 83 0x7e7f80000000000000000,[],⟨some 77,some (66,true),.fa 2 (.tmp 76)⟩⟩,⟨29,mB 83 0x7c7f80000000000000000,[],⟨some 78,some (66,true),.load 1 false (.tmp 77)⟩⟩,⟨30,mB 83 0x7fff80000000000000000,[],⟨some 79,some (66,true),.mv (.tmp 3)⟩⟩,⟨31,mB 83 0x707f80000000000000000,[],⟨some 80,some (66,true),.ia 5 (.tmp 78) (.tmp 79)⟩⟩,⟨32,mB 83 0x607f80000000000000000,[],⟨some 81,some (66,true),.fa 4 (.tmp 80)⟩⟩,⟨33,mB 83 0x407f80000000000000000,[],⟨some 82,some (66,true),.load 1 false (.tmp 81)⟩⟩] [⟨some 83,some (66,true),.bin .eql (.tmp 74) (.tmp 82)⟩,⟨some 84,none,.pick (.tmp 66) (.tmp 83) (.const (.bool false))⟩]) (.cond (.tmp 84) (.seq (.ops [
  ⟨some 2,none,.asg (.const (.bool false))⟩]) .ret) .skip))) (.ops [
  ⟨some 47,none,.mv (.tmp 4)⟩,
  ⟨some 48,none,.bin .add (.tmp 47) (.const (.int .i64 1))⟩,
  ⟨some 4,none,.asg (.tmp 48)⟩])))))))) (.ops [
  ⟨some 34,none,.mv (.tmp 3)⟩,
  ⟨some 35,none,.bin .add (.tmp 34) (.const (.int .i64 1))⟩,
  ⟨some 3,none,.asg (.tmp 35)⟩])))))) (.seq (.ops [
  ⟨some 2,none,.asg (.const (.bool true))⟩]) .ret))))
theorem zOv {a0 d:D}(h:code_spec_l24Design.wp (CT Try.prog NoG) (zHy [(.t 2)] d) [a0,.undef,.undef,.undef,.undef,.undef,.undef,.undef,.undef,.undef,.undef,.undef,.undef,.undef,.undef,.undef,.undef,.undef,.undef,.undef,.undef,.undef,.undef,.undef,.undef,.undef,.undef,.undef,.undef,.undef,.undef,.undef,.undef,.undef,.undef,.undef,.undef,.undef,.undef,.undef,.undef,.undef,.undef,.undef,.undef,.undef,.undef,.undef,.undef,.undef,.undef,.undef,.undef,.undef,.undef,.undef,.undef,.undef,.undef,.undef,.undef,.undef,.undef,.undef,.undef,.undef,.undef,.undef,.undef,.undef,.undef,.undef,.undef,.undef,.undef,.undef,.undef,.undef,.undef,.undef,.undef,.undef,.undef,.undef,.undef]):Contract Try.prog NoG 57 [a0] d :=
  zAo (pt:=0) noG Try.func57 (fun us W=>by kernel_rfl) (c:=Try.f57.body.getD .skip) (ms:=[(mB 85 0x1ffffffffffffffffffff6),(mB 85 0x1fffffffffffffffffffe6)]) (ms':=[]) (by kernel_rfl) (by kernel_rfl) (by kernel_rfl) h
theorem zG7 (xs:List Int)(hn:xs.length≤1048576):Contract Try.prog NoG 81 [.sl false 1 (xs.map rI)] (.v (.bool (zFv xs))):=by
  refine zL2 ?_;unfold code_spec_l24Numbers;simp -implicitDefEqProofs (disch:=omega) only [go_sem,↓reduceIte ,xAw];cases h:inR 1 10 xs.length with
  | false=>have hno:zFv xs=false:=(by unfold zFv;rw [h];rfl);refine zAr (zFw _ _ _) (by simp -implicitDefEqProofs (disch:=omega) only [go_sem,↓reduceIte,deep,TD.rows,zAw,zAt,zA0,zAs,zAv,zAq,h,hno];exact rfl) ?_;simp -implicitDefEqProofs (disch:=omega) only [go_sem,↓reduceIte ,h,hno]
  | true =>
    have hyes:zFv xs=xs.all (inR 0 119):=(by unfold zFv;rw [h];rfl);refine zAr (zFw _ _ _) qAf ?_;simp -implicitDefEqProofs (disch:=omega) only [go_sem,↓reduceIte ,h];refine zBv qAd (fun i:Nat=>[(3,.v (.int .i64 (i:Nat)))]) (fun _=>by simp only [zBq,zBb,xA8,xBc];exact rfl) (fun i:Nat=>i≤xs.length∧(xs.take i).all (inR 0 119)=true) (fun i:Nat=>xs.length-i) (0) (zD2) (?_) ?_
    · exact ⟨xCs _,rfl⟩
    rintro i ⟨hi,hok⟩;simp -implicitDefEqProofs (disch:=omega) only [go_sem,↓reduceIte ,xAw,xAz,xA7,xA0,xAy,xAx];refine zAp ?_ ?_<;>intro hlt
    · have hlt:i<xs.length:=qAg;have e1:=xA1 hlt;cases hx:inR 0 119 xs[i] with
      | false=>have hno:zFv xs=false:=(by rw [hyes];exact yO5 hlt hx);simp -implicitDefEqProofs (disch:=omega) only [go_sem,↓reduceIte ,xAw,xAz,xA7,xA0,xAy,xAx,hlt,e1,rI];refine zAr (zFw _ _ _) qA8 ?_;simp -implicitDefEqProofs (disch:=omega) only [go_sem,↓reduceIte ,hx,hno]
      | true=>have hnx:(xs.take (i+1)).all (inR 0 119)=true:=(by rw [zSf hlt,xFs,hok,xBm,hx];rfl);simp -implicitDefEqProofs (disch:=omega) only [go_sem,↓reduceIte ,xAw,xAz,xA7,xA0,xAy,xAx,hlt,e1,rI];refine zAr (zFw _ _ _) (by simp -implicitDefEqProofs (disch:=omega) only [go_sem,↓reduceIte,deep,TD.rows,zAw,zAt,zA0,zAs,zAv,zAq,hx,wrN];exact rfl) ?_;simp -implicitDefEqProofs (disch:=omega) only [go_sem,↓reduceIte ,hx,wrN];exact ⟨i+1,by omega,⟨hlt,hnx⟩,zD2⟩
    · obtain rfl:i=xs.length:=(by have:¬ i<xs.length:=qAg;omega);rw [xDj] at hok;rw [hyes,hok];simp -implicitDefEqProofs (disch:=omega) only [go_sem,↓reduceIte]
theorem zT6 (p:Piece):Contract Try.prog NoG 82 [.iptr (Piece.td.d false p) 0] (.v (.bool (zTy p))):=by
  rw [Piece.td_d];refine zQa ?_;unfold code_spec_l24Piece zTy;simp -implicitDefEqProofs (disch:=omega) only [go_sem,↓reduceIte];cases h1:inR 0 5 p.Color with
  | false=>refine zAr (zFw _ _ _) qAe ?_;simp -implicitDefEqProofs (disch:=omega) only [go_sem,↓reduceIte ,h1]
  | true =>
  refine zAr (zFw _ _ _) qAe ?_;simp -implicitDefEqProofs (disch:=omega) only [go_sem,↓reduceIte ,h1];cases h2:inR 0 119 p.North with
  | false=>refine zAr (zFw _ _ _) qAr ?_;simp -implicitDefEqProofs (disch:=omega) only [go_sem,↓reduceIte ,h2]
  | true =>
  refine zAr (zFw _ _ _) qAr ?_;simp -implicitDefEqProofs (disch:=omega) only [go_sem,↓reduceIte ,h2];cases h3:inR 0 119 p.East with
  | false=>refine zAr (zFw _ _ _) qBd ?_;simp -implicitDefEqProofs (disch:=omega) only [go_sem,↓reduceIte ,h3]
  | true =>
  refine zAr (zFw _ _ _) qBd ?_;simp -implicitDefEqProofs (disch:=omega) only [go_sem,↓reduceIte ,h3];cases h4:inR 0 119 p.South with
  | false=>refine zAr (zFw _ _ _) qBc ?_;simp -implicitDefEqProofs (disch:=omega) only [go_sem,↓reduceIte ,h4]
  | true =>
  refine zAr (zFw _ _ _) qBc ?_;simp -implicitDefEqProofs (disch:=omega) only [go_sem,↓reduceIte ,h4];refine zAr (zFw _ _ _) qAb ?_;simp -implicitDefEqProofs (disch:=omega) only [go_sem,↓reduceIte]
theorem yRg {ps:List Piece}{i:Nat}(hi:i<ps.length):((ps.take (i+1)).map kkP).Nodup↔((ps.take i).map kkP).Nodup∧∀ k (hk:k<i),kkP (ps[k]'qAc)≠kkP ps[i]:=by
  rw [zSf hi,xBo,xA5];constructor
  · rintro ⟨h1,_,h2⟩;exact ⟨h1,fun k hk=>h2 _ (xB1.2 ⟨ps[k],xGd.2 ⟨k,by omega,rfl⟩,rfl⟩) _ qAh⟩
  · rintro ⟨h1,h2⟩;refine ⟨h1,by simp,fun a ha b hb=>?_⟩;simp only [xA6,xBl,xCa] at hb;subst hb;obtain ⟨x,hx,rfl⟩:=xB1.1 ha;obtain ⟨k,hk,rfl⟩:=xGd.1 hx;exact h2 k qAc
theorem yY6 {ps:List Piece}{i k:Nat}(hi:i<ps.length)(hk:k<i)(h:kkP (ps[k]'qAc)=kkP ps[i]):¬ (ps.map kkP).Nodup:=fun hn=>by have:=xFb.1 hn k i (by rw [xAw];omega) (by rw [xAw];exact hi) hk;simp only [xFg] at this;exact this h
set_option maxHeartbeats 1000000 in
theorem zR6 (d:Design) (hd:dsnB d):Contract Try.prog NoG 57 [.iptr (Design.td.d false d) 0] (.v (.bool (zC1 d))):=by
  have hb:=hd.b;have hl:=hd.l;have hp:=hd.p;rw [Design.td_d];refine zOv ?_;unfold code_spec_l24Design;simp -implicitDefEqProofs (disch:=omega) only [go_sem,↓reduceIte];cases h1:zFv d.Bottom with
  | false=>have hno:zC1 d=false:=(by unfold zC1;rw [h1];rfl);refine zAr (zG7 d.Bottom hb) (by simp -implicitDefEqProofs (disch:=omega) only [go_sem,↓reduceIte,deep,TD.rows,zAw,zAt,zA0,zAs,zAv,zAq,h1,hno];exact rfl) ?_;simp -implicitDefEqProofs (disch:=omega) only [go_sem,↓reduceIte ,h1,hno]
  | true =>
  refine zAr (zG7 d.Bottom hb) qAe ?_;simp -implicitDefEqProofs (disch:=omega) only [go_sem,↓reduceIte ,h1];cases h2:zFv d.Left with
  | false=>have hno:zC1 d=false:=(by unfold zC1;rw [h1,h2];rfl);refine zAr (zG7 d.Left hl) (by simp -implicitDefEqProofs (disch:=omega) only [go_sem,↓reduceIte,deep,TD.rows,zAw,zAt,zA0,zAs,zAv,zAq,h2,hno];exact rfl) ?_;simp -implicitDefEqProofs (disch:=omega) only [go_sem,↓reduceIte ,h2,hno]
  | true =>
  refine zAr (zG7 d.Left hl) (by simp -implicitDefEqProofs (disch:=omega) only [go_sem,↓reduceIte,deep,TD.rows,zAw,zAt,zA0,zAs,zAv,zAq,h2,xAw];exact rfl) ?_;simp -implicitDefEqProofs (disch:=omega) only [go_sem,↓reduceIte ,h2,xAw];refine zAp ?_ ?_<;>intro h3
  · have h3:¬ d.Pieces.length≤100:=(by rw [decide_eq_true_eq] at h3;omega);have hno:zC1 d=false:=(by unfold zC1;rw [decide_eq_false h3,xCq,xCm,xCm]);simp -implicitDefEqProofs (disch:=omega) only [go_sem,↓reduceIte ,hno]
  · have h3 : d.Pieces.length≤100:=(by rw [decide_eq_false_iff_not] at h3;omega);have hyes:zC1 d=(d.Pieces.all zTy&&decide ((d.Pieces.map kkP).Nodup)):=(by unfold zC1;rw [h1,h2,decide_eq_true h3];rfl);simp -implicitDefEqProofs (disch:=omega) only [go_sem,↓reduceIte];refine zBv qAd (fun i:Nat=>[(3,.v (.int .i64 (i:Nat)))]) (fun _=>by simp only [zBq,zBb,xA8,xBc];exact rfl) (fun i:Nat=>i≤d.Pieces.length∧(d.Pieces.take i).all zTy=true∧((d.Pieces.take i).map kkP).Nodup) (fun i:Nat=>d.Pieces.length-i) (0) (zD2) (?_) ?_
    · exact ⟨xCs _,rfl,by simp⟩
    rintro i ⟨hi,hok,hnd⟩;simp -implicitDefEqProofs (disch:=omega) only [go_sem,↓reduceIte ,xAw,xAz,xA7,xA0,xAy,xAx];refine zAp ?_ ?_<;>intro hlt
    · have hlt:i<d.Pieces.length:=qAg;have e1:=xA1 hlt;cases hx:zTy d.Pieces[i] with
      | false=>have hno:zC1 d=false:=(by rw [hyes,yO5 hlt hx];rfl);simp -implicitDefEqProofs (disch:=omega) only [go_sem,↓reduceIte ,xAw,xAz,xA7,xA0,xAy,xAx,hlt,e1];refine zAr (zT6 d.Pieces[i]) qA8 ?_;simp -implicitDefEqProofs (disch:=omega) only [go_sem,↓reduceIte ,hx,hno]
      | true =>
        have hnx:(d.Pieces.take (i+1)).all zTy=true:=(by rw [zSf hlt,xFs,hok,xBm,hx];rfl);simp -implicitDefEqProofs (disch:=omega) only [go_sem,↓reduceIte ,xAw,xAz,xA7,xA0,xAy,xAx,hlt,e1];refine zAr (zT6 d.Pieces[i]) (by simp -implicitDefEqProofs (disch:=omega) only [go_sem,↓reduceIte,deep,TD.rows,zAw,zAt,zA0,zAs,zAv,zAq,hx];exact rfl) ?_;simp -implicitDefEqProofs (disch:=omega) only [go_sem,↓reduceIte ,hx];refine zBv qAd (fun k:Nat=>[(4,.v (.int .i64 (k:Nat)))]) (fun _=>by simp only [zBq,zBb,xA8,xBc];exact rfl) (fun k:Nat=>k≤i∧∀ j (hj:j<k) (hj':j<d.Pieces.length),kkP d.Pieces[j]≠kkP d.Pieces[i]) (fun k:Nat=>i-k) (0) (zD2) (?_) ?_
        · exact ⟨xCs _,fun j hj=>absurd hj qAc⟩
        rintro k ⟨hk,hall⟩;simp -implicitDefEqProofs (disch:=omega) only [go_sem,↓reduceIte ,xAw,xAz,xA7,xA0,xAy,xAx];refine zAp ?_ ?_<;>intro hlk
        · have hlk:k<i:=(by simpa using hlk);have hkp:k<d.Pieces.length:=qAc;have e2:=xA1 hkp;cases q1:decide (d.Pieces[k].South=d.Pieces[i].South) with
          | false =>
            have hne:∀ j (hj:j<k+1) (hj':j<d.Pieces.length),kkP d.Pieces[j]≠kkP d.Pieces[i]:=by
              intro j hj hj' e;rcases xDu.1 hj with h | rfl
              · exact hall j h hj' e
              · have:=(Prod.mk.inj e).1;rw [decide_eq_false_iff_not] at q1;exact q1 this
            simp -implicitDefEqProofs (disch:=omega) only [go_sem,↓reduceIte ,xAw,xAz,xA7,xA0,xAy,xAx,hlt,e1,hkp,e2,Piece.td_d,q1,wrN];exact ⟨k+1,by omega,⟨hlk,hne⟩,zD2⟩
          | true =>
            cases q2:decide (d.Pieces[k].West=d.Pieces[i].West) with
            | false =>
              have hne:∀ j (hj:j<k+1) (hj':j<d.Pieces.length),kkP d.Pieces[j]≠kkP d.Pieces[i]:=by
                intro j hj hj' e;rcases xDu.1 hj with h | rfl
                · exact hall j h hj' e
                · have:=(Prod.mk.inj e).2;rw [decide_eq_false_iff_not] at q2;exact q2 this
              simp -implicitDefEqProofs (disch:=omega) only [go_sem,↓reduceIte ,xAw,xAz,xA7,xA0,xAy,xAx,hlt,e1,hkp,e2,Piece.td_d,q1,q2,wrN];exact ⟨k+1,by omega,⟨hlk,hne⟩,zD2⟩
            | true =>
              rw [decide_eq_true_eq] at q1 q2;have hno:zC1 d=false:=by rw [hyes,decide_eq_false (yY6 hlt hlk (by unfold kkP;rw [q1,q2])),xCm]
              have q1':=decide_eq_true q1;have q2':=decide_eq_true q2;simp -implicitDefEqProofs (disch:=omega) only [go_sem,↓reduceIte ,xAw,xAz,xA7,xA0,xAy,xAx,hlt,e1,hkp,e2,Piece.td_d,q1',q2',hno]
        · have hki:k=i:=(by have:¬ k<i:=(by simpa using hlk);omega);subst hki;have hnn:=(yRg hlt).2 ⟨hnd,fun j hj=>hall j hj qAc⟩;simp -implicitDefEqProofs (disch:=omega) only [go_sem,↓reduceIte ,wrN];exact ⟨k+1,by omega,⟨hlt,hnx,hnn⟩,zD2⟩
    · obtain rfl:i=d.Pieces.length:=qCs;rw [xDj] at hok hnd;have hy:zC1 d=true:=(by rw [hyes,hok,decide_eq_true hnd];rfl);simp -implicitDefEqProofs (disch:=omega) only [go_sem,↓reduceIte ,hy]
def code_spec_l24Fit:VCode:=(.seq (.ops [
  ⟨some 6,none,.asg (.const (.int .i64 0))⟩]) (.seq (.seq (.ops [
  ⟨some 7,none,.asg (.const (.int .i64 0))⟩]) (.block 0 (.loop (mB 40 1099511627640) (.seq (.seq (.ops [
  ⟨some 8,none,.mv (.tmp 7)⟩,
  ⟨some 9,none,.mv (.tmp 0)⟩,
  ⟨some 10,none,.nilc (.tmp 9)⟩,
  ⟨some 11,none,.fa 2 (.tmp 10)⟩,
  ⟨some 12,none,.load 1 false (.tmp 11)⟩,
  ⟨some 13,none,.len (.tmp 12)⟩,
  ⟨some 14,none,.bin .lss (.tmp 8) (.tmp 13)⟩]) (.cond (.tmp 14) .skip (.exit 0))) (.seq (.block 1 (.seq (.ops [
  ⟨some 17,none,.mv (.tmp 0)⟩,
  ⟨some 18,none,.nilc (.tmp 17)⟩,
  ⟨some 19,none,.fa 2 (.tmp 18)⟩,
  ⟨some 20,none,.load 1 false (.tmp 19)⟩,
  ⟨some 21,none,.mv (.tmp 7)⟩,
  ⟨some 22,none,.ia 5 (.tmp 20) (.tmp 21)⟩,
  ⟨some 23,none,.fa 3 (.tmp 22)⟩,
  ⟨some 24,none,.load 1 false (.tmp 23)⟩,
  ⟨some 25,none,.mv (.tmp 1)⟩,
  ⟨some 26,none,.bin .eql (.tmp 24) (.tmp 25)⟩,
  ⟨some 27,none,.mv (.tmp 26)⟩,
  ⟨some 28,some (27,true),.mv (.tmp 0)⟩,
  ⟨some 29,some (27,true),.nilc (.tmp 28)⟩,
  ⟨some 30,some (27,true),.fa 2 (.tmp 29)⟩,
  ⟨some 31,some (27,true),.load 1 false (.tmp 30)⟩,
  ⟨some 32,some (27,true),.mv (.tmp 7)⟩,
  ⟨some 33,some (27,true),.ia 5 (.tmp 31) (.tmp 32)⟩,
  ⟨some 34,some (27,true),.fa 4 (.tmp 33)⟩,
  ⟨some 35,some (27,true),.load 1 false (.tmp 34)⟩,
  ⟨some 36,some (27,true),.mv (.tmp 2)⟩,
  ⟨some 37,some (27,true),.bin .eql (.tmp 35) (.tmp 36)⟩,
  ⟨some 38,none,.pick (.tmp 27) (.tmp 37) (.const (.bool false))⟩]) (.cond (.tmp 38) (.seq (.ops [
  ⟨some 39,none,.mv (.tmp 7)⟩,
  ⟨some 6,none,.asg (.tmp 39)⟩]) .ret) .skip))) (.ops [
  ⟨some 15,none,.mv (.tmp 7)⟩,
  ⟨some 16,none,.bin .add (.tmp 15) (.const (.int .i64 1))⟩,
  ⟨some 7,none,.asg (.tmp 16)⟩])))))) (.seq (.ops [
  ⟨some 6,none,.asg (.const (.int .i64 (-1)))⟩]) .ret)))
theorem zS7 {a0 a1 a2 d:D}(h:code_spec_l24Fit.wp (CT Try.prog NoG) (zHy [(.t 6)] d) [a0,a1,a2,.undef,.undef,.undef,.undef,.undef,.undef,.undef,.undef,.undef,.undef,.undef,.undef,.undef,.undef,.undef,.undef,.undef,.undef,.undef,.undef,.undef,.undef,.undef,.undef,.undef,.undef,.undef,.undef,.undef,.undef,.undef,.undef,.undef,.undef,.undef,.undef,.undef]):Contract Try.prog NoG 84 [a0,a1,a2] d :=
  zAo (pt:=0) noG Try.func84 (fun us W=>by kernel_rfl) (c:=Try.f84.body.getD .skip) (ms:=[(mB 40 1099511627640)]) (ms':=[]) (by kernel_rfl) (by kernel_rfl) (by kernel_rfl) h
theorem zVf (d:Design)(s w:Int)(hp:d.Pieces.length≤1048576):Contract Try.prog NoG 84 [.iptr (Design.td.d false d) 0,.v (.int .i64 s),.v (.int .i64 w)] (.v (.int .i64 (yD3 d.Pieces s w))):=by
  rw [Design.td_d];refine zS7 ?_;unfold code_spec_l24Fit;simp -implicitDefEqProofs (disch:=omega) only [go_sem,↓reduceIte];refine zBv qAd (fun i:Nat=>[(7,.v (.int .i64 (i:Nat)))]) (fun _=>by simp only [zBq,zBb,xA8,xBc];exact rfl) (fun i:Nat=>i≤d.Pieces.length∧∀ j (hj:j<d.Pieces.length),j<i→zRc s w d.Pieces[j]=false) (fun i:Nat=>d.Pieces.length-i) (0) (zD2) (?_) ?_
  · exact ⟨xCs _,fun j _ hj=>absurd hj qAc⟩
  rintro i ⟨hi,hall⟩;simp -implicitDefEqProofs (disch:=omega) only [go_sem,↓reduceIte ,xAw,xAz,xA7,xA0,xAy,xAx];refine zAp ?_ ?_<;>intro hlt
  · have hlt:i<d.Pieces.length:=qAg;have e1:=xA1 hlt;have hstep:zRc s w d.Pieces[i]=false→∀ j (hj:j<d.Pieces.length),j<i+1→zRc s w d.Pieces[j]=false:=fun h j hj hji=>by
      rcases xDu.1 hji with h1 | rfl
      · exact hall j hj h1
      · exact h
    cases q1:decide (d.Pieces[i].South=s) with
    | false=>have hn:=hstep (by unfold zRc;rw [q1];rfl);simp -implicitDefEqProofs (disch:=omega) only [go_sem,↓reduceIte ,xAw,xAz,xA7,xA0,xAy,xAx,hlt,e1,Piece.td_d,q1,wrN];exact ⟨i+1,by omega,⟨hlt,hn⟩,zD2⟩
    | true =>
      cases q2:decide (d.Pieces[i].West=w) with
      | false=>have hn:=hstep (by unfold zRc;rw [q1,q2];rfl);simp -implicitDefEqProofs (disch:=omega) only [go_sem,↓reduceIte ,xAw,xAz,xA7,xA0,xAy,xAx,hlt,e1,Piece.td_d,q1,q2,wrN];exact ⟨i+1,by omega,⟨hlt,hn⟩,zD2⟩
      | true=>have hr:yD3 d.Pieces s w=(i:Int):=zVi _ _ i hlt hall (by unfold zRc;rw [q1,q2];rfl);simp -implicitDefEqProofs (disch:=omega) only [go_sem,↓reduceIte ,xAw,xAz,xA7,xA0,xAy,xAx,hlt,e1,Piece.td_d,q1,q2,hr]
  · obtain rfl:i=d.Pieces.length:=qCs;have hr:yD3 d.Pieces s w = -1:=zR8 _ _ (fun j hj=>hall j hj hj);simp -implicitDefEqProofs (disch:=omega) only [go_sem,↓reduceIte ,hr]
theorem yAv {ps:List Piece}{st0 st:RunS}{x k:Nat}(hst:zG9 ps st0 x=st)(hk:k<ps.length)(hf:yD3 ps (st.bel.getD x 0) st.west=(k:Int)):zG9 ps st0 (x+1)=⟨st.out++[(k:Int)],st.bel.set x ps[k].North,ps[k].East⟩:=by rw [zGq,hst];unfold zYn;rw [hf,xAz,xA1 hk]
theorem zXj {ps:List Piece}{st0 st:RunS}{x k:Nat}(hst:zG9 ps st0 x=st)(hf:yD3 ps (st.bel.getD x 0) st.west=(k:Int)):zJh ps (zG9 ps st0 x) x=true:=by rw [hst];unfold zJh;rw [hf,decide_eq_true_eq];omega
theorem zUg {ps:List Piece}{st0 st:RunS}{x:Nat}(hst:zG9 ps st0 x=st)(hf:yD3 ps (st.bel.getD x 0) st.west = -1):zJh ps (zG9 ps st0 x) x=false:=by rw [hst];unfold zJh;rw [hf];rfl
theorem zXi {d:Design}(h:zC1 d=true){y x:Nat}(hx:x≤d.Bottom.length):(zG9 d.Pieces (zBk d y) x).out.length≤110:=by have h1:=zVr d.Pieces (zBk d y) x;have h2:(zBk d y).out.length≤100:=zXh h;have:=(zA1 h).1;omega
theorem zSk {d:Design}{y:Nat}(hy:y<d.Left.length):(zBk d y).west=d.Left[y]:=by unfold zBk;rw [xA3,xA1 hy];rfl
theorem getD_at {xs:List Int}{k:Nat}(h:k<xs.length):xs[k]?=some (xs.getD k 0):=by rw [xA3,xA1 h];rfl
def code_spec_l24Run:VCode:=(.seq (.ops [
  ⟨some 2,none,.asg (.const (.slice none 0 0))⟩,
  ⟨some 3,none,.asg (.const (.bool false))⟩]) (.seq (.ops [
  ⟨some 10,none,.bsl 1 []⟩,
  ⟨some 4,none,.asg (.tmp 10)⟩]) (.seq (.ops [
  ⟨some 11,none,.mv (.tmp 0)⟩,
  ⟨some 12,none,.nilc (.tmp 11)⟩,
  ⟨some 13,none,.fa 0 (.tmp 12)⟩,
  ⟨some 14,none,.load 1 false (.tmp 13)⟩,
  ⟨some 15,none,.callX 94 [(.tmp 14)]⟩,
  ⟨some 5,none,.asg (.tmp 15)⟩]) (.seq (.seq (.ops [
  ⟨some 6,none,.asg (.const (.int .i64 0))⟩]) (.block 0 (.loop (mB 71 0x7ffff97fffffff038e) (.seq (.seq (.ops [
  ⟨some 16,none,.mv (.tmp 6)⟩,
  ⟨some 17,none,.mv (.tmp 0)⟩,
  ⟨some 18,none,.nilc (.tmp 17)⟩,
  ⟨some 19,none,.fa 1 (.tmp 18)⟩,
  ⟨some 20,none,.load 1 false (.tmp 19)⟩,
  ⟨some 21,none,.len (.tmp 20)⟩,
  ⟨some 22,none,.bin .lss (.tmp 16) (.tmp 21)⟩]) (.cond (.tmp 22) .skip (.exit 0))) (.seq (.block 1 (.seq (.ops [
  ⟨some 25,none,.mv (.tmp 0)⟩,
  ⟨some 26,none,.nilc (.tmp 25)⟩,
  ⟨some 27,none,.fa 1 (.tmp 26)⟩,
  ⟨some 28,none,.load 1 false (.tmp 27)⟩,
  ⟨some 29,none,.mv (.tmp 6)⟩,
  ⟨some 30,none,.ia 1 (.tmp 28) (.tmp 29)⟩,
  ⟨some 31,none,.load 1 false (.tmp 30)⟩,
  ⟨some 7,none,.asg (.tmp 31)⟩]) (.seq (.ops [
  ⟨some 8,none,.asg (.const (.int .i64 0))⟩]) (.block 2 (.loop (mB 71 0x7ffff97fffffff020e) (.seq (.seq (.ops [
  ⟨some 32,none,.mv (.tmp 8)⟩,
  ⟨some 33,none,.mv (.tmp 5)⟩,
  ⟨some 34,none,.len (.tmp 33)⟩,
  ⟨some 35,none,.bin .lss (.tmp 32) (.tmp 34)⟩]) (.cond (.tmp 35) .skip (.exit 2))) (.seq (.block 3 (.seq (.ops [
  ⟨some 38,none,.mv (.tmp 0)⟩,
  ⟨some 39,none,.mv (.tmp 5)⟩,
  ⟨some 40,none,.mv (.tmp 8)⟩,
  ⟨some 41,none,.ia 1 (.tmp 39) (.tmp 40)⟩,
  ⟨some 42,none,.load 1 false (.tmp 41)⟩,
  ⟨some 43,none,.mv (.tmp 7)⟩,
  ⟨some 44,none,.callX 84 [(.tmp 38),(.tmp 42),(.tmp 43)]⟩,
  ⟨some 9,none,.asg (.tmp 44)⟩]) (.seq (.seq (.ops [
  ⟨some 45,none,.mv (.tmp 9)⟩,
  ⟨some 46,none,.bin .lss (.tmp 45) (.const (.int .i64 0))⟩]) (.cond (.tmp 46) (.seq (.ops [
  ⟨some 2,none,.asg (.const (.slice none 0 0))⟩,
  ⟨some 3,none,.asg (.const (.bool false))⟩]) .ret) .skip)) (.seq (.ops [
  ⟨some 47,none,.mv (.tmp 4)⟩,
  ⟨some 48,none,.mv (.tmp 9)⟩,
  ⟨some 49,none,.bsl 1 [(.tmp 48)]⟩,
  ⟨some 50,none,.app 1 8 (.tmp 47) (.tmp 49)⟩,
  ⟨some 4,none,.asg (.tmp 50)⟩]) (.seq (.ops [
  ⟨some 51,none,.mv (.tmp 5)⟩,
  ⟨some 52,none,.mv (.tmp 8)⟩,
  ⟨some 53,none,.mv (.tmp 0)⟩,
  ⟨some 54,none,.nilc (.tmp 53)⟩,
  ⟨some 55,none,.fa 2 (.tmp 54)⟩,
  ⟨some 56,none,.load 1 false (.tmp 55)⟩,
  ⟨some 57,none,.mv (.tmp 9)⟩,
  ⟨some 58,none,.ia 5 (.tmp 56) (.tmp 57)⟩,
  ⟨some 59,none,.fa 1 (.tmp 58)⟩,
  ⟨some 60,none,.load 1 false (.tmp 59)⟩,
  ⟨some 61,none,.ia 1 (.tmp 51) (.tmp 52)⟩,
  ⟨none,none,.store 1 (.tmp 61) (.tmp 60)⟩]) (.ops [
  ⟨some 62,none,.mv (.tmp 0)⟩,
  ⟨some 63,none,.nilc (.tmp 62)⟩,
  ⟨some 64,none,.fa 2 (.tmp 63)⟩,
  ⟨some 65,none,.load 1 false (.tmp 64)⟩,
  ⟨some 66,none,.mv (.tmp 9)⟩,
  ⟨some 67,none,.ia 5 (.tmp 65) (.tmp 66)⟩,
  ⟨some 68,none,.fa 2 (.tmp 67)⟩,
  ⟨some 69,none,.load 1 false (.tmp 68)⟩,
  ⟨some 7,none,.asg (.tmp 69)⟩])))))) (.ops [
  ⟨some 36,none,.mv (.tmp 8)⟩,
  ⟨some 37,none,.bin .add (.tmp 36) (.const (.int .i64 1))⟩,
  ⟨some 8,none,.asg (.tmp 37)⟩])))))))) (.ops [
  ⟨some 23,none,.mv (.tmp 6)⟩,
  ⟨some 24,none,.bin .add (.tmp 23) (.const (.int .i64 1))⟩,
  ⟨some 6,none,.asg (.tmp 24)⟩])))))) (.seq (.ops [
  ⟨some 70,none,.mv (.tmp 4)⟩,
  ⟨some 2,none,.asg (.tmp 70)⟩,
  ⟨some 3,none,.asg (.const (.bool true))⟩]) .ret)))))
theorem zS6 {a0 d:D}(h:code_spec_l24Run.wp (CT Try.prog NoG) (zHy [(.t 2),(.t 3)] d) [a0,.undef,.undef,.undef,.undef,.undef,.undef,.undef,.undef,.undef,.undef,.undef,.undef,.undef,.undef,.undef,.undef,.undef,.undef,.undef,.undef,.undef,.undef,.undef,.undef,.undef,.undef,.undef,.undef,.undef,.undef,.undef,.undef,.undef,.undef,.undef,.undef,.undef,.undef,.undef,.undef,.undef,.undef,.undef,.undef,.undef,.undef,.undef,.undef,.undef,.undef,.undef,.undef,.undef,.undef,.undef,.undef,.undef,.undef,.undef,.undef,.undef,.undef,.undef,.undef,.undef,.undef,.undef,.undef,.undef,.undef]):Contract Try.prog NoG 67 [a0] d :=
  zAo (pt:=0) noG Try.func67 (fun us W=>by kernel_rfl) (c:=Try.f67.body.getD .skip) (ms:=[(mB 71 0x7ffff97fffffff038e),(mB 71 0x7ffff97fffffff020e)]) (ms':=[]) (by kernel_rfl) (by kernel_rfl) (by kernel_rfl) h
def code_spec_RunDesign:VCode:=(.seq (.ops [
  ⟨some 1,none,.box (.tmp 0)⟩,
  ⟨some 2,none,.asg (.const (.slice none 0 0))⟩,
  ⟨some 3,none,.asg (.const (.int .i64 0))⟩]) (.seq (.seq (.ops [
  ⟨some 6,none,.callX 57 [(.tmp 1)]⟩,
  ⟨some 7,none,.un .not (.tmp 6)⟩]) (.cond (.tmp 7) (.seq (.ops [
  ⟨some 2,none,.asg (.const (.slice none 0 0))⟩,
  ⟨some 3,none,.asg (.const (.int .i64 1))⟩]) .ret) .skip)) (.seq (.ops [
  ⟨some 9,none,.callX 67 [(.tmp 1)]⟩,
  ⟨some 8,none,.mv (.tmp 9)⟩,
  ⟨some 10,none,.ext (.tmp 8) 0⟩,
  ⟨some 11,none,.ext (.tmp 8) 1⟩,
  ⟨some 4,none,.asg (.tmp 10)⟩,
  ⟨some 5,none,.asg (.tmp 11)⟩]) (.seq (.seq (.ops [
  ⟨some 12,none,.mv (.tmp 5)⟩,
  ⟨some 13,none,.un .not (.tmp 12)⟩]) (.cond (.tmp 13) (.seq (.ops [
  ⟨some 2,none,.asg (.const (.slice none 0 0))⟩,
  ⟨some 3,none,.asg (.const (.int .i64 3))⟩]) .ret) .skip)) (.seq (.ops [
  ⟨some 14,none,.mv (.tmp 4)⟩,
  ⟨some 2,none,.asg (.tmp 14)⟩,
  ⟨some 3,none,.asg (.const (.int .i64 0))⟩]) .ret)))))
theorem zOw {a0 d:D}(h:code_spec_RunDesign.wp (CT Try.prog NoG) (zHy [(.t 2),(.t 3)] d) [a0,.undef,.undef,.undef,.undef,.undef,.undef,.undef,.undef,.undef,.undef,.undef,.undef,.undef,.undef]):Contract Try.prog NoG 32 [a0] d :=
  zAo (pt:=0) noG Try.func32 (fun us W=>by kernel_rfl) (c:=Try.f32.body.getD .skip) (ms:=[]) (ms':=[]) (by kernel_rfl) (by kernel_rfl) (by kernel_rfl) h
set_option maxHeartbeats 2000000 in
theorem zZ3 (d:Design) (hok:zC1 d=true):Contract Try.prog NoG 67 [.iptr (Design.td.d false d) 0] (.tup [.sl true 1 ((if zE6 d then zJa d else []).map rI),.v (.bool (zE6 d))]):=by
  obtain ⟨⟨b1,b2⟩,⟨l1,l2⟩,hp,_,hnd,_,_⟩:=zA1 hok;have hdd:Design.td.d false d=_:=Design.td_d false d;rw [Design.td_d];refine zS6 ?_;unfold code_spec_l24Run;simp -implicitDefEqProofs (disch:=omega) only [go_sem,↓reduceIte];refine zAr (yJx d.Bottom qAc) qAb ?_;simp -implicitDefEqProofs (disch:=omega) only [go_sem,↓reduceIte];refine zBv qAd (fun y:Nat=>[(4,.sl true 1 ((zG4 d y).out.map rI)),(5,.sl true 1 ((zG4 d y).bel.map rI)),(6,.v (.int .i64 (y:Nat)))]) (fun _=>by simp only [zBq,zBb,xA8,xBc];exact rfl) (fun y:Nat=>y≤d.Left.length∧∀ j,j<y→zOh d.Pieces (zBk d j) d.Bottom.length=true) (fun y:Nat=>d.Left.length-y) (0) (zD2) (?_) ?_
  · exact ⟨xCs _,fun j hj=>absurd hj qAc⟩
  rintro y ⟨hy,hrows⟩;simp -implicitDefEqProofs (disch:=omega) only [go_sem,↓reduceIte ,xAw,xAz,xA7,xA0,xAy,xAx];refine zAp ?_ ?_<;>intro hlt
  · have hlt:y<d.Left.length:=qAg;have e1:=xA1 hlt;have hw:=zSk hlt;have hbl:=zSj d y;simp -implicitDefEqProofs (disch:=omega) only [go_sem,↓reduceIte ,xAw,xAz,xA7,xA0,xAy,xAx,hlt,e1,rI];refine zBv qAd (fun x:Nat=>[(4,.sl true 1 ((zG9 d.Pieces (zBk d y) x).out.map rI)),(5,.sl true 1 ((zG9 d.Pieces (zBk d y) x).bel.map rI)),(7,.v (.int .i64 (zG9 d.Pieces (zBk d y) x).west)),(8,.v (.int .i64 (x:Nat)))]) (fun _=>by simp only [zBq,zBb,xA8,xBc];exact rfl) (fun x:Nat=>x≤d.Bottom.length∧∀ j,j<x→zJh d.Pieces (zG9 d.Pieces (zBk d y) j) j=true) (fun x:Nat=>d.Bottom.length-x) (0) qCi (?_) ?_
    · exact ⟨xCs _,fun j hj=>absurd hj qAc⟩
    rintro x ⟨hx,hcells⟩;have hxb:(zG9 d.Pieces (zBk d y) x).bel.length=d.Bottom.length:=by rw [zRg,zUf]
    have hol:=zXi hok (y:=y) hx;obtain ⟨st,hst⟩:∃ st,zG9 d.Pieces (zBk d y) x=st:=⟨_,rfl⟩
    rw [hst] at hxb hol;rw [hst];simp -implicitDefEqProofs (disch:=omega) only [go_sem,↓reduceIte ,xAw,xAz,xA7,xA0,xAy,xAx,hxb];refine zAp ?_ ?_<;>intro hlx
    · have hlx:x<d.Bottom.length:=(by simpa using hlx);have e2:=getD_at (xs:=st.bel) (k:=x) qAc
      rcases zHw d.Pieces (st.bel.getD x 0) st.west with ⟨hf,_⟩ | ⟨k,hk,hf,_⟩
      · have hno:zE6 d=false:=zRj hlt (zRj hlx (zUg hst hf));simp -implicitDefEqProofs (disch:=omega) only [go_sem,↓reduceIte ,xAw,xAz,xA7,xA0,xAy,xAx,hxb,hlx,e2,rI];refine zAr (zVf d (st.bel.getD x 0) st.west qAc) (by simp -implicitDefEqProofs (disch:=omega) only [go_sem,↓reduceIte,deep,TD.rows,zAw,zAt,zA0,zAs,zAv,zAq,hf,hno,Int.reduceLT,Int.reduceNeg];exact rfl) ?_;simp -implicitDefEqProofs (disch:=omega) only [go_sem,↓reduceIte ,hf,hno,Int.reduceLT,Int.reduceNeg]
      · have hnx:=yAv hst hk hf;have hok1:=zXj hst hf;have e3:=xA1 hk;have hs1:st.out.map rI++[[.v (.int .i64 (k:Int))]]=(st.out++[(k:Int)]).map rI:=(by rw [xBo];rfl);have hs2:(st.bel.map rI).set x [.v (.int .i64 d.Pieces[k].North)]=(st.bel.set x d.Pieces[k].North).map rI:=(by rw [xGa]);have hall:∀ j,j<x+1→zJh d.Pieces (zG9 d.Pieces (zBk d y) j) j=true:=fun j hj=>by
          rcases xDu.1 hj with h1 | rfl
          · exact hcells j h1
          · exact hok1
        have hk0:decide ((k:Int)<0)=false:=qBu;simp -implicitDefEqProofs (disch:=omega) only [go_sem,↓reduceIte ,xAw,xAz,xA7,xA0,xAy,xAx,hxb,hlx,e2,rI];refine zAr (zVf d (st.bel.getD x 0) st.west qAc) (by simp -implicitDefEqProofs (disch:=omega) only [go_sem,↓reduceIte,deep,TD.rows,zAw,zAt,zA0,zAs,zAv,zAq,hf,hk0,xAw,xAz,xA7,xA0,xAy,xAx,hxb,hlx,hk,e2,rI,e3,Piece.td_d,hs1,hs2,wrN];exact rfl) ?_;simp -implicitDefEqProofs (disch:=omega) only [go_sem,↓reduceIte ,hf,hk0,xAw,xAz,xA7,xA0,xAy,xAx,hxb,hlx,hk,e2,rI,e3,Piece.td_d,hs1,hs2,wrN]
        repeat (refine And.intro qAc ?_)
        exact ⟨x+1,by omega,⟨hlx,hall⟩,by rw [hnx];(try simp -implicitDefEqProofs only [zVy,zVx,zRm,zRp,zRq,zRn,and_self,and_true,true_and])<;>repeat' (first | exact zOm rfl | exact zSx | apply And.intro | apply yA9 | apply zLc | apply zKk | exact zOo | exact zOp | apply zSy | apply zSz)⟩
    · have hxe:x=d.Bottom.length:=(by have:¬ x<d.Bottom.length:=(by simpa using hlx);omega);subst hxe;have hyn:=zHo hlt;rw [hst] at hyn;have hr:∀ j,j<y+1→zOh d.Pieces (zBk d j) d.Bottom.length=true:=fun j hj=>by
        rcases xDu.1 hj with h1 | rfl
        · exact hrows j h1
        · unfold zOh;rw [xBx];exact fun z hz=>hcells z (by simpa using hz)
      simp -implicitDefEqProofs (disch:=omega) only [go_sem,↓reduceIte ,wrN];exact ⟨y+1,by omega,⟨hlt,hr⟩,by rw [hyn];(try simp -implicitDefEqProofs only [zVy,zVx,zRm,zRp,zRq,zRn,and_self,and_true,true_and])<;>repeat' (first | exact zOm rfl | exact zSx | apply And.intro | apply yA9 | apply zLc | apply zKk | exact zOo | exact zOp | apply zSy | apply zSz)⟩
  · have hye:y=d.Left.length:=(by have:¬ y<d.Left.length:=qAg;omega);subst hye;have hyes:zE6 d=true:=qB8;rw [hyes,if_pos rfl];simp -implicitDefEqProofs (disch:=omega) only [go_sem,↓reduceIte ,zJa]
theorem zI9 (d:Design)(hd:dsnB d):Contract Try.prog NoG 32 [.agg (Design.td.d false d)] (.tup [.sl true 1 ((zBl d).map rI),.v (.int .i64 (zA7 d))]):=by
  rw [Design.td_d];refine zOw ?_;unfold code_spec_RunDesign zBl zA7;simp -implicitDefEqProofs (disch:=omega) only [go_sem,↓reduceIte];cases h:zC1 d with
  | false=>rw [if_neg qAx,if_neg qAx];refine zAr (zR6 d hd) qAf ?_;simp -implicitDefEqProofs (disch:=omega) only [go_sem,↓reduceIte ,h]
  | true =>
    rw [if_pos rfl,if_pos rfl];refine zAr (zR6 d hd) qAf ?_;simp -implicitDefEqProofs (disch:=omega) only [go_sem,↓reduceIte ,h];cases hr:zE6 d with
    | false=>rw [if_neg qAx,if_neg qAx];refine zAr (zZ3 d h) qBb ?_;simp -implicitDefEqProofs (disch:=omega) only [go_sem,↓reduceIte ,hr]
    | true=>rw [if_pos rfl,if_pos rfl];refine zAr (zZ3 d h) qBb ?_;simp -implicitDefEqProofs (disch:=omega) only [go_sem,↓reduceIte ,hr]
def code_impl_RunDesign:VCode:=(.seq (.ops [
  ⟨some 1,none,.box (.tmp 0)⟩,
  ⟨some 2,none,.asg (.const (.slice none 0 0))⟩,
  ⟨some 3,none,.asg (.const (.int .i64 0))⟩]) (.seq (.seq (.ops [
  ⟨some 12,none,.load 3 true (.tmp 1)⟩,
  ⟨some 13,none,.callX 27 [(.tmp 12)]⟩,
  ⟨some 14,none,.un .not (.tmp 13)⟩]) (.cond (.tmp 14) (.seq (.ops [
  ⟨some 2,none,.asg (.const (.slice none 0 0))⟩,
  ⟨some 3,none,.asg (.const (.int .i64 1))⟩]) .ret) .skip)) (.seq (.ops [
  ⟨some 15,none,.fa 2 (.tmp 1)⟩,
  ⟨some 16,none,.load 1 false (.tmp 15)⟩,
  ⟨some 17,none,.callX 66 [(.tmp 16)]⟩,
  ⟨some 4,none,.asg (.tmp 17)⟩]) (.seq (.ops [
  ⟨some 18,none,.fa 0 (.tmp 1)⟩,
  ⟨some 19,none,.load 1 false (.tmp 18)⟩,
  ⟨some 20,none,.callX 69 [(.tmp 19)]⟩,
  ⟨some 5,none,.asg (.tmp 20)⟩]) (.seq (.ops [
  ⟨some 6,none,.asg (.const (.slice none 0 0))⟩]) (.seq (.seq (.ops [
  ⟨some 21,none,.fa 1 (.tmp 1)⟩,
  ⟨some 22,none,.load 1 false (.tmp 21)⟩,
  ⟨some 23,none,.len (.tmp 22)⟩,
  ⟨some 24,none,.mv (.const (.int .i64 0))⟩]) (.block 0 (.loop (mB 68 0xffffcbffffe007f8d) (.seq (.ops [
  ⟨some 25,none,.bin .lss (.tmp 24) (.tmp 23)⟩]) (.seq (.cond (.tmp 25) .skip (.exit 0)) (.seq (.block 1 (.seq (.ops [
  ⟨some 26,none,.ia 1 (.tmp 22) (.tmp 24)⟩,
  ⟨some 27,none,.load 1 false (.tmp 26)⟩,
  ⟨some 8,none,.asg (.tmp 27)⟩]) (.seq (.ops [
  ⟨some 28,none,.mv (.tmp 5)⟩,
  ⟨some 29,none,.len (.tmp 28)⟩,
  ⟨some 30,none,.mv (.const (.int .i64 0))⟩]) (.block 2 (.loop (mB 68 0xffffcbfff9e007e8d) (.seq (.ops [
  ⟨some 31,none,.bin .lss (.tmp 30) (.tmp 29)⟩]) (.seq (.cond (.tmp 31) .skip (.exit 2)) (.seq (.block 3 (.seq (.ops [
  ⟨some 32,none,.mv (.tmp 30)⟩,
  ⟨some 9,none,.asg (.tmp 32)⟩]) (.seq (.ops [
  ⟨some 34,none,.mv (.tmp 4)⟩,
  ⟨some 35,none,.mv (.tmp 5)⟩,
  ⟨some 36,none,.mv (.tmp 9)⟩,
  ⟨some 37,none,.ia 1 (.tmp 35) (.tmp 36)⟩,
  ⟨some 38,none,.load 1 false (.tmp 37)⟩,
  ⟨some 39,none,.mv (.tmp 8)⟩,
  ⟨some 40,none,.build [(.int .i64 0),(.int .i64 0)] [(0,1,(.tmp 38)),(1,1,(.tmp 39))]⟩,
  ⟨some 41,none,.mlk (.flat [1,1]) (.int .i64 0) true (.tmp 34) (.tmp 40)⟩,
  ⟨some 33,none,.mv (.tmp 41)⟩,
  ⟨some 42,none,.ext (.tmp 33) 0⟩,
  ⟨some 43,none,.ext (.tmp 33) 1⟩,
  ⟨some 10,none,.asg (.tmp 42)⟩,
  ⟨some 11,none,.asg (.tmp 43)⟩]) (.seq (.seq (.ops [
  ⟨some 44,none,.mv (.tmp 11)⟩,
  ⟨some 45,none,.un .not (.tmp 44)⟩]) (.cond (.tmp 45) (.seq (.ops [
  ⟨some 2,none,.asg (.const (.slice none 0 0))⟩,
  ⟨some 3,none,.asg (.const (.int .i64 3))⟩]) .ret) .skip)) (.seq (.ops [
  ⟨some 46,none,.mv (.tmp 6)⟩,
  ⟨some 47,none,.mv (.tmp 10)⟩,
  ⟨some 48,none,.bsl 1 [(.tmp 47)]⟩,
  ⟨some 49,none,.app 1 8 (.tmp 46) (.tmp 48)⟩,
  ⟨some 6,none,.asg (.tmp 49)⟩]) (.draw (mB 64 0xfffc000000000000) [] [⟨0,mB 64 0xfffc000000000000,[],⟨some 50,none,.mv (.tmp 5)⟩⟩,⟨1,mB 64 0xfffc000000000000,[],⟨some 51,none,.mv (.tmp 9)⟩⟩,⟨2,mB 64 0xfffc000000000000,[],⟨some 52,none,.fa 2 (.tmp 1)⟩⟩,⟨3,mB 64 0xffec000000000000,[],⟨some 53,none,.load 1 false (.tmp 52)⟩⟩,⟨4,mB 64 0xfffc000000000000,[],⟨some 54,none,.mv (.tmp 10)⟩⟩,⟨5,mB 64 0xff8c000000000000,[],⟨some 55,none,.ia 5 (.tmp 53) (.tmp 54)⟩⟩,⟨6,mB 64 0xff0c000000000000,[],⟨some 56,none,.fa 1 (.tmp 55)⟩⟩,⟨7,mB 64 0xfe0c000000000000,[],⟨some 57,none,.load 1 false (.tmp 56)⟩⟩,⟨8,mB 64 0xfffc000000000000,[],⟨some 58,none,.fa 2 (.tmp 1)⟩⟩,⟨9,mB 64 0xfbfc000000000000,[],⟨some 59,none,.load 1 false (.tmp 58)⟩⟩,⟨10,mB 64 0xfffc000000000000,[],⟨some 60,none,.mv (.tmp 10)⟩⟩,⟨11,mB 64 0xe3fc000000000000,[],⟨some 61,none,.ia 5 (.tmp 59) (.tmp 60)⟩⟩,⟨12,mB 64 0xc3fc000000000000,[],⟨some 62,none,.fa 2 (.tmp 61)⟩⟩,⟨13,mB 64 0x83fc000000000000,[],⟨some 63,none,.load 1 false (.tmp 62)⟩⟩] [⟨some 64,none,.ia 1 (.tmp 50) (.tmp 51)⟩,⟨none,none,.store 1 (.tmp 64) (.tmp 57)⟩,⟨some 8,none,.asg (.tmp 63)⟩])))))) (.ops [
  ⟨some 65,none,.bin .add (.tmp 30) (.const (.int .i64 1))⟩,
  ⟨some 30,none,.mv (.tmp 65)⟩]))))))))) (.ops [
  ⟨some 66,none,.bin .add (.tmp 24) (.const (.int .i64 1))⟩,
  ⟨some 24,none,.mv (.tmp 66)⟩]))))))) (.seq (.ops [
  ⟨some 67,none,.mv (.tmp 6)⟩,
  ⟨some 2,none,.asg (.tmp 67)⟩,
  ⟨some 3,none,.asg (.const (.int .i64 0))⟩]) .ret)))))))
theorem zOx {a0 d:D}(h:code_impl_RunDesign.wp (CT Try.prog NoG) (zHy [(.t 2),(.t 3)] d) [a0,.undef,.undef,.undef,.undef,.undef,.undef,.undef,.undef,.undef,.undef,.undef,.undef,.undef,.undef,.undef,.undef,.undef,.undef,.undef,.undef,.undef,.undef,.undef,.undef,.undef,.undef,.undef,.undef,.undef,.undef,.undef,.undef,.undef,.undef,.undef,.undef,.undef,.undef,.undef,.undef,.undef,.undef,.undef,.undef,.undef,.undef,.undef,.undef,.undef,.undef,.undef,.undef,.undef,.undef,.undef,.undef,.undef,.undef,.undef,.undef,.undef,.undef,.undef,.undef,.undef,.undef,.undef]):Contract Try.prog NoG 36 [a0] d :=
  zAo (pt:=0) noG Try.func36 (fun us W=>by kernel_rfl) (c:=Try.f36.body.getD .skip) (ms:=[(mB 68 0xffffcbffffe007f8d),(mB 68 0xffffcbfff9e007e8d)]) (ms':=[]) (by kernel_rfl) (by kernel_rfl) (by kernel_rfl) h
set_option maxHeartbeats 8000000 in
theorem zCq (d:Design) (hd:dsnB d):Contract Try.prog NoG 36 [.agg (Design.td.d false d)] (.tup [.sl true 1 ((zBl d).map rI),.v (.int .i64 (zA7 d))]):=by
  rw [Design.td_d];refine zOx ?_;unfold code_impl_RunDesign;simp -implicitDefEqProofs (disch:=omega) only [go_sem,↓reduceIte];cases hok:zC1 d with
  | false=>have r1:zBl d=[]:=(by unfold zBl;rw [hok];rfl);have r2:zA7 d=1:=(by unfold zA7;rw [hok];rfl);rw [r1,r2];refine zAr (zN7 d hd) qBa ?_;simp -implicitDefEqProofs (disch:=omega) only [go_sem,↓reduceIte ,hok]
  | true =>
  obtain ⟨⟨b1,b2⟩,⟨l1,l2⟩,hp,_,hnd,_,_⟩:=zA1 hok;have r1:zBl d=if zE6 d then zJa d else []:=by unfold zBl;rw [hok];rfl
  have r2:zA7 d=if zE6 d then 0 else 3:=by unfold zA7;rw [hok];rfl
  rw [r1,r2];refine zAr (zN7 d hd) qBa ?_;simp -implicitDefEqProofs (disch:=omega) only [go_sem,↓reduceIte ,hok];have hH:∀ (s w:Int) (k:Nat) (hk:k<d.Pieces.length),kkP d.Pieces[k]=(s,w)→zXx (yEn (zRi d.Pieces)) (.agg #[.int .i64 s,.int .i64 w])=some (.int .i64 (k:Nat)):=fun s w k hk h=>ySm hnd hk h;have hM:∀ (s w:Int),(∀ p,p∈d.Pieces→kkP p≠(s,w))→zXx (yEn (zRi d.Pieces)) (.agg #[.int .i64 s,.int .i64 w])=none:=fun s w h=>yMl hnd h;have hC:=zWr d.Pieces qAc
  generalize yEn (zRi d.Pieces)=M at hH hM hC;refine zAr (hC) qAb ?_;simp -implicitDefEqProofs (disch:=omega) only [go_sem,↓reduceIte];refine zAr (zVh d.Bottom qAc) qA6 ?_;simp -implicitDefEqProofs (disch:=omega) only [go_sem,↓reduceIte ,xAw];refine zBv qAd (fun y:Nat=>[(5,.sl true 1 ((zG4 d y).bel.map rI)),(6,.sl true 1 ((zG4 d y).out.map rI)),(24,.v (.int .i64 (y:Nat)))]) (fun _=>by simp only [zBq,zBb,xA8,xBc];exact rfl) (fun y:Nat=>y≤d.Left.length∧∀ j,j<y→zOh d.Pieces (zBk d j) d.Bottom.length=true) (fun y:Nat=>d.Left.length-y) (0) (zD2) (?_) ?_
  · exact ⟨xCs _,fun j hj=>absurd hj qAc⟩
  rintro y ⟨hy,hrows⟩;simp -implicitDefEqProofs (disch:=omega) only [go_sem,↓reduceIte ,xAw,xAz,xA7,xA0,xAy,xAx];refine zAp ?_ ?_<;>intro hlt
  · have hlt:y<d.Left.length:=qAg;have e1:=xA1 hlt;have hw:=zSk hlt;have hbl:=zSj d y;simp -implicitDefEqProofs (disch:=omega) only [go_sem,↓reduceIte ,xAw,xAz,xA7,xA0,xAy,xAx,hlt,e1,rI,hbl];refine zBv qAd (fun x:Nat=>[(5,.sl true 1 ((zG9 d.Pieces (zBk d y) x).bel.map rI)),(6,.sl true 1 ((zG9 d.Pieces (zBk d y) x).out.map rI)),(8,.v (.int .i64 (zG9 d.Pieces (zBk d y) x).west)),(30,.v (.int .i64 (x:Nat)))]) (fun _=>by simp only [zBq,zBb,xA8,xBc];exact rfl) (fun x:Nat=>x≤d.Bottom.length∧∀ j,j<x→zJh d.Pieces (zG9 d.Pieces (zBk d y) j) j=true) (fun x:Nat=>d.Bottom.length-x) (0) qCi (?_) ?_
    · exact ⟨xCs _,fun j hj=>absurd hj qAc⟩
    rintro x ⟨hx,hcells⟩;have hxb:(zG9 d.Pieces (zBk d y) x).bel.length=d.Bottom.length:=by rw [zRg,zUf]
    have hol:=zXi hok (y:=y) hx;obtain ⟨st,hst⟩:∃ st,zG9 d.Pieces (zBk d y) x=st:=⟨_,rfl⟩
    rw [hst] at hxb hol;rw [hst];simp -implicitDefEqProofs (disch:=omega) only [go_sem,↓reduceIte ,xAw,xAz,xA7,xA0,xAy,xAx,hxb];refine zAp ?_ ?_<;>intro hlx
    · have hlx:x<d.Bottom.length:=(by simpa using hlx);have e2:=getD_at (xs:=st.bel) (k:=x) qAc
      rcases zHw d.Pieces (st.bel.getD x 0) st.west with ⟨hf,hmiss⟩ | ⟨k,hk,hf,hkk⟩
      · have hno:zE6 d=false:=zRj hlt (zRj hlx (zUg hst hf));have hg:=hM _ _ hmiss;rw [hno,if_neg qAx,if_neg qAx];simp -implicitDefEqProofs (disch:=omega) only [go_sem,↓reduceIte ,xAw,xAz,xA7,xA0,xAy,xAx,hxb,hlx,e2,rI,hg]
      · have hnx:=yAv hst hk hf;have hok1:=zXj hst hf;have e3:=xA1 hk;have hg:=hH _ _ k hk hkk;have hs1:st.out.map rI++[[.v (.int .i64 (k:Int))]]=(st.out++[(k:Int)]).map rI:=(by rw [xBo];rfl);have hs2:(st.bel.map rI).set x [.v (.int .i64 d.Pieces[k].North)]=(st.bel.set x d.Pieces[k].North).map rI:=(by rw [xGa]);have hall:∀ j,j<x+1→zJh d.Pieces (zG9 d.Pieces (zBk d y) j) j=true:=fun j hj=>by
          rcases xDu.1 hj with h1 | rfl
          · exact hcells j h1
          · exact hok1
        simp -implicitDefEqProofs (disch:=omega) only [go_sem,↓reduceIte ,xAw,xAz,xA7,xA0,xAy,xAx,hxb,hlx,e2,rI,hg,hk,e3,Piece.td_d,hs1,hs2,wrN]
        repeat (refine And.intro qAc ?_)
        exact ⟨x+1,by omega,⟨hlx,hall⟩,by rw [hnx];(try simp -implicitDefEqProofs only [zVy,zVx,zRm,zRp,zRq,zRn,and_self,and_true,true_and])<;>repeat' (first | exact zOm rfl | exact zSx | apply And.intro | apply yA9 | apply zLc | apply zKk | exact zOo | exact zOp | apply zSy | apply zSz)⟩
    · have hxe:x=d.Bottom.length:=(by have:¬ x<d.Bottom.length:=(by simpa using hlx);omega);subst hxe;have hyn:=zHo hlt;rw [hst] at hyn;have hr:∀ j,j<y+1→zOh d.Pieces (zBk d j) d.Bottom.length=true:=fun j hj=>by
        rcases xDu.1 hj with h1 | rfl
        · exact hrows j h1
        · unfold zOh;rw [xBx];exact fun z hz=>hcells z (by simpa using hz)
      simp -implicitDefEqProofs (disch:=omega) only [go_sem,↓reduceIte ,wrN];exact ⟨y+1,by omega,⟨hlt,hr⟩,by rw [hyn];(try simp -implicitDefEqProofs only [zVy,zVx,zRm,zRp,zRq,zRn,and_self,and_true,true_and])<;>repeat' (first | exact zOm rfl | exact zSx | apply And.intro | apply yA9 | apply zLc | apply zKk | exact zOo | exact zOp | apply zSy | apply zSz)⟩
  · have hye:y=d.Left.length:=(by have:¬ y<d.Left.length:=qAg;omega);subst hye;have hyes:zE6 d=true:=qB8;rw [hyes,if_pos rfl,if_pos rfl];simp -implicitDefEqProofs (disch:=omega) only [go_sem,↓reduceIte ,zJa]
end Go.Proofs.Ytaleehohmpohoaa
