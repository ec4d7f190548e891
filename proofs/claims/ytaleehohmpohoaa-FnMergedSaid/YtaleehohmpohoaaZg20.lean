/- Laws that the proof stands on. -/
import Derived.Test.YtaleehohmpohoaaZVDsnP
import Derived.Test.YtaleehohmpohoaaZVBkPiece
import Derived.Test.YtaleehohmpohoaaZg12
import Derived.Test.YtaleehohmpohoaaZg17
set_option linter.all false
namespace Go.Proofs.Ytaleehohmpohoaa
open Go.RowKit Go.V
attribute [local go_sem] xD4 xDy xDz xDv xDu xEb xD9 xEn xEa xFu xEi xE3 xEc xFd xEv xE2 xD7 xEd xEk xFg Value.oneCell' xFf xEy xFh xFl xFm xDw xD5 and_true true_and beq_self_eq_true xDr if_true if_false xEm Nat.reduceAdd Nat.reduceMul Nat.reduceLeDiff xD8 xEu xEt not_true_eq_false not_false_eq_true ne_eq reduceCtorEq xE1 bne_self_eq_false Nat.reduceEqDiff List.isPrefixOf xEs xFe xE0 xFt xFi decide_true decide_false Nat.reduceBEq Nat.reduceBNe xEl xEr exists_eq_left' exists_eq_left xDi or_false or_true true_or false_or xDk xFa mB Nat.reduceMod Nat.reduceDiv
set_option maxRecDepth 100000
theorem yMg {ps:List Piece}{i:Nat}(hi:i<ps.length):zP3 (yCo ((zPx ps).take i)) (.agg #[.int .i64 (ps.getD (ps.length-1-i) p0).South,.int .i64 (ps.getD (ps.length-1-i) p0).West]) (.int .i64 ((ps.length-1-i:Nat):Int))=yCo ((zPx ps).take (i+1)):=by have h1:i<(zPx ps).length:=(by rw [zPw];exact hi);have h2:=yI0 (key:=yV1) (val:=yV7) h1;rw [yJ7 hi] at h2;have h3:ps.getD (ps.length-1-i) p0=ps[ps.length-1-i]'(by omega):=(by rw [xDt,xDl (by omega)];rfl);rw [h3];exact h2
def code_impl_byInlet:VCode:=(.seq (.ops [
  ⟨some 2,none,.asg (.const (.map none))⟩]) (.seq (.ops [
  ⟨some 6,none,.mkm (.flat [1,1])⟩,
  ⟨some 3,none,.alloc [(.map none)]⟩,
  ⟨none,none,.store 1 (.tmp 3) (.tmp 6)⟩]) (.seq (.seq (.ops [
  ⟨some 7,none,.mv (.tmp 0)⟩,
  ⟨some 8,none,.callX 93 [(.tmp 7)]⟩]) (.block 0 (.rangeF (.tmp 8) [9,10] (mB 18 261680) (.seq (.ops [
  ⟨some 4,none,.asg (.tmp 9)⟩]) (.ops [
  ⟨some 5,none,.alloc [(.int .i64 0),(.int .i64 0),(.int .i64 0),(.int .i64 0),(.int .i64 0)]⟩,
  ⟨none,none,.store 5 (.tmp 5) (.tmp 10)⟩])) (.block 1 (.ops [
  ⟨some 11,none,.load 1 false (.tmp 3)⟩,
  ⟨some 12,none,.fa 3 (.tmp 5)⟩,
  ⟨some 13,none,.load 1 false (.tmp 12)⟩,
  ⟨some 14,none,.fa 4 (.tmp 5)⟩,
  ⟨some 15,none,.load 1 false (.tmp 14)⟩,
  ⟨some 16,none,.build [(.int .i64 0),(.int .i64 0)] [(0,1,(.tmp 13)),(1,1,(.tmp 15))]⟩,
  ⟨some 17,none,.mv (.tmp 4)⟩,
  ⟨none,none,.mupd (.flat [1,1]) (.tmp 11) (.tmp 16) (.tmp 17)⟩]))))) (.seq (.ops [
  ⟨some 18,none,.load 1 false (.tmp 3)⟩,
  ⟨some 2,none,.asg (.tmp 18)⟩]) .ret))))
theorem zPn {a0 d:D}(h:code_impl_byInlet.wp (CT Try.prog NoG) (zG3 [(.t 2)] d) [a0,.undef,.undef,.undef,.undef,.undef,.undef,.undef,.undef,.undef,.undef,.undef,.undef,.undef,.undef,.undef,.undef,.undef,.undef]):Contract Try.prog NoG 66 [a0] d :=
  zPa (pt:=0) noG Try.func66 (fun us W=>by kernel_rfl) (c:=Try.f66.body.getD .skip) (ms:=[]) (ms':=[]) (by kernel_rfl) (by kernel_rfl) (by kernel_rfl) (by kernel_rfl) h
set_option maxHeartbeats 1000000 in
theorem zU2 (ps:List Piece)(hn:ps.length≤1048576):Contract Try.prog NoG 66 [.sl false 5 (ps.map (Piece.td.d false))] (.mp (.flat [1,1]) (yCo (zPx ps))):=by
  refine zPn ?_;unfold code_impl_byInlet;simp -implicitDefEqProofs (disch:=omega) only [go_sem,↓reduceIte];refine zAs (zPf ps) (by simp -implicitDefEqProofs (disch:=omega) only [go_sem,↓reduceIte,deep,TD.rows,zAf,zAc,zAg,zAb,zAd,zAa];exact rfl) ?_;simp -implicitDefEqProofs (disch:=omega) only [go_sem,↓reduceIte];refine zYq (N:=ps.length) (by simp -implicitDefEqProofs (disch:=omega) only [go_sem,↓reduceIte];exact rfl) (by rfl) (fun i=>bkP ps i) (zOq ps hn) (fun _ _=>rfl) (by simp -implicitDefEqProofs (disch:=omega) only [go_sem,↓reduceIte];exact rfl) (fun i=>[(3,.box none [.mp (.flat [1,1]) (yCo ((zPx ps).take i))])]) (fun _=>by simp only [zB0,zBe,xDv,xDz];exact rfl) (by rw [show yCo ((zPx ps).take 0)=[] from rfl];(try simp -implicitDefEqProofs only [zCz,zCy,zB6,zB8,zB9,zB7,and_self,and_true,true_and])<;>repeat' (first | exact zBr rfl | exact zCu | apply And.intro | apply zD3 | apply zBb | apply zBl | exact zB1 | exact zBs | apply zCv | apply zCw)) ?_ ?_
  · intro i hi;have hs:=yMg hi;simp -implicitDefEqProofs (disch:=omega) only [go_sem,↓reduceIte ,bkP,Piece.td_d,hs];exact ⟨_,zEx,rfl⟩
  · have hN:(zPx ps).take ps.length=zPx ps:=(by rw [← zPw ps,xF8]);simp -implicitDefEqProofs (disch:=omega) only [go_sem,↓reduceIte ,hN]
structure dsnB (d:Design):Prop where
  b:d.Bottom.length≤1048576
  l:d.Left.length≤1048576
  p:d.Pieces.length≤1048576
def code_impl_gluesOk:VCode:=(.seq (.ops [
  ⟨some 2,none,.asg (.const (.bool false))⟩]) (.seq (.ops [
  ⟨some 3,none,.mv (.tmp 0)⟩,
  ⟨some 4,none,.callX 86 [(.tmp 3),(.const (.int .i64 120))]⟩,
  ⟨some 2,none,.asg (.tmp 4)⟩]) .ret))
theorem zPm {a0 d:D}(h:code_impl_gluesOk.wp (CT Try.prog NoG) (zG3 [(.t 2)] d) [a0,.undef,.undef,.undef,.undef]):Contract Try.prog NoG 64 [a0] d :=
  zAt (pt:=0) noG Try.func64 (fun us W=>by kernel_rfl) (c:=Try.f64.body.getD .skip) (ms:=[]) (ms':=[]) (by kernel_rfl) (by kernel_rfl) (by kernel_rfl) h
def code_impl_edgeOk:VCode:=(.seq (.ops [
  ⟨some 2,none,.asg (.const (.bool false))⟩]) (.seq (.ops [
  ⟨some 3,none,.mv (.tmp 0)⟩,
  ⟨some 4,none,.len (.tmp 3)⟩,
  ⟨some 5,none,.callX 48 [(.tmp 4),(.const (.int .i64 1)),(.const (.int .i64 10))]⟩,
  ⟨some 6,none,.mv (.tmp 5)⟩,
  ⟨some 7,some (6,true),.mv (.tmp 0)⟩,
  ⟨some 8,some (6,true),.callX 64 [(.tmp 7)]⟩,
  ⟨some 9,none,.pick (.tmp 6) (.tmp 8) (.const (.bool false))⟩,
  ⟨some 2,none,.asg (.tmp 9)⟩]) .ret))
theorem zRf {a0 d:D}(h:code_impl_edgeOk.wp (CT Try.prog NoG) (zG3 [(.t 2)] d) [a0,.undef,.undef,.undef,.undef,.undef,.undef,.undef,.undef,.undef]):Contract Try.prog NoG 62 [a0] d :=
  zAt (pt:=0) noG Try.func62 (fun us W=>by kernel_rfl) (c:=Try.f62.body.getD .skip) (ms:=[]) (ms':=[]) (by kernel_rfl) (by kernel_rfl) (by kernel_rfl) h
def code_impl_ValidDesign_1:VCode:=(.seq (.ops [
  ⟨some 1,none,.box (.tmp 0)⟩,
  ⟨some 2,none,.asg (.const (.bool false))⟩]) (.seq (.ops [
  ⟨some 3,none,.fa 0 (.tmp 1)⟩,
  ⟨some 4,none,.load 1 false (.tmp 3)⟩,
  ⟨some 5,none,.callX 48 [(.tmp 4),(.const (.int .i64 0)),(.const (.int .i64 5))]⟩,
  ⟨some 6,none,.un .not (.tmp 5)⟩,
  ⟨some 7,none,.mv (.tmp 6)⟩,
  ⟨some 8,some (7,false),.fa 1 (.tmp 1)⟩,
  ⟨some 9,some (7,false),.load 1 false (.tmp 8)⟩,
  ⟨some 10,some (7,false),.fa 2 (.tmp 1)⟩,
  ⟨some 11,some (7,false),.load 1 false (.tmp 10)⟩,
  ⟨some 12,some (7,false),.fa 3 (.tmp 1)⟩,
  ⟨some 13,some (7,false),.load 1 false (.tmp 12)⟩,
  ⟨some 14,some (7,false),.fa 4 (.tmp 1)⟩,
  ⟨some 15,some (7,false),.load 1 false (.tmp 14)⟩,
  ⟨some 16,some (7,false),.bsl 1 [(.tmp 9),(.tmp 11),(.tmp 13),(.tmp 15)]⟩,
  ⟨some 17,some (7,false),.callX 64 [(.tmp 16)]⟩,
  ⟨some 18,some (7,false),.un .not (.tmp 17)⟩,
  ⟨some 19,none,.pick (.tmp 7) (.const (.bool true)) (.tmp 18)⟩,
  ⟨some 2,none,.asg (.tmp 19)⟩]) .ret))
theorem zIt {a0 d:D}(h:code_impl_ValidDesign_1.wp (CT Try.prog NoG) (zG3 [(.t 2)] d) [a0,.undef,.undef,.undef,.undef,.undef,.undef,.undef,.undef,.undef,.undef,.undef,.undef,.undef,.undef,.undef,.undef,.undef,.undef,.undef]):Contract Try.prog NoG 63 [a0] d :=
  zAt (pt:=0) noG Try.func63 (fun us W=>by kernel_rfl) (c:=Try.f63.body.getD .skip) (ms:=[]) (ms':=[]) (by kernel_rfl) (by kernel_rfl) (by kernel_rfl) h
def code_impl_ValidDesign:VCode:=(.seq (.ops [
  ⟨some 1,none,.box (.tmp 0)⟩,
  ⟨some 2,none,.asg (.const (.bool false))⟩]) (.seq (.seq (.ops [
  ⟨some 4,none,.fa 0 (.tmp 1)⟩,
  ⟨some 5,none,.load 1 false (.tmp 4)⟩,
  ⟨some 6,none,.callX 62 [(.tmp 5)]⟩,
  ⟨some 7,none,.un .not (.tmp 6)⟩,
  ⟨some 8,none,.mv (.tmp 7)⟩,
  ⟨some 9,some (8,false),.fa 1 (.tmp 1)⟩,
  ⟨some 10,some (8,false),.load 1 false (.tmp 9)⟩,
  ⟨some 11,some (8,false),.callX 62 [(.tmp 10)]⟩,
  ⟨some 12,some (8,false),.un .not (.tmp 11)⟩,
  ⟨some 13,none,.pick (.tmp 8) (.const (.bool true)) (.tmp 12)⟩,
  ⟨some 14,none,.mv (.tmp 13)⟩,
  ⟨some 15,some (14,false),.fa 2 (.tmp 1)⟩,
  ⟨some 16,some (14,false),.load 1 false (.tmp 15)⟩,
  ⟨some 17,some (14,false),.len (.tmp 16)⟩,
  ⟨some 18,some (14,false),.bin .gtr (.tmp 17) (.const (.int .i64 100))⟩,
  ⟨some 19,none,.pick (.tmp 14) (.const (.bool true)) (.tmp 18)⟩]) (.cond (.tmp 19) (.seq (.ops [
  ⟨some 2,none,.asg (.const (.bool false))⟩]) .ret) .skip)) (.seq (.ops [
  ⟨some 3,none,.asg (.func 63)⟩]) (.seq (.draw (mB 33 8588886016) [] [⟨0,mB 33 8588886016,[],⟨some 20,none,.fa 2 (.tmp 1)⟩⟩,⟨1,mB 33 8587837440,[],⟨some 21,none,.load 1 false (.tmp 20)⟩⟩,⟨2,mB 33 8588886016,[],⟨some 22,none,.mv (.tmp 3)⟩⟩,⟨3,mB 33 8581545984,[],⟨some 23,none,.call 65 [(.tmp 21),(.tmp 22)]⟩⟩,⟨4,mB 33 8573157376,[],⟨some 24,none,.un .not (.tmp 23)⟩⟩,⟨5,mB 33 8556380160,[],⟨some 25,none,.mv (.tmp 24)⟩⟩,⟨6,mB 33 8522825728,[],⟨some 26,some (25,true),.fa 2 (.tmp 1)⟩⟩,⟨7,mB 33 8455716864,[],⟨some 27,some (25,true),.load 1 false (.tmp 26)⟩⟩,⟨8,mB 33 8321499136,[],⟨some 28,some (25,true),.call 66 [(.tmp 27)]⟩⟩,⟨9,mB 33 8053063680,[],⟨some 29,some (25,true),.mlen (.tmp 28)⟩⟩,⟨10,mB 33 8522825728,[],⟨some 30,some (25,true),.fa 2 (.tmp 1)⟩⟩,⟨11,mB 33 7449083904,[],⟨some 31,some (25,true),.load 1 false (.tmp 30)⟩⟩,⟨12,mB 33 5301600256,[],⟨some 32,some (25,true),.len (.tmp 31)⟩⟩] [⟨some 33,some (25,true),.bin .eql (.tmp 29) (.tmp 32)⟩,⟨some 34,none,.pick (.tmp 25) (.tmp 33) (.const (.bool false))⟩,⟨some 2,none,.asg (.tmp 34)⟩]) .ret))))
theorem zJ3 {a0 d:D}(h:code_impl_ValidDesign.wp (CT Try.prog NoG) (zG3 [(.t 2)] d) [a0,.undef,.undef,.undef,.undef,.undef,.undef,.undef,.undef,.undef,.undef,.undef,.undef,.undef,.undef,.undef,.undef,.undef,.undef,.undef,.undef,.undef,.undef,.undef,.undef,.undef,.undef,.undef,.undef,.undef,.undef,.undef,.undef,.undef,.undef]):Contract Try.prog NoG 27 [a0] d :=
  zAt (pt:=0) noG Try.func27 (fun us W=>by kernel_rfl) (c:=Try.f27.body.getD .skip) (ms:=[]) (ms':=[]) (by kernel_rfl) (by kernel_rfl) (by kernel_rfl) h
theorem zU1 (xs:List Int)(hn:xs.length≤1048576):Contract Try.prog NoG 64 [.sl false 1 (xs.map rI)] (.v (.bool (xs.all (inR 0 119)))):=by refine zPm ?_;unfold code_impl_gluesOk;simp -implicitDefEqProofs (disch:=omega) only [go_sem,↓reduceIte];refine zAs (yC3 xs 120 (by omega) (by omega) hn) (by simp -implicitDefEqProofs (disch:=omega) only [go_sem,↓reduceIte,deep,TD.rows,zAf,zAc,zAg,zAb,zAd,zAa,Int.reduceSub];exact rfl) ?_;simp -implicitDefEqProofs (disch:=omega) only [go_sem,↓reduceIte ,Int.reduceSub]
theorem zF6 (xs:List Int)(hn:xs.length≤1048576):Contract Try.prog NoG 62 [.sl false 1 (xs.map rI)] (.v (.bool (zFi xs))):=by
  refine zRf ?_;unfold code_impl_edgeOk zFi;simp -implicitDefEqProofs (disch:=omega) only [go_sem,↓reduceIte ,xDj];cases h:inR 1 10 xs.length with
  | false=>refine zAs (zGq _ _ _) (by simp -implicitDefEqProofs (disch:=omega) only [go_sem,↓reduceIte,deep,TD.rows,zAf,zAc,zAg,zAb,zAd,zAa,h];exact rfl) ?_;simp -implicitDefEqProofs (disch:=omega) only [go_sem,↓reduceIte ,h]
  | true=>refine zAs (zGq _ _ _) (by simp -implicitDefEqProofs (disch:=omega) only [go_sem,↓reduceIte,deep,TD.rows,zAf,zAc,zAg,zAb,zAd,zAa,h];exact rfl) ?_;simp -implicitDefEqProofs (disch:=omega) only [go_sem,↓reduceIte ,h];refine zAs (zU1 xs hn) (by simp -implicitDefEqProofs (disch:=omega) only [go_sem,↓reduceIte,deep,TD.rows,zAf,zAc,zAg,zAb,zAd,zAa];exact rfl) ?_;simp -implicitDefEqProofs (disch:=omega) only [go_sem,↓reduceIte]
theorem zSf (p:Piece):Contract Try.prog NoG 63 [.agg (Piece.td.d false p)] (.v (.bool (!zUx p))):=by
  rw [Piece.td_d];refine zIt ?_;unfold code_impl_ValidDesign_1 zUx;simp -implicitDefEqProofs (disch:=omega) only [go_sem,↓reduceIte];cases h:inR 0 5 p.Color with
  | false=>refine zAs (zGq _ _ _) (by simp -implicitDefEqProofs (disch:=omega) only [go_sem,↓reduceIte,deep,TD.rows,zAf,zAc,zAg,zAb,zAd,zAa,h];exact rfl) ?_;simp -implicitDefEqProofs (disch:=omega) only [go_sem,↓reduceIte ,h]
  | true=>refine zAs (zGq _ _ _) (by simp -implicitDefEqProofs (disch:=omega) only [go_sem,↓reduceIte,deep,TD.rows,zAf,zAc,zAg,zAb,zAd,zAa,h];exact rfl) ?_;simp -implicitDefEqProofs (disch:=omega) only [go_sem,↓reduceIte ,h];refine zAs (zU1 [p.North,p.East,p.South,p.West] (by simp)) (by simp -implicitDefEqProofs (disch:=omega) only [go_sem,↓reduceIte,deep,TD.rows,zAf,zAc,zAg,zAb,zAd,zAa];exact rfl) ?_;simp -implicitDefEqProofs (disch:=omega) only [go_sem,↓reduceIte]
set_option maxHeartbeats 1000000 in
theorem zF7 (d:Design)(hd:dsnB d):Contract Try.prog NoG 27 [.agg (Design.td.d false d)] (.v (.bool (zC2 d))):=by
  have hb:=hd.b;have hl:=hd.l;have hp:=hd.p;rw [Design.td_d];refine zJ3 ?_;unfold code_impl_ValidDesign zC2;simp -implicitDefEqProofs (disch:=omega) only [go_sem,↓reduceIte];cases h1:zFi d.Bottom with
  | false=>refine zAs (zF6 d.Bottom hb) (by simp -implicitDefEqProofs (disch:=omega) only [go_sem,↓reduceIte,deep,TD.rows,zAf,zAc,zAg,zAb,zAd,zAa,h1];exact rfl) ?_;simp -implicitDefEqProofs (disch:=omega) only [go_sem,↓reduceIte ,h1]
  | true =>
  cases h2:zFi d.Left with
  | false=>refine zAs (zF6 d.Bottom hb) (by simp -implicitDefEqProofs (disch:=omega) only [go_sem,↓reduceIte,deep,TD.rows,zAf,zAc,zAg,zAb,zAd,zAa,h1];exact rfl) ?_;simp -implicitDefEqProofs (disch:=omega) only [go_sem,↓reduceIte ,h1];refine zAs (zF6 d.Left hl) (by simp -implicitDefEqProofs (disch:=omega) only [go_sem,↓reduceIte,deep,TD.rows,zAf,zAc,zAg,zAb,zAd,zAa,h2];exact rfl) ?_;simp -implicitDefEqProofs (disch:=omega) only [go_sem,↓reduceIte ,h2]
  | true =>
  by_cases h3:d.Pieces.length≤100
  · have h3':decide ((100:Int)<(d.Pieces.length:Int))=false:=(by rw [decide_eq_false_iff_not];omega);rw [decide_eq_true h3];cases h4:d.Pieces.all zUx with
    | false=>refine zAs (zF6 d.Bottom hb) (by simp -implicitDefEqProofs (disch:=omega) only [go_sem,↓reduceIte,deep,TD.rows,zAf,zAc,zAg,zAb,zAd,zAa,h1];exact rfl) ?_;simp -implicitDefEqProofs (disch:=omega) only [go_sem,↓reduceIte ,h1];refine zAs (zF6 d.Left hl) (by simp -implicitDefEqProofs (disch:=omega) only [go_sem,↓reduceIte,deep,TD.rows,zAf,zAc,zAg,zAb,zAd,zAa,h2,xDj,h3'];exact rfl) ?_;simp -implicitDefEqProofs (disch:=omega) only [go_sem,↓reduceIte ,h2,xDj,h3'];refine zJf (zF1 _ [] ⟨rfl,fun _=>rfl,fun _=>rfl,fun _=>rfl⟩ d.Pieces (fun p=>!zUx p) (fun x _=>zSf x) (by omega)) (by simp -implicitDefEqProofs (disch:=omega) only [go_sem,↓reduceIte,deep,TD.rows,zAf,zAc,zAg,zAb,zAd,zAa,zO0,xIf,h4];exact rfl) ?_;simp -implicitDefEqProofs (disch:=omega) only [go_sem,↓reduceIte ,zO0,xIf,h4]
    | true=>refine zAs (zF6 d.Bottom hb) (by simp -implicitDefEqProofs (disch:=omega) only [go_sem,↓reduceIte,deep,TD.rows,zAf,zAc,zAg,zAb,zAd,zAa,h1];exact rfl) ?_;simp -implicitDefEqProofs (disch:=omega) only [go_sem,↓reduceIte ,h1];refine zAs (zF6 d.Left hl) (by simp -implicitDefEqProofs (disch:=omega) only [go_sem,↓reduceIte,deep,TD.rows,zAf,zAc,zAg,zAb,zAd,zAa,h2,xDj,h3'];exact rfl) ?_;simp -implicitDefEqProofs (disch:=omega) only [go_sem,↓reduceIte ,h2,xDj,h3'];refine zJf (zF1 _ [] ⟨rfl,fun _=>rfl,fun _=>rfl,fun _=>rfl⟩ d.Pieces (fun p=>!zUx p) (fun x _=>zSf x) (by omega)) (by simp -implicitDefEqProofs (disch:=omega) only [go_sem,↓reduceIte,deep,TD.rows,zAf,zAc,zAg,zAb,zAd,zAa,zO0,xIf,h4];exact rfl) ?_;simp -implicitDefEqProofs (disch:=omega) only [go_sem,↓reduceIte ,zO0,xIf,h4];refine zJf (zU2 d.Pieces hp) (by simp -implicitDefEqProofs (disch:=omega) only [go_sem,↓reduceIte,deep,TD.rows,zAf,zAc,zAg,zAb,zAd,zAa,xDj,yG0];exact rfl) ?_;simp -implicitDefEqProofs (disch:=omega) only [go_sem,↓reduceIte ,xDj,yG0]
  · have h3':decide ((100:Int)<(d.Pieces.length:Int))=true:=(by rw [decide_eq_true_eq];omega);rw [decide_eq_false h3];refine zAs (zF6 d.Bottom hb) (by simp -implicitDefEqProofs (disch:=omega) only [go_sem,↓reduceIte,deep,TD.rows,zAf,zAc,zAg,zAb,zAd,zAa,h1];exact rfl) ?_;simp -implicitDefEqProofs (disch:=omega) only [go_sem,↓reduceIte ,h1];refine zAs (zF6 d.Left hl) (by simp -implicitDefEqProofs (disch:=omega) only [go_sem,↓reduceIte,deep,TD.rows,zAf,zAc,zAg,zAb,zAd,zAa,h2,xDj,h3'];exact rfl) ?_;simp -implicitDefEqProofs (disch:=omega) only [go_sem,↓reduceIte ,h2,xDj,h3']
theorem zYr {p:Nat→Bool}{i n:Nat}(hi:i<n)(h:p i=false):(List.range n).all p=false:=by rw [List.all_eq_false];exact ⟨i,by simpa using hi,by simp [h]⟩
theorem yO7 {α:Type}{xs:List α}{p:α→Bool}{j:Nat}(hj:j<xs.length)(h:p xs[j]=false):xs.all p=false:=by rw [List.all_eq_false];exact ⟨xs[j],xEo hj,by simp [h]⟩
theorem zOd {α:Type}{xs:List α}{i:Nat}(hi:i<xs.length):xs.take (i+1)=xs.take i++[xs[i]]:=xFb hi
def code_spec_l24Numbers:VCode:=(.seq (.ops [
  ⟨some 2,none,.asg (.const (.bool false))⟩]) (.seq (.seq (.ops [
  ⟨some 4,none,.mv (.tmp 0)⟩,
  ⟨some 5,none,.len (.tmp 4)⟩,
  ⟨some 6,none,.callX 45 [(.tmp 5),(.const (.int .i64 1)),(.const (.int .i64 10))]⟩,
  ⟨some 7,none,.un .not (.tmp 6)⟩]) (.cond (.tmp 7) (.seq (.ops [
  ⟨some 2,none,.asg (.const (.bool false))⟩]) .ret) .skip)) (.seq (.seq (.ops [
  ⟨some 3,none,.asg (.const (.int .i64 0))⟩]) (.block 0 (.loop (mB 20 1048566) (.seq (.seq (.ops [
  ⟨some 8,none,.mv (.tmp 3)⟩,
  ⟨some 9,none,.mv (.tmp 0)⟩,
  ⟨some 10,none,.len (.tmp 9)⟩,
  ⟨some 11,none,.bin .lss (.tmp 8) (.tmp 10)⟩]) (.cond (.tmp 11) .skip (.exit 0))) (.seq (.block 1 (.seq (.ops [
  ⟨some 14,none,.mv (.tmp 0)⟩,
  ⟨some 15,none,.mv (.tmp 3)⟩,
  ⟨some 16,none,.ia 1 (.tmp 14) (.tmp 15)⟩,
  ⟨some 17,none,.load 1 false (.tmp 16)⟩,
  ⟨some 18,none,.callX 45 [(.tmp 17),(.const (.int .i64 0)),(.const (.int .i64 119))]⟩,
  ⟨some 19,none,.un .not (.tmp 18)⟩]) (.cond (.tmp 19) (.seq (.ops [
  ⟨some 2,none,.asg (.const (.bool false))⟩]) .ret) .skip))) (.ops [
  ⟨some 12,none,.mv (.tmp 3)⟩,
  ⟨some 13,none,.bin .add (.tmp 12) (.const (.int .i64 1))⟩,
  ⟨some 3,none,.asg (.tmp 13)⟩])))))) (.seq (.ops [
  ⟨some 2,none,.asg (.const (.bool true))⟩]) .ret))))
theorem zKd {a0 d:D}(h:code_spec_l24Numbers.wp (CT Try.prog NoG) (zG3 [(.t 2)] d) [a0,.undef,.undef,.undef,.undef,.undef,.undef,.undef,.undef,.undef,.undef,.undef,.undef,.undef,.undef,.undef,.undef,.undef,.undef,.undef]):Contract Try.prog NoG 81 [a0] d :=
  zAt (pt:=0) noG Try.func81 (fun us W=>by kernel_rfl) (c:=Try.f81.body.getD .skip) (ms:=[(mB 20 1048566)]) (ms':=[]) (by kernel_rfl) (by kernel_rfl) (by kernel_rfl) h
def code_spec_l24Piece:VCode:=(.seq (.ops [
  ⟨some 2,none,.asg (.const (.bool false))⟩]) (.seq (.ops [
  ⟨some 3,none,.mv (.tmp 0)⟩,
  ⟨some 4,none,.nilc (.tmp 3)⟩,
  ⟨some 5,none,.fa 0 (.tmp 4)⟩,
  ⟨some 6,none,.load 1 false (.tmp 5)⟩,
  ⟨some 7,none,.callX 45 [(.tmp 6),(.const (.int .i64 0)),(.const (.int .i64 5))]⟩,
  ⟨some 8,none,.mv (.tmp 7)⟩,
  ⟨some 9,some (8,true),.mv (.tmp 0)⟩,
  ⟨some 10,some (8,true),.nilc (.tmp 9)⟩,
  ⟨some 11,some (8,true),.fa 1 (.tmp 10)⟩,
  ⟨some 12,some (8,true),.load 1 false (.tmp 11)⟩,
  ⟨some 13,some (8,true),.callX 45 [(.tmp 12),(.const (.int .i64 0)),(.const (.int .i64 119))]⟩,
  ⟨some 14,none,.pick (.tmp 8) (.tmp 13) (.const (.bool false))⟩,
  ⟨some 15,none,.mv (.tmp 14)⟩,
  ⟨some 16,some (15,true),.mv (.tmp 0)⟩,
  ⟨some 17,some (15,true),.nilc (.tmp 16)⟩,
  ⟨some 18,some (15,true),.fa 2 (.tmp 17)⟩,
  ⟨some 19,some (15,true),.load 1 false (.tmp 18)⟩,
  ⟨some 20,some (15,true),.callX 45 [(.tmp 19),(.const (.int .i64 0)),(.const (.int .i64 119))]⟩,
  ⟨some 21,none,.pick (.tmp 15) (.tmp 20) (.const (.bool false))⟩,
  ⟨some 22,none,.mv (.tmp 21)⟩,
  ⟨some 23,some (22,true),.mv (.tmp 0)⟩,
  ⟨some 24,some (22,true),.nilc (.tmp 23)⟩,
  ⟨some 25,some (22,true),.fa 3 (.tmp 24)⟩,
  ⟨some 26,some (22,true),.load 1 false (.tmp 25)⟩,
  ⟨some 27,some (22,true),.callX 45 [(.tmp 26),(.const (.int .i64 0)),(.const (.int .i64 119))]⟩,
  ⟨some 28,none,.pick (.tmp 22) (.tmp 27) (.const (.bool false))⟩,
  ⟨some 29,none,.mv (.tmp 28)⟩,
  ⟨some 30,some (29,true),.mv (.tmp 0)⟩,
  ⟨some 31,some (29,true),.nilc (.tmp 30)⟩,
  ⟨some 32,some (29,true),.fa 4 (.tmp 31)⟩,
  ⟨some 33,some (29,true),.load 1 false (.tmp 32)⟩,
  ⟨some 34,some (29,true),.callX 45 [(.tmp 33),(.const (.int .i64 0)),(.const (.int .i64 119))]⟩,
  ⟨some 35,none,.pick (.tmp 29) (.tmp 34) (.const (.bool false))⟩,
  ⟨some 2,none,.asg (.tmp 35)⟩]) .ret))
theorem zOm {a0 d:D}(h:code_spec_l24Piece.wp (CT Try.prog NoG) (zG3 [(.t 2)] d) [a0,.undef,.undef,.undef,.undef,.undef,.undef,.undef,.undef,.undef,.undef,.undef,.undef,.undef,.undef,.undef,.undef,.undef,.undef,.undef,.undef,.undef,.undef,.undef,.undef,.undef,.undef,.undef,.undef,.undef,.undef,.undef,.undef,.undef,.undef,.undef]):Contract Try.prog NoG 82 [a0] d :=
  zAt (pt:=0) noG Try.func82 (fun us W=>by kernel_rfl) (c:=Try.f82.body.getD .skip) (ms:=[]) (ms':=[]) (by kernel_rfl) (by kernel_rfl) (by kernel_rfl) h
def code_spec_l24Design:VCode:=(.seq (.ops [
  ⟨some 2,none,.asg (.const (.bool false))⟩]) (.seq (.seq (.ops [
  ⟨some 5,none,.mv (.tmp 0)⟩,
  ⟨some 6,none,.nilc (.tmp 5)⟩,
  ⟨some 7,none,.fa 0 (.tmp 6)⟩,
  ⟨some 8,none,.load 1 false (.tmp 7)⟩,
  ⟨some 9,none,.callX 81 [(.tmp 8)]⟩,
  ⟨some 10,none,.un .not (.tmp 9)⟩,
  ⟨some 11,none,.mv (.tmp 10)⟩,
  ⟨some 12,some (11,false),.mv (.tmp 0)⟩,
  ⟨some 13,some (11,false),.nilc (.tmp 12)⟩,
  ⟨some 14,some (11,false),.fa 1 (.tmp 13)⟩,
  ⟨some 15,some (11,false),.load 1 false (.tmp 14)⟩,
  ⟨some 16,some (11,false),.callX 81 [(.tmp 15)]⟩,
  ⟨some 17,some (11,false),.un .not (.tmp 16)⟩,
  ⟨some 18,none,.pick (.tmp 11) (.const (.bool true)) (.tmp 17)⟩,
  ⟨some 19,none,.mv (.tmp 18)⟩,
  ⟨some 20,some (19,false),.mv (.tmp 0)⟩,
  ⟨some 21,some (19,false),.nilc (.tmp 20)⟩,
  ⟨some 22,some (19,false),.fa 2 (.tmp 21)⟩,
  ⟨some 23,some (19,false),.load 1 false (.tmp 22)⟩,
  ⟨some 24,some (19,false),.len (.tmp 23)⟩,
  ⟨some 25,some (19,false),.bin .gtr (.tmp 24) (.const (.int .i64 100))⟩,
  ⟨some 26,none,.pick (.tmp 19) (.const (.bool true)) (.tmp 25)⟩]) (.cond (.tmp 26) (.seq (.ops [
  ⟨some 2,none,.asg (.const (.bool false))⟩]) .ret) .skip)) (.seq (.seq (.ops [
  ⟨some 3,none,.asg (.const (.int .i64 0))⟩]) (.block 0 (.loop (mB 85 0x1ffffffffffffffffffff6) (.seq (.seq (.ops [
  ⟨some 27,none,.mv (.tmp 3)⟩,
  ⟨some 28,none,.mv (.tmp 0)⟩,
  ⟨some 29,none,.nilc (.tmp 28)⟩,
  ⟨some 30,none,.fa 2 (.tmp 29)⟩,
  ⟨some 31,none,.load 1 false (.tmp 30)⟩,
  ⟨some 32,none,.len (.tmp 31)⟩,
  ⟨some 33,none,.bin .lss (.tmp 27) (.tmp 32)⟩]) (.cond (.tmp 33) .skip (.exit 0))) (.seq (.block 1 (.seq (.seq (.ops [
  ⟨some 36,none,.mv (.tmp 0)⟩,
  ⟨some 37,none,.nilc (.tmp 36)⟩,
  ⟨some 38,none,.fa 2 (.tmp 37)⟩,
  ⟨some 39,none,.load 1 false (.tmp 38)⟩,
  ⟨some 40,none,.mv (.tmp 3)⟩,
  ⟨some 41,none,.ia 5 (.tmp 39) (.tmp 40)⟩,
  ⟨some 42,none,.callX 82 [(.tmp 41)]⟩,
  ⟨some 43,none,.un .not (.tmp 42)⟩]) (.cond (.tmp 43) (.seq (.ops [
  ⟨some 2,none,.asg (.const (.bool false))⟩]) .ret) .skip)) (.seq (.ops [
  ⟨some 4,none,.asg (.const (.int .i64 0))⟩]) (.block 2 (.loop (mB 85 0x1fffffffffffffffffffe6) (.seq (.seq (.ops [
  ⟨some 44,none,.mv (.tmp 4)⟩,
  ⟨some 45,none,.mv (.tmp 3)⟩,
  ⟨some 46,none,.bin .lss (.tmp 44) (.tmp 45)⟩]) (.cond (.tmp 46) .skip (.exit 2))) (.seq (.block 3 (.seq (.draw (mB 83 0x7fffffffe000000000000) [] [⟨0,mB 83 0x7fffffffe000000000000,[],⟨some 49,none,.mv (.tmp 0)⟩⟩,⟨1,mB 83 0x7fffffffc000000000000,[],⟨some 50,none,.nilc (.tmp 49)⟩⟩,⟨2,mB 83 0x7fffffff8000000000000,[],⟨some 51,none,.fa 2 (.tmp 50)⟩⟩,⟨3,mB 83 0x7fffffff0000000000000,[],⟨some 52,none,.load 1 false (.tmp 51)⟩⟩,⟨4,mB 83 0x7fffffffe000000000000,[],⟨some 53,none,.mv (.tmp 4)⟩⟩,⟨5,mB 83 0x7ffffffc0000000000000,[],⟨some 54,none,.ia 5 (.tmp 52) (.tmp 53)⟩⟩,⟨6,mB 83 0x7ffffff80000000000000,[],⟨some 55,none,.fa 3 (.tmp 54)⟩⟩,⟨7,mB 83 0x7ffffff00000000000000,[],⟨some 56,none,.load 1 false (.tmp 55)⟩⟩,⟨8,mB 83 0x7fffffffe000000000000,[],⟨some 57,none,.mv (.tmp 0)⟩⟩,⟨9,mB 83 0x7fffffdfe000000000000,[],⟨some 58,none,.nilc (.tmp 57)⟩⟩,⟨10,mB 83 0x7fffff9fe000000000000,[],⟨some 59,none,.fa 2 (.tmp 58)⟩⟩,⟨11,mB 83 0x7fffff1fe000000000000,[],⟨some 60,none,.load 1 false (.tmp 59)⟩⟩,⟨12,mB 83 0x7fffffffe000000000000,[],⟨some 61,none,.mv (.tmp 3)⟩⟩,⟨13,mB 83 0x7ffffc1fe000000000000,[],⟨some 62,none,.ia 5 (.tmp 60) (.tmp 61)⟩⟩,⟨14,mB 83 0x7ffff81fe000000000000,[],⟨some 63,none,.fa 3 (.tmp 62)⟩⟩,⟨15,mB 83 0x7ffff01fe000000000000,[],⟨some 64,none,.load 1 false (.tmp 63)⟩⟩,⟨16,mB 83 0x7fffe0000000000000000,[],⟨some 65,none,.bin .eql (.tmp 56) (.tmp 64)⟩⟩,⟨17,mB 83 0x7fffc0000000000000000,[],⟨some 66,none,.mv (.tmp 65)⟩⟩,⟨18,mB 83 0x7fff80000000000000000,[],⟨some 67,some (66,true),.mv (.tmp 0)⟩⟩,⟨19,mB 83 0x7fff00000000000000000,[],⟨some 68,some (66,true),.nilc (.tmp 67)⟩⟩,⟨20,mB 83 0x7ffe00000000000000000,[],⟨some 69,some (66,true),.fa 2 (.tmp 68)⟩⟩,⟨21,mB 83 0x7ffc00000000000000000,[],⟨some 70,some (66,true),.load 1 false (.tmp 69)⟩⟩,⟨22,mB 83 0x7fff80000000000000000,[],⟨some 71,some (66,true),.mv (.tmp 4)⟩⟩,⟨23,mB 83 0x7ff000000000000000000,[],⟨some 72,some (66,true),.ia 5 (.tmp 70) (.tmp 71)⟩⟩,⟨24,mB 83 0x7fe000000000000000000,[],⟨some 73,some (66,true),.fa 4 (.tmp 72)⟩⟩,⟨25,mB 83 0x7fc000000000000000000,[],⟨some 74,some (66,true),.load 1 false (.tmp 73)⟩⟩,⟨26,mB 83 0x7fff80000000000000000,[],⟨some 75,some (66,true),.mv (.tmp 0)⟩⟩,⟨27,mB 83 0x7f7f80000000000000000,[],⟨some 76,some (66,true),.nilc (.tmp 75)⟩⟩,⟨28,mB 83 0x7e7f80000000000000000,[],⟨some 77,some (66,true),.fa 2 (.tmp 76)⟩⟩,⟨29,mB 83 0x7c7f80000000000000000,[],⟨some 78,some (66,true),.load 1 false (.tmp 77)⟩⟩,⟨30,mB 83 0x7fff80000000000000000,[],⟨some 79,some (66,true),.mv (.tmp 3)⟩⟩,⟨31,mB 83 0x707f80000000000000000,[],⟨some 80,some (66,true),.ia 5 (.tmp 78) (.tmp 79)⟩⟩,⟨32,mB 83 0x607f80000000000000000,[],⟨some 81,some (66,true),.fa 4 (.tmp 80)⟩⟩,⟨33,mB 83 0x407f80000000000000000,[],⟨some 82,some (66,true),.load 1 false (.tmp 81)⟩⟩] [⟨some 83,some (66,true),.bin .eql (.tmp 74) (.tmp 82)⟩,⟨some 84,none,.pick (.tmp 66) (.tmp 83) (.const (.bool false))⟩]) (.cond (.tmp 84) (.seq (.ops [
  ⟨some 2,none,.asg (.const (.bool false))⟩]) .ret) .skip))) (.ops [
  ⟨some 47,none,.mv (.tmp 4)⟩,
  ⟨some 48,none,.bin .add (.tmp 47) (.const (.int .i64 1))⟩,
  ⟨some 4,none,.asg (.tmp 48)⟩])))))))) (.ops [
  ⟨some 34,none,.mv (.tmp 3)⟩,
  ⟨some 35,none,.bin .add (.tmp 34) (.const (.int .i64 1))⟩,
  ⟨some 3,none,.asg (.tmp 35)⟩])))))) (.seq (.ops [
  ⟨some 2,none,.asg (.const (.bool true))⟩]) .ret))))
theorem zM4 {a0 d:D}(h:code_spec_l24Design.wp (CT Try.prog NoG) (zG3 [(.t 2)] d) [a0,.undef,.undef,.undef,.undef,.undef,.undef,.undef,.undef,.undef,.undef,.undef,.undef,.undef,.undef,.undef,.undef,.undef,.undef,.undef,.undef,.undef,.undef,.undef,.undef,.undef,.undef,.undef,.undef,.undef,.undef,.undef,.undef,.undef,.undef,.undef,.undef,.undef,.undef,.undef,.undef,.undef,.undef,.undef,.undef,.undef,.undef,.undef,.undef,.undef,.undef,.undef,.undef,.undef,.undef,.undef,.undef,.undef,.undef,.undef,.undef,.undef,.undef,.undef,.undef,.undef,.undef,.undef,.undef,.undef,.undef,.undef,.undef,.undef,.undef,.undef,.undef,.undef,.undef,.undef,.undef,.undef,.undef,.undef,.undef]):Contract Try.prog NoG 57 [a0] d :=
  zAt (pt:=0) noG Try.func57 (fun us W=>by kernel_rfl) (c:=Try.f57.body.getD .skip) (ms:=[(mB 85 0x1ffffffffffffffffffff6),(mB 85 0x1fffffffffffffffffffe6)]) (ms':=[]) (by kernel_rfl) (by kernel_rfl) (by kernel_rfl) h
theorem zGr (xs:List Int)(hn:xs.length≤1048576):Contract Try.prog NoG 81 [.sl false 1 (xs.map rI)] (.v (.bool (zFi xs))):=by
  refine zKd ?_;unfold code_spec_l24Numbers;simp -implicitDefEqProofs (disch:=omega) only [go_sem,↓reduceIte ,xDj];cases h:inR 1 10 xs.length with
  | false=>have hno:zFi xs=false:=(by unfold zFi;rw [h];rfl);refine zAs (zD7 _ _ _) (by simp -implicitDefEqProofs (disch:=omega) only [go_sem,↓reduceIte,deep,TD.rows,zAf,zAc,zAg,zAb,zAd,zAa,h,hno];exact rfl) ?_;simp -implicitDefEqProofs (disch:=omega) only [go_sem,↓reduceIte ,h,hno]
  | true =>
    have hyes:zFi xs=xs.all (inR 0 119):=(by unfold zFi;rw [h];rfl);refine zAs (zD7 _ _ _) (by simp -implicitDefEqProofs (disch:=omega) only [go_sem,↓reduceIte,deep,TD.rows,zAf,zAc,zAg,zAb,zAd,zAa,h];exact rfl) ?_;simp -implicitDefEqProofs (disch:=omega) only [go_sem,↓reduceIte ,h];refine zB5 (by simp -implicitDefEqProofs (disch:=omega) only [go_sem,↓reduceIte];exact rfl) (fun i:Nat=>[(3,.v (.int .i64 (i:Nat)))]) (fun _=>by simp only [zB0,zBe,xDv,xDz];exact rfl) (fun i:Nat=>i≤xs.length∧(xs.take i).all (inR 0 119)=true) (fun i:Nat=>xs.length-i) (0) (zEx) (?_) ?_
    · exact ⟨xE9 _,rfl⟩
    rintro i ⟨hi,hok⟩;simp -implicitDefEqProofs (disch:=omega) only [go_sem,↓reduceIte ,xDj,xDo,xD3,xDp,xDm,xDk];refine zAu ?_ ?_<;>intro hlt
    · have hlt:i<xs.length:=(by simpa using hlt);have e1:=xDl hlt;cases hx:inR 0 119 xs[i] with
      | false=>have hno:zFi xs=false:=(by rw [hyes];exact yO7 hlt hx);simp -implicitDefEqProofs (disch:=omega) only [go_sem,↓reduceIte ,xDj,xDo,xD3,xDp,xDm,xDk,hlt,e1,rI];refine zAs (zD7 _ _ _) (by simp -implicitDefEqProofs (disch:=omega) only [go_sem,↓reduceIte,deep,TD.rows,zAf,zAc,zAg,zAb,zAd,zAa,hx,hno];exact rfl) ?_;simp -implicitDefEqProofs (disch:=omega) only [go_sem,↓reduceIte ,hx,hno]
      | true=>have hnx:(xs.take (i+1)).all (inR 0 119)=true:=(by rw [zOd hlt,xH9,hok,xEa,hx];rfl);simp -implicitDefEqProofs (disch:=omega) only [go_sem,↓reduceIte ,xDj,xDo,xD3,xDp,xDm,xDk,hlt,e1,rI];refine zAs (zD7 _ _ _) (by simp -implicitDefEqProofs (disch:=omega) only [go_sem,↓reduceIte,deep,TD.rows,zAf,zAc,zAg,zAb,zAd,zAa,hx,wrN];exact rfl) ?_;simp -implicitDefEqProofs (disch:=omega) only [go_sem,↓reduceIte ,hx,wrN];exact ⟨i+1,by omega,⟨hlt,hnx⟩,zEx⟩
    · obtain rfl:i=xs.length:=(by have:¬ i<xs.length:=(by simpa using hlt);omega);rw [xF8] at hok;rw [hyes,hok];simp -implicitDefEqProofs (disch:=omega) only [go_sem,↓reduceIte]
theorem zSd (p:Piece):Contract Try.prog NoG 82 [.iptr (Piece.td.d false p) 0] (.v (.bool (zUx p))):=by
  rw [Piece.td_d];refine zOm ?_;unfold code_spec_l24Piece zUx;simp -implicitDefEqProofs (disch:=omega) only [go_sem,↓reduceIte];cases h1:inR 0 5 p.Color with
  | false=>refine zAs (zD7 _ _ _) (by simp -implicitDefEqProofs (disch:=omega) only [go_sem,↓reduceIte,deep,TD.rows,zAf,zAc,zAg,zAb,zAd,zAa,h1];exact rfl) ?_;simp -implicitDefEqProofs (disch:=omega) only [go_sem,↓reduceIte ,h1]
  | true =>
  refine zAs (zD7 _ _ _) (by simp -implicitDefEqProofs (disch:=omega) only [go_sem,↓reduceIte,deep,TD.rows,zAf,zAc,zAg,zAb,zAd,zAa,h1];exact rfl) ?_;simp -implicitDefEqProofs (disch:=omega) only [go_sem,↓reduceIte ,h1];cases h2:inR 0 119 p.North with
  | false=>refine zAs (zD7 _ _ _) (by simp -implicitDefEqProofs (disch:=omega) only [go_sem,↓reduceIte,deep,TD.rows,zAf,zAc,zAg,zAb,zAd,zAa,h2];exact rfl) ?_;simp -implicitDefEqProofs (disch:=omega) only [go_sem,↓reduceIte ,h2]
  | true =>
  refine zAs (zD7 _ _ _) (by simp -implicitDefEqProofs (disch:=omega) only [go_sem,↓reduceIte,deep,TD.rows,zAf,zAc,zAg,zAb,zAd,zAa,h2];exact rfl) ?_;simp -implicitDefEqProofs (disch:=omega) only [go_sem,↓reduceIte ,h2];cases h3:inR 0 119 p.East with
  | false=>refine zAs (zD7 _ _ _) (by simp -implicitDefEqProofs (disch:=omega) only [go_sem,↓reduceIte,deep,TD.rows,zAf,zAc,zAg,zAb,zAd,zAa,h3];exact rfl) ?_;simp -implicitDefEqProofs (disch:=omega) only [go_sem,↓reduceIte ,h3]
  | true =>
  refine zAs (zD7 _ _ _) (by simp -implicitDefEqProofs (disch:=omega) only [go_sem,↓reduceIte,deep,TD.rows,zAf,zAc,zAg,zAb,zAd,zAa,h3];exact rfl) ?_;simp -implicitDefEqProofs (disch:=omega) only [go_sem,↓reduceIte ,h3];cases h4:inR 0 119 p.South with
  | false=>refine zAs (zD7 _ _ _) (by simp -implicitDefEqProofs (disch:=omega) only [go_sem,↓reduceIte,deep,TD.rows,zAf,zAc,zAg,zAb,zAd,zAa,h4];exact rfl) ?_;simp -implicitDefEqProofs (disch:=omega) only [go_sem,↓reduceIte ,h4]
  | true =>
  refine zAs (zD7 _ _ _) (by simp -implicitDefEqProofs (disch:=omega) only [go_sem,↓reduceIte,deep,TD.rows,zAf,zAc,zAg,zAb,zAd,zAa,h4];exact rfl) ?_;simp -implicitDefEqProofs (disch:=omega) only [go_sem,↓reduceIte ,h4];refine zAs (zD7 _ _ _) (by simp -implicitDefEqProofs (disch:=omega) only [go_sem,↓reduceIte,deep,TD.rows,zAf,zAc,zAg,zAb,zAd,zAa];exact rfl) ?_;simp -implicitDefEqProofs (disch:=omega) only [go_sem,↓reduceIte]
theorem yRo {ps:List Piece}{i:Nat}(hi:i<ps.length):((ps.take (i+1)).map kkP).Nodup↔((ps.take i).map kkP).Nodup∧∀ k (hk:k<i),kkP (ps[k]'(by omega))≠kkP ps[i]:=by
  rw [zOd hi,xEz,xDs];constructor
  · rintro ⟨h1,_,h2⟩;exact ⟨h1,fun k hk=>h2 _ (xEg.2 ⟨ps[k],xIo.2 ⟨k,by omega,rfl⟩,rfl⟩) _ (by simp)⟩
  · rintro ⟨h1,h2⟩;refine ⟨h1,by simp,fun a ha b hb=>?_⟩;simp only [xDu,xEb,xFp] at hb;subst hb;obtain ⟨x,hx,rfl⟩:=xEg.1 ha;obtain ⟨k,hk,rfl⟩:=xIo.1 hx;exact h2 k (by omega)
theorem xBd {ps:List Piece}{i k:Nat}(hi:i<ps.length)(hk:k<i)(h:kkP (ps[k]'(by omega))=kkP ps[i]):¬ (ps.map kkP).Nodup:=fun hn=>by have:=xHw.1 hn k i (by rw [xDj];omega) (by rw [xDj];exact hi) hk;simp only [xGo] at this;exact this h
set_option maxHeartbeats 1000000 in
theorem zWr (d:Design) (hd:dsnB d):Contract Try.prog NoG 57 [.iptr (Design.td.d false d) 0] (.v (.bool (zC2 d))):=by
  have hb:=hd.b;have hl:=hd.l;have hp:=hd.p;rw [Design.td_d];refine zM4 ?_;unfold code_spec_l24Design;simp -implicitDefEqProofs (disch:=omega) only [go_sem,↓reduceIte];cases h1:zFi d.Bottom with
  | false=>have hno:zC2 d=false:=(by unfold zC2;rw [h1];rfl);refine zAs (zGr d.Bottom hb) (by simp -implicitDefEqProofs (disch:=omega) only [go_sem,↓reduceIte,deep,TD.rows,zAf,zAc,zAg,zAb,zAd,zAa,h1,hno];exact rfl) ?_;simp -implicitDefEqProofs (disch:=omega) only [go_sem,↓reduceIte ,h1,hno]
  | true =>
  refine zAs (zGr d.Bottom hb) (by simp -implicitDefEqProofs (disch:=omega) only [go_sem,↓reduceIte,deep,TD.rows,zAf,zAc,zAg,zAb,zAd,zAa,h1];exact rfl) ?_;simp -implicitDefEqProofs (disch:=omega) only [go_sem,↓reduceIte ,h1];cases h2:zFi d.Left with
  | false=>have hno:zC2 d=false:=(by unfold zC2;rw [h1,h2];rfl);refine zAs (zGr d.Left hl) (by simp -implicitDefEqProofs (disch:=omega) only [go_sem,↓reduceIte,deep,TD.rows,zAf,zAc,zAg,zAb,zAd,zAa,h2,hno];exact rfl) ?_;simp -implicitDefEqProofs (disch:=omega) only [go_sem,↓reduceIte ,h2,hno]
  | true =>
  refine zAs (zGr d.Left hl) (by simp -implicitDefEqProofs (disch:=omega) only [go_sem,↓reduceIte,deep,TD.rows,zAf,zAc,zAg,zAb,zAd,zAa,h2,xDj];exact rfl) ?_;simp -implicitDefEqProofs (disch:=omega) only [go_sem,↓reduceIte ,h2,xDj];refine zAu ?_ ?_<;>intro h3
  · have h3:¬ d.Pieces.length≤100:=(by rw [decide_eq_true_eq] at h3;omega);have hno:zC2 d=false:=(by unfold zC2;rw [decide_eq_false h3,xE0,xFe,xFe]);simp -implicitDefEqProofs (disch:=omega) only [go_sem,↓reduceIte ,hno]
  · have h3 : d.Pieces.length≤100:=(by rw [decide_eq_false_iff_not] at h3;omega);have hyes:zC2 d=(d.Pieces.all zUx&&decide ((d.Pieces.map kkP).Nodup)):=(by unfold zC2;rw [h1,h2,decide_eq_true h3];rfl);simp -implicitDefEqProofs (disch:=omega) only [go_sem,↓reduceIte];refine zB5 (by simp -implicitDefEqProofs (disch:=omega) only [go_sem,↓reduceIte];exact rfl) (fun i:Nat=>[(3,.v (.int .i64 (i:Nat)))]) (fun _=>by simp only [zB0,zBe,xDv,xDz];exact rfl) (fun i:Nat=>i≤d.Pieces.length∧(d.Pieces.take i).all zUx=true∧((d.Pieces.take i).map kkP).Nodup) (fun i:Nat=>d.Pieces.length-i) (0) (zEx) (?_) ?_
    · exact ⟨xE9 _,rfl,by simp⟩
    rintro i ⟨hi,hok,hnd⟩;simp -implicitDefEqProofs (disch:=omega) only [go_sem,↓reduceIte ,xDj,xDo,xD3,xDp,xDm,xDk];refine zAu ?_ ?_<;>intro hlt
    · have hlt:i<d.Pieces.length:=(by simpa using hlt);have e1:=xDl hlt;cases hx:zUx d.Pieces[i] with
      | false=>have hno:zC2 d=false:=(by rw [hyes,yO7 hlt hx];rfl);simp -implicitDefEqProofs (disch:=omega) only [go_sem,↓reduceIte ,xDj,xDo,xD3,xDp,xDm,xDk,hlt,e1];refine zAs (zSd d.Pieces[i]) (by simp -implicitDefEqProofs (disch:=omega) only [go_sem,↓reduceIte,deep,TD.rows,zAf,zAc,zAg,zAb,zAd,zAa,hx,hno];exact rfl) ?_;simp -implicitDefEqProofs (disch:=omega) only [go_sem,↓reduceIte ,hx,hno]
      | true =>
        have hnx:(d.Pieces.take (i+1)).all zUx=true:=(by rw [zOd hlt,xH9,hok,xEa,hx];rfl);simp -implicitDefEqProofs (disch:=omega) only [go_sem,↓reduceIte ,xDj,xDo,xD3,xDp,xDm,xDk,hlt,e1];refine zAs (zSd d.Pieces[i]) (by simp -implicitDefEqProofs (disch:=omega) only [go_sem,↓reduceIte,deep,TD.rows,zAf,zAc,zAg,zAb,zAd,zAa,hx];exact rfl) ?_;simp -implicitDefEqProofs (disch:=omega) only [go_sem,↓reduceIte ,hx];refine zB5 (by simp -implicitDefEqProofs (disch:=omega) only [go_sem,↓reduceIte];exact rfl) (fun k:Nat=>[(4,.v (.int .i64 (k:Nat)))]) (fun _=>by simp only [zB0,zBe,xDv,xDz];exact rfl) (fun k:Nat=>k≤i∧∀ j (hj:j<k) (hj':j<d.Pieces.length),kkP d.Pieces[j]≠kkP d.Pieces[i]) (fun k:Nat=>i-k) (0) (zEx) (?_) ?_
        · exact ⟨xE9 _,fun j hj=>absurd hj (by omega)⟩
        rintro k ⟨hk,hall⟩;simp -implicitDefEqProofs (disch:=omega) only [go_sem,↓reduceIte ,xDj,xDo,xD3,xDp,xDm,xDk];refine zAu ?_ ?_<;>intro hlk
        · have hlk:k<i:=(by simpa using hlk);have hkp:k<d.Pieces.length:=(by omega);have e2:=xDl hkp;cases q1:decide (d.Pieces[k].South=d.Pieces[i].South) with
          | false =>
            have hne:∀ j (hj:j<k+1) (hj':j<d.Pieces.length),kkP d.Pieces[j]≠kkP d.Pieces[i]:=by
              intro j hj hj' e;rcases xGx.1 hj with h | rfl
              · exact hall j h hj' e
              · have:=(Prod.mk.inj e).1;rw [decide_eq_false_iff_not] at q1;exact q1 this
            simp -implicitDefEqProofs (disch:=omega) only [go_sem,↓reduceIte ,xDj,xDo,xD3,xDp,xDm,xDk,hlt,e1,hkp,e2,Piece.td_d,q1,wrN];exact ⟨k+1,by omega,⟨hlk,hne⟩,zEx⟩
          | true =>
            cases q2:decide (d.Pieces[k].West=d.Pieces[i].West) with
            | false =>
              have hne:∀ j (hj:j<k+1) (hj':j<d.Pieces.length),kkP d.Pieces[j]≠kkP d.Pieces[i]:=by
                intro j hj hj' e;rcases xGx.1 hj with h | rfl
                · exact hall j h hj' e
                · have:=(Prod.mk.inj e).2;rw [decide_eq_false_iff_not] at q2;exact q2 this
              simp -implicitDefEqProofs (disch:=omega) only [go_sem,↓reduceIte ,xDj,xDo,xD3,xDp,xDm,xDk,hlt,e1,hkp,e2,Piece.td_d,q1,q2,wrN];exact ⟨k+1,by omega,⟨hlk,hne⟩,zEx⟩
            | true =>
              rw [decide_eq_true_eq] at q1 q2;have hno:zC2 d=false:=by rw [hyes,decide_eq_false (xBd hlt hlk (by unfold kkP;rw [q1,q2])),xFe]
              have q1':=decide_eq_true q1;have q2':=decide_eq_true q2;simp -implicitDefEqProofs (disch:=omega) only [go_sem,↓reduceIte ,xDj,xDo,xD3,xDp,xDm,xDk,hlt,e1,hkp,e2,Piece.td_d,q1',q2',hno]
        · have hki:k=i:=(by have:¬ k<i:=(by simpa using hlk);omega);subst hki;have hnn:=(yRo hlt).2 ⟨hnd,fun j hj=>hall j hj (by omega)⟩;simp -implicitDefEqProofs (disch:=omega) only [go_sem,↓reduceIte ,wrN];exact ⟨k+1,by omega,⟨hlt,hnx,hnn⟩,zEx⟩
    · obtain rfl:i=d.Pieces.length:=(by have:¬ i<d.Pieces.length:=(by simpa using hlt);omega);rw [xF8] at hok hnd;have hy:zC2 d=true:=(by rw [hyes,hok,decide_eq_true hnd];rfl);simp -implicitDefEqProofs (disch:=omega) only [go_sem,↓reduceIte ,hy]
def code_spec_l24Fit:VCode:=(.seq (.ops [
  ⟨some 6,none,.asg (.const (.int .i64 0))⟩]) (.seq (.seq (.ops [
  ⟨some 7,none,.asg (.const (.int .i64 0))⟩]) (.block 0 (.loop (mB 40 1099511627640) (.seq (.seq (.ops [
  ⟨some 8,none,.mv (.tmp 7)⟩,
  ⟨some 9,none,.mv (.tmp 0)⟩,
  ⟨some 10,none,.nilc (.tmp 9)⟩,
  ⟨some 11,none,.fa 2 (.tmp 10)⟩,
  ⟨some 12,none,.load 1 false (.tmp 11)⟩,
  ⟨some 13,none,.len (.tmp 12)⟩,
  ⟨some 14,none,.bin .lss (.tmp 8) (.tmp 13)⟩]) (.cond (.tmp 14) .skip (.exit 0))) (.seq (.block 1 (.seq (.ops [
  ⟨some 17,none,.mv (.tmp 0)⟩,
  ⟨some 18,none,.nilc (.tmp 17)⟩,
  ⟨some 19,none,.fa 2 (.tmp 18)⟩,
  ⟨some 20,none,.load 1 false (.tmp 19)⟩,
  ⟨some 21,none,.mv (.tmp 7)⟩,
  ⟨some 22,none,.ia 5 (.tmp 20) (.tmp 21)⟩,
  ⟨some 23,none,.fa 3 (.tmp 22)⟩,
  ⟨some 24,none,.load 1 false (.tmp 23)⟩,
  ⟨some 25,none,.mv (.tmp 1)⟩,
  ⟨some 26,none,.bin .eql (.tmp 24) (.tmp 25)⟩,
  ⟨some 27,none,.mv (.tmp 26)⟩,
  ⟨some 28,some (27,true),.mv (.tmp 0)⟩,
  ⟨some 29,some (27,true),.nilc (.tmp 28)⟩,
  ⟨some 30,some (27,true),.fa 2 (.tmp 29)⟩,
  ⟨some 31,some (27,true),.load 1 false (.tmp 30)⟩,
  ⟨some 32,some (27,true),.mv (.tmp 7)⟩,
  ⟨some 33,some (27,true),.ia 5 (.tmp 31) (.tmp 32)⟩,
  ⟨some 34,some (27,true),.fa 4 (.tmp 33)⟩,
  ⟨some 35,some (27,true),.load 1 false (.tmp 34)⟩,
  ⟨some 36,some (27,true),.mv (.tmp 2)⟩,
  ⟨some 37,some (27,true),.bin .eql (.tmp 35) (.tmp 36)⟩,
  ⟨some 38,none,.pick (.tmp 27) (.tmp 37) (.const (.bool false))⟩]) (.cond (.tmp 38) (.seq (.ops [
  ⟨some 39,none,.mv (.tmp 7)⟩,
  ⟨some 6,none,.asg (.tmp 39)⟩]) .ret) .skip))) (.ops [
  ⟨some 15,none,.mv (.tmp 7)⟩,
  ⟨some 16,none,.bin .add (.tmp 15) (.const (.int .i64 1))⟩,
  ⟨some 7,none,.asg (.tmp 16)⟩])))))) (.seq (.ops [
  ⟨some 6,none,.asg (.const (.int .i64 (-1)))⟩]) .ret)))
theorem zRd {a0 a1 a2 d:D}(h:code_spec_l24Fit.wp (CT Try.prog NoG) (zG3 [(.t 6)] d) [a0,a1,a2,.undef,.undef,.undef,.undef,.undef,.undef,.undef,.undef,.undef,.undef,.undef,.undef,.undef,.undef,.undef,.undef,.undef,.undef,.undef,.undef,.undef,.undef,.undef,.undef,.undef,.undef,.undef,.undef,.undef,.undef,.undef,.undef,.undef,.undef,.undef,.undef,.undef]):Contract Try.prog NoG 84 [a0,a1,a2] d :=
  zAt (pt:=0) noG Try.func84 (fun us W=>by kernel_rfl) (c:=Try.f84.body.getD .skip) (ms:=[(mB 40 1099511627640)]) (ms':=[]) (by kernel_rfl) (by kernel_rfl) (by kernel_rfl) h
theorem yIp (d:Design)(s w:Int)(hp:d.Pieces.length≤1048576):Contract Try.prog NoG 84 [.iptr (Design.td.d false d) 0,.v (.int .i64 s),.v (.int .i64 w)] (.v (.int .i64 (yB0 d.Pieces s w))):=by
  rw [Design.td_d];refine zRd ?_;unfold code_spec_l24Fit;simp -implicitDefEqProofs (disch:=omega) only [go_sem,↓reduceIte];refine zB5 (by simp -implicitDefEqProofs (disch:=omega) only [go_sem,↓reduceIte];exact rfl) (fun i:Nat=>[(7,.v (.int .i64 (i:Nat)))]) (fun _=>by simp only [zB0,zBe,xDv,xDz];exact rfl) (fun i:Nat=>i≤d.Pieces.length∧∀ j (hj:j<d.Pieces.length),j<i→zPr s w d.Pieces[j]=false) (fun i:Nat=>d.Pieces.length-i) (0) (zEx) (?_) ?_
  · exact ⟨xE9 _,fun j _ hj=>absurd hj (by omega)⟩
  rintro i ⟨hi,hall⟩;simp -implicitDefEqProofs (disch:=omega) only [go_sem,↓reduceIte ,xDj,xDo,xD3,xDp,xDm,xDk];refine zAu ?_ ?_<;>intro hlt
  · have hlt:i<d.Pieces.length:=(by simpa using hlt);have e1:=xDl hlt;have hstep:zPr s w d.Pieces[i]=false→∀ j (hj:j<d.Pieces.length),j<i+1→zPr s w d.Pieces[j]=false:=fun h j hj hji=>by
      rcases xGx.1 hji with h1 | rfl
      · exact hall j hj h1
      · exact h
    cases q1:decide (d.Pieces[i].South=s) with
    | false=>have hn:=hstep (by unfold zPr;rw [q1];rfl);simp -implicitDefEqProofs (disch:=omega) only [go_sem,↓reduceIte ,xDj,xDo,xD3,xDp,xDm,xDk,hlt,e1,Piece.td_d,q1,wrN];exact ⟨i+1,by omega,⟨hlt,hn⟩,zEx⟩
    | true =>
      cases q2:decide (d.Pieces[i].West=w) with
      | false=>have hn:=hstep (by unfold zPr;rw [q1,q2];rfl);simp -implicitDefEqProofs (disch:=omega) only [go_sem,↓reduceIte ,xDj,xDo,xD3,xDp,xDm,xDk,hlt,e1,Piece.td_d,q1,q2,wrN];exact ⟨i+1,by omega,⟨hlt,hn⟩,zEx⟩
      | true=>have hr:yB0 d.Pieces s w=(i:Int):=zTq _ _ i hlt hall (by unfold zPr;rw [q1,q2];rfl);simp -implicitDefEqProofs (disch:=omega) only [go_sem,↓reduceIte ,xDj,xDo,xD3,xDp,xDm,xDk,hlt,e1,Piece.td_d,q1,q2,hr]
  · obtain rfl:i=d.Pieces.length:=(by have:¬ i<d.Pieces.length:=(by simpa using hlt);omega);have hr:yB0 d.Pieces s w = -1:=zQk _ _ (fun j hj=>hall j hj hj);simp -implicitDefEqProofs (disch:=omega) only [go_sem,↓reduceIte ,hr]
theorem yJ2 {ps:List Piece}{st0 st:RunS}{x k:Nat}(hst:zIl ps st0 x=st)(hk:k<ps.length)(hf:yB0 ps (st.bel.getD x 0) st.west=(k:Int)):zIl ps st0 (x+1)=⟨st.out++[(k:Int)],st.bel.set x ps[k].North,ps[k].East⟩:=by rw [zGe,hst];unfold zWn;rw [hf,xDo,xDl hk]
theorem yEi {ps:List Piece}{st0 st:RunS}{x k:Nat}(hst:zIl ps st0 x=st)(hf:yB0 ps (st.bel.getD x 0) st.west=(k:Int)):zJv ps (zIl ps st0 x) x=true:=by rw [hst];unfold zJv;rw [hf,decide_eq_true_eq];omega
theorem yAu {ps:List Piece}{st0 st:RunS}{x:Nat}(hst:zIl ps st0 x=st)(hf:yB0 ps (st.bel.getD x 0) st.west = -1):zJv ps (zIl ps st0 x) x=false:=by rw [hst];unfold zJv;rw [hf];rfl
theorem yEf {d:Design}(h:zC2 d=true){y x:Nat}(hx:x≤d.Bottom.length):(zIl d.Pieces (zCk d y) x).out.length≤110:=by have h1:=zTx d.Pieces (zCk d y) x;have h2:(zCk d y).out.length≤100:=zVf h;have:=(zA8 h).1;omega
theorem zWy {d:Design}{y:Nat}(hy:y<d.Left.length):(zCk d y).west=d.Left[y]:=by unfold zCk;rw [xDt,xDl hy];rfl
theorem getD_at {xs:List Int}{k:Nat}(h:k<xs.length):xs[k]?=some (xs.getD k 0):=by rw [xDt,xDl h];rfl
def code_impl_RunDesign:VCode:=(.seq (.ops [
  ⟨some 1,none,.box (.tmp 0)⟩,
  ⟨some 2,none,.asg (.const (.slice none 0 0))⟩,
  ⟨some 3,none,.asg (.const (.int .i64 0))⟩]) (.seq (.seq (.ops [
  ⟨some 12,none,.load 3 true (.tmp 1)⟩,
  ⟨some 13,none,.callX 27 [(.tmp 12)]⟩,
  ⟨some 14,none,.un .not (.tmp 13)⟩]) (.cond (.tmp 14) (.seq (.ops [
  ⟨some 2,none,.asg (.const (.slice none 0 0))⟩,
  ⟨some 3,none,.asg (.const (.int .i64 1))⟩]) .ret) .skip)) (.seq (.ops [
  ⟨some 15,none,.fa 2 (.tmp 1)⟩,
  ⟨some 16,none,.load 1 false (.tmp 15)⟩,
  ⟨some 17,none,.callX 66 [(.tmp 16)]⟩,
  ⟨some 4,none,.asg (.tmp 17)⟩]) (.seq (.ops [
  ⟨some 18,none,.fa 0 (.tmp 1)⟩,
  ⟨some 19,none,.load 1 false (.tmp 18)⟩,
  ⟨some 20,none,.callX 69 [(.tmp 19)]⟩,
  ⟨some 5,none,.asg (.tmp 20)⟩]) (.seq (.ops [
  ⟨some 6,none,.asg (.const (.slice none 0 0))⟩]) (.seq (.seq (.ops [
  ⟨some 21,none,.fa 1 (.tmp 1)⟩,
  ⟨some 22,none,.load 1 false (.tmp 21)⟩,
  ⟨some 23,none,.len (.tmp 22)⟩,
  ⟨some 24,none,.mv (.const (.int .i64 0))⟩]) (.block 0 (.loop (mB 68 0xffffcbffffe007f8d) (.seq (.ops [
  ⟨some 25,none,.bin .lss (.tmp 24) (.tmp 23)⟩]) (.seq (.cond (.tmp 25) .skip (.exit 0)) (.seq (.block 1 (.seq (.ops [
  ⟨some 26,none,.ia 1 (.tmp 22) (.tmp 24)⟩,
  ⟨some 27,none,.load 1 false (.tmp 26)⟩,
  ⟨some 8,none,.asg (.tmp 27)⟩]) (.seq (.ops [
  ⟨some 28,none,.mv (.tmp 5)⟩,
  ⟨some 29,none,.len (.tmp 28)⟩,
  ⟨some 30,none,.mv (.const (.int .i64 0))⟩]) (.block 2 (.loop (mB 68 0xffffcbfff9e007e8d) (.seq (.ops [
  ⟨some 31,none,.bin .lss (.tmp 30) (.tmp 29)⟩]) (.seq (.cond (.tmp 31) .skip (.exit 2)) (.seq (.block 3 (.seq (.ops [
  ⟨some 32,none,.mv (.tmp 30)⟩,
  ⟨some 9,none,.asg (.tmp 32)⟩]) (.seq (.ops [
  ⟨some 34,none,.mv (.tmp 4)⟩,
  ⟨some 35,none,.mv (.tmp 5)⟩,
  ⟨some 36,none,.mv (.tmp 9)⟩,
  ⟨some 37,none,.ia 1 (.tmp 35) (.tmp 36)⟩,
  ⟨some 38,none,.load 1 false (.tmp 37)⟩,
  ⟨some 39,none,.mv (.tmp 8)⟩,
  ⟨some 40,none,.build [(.int .i64 0),(.int .i64 0)] [(0,1,(.tmp 38)),(1,1,(.tmp 39))]⟩,
  ⟨some 41,none,.mlk (.flat [1,1]) (.int .i64 0) true (.tmp 34) (.tmp 40)⟩,
  ⟨some 33,none,.mv (.tmp 41)⟩,
  ⟨some 42,none,.ext (.tmp 33) 0⟩,
  ⟨some 43,none,.ext (.tmp 33) 1⟩,
  ⟨some 10,none,.asg (.tmp 42)⟩,
  ⟨some 11,none,.asg (.tmp 43)⟩]) (.seq (.seq (.ops [
  ⟨some 44,none,.mv (.tmp 11)⟩,
  ⟨some 45,none,.un .not (.tmp 44)⟩]) (.cond (.tmp 45) (.seq (.ops [
  ⟨some 2,none,.asg (.const (.slice none 0 0))⟩,
  ⟨some 3,none,.asg (.const (.int .i64 3))⟩]) .ret) .skip)) (.seq (.ops [
  ⟨some 46,none,.mv (.tmp 6)⟩,
  ⟨some 47,none,.mv (.tmp 10)⟩,
  ⟨some 48,none,.bsl 1 [(.tmp 47)]⟩,
  ⟨some 49,none,.app 1 8 (.tmp 46) (.tmp 48)⟩,
  ⟨some 6,none,.asg (.tmp 49)⟩]) (.draw (mB 64 0xfffc000000000000) [] [⟨0,mB 64 0xfffc000000000000,[],⟨some 50,none,.mv (.tmp 5)⟩⟩,⟨1,mB 64 0xfffc000000000000,[],⟨some 51,none,.mv (.tmp 9)⟩⟩,⟨2,mB 64 0xfffc000000000000,[],⟨some 52,none,.fa 2 (.tmp 1)⟩⟩,⟨3,mB 64 0xffec000000000000,[],⟨some 53,none,.load 1 false (.tmp 52)⟩⟩,⟨4,mB 64 0xfffc000000000000,[],⟨some 54,none,.mv (.tmp 10)⟩⟩,⟨5,mB 64 0xff8c000000000000,[],⟨some 55,none,.ia 5 (.tmp 53) (.tmp 54)⟩⟩,⟨6,mB 64 0xff0c000000000000,[],⟨some 56,none,.fa 1 (.tmp 55)⟩⟩,⟨7,mB 64 0xfe0c000000000000,[],⟨some 57,none,.load 1 false (.tmp 56)⟩⟩,⟨8,mB 64 0xfffc000000000000,[],⟨some 58,none,.fa 2 (.tmp 1)⟩⟩,⟨9,mB 64 0xfbfc000000000000,[],⟨some 59,none,.load 1 false (.tmp 58)⟩⟩,⟨10,mB 64 0xfffc000000000000,[],⟨some 60,none,.mv (.tmp 10)⟩⟩,⟨11,mB 64 0xe3fc000000000000,[],⟨some 61,none,.ia 5 (.tmp 59) (.tmp 60)⟩⟩,⟨12,mB 64 0xc3fc000000000000,[],⟨some 62,none,.fa 2 (.tmp 61)⟩⟩,⟨13,mB 64 0x83fc000000000000,[],⟨some 63,none,.load 1 false (.tmp 62)⟩⟩] [⟨some 64,none,.ia 1 (.tmp 50) (.tmp 51)⟩,⟨none,none,.store 1 (.tmp 64) (.tmp 57)⟩,⟨some 8,none,.asg (.tmp 63)⟩])))))) (.ops [
  ⟨some 65,none,.bin .add (.tmp 30) (.const (.int .i64 1))⟩,
  ⟨some 30,none,.mv (.tmp 65)⟩]))))))))) (.ops [
  ⟨some 66,none,.bin .add (.tmp 24) (.const (.int .i64 1))⟩,
  ⟨some 24,none,.mv (.tmp 66)⟩]))))))) (.seq (.ops [
  ⟨some 67,none,.mv (.tmp 6)⟩,
  ⟨some 2,none,.asg (.tmp 67)⟩,
  ⟨some 3,none,.asg (.const (.int .i64 0))⟩]) .ret)))))))
theorem zM5 {a0 d:D}(h:code_impl_RunDesign.wp (CT Try.prog NoG) (zG3 [(.t 2),(.t 3)] d) [a0,.undef,.undef,.undef,.undef,.undef,.undef,.undef,.undef,.undef,.undef,.undef,.undef,.undef,.undef,.undef,.undef,.undef,.undef,.undef,.undef,.undef,.undef,.undef,.undef,.undef,.undef,.undef,.undef,.undef,.undef,.undef,.undef,.undef,.undef,.undef,.undef,.undef,.undef,.undef,.undef,.undef,.undef,.undef,.undef,.undef,.undef,.undef,.undef,.undef,.undef,.undef,.undef,.undef,.undef,.undef,.undef,.undef,.undef,.undef,.undef,.undef,.undef,.undef,.undef,.undef,.undef,.undef]):Contract Try.prog NoG 36 [a0] d :=
  zAt (pt:=0) noG Try.func36 (fun us W=>by kernel_rfl) (c:=Try.f36.body.getD .skip) (ms:=[(mB 68 0xffffcbffffe007f8d),(mB 68 0xffffcbfff9e007e8d)]) (ms':=[]) (by kernel_rfl) (by kernel_rfl) (by kernel_rfl) h
set_option maxHeartbeats 8000000 in
theorem zIk (d:Design) (hd:dsnB d):Contract Try.prog NoG 36 [.agg (Design.td.d false d)] (.tup [.sl true 1 ((zC1 d).map rI),.v (.int .i64 (zCt d))]):=by
  rw [Design.td_d];refine zM5 ?_;unfold code_impl_RunDesign;simp -implicitDefEqProofs (disch:=omega) only [go_sem,↓reduceIte];cases hok:zC2 d with
  | false=>have r1:zC1 d=[]:=(by unfold zC1;rw [hok];rfl);have r2:zCt d=1:=(by unfold zCt;rw [hok];rfl);rw [r1,r2];refine zAs (zF7 d hd) (by simp -implicitDefEqProofs (disch:=omega) only [go_sem,↓reduceIte,deep,TD.rows,zAf,zAc,zAg,zAb,zAd,zAa,hok];exact rfl) ?_;simp -implicitDefEqProofs (disch:=omega) only [go_sem,↓reduceIte ,hok]
  | true =>
  obtain ⟨⟨b1,b2⟩,⟨l1,l2⟩,hp,_,hnd,_,_⟩:=zA8 hok;have r1:zC1 d=if zF2 d then zJ7 d else []:=by unfold zC1;rw [hok];rfl
  have r2:zCt d=if zF2 d then 0 else 3:=by unfold zCt;rw [hok];rfl
  rw [r1,r2];refine zAs (zF7 d hd) (by simp -implicitDefEqProofs (disch:=omega) only [go_sem,↓reduceIte,deep,TD.rows,zAf,zAc,zAg,zAb,zAd,zAa,hok];exact rfl) ?_;simp -implicitDefEqProofs (disch:=omega) only [go_sem,↓reduceIte ,hok];have hH:∀ (s w:Int) (k:Nat) (hk:k<d.Pieces.length),kkP d.Pieces[k]=(s,w)→zXh (yCo (zPx d.Pieces)) (.agg #[.int .i64 s,.int .i64 w])=some (.int .i64 (k:Nat)):=fun s w k hk h=>yS7 hnd hk h;have hM:∀ (s w:Int),(∀ p,p∈d.Pieces→kkP p≠(s,w))→zXh (yCo (zPx d.Pieces)) (.agg #[.int .i64 s,.int .i64 w])=none:=fun s w h=>yMh hnd h;have hC:=zU2 d.Pieces (by omega)
  generalize yCo (zPx d.Pieces)=M at hH hM hC;refine zAs (hC) (by simp -implicitDefEqProofs (disch:=omega) only [go_sem,↓reduceIte,deep,TD.rows,zAf,zAc,zAg,zAb,zAd,zAa];exact rfl) ?_;simp -implicitDefEqProofs (disch:=omega) only [go_sem,↓reduceIte];refine zAs (zTp d.Bottom (by omega)) (by simp -implicitDefEqProofs (disch:=omega) only [go_sem,↓reduceIte,deep,TD.rows,zAf,zAc,zAg,zAb,zAd,zAa,xDj];exact rfl) ?_;simp -implicitDefEqProofs (disch:=omega) only [go_sem,↓reduceIte ,xDj];refine zB5 (by simp -implicitDefEqProofs (disch:=omega) only [go_sem,↓reduceIte];exact rfl) (fun y:Nat=>[(5,.sl true 1 ((zG5 d y).bel.map rI)),(6,.sl true 1 ((zG5 d y).out.map rI)),(24,.v (.int .i64 (y:Nat)))]) (fun _=>by simp only [zB0,zBe,xDv,xDz];exact rfl) (fun y:Nat=>y≤d.Left.length∧∀ j,j<y→zQx d.Pieces (zCk d j) d.Bottom.length=true) (fun y:Nat=>d.Left.length-y) (0) (zEx) (?_) ?_
  · exact ⟨xE9 _,fun j hj=>absurd hj (by omega)⟩
  rintro y ⟨hy,hrows⟩;simp -implicitDefEqProofs (disch:=omega) only [go_sem,↓reduceIte ,xDj,xDo,xD3,xDp,xDm,xDk];refine zAu ?_ ?_<;>intro hlt
  · have hlt:y<d.Left.length:=(by simpa using hlt);have e1:=xDl hlt;have hw:=zWy hlt;have hbl:=zVg d y;simp -implicitDefEqProofs (disch:=omega) only [go_sem,↓reduceIte ,xDj,xDo,xD3,xDp,xDm,xDk,hlt,e1,rI,hbl];refine zB5 (by simp -implicitDefEqProofs (disch:=omega) only [go_sem,↓reduceIte];exact rfl) (fun x:Nat=>[(5,.sl true 1 ((zIl d.Pieces (zCk d y) x).bel.map rI)),(6,.sl true 1 ((zIl d.Pieces (zCk d y) x).out.map rI)),(8,.v (.int .i64 (zIl d.Pieces (zCk d y) x).west)),(30,.v (.int .i64 (x:Nat)))]) (fun _=>by simp only [zB0,zBe,xDv,xDz];exact rfl) (fun x:Nat=>x≤d.Bottom.length∧∀ j,j<x→zJv d.Pieces (zIl d.Pieces (zCk d y) j) j=true) (fun x:Nat=>d.Bottom.length-x) (0) (by rw [show (zIl d.Pieces (zCk d y) 0).west=d.Left[y] from hw];(try simp -implicitDefEqProofs only [zCz,zCy,zB6,zB8,zB9,zB7,and_self,and_true,true_and])<;>repeat' (first | exact zBr rfl | exact zCu | apply And.intro | apply zD3 | apply zBb | apply zBl | exact zB1 | exact zBs | apply zCv | apply zCw)) (?_) ?_
    · exact ⟨xE9 _,fun j hj=>absurd hj (by omega)⟩
    rintro x ⟨hx,hcells⟩;have hxb:(zIl d.Pieces (zCk d y) x).bel.length=d.Bottom.length:=by rw [zTy,yAs]
    have hol:=yEf hok (y:=y) hx;obtain ⟨st,hst⟩:∃ st,zIl d.Pieces (zCk d y) x=st:=⟨_,rfl⟩
    rw [hst] at hxb hol;rw [hst];simp -implicitDefEqProofs (disch:=omega) only [go_sem,↓reduceIte ,xDj,xDo,xD3,xDp,xDm,xDk,hxb];refine zAu ?_ ?_<;>intro hlx
    · have hlx:x<d.Bottom.length:=(by simpa using hlx);have e2:=getD_at (xs:=st.bel) (k:=x) (by omega)
      rcases zJr d.Pieces (st.bel.getD x 0) st.west with ⟨hf,hmiss⟩ | ⟨k,hk,hf,hkk⟩
      · have hno:zF2 d=false:=zYr hlt (zYr hlx (yAu hst hf));have hg:=hM _ _ hmiss;rw [hno,if_neg (by decide),if_neg (by decide)];simp -implicitDefEqProofs (disch:=omega) only [go_sem,↓reduceIte ,xDj,xDo,xD3,xDp,xDm,xDk,hxb,hlx,e2,rI,hg]
      · have hnx:=yJ2 hst hk hf;have hok1:=yEi hst hf;have e3:=xDl hk;have hg:=hH _ _ k hk hkk;have hs1:st.out.map rI++[[.v (.int .i64 (k:Int))]]=(st.out++[(k:Int)]).map rI:=(by rw [xEz];rfl);have hs2:(st.bel.map rI).set x [.v (.int .i64 d.Pieces[k].North)]=(st.bel.set x d.Pieces[k].North).map rI:=(by rw [xJc]);have hall:∀ j,j<x+1→zJv d.Pieces (zIl d.Pieces (zCk d y) j) j=true:=fun j hj=>by
          rcases xGx.1 hj with h1 | rfl
          · exact hcells j h1
          · exact hok1
        simp -implicitDefEqProofs (disch:=omega) only [go_sem,↓reduceIte ,xDj,xDo,xD3,xDp,xDm,xDk,hxb,hlx,e2,rI,hg,hk,e3,Piece.td_d,hs1,hs2,wrN]
        repeat (refine And.intro (by omega) ?_)
        exact ⟨x+1,by omega,⟨hlx,hall⟩,by rw [hnx];(try simp -implicitDefEqProofs only [zCz,zCy,zB6,zB8,zB9,zB7,and_self,and_true,true_and])<;>repeat' (first | exact zBr rfl | exact zCu | apply And.intro | apply zD3 | apply zBb | apply zBl | exact zB1 | exact zBs | apply zCv | apply zCw)⟩
    · have hxe:x=d.Bottom.length:=(by have:¬ x<d.Bottom.length:=(by simpa using hlx);omega);subst hxe;have hyn:=zJi hlt;rw [hst] at hyn;have hr:∀ j,j<y+1→zQx d.Pieces (zCk d j) d.Bottom.length=true:=fun j hj=>by
        rcases xGx.1 hj with h1 | rfl
        · exact hrows j h1
        · unfold zQx;rw [xEh];exact fun z hz=>hcells z (by simpa using hz)
      simp -implicitDefEqProofs (disch:=omega) only [go_sem,↓reduceIte ,wrN];exact ⟨y+1,by omega,⟨hlt,hr⟩,by rw [hyn];(try simp -implicitDefEqProofs only [zCz,zCy,zB6,zB8,zB9,zB7,and_self,and_true,true_and])<;>repeat' (first | exact zBr rfl | exact zCu | apply And.intro | apply zD3 | apply zBb | apply zBl | exact zB1 | exact zBs | apply zCv | apply zCw)⟩
  · have hye:y=d.Left.length:=(by have:¬ y<d.Left.length:=(by simpa using hlt);omega);subst hye;have hyes:zF2 d=true:=(by unfold zF2;rw [xEh];exact fun z hz=>hrows z (by simpa using hz));rw [hyes,if_pos rfl,if_pos rfl];simp -implicitDefEqProofs (disch:=omega) only [go_sem,↓reduceIte ,zJ7]
end Go.Proofs.Ytaleehohmpohoaa
