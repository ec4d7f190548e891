/- Laws that the proof stands on. -/
import Derived.Test.YtaleehohmpohoaaZg20
import Derived.Test.YtaleehohmpohoaaZg21
import Derived.Test.YtaleehohmpohoaaZg14
import Derived.Test.YtaleehohmpohoaaZg23
set_option linter.all false
namespace Go.Proofs.Ytaleehohmpohoaa
open Go.RowKit Go.V
attribute [local go_sem] xD4 xDy xDz xDv xDu xEb xD9 xEn xEa xFu xEi xE3 xEc xFd xEv xE2 xD7 xEd xEk xFg Value.oneCell' xFf xEy xFh xFl xFm xDw xD5 and_true true_and beq_self_eq_true xDr if_true if_false xEm Nat.reduceAdd Nat.reduceMul Nat.reduceLeDiff xD8 xEu xEt not_true_eq_false not_false_eq_true ne_eq reduceCtorEq xE1 bne_self_eq_false Nat.reduceEqDiff List.isPrefixOf xEs xFe xE0 xFt xFi decide_true decide_false Nat.reduceBEq Nat.reduceBNe xEl xEr exists_eq_left' exists_eq_left xDi or_false or_true true_or false_or xDk xFa mB Nat.reduceMod Nat.reduceDiv
set_option maxRecDepth 100000
def yCc (d:Design)(ks:List Int):List Int:=ks.map fun k=>(gP d.Pieces k).Color
def zN8 (d:Design):Pattern:=if zCt d=0 then ⟨d.Bottom.length,d.Left.length,yCc d (zC1 d)⟩ else ⟨0,0,[]⟩
theorem xB3 {ps:List Piece}{i:Nat}(h:i<ps.length):gP ps (i:Int)=ps[i]:=by unfold gP;rw [xDo,xDt,xDl h];rfl
def code_impl_PaintOf:VCode:=(.seq (.ops [
  ⟨some 1,none,.box (.tmp 0)⟩,
  ⟨some 2,none,.alloc [(.int .i64 0),(.int .i64 0),(.slice none 0 0)]⟩,
  ⟨some 3,none,.asg (.const (.int .i64 0))⟩]) (.seq (.ops [
  ⟨some 10,none,.load 3 true (.tmp 1)⟩,
  ⟨some 11,none,.callX 36 [(.tmp 10)]⟩,
  ⟨some 9,none,.mv (.tmp 11)⟩,
  ⟨some 12,none,.ext (.tmp 9) 0⟩,
  ⟨some 13,none,.ext (.tmp 9) 1⟩,
  ⟨some 4,none,.asg (.tmp 12)⟩,
  ⟨some 5,none,.asg (.tmp 13)⟩]) (.seq (.seq (.ops [
  ⟨some 14,none,.mv (.tmp 5)⟩,
  ⟨some 15,none,.bin .neq (.tmp 14) (.const (.int .i64 0))⟩]) (.cond (.tmp 15) (.seq (.ops [
  ⟨some 16,none,.build [(.int .i64 0),(.int .i64 0),(.slice none 0 0)] []⟩,
  ⟨some 17,none,.mv (.tmp 5)⟩,
  ⟨none,none,.store 3 (.tmp 2) (.tmp 16)⟩,
  ⟨some 3,none,.asg (.tmp 17)⟩]) .ret) .skip)) (.seq (.ops [
  ⟨some 18,none,.fa 0 (.tmp 1)⟩,
  ⟨some 19,none,.load 1 false (.tmp 18)⟩,
  ⟨some 20,none,.len (.tmp 19)⟩,
  ⟨some 21,none,.fa 1 (.tmp 1)⟩,
  ⟨some 22,none,.load 1 false (.tmp 21)⟩,
  ⟨some 23,none,.len (.tmp 22)⟩,
  ⟨some 24,none,.build [(.int .i64 0),(.int .i64 0),(.slice none 0 0)] [(0,1,(.tmp 20)),(1,1,(.tmp 23))]⟩,
  ⟨some 6,none,.alloc [(.int .i64 0),(.int .i64 0),(.slice none 0 0)]⟩,
  ⟨none,none,.store 3 (.tmp 6) (.tmp 24)⟩]) (.seq (.seq (.ops [
  ⟨some 25,none,.mv (.tmp 4)⟩,
  ⟨some 26,none,.len (.tmp 25)⟩,
  ⟨some 27,none,.mv (.const (.int .i64 0))⟩]) (.block 0 (.loop (mB 44 17591951155625) (.seq (.ops [
  ⟨some 28,none,.bin .lss (.tmp 27) (.tmp 26)⟩]) (.seq (.cond (.tmp 28) .skip (.exit 0)) (.seq (.block 1 (.seq (.ops [
  ⟨some 29,none,.ia 1 (.tmp 25) (.tmp 27)⟩,
  ⟨some 30,none,.load 1 false (.tmp 29)⟩,
  ⟨some 8,none,.asg (.tmp 30)⟩]) (.draw (mB 40 1097364144128) (mB 39 274877906944) [⟨0,mB 40 1097364144128,[],⟨some 31,none,.fa 2 (.tmp 6)⟩⟩,⟨1,mB 40 1095216660480,[],⟨some 32,none,.load 1 false (.tmp 31)⟩⟩,⟨2,mB 40 1097364144128,[],⟨some 33,none,.fa 2 (.tmp 1)⟩⟩,⟨3,mB 40 1088774209536,[],⟨some 34,none,.load 1 false (.tmp 33)⟩⟩,⟨4,mB 40 1097364144128,[],⟨some 35,none,.mv (.tmp 8)⟩⟩,⟨5,mB 40 1037234601984,[],⟨some 36,none,.ia 5 (.tmp 34) (.tmp 35)⟩⟩,⟨6,mB 40 968515125248,[],⟨some 37,none,.fa 0 (.tmp 36)⟩⟩,⟨7,mB 40 831076171776,[],⟨some 38,none,.load 1 false (.tmp 37)⟩⟩,⟨8,mB 40 556198264832,(mB 39 274877906944),⟨some 39,none,.bslN 1 [(.tmp 38)]⟩⟩] [⟨some 40,none,.app 1 8 (.tmp 32) (.tmp 39)⟩,⟨some 41,none,.fa 2 (.tmp 6)⟩,⟨none,none,.store 1 (.tmp 41) (.tmp 40)⟩]))) (.ops [
  ⟨some 42,none,.bin .add (.tmp 27) (.const (.int .i64 1))⟩,
  ⟨some 27,none,.mv (.tmp 42)⟩]))))))) (.seq (.ops [
  ⟨some 43,none,.load 3 true (.tmp 6)⟩,
  ⟨none,none,.store 3 (.tmp 2) (.tmp 43)⟩,
  ⟨some 3,none,.asg (.const (.int .i64 0))⟩]) .ret))))))
theorem zPp {a0 d:D}(h:code_impl_PaintOf.wp (CT Try.prog NoG) (zG3 [(.c 2 3 true),(.t 3)] d) [a0,.undef,.undef,.undef,.undef,.undef,.undef,.undef,.undef,.undef,.undef,.undef,.undef,.undef,.undef,.undef,.undef,.undef,.undef,.undef,.undef,.undef,.undef,.undef,.undef,.undef,.undef,.undef,.undef,.undef,.undef,.undef,.undef,.undef,.undef,.undef,.undef,.undef,.undef,.undef,.undef,.undef,.undef,.undef]):Contract Try.prog NoG 25 [a0] d :=
  zAt (pt:=0) noG Try.func25 (fun us W=>by kernel_rfl) (c:=Try.f25.body.getD .skip) (ms:=[(mB 44 17591951155625)]) (ms':=[]) (by kernel_rfl) (by kernel_rfl) (by kernel_rfl) h
def code_spec_l00Same:VCode:=(.seq (.ops [
  ⟨some 4,none,.asg (.const (.bool false))⟩]) (.seq (.seq (.ops [
  ⟨some 6,none,.mv (.tmp 0)⟩,
  ⟨some 7,none,.len (.tmp 6)⟩,
  ⟨some 8,none,.mv (.tmp 1)⟩,
  ⟨some 9,none,.len (.tmp 8)⟩,
  ⟨some 10,none,.bin .neq (.tmp 7) (.tmp 9)⟩]) (.cond (.tmp 10) (.seq (.ops [
  ⟨some 4,none,.asg (.const (.bool false))⟩]) .ret) .skip)) (.seq (.seq (.ops [
  ⟨some 5,none,.asg (.const (.int .i64 0))⟩]) (.block 0 (.loop (mB 26 67108828) (.seq (.seq (.ops [
  ⟨some 11,none,.mv (.tmp 5)⟩,
  ⟨some 12,none,.mv (.tmp 0)⟩,
  ⟨some 13,none,.len (.tmp 12)⟩,
  ⟨some 14,none,.bin .lss (.tmp 11) (.tmp 13)⟩]) (.cond (.tmp 14) .skip (.exit 0))) (.seq (.block 1 (.seq (.draw (mB 25 33423360) [] [⟨0,mB 25 33423360,[],⟨some 17,none,.mv (.tmp 0)⟩⟩,⟨1,mB 25 33423360,[],⟨some 18,none,.mv (.tmp 5)⟩⟩,⟨2,mB 25 33030144,[],⟨some 19,none,.ia 1 (.tmp 17) (.tmp 18)⟩⟩,⟨3,mB 25 32505856,[],⟨some 20,none,.load 1 false (.tmp 19)⟩⟩,⟨4,mB 25 33423360,[],⟨some 21,none,.mv (.tmp 1)⟩⟩,⟨5,mB 25 33423360,[],⟨some 22,none,.mv (.tmp 5)⟩⟩,⟨6,mB 25 27131904,[],⟨some 23,none,.ia 1 (.tmp 21) (.tmp 22)⟩⟩,⟨7,mB 25 18743296,[],⟨some 24,none,.load 1 false (.tmp 23)⟩⟩] [⟨some 25,none,.bin .neq (.tmp 20) (.tmp 24)⟩]) (.cond (.tmp 25) (.seq (.ops [
  ⟨some 4,none,.asg (.const (.bool false))⟩]) .ret) .skip))) (.ops [
  ⟨some 15,none,.mv (.tmp 5)⟩,
  ⟨some 16,none,.bin .add (.tmp 15) (.const (.int .i64 1))⟩,
  ⟨some 5,none,.asg (.tmp 16)⟩])))))) (.seq (.ops [
  ⟨some 4,none,.asg (.const (.bool true))⟩]) .ret))))
theorem zPj {a0 a1 d:D}(h:code_spec_l00Same.wp (CT Try.prog NoG) (zG3 [(.t 4)] d) [a0,a1,.undef,.undef,.undef,.undef,.undef,.undef,.undef,.undef,.undef,.undef,.undef,.undef,.undef,.undef,.undef,.undef,.undef,.undef,.undef,.undef,.undef,.undef,.undef,.undef]):Contract Try.prog NoG 85 [a0,a1] d :=
  zAt (pt:=0) noG Try.func85 (fun us W=>by kernel_rfl) (c:=Try.f85.body.getD .skip) (ms:=[(mB 26 67108828)]) (ms':=[]) (by kernel_rfl) (by kernel_rfl) (by kernel_rfl) h
def code_spec_l33Same:VCode:=(.seq (.ops [
  ⟨some 4,none,.asg (.const (.bool false))⟩]) (.seq (.seq (.draw (mB 39 549755813824) [] [⟨0,mB 39 549755813824,[],⟨some 6,none,.mv (.tmp 0)⟩⟩,⟨1,mB 39 549755813760,[],⟨some 7,none,.nilc (.tmp 6)⟩⟩,⟨2,mB 39 549755813632,[],⟨some 8,none,.fa 0 (.tmp 7)⟩⟩,⟨3,mB 39 549755813376,[],⟨some 9,none,.load 1 false (.tmp 8)⟩⟩,⟨4,mB 39 549755813824,[],⟨some 10,none,.mv (.tmp 1)⟩⟩,⟨5,mB 39 549755812800,[],⟨some 11,none,.nilc (.tmp 10)⟩⟩,⟨6,mB 39 549755810752,[],⟨some 12,none,.fa 0 (.tmp 11)⟩⟩,⟨7,mB 39 549755806656,[],⟨some 13,none,.load 1 false (.tmp 12)⟩⟩,⟨8,mB 39 549755797504,[],⟨some 14,none,.call 85 [(.tmp 9),(.tmp 13)]⟩⟩,⟨9,mB 39 549755781120,[],⟨some 15,none,.un .not (.tmp 14)⟩⟩,⟨10,mB 39 549755748352,[],⟨some 16,none,.mv (.tmp 15)⟩⟩,⟨11,mB 39 549755682816,[],⟨some 17,some (16,false),.mv (.tmp 0)⟩⟩,⟨12,mB 39 549755551744,[],⟨some 18,some (16,false),.nilc (.tmp 17)⟩⟩,⟨13,mB 39 549755289600,[],⟨some 19,some (16,false),.fa 1 (.tmp 18)⟩⟩,⟨14,mB 39 549754765312,[],⟨some 20,some (16,false),.load 1 false (.tmp 19)⟩⟩,⟨15,mB 39 549755682816,[],⟨some 21,some (16,false),.mv (.tmp 1)⟩⟩,⟨16,mB 39 549753585664,[],⟨some 22,some (16,false),.nilc (.tmp 21)⟩⟩,⟨17,mB 39 549749391360,[],⟨some 23,some (16,false),.fa 1 (.tmp 22)⟩⟩,⟨18,mB 39 549741002752,[],⟨some 24,some (16,false),.load 1 false (.tmp 23)⟩⟩,⟨19,mB 39 549722259456,[],⟨some 25,some (16,false),.call 85 [(.tmp 20),(.tmp 24)]⟩⟩,⟨20,mB 39 549688705024,[],⟨some 26,some (16,false),.un .not (.tmp 25)⟩⟩,⟨21,mB 39 549621596160,[],⟨some 27,none,.pick (.tmp 16) (.const (.bool true)) (.tmp 26)⟩⟩,⟨22,mB 39 549487378432,[],⟨some 28,none,.mv (.tmp 27)⟩⟩,⟨23,mB 39 549218942976,[],⟨some 29,some (28,false),.mv (.tmp 0)⟩⟩,⟨24,mB 39 548682072064,[],⟨some 30,some (28,false),.nilc (.tmp 29)⟩⟩,⟨25,mB 39 547608330240,[],⟨some 31,some (28,false),.fa 2 (.tmp 30)⟩⟩,⟨26,mB 39 545460846592,[],⟨some 32,some (28,false),.load 1 false (.tmp 31)⟩⟩,⟨27,mB 39 541165879296,[],⟨some 33,some (28,false),.len (.tmp 32)⟩⟩,⟨28,mB 39 549218942976,[],⟨some 34,some (28,false),.mv (.tmp 1)⟩⟩,⟨29,mB 39 532039073792,[],⟨some 35,some (28,false),.nilc (.tmp 34)⟩⟩,⟨30,mB 39 497679335424,[],⟨some 36,some (28,false),.fa 2 (.tmp 35)⟩⟩,⟨31,mB 39 428959858688,[],⟨some 37,some (28,false),.load 1 false (.tmp 36)⟩⟩,⟨32,mB 39 291520905216,[],⟨some 38,some (28,false),.len (.tmp 37)⟩⟩] [⟨some 39,some (28,false),.bin .neq (.tmp 33) (.tmp 38)⟩,⟨some 40,none,.pick (.tmp 28) (.const (.bool true)) (.tmp 39)⟩]) (.cond (.tmp 40) (.seq (.ops [
  ⟨some 4,none,.asg (.const (.bool false))⟩]) .ret) .skip)) (.seq (.seq (.ops [
  ⟨some 5,none,.asg (.const (.int .i64 0))⟩]) (.block 0 (.loop (mB 65 0x1ffffffffffffffdc) (.seq (.seq (.ops [
  ⟨some 41,none,.mv (.tmp 5)⟩,
  ⟨some 42,none,.mv (.tmp 0)⟩,
  ⟨some 43,none,.nilc (.tmp 42)⟩,
  ⟨some 44,none,.fa 2 (.tmp 43)⟩,
  ⟨some 45,none,.load 1 false (.tmp 44)⟩,
  ⟨some 46,none,.len (.tmp 45)⟩,
  ⟨some 47,none,.bin .lss (.tmp 41) (.tmp 46)⟩]) (.cond (.tmp 47) .skip (.exit 0))) (.seq (.block 1 (.seq (.draw (mB 64 0xfffc000000000000) [] [⟨0,mB 64 0xfffc000000000000,[],⟨some 50,none,.mv (.tmp 0)⟩⟩,⟨1,mB 64 0xfff8000000000000,[],⟨some 51,none,.nilc (.tmp 50)⟩⟩,⟨2,mB 64 0xfff0000000000000,[],⟨some 52,none,.fa 2 (.tmp 51)⟩⟩,⟨3,mB 64 0xffe0000000000000,[],⟨some 53,none,.load 1 false (.tmp 52)⟩⟩,⟨4,mB 64 0xfffc000000000000,[],⟨some 54,none,.mv (.tmp 5)⟩⟩,⟨5,mB 64 0xff80000000000000,[],⟨some 55,none,.ia 5 (.tmp 53) (.tmp 54)⟩⟩,⟨6,mB 64 0xff00000000000000,[],⟨some 56,none,.load 5 true (.tmp 55)⟩⟩,⟨7,mB 64 0xfffc000000000000,[],⟨some 57,none,.mv (.tmp 1)⟩⟩,⟨8,mB 64 0xfdfc000000000000,[],⟨some 58,none,.nilc (.tmp 57)⟩⟩,⟨9,mB 64 0xf9fc000000000000,[],⟨some 59,none,.fa 2 (.tmp 58)⟩⟩,⟨10,mB 64 0xf1fc000000000000,[],⟨some 60,none,.load 1 false (.tmp 59)⟩⟩,⟨11,mB 64 0xfffc000000000000,[],⟨some 61,none,.mv (.tmp 5)⟩⟩,⟨12,mB 64 0xc1fc000000000000,[],⟨some 62,none,.ia 5 (.tmp 60) (.tmp 61)⟩⟩,⟨13,mB 64 0x81fc000000000000,[],⟨some 63,none,.load 5 true (.tmp 62)⟩⟩] [⟨some 64,none,.eqs true [1,1,1,1,1] (.tmp 56) (.tmp 63)⟩]) (.cond (.tmp 64) (.seq (.ops [
  ⟨some 4,none,.asg (.const (.bool false))⟩]) .ret) .skip))) (.ops [
  ⟨some 48,none,.mv (.tmp 5)⟩,
  ⟨some 49,none,.bin .add (.tmp 48) (.const (.int .i64 1))⟩,
  ⟨some 5,none,.asg (.tmp 49)⟩])))))) (.seq (.ops [
  ⟨some 4,none,.asg (.const (.bool true))⟩]) .ret))))
theorem zPh {a0 a1 d:D}(h:code_spec_l33Same.wp (CT Try.prog NoG) (zG3 [(.t 4)] d) [a0,a1,.undef,.undef,.undef,.undef,.undef,.undef,.undef,.undef,.undef,.undef,.undef,.undef,.undef,.undef,.undef,.undef,.undef,.undef,.undef,.undef,.undef,.undef,.undef,.undef,.undef,.undef,.undef,.undef,.undef,.undef,.undef,.undef,.undef,.undef,.undef,.undef,.undef,.undef,.undef,.undef,.undef,.undef,.undef,.undef,.undef,.undef,.undef,.undef,.undef,.undef,.undef,.undef,.undef,.undef,.undef,.undef,.undef,.undef,.undef,.undef,.undef,.undef,.undef]):Contract Try.prog NoG 59 [a0,a1] d :=
  zAt (pt:=0) noG Try.func59 (fun us W=>by kernel_rfl) (c:=Try.f59.body.getD .skip) (ms:=[(mB 65 0x1ffffffffffffffdc)]) (ms':=[]) (by kernel_rfl) (by kernel_rfl) (by kernel_rfl) h
def code_spec_SameDesign:VCode:=(.seq (.ops [
  ⟨some 2,none,.box (.tmp 0)⟩,
  ⟨some 3,none,.box (.tmp 1)⟩,
  ⟨some 4,none,.asg (.const (.bool false))⟩]) (.seq (.ops [
  ⟨some 5,none,.callX 59 [(.tmp 2),(.tmp 3)]⟩,
  ⟨some 4,none,.asg (.tmp 5)⟩]) .ret))
theorem zKg {a0 a1 d:D}(h:code_spec_SameDesign.wp (CT Try.prog NoG) (zG3 [(.t 4)] d) [a0,a1,.undef,.undef,.undef,.undef]):Contract Try.prog NoG 24 [a0,a1] d :=
  zAt (pt:=0) noG Try.func24 (fun us W=>by kernel_rfl) (c:=Try.f24.body.getD .skip) (ms:=[]) (ms':=[]) (by kernel_rfl) (by kernel_rfl) (by kernel_rfl) h
set_option maxHeartbeats 2000000 in
theorem zU4 (d:Design)(hd:dsnB d):Contract Try.prog NoG 25 [.agg (Design.td.d false d)] (.tup [.agg (Pattern.td.d true (zN8 d)),.v (.int .i64 (zCt d))]):=by
  rw [Design.td_d,Pattern.td_d];refine zPp ?_;unfold code_impl_PaintOf zN8;simp -implicitDefEqProofs (disch:=omega) only [go_sem,↓reduceIte];cases hc:decide (zCt d=0) with
  | false=>have h0:¬ zCt d=0:=(by simpa using hc);simp only [if_neg h0];refine zAs (zIk d hd) (by simp -implicitDefEqProofs (disch:=omega) only [go_sem,↓reduceIte,deep,TD.rows,zAf,zAc,zAg,zAb,zAd,zAa,hc];exact rfl) ?_;simp -implicitDefEqProofs (disch:=omega) only [go_sem,↓reduceIte ,hc]
  | true =>
    have h0:zCt d=0:=(by simpa using hc);simp only [if_pos h0];have hin:=zQt h0;have hl:=yAt d;have hC:=zIk d hd;generalize zC1 d=ks at hin hl hC;refine zAs (hC) (by simp -implicitDefEqProofs (disch:=omega) only [go_sem,↓reduceIte,deep,TD.rows,zAf,zAc,zAg,zAb,zAd,zAa,hc,xDj];exact rfl) ?_;simp -implicitDefEqProofs (disch:=omega) only [go_sem,↓reduceIte ,hc,xDj];refine zB5 (by simp -implicitDefEqProofs (disch:=omega) only [go_sem,↓reduceIte];exact rfl) (fun i:Nat=>[(27,.v (.int .i64 (i:Nat))),(6,.box none [.v (.int .i64 (d.Bottom.length:Nat)),.v (.int .i64 (d.Left.length:Nat)),.sl true 1 ((yCc d (ks.take i)).map rI)])]) (fun _=>by simp only [zB0,zBe,xDv,xDz];exact rfl) (fun i:Nat=>i≤ks.length) (fun i:Nat=>ks.length-i) (0) (by rw [show yCc d (ks.take 0)=[] from rfl,xEb];(try simp -implicitDefEqProofs only [zCz,zCy,zB6,zB8,zB9,zB7,and_self,and_true,true_and])<;>repeat' (first | exact zBr rfl | exact zCu | apply And.intro | apply zD3 | apply zBb | apply zBl | exact zB1 | exact zBs | apply zCv | apply zCw)) (xE9 _) ?_;intro i hi;simp -implicitDefEqProofs (disch:=omega) only [go_sem,↓reduceIte ,xDj,xDo,xD3,xDp,xDm,xDk];refine zAu ?_ ?_<;>intro hlt
    · have hlt:i<ks.length:=(by simpa using hlt);have e1:=xDl hlt;obtain ⟨n,hn',hnl⟩:∃ n:Nat,ks[i]=(n:Int)∧n<d.Pieces.length:=⟨ks[i].toNat,by have:=hin _ (xEo hlt);omega,by have:=hin _ (xEo hlt);omega⟩
      have e2:=xDl hnl;have hnx:yCc d (ks.take (i+1))=yCc d (ks.take i)++[d.Pieces[n].Color]:=(by unfold yCc;rw [xFb hlt,xEz,xDu,xEb,hn',xB3 hnl]);have hll:(yCc d (ks.take i)).length≤100:=(by unfold yCc;rw [xDj,xFy];omega);simp -implicitDefEqProofs (disch:=omega) only [go_sem,↓reduceIte ,xDj,xDo,xD3,xDp,xDm,xDk,hlt,e1,rI,hn',hnl,e2,Piece.td_d,xDj,wrN]
      trace_state
      refine ⟨by omega,i+1,by omega,hlt,?_⟩;rw [hnx]
      try simp only [xEz,xDu,xEb,rI]
      exact zEx
    · obtain rfl:i=ks.length:=(by have:¬ i<ks.length:=(by simpa using hlt);omega);simp -implicitDefEqProofs (disch:=omega) only [go_sem,↓reduceIte ,xF8,h0]
theorem yC0 (xs ys:List Int) (hl:xs.length≤1048576):Contract Try.prog NoG 85 [.sl false 1 (xs.map rI),.sl false 1 (ys.map rI)] (.v (.bool (decide (xs=ys)))):=by
  refine zPj ?_;unfold code_spec_l00Same;simp -implicitDefEqProofs (disch:=omega) only [go_sem,↓reduceIte ,xDj];refine zAu ?_ ?_<;>intro h
  · simp -implicitDefEqProofs (disch:=omega) only [go_sem,↓reduceIte];have:xs≠ys:=fun e=>by subst e;simp at h
    simp [this]
  · have hl:xs.length=ys.length:=(by simp at h;omega);simp -implicitDefEqProofs (disch:=omega) only [go_sem,↓reduceIte];refine zT8 (fun i:Nat=>[.sl false 1 (xs.map rI),.sl false 1 (ys.map rI),.undef,.undef,.undef,.v (.int .i64 i),.undef,.undef,.undef,.undef,.undef,.undef,.undef,.undef,.undef,.undef,.undef,.undef,.undef,.undef,.undef,.undef,.undef,.undef,.undef,.undef]) (fun i=>i≤xs.length∧xs.take i=ys.take i) (fun i=>xs.length-i) 0 (zEx) ⟨xE9 _,rfl⟩ ?_;rintro i ⟨hi,ht⟩;simp -implicitDefEqProofs (disch:=omega) only [go_sem,↓reduceIte ,xDj,xDo,xD3,xDp,xDm,xDk];refine zAu ?_ ?_<;>intro hlt
    · have h1:i<xs.length:=(by simpa using hlt);have h2:i<ys.length:=(by omega);have e1:=xDl h1;have e2:=xDl h2;simp -implicitDefEqProofs (disch:=omega) only [go_sem,↓reduceIte ,xDj,xDo,xD3,xDp,xDm,xDk,h1,h2,e1,e2];refine zAu ?_ ?_<;>intro hc
      · simp -implicitDefEqProofs (disch:=omega) only [go_sem,↓reduceIte];have hne:xs[i]≠ys[i]:=by simpa using hc
        have:xs≠ys:=fun e=>hne (by subst e;rfl);simp [this]
      · simp -implicitDefEqProofs (disch:=omega) only [go_sem,↓reduceIte ,wrN];have heq:xs[i]=ys[i]:=by simpa using hc
        refine ⟨i+1,by omega,⟨h1,?_⟩,zEx⟩;rw [xFb h1,xFb h2,ht,heq]
    · have hge:¬ i<xs.length:=(by simpa using hlt);simp -implicitDefEqProofs (disch:=omega) only [go_sem,↓reduceIte];have:xs=ys:=(by rw [xGd (by omega),xGd (by omega)] at ht;exact ht);simp [this]
theorem zQh (xs:List Int)(hl:xs.length≤1048576):Contract Try.prog NoG 85 [.sl false 1 (xs.map rI),.sl false 1 (xs.map rI)] (.v (.bool true)):=by have:=yC0 xs xs hl;rwa [decide_eq_true rfl] at this
set_option maxHeartbeats 2000000 in
theorem yCy (d:Design)(hd:dsnB d):Contract Try.prog NoG 59 [.iptr (Design.td.d false d) 0,.iptr (Design.td.d false d) 0] (.v (.bool true)):=by
  have hb:=zQh d.Bottom hd.b;have hl:=zQh d.Left hd.l;have hp:=hd.p;rw [Design.td_d];refine zPh ?_;unfold code_spec_l33Same;simp -implicitDefEqProofs (disch:=omega) only [go_sem,↓reduceIte];refine zJf (hb) (by simp -implicitDefEqProofs (disch:=omega) only [go_sem,↓reduceIte,deep,TD.rows,zAf,zAc,zAg,zAb,zAd,zAa];exact rfl) ?_;simp -implicitDefEqProofs (disch:=omega) only [go_sem,↓reduceIte];refine zJf (hl) (by simp -implicitDefEqProofs (disch:=omega) only [go_sem,↓reduceIte,deep,TD.rows,zAf,zAc,zAg,zAb,zAd,zAa,xDj];exact rfl) ?_;simp -implicitDefEqProofs (disch:=omega) only [go_sem,↓reduceIte ,xDj];refine zB5 (by simp -implicitDefEqProofs (disch:=omega) only [go_sem,↓reduceIte];exact rfl) (fun i:Nat=>[(5,.v (.int .i64 (i:Nat)))]) (fun _=>by simp only [zB0,zBe,xDv,xDz];exact rfl) (fun i:Nat=>i≤d.Pieces.length) (fun i:Nat=>d.Pieces.length-i) (0) (zEx) (?_) ?_
  · exact xE9 _
  intro i hi;simp -implicitDefEqProofs (disch:=omega) only [go_sem,↓reduceIte ,xDj,xDo,xD3,xDp,xDm,xDk];refine zAu ?_ ?_<;>intro hlt
  · have hlt:i<d.Pieces.length:=(by simpa using hlt);have e1:=xDl hlt;simp -implicitDefEqProofs (disch:=omega) only [go_sem,↓reduceIte ,xDj,xDo,xD3,xDp,xDm,xDk,hlt,e1,Piece.td_d,decide_true,xDw,xFf,xFm,xEy,wrN]
    trace_state
    exact ⟨i+1,by omega,hlt,zEx⟩
  · obtain rfl:i=d.Pieces.length:=(by have:¬ i<d.Pieces.length:=(by simpa using hlt);omega);simp -implicitDefEqProofs (disch:=omega) only [go_sem,↓reduceIte]
theorem zU3 (d:Design)(hd:dsnB d):Contract Try.prog NoG 24 [.agg (Design.td.d false d),.agg (Design.td.d false d)] (.v (.bool true)):=by have hS:=yCy d hd;rw [Design.td_d] at hS ⊢;refine zKg ?_;unfold code_spec_SameDesign;simp -implicitDefEqProofs (disch:=omega) only [go_sem,↓reduceIte];refine zAs (hS) (by simp -implicitDefEqProofs (disch:=omega) only [go_sem,↓reduceIte,deep,TD.rows,zAf,zAc,zAg,zAb,zAd,zAa];exact rfl) ?_;simp -implicitDefEqProofs (disch:=omega) only [go_sem,↓reduceIte]
def code_spec_l24Draw:VCode:=(.seq (.ops [
  ⟨some 2,none,.alloc [(.int .i64 0),(.int .i64 0),(.slice none 0 0)]⟩]) (.seq (.ops [
  ⟨some 8,none,.mv (.tmp 0)⟩,
  ⟨some 9,none,.callX 54 [(.tmp 8),(.const (.int .i64 4))]⟩,
  ⟨some 10,none,.bin .add (.const (.int .i64 1)) (.tmp 9)⟩,
  ⟨some 11,none,.mv (.tmp 0)⟩,
  ⟨some 12,none,.callX 54 [(.tmp 11),(.const (.int .i64 4))]⟩,
  ⟨some 13,none,.bin .add (.const (.int .i64 1)) (.tmp 12)⟩,
  ⟨some 14,none,.build [(.int .i64 0),(.int .i64 0),(.slice none 0 0)] [(0,1,(.tmp 10)),(1,1,(.tmp 13))]⟩,
  ⟨some 3,none,.alloc [(.int .i64 0),(.int .i64 0),(.slice none 0 0)]⟩,
  ⟨none,none,.store 3 (.tmp 3) (.tmp 14)⟩]) (.seq (.ops [
  ⟨some 15,none,.mv (.tmp 0)⟩,
  ⟨some 16,none,.callX 54 [(.tmp 15),(.const (.int .i64 5))]⟩,
  ⟨some 4,none,.asg (.tmp 16)⟩]) (.seq (.seq (.ops [
  ⟨some 5,none,.asg (.const (.int .i64 0))⟩]) (.block 0 (.loop (mB 77 0x1fffffffffffffffffc2) (.seq (.seq (.ops [
  ⟨some 17,none,.mv (.tmp 5)⟩,
  ⟨some 18,none,.fa 0 (.tmp 3)⟩,
  ⟨some 19,none,.load 1 false (.tmp 18)⟩,
  ⟨some 20,none,.fa 1 (.tmp 3)⟩,
  ⟨some 21,none,.load 1 false (.tmp 20)⟩,
  ⟨some 22,none,.bin .mul (.tmp 19) (.tmp 21)⟩,
  ⟨some 23,none,.bin .lss (.tmp 17) (.tmp 22)⟩]) (.cond (.tmp 23) .skip (.exit 0))) (.seq (.block 1 (.seq (.ops [
  ⟨some 26,none,.mv (.tmp 5)⟩,
  ⟨some 27,none,.fa 0 (.tmp 3)⟩,
  ⟨some 28,none,.load 1 false (.tmp 27)⟩,
  ⟨some 29,none,.bin .rem (.tmp 26) (.tmp 28)⟩,
  ⟨some 6,none,.asg (.tmp 29)⟩]) (.seq (.ops [
  ⟨some 30,none,.mv (.tmp 5)⟩,
  ⟨some 31,none,.fa 0 (.tmp 3)⟩,
  ⟨some 32,none,.load 1 false (.tmp 31)⟩,
  ⟨some 33,none,.bin .quo (.tmp 30) (.tmp 32)⟩,
  ⟨some 7,none,.asg (.tmp 33)⟩]) (.seq (.ops [
  ⟨some 34,none,.mv (.tmp 4)⟩]) (.block 2 (.seq (.ops [
  ⟨some 46,none,.bin .eql (.tmp 34) (.const (.int .i64 0))⟩,
  ⟨some 45,none,.asg (.tmp 46)⟩]) (.cond (.tmp 45) (.ops [
  ⟨some 47,none,.fa 2 (.tmp 3)⟩,
  ⟨some 48,none,.load 1 false (.tmp 47)⟩,
  ⟨some 49,none,.mv (.tmp 6)⟩,
  ⟨some 50,none,.mv (.tmp 7)⟩,
  ⟨some 51,none,.bin .add (.tmp 49) (.tmp 50)⟩,
  ⟨some 52,none,.bin .rem (.tmp 51) (.const (.int .i64 2))⟩,
  ⟨some 53,none,.bsl 1 [(.tmp 52)]⟩,
  ⟨some 54,none,.app 1 8 (.tmp 48) (.tmp 53)⟩,
  ⟨some 55,none,.fa 2 (.tmp 3)⟩,
  ⟨none,none,.store 1 (.tmp 55) (.tmp 54)⟩]) (.seq (.ops [
  ⟨some 57,none,.bin .eql (.tmp 34) (.const (.int .i64 1))⟩,
  ⟨some 56,none,.asg (.tmp 57)⟩]) (.cond (.tmp 56) (.ops [
  ⟨some 58,none,.fa 2 (.tmp 3)⟩,
  ⟨some 59,none,.load 1 false (.tmp 58)⟩,
  ⟨some 60,none,.mv (.tmp 6)⟩,
  ⟨some 61,none,.mv (.tmp 7)⟩,
  ⟨some 62,none,.bin .and (.tmp 60) (.tmp 61)⟩,
  ⟨some 63,none,.bin .rem (.tmp 62) (.const (.int .i64 2))⟩,
  ⟨some 64,none,.bsl 1 [(.tmp 63)]⟩,
  ⟨some 65,none,.app 1 8 (.tmp 59) (.tmp 64)⟩,
  ⟨some 66,none,.fa 2 (.tmp 3)⟩,
  ⟨none,none,.store 1 (.tmp 66) (.tmp 65)⟩]) (.seq (.ops [
  ⟨some 68,none,.bin .eql (.tmp 34) (.const (.int .i64 2))⟩,
  ⟨some 67,none,.asg (.tmp 68)⟩]) (.cond (.tmp 67) (.ops [
  ⟨some 69,none,.fa 2 (.tmp 3)⟩,
  ⟨some 70,none,.load 1 false (.tmp 69)⟩,
  ⟨some 71,none,.mv (.tmp 6)⟩,
  ⟨some 72,none,.bin .rem (.tmp 71) (.const (.int .i64 2))⟩,
  ⟨some 73,none,.bsl 1 [(.tmp 72)]⟩,
  ⟨some 74,none,.app 1 8 (.tmp 70) (.tmp 73)⟩,
  ⟨some 75,none,.fa 2 (.tmp 3)⟩,
  ⟨none,none,.store 1 (.tmp 75) (.tmp 74)⟩]) (.drawT (.h 0 ⟨some 35,none,.fa 2 (.tmp 3)⟩ (.h 2 ⟨some 37,none,.mv (.tmp 0)⟩ (.h 3 ⟨some 38,none,.mv (.tmp 4)⟩ (.h 4 ⟨some 39,none,.bin .rem (.tmp 38) (.const (.int .i64 2))⟩ (.h 5 ⟨some 40,none,.bin .add (.const (.int .i64 2)) (.tmp 39)⟩ (.br 1 ⟨some 36,none,.load 1 false (.tmp 35)⟩ (.br 6 ⟨some 41,none,.callX 54 [(.tmp 37),(.tmp 40)]⟩ (.br 7 ⟨some 42,none,.bsl 1 [(.tmp 41)]⟩ .done .nil) .nil) (.br 6 ⟨some 41,none,.callX 54 [(.tmp 37),(.tmp 40)]⟩ (.br 1 ⟨some 36,none,.load 1 false (.tmp 35)⟩ (.br 7 ⟨some 42,none,.bsl 1 [(.tmp 41)]⟩ .done .nil) (.br 7 ⟨some 42,none,.bsl 1 [(.tmp 41)]⟩ (.br 1 ⟨some 36,none,.load 1 false (.tmp 35)⟩ .done .nil) .nil)) .nil))))))) [⟨some 43,none,.app 1 8 (.tmp 36) (.tmp 42)⟩,⟨some 44,none,.fa 2 (.tmp 3)⟩,⟨none,none,.store 1 (.tmp 44) (.tmp 43)⟩])))))))))))) (.ops [
  ⟨some 24,none,.mv (.tmp 5)⟩,
  ⟨some 25,none,.bin .add (.tmp 24) (.const (.int .i64 1))⟩,
  ⟨some 5,none,.asg (.tmp 25)⟩])))))) (.seq (.ops [
  ⟨some 76,none,.load 3 true (.tmp 3)⟩,
  ⟨none,none,.store 3 (.tmp 2) (.tmp 76)⟩]) .ret)))))
theorem zPi {a0 d:D}{cells cells':List D}(h:∀ b,code_spec_l24Draw.wp (CT Try.prog NoG) (yHl [(.c 2 3 true)] d 0 b cells') [.box (some b) cells,.undef,.undef,.undef,.undef,.undef,.undef,.undef,.undef,.undef,.undef,.undef,.undef,.undef,.undef,.undef,.undef,.undef,.undef,.undef,.undef,.undef,.undef,.undef,.undef,.undef,.undef,.undef,.undef,.undef,.undef,.undef,.undef,.undef,.undef,.undef,.undef,.undef,.undef,.undef,.undef,.undef,.undef,.undef,.undef,.undef,.undef,.undef,.undef,.undef,.undef,.undef,.undef,.undef,.undef,.undef,.undef,.undef,.undef,.undef,.undef,.undef,.undef,.undef,.undef,.undef,.undef,.undef,.undef,.undef,.undef,.undef,.undef,.undef,.undef,.undef,.undef]):ContractX Try.prog NoG 74 0 [a0] cells d cells' :=
  zDh (pt:=786432) noG Try.func74 (fun us W=>by kernel_rfl) (c:=Try.f74.body.getD .skip) (ms:=[(mB 77 0x1fffffffffffffffffc2)]) (ms':=[]) (by kernel_rfl) (by kernel_rfl) (by kernel_rfl) (by simp) h
def code_spec_l24Unique:VCode:=(.seq (.ops [
  ⟨some 2,none,.alloc [(.slice none 0 0),(.slice none 0 0),(.slice none 0 0)]⟩]) (.seq (.ops [
  ⟨some 8,none,.build [(.slice none 0 0),(.slice none 0 0),(.slice none 0 0)] []⟩,
  ⟨some 3,none,.alloc [(.slice none 0 0),(.slice none 0 0),(.slice none 0 0)]⟩,
  ⟨none,none,.store 3 (.tmp 3) (.tmp 8)⟩]) (.seq (.seq (.ops [
  ⟨some 4,none,.asg (.const (.int .i64 0))⟩]) (.block 0 (.loop (mB 88 0xffffffffffffffffffffe2) (.seq (.seq (.ops [
  ⟨some 9,none,.mv (.tmp 4)⟩,
  ⟨some 10,none,.mv (.tmp 0)⟩,
  ⟨some 11,none,.nilc (.tmp 10)⟩,
  ⟨some 12,none,.fa 0 (.tmp 11)⟩,
  ⟨some 13,none,.load 1 false (.tmp 12)⟩,
  ⟨some 14,none,.bin .lss (.tmp 9) (.tmp 13)⟩]) (.cond (.tmp 14) .skip (.exit 0))) (.seq (.block 1 (.ops [
  ⟨some 17,none,.fa 0 (.tmp 3)⟩,
  ⟨some 18,none,.load 1 false (.tmp 17)⟩,
  ⟨some 19,none,.mv (.tmp 4)⟩,
  ⟨some 20,none,.bsl 1 [(.tmp 19)]⟩,
  ⟨some 21,none,.app 1 8 (.tmp 18) (.tmp 20)⟩,
  ⟨some 22,none,.fa 0 (.tmp 3)⟩,
  ⟨none,none,.store 1 (.tmp 22) (.tmp 21)⟩])) (.ops [
  ⟨some 15,none,.mv (.tmp 4)⟩,
  ⟨some 16,none,.bin .add (.tmp 15) (.const (.int .i64 1))⟩,
  ⟨some 4,none,.asg (.tmp 16)⟩])))))) (.seq (.seq (.ops [
  ⟨some 5,none,.asg (.const (.int .i64 0))⟩]) (.block 2 (.loop (mB 88 0xffffffffffffffffffffd2) (.seq (.seq (.ops [
  ⟨some 23,none,.mv (.tmp 5)⟩,
  ⟨some 24,none,.mv (.tmp 0)⟩,
  ⟨some 25,none,.nilc (.tmp 24)⟩,
  ⟨some 26,none,.fa 1 (.tmp 25)⟩,
  ⟨some 27,none,.load 1 false (.tmp 26)⟩,
  ⟨some 28,none,.bin .lss (.tmp 23) (.tmp 27)⟩]) (.cond (.tmp 28) .skip (.exit 2))) (.seq (.block 3 (.draw (mB 41 2196875771904) (mB 40 549755813888) [⟨0,mB 41 2196875771904,[],⟨some 31,none,.fa 1 (.tmp 3)⟩⟩,⟨1,mB 41 2194728288256,[],⟨some 32,none,.load 1 false (.tmp 31)⟩⟩,⟨2,mB 41 2196875771904,[],⟨some 33,none,.mv (.tmp 5)⟩⟩,⟨3,mB 41 2196875771904,[],⟨some 34,none,.mv (.tmp 0)⟩⟩,⟨4,mB 41 2179695902720,[],⟨some 35,none,.nilc (.tmp 34)⟩⟩,⟨5,mB 41 2145336164352,[],⟨some 36,none,.fa 0 (.tmp 35)⟩⟩,⟨6,mB 41 2076616687616,[],⟨some 37,none,.load 1 false (.tmp 36)⟩⟩,⟨7,mB 41 1939177734144,[],⟨some 38,none,.bin .add (.tmp 37) (.const (.int .i64 1))⟩⟩,⟨8,mB 41 1655709892608,[],⟨some 39,none,.bin .mul (.tmp 33) (.tmp 38)⟩⟩,⟨9,mB 41 1105954078720,(mB 40 549755813888),⟨some 40,none,.bslN 1 [(.tmp 39)]⟩⟩] [⟨some 41,none,.app 1 8 (.tmp 32) (.tmp 40)⟩,⟨some 42,none,.fa 1 (.tmp 3)⟩,⟨none,none,.store 1 (.tmp 42) (.tmp 41)⟩])) (.ops [
  ⟨some 29,none,.mv (.tmp 5)⟩,
  ⟨some 30,none,.bin .add (.tmp 29) (.const (.int .i64 1))⟩,
  ⟨some 5,none,.asg (.tmp 30)⟩])))))) (.seq (.seq (.ops [
  ⟨some 6,none,.asg (.const (.int .i64 0))⟩]) (.block 4 (.loop (mB 88 0xffffffffffffffffffffb2) (.seq (.seq (.draw (mB 53 0x1ff80000000000) [] [⟨0,mB 53 0x1ff80000000000,[],⟨some 43,none,.mv (.tmp 6)⟩⟩,⟨1,mB 53 0x1ff80000000000,[],⟨some 44,none,.mv (.tmp 0)⟩⟩,⟨2,mB 53 0x1fe80000000000,[],⟨some 45,none,.nilc (.tmp 44)⟩⟩,⟨3,mB 53 0x1fc80000000000,[],⟨some 46,none,.fa 0 (.tmp 45)⟩⟩,⟨4,mB 53 0x1f880000000000,[],⟨some 47,none,.load 1 false (.tmp 46)⟩⟩,⟨5,mB 53 0x1ff80000000000,[],⟨some 48,none,.mv (.tmp 0)⟩⟩,⟨6,mB 53 0x1ef80000000000,[],⟨some 49,none,.nilc (.tmp 48)⟩⟩,⟨7,mB 53 0x1cf80000000000,[],⟨some 50,none,.fa 1 (.tmp 49)⟩⟩,⟨8,mB 53 0x18f80000000000,[],⟨some 51,none,.load 1 false (.tmp 50)⟩⟩,⟨9,mB 53 0x10080000000000,[],⟨some 52,none,.bin .mul (.tmp 47) (.tmp 51)⟩⟩] [⟨some 53,none,.bin .lss (.tmp 43) (.tmp 52)⟩]) (.cond (.tmp 53) .skip (.exit 4))) (.seq (.block 5 (.seq (.ops [
  ⟨some 56,none,.mv (.tmp 6)⟩,
  ⟨some 57,none,.mv (.tmp 6)⟩,
  ⟨some 58,none,.mv (.tmp 0)⟩,
  ⟨some 59,none,.nilc (.tmp 58)⟩,
  ⟨some 60,none,.fa 0 (.tmp 59)⟩,
  ⟨some 61,none,.load 1 false (.tmp 60)⟩,
  ⟨some 62,none,.bin .quo (.tmp 57) (.tmp 61)⟩,
  ⟨some 63,none,.bin .add (.tmp 56) (.tmp 62)⟩,
  ⟨some 7,none,.asg (.tmp 63)⟩]) (.draw (mB 85 0x1fffff0000000000000000) (mB 84 0xf41000000000000000000) [⟨0,mB 85 0x1fffff0000000000000000,[],⟨some 64,none,.fa 2 (.tmp 3)⟩⟩,⟨1,mB 85 0x1ffffe0000000000000000,[],⟨some 65,none,.load 1 false (.tmp 64)⟩⟩,⟨2,mB 85 0x1fffff0000000000000000,[],⟨some 66,none,.mv (.tmp 0)⟩⟩,⟨3,mB 85 0x1ffffb0000000000000000,[],⟨some 67,none,.nilc (.tmp 66)⟩⟩,⟨4,mB 85 0x1ffff30000000000000000,[],⟨some 68,none,.fa 2 (.tmp 67)⟩⟩,⟨5,mB 85 0x1fffe30000000000000000,[],⟨some 69,none,.load 1 false (.tmp 68)⟩⟩,⟨6,mB 85 0x1fffff0000000000000000,[],⟨some 70,none,.mv (.tmp 6)⟩⟩,⟨7,mB 85 0x1fff830000000000000000,[],⟨some 71,none,.ia 1 (.tmp 69) (.tmp 70)⟩⟩,⟨8,mB 85 0x1fff030000000000000000,[],⟨some 72,none,.load 1 false (.tmp 71)⟩⟩,⟨9,mB 85 0x1fffff0000000000000000,[],⟨some 73,none,.mv (.tmp 6)⟩⟩,⟨10,mB 85 0x1fffff0000000000000000,[],⟨some 74,none,.mv (.tmp 0)⟩⟩,⟨11,mB 85 0x1ffbff0000000000000000,[],⟨some 75,none,.nilc (.tmp 74)⟩⟩,⟨12,mB 85 0x1ff3ff0000000000000000,[],⟨some 76,none,.fa 0 (.tmp 75)⟩⟩,⟨13,mB 85 0x1fe3ff0000000000000000,[],⟨some 77,none,.load 1 false (.tmp 76)⟩⟩,⟨14,mB 85 0x1fc1ff0000000000000000,[],⟨some 78,none,.bin .add (.tmp 73) (.tmp 77)⟩⟩,⟨15,mB 85 0x1fffff0000000000000000,[],⟨some 79,none,.mv (.tmp 7)⟩⟩,⟨16,mB 85 0x1f7fff0000000000000000,[],⟨some 80,none,.bin .add (.tmp 79) (.const (.int .i64 1))⟩⟩,⟨17,mB 85 0x1fffff0000000000000000,[],⟨some 81,none,.mv (.tmp 6)⟩⟩,⟨18,mB 85 0x1fffff0000000000000000,[],⟨some 82,none,.mv (.tmp 7)⟩⟩,⟨19,mB 85 0x1800030000000000000000,(mB 83 0x741000000000000000000),⟨some 83,none,.build [(.int .i64 0),(.int .i64 0),(.int .i64 0),(.int .i64 0),(.int .i64 0)] [(0,1,(.tmp 72)),(1,1,(.tmp 78)),(2,1,(.tmp 80)),(3,1,(.tmp 81)),(4,1,(.tmp 82))]⟩⟩,⟨20,mB 85 0x1741030000000000000000,(mB 84 0x800000000000000000000),⟨some 84,none,.bslN 5 [(.tmp 83)]⟩⟩] [⟨some 85,none,.app 5 40 (.tmp 65) (.tmp 84)⟩,⟨some 86,none,.fa 2 (.tmp 3)⟩,⟨none,none,.store 1 (.tmp 86) (.tmp 85)⟩]))) (.ops [
  ⟨some 54,none,.mv (.tmp 6)⟩,
  ⟨some 55,none,.bin .add (.tmp 54) (.const (.int .i64 1))⟩,
  ⟨some 6,none,.asg (.tmp 55)⟩])))))) (.seq (.ops [
  ⟨some 87,none,.load 3 true (.tmp 3)⟩,
  ⟨none,none,.store 3 (.tmp 2) (.tmp 87)⟩]) .ret))))))
theorem zM3 {a0 d:D}(h:code_spec_l24Unique.wp (CT Try.prog NoG) (zG3 [(.c 2 3 true)] d) [a0,.undef,.undef,.undef,.undef,.undef,.undef,.undef,.undef,.undef,.undef,.undef,.undef,.undef,.undef,.undef,.undef,.undef,.undef,.undef,.undef,.undef,.undef,.undef,.undef,.undef,.undef,.undef,.undef,.undef,.undef,.undef,.undef,.undef,.undef,.undef,.undef,.undef,.undef,.undef,.undef,.undef,.undef,.undef,.undef,.undef,.undef,.undef,.undef,.undef,.undef,.undef,.undef,.undef,.undef,.undef,.undef,.undef,.undef,.undef,.undef,.undef,.undef,.undef,.undef,.undef,.undef,.undef,.undef,.undef,.undef,.undef,.undef,.undef,.undef,.undef,.undef,.undef,.undef,.undef,.undef,.undef,.undef,.undef,.undef,.undef,.undef,.undef]):Contract Try.prog NoG 75 [a0] d :=
  zAt (pt:=0) noG Try.func75 (fun us W=>by kernel_rfl) (c:=Try.f75.body.getD .skip) (ms:=[(mB 88 0xffffffffffffffffffffe2),(mB 88 0xffffffffffffffffffffd2),(mB 88 0xffffffffffffffffffffb2)]) (ms':=[]) (by kernel_rfl) (by kernel_rfl) (by kernel_rfl) h
theorem zJj (xs:List Int)(x:Int):(xs++[x]).map rI=xs.map rI++[[.v (.int .i64 x)]]:=by rw [xEz];rfl
theorem yWb:¬ (2:Int)=0:=by decide
set_option maxHeartbeats 8000000 in
theorem yCz (s:Src) (hB:SrcB 38 s):ContractX Try.prog NoG 74 0 [.undef] s.d (.agg (Pattern.td.d true (yIf s))) (zW9 s).d:=by
  have f:=yXg (k:=0) hB;have wh:=yCu f.w f.h;have hP1:=zG4 s 4 (hB.mono (by omega));have hP2:=zG4 _ 4 (f.b0.mono (by omega));have hP3:=zG4 _ 5 (f.b1.mono (by omega));have e1:IntKind.i64.wrap (1+zCq s 4)=zWo s:=wrI (by have:=f.w;unfold zWo at this;omega) (by have:=f.w;unfold zWo at this;omega);have e2:IntKind.i64.wrap (1+zCq (zBq s 4) 4)=yA7 s:=wrI (by have:=f.h;unfold yA7 at this;omega) (by have:=f.h;unfold yA7 at this;omega);have hpd:yIf s=⟨zWo s,yA7 s,(zEw (zWo s) (yOk s) (yVx s) (zWo s*yA7 s).toNat).1⟩:=rfl;have hpn:zW9 s=(zEw (zWo s) (yOk s) (yVx s) (zWo s*yA7 s).toNat).2:=rfl;rw [hpd,hpn,Pattern.td_d];obtain ⟨fw,fh,fk,_,_,fb⟩:=f;have hk3:zCq (zBq (zBq s 4) 4) 5=yOk s:=rfl;have hs3:zBq (zBq (zBq s 4) 4) 5=yVx s:=rfl;rw [hk3,hs3] at hP3;generalize zWo s=W at *;generalize yA7 s=H at *;generalize yOk s=K at *;generalize yVx s=S at *;obtain ⟨N,hN⟩:∃ N:Nat,W*H=(N:Int):=⟨(W*H).toNat,by omega⟩
  rw [hN,xDo];have wm:IntKind.i64.wrap (W*H)=(N:Int):=by rw [hN];exact wrI (by omega) (by omega)
  refine zPi ?_;intro b;unfold code_spec_l24Draw;simp only [Src.d] at *;simp -implicitDefEqProofs (disch:=omega) only [go_sem,↓reduceIte];refine zCx (i:=0) (r:=0) (hP1) rfl rfl (by simp -implicitDefEqProofs (disch:=omega) only [go_sem,↓reduceIte,deep,TD.rows,zAf,zAc,zAg,zAb,zAd,zAa,e1];exact rfl) ?_;simp -implicitDefEqProofs (disch:=omega) only [go_sem,↓reduceIte ,e1];refine zCx (i:=0) (r:=0) (hP2) rfl rfl (by simp -implicitDefEqProofs (disch:=omega) only [go_sem,↓reduceIte,deep,TD.rows,zAf,zAc,zAg,zAb,zAd,zAa,e2];exact rfl) ?_;simp -implicitDefEqProofs (disch:=omega) only [go_sem,↓reduceIte ,e2];refine zCx (i:=0) (r:=0) (hP3) rfl rfl (by simp -implicitDefEqProofs (disch:=omega) only [go_sem,↓reduceIte,deep,TD.rows,zAf,zAc,zAg,zAb,zAd,zAa];exact rfl) ?_;simp -implicitDefEqProofs (disch:=omega) only [go_sem,↓reduceIte];refine zB5 (by simp -implicitDefEqProofs (disch:=omega) only [go_sem,↓reduceIte];exact rfl) (fun n:Nat=>[(0,.box (some b) (zEw W K S n).2.d),(3,.box none [.v (.int .i64 W),.v (.int .i64 H),.sl true 1 ((zEw W K S n).1.map rI)]),(5,.v (.int .i64 (n:Nat)))]) (fun _=>by simp only [zB0,zBe,xDv,xDz];exact rfl) (fun n:Nat=>n≤N) (fun n:Nat=>N-n) (0) (by rw [show (zEw W K S 0)=([],S) from rfl,xEb,Src.d];(try simp -implicitDefEqProofs only [zCz,zCy,zB6,zB8,zB9,zB7,and_self,and_true,true_and])<;>repeat' (first | exact zBr rfl | exact zCu | apply And.intro | apply zD3 | apply zBb | apply zBl | exact zB1 | exact zBs | apply zCv | apply zCw)) (?_) ?_
  · exact xE9 _
  intro n hn;simp only [Src.d];simp -implicitDefEqProofs (disch:=omega) only [go_sem,↓reduceIte ,wm];refine zAu ?_ ?_<;>intro hlt
  · have hlt:n<N:=(by simpa using hlt);have hW0:¬ W=0:=(by omega);have hcl:=zOw W K S n;have hnx:zEw W K S (n+1)=((zEw W K S n).1++[cellV W K n (zEw W K S n).2],zPu K (zEw W K S n).2):=rfl;have hSB:SrcB 2 (zEw W K S n).2:=zQb W K (k:=2) n (fb.mono (by omega));have hx:=zRa (x:=(n:Int)) (n:=W) (by omega) fw.1;have hy:=zZl (x:=(n:Int)) (n:=W) (by omega) fw.1;have wy:IntKind.i64.wrap ((n:Int).tdiv W)=(n:Int).tdiv W:=wrI (by omega) (by omega);generalize (zEw W K S n).1=C at *;generalize (zEw W K S n).2=S2 at *;have kk:=zRa (x:=K) (n:=2) fk.1 (by omega);have wk:IntKind.i64.wrap (2+K.tmod 2)=2+K.tmod 2:=wrI (by omega) (by omega);have wxy:IntKind.i64.wrap ((n:Int).tmod W+(n:Int).tdiv W)=(n:Int).tmod W+(n:Int).tdiv W:=wrI (by omega) (by omega);by_cases k0:K=0
    · have d0:decide (K=0)=true:=decide_eq_true k0;have ev:cellV W K n S2=((n:Int).tmod W+(n:Int).tdiv W).tmod 2:=(by unfold cellV;rw [if_pos k0]);have en:zPu K S2=S2:=(by unfold zPu;rw [if_pos k0]);simp -implicitDefEqProofs (disch:=omega) only [go_sem,↓reduceIte ,hW0,d0,wy,wxy,xDj,hcl,wrN];refine ⟨by decide,by omega,n+1,by omega,hlt,?_⟩;rw [hnx,ev,en]
      try simp only [zJj,Src.d]
      exact zEx
    · have d0 : decide (K=0)=false:=decide_eq_false k0;by_cases k1:K=1
      · have d1:decide (K=1)=true:=decide_eq_true k1;have ev:cellV W K n S2=(yZ9 ((n:Int).tmod W) ((n:Int).tdiv W)).tmod 2:=(by unfold cellV;rw [if_neg k0,if_pos k1]);have en:zPu K S2=S2:=(by unfold zPu;rw [if_neg k0,if_pos k1]);unfold yZ9 at ev;simp -implicitDefEqProofs (disch:=omega) only [go_sem,↓reduceIte ,hW0,d0,d1,wy,xDj,hcl,wrN];refine ⟨by decide,by omega,n+1,by omega,hlt,?_⟩;rw [hnx,ev,en]
        try simp only [zJj,Src.d]
        exact zEx
      · have d1:decide (K=1)=false:=decide_eq_false k1;by_cases k2:K=2
        · have d2:decide (K=2)=true:=decide_eq_true k2;have ev:cellV W K n S2=((n:Int).tmod W).tmod 2:=(by unfold cellV;rw [if_neg k0,if_neg k1,if_pos k2]);have en:zPu K S2=S2:=(by unfold zPu;rw [if_neg k0,if_neg k1,if_pos k2]);simp -implicitDefEqProofs (disch:=omega) only [go_sem,↓reduceIte ,hW0,d0,d1,d2,wy,xDj,hcl,wrN];refine ⟨by decide,by omega,n+1,by omega,hlt,?_⟩;rw [hnx,ev,en]
          try simp only [zJj,Src.d]
          exact zEx
        · have d2:decide (K=2)=false:=decide_eq_false k2;have ev:cellV W K n S2=zCq S2 (2+K.tmod 2):=(by unfold cellV;rw [if_neg k0,if_neg k1,if_neg k2]);have en:zPu K S2=zBq S2 (2+K.tmod 2):=(by unfold zPu;rw [if_neg k0,if_neg k1,if_neg k2]);have hP:=zG4 S2 (2+K.tmod 2) hSB;rw [← ev,← en] at hP;simp only [Src.d] at hP;simp -implicitDefEqProofs (disch:=omega) only [go_sem,↓reduceIte ,hW0,d0,d1,d2,wy];apply zJs
          case h =>
            intro K2 hK2;simp -implicitDefEqProofs (disch:=omega) only [go_sem,↓reduceIte ,wk,hW0]
            repeat' (first
              | with_reducible exact hK2
              | with_reducible refine And.intro ?_ ?_
              | with_reducible exact yWb
              | ((with_reducible refine zSv ?_);refine zCx (i:=0) (r:=0) (hP) rfl rfl (by simp -implicitDefEqProofs (disch:=omega) only [go_sem,↓reduceIte,deep,TD.rows,zAf,zAc,zAg,zAb,zAd,zAa];exact rfl) ?_;simp -implicitDefEqProofs (disch:=omega) only [go_sem,↓reduceIte]))
          simp -implicitDefEqProofs (disch:=omega) only [go_sem,↓reduceIte ,zJh,xDj,hcl,wrN];refine ⟨by omega,n+1,by omega,hlt,?_⟩;rw [hnx]
          try simp only [zJj,Src.d]
          exact zEx
  · obtain rfl:n=N:=(by have:¬ n<N:=(by simpa using hlt);omega);simp -implicitDefEqProofs (disch:=omega) only [go_sem,↓reduceIte]
set_option maxHeartbeats 8000000 in
theorem zWq (p:Pattern) (hp:OkPat p):Contract Try.prog NoG 75 [.iptr (Pattern.td.d false p) 0] (.agg (Design.td.d true (zR3 p))):=by
  obtain ⟨hw,hh,hn,hc⟩:=hp;have wh:=yCu hw hh;obtain ⟨W,hW⟩:∃ n:Nat,p.Width=(n:Int):=⟨p.Width.toNat,by omega⟩
  obtain ⟨H,hH⟩:∃ n:Nat,p.Height=(n:Int):=⟨p.Height.toNat,by omega⟩
  obtain ⟨N,hN⟩:∃ n:Nat,p.Width*p.Height=(n:Int):=⟨(p.Width*p.Height).toNat,by omega⟩
  rw [Pattern.td_d,Design.td_d];refine zM3 ?_;unfold code_spec_l24Unique zR3;simp only;rw [hN,hW,hH];simp only [xDo];simp -implicitDefEqProofs (disch:=omega) only [go_sem,↓reduceIte];refine zB5 (by simp -implicitDefEqProofs (disch:=omega) only [go_sem,↓reduceIte];exact rfl) (fun x:Nat=>[(3,.box none [.sl true 1 ((zTs x).map rI),.nils,.nils]),(4,.v (.int .i64 (x:Nat)))]) (fun _=>by simp only [zB0,zBe,xDv,xDz];exact rfl) (fun x:Nat=>x≤W) (fun x:Nat=>W-x) (0) (zEx) (?_) ?_
  · exact xE9 _
  intro x hx;have hxl:=zU7 x;have hxn:=zZ8 x;simp -implicitDefEqProofs (disch:=omega) only [go_sem,↓reduceIte];refine zAu ?_ ?_<;>intro hlt
  · have hlt:x<W:=(by simpa using hlt);simp -implicitDefEqProofs (disch:=omega) only [go_sem,↓reduceIte ,xDj,hxl,wrN];refine ⟨by omega,x+1,by omega,hlt,?_⟩;rw [hxn]
    try simp only [zJj]
    exact zEx
  · obtain rfl:x=W:=(by have:¬ x<W:=(by simpa using hlt);omega);simp -implicitDefEqProofs (disch:=omega) only [go_sem,↓reduceIte];refine zB5 (by simp -implicitDefEqProofs (disch:=omega) only [go_sem,↓reduceIte];exact rfl) (fun y:Nat=>[(3,.box none [.sl true 1 ((zTs x).map rI),.sl true 1 ((zU6 (x:Nat) y).map rI),.nils]),(5,.v (.int .i64 (y:Nat)))]) (fun _=>by simp only [zB0,zBe,xDv,xDz];exact rfl) (fun y:Nat=>y≤H) (fun y:Nat=>H-y) (0) (zEx) (?_) ?_
    · exact xE9 _
    intro y hy;have hyl:=zU5 (x:Nat) y;have hyn:=zZ7 (x:Nat) y;simp -implicitDefEqProofs (disch:=omega) only [go_sem,↓reduceIte];refine zAu ?_ ?_<;>intro hlt
    · have hlt:y<H:=(by simpa using hlt);have wx:IntKind.i64.wrap ((x:Int)+1)=(x:Int)+1:=wrI (by omega) (by omega);have hm:=yOm (a:=(y:Int)) (b:=(x:Int)+1) (by omega) (by omega);have wm:IntKind.i64.wrap ((y:Int)*((x:Int)+1))=(y:Int)*((x:Int)+1):=wrI (by omega) (by omega);simp -implicitDefEqProofs (disch:=omega) only [go_sem,↓reduceIte ,xDj,hyl,wx,wm,wrN];refine ⟨by omega,y+1,by omega,hlt,?_⟩;rw [hyn]
      try simp only [zJj]
      exact zEx
    · obtain rfl:y=H:=(by have:¬ y<H:=(by simpa using hlt);omega);have wN:IntKind.i64.wrap ((x:Int)*(y:Int))=(N:Int):=(by rw [← hW,← hH,hN];exact wrI (by omega) (by omega));simp -implicitDefEqProofs (disch:=omega) only [go_sem,↓reduceIte];refine zB5 (by simp -implicitDefEqProofs (disch:=omega) only [go_sem,↓reduceIte];exact rfl) (fun n:Nat=>[(3,.box none [.sl true 1 ((zTs x).map rI),.sl true 1 ((zU6 (x:Nat) y).map rI),.sl true 5 ((zTr p n).map (Piece.td.d true))]),(6,.v (.int .i64 (n:Nat)))]) (fun _=>by simp only [zB0,zBe,xDv,xDz];exact rfl) (fun n:Nat=>n≤N) (fun n:Nat=>N-n) (0) (zEx) (?_) ?_
      · exact xE9 _
      intro n hnn;have hnl:=zQl p n;have hnx:=zZ6 p n;simp -implicitDefEqProofs (disch:=omega) only [go_sem,↓reduceIte ,wN];refine zAu ?_ ?_<;>intro hlt
      · have hlt:n<N:=(by simpa using hlt);have hW0:¬ (x:Int)=0:=(by omega);have hd:=zZl (x:=(n:Int)) (n:=(x:Int)) (by omega) (by omega);have hltC:n<p.Cells.length:=(by omega);have en:=xDl hltC;have w1:IntKind.i64.wrap ((n:Int).tdiv (x:Int))=(n:Int).tdiv (x:Int):=wrI (by omega) (by omega);have w2:IntKind.i64.wrap ((n:Int)+(n:Int).tdiv (x:Int))=(n:Int)+(n:Int).tdiv (x:Int):=wrI (by omega) (by omega);have w3:IntKind.i64.wrap ((n:Int)+(x:Int))=(n:Int)+(x:Int):=wrI (by omega) (by omega);have w4:IntKind.i64.wrap ((n:Int)+(n:Int).tdiv (x:Int)+1)=(n:Int)+(n:Int).tdiv (x:Int)+1:=wrI (by omega) (by omega);have hup:zZ5 p n=⟨p.Cells[n],(n:Int)+(x:Int),(n:Int)+(n:Int).tdiv (x:Int)+1,n,(n:Int)+(n:Int).tdiv (x:Int)⟩:=(by unfold zZ5;rw [hW,xDt,en];rfl);simp (maxSteps:=4000000) -implicitDefEqProofs (disch:=omega) only [go_sem,↓reduceIte ,xDj,xDo,xD3,xDp,xDm,xDk,hltC,en,rI,hW0,w1,w2,w3,w4,xDj,hnl,wrN];refine ⟨by omega,n+1,by omega,hlt,?_⟩;rw [hnx,hup]
        try simp only [xEz,xDu,xEb,Piece.td_d]
        exact zEx
      · obtain rfl:n=N:=(by have:¬ n<N:=(by simpa using hlt);omega);simp -implicitDefEqProofs (disch:=omega) only [go_sem,↓reduceIte]
end Go.Proofs.Ytaleehohmpohoaa
