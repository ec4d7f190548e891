/- Laws that the proof stands on. -/
import Derived.Test.YtaleehohmpohoaaZg13
import Derived.Test.YtaleehohmpohoaaZg12
import Derived.Test.YtaleehohmpohoaaZg14
set_option linter.all false
namespace Go.V
open Go.RowKit
theorem yCf {P:Program}{G:World→(Nat→Prop)→Prop}{s:List D}{K:D→List D→Prop}{f:FuncId}{args:List Operand}{i r:Nat}{x:Operand}{tag:Option Nat}{cells:List D}{q:zBz}{sz:Nat}{rows:List (List D)}{res d' dnew:D}{args' A:List D}(hC:ContractL P G f i args' (.sl true sz rows) res d')(hx:args[i]?=some x)(hs:s[r]?=some (.box tag cells))(hq:q≠[])(hlk:lk s x=.ref r q)(htr:zAm (.box tag cells) q=some (.sl true sz rows))(hnew:setAt ((D.box tag cells).prune (fun _=>false)) q d'=dnew)(hb:dnew.boxy=true)
    (hA:(((args.map fun x=>raw s x).set i .undef).map (D.prune (zAi r))).map (deep ((zAh (zAi r) s).set r .undef) 8)=A) (hle:leL A args') (hn:res.noImm=true∧d'.noImm=true) (hK:K res ((zAh (zFh r) s).set r dnew)):zAn (CT P G) s (.callX f args) K:=by
  refine .inr (.inr (.inl ⟨i,r,x,false,.sl true sz rows,d',dnew,d',res,args',hx,?_,.inl ⟨_,hs,rfl⟩,hA▸hle,hC,.inl ⟨rfl,hn.1,hn.2⟩,.inr ⟨⟨_,hs,rfl⟩,hb,hK⟩⟩));unfold zT9;rw [hs];exact .inr (.inr (.inl ⟨rfl,q,sz,rows,rfl,hq,hlk,rfl,htr,hnew.symm⟩))
theorem yNn {P:Program}{G:World→(Nat→Prop)→Prop}{s:List D}{K:D→List D→Prop}{f r:Nat}{x y:Operand}{d d' res:D}{v:Value}(hC:ContractL P G f 0 [.undef,.v v] d res d')(hs:s[r]?=some d)(hx:lk s x=.ref r [])(hy:raw s y=.v v)(he:d.exact=true)(hK:K res ((zAh (zAi r) s).set r d')):zAn (CT P G) s (.callX f [x,y]) K :=
  zWg (x:=x) true hC rfl (by unfold zT9;rw [hs];exact .inl ⟨rfl,.inr hx,he,rfl,rfl⟩) (by simp [hy,D.owny,zDf]) (by simp [hy,D.prune,deep,leL,D.le,zAh]) (.inr ⟨rfl,by simp [hy,D.prune,D.noRef,zAh,zI0]⟩) hK
theorem yHv {P:Program}{G:World→(Nat→Prop)→Prop}{s:List D}{K:D→List D→Prop}{f r:Nat}{x:Operand}{d d' res:D}(hC:ContractL P G f 0 [.undef] d res d')(hs:s[r]?=some d)(hx:lk s x=.ref r [])(he:d.exact=true)(hK:K res ((zAh (zAi r) s).set r d')):zAn (CT P G) s (.callX f [x]) K :=
  zWg (x:=x) true hC rfl (by unfold zT9;rw [hs];exact .inl ⟨rfl,.inr hx,he,rfl,rfl⟩) (by simp [D.owny,zDf]) (by simp [D.prune,deep,leL,D.le,zAh]) (.inr ⟨rfl,by simp [D.prune,D.noRef,zAh,zI0]⟩) hK
theorem yS6 {C:CtrT}{s:List D}{f:FuncId}{l:List Operand}{K:D→List D→Prop}(h:zAn C s (.callX f l) K):zAn C s (.callX f l) K:=h
end Go.V
namespace Go.Proofs.Ytaleehohmpohoaa
open Go.RowKit Go.V
attribute [local go_sem] xD4 xDy xDz xDv xDu xEb xD9 xEn xEa xFu xEi xE3 xEc xFd xEv xE2 xD7 xEd xEk xFg Value.oneCell' xFf xEy xFh xFl xFm xDw xD5 and_true true_and beq_self_eq_true xDr if_true if_false xEm Nat.reduceAdd Nat.reduceMul Nat.reduceLeDiff xD8 xEu xEt not_true_eq_false not_false_eq_true ne_eq reduceCtorEq xE1 bne_self_eq_false Nat.reduceEqDiff List.isPrefixOf xEs xFe xE0 xFt xFi decide_true decide_false Nat.reduceBEq Nat.reduceBNe xEl xEr exists_eq_left' exists_eq_left xDi or_false or_true true_or false_or xDk xFa mB Nat.reduceMod Nat.reduceDiv
set_option maxRecDepth 100000
structure PatB (p:Pattern) (W H:Nat):Prop where
  w:p.Width=(W:Int)
  h:p.Height=(H:Int)
  w1:1≤W∧W≤10
  h1:1≤H∧H≤10
  n:p.Cells.length=H*W
  c:∀ x,x∈p.Cells→0≤x∧x≤5
def chB (x:Int):UInt8:=UInt8.ofNat (97+x.toNat)
def zZ9 (xs:List Int):ByteArray:=⟨(xs.map chB).toArray⟩
theorem yHt {x:Int}(h:0≤x∧x≤5):((chB x).toNat:Int)=97+x:=by
  unfold chB;have:x=0∨x=1∨x=2∨x=3∨x=4∨x=5:=by omega
  rcases this with e | e | e | e | e | e<;>subst e<;>rfl
theorem yDd (xs:List Int)(x:Int):zZ9 (xs++[x])=zZ9 xs++yCn (chB x):=by unfold zZ9 yCn;apply ByteArray.ext;simp
theorem zQn (xs:List Int):(zZ9 xs).size=xs.length:=by unfold zZ9;show (xs.map chB).toArray.size=_;simp
def zQw (p:Pattern)(W n:Nat):List ByteArray:=(List.range n).map fun k=>zZ9 (yHs p.Cells W k)
def yVy (p:Pattern)(W H:Nat):ByteArray:=zUb (zQw p W H).reverse ⟨⟨[47]⟩⟩
theorem yAv (p:Pattern)(W n:Nat):zQw p W (n+1)=zQw p W n++[zZ9 (yHs p.Cells W n)]:=by unfold zQw;rw [xHb,xEz];rfl
theorem zQv (p:Pattern)(W n:Nat):(zQw p W n).length=n:=by simp [zQw]
theorem yGe {W:Nat}:∀ (xs:List (List UInt8)),(∀ x,x∈xs→x.length≤W)→Lib.lens xs≤xs.length*W
  | [],_=>xE9 _
  | x::xs,h=>by have h1:=h x xG9;have h2:=yGe xs fun y hy=>h y (xE7 _ hy);rw [xD9,xFn,xGc];show x.length+Lib.lens xs≤_;omega
theorem yMd {W:Nat}(xs:List ByteArray)(h:∀ x,x∈xs→x.size≤W):(zUb xs ⟨⟨[47]⟩⟩).size≤xs.length*W+xs.length:=by
  have e:(zUb xs ⟨⟨[47]⟩⟩).size=(Lib.join (xs.map (·.data.toList)) [47]).length:=(by unfold zUb;simp [ByteArray.size]);rw [e];cases xs with
  | nil=>simp [Lib.join_nil]
  | cons x r =>
    rw [xDu,Lib.join_length];have:=yGe (W:=W) ((x::r).map (·.data.toList)) (fun y hy=>by
      obtain ⟨z,hz,rfl⟩:=xEg.1 hy;have:=h z hz;show z.data.toList.length≤W;rw [xGp];exact this)
    rw [xDj,xDu] at this;simp only [xD9,xEn,xDj,xEm,xGc] at this ⊢;omega
theorem yNi {xs:List Int}{n k:Nat}{x:Int}(h:x∈yHs xs n k):x∈xs:=List.mem_of_mem_drop (List.mem_of_mem_take h)
theorem yRh {p:Pattern}{W H:Nat}(h:PatB p W H):(yVy p W H).size≤1000:=by
  have h1:=yMd (W:=10) (zQw p W H).reverse (fun x hx=>by
    rw [xI4] at hx;obtain ⟨k,hk,rfl⟩:=xEg.1 hx;rw [zQn,zUo h.n (xFs.1 hk)];exact h.w1.2)
  rw [xH0,zQv] at h1;have:=h.h1;unfold yVy;omega
def code_impl_ValidPattern:VCode:=(.seq (.ops [
  ⟨some 1,none,.box (.tmp 0)⟩,
  ⟨some 2,none,.asg (.const (.bool false))⟩]) (.seq (.ops [
  ⟨some 3,none,.fa 0 (.tmp 1)⟩,
  ⟨some 4,none,.load 1 false (.tmp 3)⟩,
  ⟨some 5,none,.callX 48 [(.tmp 4),(.const (.int .i64 1)),(.const (.int .i64 10))]⟩,
  ⟨some 6,none,.mv (.tmp 5)⟩,
  ⟨some 7,some (6,true),.fa 1 (.tmp 1)⟩,
  ⟨some 8,some (6,true),.load 1 false (.tmp 7)⟩,
  ⟨some 9,some (6,true),.callX 48 [(.tmp 8),(.const (.int .i64 1)),(.const (.int .i64 10))]⟩,
  ⟨some 10,none,.pick (.tmp 6) (.tmp 9) (.const (.bool false))⟩,
  ⟨some 11,none,.mv (.tmp 10)⟩,
  ⟨some 12,some (11,true),.fa 2 (.tmp 1)⟩,
  ⟨some 13,some (11,true),.load 1 false (.tmp 12)⟩,
  ⟨some 14,some (11,true),.len (.tmp 13)⟩,
  ⟨some 15,some (11,true),.fa 0 (.tmp 1)⟩,
  ⟨some 16,some (11,true),.load 1 false (.tmp 15)⟩,
  ⟨some 17,some (11,true),.fa 1 (.tmp 1)⟩,
  ⟨some 18,some (11,true),.load 1 false (.tmp 17)⟩,
  ⟨some 19,some (11,true),.bin .mul (.tmp 16) (.tmp 18)⟩,
  ⟨some 20,some (11,true),.bin .eql (.tmp 14) (.tmp 19)⟩,
  ⟨some 21,none,.pick (.tmp 11) (.tmp 20) (.const (.bool false))⟩,
  ⟨some 22,none,.mv (.tmp 21)⟩,
  ⟨some 23,some (22,true),.fa 2 (.tmp 1)⟩,
  ⟨some 24,some (22,true),.load 1 false (.tmp 23)⟩,
  ⟨some 25,some (22,true),.callX 86 [(.tmp 24),(.const (.int .i64 6))]⟩,
  ⟨some 26,none,.pick (.tmp 22) (.tmp 25) (.const (.bool false))⟩,
  ⟨some 2,none,.asg (.tmp 26)⟩]) .ret))
theorem zI3 {a0 d:D}(h:code_impl_ValidPattern.wp (CT Try.prog NoG) (zG3 [(.t 2)] d) [a0,.undef,.undef,.undef,.undef,.undef,.undef,.undef,.undef,.undef,.undef,.undef,.undef,.undef,.undef,.undef,.undef,.undef,.undef,.undef,.undef,.undef,.undef,.undef,.undef,.undef,.undef]):Contract Try.prog NoG 60 [a0] d :=
  zAt (pt:=0) noG Try.func60 (fun us W=>by kernel_rfl) (c:=Try.f60.body.getD .skip) (ms:=[]) (ms':=[]) (by kernel_rfl) (by kernel_rfl) (by kernel_rfl) h
def code_impl_patternText:VCode:=(.seq (.ops [
  ⟨some 1,none,.box (.tmp 0)⟩,
  ⟨some 2,none,.asg (.const (.string ⟨⟨[]⟩⟩))⟩]) (.seq (.ops [
  ⟨some 3,none,.alloc [(.slice none 0 0)]⟩]) (.seq (.seq (.ops [
  ⟨some 8,none,.fa 2 (.tmp 1)⟩,
  ⟨some 9,none,.load 1 false (.tmp 8)⟩,
  ⟨some 10,none,.fa 0 (.tmp 1)⟩,
  ⟨some 11,none,.load 1 false (.tmp 10)⟩,
  ⟨some 12,none,.callX 87 [(.tmp 9),(.tmp 11)]⟩]) (.block 0 (.rangeF (.tmp 12) [13] (mB 29 536862896) (.ops [
  ⟨some 4,none,.asg (.tmp 13)⟩]) (.block 1 (.seq (.ops [
  ⟨some 5,none,.mkm (.bld 141 5)⟩]) (.seq (.seq (.ops [
  ⟨some 14,none,.mv (.tmp 4)⟩,
  ⟨some 15,none,.len (.tmp 14)⟩,
  ⟨some 16,none,.mv (.const (.int .i64 0))⟩]) (.block 2 (.loop (mB 33 8589803712) (.seq (.ops [
  ⟨some 17,none,.bin .lss (.tmp 16) (.tmp 15)⟩]) (.seq (.cond (.tmp 17) .skip (.exit 2)) (.seq (.block 3 (.seq (.ops [
  ⟨some 18,none,.ia 1 (.tmp 14) (.tmp 16)⟩,
  ⟨some 19,none,.load 1 false (.tmp 18)⟩,
  ⟨some 7,none,.asg (.tmp 19)⟩]) (.ops [
  ⟨some 20,none,.mv (.tmp 7)⟩,
  ⟨some 21,none,.bin .add (.const (.int .i64 97)) (.tmp 20)⟩,
  ⟨some 22,none,.conv .u8 (.tmp 21)⟩,
  ⟨some 23,none,.callX 88 [(.tmp 5),(.tmp 22)]⟩]))) (.ops [
  ⟨some 24,none,.bin .add (.tmp 16) (.const (.int .i64 1))⟩,
  ⟨some 16,none,.mv (.tmp 24)⟩]))))))) (.drawT (.br 0 ⟨some 25,none,.load 1 false (.tmp 3)⟩ (.br 1 ⟨some 26,none,.callX 89 [(.tmp 5)]⟩ (.br 2 ⟨some 27,none,.bsl 1 [(.tmp 26)]⟩ .done .nil) .nil) (.br 1 ⟨some 26,none,.callX 89 [(.tmp 5)]⟩ (.br 0 ⟨some 25,none,.load 1 false (.tmp 3)⟩ (.br 2 ⟨some 27,none,.bsl 1 [(.tmp 26)]⟩ .done .nil) (.br 2 ⟨some 27,none,.bsl 1 [(.tmp 26)]⟩ (.br 0 ⟨some 25,none,.load 1 false (.tmp 3)⟩ .done .nil) .nil)) .nil)) [⟨some 28,none,.app 1 16 (.tmp 25) (.tmp 27)⟩,⟨none,none,.store 1 (.tmp 3) (.tmp 28)⟩]))))))) (.seq (.ops [
  ⟨some 29,none,.load 1 false (.tmp 3)⟩,
  ⟨some 30,none,.callX 90 [(.tmp 29)]⟩]) (.seq (.ops [
  ⟨some 31,none,.load 1 false (.tmp 3)⟩,
  ⟨some 32,none,.callX 91 [(.tmp 31),(.const (.string ⟨⟨[47]⟩⟩))]⟩,
  ⟨some 2,none,.asg (.tmp 32)⟩]) .ret)))))
theorem zJ0 {a0 d:D}(h:code_impl_patternText.wp (CT Try.prog NoG) (zG3 [(.t 2)] d) [a0,.undef,.undef,.undef,.undef,.undef,.undef,.undef,.undef,.undef,.undef,.undef,.undef,.undef,.undef,.undef,.undef,.undef,.undef,.undef,.undef,.undef,.undef,.undef,.undef,.undef,.undef,.undef,.undef,.undef,.undef,.undef,.undef]):Contract Try.prog NoG 61 [a0] d :=
  zPa (pt:=3145728) noG Try.func61 (fun us W=>by kernel_rfl) (c:=Try.f61.body.getD .skip) (ms:=[(mB 33 8589803712)]) (ms':=[]) (by kernel_rfl) (by kernel_rfl) (by kernel_rfl) (by kernel_rfl) h
def code_impl_PatternText:VCode:=(.seq (.ops [
  ⟨some 1,none,.box (.tmp 0)⟩,
  ⟨some 2,none,.asg (.const (.string ⟨⟨[]⟩⟩))⟩]) (.seq (.seq (.ops [
  ⟨some 3,none,.load 3 true (.tmp 1)⟩,
  ⟨some 4,none,.callX 60 [(.tmp 3)]⟩,
  ⟨some 5,none,.un .not (.tmp 4)⟩]) (.cond (.tmp 5) (.seq (.ops [
  ⟨some 2,none,.asg (.const (.string ⟨⟨[]⟩⟩))⟩]) .ret) .skip)) (.seq (.ops [
  ⟨some 6,none,.load 3 true (.tmp 1)⟩,
  ⟨some 7,none,.callX 61 [(.tmp 6)]⟩,
  ⟨some 2,none,.asg (.tmp 7)⟩]) .ret)))
theorem zJ4 {a0 d:D}(h:code_impl_PatternText.wp (CT Try.prog NoG) (zG3 [(.t 2)] d) [a0,.undef,.undef,.undef,.undef,.undef,.undef,.undef]):Contract Try.prog NoG 26 [a0] d :=
  zAt (pt:=0) noG Try.func26 (fun us W=>by kernel_rfl) (c:=Try.f26.body.getD .skip) (ms:=[]) (ms':=[]) (by kernel_rfl) (by kernel_rfl) (by kernel_rfl) h
theorem zR2 {p:Pattern}{W H:Nat}(h:PatB p W H):Contract Try.prog NoG 60 [.agg (Pattern.td.d false p)] (.v (.bool true)):=by have w1:inR 1 10 p.Width=true:=(by rw [h.w,inR_iff];have:=h.w1;omega);have h1:inR 1 10 p.Height=true:=(by rw [h.h,inR_iff];have:=h.h1;omega);have hWH:p.Width*p.Height=((p.Cells.length:Nat):Int):=(by rw [h.w,h.h,h.n,Int.mul_comm];rfl);have hle:p.Cells.length≤100:=(by rw [h.n];have:H*W≤10*10:=xJd h.h1.2 h.w1.2;omega);have wm:IntKind.i64.wrap (p.Width*p.Height)=((p.Cells.length:Nat):Int):=(by rw [hWH];exact wrI (by omega) (by omega));have hall:p.Cells.all (inR 0 5)=true:=(by rw [xEh];intro x hx;rw [inR_iff];exact h.c x hx);have hb:=yC3 p.Cells 6 (by omega) (by omega) (by omega);simp only [Int.reduceSub] at hb;rw [hall] at hb;rw [Pattern.td_d];refine zI3 ?_;unfold code_impl_ValidPattern;simp -implicitDefEqProofs (disch:=omega) only [go_sem,↓reduceIte];refine zAs (zGq _ _ _) (by simp -implicitDefEqProofs (disch:=omega) only [go_sem,↓reduceIte,deep,TD.rows,zAf,zAc,zAg,zAb,zAd,zAa,w1];exact rfl) ?_;simp -implicitDefEqProofs (disch:=omega) only [go_sem,↓reduceIte ,w1];refine zAs (zGq _ _ _) (by simp -implicitDefEqProofs (disch:=omega) only [go_sem,↓reduceIte,deep,TD.rows,zAf,zAc,zAg,zAb,zAd,zAa,h1,xDj,wm,decide_true];exact rfl) ?_;simp -implicitDefEqProofs (disch:=omega) only [go_sem,↓reduceIte ,h1,xDj,wm,decide_true];refine zAs (hb) (by simp -implicitDefEqProofs (disch:=omega) only [go_sem,↓reduceIte,deep,TD.rows,zAf,zAc,zAg,zAb,zAd,zAa];exact rfl) ?_;simp -implicitDefEqProofs (disch:=omega) only [go_sem,↓reduceIte]
set_option maxHeartbeats 4000000 in
theorem zTk {p:Pattern} {W H:Nat} (h:PatB p W H):Contract Try.prog NoG 61 [.agg (Pattern.td.d false p)] (.v (.string (yVy p W H))):=by
  have hw1:=h.w1;have hh1:=h.h1;have hle:p.Cells.length≤100:=(by rw [h.n];have:H*W≤10*10:=xJd h.h1.2 h.w1.2;omega);have hC:=yPc p.Cells W hw1.1 (by omega);have hI:=yMe p.Cells W H hw1.1 h.n (by omega);rw [Pattern.td_d,h.w];refine zJ0 ?_;unfold code_impl_patternText;simp -implicitDefEqProofs (disch:=omega) only [go_sem,↓reduceIte];refine zAs (hC) (by simp -implicitDefEqProofs (disch:=omega) only [go_sem,↓reduceIte,deep,TD.rows,zAf,zAc,zAg,zAb,zAd,zAa];exact rfl) ?_;simp -implicitDefEqProofs (disch:=omega) only [go_sem,↓reduceIte];refine zYq (N:=H) (by simp -implicitDefEqProofs (disch:=omega) only [go_sem,↓reduceIte];exact rfl) (by rfl) (fun k=>[.sl false 1 ((yHs p.Cells W k).map rI)]) (hI) (fun _ _=>rfl) (by simp -implicitDefEqProofs (disch:=omega) only [go_sem,↓reduceIte];exact rfl) (fun k=>[(3,.box none [.sl true 1 ((zQw p W k).map rS)])]) (fun _=>by simp only [zB0,zBe,xDv,xDz];exact rfl) (by rw [show zQw p W 0=[] from rfl,xEb];(try simp -implicitDefEqProofs only [zCz,zCy,zB6,zB8,zB9,zB7,and_self,and_true,true_and])<;>repeat' (first | exact zBr rfl | exact zCu | apply And.intro | apply zD3 | apply zBb | apply zBl | exact zB1 | exact zBs | apply zCv | apply zCw)) ?_ ?_
  · intro k hk;have hcl:=zUo h.n hk;have hcm:∀ x,x∈yHs p.Cells W k→0≤x∧x≤5:=fun x hx=>h.c x (yNi hx);have hrl:=zQv p W k;have hrn:=yAv p W k;generalize yHs p.Cells W k=xs at *;simp -implicitDefEqProofs (disch:=omega) only [go_sem,↓reduceIte ,xDj,hcl];refine zB5 (by simp -implicitDefEqProofs (disch:=omega) only [go_sem,↓reduceIte];exact rfl) (fun i:Nat=>[(16,.v (.int .i64 (i:Nat))),(5,.mp (.bld 141 5) [(.string (zZ9 (xs.take i)),undef)])]) (fun _=>by simp only [zB0,zBe,xDv,xDz];exact rfl) (fun i:Nat=>i≤W) (fun i:Nat=>W-i) (0) (by rw [show zZ9 (xs.take 0)=⟨⟨[]⟩⟩ from rfl];(try simp -implicitDefEqProofs only [zCz,zCy,zB6,zB8,zB9,zB7,and_self,and_true,true_and])<;>repeat' (first | exact zBr rfl | exact zCu | apply And.intro | apply zD3 | apply zBb | apply zBl | exact zB1 | exact zBs | apply zCv | apply zCw)) (xE9 _) ?_;intro i hi;simp -implicitDefEqProofs (disch:=omega) only [go_sem,↓reduceIte];refine zAu ?_ ?_<;>intro hlt
    · have hlt:i<W:=(by have:=of_decide_eq_true hlt;omega);have hlx:i<xs.length:=(by omega);have e1:=xDl hlx;have hx:=hcm _ (xEo hlx);have hn:zZ9 (xs.take (i+1))=zZ9 (xs.take i)++yCn (chB xs[i]):=(by rw [xFb hlx,yDd]);have hsz:=zQn (xs.take i);rw [xFy] at hsz;have hW:=zWt (zZ9 (xs.take i)) (chB xs[i]) (by omega);have w1:IntKind.i64.wrap (97+xs[i])=97+xs[i]:=wrI (by omega) (by omega);have w2:IntKind.u8.wrap (97+xs[i])=((chB xs[i]).toNat:Int):=(by rw [yHt hx];simp only [IntKind.wrap,IntKind.bits,IntKind.signed];simp;omega);simp -implicitDefEqProofs (disch:=omega) only [go_sem,↓reduceIte ,xDj,xDo,xD3,xDp,xDm,xDk,hcl,hlt,e1,rI,w1,w2];refine yNn (r:=5) hW rfl rfl rfl rfl ?_;simp -implicitDefEqProofs (disch:=omega) only [go_sem,↓reduceIte ,wrN];refine ⟨i+1,by omega,hlt,?_⟩;rw [hn];exact zEx
    · obtain rfl:i=W:=(by have:=of_decide_eq_false hlt;omega);have hsz:=zQn xs;have hS:=zQj (zZ9 xs) (by omega) (by omega);rw [show xs.take i=xs by rw [← hcl,xF8]];simp -implicitDefEqProofs (disch:=omega) only [go_sem,↓reduceIte];apply zJs
      case h =>
        intro K2 hK2;simp -implicitDefEqProofs (disch:=omega) only [go_sem,↓reduceIte]
        repeat' (first
          | with_reducible exact hK2
          | with_reducible refine And.intro ?_ ?_
          | ((with_reducible refine yS6 ?_);refine yHv (r:=5) hS rfl rfl rfl ?_;simp -implicitDefEqProofs (disch:=omega) only [go_sem,↓reduceIte]))
      simp -implicitDefEqProofs (disch:=omega) only [go_sem,↓reduceIte ,zJh,xDj,hrl];refine ⟨by omega,_,?_,rfl⟩;rw [hrn,xEz];exact zEx
  · have hrl:=zQv p W H;have hR:=yC4 (zQw p W H) (by omega);have hJ:=yV8 (zQw p W H).reverse ⟨⟨[47]⟩⟩ (by rw [xH0];omega) (by have:=yRh h;unfold yVy at this;omega);simp -implicitDefEqProofs (disch:=omega) only [go_sem,↓reduceIte];refine yCf (i:=0) (x:=.tmp 29) (q:=[(0,0)]) hR rfl rfl (by simp) rfl rfl (by simp -implicitDefEqProofs (disch:=omega) only [go_sem,↓reduceIte,deep,TD.rows,zAf,zAc,zAg,zAb,zAd,zAa];exact rfl) rfl (by simp -implicitDefEqProofs (disch:=omega) only [go_sem,↓reduceIte,deep,TD.rows,zAf,zAc,zAg,zAb,zAd,zAa];exact rfl) (by repeat (first | exact zB3 | refine zBi ?_ ?_ | exact le_of_eq rfl | exact zBh (zA1 rfl) | refine zC4 ?_ | exact zC3 rfl (TD.rows ..) | refine zB2 ?_ | refine zE8 ?_ ?_ | exact zA5)) ⟨rfl,by simp only [D.noImm,zBc,go_sem,TD.nims,TD.nim,zGx,zE0,zEz,zGw]⟩ ?_;simp -implicitDefEqProofs (disch:=omega) only [go_sem,↓reduceIte];refine zAs (hJ) (by simp -implicitDefEqProofs (disch:=omega) only [go_sem,↓reduceIte,deep,TD.rows,zAf,zAc,zAg,zAb,zAd,zAa];exact rfl) ?_;simp -implicitDefEqProofs (disch:=omega) only [go_sem,↓reduceIte];rfl
set_option maxHeartbeats 1000000 in
theorem zTo {p:Pattern}{W H:Nat}(h:PatB p W H):Contract Try.prog NoG 26 [.agg (Pattern.td.d false p)] (.v (.string (yVy p W H))):=by have h1:=zR2 h;have h2:=zTk h;rw [Pattern.td_d] at h1 h2 ⊢;refine zJ4 ?_;unfold code_impl_PatternText;simp -implicitDefEqProofs (disch:=omega) only [go_sem,↓reduceIte];refine zAs (h1) (by simp -implicitDefEqProofs (disch:=omega) only [go_sem,↓reduceIte,deep,TD.rows,zAf,zAc,zAg,zAb,zAd,zAa,xDw];exact rfl) ?_;simp -implicitDefEqProofs (disch:=omega) only [go_sem,↓reduceIte ,xDw];refine zAs (h2) (by simp -implicitDefEqProofs (disch:=omega) only [go_sem,↓reduceIte,deep,TD.rows,zAf,zAc,zAg,zAb,zAd,zAa];exact rfl) ?_;simp -implicitDefEqProofs (disch:=omega) only [go_sem,↓reduceIte]
end Go.Proofs.Ytaleehohmpohoaa
