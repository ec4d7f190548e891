/- Laws that the proof stands on. -/
import Derived.Test.YtaleehohmpohoaaZg14
import Derived.Test.YtaleehohmpohoaaZg13
import Derived.Test.YtaleehohmpohoaaZg16
set_option linter.all false
namespace Go.V
open Go.RowKit
theorem yEf {P:Program}{G:World→(Nat→Prop)→Prop}{s:List D}{K:D→List D→Prop}{f:FuncId}{args:List Operand}{i r:Nat}{x:Operand}{tag:Option Nat}{cells:List D}{q:zBr}{sz:Nat}{rows:List (List D)}{res d' dnew:D}{args' A:List D}(hC:ContractL P G f i args' (.sl true sz rows) res d')(hx:args[i]?=some x)(hs:s[r]?=some (.box tag cells))(hq:q≠[])(hlk:lk s x=.ref r q)(htr:zAf (.box tag cells) q=some (.sl true sz rows))(hnew:setAt ((D.box tag cells).prune (fun _=>false)) q d'=dnew)(hb:dnew.boxy=true)
    (hA:(((args.map fun x=>raw s x).set i .undef).map (D.prune (zAd r))).map (deep ((zAc (zAd r) s).set r .undef) 8)=A) (hle:leL A args') (hn:res.noImm=true∧d'.noImm=true) (hK:K res ((zAc (zF7 r) s).set r dnew)):zAh (CT P G) s (.callX f args) K:=by
  refine .inr (.inr (.inl ⟨i,r,x,false,.sl true sz rows,d',dnew,d',res,args',hx,?_,.inl ⟨_,hs,rfl⟩,hA▸hle,hC,.inl ⟨rfl,hn.1,hn.2⟩,.inr ⟨⟨_,hs,rfl⟩,hb,hK⟩⟩));unfold yHu;rw [hs];exact .inr (.inr (.inl ⟨rfl,q,sz,rows,rfl,hq,hlk,rfl,htr,hnew.symm⟩))
theorem yNp {P:Program}{G:World→(Nat→Prop)→Prop}{s:List D}{K:D→List D→Prop}{f r:Nat}{x y:Operand}{d d' res:D}{v:Value}(hC:ContractL P G f 0 [.undef,.v v] d res d')(hs:s[r]?=some d)(hx:lk s x=.ref r [])(hy:raw s y=.v v)(he:d.exact=true)(hK:K res ((zAc (zAd r) s).set r d')):zAh (CT P G) s (.callX f [x,y]) K :=
  zTn (x:=x) true hC rfl qBr (by simp [hy,D.owny,zDy]) (by simp [hy,D.prune,deep,leL,D.le,zAc]) (.inr ⟨rfl,by simp [hy,D.prune,D.noRef,zAc,zJb]⟩) hK
theorem yI7 {P:Program}{G:World→(Nat→Prop)→Prop}{s:List D}{K:D→List D→Prop}{f r:Nat}{x:Operand}{d d' res:D}(hC:ContractL P G f 0 [.undef] d res d')(hs:s[r]?=some d)(hx:lk s x=.ref r [])(he:d.exact=true)(hK:K res ((zAc (zAd r) s).set r d')):zAh (CT P G) s (.callX f [x]) K :=
  zTn (x:=x) true hC rfl qBr (by simp [D.owny,zDy]) (by simp [D.prune,deep,leL,D.le,zAc]) (.inr ⟨rfl,by simp [D.prune,D.noRef,zAc,zJb]⟩) hK
theorem ySk {C:CtrT}{s:List D}{f:FuncId}{l:List Operand}{K:D→List D→Prop}(h:zAh C s (.callX f l) K):zAh C s (.callX f l) K:=h
end Go.V
namespace Go.Proofs.Ytaleehohmpohoaa
open Go.RowKit Go.V
attribute [local go_sem] xBh xBb xBc xA8 xA6 xBl xBk xBy xBm xC7 xBt xCi xBn xCl xB6 xCg xBi xBp xBw xCn Value.oneCell' xCp xCu xCv xC0 xC1 xBr xB7 and_true true_and beq_self_eq_true xBa if_true if_false xB2 Nat.reduceAdd Nat.reduceMul Nat.reduceLeDiff xBj xB5 xB0 not_true_eq_false not_false_eq_true ne_eq reduceCtorEq xCf bne_self_eq_false Nat.reduceEqDiff List.isPrefixOf xB9 xCm xCq xC5 xCx decide_true decide_false Nat.reduceBEq Nat.reduceBNe xBv xBz exists_eq_left' exists_eq_left xAv or_false or_true true_or false_or xAx xCk mB Nat.reduceMod Nat.reduceDiv
set_option maxRecDepth 100000
structure PatB (p:Pattern) (W H:Nat):Prop where
  w:p.Width=(W:Int)
  h:p.Height=(H:Int)
  w1:1≤W∧W≤10
  h1:1≤H∧H≤10
  n:p.Cells.length=H*W
  c:∀ x,x∈p.Cells→0≤x∧x≤5
def chB (x:Int):UInt8:=UInt8.ofNat (97+x.toNat)
def yCt (xs:List Int):ByteArray:=⟨(xs.map chB).toArray⟩
theorem yI4 {x:Int}(h:0≤x∧x≤5):((chB x).toNat:Int)=97+x:=by
  unfold chB;have:x=0∨x=1∨x=2∨x=3∨x=4∨x=5:=by omega
  rcases this with e | e | e | e | e | e<;>subst e<;>rfl
theorem yE8 (xs:List Int)(x:Int):yCt (xs++[x])=yCt xs++yEm (chB x):=by unfold yCt yEm;apply ByteArray.ext;simp
theorem zSg (xs:List Int):(yCt xs).size=xs.length:=by unfold yCt;show (xs.map chB).toArray.size=_;simp
def zSm (p:Pattern)(W n:Nat):List ByteArray:=(List.range n).map fun k=>yCt (yI3 p.Cells W k)
def yUt (p:Pattern)(W H:Nat):ByteArray:=zV3 (zSm p W H).reverse ⟨⟨[47]⟩⟩
theorem yDc (p:Pattern)(W n:Nat):zSm p W (n+1)=zSm p W n++[yCt (yI3 p.Cells W n)]:=by unfold zSm;rw [xEd,xBo];rfl
theorem zSl (p:Pattern)(W n:Nat):(zSm p W n).length=n:=by simp [zSm]
theorem yHt {W:Nat}:∀ (xs:List (List UInt8)),(∀ x,x∈xs→x.length≤W)→Lib.lens xs≤xs.length*W
  | [],_=>xCs _
  | x::xs,h=>by have h1:=h x xD1;have h2:=yHt xs fun y hy=>h y (xCc _ hy);rw [xBk,xC8,xDs];show x.length+Lib.lens xs≤_;omega
theorem yMh {W:Nat}(xs:List ByteArray)(h:∀ x,x∈xs→x.size≤W):(zV3 xs ⟨⟨[47]⟩⟩).size≤xs.length*W+xs.length:=by
  have e:(zV3 xs ⟨⟨[47]⟩⟩).size=(Lib.join (xs.map (·.data.toList)) [47]).length:=(by unfold zV3;simp [ByteArray.size]);rw [e];cases xs with
  | nil=>simp [Lib.join_nil]
  | cons x r =>
    rw [xA6,Lib.join_length];have:=yHt (W:=W) ((x::r).map (·.data.toList)) (fun y hy=>by
      obtain ⟨z,hz,rfl⟩:=xB1.1 hy;have:=h z hz;show z.data.toList.length≤W;rw [xD6];exact this)
    rw [xAw,xA6] at this;simp only [xBk,xBy,xAw,xB2,xDs] at this ⊢;omega
theorem yNg {xs:List Int}{n k:Nat}{x:Int}(h:x∈yI3 xs n k):x∈xs:=List.mem_of_mem_drop (List.mem_of_mem_take h)
theorem yQ8 {p:Pattern}{W H:Nat}(h:PatB p W H):(yUt p W H).size≤1000:=by
  have h1:=yMh (W:=10) (zSm p W H).reverse (fun x hx=>by
    rw [xGs] at hx;obtain ⟨k,hk,rfl⟩:=xB1.1 hx;rw [zSg,zWh h.n (xDe.1 hk)];exact h.w1.2)
  rw [xFj,zSl] at h1;have:=h.h1;unfold yUt;omega
def code_impl_ValidPattern:VCode:=(.seq (.ops [
  ⟨some 1,none,.box (.tmp 0)⟩,
  ⟨some 2,none,.asg (.const (.bool false))⟩]) (.seq (.ops [
  ⟨some 3,none,.fa 0 (.tmp 1)⟩,
  ⟨some 4,none,.load 1 false (.tmp 3)⟩,
  ⟨some 5,none,.callX 48 [(.tmp 4),(.const (.int .i64 1)),(.const (.int .i64 10))]⟩,
  ⟨some 6,none,.mv (.tmp 5)⟩,
  ⟨some 7,some (6,true),.fa 1 (.tmp 1)⟩,
  ⟨some 8,some (6,true),.load 1 false (.tmp 7)⟩,
  ⟨some 9,some (6,true),.callX 48 [(.tmp 8),(.const (.int .i64 1)),(.const (.int .i64 10))]⟩,
  ⟨some 10,none,.pick (.tmp 6) (.tmp 9) (.const (.bool false))⟩,
  ⟨some 11,none,.mv (.tmp 10)⟩,
  ⟨some 12,some (11,true),.fa 2 (.tmp 1)⟩,
  ⟨some 13,some (11,true),.load 1 false (.tmp 12)⟩,
  ⟨some 14,some (11,true),.len (.tmp 13)⟩,
  ⟨some 15,some (11,true),.fa 0 (.tmp 1)⟩,
  ⟨some 16,some (11,true),.load 1 false (.tmp 15)⟩,
  ⟨some 17,some (11,true),.fa 1 (.tmp 1)⟩,
  ⟨some 18,some (11,true),.load 1 false (.tmp 17)⟩,
  ⟨some 19,some (11,true),.bin .mul (.tmp 16) (.tmp 18)⟩,
  ⟨some 20,some (11,true),.bin .eql (.tmp 14) (.tmp 19)⟩,
  ⟨some 21,none,.pick (.tmp 11) (.tmp 20) (.const (.bool false))⟩,
  ⟨some 22,none,.mv (.tmp 21)⟩,
  ⟨some 23,some (22,true),.fa 2 (.tmp 1)⟩,
  ⟨some 24,some (22,true),.load 1 false (.tmp 23)⟩,
  ⟨some 25,some (22,true),.callX 86 [(.tmp 24),(.const (.int .i64 6))]⟩,
  ⟨some 26,none,.pick (.tmp 22) (.tmp 25) (.const (.bool false))⟩,
  ⟨some 2,none,.asg (.tmp 26)⟩]) .ret))
theorem zKm {a0 d:D}(h:code_impl_ValidPattern.wp (CT Try.prog NoG) (zHy [(.t 2)] d) [a0,.undef,.undef,.undef,.undef,.undef,.undef,.undef,.undef,.undef,.undef,.undef,.undef,.undef,.undef,.undef,.undef,.undef,.undef,.undef,.undef,.undef,.undef,.undef,.undef,.undef,.undef]):Contract Try.prog NoG 60 [a0] d :=
  zAo (pt:=0) noG Try.func60 (fun us W=>by kernel_rfl) (c:=Try.f60.body.getD .skip) (ms:=[]) (ms':=[]) (by kernel_rfl) (by kernel_rfl) (by kernel_rfl) h
def code_impl_patternText:VCode:=(.seq (.ops [
  ⟨some 1,none,.box (.tmp 0)⟩,
  ⟨some 2,none,.asg (.const (.string ⟨⟨[]⟩⟩))⟩]) (.seq (.ops [
  ⟨some 3,none,.alloc [(.slice none 0 0)]⟩]) (.seq (.seq (.ops [
  ⟨some 8,none,.fa 2 (.tmp 1)⟩,
  ⟨some 9,none,.load 1 false (.tmp 8)⟩,
  ⟨some 10,none,.fa 0 (.tmp 1)⟩,
  ⟨some 11,none,.load 1 false (.tmp 10)⟩,
  ⟨some 12,none,.callX 87 [(.tmp 9),(.tmp 11)]⟩]) (.block 0 (.rangeF (.tmp 12) [13] (mB 29 536862896) (.ops [
  ⟨some 4,none,.asg (.tmp 13)⟩]) (.block 1 (.seq (.ops [
  ⟨some 5,none,.mkm (.bld 141 5)⟩]) (.seq (.seq (.ops [
  ⟨some 14,none,.mv (.tmp 4)⟩,
  ⟨some 15,none,.len (.tmp 14)⟩,
  ⟨some 16,none,.mv (.const (.int .i64 0))⟩]) (.block 2 (.loop (mB 33 8589803712) (.seq (.ops [
  ⟨some 17,none,.bin .lss (.tmp 16) (.tmp 15)⟩]) (.seq (.cond (.tmp 17) .skip (.exit 2)) (.seq (.block 3 (.seq (.ops [
  ⟨some 18,none,.ia 1 (.tmp 14) (.tmp 16)⟩,
  ⟨some 19,none,.load 1 false (.tmp 18)⟩,
  ⟨some 7,none,.asg (.tmp 19)⟩]) (.ops [
  ⟨some 20,none,.mv (.tmp 7)⟩,
  ⟨some 21,none,.bin .add (.const (.int .i64 97)) (.tmp 20)⟩,
  ⟨some 22,none,.conv .u8 (.tmp 21)⟩,
  ⟨some 23,none,.callX 88 [(.tmp 5),(.tmp 22)]⟩]))) (.ops [
  ⟨some 24,none,.bin .add (.tmp 16) (.const (.int .i64 1))⟩,
  ⟨some 16,none,.mv (.tmp 24)⟩]))))))) (.drawT (.br 0 ⟨some 25,none,.load 1 false (.tmp 3)⟩ (.br 1 ⟨some 26,none,.callX 89 [(.tmp 5)]⟩ (.br 2 ⟨some 27,none,.bsl 1 [(.tmp 26)]⟩ .done .nil) .nil) (.br 1 ⟨some 26,none,.callX 89 [(.tmp 5)]⟩ (.br 0 ⟨some 25,none,.load 1 false (.tmp 3)⟩ (.br 2 ⟨some 27,none,.bsl 1 [(.tmp 26)]⟩ .done .nil) (.br 2 ⟨some 27,none,.bsl 1 [(.tmp 26)]⟩ (.br 0 ⟨some 25,none,.load 1 false (.tmp 3)⟩ .done .nil) .nil)) .nil)) [⟨some 28,none,.app 1 16 (.tmp 25) (.tmp 27)⟩,⟨none,none,.store 1 (.tmp 3) (.tmp 28)⟩]))))))) (.seq (.ops [
  ⟨some 29,none,.load 1 false (.tmp 3)⟩,
  ⟨some 30,none,.callX 90 [(.tmp 29)]⟩]) (.seq (.ops [
  ⟨some 31,none,.load 1 false (.tmp 3)⟩,
  ⟨some 32,none,.callX 91 [(.tmp 31),(.const (.string ⟨⟨[47]⟩⟩))]⟩,
  ⟨some 2,none,.asg (.tmp 32)⟩]) .ret)))))
theorem zLq {a0 d:D}(h:code_impl_patternText.wp (CT Try.prog NoG) (zHy [(.t 2)] d) [a0,.undef,.undef,.undef,.undef,.undef,.undef,.undef,.undef,.undef,.undef,.undef,.undef,.undef,.undef,.undef,.undef,.undef,.undef,.undef,.undef,.undef,.undef,.undef,.undef,.undef,.undef,.undef,.undef,.undef,.undef,.undef,.undef]):Contract Try.prog NoG 61 [a0] d :=
  zQw (pt:=3145728) noG Try.func61 (fun us W=>by kernel_rfl) (c:=Try.f61.body.getD .skip) (ms:=[(mB 33 8589803712)]) (ms':=[]) (by kernel_rfl) (by kernel_rfl) (by kernel_rfl) (by kernel_rfl) h
def code_impl_PatternText:VCode:=(.seq (.ops [
  ⟨some 1,none,.box (.tmp 0)⟩,
  ⟨some 2,none,.asg (.const (.string ⟨⟨[]⟩⟩))⟩]) (.seq (.seq (.ops [
  ⟨some 3,none,.load 3 true (.tmp 1)⟩,
  ⟨some 4,none,.callX 60 [(.tmp 3)]⟩,
  ⟨some 5,none,.un .not (.tmp 4)⟩]) (.cond (.tmp 5) (.seq (.ops [
  ⟨some 2,none,.asg (.const (.string ⟨⟨[]⟩⟩))⟩]) .ret) .skip)) (.seq (.ops [
  ⟨some 6,none,.load 3 true (.tmp 1)⟩,
  ⟨some 7,none,.callX 61 [(.tmp 6)]⟩,
  ⟨some 2,none,.asg (.tmp 7)⟩]) .ret)))
theorem zLs {a0 d:D}(h:code_impl_PatternText.wp (CT Try.prog NoG) (zHy [(.t 2)] d) [a0,.undef,.undef,.undef,.undef,.undef,.undef,.undef]):Contract Try.prog NoG 26 [a0] d :=
  zAo (pt:=0) noG Try.func26 (fun us W=>by kernel_rfl) (c:=Try.f26.body.getD .skip) (ms:=[]) (ms':=[]) (by kernel_rfl) (by kernel_rfl) (by kernel_rfl) h
theorem zTw {p:Pattern}{W H:Nat}(h:PatB p W H):Contract Try.prog NoG 60 [.agg (Pattern.td.d false p)] (.v (.bool true)):=by have w1:inR 1 10 p.Width=true:=(by rw [h.w,zDq];have:=h.w1;omega);have h1:inR 1 10 p.Height=true:=(by rw [h.h,zDq];have:=h.h1;omega);have hWH:p.Width*p.Height=((p.Cells.length:Nat):Int):=(by rw [h.w,h.h,h.n,Int.mul_comm];rfl);have hle:p.Cells.length≤100:=(by rw [h.n];have:H*W≤10*10:=xG1 h.h1.2 h.w1.2;omega);have wm:IntKind.i64.wrap (p.Width*p.Height)=((p.Cells.length:Nat):Int):=(by rw [hWH];exact wrI qAc qAc);have hall:p.Cells.all (inR 0 5)=true:=(by rw [xBx];intro x hx;rw [zDq];exact h.c x hx);have hb:=yE1 p.Cells 6 qAc qAc qAc;simp only [Int.reduceSub] at hb;rw [hall] at hb;rw [Pattern.td_d];refine zKm ?_;unfold code_impl_ValidPattern;simp -implicitDefEqProofs (disch:=omega) only [go_sem,↓reduceIte];refine zAr (zIj _ _ _) (by simp -implicitDefEqProofs (disch:=omega) only [go_sem,↓reduceIte,deep,TD.rows,zAw,zAt,zA0,zAs,zAv,zAq,w1];exact rfl) ?_;simp -implicitDefEqProofs (disch:=omega) only [go_sem,↓reduceIte ,w1];refine zAr (zIj _ _ _) (by simp -implicitDefEqProofs (disch:=omega) only [go_sem,↓reduceIte,deep,TD.rows,zAw,zAt,zA0,zAs,zAv,zAq,h1,xAw,wm,decide_true];exact rfl) ?_;simp -implicitDefEqProofs (disch:=omega) only [go_sem,↓reduceIte ,h1,xAw,wm,decide_true];refine zAr (hb) qAb ?_;simp -implicitDefEqProofs (disch:=omega) only [go_sem,↓reduceIte]
set_option maxHeartbeats 4000000 in
theorem zVd {p:Pattern} {W H:Nat} (h:PatB p W H):Contract Try.prog NoG 61 [.agg (Pattern.td.d false p)] (.v (.string (yUt p W H))):=by
  have hw1:=h.w1;have hh1:=h.h1;have hle:p.Cells.length≤100:=(by rw [h.n];have:H*W≤10*10:=xG1 h.h1.2 h.w1.2;omega);have hC:=yPb p.Cells W hw1.1 qAc;have hI:=yMi p.Cells W H hw1.1 h.n qAc;rw [Pattern.td_d,h.w];refine zLq ?_;unfold code_impl_patternText;simp -implicitDefEqProofs (disch:=omega) only [go_sem,↓reduceIte];refine zAr (hC) qAb ?_;simp -implicitDefEqProofs (disch:=omega) only [go_sem,↓reduceIte];refine yA0 (N:=H) qAd (by rfl) (fun k=>[.sl false 1 ((yI3 p.Cells W k).map rI)]) (hI) (fun _ _=>rfl) qAd (fun k=>[(3,.box none [.sl true 1 ((zSm p W k).map rS)])]) (fun _=>by simp only [zBq,zBb,xA8,xBc];exact rfl) (by rw [show zSm p W 0=[] from rfl,xBl];exact qAa) ?_ ?_
  · intro k hk;have hcl:=zWh h.n hk;have hcm:∀ x,x∈yI3 p.Cells W k→0≤x∧x≤5:=fun x hx=>h.c x (yNg hx);have hrl:=zSl p W k;have hrn:=yDc p W k;generalize yI3 p.Cells W k=xs at *;simp -implicitDefEqProofs (disch:=omega) only [go_sem,↓reduceIte ,xAw,hcl];refine zBv qAd (fun i:Nat=>[(16,.v (.int .i64 (i:Nat))),(5,.mp (.bld 141 5) [(.string (yCt (xs.take i)),undef)])]) (fun _=>by simp only [zBq,zBb,xA8,xBc];exact rfl) (fun i:Nat=>i≤W) (fun i:Nat=>W-i) (0) (by rw [show yCt (xs.take 0)=⟨⟨[]⟩⟩ from rfl];exact qAa) (xCs _) ?_;intro i hi;simp -implicitDefEqProofs (disch:=omega) only [go_sem,↓reduceIte];refine zAp ?_ ?_<;>intro hlt
    · have hlt:i<W:=(by have:=of_decide_eq_true hlt;omega);have hlx:i<xs.length:=qAc;have e1:=xA1 hlx;have hx:=hcm _ (xB3 hlx);have hn:yCt (xs.take (i+1))=yCt (xs.take i)++yEm (chB xs[i]):=(by rw [xCd hlx,yE8]);have hsz:=zSg (xs.take i);rw [xDh] at hsz;have hW:=zYs (yCt (xs.take i)) (chB xs[i]) qAc;have w1:IntKind.i64.wrap (97+xs[i])=97+xs[i]:=wrI qAc qAc;have w2:IntKind.u8.wrap (97+xs[i])=((chB xs[i]).toNat:Int):=(by rw [yI4 hx];simp only [IntKind.wrap,IntKind.bits,IntKind.signed];simp;omega);simp -implicitDefEqProofs (disch:=omega) only [go_sem,↓reduceIte ,xAw,xAz,xA7,xA0,xAy,xAx,hcl,hlt,e1,rI,w1,w2];refine yNp (r:=5) hW rfl rfl rfl rfl ?_;simp -implicitDefEqProofs (disch:=omega) only [go_sem,↓reduceIte ,wrN];refine ⟨i+1,by omega,hlt,?_⟩;rw [hn];exact zD2
    · obtain rfl:i=W:=(by have:=of_decide_eq_false hlt;omega);have hsz:=zSg xs;have hS:=zR7 (yCt xs) qAc qAc;rw [show xs.take i=xs by rw [← hcl,xDj]];simp -implicitDefEqProofs (disch:=omega) only [go_sem,↓reduceIte];apply zDg
      case h =>
        intro K2 hK2;simp -implicitDefEqProofs (disch:=omega) only [go_sem,↓reduceIte]
        repeat' (first
          | with_reducible exact hK2
          | with_reducible refine And.intro ?_ ?_
          | ((with_reducible refine ySk ?_);refine yI7 (r:=5) hS rfl rfl rfl ?_;simp -implicitDefEqProofs (disch:=omega) only [go_sem,↓reduceIte]))
      simp -implicitDefEqProofs (disch:=omega) only [go_sem,↓reduceIte ,zCh,xAw,hrl];refine ⟨by omega,_,?_,rfl⟩;rw [hrn,xBo];exact zD2
  · have hrl:=zSl p W H;have hR:=yE3 (zSm p W H) qAc;have hJ:=yU0 (zSm p W H).reverse ⟨⟨[47]⟩⟩ (by rw [xFj];omega) (by have:=yQ8 h;unfold yUt at this;omega);simp -implicitDefEqProofs (disch:=omega) only [go_sem,↓reduceIte];refine yEf (i:=0) (x:=.tmp 29) (q:=[(0,0)]) hR rfl rfl qAh rfl rfl qAb rfl qAb (by repeat (first | exact zEh | refine zDf ?_ ?_ | exact le_of_eq rfl | exact zDe (zBs rfl) | refine zGx ?_ | exact zGw rfl (TD.rows ..) | refine zEg ?_ | refine zL0 ?_ ?_ | exact zCg)) ⟨rfl,by simp only [D.noImm,zBm,go_sem,TD.nims,TD.nim,zOr,zIt,zIs,zOq]⟩ ?_;simp -implicitDefEqProofs (disch:=omega) only [go_sem,↓reduceIte];refine zAr (hJ) qAb ?_;simp -implicitDefEqProofs (disch:=omega) only [go_sem,↓reduceIte];rfl
set_option maxHeartbeats 1000000 in
theorem zVg {p:Pattern}{W H:Nat}(h:PatB p W H):Contract Try.prog NoG 26 [.agg (Pattern.td.d false p)] (.v (.string (yUt p W H))):=by have h1:=zTw h;have h2:=zVd h;rw [Pattern.td_d] at h1 h2 ⊢;refine zLs ?_;unfold code_impl_PatternText;simp -implicitDefEqProofs (disch:=omega) only [go_sem,↓reduceIte];refine zAr (h1) (by simp -implicitDefEqProofs (disch:=omega) only [go_sem,↓reduceIte,deep,TD.rows,zAw,zAt,zA0,zAs,zAv,zAq,xBr];exact rfl) ?_;simp -implicitDefEqProofs (disch:=omega) only [go_sem,↓reduceIte ,xBr];refine zAr (h2) qAb ?_;simp -implicitDefEqProofs (disch:=omega) only [go_sem,↓reduceIte]
end Go.Proofs.Ytaleehohmpohoaa
