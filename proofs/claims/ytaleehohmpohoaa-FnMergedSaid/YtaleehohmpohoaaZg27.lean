/- Laws that the proof stands on. -/
import Derived.Test.YtaleehohmpohoaaZVTwo
import Derived.Test.YtaleehohmpohoaaZg23
import Derived.Test.YtaleehohmpohoaaZg20
set_option linter.all false
namespace Go.Proofs.Ytaleehohmpohoaa
open Go.RowKit Go.V
attribute [local go_sem] xD4 xDy xDz xDv xDu xEb xD9 xEn xEa xFu xEi xE3 xEc xFd xEv xE2 xD7 xEd xEk xFg Value.oneCell' xFf xEy xFh xFl xFm xDw xD5 and_true true_and beq_self_eq_true xDr if_true if_false xEm Nat.reduceAdd Nat.reduceMul Nat.reduceLeDiff xD8 xEu xEt not_true_eq_false not_false_eq_true ne_eq reduceCtorEq xE1 bne_self_eq_false Nat.reduceEqDiff List.isPrefixOf xEs xFe xE0 xFt xFi decide_true decide_false Nat.reduceBEq Nat.reduceBNe xEl xEr exists_eq_left' exists_eq_left xDi or_false or_true true_or false_or xDk xFa mB Nat.reduceMod Nat.reduceDiv
set_option maxRecDepth 100000
def cI (x:Int):D:=.v (.int .i64 x)
theorem zO9 {N:List Int}{k:Nat}(h:k<N.length):((N.map cI).drop k).take 1=[cI (N.getD k 0)]:=by rw [← List.map_drop,xHx h,xDu,xDt,xDl h];rfl
theorem yUp (r:Nat)(q:zBz)(i:Nat):∀ (N:List Int) (j:Nat),zJ6 r q i j (N.map cI)=N.map cI
  | [],_=>rfl
  | x::N,j=>by show (if D.owny (cI x) then D.undef else cI x)::zJ6 r q i (j+1) (N.map cI)=_;rw [yUp r q i N (j+1)];rfl
theorem zAq (q:D→Bool):∀ N:List Int,zAh q (N.map cI)=N.map cI
  | []=>rfl
  | x::N=>by show D.prune q (cI x)::zAh q (N.map cI)=_;rw [zAq q N];rfl
theorem zS4 (s:List D)(n:Nat):∀ N:List Int,(N.map cI).map (deep s (n+1))=N.map cI
  | []=>rfl
  | x::N=>by rw [xDu,xDu,zS4 s n N];rfl
theorem zOi (N:List Int):(N.map cI).all D.plain=true:=by rw [xEh];intro x hx;obtain ⟨k,_,rfl⟩:=xEg.1 hx;rfl
theorem yFj:∀ N:List Int,zDf (N.map cI)=false
  | []=>rfl
  | x::N=>yFj N
theorem xBl (N:List Int):leL (N.map cI) (N.map cI)=True:=eq_true (zFn _)
theorem yOe:∀ N:List Int,zCp (N.map cI)=true
  | []=>rfl
  | x::N=>yOe N
theorem yW0 (s:List D):∀ (N:List Int) (K:List D→List D→Prop),zD0 s (N.map cI) K=K (N.map cI) s
  | [],K=>rfl
  | x::N,K=>by show ((cI x).leaf=true∧zD0 s (N.map cI) (fun ds' s''=>K (cI x::ds') s''))=_;rw [yW0 s N];exact propext ⟨fun h=>h.2,fun h=>⟨rfl,h⟩⟩
def yA8 (i:Nat):List Int:=(List.range 120).map fun k=>if k<i then (k:Int) else 0
theorem zP2 (i:Nat):(yA8 i).length=120:=by simp [yA8]
theorem zT4 {i j:Nat}(h:j<120):(yA8 i)[j]?=some (if j<i then (j:Int) else 0):=by unfold yA8;rw [xDm,xH1 h];rfl
theorem yLo {i:Nat}(h:i<120):(yA8 i).set i (i:Int)=yA8 (i+1):=by
  apply xF3;intro j;by_cases hj:j<120
  · rw [zT4 hj];by_cases e:i=j
    · subst e;rw [xEj (by rw [zP2];exact h),if_pos (by omega)]
    · rw [xDx e,zT4 hj];by_cases hji:j<i
      · rw [if_pos hji,if_pos (by omega)]
      · rw [if_neg hji,if_neg (by omega)]
  · rw [xFz (by rw [xHc,zP2];omega),xFz (by rw [zP2];omega)]
theorem yLp:yA8 120=idN:=by unfold yA8 idN zY9;exact xG5 fun k hk=>by rw [if_pos (xFs.1 hk)]
theorem yXk:(yA8 0).map cI=List.replicate 120 (.v (.int .i64 0)):=by unfold yA8;rfl
def code_impl_newNames:VCode:=(.seq (.ops [
  ⟨some 0,none,.asg (.const (.pointer none))⟩]) (.seq (.ops [
  ⟨some 3,none,.build [(.int .i64 0),(.int .i64 0),(.int .i64 0),(.int .i64 0),(.int .i64 0),(.int .i64 0),(.int .i64 0),(.int .i64 0),(.int .i64 0),(.int .i64 0),(.int .i64 0),(.int .i64 0),(.int .i64 0),(.int .i64 0),(.int .i64 0),(.int .i64 0),(.int .i64 0),(.int .i64 0),(.int .i64 0),(.int .i64 0),(.int .i64 0),(.int .i64 0),(.int .i64 0),(.int .i64 0),(.int .i64 0),(.int .i64 0),(.int .i64 0),(.int .i64 0),(.int .i64 0),(.int .i64 0),(.int .i64 0),(.int .i64 0),(.int .i64 0),(.int .i64 0),(.int .i64 0),(.int .i64 0),(.int .i64 0),(.int .i64 0),(.int .i64 0),(.int .i64 0),(.int .i64 0),(.int .i64 0),(.int .i64 0),(.int .i64 0),(.int .i64 0),(.int .i64 0),(.int .i64 0),(.int .i64 0),(.int .i64 0),(.int .i64 0),(.int .i64 0),(.int .i64 0),(.int .i64 0),(.int .i64 0),(.int .i64 0),(.int .i64 0),(.int .i64 0),(.int .i64 0),(.int .i64 0),(.int .i64 0),(.int .i64 0),(.int .i64 0),(.int .i64 0),(.int .i64 0),(.int .i64 0),(.int .i64 0),(.int .i64 0),(.int .i64 0),(.int .i64 0),(.int .i64 0),(.int .i64 0),(.int .i64 0),(.int .i64 0),(.int .i64 0),(.int .i64 0),(.int .i64 0),(.int .i64 0),(.int .i64 0),(.int .i64 0),(.int .i64 0),(.int .i64 0),(.int .i64 0),(.int .i64 0),(.int .i64 0),(.int .i64 0),(.int .i64 0),(.int .i64 0),(.int .i64 0),(.int .i64 0),(.int .i64 0),(.int .i64 0),(.int .i64 0),(.int .i64 0),(.int .i64 0),(.int .i64 0),(.int .i64 0),(.int .i64 0),(.int .i64 0),(.int .i64 0),(.int .i64 0),(.int .i64 0),(.int .i64 0),(.int .i64 0),(.int .i64 0),(.int .i64 0),(.int .i64 0),(.int .i64 0),(.int .i64 0),(.int .i64 0),(.int .i64 0),(.int .i64 0),(.int .i64 0),(.int .i64 0),(.int .i64 0),(.int .i64 0),(.int .i64 0),(.int .i64 0),(.int .i64 0),(.int .i64 0),(.int .i64 0)] []⟩,
  ⟨some 4,none,.box (.tmp 3)⟩,
  ⟨some 1,none,.asg (.tmp 4)⟩]) (.seq (.seq (.ops [
  ⟨some 5,none,.mv (.const (.int .i64 0))⟩]) (.block 0 (.loop (mB 16 65477) (.seq (.ops [
  ⟨some 6,none,.bin .lss (.tmp 5) (.const (.int .i64 120))⟩]) (.seq (.cond (.tmp 6) .skip (.exit 0)) (.seq (.block 1 (.seq (.ops [
  ⟨some 7,none,.mv (.tmp 5)⟩,
  ⟨some 2,none,.asg (.tmp 7)⟩]) (.ops [
  ⟨some 8,none,.mv (.tmp 1)⟩,
  ⟨some 9,none,.mv (.tmp 2)⟩,
  ⟨some 10,none,.mv (.tmp 2)⟩,
  ⟨some 11,none,.nilc (.tmp 8)⟩,
  ⟨some 12,none,.fa 0 (.tmp 11)⟩,
  ⟨some 13,none,.iaa 120 1 (.tmp 12) (.tmp 9)⟩,
  ⟨none,none,.store 1 (.tmp 13) (.tmp 10)⟩]))) (.ops [
  ⟨some 14,none,.bin .add (.tmp 5) (.const (.int .i64 1))⟩,
  ⟨some 5,none,.mv (.tmp 14)⟩]))))))) (.seq (.ops [
  ⟨some 15,none,.mv (.tmp 1)⟩,
  ⟨some 0,none,.asg (.tmp 15)⟩]) .ret))))
theorem zOp { d:D}(h:code_impl_newNames.wp (CT Try.prog NoG) (zG3 [(.t 0)] d) [.undef,.undef,.undef,.undef,.undef,.undef,.undef,.undef,.undef,.undef,.undef,.undef,.undef,.undef,.undef,.undef]):Contract Try.prog NoG 77 [] d :=
  zAt (pt:=0) noG Try.func77 (fun us W=>by kernel_rfl) (c:=Try.f77.body.getD .skip) (ms:=[(mB 16 65477)]) (ms':=[]) (by kernel_rfl) (by kernel_rfl) (by kernel_rfl) h
def code_impl_names_merge:VCode:=(.seq (.ops [
  ⟨some 6,none,.asg (.const (.bool false))⟩]) (.seq (.draw (mB 23 8386688) (mB 17 65536) [⟨0,mB 23 8386688,[],⟨some 11,none,.mv (.tmp 0)⟩⟩,⟨1,mB 23 8386688,[],⟨some 12,none,.mv (.tmp 1)⟩⟩,⟨2,mB 23 8384640,[],⟨some 13,none,.nilc (.tmp 11)⟩⟩,⟨3,mB 23 8376448,[],⟨some 14,none,.fa 0 (.tmp 13)⟩⟩,⟨4,mB 23 8355968,[],⟨some 15,none,.iaa 120 1 (.tmp 14) (.tmp 12)⟩⟩,⟨5,mB 23 8323200,[],⟨some 16,none,.load 1 false (.tmp 15)⟩⟩,⟨6,mB 23 8386688,[],⟨some 17,none,.mv (.tmp 0)⟩⟩,⟨7,mB 23 8386688,[],⟨some 18,none,.mv (.tmp 2)⟩⟩,⟨8,mB 23 8255616,[],⟨some 19,none,.nilc (.tmp 17)⟩⟩,⟨9,mB 23 7731328,[],⟨some 20,none,.fa 0 (.tmp 19)⟩⟩,⟨10,mB 23 6420608,[],⟨some 21,none,.iaa 120 1 (.tmp 20) (.tmp 18)⟩⟩,⟨11,mB 23 4323456,[],⟨some 22,none,.load 1 false (.tmp 21)⟩⟩,⟨12,mB 23 8257664,(mB 17 65536),⟨some 7,none,.asg (.tmp 16)⟩⟩] [⟨some 8,none,.asg (.tmp 22)⟩]) (.seq (.seq (.ops [
  ⟨some 23,none,.mv (.tmp 7)⟩,
  ⟨some 24,none,.mv (.tmp 8)⟩,
  ⟨some 25,none,.bin .eql (.tmp 23) (.tmp 24)⟩]) (.cond (.tmp 25) (.seq (.ops [
  ⟨some 6,none,.asg (.const (.bool false))⟩]) .ret) .skip)) (.seq (.seq (.ops [
  ⟨some 26,none,.mv (.tmp 0)⟩,
  ⟨some 27,none,.nilc (.tmp 26)⟩,
  ⟨some 28,none,.fa 0 (.tmp 27)⟩,
  ⟨some 29,none,.load 120 true (.tmp 28)⟩,
  ⟨some 30,none,.mv (.const (.int .i64 0))⟩]) (.block 0 (.loop (mB 48 0xffff83fffe7e) (.seq (.ops [
  ⟨some 31,none,.bin .lss (.tmp 30) (.const (.int .i64 120))⟩]) (.seq (.cond (.tmp 31) .skip (.exit 0)) (.seq (.block 1 (.seq (.ops [
  ⟨some 32,none,.mv (.tmp 30)⟩,
  ⟨some 33,none,.ixa 120 1 false (.tmp 29) (.tmp 30)⟩,
  ⟨some 9,none,.asg (.tmp 32)⟩,
  ⟨some 10,none,.asg (.tmp 33)⟩]) (.seq (.ops [
  ⟨some 34,none,.mv (.tmp 10)⟩,
  ⟨some 35,none,.mv (.tmp 7)⟩,
  ⟨some 36,none,.mv (.tmp 8)⟩,
  ⟨some 37,none,.mm true [(.tmp 35),(.tmp 36)]⟩,
  ⟨some 38,none,.bin .eql (.tmp 34) (.tmp 37)⟩]) (.cond (.tmp 38) (.ops [
  ⟨some 39,none,.mv (.tmp 0)⟩,
  ⟨some 40,none,.mv (.tmp 9)⟩,
  ⟨some 41,none,.mv (.tmp 7)⟩,
  ⟨some 42,none,.mv (.tmp 8)⟩,
  ⟨some 43,none,.mm false [(.tmp 41),(.tmp 42)]⟩,
  ⟨some 44,none,.nilc (.tmp 39)⟩,
  ⟨some 45,none,.fa 0 (.tmp 44)⟩,
  ⟨some 46,none,.iaa 120 1 (.tmp 45) (.tmp 40)⟩,
  ⟨none,none,.store 1 (.tmp 46) (.tmp 43)⟩]) .skip)))) (.ops [
  ⟨some 47,none,.bin .add (.tmp 30) (.const (.int .i64 1))⟩,
  ⟨some 30,none,.mv (.tmp 47)⟩]))))))) (.seq (.ops [
  ⟨some 6,none,.asg (.const (.bool true))⟩]) .ret)))))
theorem zJ1 {a0 a1 a2 d:D}{cells cells':List D}(h:∀ b,code_impl_names_merge.wp (CT Try.prog NoG) (yHl [(.t 6)] d 0 b cells') [.box (some b) cells,a1,a2,.undef,.undef,.undef,.undef,.undef,.undef,.undef,.undef,.undef,.undef,.undef,.undef,.undef,.undef,.undef,.undef,.undef,.undef,.undef,.undef,.undef,.undef,.undef,.undef,.undef,.undef,.undef,.undef,.undef,.undef,.undef,.undef,.undef,.undef,.undef,.undef,.undef,.undef,.undef,.undef,.undef,.undef,.undef,.undef,.undef]):ContractX Try.prog NoG 78 0 [a0,a1,a2] cells d cells' :=
  zDh (pt:=0) noG Try.func78 (fun us W=>by kernel_rfl) (c:=Try.f78.body.getD .skip) (ms:=[(mB 48 0xffff83fffe7e)]) (ms':=[]) (by kernel_rfl) (by kernel_rfl) (by kernel_rfl) (by simp) h
theorem zSc:Contract Try.prog NoG 77 [] (.box none (idN.map cI)):=by
  refine zOp ?_;unfold code_impl_newNames;simp -implicitDefEqProofs (disch:=omega) only [go_sem,↓reduceIte];refine zB5 (by simp -implicitDefEqProofs (disch:=omega) only [go_sem,↓reduceIte];exact rfl) (fun i:Nat=>[(5,.v (.int .i64 (i:Nat))),(4,.box none ((yA8 i).map cI))]) (fun _=>by simp only [zB0,zBe,xDv,xDz];exact rfl) (fun i:Nat=>i≤120) (fun i:Nat=>120-i) (0) (by rw [yXk,show List.replicate 120 (D.v (.int .i64 0))=_ from rfl];(try simp -implicitDefEqProofs only [zCz,zCy,zB6,zB8,zB9,zB7,and_self,and_true,true_and])<;>repeat' (first | exact zBr rfl | exact zCu | apply And.intro | apply zD3 | apply zBb | apply zBl | exact zB1 | exact zBs | apply zCv | apply zCw)) (xE9 _) ?_;intro i hi;simp -implicitDefEqProofs (disch:=omega) only [go_sem,↓reduceIte ,xDj,xDo,xD3,xDp,xDm,xDk];refine zAu ?_ ?_<;>intro hlt
  · have hlt:i<120:=(by have:=of_decide_eq_true hlt;omega);have hs:((yA8 i).map cI).set i (.v (.int .i64 (i:Int)))=(yA8 (i+1)).map cI:=(by rw [← yLo hlt,xJc];rfl);have hg:=zT4 (i:=i) hlt;have wi:IntKind.i64.wrap ((i:Int)+1)=((i+1:Nat):Int):=wrI (by omega) (by omega);simp -implicitDefEqProofs (disch:=omega) only [go_sem,↓reduceIte ,xDj,xDo,xD3,xDp,xDm,xDk,hlt,wi,hg,zP2,hs,cI,xHo];refine ⟨i+1,by omega,by omega,?_⟩
    try simp only [zNj,zAq,D.prune,zAh,zBj]
    exact zEx
  · obtain rfl:i=120:=(by have:=of_decide_eq_false hlt;omega);simp -implicitDefEqProofs (disch:=omega) only [go_sem,↓reduceIte ,yLp,zAq,yOe,yW0]
def zH8 (N:List Int)(x y:Int)(i:Nat):List Int:=(N.take i).map (zFm x y)++N.drop i
theorem zV0 (N:List Int)(x y:Int)(i:Nat):(zH8 N x y i).length=N.length:=by unfold zH8;rw [xFx,xDj,xFy,xG0];omega
theorem yGt (N:List Int)(x y:Int):zH8 N x y 0=N:=by unfold zH8;simp
theorem zV1 {N:List Int}{x y:Int}{i:Nat}(h:N.length=i):zH8 N x y i=N.map (zFm x y):=by unfold zH8;rw [← h,xF8,List.drop_length,xEk]
theorem zUa {N:List Int}{x y:Int}{i:Nat}(h:i<N.length):(zH8 N x y i)[i]?=some (N.getD i 0):=by unfold zH8;rw [xFq (by rw [xDj,xFy];omega),xDj,xFy,xF1,xDt,show i+(i-min i N.length)=i by omega,xDl h];rfl
theorem zRh {N:List Int}{x y:Int}{i:Nat}(h:i<N.length):(zH8 N x y i).set i (zFm x y (N.getD i 0))=zH8 N x y (i+1):=by unfold zH8;rw [List.set_append_right _ _ (by rw [xDj,xFy];omega),xDj,xFy,show i-min i N.length=0 by omega,xHx h,xDv,xFb h,xEz,xF9,xDt,xDl h];rfl
theorem zSu {N:List Int}{x y:Int}{i:Nat}(h:i<N.length)(he:zFm x y (N.getD i 0)=N.getD i 0):zH8 N x y i=zH8 N x y (i+1):=by
  rw [← zRh h,he];apply xF3;intro j;by_cases hj:i=j
  · subst hj;rw [xEj (by rw [zV0];exact h),zUa h]
  · rw [xDx hj]
theorem zPv (N:List Int) (a c:Int) (hN:OkN N) (ha:inG a) (hc:inG c):ContractX Try.prog NoG 78 0 [.undef,.v (.int .i64 a),.v (.int .i64 c)] (N.map cI) (.v (.bool (!decide (gN N a=gN N c)))) ((zA7 N a c).map cI):=by
  refine zJ1 fun b=>?_;unfold code_impl_names_merge;have hl:=hN.len;obtain ⟨am,ai,al⟩:=hN.at ha;obtain ⟨cm,ci,cl⟩:=hN.at hc;have ea:=zO9 al;have ec:=zO9 cl;have ga:N.getD a.toNat 0=gN N a:=rfl;have gc:N.getD c.toNat 0=gN N c:=rfl;rw [ga] at ea;rw [gc] at ec;unfold inG at ha hc;have a1:a.toNat+1≤120:=by omega
  have c1:c.toNat+1≤120:=(by omega);simp -implicitDefEqProofs (disch:=omega) only [go_sem,↓reduceIte ,xDj,xDo,xD3,xDp,xDm,xDk,ea,ec,hl,xHo,xEm,cI,zAq];refine ⟨by omega,by omega,by omega,by omega,by omega,by omega,?_⟩;refine zAu ?_ ?_<;>intro hq
  · have e:gN N a=gN N c:=of_decide_eq_true hq;rw [zEv e];simp -implicitDefEqProofs (disch:=omega) only [go_sem,↓reduceIte ,hq,zAq,xBl]
  · have e:¬ gN N a=gN N c:=of_decide_eq_false hq;have et:List.take 120 (List.map cI N)=List.map cI N:=xGd (by rw [xDj,hl];exact xD8 _);have hj:zA7 N a c=N.map (zFm (gN N a) (gN N c)):=rfl;have hmx:(if gN N c>gN N a then gN N c else gN N a)=max (gN N a) (gN N c):=(by split<;>omega);have hmn:(if gN N c<gN N a then gN N c else gN N a)=min (gN N a) (gN N c):=(by split<;>omega);rw [hj];generalize gN N a=x at *;generalize gN N c=y at *;simp -implicitDefEqProofs (disch:=omega) only [go_sem,↓reduceIte ,xDj,xDo,xD3,xDp,xDm,xDk,hl,et,yUp,zAq];refine zB5 (by simp -implicitDefEqProofs (disch:=omega) only [go_sem,↓reduceIte];exact rfl) (fun i:Nat=>[(30,.v (.int .i64 (i:Nat))),(0,.box (some b) ((zH8 N x y i).map cI))]) (fun _=>by simp only [zB0,zBe,xDv,xDz];exact rfl) (fun i:Nat=>i≤120) (fun i:Nat=>120-i) (0) (by rw [yGt,zAq];(try simp -implicitDefEqProofs only [zCz,zCy,zB6,zB8,zB9,zB7,and_self,and_true,true_and])<;>repeat' (first | exact zBr rfl | exact zCu | apply And.intro | apply zD3 | apply zBb | apply zBl | exact zB1 | exact zBs | apply zCv | apply zCw)) (xE9 _) ?_;intro i hi;simp -implicitDefEqProofs (disch:=omega) only [go_sem,↓reduceIte ,xDj,xDo,xD3,xDp,xDm,xDk,zAq,yFj];refine zAu ?_ ?_<;>intro hlt
    · have hlt:i<120:=(by have:=of_decide_eq_true hlt;omega);have ei:=zO9 (N:=N) (k:=i) (by omega);have wi:IntKind.i64.wrap ((i:Int)+1)=((i+1:Nat):Int):=wrI (by omega) (by omega);have hs:=zRh (x:=x) (y:=y) (show i<N.length by omega);have hk:=zSu (x:=x) (y:=y) (show i<N.length by omega);have hg:=zUa (x:=x) (y:=y) (show i<N.length by omega)
      generalize N.getD i 0=k at *;simp -implicitDefEqProofs (disch:=omega) only [go_sem,↓reduceIte ,xDj,xDo,xD3,xDp,xDm,xDk,ei,hl,hlt,xHo,hmx,zAq,yFj,yUp,cI];refine zAu ?_ ?_<;>intro hm
      · have e2:zFm x y k=min x y:=(by unfold zFm;rw [if_pos (of_decide_eq_true hm)]);rw [e2] at hs;have hs2:((zH8 N x y i).map cI).set i (.v (.int .i64 (min x y)))=(zH8 N x y (i+1)).map cI:=(by rw [← hs,xJc];rfl);have hll:=zV0 N x y i;simp -implicitDefEqProofs (disch:=omega) only [go_sem,↓reduceIte ,xDj,xDo,xD3,xDp,xDm,xDk,hlt,wi,hg,hll,hl,hs2,xHo,hmn,zAq,cI];refine ⟨i+1,by omega,by omega,?_⟩
        try simp only [zNj,zAq,D.prune,zAh,zBj]
        exact zEx
      · have e2:zFm x y k=k:=(by unfold zFm;rw [if_neg (of_decide_eq_false hm)]);have hk:=hk e2;simp -implicitDefEqProofs (disch:=omega) only [go_sem,↓reduceIte ,xDj,xDo,xD3,xDp,xDm,xDk,hlt,wi,zAq];refine ⟨i+1,by omega,by omega,?_⟩;rw [hk]
        try simp only [zNj,zAq,D.prune,zAh,zBj]
        exact zEx
    · obtain rfl:i=120:=(by have:=of_decide_eq_false hlt;omega);simp -implicitDefEqProofs (disch:=omega) only [go_sem,↓reduceIte ,zAq,hq,zV1 hl,xBl]
def code_impl_names_list:VCode:=(.seq (.ops [
  ⟨some 4,none,.asg (.const (.slice none 0 0))⟩]) (.seq (.ops [
  ⟨some 5,none,.asg (.const (.slice none 0 0))⟩]) (.seq (.seq (.ops [
  ⟨some 8,none,.mv (.tmp 1)⟩,
  ⟨some 9,none,.len (.tmp 8)⟩,
  ⟨some 10,none,.mv (.const (.int .i64 0))⟩]) (.block 0 (.loop (mB 25 27244766) (.seq (.ops [
  ⟨some 11,none,.bin .lss (.tmp 10) (.tmp 9)⟩]) (.seq (.cond (.tmp 11) .skip (.exit 0)) (.seq (.block 1 (.seq (.ops [
  ⟨some 12,none,.ia 1 (.tmp 8) (.tmp 10)⟩,
  ⟨some 13,none,.load 1 false (.tmp 12)⟩,
  ⟨some 7,none,.asg (.tmp 13)⟩]) (.ops [
  ⟨some 14,none,.mv (.tmp 5)⟩,
  ⟨some 15,none,.mv (.tmp 0)⟩,
  ⟨some 16,none,.mv (.tmp 7)⟩,
  ⟨some 17,none,.nilc (.tmp 15)⟩,
  ⟨some 18,none,.fa 0 (.tmp 17)⟩,
  ⟨some 19,none,.iaa 120 1 (.tmp 18) (.tmp 16)⟩,
  ⟨some 20,none,.load 1 false (.tmp 19)⟩,
  ⟨some 21,none,.bsl 1 [(.tmp 20)]⟩,
  ⟨some 22,none,.app 1 8 (.tmp 14) (.tmp 21)⟩,
  ⟨some 5,none,.asg (.tmp 22)⟩]))) (.ops [
  ⟨some 23,none,.bin .add (.tmp 10) (.const (.int .i64 1))⟩,
  ⟨some 10,none,.mv (.tmp 23)⟩]))))))) (.seq (.ops [
  ⟨some 24,none,.mv (.tmp 5)⟩,
  ⟨some 4,none,.asg (.tmp 24)⟩]) .ret))))
theorem zKh {a0 a1 d:D}(h:code_impl_names_list.wp (CT Try.prog NoG) (zG3 [(.t 4)] d) [a0,a1,.undef,.undef,.undef,.undef,.undef,.undef,.undef,.undef,.undef,.undef,.undef,.undef,.undef,.undef,.undef,.undef,.undef,.undef,.undef,.undef,.undef,.undef,.undef]):Contract Try.prog NoG 101 [a0,a1] d :=
  zAt (pt:=0) noG Try.func101 (fun us W=>by kernel_rfl) (c:=Try.f101.body.getD .skip) (ms:=[(mB 25 27244766)]) (ms':=[]) (by kernel_rfl) (by kernel_rfl) (by kernel_rfl) h
def code_impl_merger_piece:VCode:=(.seq (.ops [
  ⟨some 2,none,.box (.tmp 0)⟩,
  ⟨some 3,none,.box (.tmp 1)⟩,
  ⟨some 4,none,.alloc [(.int .i64 0),(.int .i64 0),(.int .i64 0),(.int .i64 0),(.int .i64 0)]⟩]) (.seq (.draw (mB 39 549755813856) [] [⟨0,mB 39 549755813856,[],⟨some 5,none,.fa 0 (.tmp 3)⟩⟩,⟨1,mB 39 549755813824,[],⟨some 6,none,.load 1 false (.tmp 5)⟩⟩,⟨2,mB 39 549755813856,[],⟨some 7,none,.fa 0 (.tmp 2)⟩⟩,⟨3,mB 39 549755813728,[],⟨some 8,none,.load 1 false (.tmp 7)⟩⟩,⟨4,mB 39 549755813856,[],⟨some 9,none,.fa 1 (.tmp 3)⟩⟩,⟨5,mB 39 549755813344,[],⟨some 10,none,.load 1 false (.tmp 9)⟩⟩,⟨6,mB 39 549755813472,[],⟨some 11,none,.nilc (.tmp 8)⟩⟩,⟨7,mB 39 549755811424,[],⟨some 12,none,.fa 0 (.tmp 11)⟩⟩,⟨8,mB 39 549755805792,[],⟨some 13,none,.iaa 120 1 (.tmp 12) (.tmp 10)⟩⟩,⟨9,mB 39 549755797600,[],⟨some 14,none,.load 1 false (.tmp 13)⟩⟩,⟨10,mB 39 549755813856,[],⟨some 15,none,.fa 1 (.tmp 2)⟩⟩,⟨11,mB 39 549755781088,[],⟨some 16,none,.load 1 false (.tmp 15)⟩⟩,⟨12,mB 39 549755813856,[],⟨some 17,none,.fa 2 (.tmp 3)⟩⟩,⟨13,mB 39 549755682784,[],⟨some 18,none,.load 1 false (.tmp 17)⟩⟩,⟨14,mB 39 549755715552,[],⟨some 19,none,.nilc (.tmp 16)⟩⟩,⟨15,mB 39 549755191264,[],⟨some 20,none,.fa 0 (.tmp 19)⟩⟩,⟨16,mB 39 549753749472,[],⟨some 21,none,.iaa 120 1 (.tmp 20) (.tmp 18)⟩⟩,⟨17,mB 39 549751652320,[],⟨some 22,none,.load 1 false (.tmp 21)⟩⟩,⟨18,mB 39 549755813856,[],⟨some 23,none,.fa 0 (.tmp 2)⟩⟩,⟨19,mB 39 549747425248,[],⟨some 24,none,.load 1 false (.tmp 23)⟩⟩,⟨20,mB 39 549755813856,[],⟨some 25,none,.fa 3 (.tmp 3)⟩⟩,⟨21,mB 39 549722259424,[],⟨some 26,none,.load 1 false (.tmp 25)⟩⟩,⟨22,mB 39 549730648032,[],⟨some 27,none,.nilc (.tmp 24)⟩⟩,⟨23,mB 39 549596430304,[],⟨some 28,none,.fa 0 (.tmp 27)⟩⟩,⟨24,mB 39 549227331552,[],⟨some 29,none,.iaa 120 1 (.tmp 28) (.tmp 26)⟩⟩,⟨25,mB 39 548690460640,[],⟨some 30,none,.load 1 false (.tmp 29)⟩⟩,⟨26,mB 39 549755813856,[],⟨some 31,none,.fa 1 (.tmp 2)⟩⟩,⟨27,mB 39 547608330208,[],⟨some 32,none,.load 1 false (.tmp 31)⟩⟩,⟨28,mB 39 549755813856,[],⟨some 33,none,.fa 4 (.tmp 3)⟩⟩,⟨29,mB 39 541165879264,[],⟨some 34,none,.load 1 false (.tmp 33)⟩⟩,⟨30,mB 39 543313362912,[],⟨some 35,none,.nilc (.tmp 32)⟩⟩,⟨31,mB 39 508953624544,[],⟨some 36,none,.fa 0 (.tmp 35)⟩⟩,⟨32,mB 39 414464344032,[],⟨some 37,none,.iaa 120 1 (.tmp 36) (.tmp 34)⟩⟩,⟨33,mB 39 277025390560,[],⟨some 38,none,.load 1 false (.tmp 37)⟩⟩] [⟨some 39,none,.build [(.int .i64 0),(.int .i64 0),(.int .i64 0),(.int .i64 0),(.int .i64 0)] [(0,1,(.tmp 6)),(1,1,(.tmp 14)),(2,1,(.tmp 22)),(3,1,(.tmp 30)),(4,1,(.tmp 38))]⟩,⟨none,none,.store 5 (.tmp 4) (.tmp 39)⟩]) .ret))
theorem zI2 {a0 a1 d:D}(h:code_impl_merger_piece.wp (CT Try.prog NoG) (zG3 [(.c 4 5 true)] d) [a0,a1,.undef,.undef,.undef,.undef,.undef,.undef,.undef,.undef,.undef,.undef,.undef,.undef,.undef,.undef,.undef,.undef,.undef,.undef,.undef,.undef,.undef,.undef,.undef,.undef,.undef,.undef,.undef,.undef,.undef,.undef,.undef,.undef,.undef,.undef,.undef,.undef,.undef,.undef]):Contract Try.prog NoG 100 [a0,a1] d :=
  zAt (pt:=0) noG Try.func100 (fun us W=>by kernel_rfl) (c:=Try.f100.body.getD .skip) (ms:=[]) (ms':=[]) (by kernel_rfl) (by kernel_rfl) (by kernel_rfl) h
def code_impl_merger_outlets:VCode:=(.seq (.ops [
  ⟨some 3,none,.box (.tmp 0)⟩,
  ⟨some 4,none,.box (.tmp 1)⟩,
  ⟨some 5,none,.box (.tmp 2)⟩,
  ⟨some 6,none,.asg (.const (.bool false))⟩]) (.seq (.ops [
  ⟨some 8,none,.fa 0 (.tmp 3)⟩,
  ⟨some 9,none,.load 1 false (.tmp 8)⟩,
  ⟨some 10,none,.fa 1 (.tmp 4)⟩,
  ⟨some 11,none,.load 1 false (.tmp 10)⟩,
  ⟨some 12,none,.fa 1 (.tmp 5)⟩,
  ⟨some 13,none,.load 1 false (.tmp 12)⟩,
  ⟨some 14,none,.callX 78 [(.tmp 9),(.tmp 11),(.tmp 13)]⟩,
  ⟨some 7,none,.asg (.tmp 14)⟩]) (.seq (.ops [
  ⟨some 15,none,.fa 1 (.tmp 3)⟩,
  ⟨some 16,none,.load 1 false (.tmp 15)⟩,
  ⟨some 17,none,.fa 2 (.tmp 4)⟩,
  ⟨some 18,none,.load 1 false (.tmp 17)⟩,
  ⟨some 19,none,.fa 2 (.tmp 5)⟩,
  ⟨some 20,none,.load 1 false (.tmp 19)⟩,
  ⟨some 21,none,.callX 78 [(.tmp 16),(.tmp 18),(.tmp 20)]⟩,
  ⟨some 22,none,.mv (.tmp 21)⟩,
  ⟨some 23,some (22,false),.mv (.tmp 7)⟩,
  ⟨some 24,none,.pick (.tmp 22) (.const (.bool true)) (.tmp 23)⟩,
  ⟨some 6,none,.asg (.tmp 24)⟩]) .ret)))
theorem zH7 {a0 a1 a2 d:D}{c1 c2 c1' c2':List D}(h:∀ b1 b2,code_impl_merger_outlets.wp (CT Try.prog NoG) (xAp [(.t 6)] d [.box (some b1) c1',.box (some b2) c2']) [.agg [.box (some b1) c1,.box (some b2) c2],a1,a2,.undef,.undef,.undef,.undef,.undef,.undef,.undef,.undef,.undef,.undef,.undef,.undef,.undef,.undef,.undef,.undef,.undef,.undef,.undef,.undef,.undef,.undef]):ContractL Try.prog NoG 79 0 [a0,a1,a2] (.agg [.box none c1,.box none c2]) d (.agg [.box none c1',.box none c2']) :=
  zPb (pt:=0) noG Try.func79 (fun us W=>by kernel_rfl) (c:=Try.f79.body.getD .skip) (ms:=[]) (ms':=[]) (by kernel_rfl) (by kernel_rfl) (by kernel_rfl) (by simp) h
theorem yCw (N:List Int)(xs:List Int)(hN:OkN N)(hx:∀ x,x∈xs→inG x)(hl:xs.length≤1048576):Contract Try.prog NoG 101 [.iptr (N.map cI) 0,.sl false 1 (xs.map rI)] (.sl true 1 ((xs.map (gN N)).map rI)):=by
  refine zKh ?_;unfold code_impl_names_list;have hN120:=hN.len;simp -implicitDefEqProofs (disch:=omega) only [go_sem,↓reduceIte];refine zB5 (by simp -implicitDefEqProofs (disch:=omega) only [go_sem,↓reduceIte];exact rfl) (fun i:Nat=>[(10,.v (.int .i64 (i:Nat))),(5,.sl true 1 (((xs.take i).map (gN N)).map rI))]) (fun _=>by simp only [zB0,zBe,xDv,xDz];exact rfl) (fun i:Nat=>i≤xs.length) (fun i:Nat=>xs.length-i) (0) (zEx) (xE9 _) ?_;intro i hi;simp -implicitDefEqProofs (disch:=omega) only [go_sem,↓reduceIte ,xDj,xDo,xD3,xDp,xDm,xDk];refine zAu ?_ ?_<;>intro hlt
  · have hlt:i<xs.length:=(by simpa using hlt);have e1:=xDl hlt;have hxi:=hx _ (xEo hlt);have hat:=(hN.at hxi).2.2;have e2:=zO9 hat
    have g2:N.getD xs[i].toNat 0=gN N xs[i]:=rfl;rw [g2] at e2;have hn:=zOd hlt;have wi:IntKind.i64.wrap ((i:Int)+1)=((i+1:Nat):Int):=wrI (by omega) (by omega);unfold inG at hxi;simp -implicitDefEqProofs (disch:=omega) only [go_sem,↓reduceIte ,xDj,xDo,xD3,xDp,xDm,xDk,hlt,e1,e2,rI,hN120,xHo,xEm,cI,zAq,wi,xFy];refine ⟨by omega,by omega,by omega,by omega,?_⟩;refine ⟨i+1,by omega,by omega,?_⟩;rw [hn]
    try simp only [xEz,xDu,xEb,rI]
    exact zEx
  · obtain rfl:i=xs.length:=(by have:¬ i<xs.length:=(by simpa using hlt);omega);simp -implicitDefEqProofs (disch:=omega) only [go_sem,↓reduceIte ,xF8,xBl]
theorem zTl (st:MS)(p:Piece)(ho:OkM st)(hp:InP p):Contract Try.prog NoG 100 [.agg [.iptr (st.R.map cI) 0,.iptr (st.C.map cI) 0],.agg (Piece.td.d false p)] (.agg (Piece.td.d true (zF3 st p))):=by obtain ⟨R,C,g⟩:=st;obtain ⟨hR,hC⟩:=ho;simp only at hR hC;obtain ⟨co,no,ea,so,we⟩:=p;obtain ⟨pN,pE,pS,pW⟩:=hp;simp only at pN pE pS pW;have lR:=hR.len;have lC:=hC.len;have e1:=zO9 (hR.at pN).2.2;have e2:=zO9 (hC.at pE).2.2;have e3:=zO9 (hR.at pS).2.2;have e4:=zO9 (hC.at pW).2.2;have g1:R.getD no.toNat 0=gN R no:=rfl;have g2:C.getD ea.toNat 0=gN C ea:=rfl;have g3:R.getD so.toNat 0=gN R so:=rfl;have g4:C.getD we.toNat 0=gN C we:=rfl;rw [g1] at e1;rw [g2] at e2;rw [g3] at e3;rw [g4] at e4;unfold inG at pN pE pS pW;rw [Piece.td_d,Piece.td_d];refine zI2 ?_;unfold code_impl_merger_piece zF3;simp -implicitDefEqProofs (disch:=omega) only [go_sem,↓reduceIte ,xDj,xDo,xD3,xDp,xDm,xDk,e1,e2,e3,e4,lR,lC,xHo,xEm,cI,zAq,rI];refine ⟨?_,?_,?_,?_,?_,?_,?_,?_,?_,?_,?_,?_⟩<;>omega
theorem zH4:∀ N:List Int,zBc (N.map cI)=true
  | []=>rfl
  | x::N=>zH4 N
theorem zUz (st:MS)(p q:Piece)(ho:OkM st)(hp:InP p)(hq:InP q):ContractL Try.prog NoG 79 0 [.undef,.agg (Piece.td.d false p),.agg (Piece.td.d false q)] (.agg [.box none (st.R.map cI),.box none (st.C.map cI)]) (.v (.bool (zUy st p q))) (.agg [.box none ((zA7 st.R p.North q.North).map cI),.box none ((zA7 st.C p.East q.East).map cI)]):=by
  have h1:=zPv st.R p.North q.North ho.R hp.N hq.N;have h2:=zPv st.C p.East q.East ho.C hp.E hq.E;rw [Piece.td_d,Piece.td_d];refine zH7 fun b1 b2=>?_;unfold code_impl_merger_outlets zUy;simp -implicitDefEqProofs (disch:=omega) only [go_sem,↓reduceIte];refine zS7 (i:=0) (x:=.tmp 9) (q:=[(0,0)]) h1 rfl rfl rfl (by simp) rfl rfl (zAq _ _) (by simp -implicitDefEqProofs (disch:=omega) only [go_sem,↓reduceIte,deep,TD.rows,zAf,zAc,zAg,zAb,zAd,zAa,zAq];exact rfl) rfl (by simp -implicitDefEqProofs (disch:=omega) only [go_sem,↓reduceIte,deep,TD.rows,zAf,zAc,zAg,zAb,zAd,zAa,zAq];exact rfl) (by repeat (first | exact zB3 | refine zBi ?_ ?_ | exact le_of_eq rfl | exact zBh (zA1 rfl) | refine zC4 ?_ | exact zC3 rfl (TD.rows ..) | refine zB2 ?_ | refine zE8 ?_ ?_ | exact zA5)) ⟨rfl,zH4 _⟩ ?_;simp -implicitDefEqProofs (disch:=omega) only [go_sem,↓reduceIte ,zAq];refine zS7 (i:=0) (x:=.tmp 16) (q:=[(0,1)]) h2 rfl rfl rfl (by simp) rfl rfl (zAq _ _) (by simp -implicitDefEqProofs (disch:=omega) only [go_sem,↓reduceIte,deep,TD.rows,zAf,zAc,zAg,zAb,zAd,zAa,zAq];exact rfl) rfl (by simp -implicitDefEqProofs (disch:=omega) only [go_sem,↓reduceIte,deep,TD.rows,zAf,zAc,zAg,zAb,zAd,zAa,zAq];exact rfl) (by repeat (first | exact zB3 | refine zBi ?_ ?_ | exact le_of_eq rfl | exact zBh (zA1 rfl) | refine zC4 ?_ | exact zC3 rfl (TD.rows ..) | refine zB2 ?_ | refine zE8 ?_ ?_ | exact zA5)) ⟨rfl,zH4 _⟩ ?_;cases e1:decide (gN st.R p.North=gN st.R q.North)<;>cases e2:decide (gN st.C p.East=gN st.C q.East)
  all_goals
    simp -implicitDefEqProofs (disch:=omega) only [go_sem,↓reduceIte ,zAq,e1,e2,xDw,xD5,zUm,zXl];exact ⟨3,none,_,rfl,by simp only [zAh,D.prune,zAq];exact zFn _⟩
def code_impl_merger_settle:VCode:=(.seq (.ops [
  ⟨some 2,none,.box (.tmp 0)⟩,
  ⟨some 3,none,.box (.tmp 1)⟩,
  ⟨some 4,none,.alloc [(.slice none 0 0),(.slice none 0 0),(.slice none 0 0)]⟩,
  ⟨some 5,none,.asg (.const (.bool false))⟩]) (.seq (.seq (.ops [
  ⟨some 6,none,.asg (.const (.bool true))⟩]) (.block 0 (.loop (mB 118 0x3fffffffffffffffffffffffffffa3) (.seq (.seq (.ops [
  ⟨some 20,none,.mv (.tmp 6)⟩]) (.cond (.tmp 20) .skip (.exit 0))) (.block 1 (.seq (.ops [
  ⟨some 6,none,.asg (.const (.bool false))⟩]) (.seq (.ops [
  ⟨some 21,none,.fa 2 (.tmp 3)⟩,
  ⟨some 22,none,.load 1 false (.tmp 21)⟩,
  ⟨some 23,none,.len (.tmp 22)⟩,
  ⟨some 24,none,.mv (.const (.int .i64 0))⟩]) (.block 2 (.loop (mB 118 0x3ffffffffffffffffffffffe1fffa3) (.seq (.ops [
  ⟨some 25,none,.bin .lss (.tmp 24) (.tmp 23)⟩]) (.seq (.cond (.tmp 25) .skip (.exit 2)) (.seq (.block 3 (.seq (.ops [
  ⟨some 26,none,.mv (.tmp 24)⟩,
  ⟨some 27,none,.ia 5 (.tmp 22) (.tmp 24)⟩,
  ⟨some 28,none,.load 5 true (.tmp 27)⟩,
  ⟨some 8,none,.alloc [(.int .i64 0),(.int .i64 0),(.int .i64 0),(.int .i64 0),(.int .i64 0)]⟩,
  ⟨some 7,none,.asg (.tmp 26)⟩,
  ⟨none,none,.store 5 (.tmp 8) (.tmp 28)⟩]) (.seq (.ops [
  ⟨some 29,none,.fa 2 (.tmp 3)⟩,
  ⟨some 30,none,.load 1 false (.tmp 29)⟩,
  ⟨some 31,none,.mv (.tmp 7)⟩,
  ⟨some 32,none,.slc 5 (.tmp 30) none (some (.tmp 31)) none⟩,
  ⟨some 33,none,.len (.tmp 32)⟩,
  ⟨some 34,none,.mv (.const (.int .i64 0))⟩]) (.block 4 (.loop (mB 118 0x3ffffffffffffffffffff89e1ffea3) (.seq (.ops [
  ⟨some 35,none,.bin .lss (.tmp 34) (.tmp 33)⟩]) (.seq (.cond (.tmp 35) .skip (.exit 4)) (.seq (.block 5 (.seq (.ops [
  ⟨some 36,none,.ia 5 (.tmp 32) (.tmp 34)⟩,
  ⟨some 37,none,.load 5 true (.tmp 36)⟩,
  ⟨some 10,none,.alloc [(.int .i64 0),(.int .i64 0),(.int .i64 0),(.int .i64 0),(.int .i64 0)]⟩,
  ⟨none,none,.store 5 (.tmp 10) (.tmp 37)⟩]) (.seq (.draw (mB 44 17317308143616) [] [⟨0,mB 44 17317308143616,[],⟨some 38,none,.load 2 true (.tmp 2)⟩⟩,⟨1,mB 44 17317308143616,[],⟨some 39,none,.load 5 true (.tmp 8)⟩⟩,⟨2,mB 44 16492674422784,[],⟨some 40,none,.call 100 [(.tmp 38),(.tmp 39)]⟩⟩,⟨3,mB 44 17317308143616,[],⟨some 41,none,.load 2 true (.tmp 2)⟩⟩,⟨4,mB 44 17317308143616,[],⟨some 42,none,.load 5 true (.tmp 10)⟩⟩,⟨5,mB 44 8796093028352,[],⟨some 43,none,.call 100 [(.tmp 41),(.tmp 42)]⟩⟩,⟨6,mB 44 17317308143616,[],⟨some 11,none,.alloc [(.int .i64 0),(.int .i64 0),(.int .i64 0),(.int .i64 0),(.int .i64 0)]⟩⟩,⟨7,mB 44 17317308143616,[],⟨some 12,none,.alloc [(.int .i64 0),(.int .i64 0),(.int .i64 0),(.int .i64 0),(.int .i64 0)]⟩⟩] [⟨none,none,.store 5 (.tmp 11) (.tmp 40)⟩,⟨none,none,.store 5 (.tmp 12) (.tmp 43)⟩]) (.seq (.ops [
  ⟨some 44,none,.fa 3 (.tmp 11)⟩,
  ⟨some 45,none,.load 1 false (.tmp 44)⟩,
  ⟨some 46,none,.fa 3 (.tmp 12)⟩,
  ⟨some 47,none,.load 1 false (.tmp 46)⟩,
  ⟨some 48,none,.bin .eql (.tmp 45) (.tmp 47)⟩,
  ⟨some 49,none,.mv (.tmp 48)⟩,
  ⟨some 50,some (49,true),.fa 4 (.tmp 11)⟩,
  ⟨some 51,some (49,true),.load 1 false (.tmp 50)⟩,
  ⟨some 52,some (49,true),.fa 4 (.tmp 12)⟩,
  ⟨some 53,some (49,true),.load 1 false (.tmp 52)⟩,
  ⟨some 54,some (49,true),.bin .eql (.tmp 51) (.tmp 53)⟩,
  ⟨some 55,none,.pick (.tmp 49) (.tmp 54) (.const (.bool false))⟩,
  ⟨some 56,none,.mv (.tmp 55)⟩,
  ⟨some 57,some (56,true),.load 2 true (.tmp 2)⟩,
  ⟨some 58,some (56,true),.load 5 true (.tmp 8)⟩,
  ⟨some 59,some (56,true),.load 5 true (.tmp 10)⟩,
  ⟨some 60,some (56,true),.callX 79 [(.tmp 57),(.tmp 58),(.tmp 59)]⟩,
  ⟨some 61,none,.pick (.tmp 56) (.tmp 60) (.const (.bool false))⟩]) (.cond (.tmp 61) (.ops [
  ⟨some 6,none,.asg (.const (.bool true))⟩]) .skip))))) (.ops [
  ⟨some 62,none,.bin .add (.tmp 34) (.const (.int .i64 1))⟩,
  ⟨some 34,none,.mv (.tmp 62)⟩]))))))))) (.ops [
  ⟨some 63,none,.bin .add (.tmp 24) (.const (.int .i64 1))⟩,
  ⟨some 24,none,.mv (.tmp 63)⟩]))))))))))))) (.seq (.draw (mB 75 0x7ff0000000000002000) (mB 74 0x2100000000000000000) [⟨0,mB 75 0x7ff0000000000002000,[],⟨some 64,none,.fa 0 (.tmp 2)⟩⟩,⟨1,mB 75 0x7fe0000000000002000,[],⟨some 65,none,.load 1 false (.tmp 64)⟩⟩,⟨2,mB 75 0x7ff0000000000002000,[],⟨some 66,none,.fa 0 (.tmp 3)⟩⟩,⟨3,mB 75 0x7fb0000000000002000,[],⟨some 67,none,.load 1 false (.tmp 66)⟩⟩,⟨4,mB 75 0x7f00000000000002000,[],⟨some 68,none,.call 101 [(.tmp 65),(.tmp 67)]⟩⟩,⟨5,mB 75 0x7ff0000000000002000,[],⟨some 69,none,.fa 1 (.tmp 2)⟩⟩,⟨6,mB 75 0x7df0000000000002000,[],⟨some 70,none,.load 1 false (.tmp 69)⟩⟩,⟨7,mB 75 0x7ff0000000000002000,[],⟨some 71,none,.fa 1 (.tmp 3)⟩⟩,⟨8,mB 75 0x77f0000000000002000,[],⟨some 72,none,.load 1 false (.tmp 71)⟩⟩,⟨9,mB 75 0x6000000000000002000,[],⟨some 73,none,.call 101 [(.tmp 70),(.tmp 72)]⟩⟩,⟨10,mB 75 0x4000000000000002000,(mB 74 0x2100000000000000000),⟨some 74,none,.build [(.slice none 0 0),(.slice none 0 0),(.slice none 0 0)] [(0,1,(.tmp 68)),(1,1,(.tmp 73))]⟩⟩,⟨11,mB 75 0x7ff0000000000002000,[],⟨some 13,none,.alloc [(.slice none 0 0),(.slice none 0 0),(.slice none 0 0)]⟩⟩] [⟨none,none,.store 3 (.tmp 13) (.tmp 74)⟩]) (.seq (.ops [
  ⟨some 75,none,.mkm (.flat [1,1])⟩,
  ⟨some 14,none,.asg (.tmp 75)⟩]) (.seq (.seq (.ops [
  ⟨some 76,none,.fa 2 (.tmp 3)⟩,
  ⟨some 77,none,.load 1 false (.tmp 76)⟩,
  ⟨some 78,none,.len (.tmp 77)⟩,
  ⟨some 79,none,.mv (.const (.int .i64 0))⟩]) (.block 6 (.loop (mB 118 0x3fffffffff07ffffffffffffff9fe3) (.seq (.ops [
  ⟨some 80,none,.bin .lss (.tmp 79) (.tmp 78)⟩]) (.seq (.cond (.tmp 80) .skip (.exit 6)) (.seq (.block 7 (.seq (.ops [
  ⟨some 81,none,.ia 5 (.tmp 77) (.tmp 79)⟩,
  ⟨some 82,none,.load 5 true (.tmp 81)⟩,
  ⟨some 16,none,.alloc [(.int .i64 0),(.int .i64 0),(.int .i64 0),(.int .i64 0),(.int .i64 0)]⟩,
  ⟨none,none,.store 5 (.tmp 16) (.tmp 82)⟩]) (.seq (.ops [
  ⟨some 83,none,.load 2 true (.tmp 2)⟩,
  ⟨some 84,none,.load 5 true (.tmp 16)⟩,
  ⟨some 85,none,.callX 100 [(.tmp 83),(.tmp 84)]⟩,
  ⟨none,none,.store 5 (.tmp 16) (.tmp 85)⟩]) (.seq (.ops [
  ⟨some 86,none,.fa 3 (.tmp 16)⟩,
  ⟨some 87,none,.load 1 false (.tmp 86)⟩,
  ⟨some 88,none,.fa 4 (.tmp 16)⟩,
  ⟨some 89,none,.load 1 false (.tmp 88)⟩,
  ⟨some 90,none,.build [(.int .i64 0),(.int .i64 0)] [(0,1,(.tmp 87)),(1,1,(.tmp 89))]⟩,
  ⟨some 17,none,.alloc [(.int .i64 0),(.int .i64 0)]⟩,
  ⟨none,none,.store 2 (.tmp 17) (.tmp 90)⟩]) (.seq (.ops [
  ⟨some 92,none,.mv (.tmp 14)⟩,
  ⟨some 93,none,.load 2 true (.tmp 17)⟩,
  ⟨some 94,none,.mlk (.flat [1,1]) (.agg ⟨[(.int .i64 0),(.int .i64 0),(.int .i64 0),(.int .i64 0),(.int .i64 0)]⟩) true (.tmp 92) (.tmp 93)⟩,
  ⟨some 91,none,.mv (.tmp 94)⟩,
  ⟨some 95,none,.ext (.tmp 91) 0⟩,
  ⟨some 96,none,.ext (.tmp 91) 1⟩,
  ⟨some 18,none,.alloc [(.int .i64 0),(.int .i64 0),(.int .i64 0),(.int .i64 0),(.int .i64 0)]⟩,
  ⟨none,none,.store 5 (.tmp 18) (.tmp 95)⟩,
  ⟨some 19,none,.asg (.tmp 96)⟩]) (.block 8 (.seq (.ops [
  ⟨some 98,none,.mv (.tmp 19)⟩,
  ⟨some 99,none,.un .not (.tmp 98)⟩,
  ⟨some 97,none,.asg (.tmp 99)⟩]) (.cond (.tmp 97) (.seq (.ops [
  ⟨some 100,none,.mv (.tmp 14)⟩,
  ⟨some 101,none,.load 2 true (.tmp 17)⟩,
  ⟨some 102,none,.load 5 true (.tmp 16)⟩,
  ⟨none,none,.mupd (.flat [1,1]) (.tmp 100) (.tmp 101) (.tmp 102)⟩]) (.ops [
  ⟨some 103,none,.fa 2 (.tmp 13)⟩,
  ⟨some 104,none,.load 1 false (.tmp 103)⟩,
  ⟨some 105,none,.load 5 true (.tmp 16)⟩,
  ⟨some 106,none,.bsl 5 [(.tmp 105)]⟩,
  ⟨some 107,none,.app 5 40 (.tmp 104) (.tmp 106)⟩,
  ⟨some 108,none,.fa 2 (.tmp 13)⟩,
  ⟨none,none,.store 1 (.tmp 108) (.tmp 107)⟩])) (.seq (.ops [
  ⟨some 110,none,.fa 0 (.tmp 18)⟩,
  ⟨some 111,none,.load 1 false (.tmp 110)⟩,
  ⟨some 112,none,.fa 0 (.tmp 16)⟩,
  ⟨some 113,none,.load 1 false (.tmp 112)⟩,
  ⟨some 114,none,.bin .neq (.tmp 111) (.tmp 113)⟩,
  ⟨some 109,none,.asg (.tmp 114)⟩]) (.cond (.tmp 109) (.seq (.ops [
  ⟨some 115,none,.build [(.slice none 0 0),(.slice none 0 0),(.slice none 0 0)] []⟩,
  ⟨none,none,.store 3 (.tmp 4) (.tmp 115)⟩,
  ⟨some 5,none,.asg (.const (.bool false))⟩]) .ret) .skip)))))))))) (.ops [
  ⟨some 116,none,.bin .add (.tmp 79) (.const (.int .i64 1))⟩,
  ⟨some 79,none,.mv (.tmp 116)⟩]))))))) (.seq (.ops [
  ⟨some 117,none,.load 3 true (.tmp 13)⟩,
  ⟨none,none,.store 3 (.tmp 4) (.tmp 117)⟩,
  ⟨some 5,none,.asg (.const (.bool true))⟩]) .ret))))))
theorem zIs {a0 a1 d:D}{c1 c2 c1' c2':List D}(h:∀ b1 b2,code_impl_merger_settle.wp (CT Try.prog NoG) (xAp [(.c 4 3 true),(.t 5)] d [.box (some b1) c1',.box (some b2) c2']) [.agg [.box (some b1) c1,.box (some b2) c2],a1,.undef,.undef,.undef,.undef,.undef,.undef,.undef,.undef,.undef,.undef,.undef,.undef,.undef,.undef,.undef,.undef,.undef,.undef,.undef,.undef,.undef,.undef,.undef,.undef,.undef,.undef,.undef,.undef,.undef,.undef,.undef,.undef,.undef,.undef,.undef,.undef,.undef,.undef,.undef,.undef,.undef,.undef,.undef,.undef,.undef,.undef,.undef,.undef,.undef,.undef,.undef,.undef,.undef,.undef,.undef,.undef,.undef,.undef,.undef,.undef,.undef,.undef,.undef,.undef,.undef,.undef,.undef,.undef,.undef,.undef,.undef,.undef,.undef,.undef,.undef,.undef,.undef,.undef,.undef,.undef,.undef,.undef,.undef,.undef,.undef,.undef,.undef,.undef,.undef,.undef,.undef,.undef,.undef,.undef,.undef,.undef,.undef,.undef,.undef,.undef,.undef,.undef,.undef,.undef,.undef,.undef,.undef,.undef,.undef,.undef,.undef,.undef,.undef,.undef,.undef,.undef]):ContractL Try.prog NoG 80 0 [a0,a1] (.agg [.box none c1,.box none c2]) d (.agg [.box none c1',.box none c2']) :=
  zPb (pt:=0) noG Try.func80 (fun us W=>by kernel_rfl) (c:=Try.f80.body.getD .skip) (ms:=[(mB 118 0x3fffffffffffffffffffffffffffa3),(mB 118 0x3ffffffffffffffffffffffe1fffa3),(mB 118 0x3ffffffffffffffffffff89e1ffea3),(mB 118 0x3fffffffff07ffffffffffffff9fe3)]) (ms':=[]) (by kernel_rfl) (by kernel_rfl) (by kernel_rfl) (by simp) h
/-! The pieces that are kept, by their inlets. -/
def xBp (y:Piece):Value:=.agg #[.int .i64 y.South,.int .i64 y.West]
def yVu (y:Piece):Value:=.agg #[.int .i64 y.Color,.int .i64 y.North,.int .i64 y.East,.int .i64 y.South,.int .i64 y.West]
def yV2 (out:List Piece):List (Value×Value):=tbG xBp yVu out
theorem xBq (s w:Int)(b:Piece):keq (.agg #[.int .i64 s,.int .i64 w]) (xBp b)=decide (kkP b=(s,w)):=xAm s w (b,0)
theorem yOr:KeyG kkP xBp:=⟨fun a b=>xBq a.South a.West b⟩
theorem yM6 {out:List Piece}(h:(out.map kkP).Nodup){y x:Piece}(hx:x∈out)(hk:kkP x=kkP y):zXh (yV2 out) (.agg #[.int .i64 y.South,.int .i64 y.West])=some (yVu x) :=
  zZh (val:=yVu) yOr h (fun b=>xBq y.South y.West b) hx hk
theorem yHk {out:List Piece}(h:(out.map kkP).Nodup){y:Piece}(hk:kkP y∉out.map kkP):zXh (yV2 out) (.agg #[.int .i64 y.South,.int .i64 y.West])=none :=
  zV6 (val:=yVu) yOr h (fun b=>xBq y.South y.West b) (fun x hx e=>hk (by rw [← show kkP x=kkP y from e];exact xHi hx))
theorem yM5 (out:List Piece)(y:Piece):zP3 (yV2 out) (.agg #[.int .i64 y.South,.int .i64 y.West]) (.agg #[.int .i64 y.Color,.int .i64 y.North,.int .i64 y.East,.int .i64 y.South,.int .i64 y.West])=yV2 (out++[y]):=by unfold yV2 tbG;rw [xG3];rfl
def zKc (st:MS)(ps:List Piece)(i:Nat):List Piece:=((ps.take i).map (zF3 st)).foldl zN9 []
theorem zQ4 {st:MS}{ps:List Piece}{i:Nat}(h:i<ps.length):zKc st ps (i+1)=zN9 (zKc st ps i) (zF3 st ps[i]):=by unfold zKc;rw [xFb h,xEz,xG3];rfl
theorem zYx (st:MS)(ps:List Piece):zKc st ps ps.length=zVt st ps:=by unfold zKc zVt;rw [xF8]
theorem yFl (st:MS)(ps:List Piece)(i:Nat):((zKc st ps i).map kkP).Nodup:=zP9 _ _ (by simp)
theorem zYw (st:MS)(ps:List Piece)(i:Nat):(zKc st ps i).length≤i:=by have:=zRk ((ps.take i).map (zF3 st)) [];rw [xDj,xFy,xEn] at this;unfold zKc;omega
theorem yLe {st:MS}{ps:List Piece}{i:Nat}{y:Piece}(h:y∈zKc st ps i):∃ j,∃ hj:j<ps.length,j<i∧y=zF3 st ps[j]:=by
  rcases zI8 _ h with h | h
  · cases h
  · obtain ⟨q,hq,rfl⟩:=xEg.1 h;obtain ⟨j,hj,rfl⟩:=xF6 hq;rw [xFy] at hj;exact ⟨j,by omega,by omega,by rw [List.getElem_take]⟩
def zZ2 (st:MS)(ps:List Piece)(i:Nat):Prop:=∀ j,(hj:j<ps.length)→j<i→∃ y,y∈zKc st ps i∧kkP y=kkP (zF3 st ps[j])∧y.Color=ps[j].Color
theorem yCd {st:MS}{ps:List Piece}{i:Nat}(hi:i<ps.length)(h:zZ2 st ps i)(hc:∀ y,y∈zKc st ps i→kkP y=kkP (zF3 st ps[i])→y.Color=ps[i].Color):zZ2 st ps (i+1):=by
  intro j hj hji;rw [zQ4 hi];by_cases e:j=i
  · subst e;by_cases hm:kkP (zF3 st ps[j])∈(zKc st ps j).map kkP
    · obtain ⟨y,hy,hk⟩:=xEg.1 hm;exact ⟨y,zUu hy,hk,hc y hy hk⟩
    · refine ⟨zF3 st ps[j],?_,rfl,rfl⟩;unfold zN9;rw [if_neg hm];exact xFk _ (xFp.2 rfl)
  · obtain ⟨y,h1,h2,h3⟩:=h j hj (by omega);exact ⟨y,zUu h1,h2,h3⟩
theorem yNh {st:MS}{ps:List Piece}(h:zZ2 st ps ps.length):clash st ps=false:=by
  unfold clash;rw [xHd];intro i hi;have hi:=xFs.1 hi;rw [xEs,xHd];intro j hj;have hj:=xFs.1 hj;rw [xEs];cases hb:inB st (gP ps (i:Nat)) (gP ps (j:Nat)) with
  | false=>rfl
  | true=>have hk:=inB_kk.1 hb;rw [zDx hi,zDx (show j<ps.length by omega)] at hk ⊢;obtain ⟨y,y1,y2,y3⟩:=h i hi hi;obtain ⟨z,z1,z2,z3⟩:=h j (by omega) (by omega);obtain ⟨a,ha,rfl⟩:=xF6 y1;obtain ⟨b,hb2,rfl⟩:=xF6 z1;have e:a=b:=zY0 (l:=(zKc st ps ps.length).map kkP) (yFl st ps ps.length) (hi:=by rw [xDj];exact ha) (hj:=by rw [xDj];exact hb2) (by rw [xGo,xGo,y2,z2,hk]);subst e;rw [← y3,← z3];simp
theorem yHo {st:MS}{ps:List Piece}{i:Nat}(hi:i<ps.length){y:Piece}(hy:y∈zKc st ps i)(hk:kkP y=kkP (zF3 st ps[i]))(hc:y.Color≠ps[i].Color):clash st ps=true:=by obtain ⟨j,hj,hji,rfl⟩:=yLe hy;unfold clash;rw [xF5];refine ⟨i,xFs.2 hi,?_⟩;rw [xF5];refine ⟨j,xFs.2 hji,?_⟩;rw [zDx hi,zDx hj,inB_kk.2 hk.symm];have:¬ ps[i].Color=ps[j].Color:=fun e=>hc e.symm;simp [this]
def yFt (ps:List Piece)(F st:MS):Prop:=OkM st∧(st.g=true→fin ps st=F)∧(st.g=false→st=F)
theorem zYz {ps:List Piece}(hp:∀ p,p∈ps→InP p){F st:MS}(h:yFt ps F st)(hg:st.g=true):yFt ps F (pass ps st):=by
  obtain ⟨h1,h2,_⟩:=h;refine ⟨(zFl hp h1).1,fun hg2=>?_,fun hg2=>?_⟩
  · rw [← zUk hp h1 hg2];exact h2 hg
  · rw [← zUl hg2];exact h2 hg
set_option maxHeartbeats 4000000 in
theorem yIo (d:Design) (st0:MS) (hok:zC2 d=true) (ho:OkM st0):ContractL Try.prog NoG 80 0 [.undef,.agg (Design.td.d false d)] (.agg [.box none (st0.R.map cI),.box none (st0.C.map cI)]) (.tup [.agg (Design.td.d true (if clash (fin d.Pieces st0) d.Pieces then ⟨[],[],[]⟩ else zFw d (fin d.Pieces st0))),.v (.bool (!clash (fin d.Pieces st0) d.Pieces))]) (.agg [.box none ((fin d.Pieces st0).R.map cI),.box none ((fin d.Pieces st0).C.map cI)]):=by
  have hp:∀ p,p∈d.Pieces→InP p:=fun p h=>zSx ((zA8 hok).2.2.2.1 p h);have hl:=(zA8 hok).2.2.1;generalize hF:fin d.Pieces st0=F;have hS:yFt d.Pieces F ⟨st0.R,st0.C,true⟩:=⟨⟨ho.R,ho.C⟩,fun _=>hF,fun h=>by cases h⟩
  rw [Design.td_d];refine zIs fun b1 b2=>?_;unfold code_impl_merger_settle;simp -implicitDefEqProofs (disch:=omega) only [go_sem,↓reduceIte ,zAq];refine zB5 (by simp -implicitDefEqProofs (disch:=omega) only [go_sem,↓reduceIte];exact rfl) (fun st:MS=>[(2,.box none [.box (some b1) (st.R.map cI),.box (some b2) (st.C.map cI)]),(6,.v (.bool st.g))]) (fun _=>by simp only [zB0,zBe,xDv,xDz];exact rfl) (fun st:MS=>yFt d.Pieces F st) (fun st:MS=>(if st.g then mu st+1 else 0)) ((⟨st0.R,st0.C,true⟩:MS)) (by rw [zAq,zAq];(try simp -implicitDefEqProofs only [zCz,zCy,zB6,zB8,zB9,zB7,and_self,and_true,true_and])<;>repeat' (first | exact zBr rfl | exact zCu | apply And.intro | apply zD3 | apply zBb | apply zBl | exact zB1 | exact zBs | apply zCv | apply zCw)) (?_) ?_
  · exact hS
  intro st hst;simp -implicitDefEqProofs (disch:=omega) only [go_sem,↓reduceIte ,zAq];refine zAu ?_ ?_<;>intro hg
  · simp -implicitDefEqProofs (disch:=omega) only [go_sem,↓reduceIte ,xDj,xDo,xD3,xDp,xDm,xDk,zAq];generalize hs0:({ st with g:=false }:MS)=s0;have e0:s0.R=st.R∧s0.C=st.C∧s0.g=false:=by rw [← hs0];exact ⟨rfl,rfl,rfl⟩
    refine zB5 (by simp -implicitDefEqProofs (disch:=omega) only [go_sem,↓reduceIte];exact rfl) (fun i:Nat=>[(24,.v (.int .i64 (i:Nat))),(2,.box none [.box (some b1) ((zCo d.Pieces s0 i).R.map cI),.box (some b2) ((zCo d.Pieces s0 i).C.map cI)]),(6,.v (.bool (zCo d.Pieces s0 i).g))]) (fun _=>by simp only [zB0,zBe,xDv,xDz];exact rfl) (fun i:Nat=>i≤d.Pieces.length) (fun i:Nat=>d.Pieces.length-i) (0) (by rw [show zCo d.Pieces s0 0=s0 from rfl,e0.1,e0.2.1,e0.2.2,zAq,zAq];(try simp -implicitDefEqProofs only [zCz,zCy,zB6,zB8,zB9,zB7,and_self,and_true,true_and])<;>repeat' (first | exact zBr rfl | exact zCu | apply And.intro | apply zD3 | apply zBb | apply zBl | exact zB1 | exact zBs | apply zCv | apply zCw)) (xE9 _) ?_;intro i hi;simp -implicitDefEqProofs (disch:=omega) only [go_sem,↓reduceIte ,xDj,xDo,xD3,xDp,xDm,xDk,zAq];refine zAu ?_ ?_<;>intro hlt
    · have hlt:i<d.Pieces.length:=(by simpa using hlt);have ei:=xDl hlt;have hpi:=hp _ (xEo hlt);have hgi:=zDx hlt;have hoi:OkM (zCo d.Pieces s0 i):=(zGi hp s0 i (by omega)).ok ⟨by rw [e0.1];exact hst.1.R,by rw [e0.2.1];exact hst.1.C⟩;have hnx:=zGb d.Pieces s0 i;have hrg:=fun j hj=>(zH0 hp hlt (zCo d.Pieces s0 i) j hj).ok hoi;have hrn:∀ j (hj:j<d.Pieces.length),zMu d.Pieces i (zCo d.Pieces s0 i) (j+1)=_:=fun j hj=>zG6 (i:=i) (st:=zCo d.Pieces s0 i) hj;generalize hs1:zCo d.Pieces s0 i=s1 at *;have wi:IntKind.i64.wrap ((i:Int)+1)=((i+1:Nat):Int):=wrI (by omega) (by omega);simp -implicitDefEqProofs (disch:=omega) only [go_sem,↓reduceIte ,xDj,xDo,xD3,xDp,xDm,xDk,hlt,ei,zAq,Piece.td_d];refine ⟨by omega,by omega,by omega,by omega,?_⟩;have hsl:(List.take (i-0) (List.map (Piece.td.d false) d.Pieces)).length=i:=(by rw [xHg,xFy,xDj];omega);refine zB5 (by simp -implicitDefEqProofs (disch:=omega) only [go_sem,↓reduceIte];exact rfl) (fun j:Nat=>[(34,.v (.int .i64 (j:Nat))),(2,.box none [.box (some b1) ((zMu d.Pieces i s1 j).R.map cI),.box (some b2) ((zMu d.Pieces i s1 j).C.map cI)]),(6,.v (.bool (zMu d.Pieces i s1 j).g))]) (fun _=>by simp only [zB0,zBe,xDv,xDz];exact rfl) (fun j:Nat=>j≤i) (fun j:Nat=>i-j) (0) (by rw [show zMu d.Pieces i s1 0=s1 from rfl,zAq,zAq];(try simp -implicitDefEqProofs only [zCz,zCy,zB6,zB8,zB9,zB7,and_self,and_true,true_and])<;>repeat' (first | exact zBr rfl | exact zCu | apply And.intro | apply zD3 | apply zBb | apply zBl | exact zB1 | exact zBs | apply zCv | apply zCw)) (xE9 _) ?_;intro j hj;simp -implicitDefEqProofs (disch:=omega) only [go_sem,↓reduceIte ,xDj,xDo,xD3,xDp,xDm,xDk,zAq];refine zAu ?_ ?_<;>intro hlj
      · have hlj:j<i:=(by have:=of_decide_eq_true hlj;omega);have hjl:j<d.Pieces.length:=(by omega);have ej:=xDl hjl;have hpj:=hp _ (xEo hjl);have ho2:=hrg j (by omega);have hn2:=hrn j hjl;have wj:IntKind.i64.wrap ((j:Int)+1)=((j+1:Nat):Int):=wrI (by omega) (by omega);have hsg:(List.take (i-0) (List.map (Piece.td.d false) d.Pieces))[j]?=some (Piece.td.d false d.Pieces[j]):=(by rw [xHg,xGa,if_pos hlj,xDm,ej];rfl);generalize zMu d.Pieces i s1 j=s2 at *;rw [hgi] at hn2;generalize d.Pieces[i]=pi at *;generalize d.Pieces[j]=pj at *;have hc1:=zTl s2 pi ho2 hpi;have hc2:=zTl s2 pj ho2 hpj;rw [Piece.td_d,Piece.td_d] at hc1 hc2;simp -implicitDefEqProofs (disch:=omega) only [go_sem,↓reduceIte ,xDj,xDo,xD3,xDp,xDm,xDk,hlj,hjl,hsl,hsg,zAq,Piece.td_d];refine zJe hc1 (by simp -implicitDefEqProofs (disch:=omega) only [go_sem,↓reduceIte,deep,TD.rows,zAf,zAc,zAg,zAb,zAd,zAa,zAq,zS4];exact rfl) (by repeat (first | exact zB3 | refine zBi ?_ ?_ | exact le_of_eq rfl | exact zBh (zA1 rfl) | refine zC4 ?_ | exact zC3 rfl (TD.rows ..) | refine zB2 ?_ | refine zE8 ?_ ?_ | exact zA5)) (.inl rfl) ?_;simp -implicitDefEqProofs (disch:=omega) only [go_sem,↓reduceIte ,zAq];refine zJe hc2 (by simp -implicitDefEqProofs (disch:=omega) only [go_sem,↓reduceIte,deep,TD.rows,zAf,zAc,zAg,zAb,zAd,zAa,zAq,zS4];exact rfl) (by repeat (first | exact zB3 | refine zBi ?_ ?_ | exact le_of_eq rfl | exact zBh (zA1 rfl) | refine zC4 ?_ | exact zC3 rfl (TD.rows ..) | refine zB2 ?_ | refine zE8 ?_ ?_ | exact zA5)) (.inl rfl) ?_;have hib:inB s2 pi pj=(decide ((zF3 s2 pi).South=(zF3 s2 pj).South)&&decide ((zF3 s2 pi).West=(zF3 s2 pj).West)):=rfl;cases q1:decide ((zF3 s2 pi).South=(zF3 s2 pj).South) with
        | false=>rw [q1,xE0] at hib;simp -implicitDefEqProofs (disch:=omega) only [go_sem,↓reduceIte ,zAq,q1,wj];refine ⟨j+1,by omega,by omega,?_⟩;rw [hn2,show zF8 pi s2 pj=s2 by unfold zF8;rw [hib];rfl];exact zEx
        | true =>
          cases q2:decide ((zF3 s2 pi).West=(zF3 s2 pj).West) with
          | false=>rw [q1,q2,xEy] at hib;simp -implicitDefEqProofs (disch:=omega) only [go_sem,↓reduceIte ,zAq,q1,q2,wj];refine ⟨j+1,by omega,by omega,?_⟩;rw [hn2,show zF8 pi s2 pj=s2 by unfold zF8;rw [hib];rfl];exact zEx
          | true =>
            rw [q1,q2,xEy] at hib;simp -implicitDefEqProofs (disch:=omega) only [go_sem,↓reduceIte ,zAq,q1,q2,wj];have hco:=zUz s2 pi pj ho2 hpi hpj;rw [Piece.td_d,Piece.td_d] at hco;refine zZt (r:=2) hco rfl rfl ⟨zOi _,zOi _⟩ (by simp -implicitDefEqProofs (disch:=omega) only [go_sem,↓reduceIte,deep,TD.rows,zAf,zAc,zAg,zAb,zAd,zAa,zAq];exact rfl) (by repeat (first | exact zB3 | refine zBi ?_ ?_ | exact le_of_eq rfl | exact zBh (zA1 rfl) | refine zC4 ?_ | exact zC3 rfl (TD.rows ..) | refine zB2 ?_ | refine zE8 ?_ ?_ | exact zA5)) ⟨rfl,zH4 _,zH4 _⟩ ?_;have hst2:zF8 pi s2 pj=⟨zA7 s2.R pi.North pj.North,zA7 s2.C pi.East pj.East,s2.g||zUy s2 pi pj⟩:=by unfold zF8;rw [hib];rfl
            cases hd:zUy s2 pi pj with
            | false=>rw [hd,xFh] at hst2;simp -implicitDefEqProofs (disch:=omega) only [go_sem,↓reduceIte ,zAq,hd,wj];refine ⟨j+1,by omega,by omega,?_⟩;rw [hn2,hst2];exact zEx
            | true=>rw [hd,xFi] at hst2;simp -implicitDefEqProofs (disch:=omega) only [go_sem,↓reduceIte ,zAq,hd,wj];refine ⟨j+1,by omega,by omega,?_⟩;rw [hn2,hst2];exact zEx
      · obtain rfl:j=i:=(by have:=of_decide_eq_false hlj;omega);simp -implicitDefEqProofs (disch:=omega) only [go_sem,↓reduceIte ,zAq,wi];refine ⟨j+1,by omega,by omega,?_⟩;rw [hnx];exact zEx
    · obtain rfl:i=d.Pieces.length:=(by have:¬ i<d.Pieces.length:=(by simpa using hlt);omega);have hnext:=zYz hp hst hg;have hps:zCo d.Pieces s0 d.Pieces.length=pass d.Pieces st:=(by unfold pass;rw [hs0]);rw [hps];simp -implicitDefEqProofs (disch:=omega) only [go_sem,↓reduceIte ,zAq];refine ⟨pass d.Pieces st,?_,hnext,zEx⟩;rw [if_pos hg];rcases (zFl hp hst.1).2 with e | ⟨_,e⟩
      · rw [e];exact Nat.succ_pos _
      · split<;>omega
  · have hsF:st=F:=hst.2.2 hg;have hoF:=hst.1;clear hst hS hg;subst hsF;have hb:=(zA8 hok).2.2.2.2.2;have hb1:=(zA8 hok).1.2;have hb2:=(zA8 hok).2.1.2;have hL1:=yCw st.R d.Bottom hoF.R hb.1 (by omega);have hL2:=yCw st.C d.Left hoF.C hb.2 (by omega);simp -implicitDefEqProofs (disch:=omega) only [go_sem,↓reduceIte ,zAq];refine zJe hL1 (by simp -implicitDefEqProofs (disch:=omega) only [go_sem,↓reduceIte,deep,TD.rows,zAf,zAc,zAg,zAb,zAd,zAa,zAq,zS4];exact rfl) (by repeat (first | exact zB3 | refine zBi ?_ ?_ | exact le_of_eq rfl | exact zBh (zA1 rfl) | refine zC4 ?_ | exact zC3 rfl (TD.rows ..) | refine zB2 ?_ | refine zE8 ?_ ?_ | exact zA5)) (.inl (by simp only [D.noImm,zBc,go_sem,TD.nims,TD.nim,zGx,zE0,zEz,zGw])) ?_;simp -implicitDefEqProofs (disch:=omega) only [go_sem,↓reduceIte ,zAq];refine zJe hL2 (by simp -implicitDefEqProofs (disch:=omega) only [go_sem,↓reduceIte,deep,TD.rows,zAf,zAc,zAg,zAb,zAd,zAa,zAq,zS4];exact rfl) (by repeat (first | exact zB3 | refine zBi ?_ ?_ | exact le_of_eq rfl | exact zBh (zA1 rfl) | refine zC4 ?_ | exact zC3 rfl (TD.rows ..) | refine zB2 ?_ | refine zE8 ?_ ?_ | exact zA5)) (.inl (by simp only [D.noImm,zBc,go_sem,TD.nims,TD.nim,zGx,zE0,zEz,zGw])) ?_;simp -implicitDefEqProofs (disch:=omega) only [go_sem,↓reduceIte ,zAq];refine zB5 (by simp -implicitDefEqProofs (disch:=omega) only [go_sem,↓reduceIte];exact rfl) (fun i:Nat=>[(13,.box none [.sl true 1 ((d.Bottom.map (gN st.R)).map rI),.sl true 1 ((d.Left.map (gN st.C)).map rI),.sl true 5 ((zKc st d.Pieces i).map (Piece.td.d true))]),(14,.mp (.flat [1,1]) (yV2 (zKc st d.Pieces i))),(79,.v (.int .i64 (i:Nat)))]) (fun _=>by simp only [zB0,zBe,xDv,xDz];exact rfl) (fun i:Nat=>i≤d.Pieces.length∧zZ2 st d.Pieces i) (fun i:Nat=>d.Pieces.length-i) (0) (by rw [zAq,zAq];(try simp -implicitDefEqProofs only [zCz,zCy,zB6,zB8,zB9,zB7,and_self,and_true,true_and])<;>repeat' (first | exact zBr rfl | exact zCu | apply And.intro | apply zD3 | apply zBb | apply zBl | exact zB1 | exact zBs | apply zCv | apply zCw)) (?_) ?_
    · exact ⟨xE9 _,fun j _ hj=>absurd hj (by omega)⟩
    rintro i ⟨hi,hcl⟩;simp -implicitDefEqProofs (disch:=omega) only [go_sem,↓reduceIte ,xDj,xDo,xD3,xDp,xDm,xDk,zAq];refine zAu ?_ ?_<;>intro hlt
    · have hlt:i<d.Pieces.length:=(by simpa using hlt);have ei:=xDl hlt;have hpi:=hp _ (xEo hlt);have hc1:=zTl st d.Pieces[i] hoF hpi;have hnx:=zQ4 (st:=st) hlt;have hnd:=yFl st d.Pieces i;have hln:=zYw st d.Pieces i;have hcn:=yCd (st:=st) hlt hcl;have hcy:=fun y=>yHo (st:=st) (y:=y) hlt;have wi:IntKind.i64.wrap ((i:Int)+1)=((i+1:Nat):Int):=wrI (by omega) (by omega);rw [Piece.td_d,Piece.td_d] at hc1;generalize d.Pieces[i]=pi at *;simp -implicitDefEqProofs (disch:=omega) only [go_sem,↓reduceIte ,xDj,xDo,xD3,xDp,xDm,xDk,hlt,ei,zAq,Piece.td_d];refine zQc hc1 (by simp -implicitDefEqProofs (disch:=omega) only [go_sem,↓reduceIte,deep,TD.rows,zAf,zAc,zAg,zAb,zAd,zAa,zAq,zS4];exact rfl) (by repeat (first | exact zB3 | refine zBi ?_ ?_ | exact le_of_eq rfl | exact zBh (zA1 rfl) | refine zC4 ?_ | exact zC3 rfl (TD.rows ..) | refine zB2 ?_ | refine zE8 ?_ ?_ | exact zA5)) (.inl rfl) ?_;by_cases hm:kkP (zF3 st pi)∈(zKc st d.Pieces i).map kkP
      · obtain ⟨y,hy,hk⟩:=xEg.1 hm;have hmk:=yM6 hnd hy hk;have hadd:zN9 (zKc st d.Pieces i) (zF3 st pi)=zKc st d.Pieces i:=(by unfold zN9;rw [if_pos hm]);have hov:ofV (yVu y)=.agg [.v (.int .i64 y.Color),.v (.int .i64 y.North),.v (.int .i64 y.East),.v (.int .i64 y.South),.v (.int .i64 y.West)]:=(by unfold yVu;simp [ofV,ofC,Value.oneCell']);simp -implicitDefEqProofs (disch:=omega) only [go_sem,↓reduceIte ,xDj,xDo,xD3,xDp,xDm,xDk,hmk,zAq,↓hov];refine zAu ?_ ?_<;>intro hq
        · have hne:y.Color≠pi.Color:=(by have:decide (y.Color=(zF3 st pi).Color)=false:=(by simpa using hq);exact of_decide_eq_false this);have hcf:=hcy y hy hk hne;rw [hcf];simp only [if_true];rw [Design.td_d];simp -implicitDefEqProofs (disch:=omega) only [go_sem,↓reduceIte ,zAq,zUm,zXl,xDw];exact ⟨2,none,_,rfl,by simp only [zAh,D.prune,zAq];exact zFn _⟩
        · have heq:y.Color=pi.Color:=(by have:decide (y.Color=(zF3 st pi).Color)=true:=(by simpa using hq);exact of_decide_eq_true this);have hcl2:=hcn (fun z hz hzk=>by
            obtain ⟨a,ha,rfl⟩:=xF6 hy;obtain ⟨b,hb2,rfl⟩:=xF6 hz;have e:b=a:=zY0 (l:=(zKc st d.Pieces i).map kkP) hnd (hi:=by rw [xDj];exact hb2) (hj:=by rw [xDj];exact ha) (by rw [xGo,xGo,hzk,hk]);subst e;exact heq)
          simp -implicitDefEqProofs (disch:=omega) only [go_sem,↓reduceIte ,xDj,xDo,xD3,xDp,xDm,xDk,zAq,wi];refine ⟨i+1,by omega,⟨by omega,hcl2⟩,?_⟩;rw [hnx,hadd];exact zEx
      · have hmk:=yHk hnd hm;have hadd:zN9 (zKc st d.Pieces i) (zF3 st pi)=zKc st d.Pieces i++[zF3 st pi]:=(by unfold zN9;rw [if_neg hm]);have hnew:=yM5 (zKc st d.Pieces i) (zF3 st pi);have hz:ofV (Value.agg ⟨[.int .i64 0,.int .i64 0,.int .i64 0,.int .i64 0,.int .i64 0]⟩)=.agg [.v (.int .i64 0),.v (.int .i64 0),.v (.int .i64 0),.v (.int .i64 0),.v (.int .i64 0)]:=(by simp [ofV,ofC,Value.oneCell']);simp -implicitDefEqProofs (disch:=omega) only [go_sem,↓reduceIte ,xDj,xDo,xD3,xDp,xDm,xDk,hmk,hnew,zAq,wi,↓hz];have hcl2:=hcn (fun z hz hzk=>absurd (xEg.2 ⟨z,hz,hzk⟩) hm);refine ⟨by omega,i+1,by omega,⟨by omega,hcl2⟩,?_⟩;rw [hnx,hadd]
        try simp only [xEz,xDu,xEb,Piece.td_d]
        exact zEx
    · obtain rfl:i=d.Pieces.length:=(by have:¬ i<d.Pieces.length:=(by simpa using hlt);omega);have hcf:=yNh hcl;rw [hcf,zYx];simp only [xDr,if_false];rw [Design.td_d];unfold zFw;simp -implicitDefEqProofs (disch:=omega) only [go_sem,↓reduceIte ,zAq,zUm,zXl,xD5];exact ⟨2,none,_,rfl,by simp only [zAh,D.prune,zAq];exact zFn _⟩
def code_impl_mergePieces:VCode:=(.seq (.ops [
  ⟨some 3,none,.box (.tmp 0)⟩,
  ⟨some 6,none,.alloc [(.slice none 0 0),(.slice none 0 0),(.slice none 0 0)]⟩,
  ⟨some 7,none,.asg (.const (.bool false))⟩]) (.seq (.ops [
  ⟨some 11,none,.callX 77 []⟩,
  ⟨some 12,none,.callX 77 []⟩,
  ⟨some 13,none,.build [(.pointer none),(.pointer none)] [(0,1,(.tmp 11)),(1,1,(.tmp 12))]⟩,
  ⟨some 8,none,.alloc [(.pointer none),(.pointer none)]⟩,
  ⟨none,none,.store 2 (.tmp 8) (.tmp 13)⟩]) (.seq (.drawB [] [(9,5)] (mB 24 16762368) (mB 19 262144) [⟨0,mB 24 16762368,[],⟨some 14,none,.fa 2 (.tmp 3)⟩⟩,⟨1,mB 24 16745984,[],⟨some 15,none,.load 1 false (.tmp 14)⟩⟩,⟨2,mB 24 16762368,[],⟨some 16,none,.mv (.tmp 1)⟩⟩,⟨3,mB 24 16647680,[],⟨some 17,none,.ia 5 (.tmp 15) (.tmp 16)⟩⟩,⟨4,mB 24 16516608,[],⟨some 18,none,.load 5 true (.tmp 17)⟩⟩,⟨5,mB 24 16762368,[],⟨some 19,none,.fa 2 (.tmp 3)⟩⟩,⟨6,mB 24 16238080,[],⟨some 20,none,.load 1 false (.tmp 19)⟩⟩,⟨7,mB 24 16762368,[],⟨some 21,none,.mv (.tmp 2)⟩⟩,⟨8,mB 24 13092352,[],⟨some 22,none,.ia 5 (.tmp 20) (.tmp 21)⟩⟩,⟨9,mB 24 8898048,[],⟨some 23,none,.load 5 true (.tmp 22)⟩⟩,⟨10,mB 24 16762368,[],⟨none,none,.mv (.const (.tuple ⟨[]⟩))⟩⟩,⟨11,mB 24 16762368,[],⟨some 10,none,.alloc [(.int .i64 0),(.int .i64 0),(.int .i64 0),(.int .i64 0),(.int .i64 0)]⟩⟩,⟨12,mB 24 16253440,(mB 19 262144),⟨some 9,none,.box (.tmp 18)⟩⟩] [⟨none,none,.store 5 (.tmp 10) (.tmp 23)⟩]) (.seq (.ops [
  ⟨some 24,none,.fa 0 (.tmp 8)⟩,
  ⟨some 25,none,.load 1 false (.tmp 24)⟩,
  ⟨some 26,none,.fa 3 (.tmp 9)⟩,
  ⟨some 27,none,.load 1 false (.tmp 26)⟩,
  ⟨some 28,none,.fa 3 (.tmp 10)⟩,
  ⟨some 29,none,.load 1 false (.tmp 28)⟩,
  ⟨some 30,none,.callX 78 [(.tmp 25),(.tmp 27),(.tmp 29)]⟩]) (.seq (.ops [
  ⟨some 31,none,.fa 1 (.tmp 8)⟩,
  ⟨some 32,none,.load 1 false (.tmp 31)⟩,
  ⟨some 33,none,.fa 4 (.tmp 9)⟩,
  ⟨some 34,none,.load 1 false (.tmp 33)⟩,
  ⟨some 35,none,.fa 4 (.tmp 10)⟩,
  ⟨some 36,none,.load 1 false (.tmp 35)⟩,
  ⟨some 37,none,.callX 78 [(.tmp 32),(.tmp 34),(.tmp 36)]⟩]) (.seq (.ops [
  ⟨some 38,none,.load 2 true (.tmp 8)⟩,
  ⟨some 39,none,.load 5 true (.tmp 9)⟩,
  ⟨some 40,none,.load 5 true (.tmp 10)⟩,
  ⟨some 41,none,.callX 79 [(.tmp 38),(.tmp 39),(.tmp 40)]⟩]) (.seq (.ops [
  ⟨some 42,none,.load 2 true (.tmp 8)⟩,
  ⟨some 43,none,.load 3 true (.tmp 3)⟩,
  ⟨some 44,none,.callX 80 [(.tmp 42),(.tmp 43)]⟩,
  ⟨some 45,none,.ext (.tmp 44) 0⟩,
  ⟨some 46,none,.ext (.tmp 44) 1⟩,
  ⟨none,none,.store 3 (.tmp 6) (.tmp 45)⟩,
  ⟨some 7,none,.asg (.tmp 46)⟩]) .ret)))))))
theorem zJ2 {a0 a1 a2 d:D}(h:code_impl_mergePieces.wp (CT Try.prog NoG) (zG3 [(.c 6 3 true),(.t 7)] d) [a0,a1,a2,.undef,.undef,.undef,.undef,.undef,.undef,.undef,.undef,.undef,.undef,.undef,.undef,.undef,.undef,.undef,.undef,.undef,.undef,.undef,.undef,.undef,.undef,.undef,.undef,.undef,.undef,.undef,.undef,.undef,.undef,.undef,.undef,.undef,.undef,.undef,.undef,.undef,.undef,.undef,.undef,.undef,.undef,.undef,.undef]):Contract Try.prog NoG 56 [a0,a1,a2] d :=
  zAt (pt:=0) noG Try.func56 (fun us W=>by kernel_rfl) (c:=Try.f56.body.getD .skip) (ms:=[]) (ms':=[]) (by kernel_rfl) (by kernel_rfl) (by kernel_rfl) h
def code_impl_MergePieces:VCode:=(.seq (.ops [
  ⟨some 3,none,.box (.tmp 0)⟩,
  ⟨some 6,none,.alloc [(.slice none 0 0),(.slice none 0 0),(.slice none 0 0)]⟩,
  ⟨some 7,none,.asg (.const (.int .i64 0))⟩]) (.seq (.block 0 (.seq (.ops [
  ⟨some 11,none,.load 3 true (.tmp 3)⟩,
  ⟨some 12,none,.callX 27 [(.tmp 11)]⟩,
  ⟨some 13,none,.un .not (.tmp 12)⟩,
  ⟨some 10,none,.asg (.tmp 13)⟩]) (.cond (.tmp 10) (.seq (.ops [
  ⟨some 14,none,.build [(.slice none 0 0),(.slice none 0 0),(.slice none 0 0)] []⟩,
  ⟨none,none,.store 3 (.tmp 6) (.tmp 14)⟩,
  ⟨some 7,none,.asg (.const (.int .i64 1))⟩]) .ret) (.seq (.ops [
  ⟨some 16,none,.mv (.tmp 1)⟩,
  ⟨some 17,none,.fa 2 (.tmp 3)⟩,
  ⟨some 18,none,.load 1 false (.tmp 17)⟩,
  ⟨some 19,none,.len (.tmp 18)⟩,
  ⟨some 20,none,.callX 55 [(.tmp 16),(.tmp 19)]⟩,
  ⟨some 21,none,.un .not (.tmp 20)⟩,
  ⟨some 22,none,.mv (.tmp 21)⟩,
  ⟨some 23,some (22,false),.mv (.tmp 2)⟩,
  ⟨some 24,some (22,false),.fa 2 (.tmp 3)⟩,
  ⟨some 25,some (22,false),.load 1 false (.tmp 24)⟩,
  ⟨some 26,some (22,false),.len (.tmp 25)⟩,
  ⟨some 27,some (22,false),.callX 55 [(.tmp 23),(.tmp 26)]⟩,
  ⟨some 28,some (22,false),.un .not (.tmp 27)⟩,
  ⟨some 29,none,.pick (.tmp 22) (.const (.bool true)) (.tmp 28)⟩,
  ⟨some 30,none,.mv (.tmp 29)⟩,
  ⟨some 31,some (30,false),.mv (.tmp 1)⟩,
  ⟨some 32,some (30,false),.mv (.tmp 2)⟩,
  ⟨some 33,some (30,false),.bin .eql (.tmp 31) (.tmp 32)⟩,
  ⟨some 34,none,.pick (.tmp 30) (.const (.bool true)) (.tmp 33)⟩,
  ⟨some 15,none,.asg (.tmp 34)⟩]) (.cond (.tmp 15) (.seq (.ops [
  ⟨some 35,none,.build [(.slice none 0 0),(.slice none 0 0),(.slice none 0 0)] []⟩,
  ⟨none,none,.store 3 (.tmp 6) (.tmp 35)⟩,
  ⟨some 7,none,.asg (.const (.int .i64 2))⟩]) .ret) .skip))))) (.seq (.ops [
  ⟨some 37,none,.load 3 true (.tmp 3)⟩,
  ⟨some 38,none,.mv (.tmp 1)⟩,
  ⟨some 39,none,.mv (.tmp 2)⟩,
  ⟨some 40,none,.callX 56 [(.tmp 37),(.tmp 38),(.tmp 39)]⟩,
  ⟨some 36,none,.mv (.tmp 40)⟩,
  ⟨some 41,none,.ext (.tmp 36) 0⟩,
  ⟨some 42,none,.ext (.tmp 36) 1⟩,
  ⟨some 8,none,.alloc [(.slice none 0 0),(.slice none 0 0),(.slice none 0 0)]⟩,
  ⟨none,none,.store 3 (.tmp 8) (.tmp 41)⟩,
  ⟨some 9,none,.asg (.tmp 42)⟩]) (.seq (.seq (.ops [
  ⟨some 43,none,.mv (.tmp 9)⟩,
  ⟨some 44,none,.un .not (.tmp 43)⟩]) (.cond (.tmp 44) (.seq (.ops [
  ⟨some 45,none,.build [(.slice none 0 0),(.slice none 0 0),(.slice none 0 0)] []⟩,
  ⟨none,none,.store 3 (.tmp 6) (.tmp 45)⟩,
  ⟨some 7,none,.asg (.const (.int .i64 7))⟩]) .ret) .skip)) (.seq (.ops [
  ⟨some 46,none,.load 3 true (.tmp 8)⟩,
  ⟨none,none,.store 3 (.tmp 6) (.tmp 46)⟩,
  ⟨some 7,none,.asg (.const (.int .i64 0))⟩]) .ret)))))
theorem zJ5 {a0 a1 a2 d:D}(h:code_impl_MergePieces.wp (CT Try.prog NoG) (zG3 [(.c 6 3 true),(.t 7)] d) [a0,a1,a2,.undef,.undef,.undef,.undef,.undef,.undef,.undef,.undef,.undef,.undef,.undef,.undef,.undef,.undef,.undef,.undef,.undef,.undef,.undef,.undef,.undef,.undef,.undef,.undef,.undef,.undef,.undef,.undef,.undef,.undef,.undef,.undef,.undef,.undef,.undef,.undef,.undef,.undef,.undef,.undef,.undef,.undef,.undef,.undef]):Contract Try.prog NoG 22 [a0,a1,a2] d :=
  zAt (pt:=0) noG Try.func22 (fun us W=>by kernel_rfl) (c:=Try.f22.body.getD .skip) (ms:=[]) (ms':=[]) (by kernel_rfl) (by kernel_rfl) (by kernel_rfl) h
set_option maxHeartbeats 4000000 in
theorem zTm (d:Design)(i k:Int)(hok:zC2 d=true)(hi:0≤i∧i<d.Pieces.length)(hk:0≤k∧k<d.Pieces.length):Contract Try.prog NoG 56 [.agg (Design.td.d false d),.v (.int .i64 i),.v (.int .i64 k)] (.tup [.agg (Design.td.d true (if clash (mgD d i k) d.Pieces then ⟨[],[],[]⟩ else zFw d (mgD d i k))),.v (.bool (!clash (mgD d i k) d.Pieces))]):=by
  have hdd:=Design.td_d false d;have hp:∀ p,p∈d.Pieces→InP p:=fun p h=>zSx ((zA8 hok).2.2.2.1 p h);obtain ⟨i,rfl⟩:∃ n:Nat,i=(n:Int):=⟨i.toNat,by omega⟩
  obtain ⟨k,rfl⟩:∃ n:Nat,k=(n:Int):=⟨k.toNat,by omega⟩
  have hil:i<d.Pieces.length:=(by omega);have hkl:k<d.Pieces.length:=(by omega);have ei:=xDl hil;have ek:=xDl hkl;have hpi:=hp _ (xEo hil);have hpk:=hp _ (xEo hkl);have hm:mgD d (i:Nat) (k:Nat)=fin d.Pieces (m0 d.Pieces[i] d.Pieces[k]):=(by unfold mgD;rw [zDx hil,zDx hkl]);have h1:=zPv idN d.Pieces[i].South d.Pieces[k].South idN_ok hpi.S hpk.S;have h2:=zPv idN d.Pieces[i].West d.Pieces[k].West idN_ok hpi.W hpk.W;have h3:=zUz ⟨zA7 idN d.Pieces[i].South d.Pieces[k].South,zA7 idN d.Pieces[i].West d.Pieces[k].West,true⟩ d.Pieces[i] d.Pieces[k] ⟨idN_ok.join hpi.S hpk.S,idN_ok.join hpi.W hpk.W⟩ hpi hpk;have h4:=yIo d (m0 d.Pieces[i] d.Pieces[k]) hok (ySc hpi hpk);rw [← hm] at h4;unfold m0 at h4;simp only at h3 h4;generalize mgD d (i:Nat) (k:Nat)=F at *;generalize (if clash F d.Pieces then (⟨[],[],[]⟩:Design) else zFw d F)=out at *;generalize (!clash F d.Pieces)=fl at *;generalize d.Pieces[i]=p at *;generalize d.Pieces[k]=q at *;generalize zA7 idN p.South q.South=R1 at *;generalize zA7 idN p.West q.West=C1 at *;generalize zA7 R1 p.North q.North=R2 at *;generalize zA7 C1 p.East q.East=C2 at *;rw [hdd,Design.td_d];rw [Design.td_d,Design.td_d] at h4;rw [Piece.td_d,Piece.td_d] at h3;refine zJ2 ?_;unfold code_impl_mergePieces;simp -implicitDefEqProofs (disch:=omega) only [go_sem,↓reduceIte];refine zQc zSc (by simp -implicitDefEqProofs (disch:=omega) only [go_sem,↓reduceIte,deep,TD.rows,zAf,zAc,zAg,zAb,zAd,zAa,zAq];exact rfl) (by repeat (first | exact zB3 | refine zBi ?_ ?_ | exact le_of_eq rfl | exact zBh (zA1 rfl) | refine zC4 ?_ | exact zC3 rfl (TD.rows ..) | refine zB2 ?_ | refine zE8 ?_ ?_ | exact zA5)) (.inl (by simp only [D.noImm,zH4])) ?_;simp -implicitDefEqProofs (disch:=omega) only [go_sem,↓reduceIte ,zAq];refine zQc zSc (by simp -implicitDefEqProofs (disch:=omega) only [go_sem,↓reduceIte,deep,TD.rows,zAf,zAc,zAg,zAb,zAd,zAa,zAq];exact rfl) (by repeat (first | exact zB3 | refine zBi ?_ ?_ | exact le_of_eq rfl | exact zBh (zA1 rfl) | refine zC4 ?_ | exact zC3 rfl (TD.rows ..) | refine zB2 ?_ | refine zE8 ?_ ?_ | exact zA5)) (.inl (by simp only [D.noImm,zH4])) ?_;simp -implicitDefEqProofs (disch:=omega) only [go_sem,↓reduceIte ,zAq,xDj,xDo,xD3,xDp,xDm,xDk,ei,ek,hil,hkl,Piece.td_d];refine zUp (i:=0) (r:=11) h1 rfl rfl (by simp -implicitDefEqProofs (disch:=omega) only [go_sem,↓reduceIte,deep,TD.rows,zAf,zAc,zAg,zAb,zAd,zAa,zAq];exact rfl) (by repeat (first | exact zB3 | refine zBi ?_ ?_ | exact le_of_eq rfl | exact zBh (zA1 rfl) | refine zC4 ?_ | exact zC3 rfl (TD.rows ..) | refine zB2 ?_ | refine zE8 ?_ ?_ | exact zA5)) (by rw [zAq];exact zFn _) (.inr rfl) ?_;simp -implicitDefEqProofs (disch:=omega) only [go_sem,↓reduceIte ,zAq];refine zUp (i:=0) (r:=12) h2 rfl rfl (by simp -implicitDefEqProofs (disch:=omega) only [go_sem,↓reduceIte,deep,TD.rows,zAf,zAc,zAg,zAb,zAd,zAa,zAq];exact rfl) (by repeat (first | exact zB3 | refine zBi ?_ ?_ | exact le_of_eq rfl | exact zBh (zA1 rfl) | refine zC4 ?_ | exact zC3 rfl (TD.rows ..) | refine zB2 ?_ | refine zE8 ?_ ?_ | exact zA5)) (by rw [zAq];exact zFn _) (.inr rfl) ?_;simp -implicitDefEqProofs (disch:=omega) only [go_sem,↓reduceIte ,zAq];refine yHu 11 12 8 h3 (by decide) rfl rfl rfl ⟨zOi _,zOi _⟩ rfl (by simp -implicitDefEqProofs (disch:=omega) only [go_sem,↓reduceIte,deep,TD.rows,zAf,zAc,zAg,zAb,zAd,zAa,zAq];exact rfl) (by repeat (first | exact zB3 | refine zBi ?_ ?_ | exact le_of_eq rfl | exact zBh (zA1 rfl) | refine zC4 ?_ | exact zC3 rfl (TD.rows ..) | refine zB2 ?_ | refine zE8 ?_ ?_ | exact zA5)) rfl ⟨by decide,by decide⟩ ?_;simp -implicitDefEqProofs (disch:=omega) only [go_sem,↓reduceIte ,zAq];refine zZt (r:=8) h4 rfl rfl ⟨zOi _,zOi _⟩ (by simp -implicitDefEqProofs (disch:=omega) only [go_sem,↓reduceIte,deep,TD.rows,zAf,zAc,zAg,zAb,zAd,zAa,zAq];exact rfl) (by repeat (first | exact zB3 | refine zBi ?_ ?_ | exact le_of_eq rfl | exact zBh (zA1 rfl) | refine zC4 ?_ | exact zC3 rfl (TD.rows ..) | refine zB2 ?_ | refine zE8 ?_ ?_ | exact zA5)) ⟨by simp only [D.noImm,zBc,go_sem,TD.nims,TD.nim,zGx,zE0,zEz,zGw],zH4 _,zH4 _⟩ ?_;simp -implicitDefEqProofs (disch:=omega) only [go_sem,↓reduceIte ,zAq]
set_option maxHeartbeats 4000000 in
theorem zGs (d:Design)(i k:Int)(hd:dsnB d):Contract Try.prog NoG 22 [.agg (Design.td.d false d),.v (.int .i64 i),.v (.int .i64 k)] (.tup [.agg (Design.td.d true (zAx d i k)),.v (.int .i64 (zBf d i k))]):=by
  have hV:=zF7 d hd;have hX1:=zU0 i d.Pieces.length (by omega) (by have:=hd.p;omega);have hX2:=zU0 k d.Pieces.length (by omega) (by have:=hd.p;omega);unfold zAx zBf yXw;rw [Design.td_d] at hV;refine (show Contract _ _ _ [.agg [.sl false 1 (d.Bottom.map rI),.sl false 1 (d.Left.map rI),.sl false 5 (d.Pieces.map (Piece.td.d false))],_,_] _ from ?_);refine zJ5 ?_;unfold code_impl_MergePieces;simp -implicitDefEqProofs (disch:=omega) only [go_sem,↓reduceIte];cases h0:zC2 d with
  | false=>rw [h0] at hV;simp only [xDr,if_false,Int.reduceEq,Design.td_d,xEb];refine zAs (hV) (by simp -implicitDefEqProofs (disch:=omega) only [go_sem,↓reduceIte,deep,TD.rows,zAf,zAc,zAg,zAb,zAd,zAa,xD5];exact rfl) ?_;simp -implicitDefEqProofs (disch:=omega) only [go_sem,↓reduceIte ,xD5]
  | true =>
    rw [h0] at hV;simp only [if_true];refine zAs (hV) (by simp -implicitDefEqProofs (disch:=omega) only [go_sem,↓reduceIte,deep,TD.rows,zAf,zAc,zAg,zAb,zAd,zAa,xDw,xDj];exact rfl) ?_;simp -implicitDefEqProofs (disch:=omega) only [go_sem,↓reduceIte ,xDw,xDj];cases h1:inR 0 (d.Pieces.length-1:Int) i with
    | false=>rw [h1] at hX1;simp only [xE0,xDr,if_false,Int.reduceEq,Design.td_d,xEb];refine zAs (hX1) (by simp -implicitDefEqProofs (disch:=omega) only [go_sem,↓reduceIte,deep,TD.rows,zAf,zAc,zAg,zAb,zAd,zAa,xD5];exact rfl) ?_;simp -implicitDefEqProofs (disch:=omega) only [go_sem,↓reduceIte ,xD5]
    | true =>
    rw [h1] at hX1;cases h2:inR 0 (d.Pieces.length-1:Int) k with
    | false=>rw [h2] at hX2;simp only [xEy,xE0,xDr,if_false,Int.reduceEq,Design.td_d,xEb];refine zAs (hX1) (by simp -implicitDefEqProofs (disch:=omega) only [go_sem,↓reduceIte,deep,TD.rows,zAf,zAc,zAg,zAb,zAd,zAa,xDw,xDj];exact rfl) ?_;simp -implicitDefEqProofs (disch:=omega) only [go_sem,↓reduceIte ,xDw,xDj];refine zAs (hX2) (by simp -implicitDefEqProofs (disch:=omega) only [go_sem,↓reduceIte,deep,TD.rows,zAf,zAc,zAg,zAb,zAd,zAa,xD5];exact rfl) ?_;simp -implicitDefEqProofs (disch:=omega) only [go_sem,↓reduceIte ,xD5]
    | true =>
    rw [h2] at hX2;cases h3:decide (i=k) with
    | true=>simp only [xEy,xDw,xDr,if_false,Int.reduceEq,Design.td_d,xEb];refine zAs (hX1) (by simp -implicitDefEqProofs (disch:=omega) only [go_sem,↓reduceIte,deep,TD.rows,zAf,zAc,zAg,zAb,zAd,zAa,xDw,xDj];exact rfl) ?_;simp -implicitDefEqProofs (disch:=omega) only [go_sem,↓reduceIte ,xDw,xDj];refine zAs (hX2) (by simp -implicitDefEqProofs (disch:=omega) only [go_sem,↓reduceIte,deep,TD.rows,zAf,zAc,zAg,zAb,zAd,zAa,xDw,h3];exact rfl) ?_;simp -implicitDefEqProofs (disch:=omega) only [go_sem,↓reduceIte ,xDw,h3]
    | false =>
    have hi:0≤i∧i<d.Pieces.length:=(by have:=inR_iff.1 h1;omega);have hk:0≤k∧k<d.Pieces.length:=(by have:=inR_iff.1 h2;omega);have hM:=zTm d i k h0 hi hk;simp only [xEy,xD5,if_true];cases h4:clash (mgD d i k) d.Pieces with
    | true=>rw [h4] at hM;simp only [if_true,Int.reduceEq,if_false,Design.td_d,xEb] at hM ⊢;refine zAs (hX1) (by simp -implicitDefEqProofs (disch:=omega) only [go_sem,↓reduceIte,deep,TD.rows,zAf,zAc,zAg,zAb,zAd,zAa,xDw,xDj];exact rfl) ?_;simp -implicitDefEqProofs (disch:=omega) only [go_sem,↓reduceIte ,xDw,xDj];refine zAs (hX2) (by simp -implicitDefEqProofs (disch:=omega) only [go_sem,↓reduceIte,deep,TD.rows,zAf,zAc,zAg,zAb,zAd,zAa,xDw,h3];exact rfl) ?_;simp -implicitDefEqProofs (disch:=omega) only [go_sem,↓reduceIte ,xDw,h3];refine zAs (hM) (by simp -implicitDefEqProofs (disch:=omega) only [go_sem,↓reduceIte,deep,TD.rows,zAf,zAc,zAg,zAb,zAd,zAa,xDw,xD5];exact rfl) ?_;simp -implicitDefEqProofs (disch:=omega) only [go_sem,↓reduceIte ,xDw,xD5]
    | false=>rw [h4] at hM;simp only [xDr,if_true,if_false,Design.td_d] at hM ⊢;refine zAs (hX1) (by simp -implicitDefEqProofs (disch:=omega) only [go_sem,↓reduceIte,deep,TD.rows,zAf,zAc,zAg,zAb,zAd,zAa,xDw,xDj];exact rfl) ?_;simp -implicitDefEqProofs (disch:=omega) only [go_sem,↓reduceIte ,xDw,xDj];refine zAs (hX2) (by simp -implicitDefEqProofs (disch:=omega) only [go_sem,↓reduceIte,deep,TD.rows,zAf,zAc,zAg,zAb,zAd,zAa,xDw,h3];exact rfl) ?_;simp -implicitDefEqProofs (disch:=omega) only [go_sem,↓reduceIte ,xDw,h3];refine zAs (hM) (by simp -implicitDefEqProofs (disch:=omega) only [go_sem,↓reduceIte,deep,TD.rows,zAf,zAc,zAg,zAb,zAd,zAa,xDw,xD5];exact rfl) ?_;simp -implicitDefEqProofs (disch:=omega) only [go_sem,↓reduceIte ,xDw,xD5]
end Go.Proofs.Ytaleehohmpohoaa
