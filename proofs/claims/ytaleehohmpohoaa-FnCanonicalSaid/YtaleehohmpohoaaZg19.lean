/- Laws that the proof stands on. -/
import Derived.Test.YtaleehohmpohoaaZVFlat
import Derived.Test.YtaleehohmpohoaaZVDsnP
import Derived.Test.YtaleehohmpohoaaZg16
import Derived.Test.YtaleehohmpohoaaProg
set_option linter.all false
namespace Go.Proofs.Ytaleehohmpohoaa
open Go.RowKit Go.V
attribute [local go_sem] xBh xBb xBc xA8 xA6 xBl xBk xBy xBm xC7 xBt xCi xBn xCl xB6 xCg xBi xBp xBw xCn Value.oneCell' xCp xCu xCv xC0 xC1 xBr xB7 and_true true_and beq_self_eq_true xBa if_true if_false xB2 Nat.reduceAdd Nat.reduceMul Nat.reduceLeDiff xBj xB5 xB0 not_true_eq_false not_false_eq_true ne_eq reduceCtorEq xCf bne_self_eq_false Nat.reduceEqDiff List.isPrefixOf xB9 xCm xCq xC5 xCx decide_true decide_false Nat.reduceBEq Nat.reduceBNe xBv xBz exists_eq_left' exists_eq_left xAv or_false or_true true_or false_or xAx xCk mB Nat.reduceMod Nat.reduceDiv
set_option maxRecDepth 100000
def zA6 (N:List Int)(k:Int):List Int:=if k∈N then N else N++[k]
def zE9 (N:List Int)(k:Int):Nat:=N.idxOf k
def zW7 (N:List Int):List Int:=(List.range 120).map fun k=>if ((k:Nat):Int)∈N then ((zE9 N k:Nat):Int) else -1
theorem zY9 {N:List Int}{k:Int}(h:k∈N):zE9 N k<N.length:=xE6 h
theorem zFz (N:List Int)(k:Int):k∈zA6 N k:=by unfold zA6;split<;>simp_all
theorem zEd {N:List Int}{k j:Int}(h:j∈N):j∈zA6 N k:=by unfold zA6;split<;>simp_all
theorem zD7 {N:List Int}{k:Int}(h:N.Nodup):(zA6 N k).Nodup:=by
  unfold zA6;split
  · exact h
  · rename_i hk;exact xA5.2 ⟨h,by simp,fun x hx y hy e=>by simp at hy;subst hy;subst e;exact hk hx⟩
theorem zHd {N:List Int}{k j:Int}(h:j∈N):zE9 (zA6 N k) j=zE9 N j:=by
  unfold zA6 zE9;split
  · rfl
  · rw [xE8,if_pos h]
theorem zDo {N:List Int}{k:Int}(h:k∈N):zA6 N k=N:=by unfold zA6;rw [if_pos h]
theorem zOs {N:List Int}{k:Int}(h:k∉N):zA6 N k=N++[k]:=by unfold zA6;rw [if_neg h]
theorem zVv {N:List Int}{k:Int}(h:k∉N):zE9 (N++[k]) k=N.length:=by unfold zE9;rw [xE8,if_neg h];simp
theorem zB4 (N:List Int)(k:Int):(zA6 N k).length≤N.length+1:=by unfold zA6;split<;>simp
theorem zD3 (N:List Int):(zW7 N).length=120:=by simp [zW7]
theorem zEc {N:List Int}{k:Nat}(h:k<120):(zW7 N)[k]?=some (if ((k:Nat):Int)∈N then ((zE9 N k:Nat):Int) else -1):=by unfold zW7;rw [xAy,xEt h];rfl
theorem yJ7 {N:List Int}{k:Nat}(h:k<120)(hk:(k:Int)∉N):(zW7 N).set k ((N.length:Nat):Int)=zW7 (N++[(k:Int)]):=by
  apply xDc;intro j;by_cases hj:j<120
  · rw [zEc hj];by_cases hjk:k=j
    · subst hjk;rw [xBq (by rw [zD3];exact h),if_pos qAh,zVv hk]
    · rw [xA9 hjk,zEc hj];have hne:¬ ((j:Nat):Int)=(k:Int):=by omega
      by_cases hm:((j:Nat):Int)∈N
      · rw [if_pos hm,if_pos (by simp [hm])];unfold zE9;rw [xE8,if_pos hm]
      · rw [if_neg hm,if_neg (by simp [hm,hne])]
  · rw [xCy (by rw [xD9,zD3];omega),xCy (by rw [zD3];omega)]
def yOn (p:Int×Nat):Value:=.int .i64 p.1
def yX9 (p:Int×Nat):Value:=.int .i64 (p.2:Nat)
def yIy (N:List Int):List (Value×Value):=tbG yOn yX9 N.zipIdx
theorem yZe (k:Int)(b:Int×Nat):keq (.int .i64 k) (yOn b)=decide (b.1=k):=by simp only [yOn,keq,zZj];rw [Bool.beq_eq_decide_eq];exact decide_eq_decide.2 eq_comm
def code_spec_l33Name:VCode:=(.seq (.ops [
  ⟨some 6,none,.asg (.const (.int .i64 0))⟩]) (.seq (.seq (.ops [
  ⟨some 7,none,.mv (.tmp 0)⟩,
  ⟨some 8,none,.mv (.tmp 1)⟩,
  ⟨some 9,none,.ia 1 (.tmp 7) (.tmp 8)⟩,
  ⟨some 10,none,.load 1 false (.tmp 9)⟩,
  ⟨some 11,none,.bin .lss (.tmp 10) (.const (.int .i64 0))⟩]) (.cond (.tmp 11) (.seq (.ops [
  ⟨some 12,none,.mv (.tmp 0)⟩,
  ⟨some 13,none,.mv (.tmp 1)⟩,
  ⟨some 14,none,.mv (.tmp 2)⟩,
  ⟨some 15,none,.nilc (.tmp 14)⟩,
  ⟨some 16,none,.load 1 false (.tmp 15)⟩,
  ⟨some 17,none,.ia 1 (.tmp 12) (.tmp 13)⟩,
  ⟨none,none,.store 1 (.tmp 17) (.tmp 16)⟩]) (.ops [
  ⟨some 18,none,.mv (.tmp 2)⟩,
  ⟨some 19,none,.nilc (.tmp 18)⟩,
  ⟨some 20,none,.load 1 false (.tmp 19)⟩,
  ⟨some 21,none,.bin .add (.tmp 20) (.const (.int .i64 1))⟩,
  ⟨some 22,none,.nilc (.tmp 18)⟩,
  ⟨none,none,.store 1 (.tmp 22) (.tmp 21)⟩])) .skip)) (.seq (.ops [
  ⟨some 23,none,.mv (.tmp 0)⟩,
  ⟨some 24,none,.mv (.tmp 1)⟩,
  ⟨some 25,none,.ia 1 (.tmp 23) (.tmp 24)⟩,
  ⟨some 26,none,.load 1 false (.tmp 25)⟩,
  ⟨some 6,none,.asg (.tmp 26)⟩]) .ret)))
theorem zQ4 {a1 d d1 d1':D}{cells cells':List D}(hx:d1'.exact=true)(h:∀ b,code_spec_l33Name.wp (CT Try.prog NoG) (yZv [(.t 6)] d 0 d1' 2 b cells') [d1,a1,.box (some b) cells,.undef,.undef,.undef,.undef,.undef,.undef,.undef,.undef,.undef,.undef,.undef,.undef,.undef,.undef,.undef,.undef,.undef,.undef,.undef,.undef,.undef,.undef,.undef,.undef]):zG2 Try.prog NoG 33 0 2 [.undef,a1,.undef] [d1,.box none cells] d [d1',.box none cells'] :=
  zYd (pt:=0) noG Try.func33 (fun us W=>by kernel_rfl) (c:=Try.f33.body.getD .skip) (ms:=[]) (ms':=[]) (by kernel_rfl) (by kernel_rfl) (by kernel_rfl) qAh qAh qAx (by kernel_rfl) hx h
theorem yUz (N:List Int)(k:Nat)(hk:k<120)(hN:N.length<1000):zG2 Try.prog NoG 33 0 2 [.undef,.v (.int .i64 (k:Nat)),.undef] [.sl true 1 ((zW7 N).map rI),.box none [.v (.int .i64 (N.length:Nat))]] (.v (.int .i64 (zE9 (zA6 N k) k:Nat))) [.sl true 1 ((zW7 (zA6 N k)).map rI),.box none [.v (.int .i64 ((zA6 N k).length:Nat))]]:=by
  refine zQ4 rfl fun b=>?_;unfold code_spec_l33Name;have hl:=zD3 N;have hg:=zEc (N:=N) hk;have hn1:IntKind.i64.wrap ((N.length:Int)+1)=((N.length+1:Nat):Int):=wrI qAc qAc;by_cases hm:((k:Nat):Int)∈N
  · rw [if_pos hm] at hg;rw [zDo hm];have hlt:decide (((zE9 N k:Nat):Int)<0)=false:=by simp
    simp -implicitDefEqProofs (disch:=omega) only [go_sem,↓reduceIte ,xAw,xAz,xA7,xA0,xAy,xAx,hl,hg,hk,rI,hlt,yBw,yHz,yOg]
  · rw [if_neg hm] at hg;have hset:=yJ7 hk hm;have hset2:((zW7 N).map rI).set k [.v (.int .i64 (N.length:Nat))]=(zW7 (N++[(k:Int)])).map rI:=by rw [← hset,xGa]
    have hg2:=zEc (N:=N++[(k:Int)]) hk;rw [if_pos qAh] at hg2;have hl2:=zD3 (N++[(k:Int)]);rw [zOs hm];simp -implicitDefEqProofs (disch:=omega) only [go_sem,↓reduceIte ,xAw,xAz,xA7,xA0,xAy,xAx,hl,hg,hk,rI,hset2,hg2,hl2,hn1,yBw,yHz,yOg,show decide ((-1:Int)<0)=true from rfl,xC4]
    trace_state
def code_slices_IndexFunc_impl_Piece_impl_Piece:VCode:=(.seq (.ops [
  ⟨some 4,none,.asg (.const (.int .i64 0))⟩]) (.seq (.seq (.ops [
  ⟨some 6,none,.mv (.tmp 0)⟩,
  ⟨some 7,none,.len (.tmp 6)⟩,
  ⟨some 8,none,.mv (.const (.int .i64 0))⟩]) (.block 0 (.loop (mB 19 523900) (.seq (.ops [
  ⟨some 9,none,.bin .lss (.tmp 8) (.tmp 7)⟩]) (.seq (.cond (.tmp 9) .skip (.exit 0)) (.seq (.block 1 (.seq (.ops [
  ⟨some 10,none,.mv (.tmp 8)⟩,
  ⟨some 5,none,.asg (.tmp 10)⟩]) (.seq (.ops [
  ⟨some 11,none,.mv (.tmp 1)⟩,
  ⟨some 12,none,.mv (.tmp 0)⟩,
  ⟨some 13,none,.mv (.tmp 5)⟩,
  ⟨some 14,none,.ia 5 (.tmp 12) (.tmp 13)⟩,
  ⟨some 15,none,.load 5 true (.tmp 14)⟩,
  ⟨some 16,none,.callvX (.tmp 11) [(.tmp 15)]⟩]) (.cond (.tmp 16) (.seq (.ops [
  ⟨some 17,none,.mv (.tmp 5)⟩,
  ⟨some 4,none,.asg (.tmp 17)⟩]) .ret) .skip)))) (.ops [
  ⟨some 18,none,.bin .add (.tmp 8) (.const (.int .i64 1))⟩,
  ⟨some 8,none,.mv (.tmp 18)⟩]))))))) (.seq (.ops [
  ⟨some 4,none,.asg (.const (.int .i64 (-1)))⟩]) .ret)))
theorem zDp {a0 a1 d:D}(h:code_slices_IndexFunc_impl_Piece_impl_Piece.wp (CT Try.prog NoG) (zHy [(.t 4)] d) [a0,a1,.undef,.undef,.undef,.undef,.undef,.undef,.undef,.undef,.undef,.undef,.undef,.undef,.undef,.undef,.undef,.undef,.undef]):Contract Try.prog NoG 92 [a0,a1] d :=
  zAo (pt:=0) noG Try.func92 (fun us W=>by kernel_rfl) (c:=Try.f92.body.getD .skip) (ms:=[(mB 19 523900)]) (ms':=[]) (by kernel_rfl) (by kernel_rfl) (by kernel_rfl) h
theorem zPu (f:FuncId)(caps:List D)(hd:CapsOK caps)(xs:List Piece)(p:Piece→Bool)(hc:∀ x,x∈xs→Contract Try.prog NoG f (.agg (Piece.td.d false x)::caps) (.v (.bool (p x))))(hn:xs.length≤1099511627776) :
    Contract Try.prog NoG 92 [.sl false 5 (xs.map (Piece.td.d false)),.fn f [] caps] (.v (.int .i64 (yJk p xs))):=by
  refine zDp ?_;unfold code_slices_IndexFunc_impl_Piece_impl_Piece;simp -implicitDefEqProofs (disch:=omega) only [go_sem,↓reduceIte ,hd.owny,hd.pr];refine zV2 (fun i:Nat=>[.sl false 5 (xs.map (Piece.td.d false)),.fn f [] caps,.undef,.undef,.undef,.undef,.undef,.v (.int .i64 (xs.map (Piece.td.d false)).length),.v (.int .i64 i),.undef,.undef,.undef,.undef,.undef,.undef,.undef,.undef,.undef,.undef]) (fun i=>i≤xs.length∧∀ j (hj:j<xs.length),j<i→p xs[j]=false) (fun i=>xs.length-i) 0 ?_ ⟨xCs _,fun j _ h=>absurd h (Nat.not_lt_zero _)⟩ ?_
  · simp -implicitDefEqProofs (disch:=omega) only [go_sem,↓reduceIte ,hd.owny,hd.pr]
    exact qAa
  rintro i ⟨hi,ha⟩;simp -implicitDefEqProofs (disch:=omega) only [go_sem,↓reduceIte ,xAw,xAz,xA7,xA0,xAy,xAx,hd.owny,hd.pr];refine zAp ?_ ?_<;>intro hlt
  · have hlt:i<xs.length:=qAg;have hx:=xA1 hlt;simp -implicitDefEqProofs (disch:=omega) only [go_sem,↓reduceIte ,xAw,xAz,xA7,xA0,xAy,xAx,hlt,hx,Piece.td_d,hd.owny,hd.pr];have hcx:=hc _ (xB3 hlt);rw [Piece.td_d] at hcx;refine yCa (f:=f) (first:=[]) (caps:=caps) ?_ hcx ?_ (.inl rfl) ?_
    · simp -implicitDefEqProofs (disch:=omega) only [go_sem,↓reduceIte ,hd.owny]
    · refine zBs ?_;simp only [xBp,xBi,xA6,xBl,hd.d8,xBo];simp only [deep,raw,xBh,xBb,xA6,xBl,TD.rows,zAw,zAt,zA0,zAs]
    simp -implicitDefEqProofs (disch:=omega) only [go_sem,↓reduceIte ,hd.owny,hd.pr];refine zAp ?_ ?_<;>intro hp
    · simp -implicitDefEqProofs (disch:=omega) only [go_sem,↓reduceIte ,hd.owny,hd.pr];rw [zVi p xs i hlt ha hp]
    · simp -implicitDefEqProofs (disch:=omega) only [go_sem,↓reduceIte ,wrN,hd.owny,hd.pr];refine ⟨i+1,by omega,⟨hlt,fun j hj h=>?_⟩,zD2⟩;rcases xF7 j i with h' | h'
      · exact ha j hj h'
      · have:j=i:=qAc;subst this;exact hp
  · have hlt:¬ i<xs.length:=qAg;simp -implicitDefEqProofs (disch:=omega) only [go_sem,↓reduceIte];rw [zR8 p xs (fun j hj=>ha j hj qAc)]
def code_slices_ContainsFunc_impl_Piece_impl_Piece:VCode:=(.seq (.ops [
  ⟨some 4,none,.asg (.const (.bool false))⟩]) (.seq (.ops [
  ⟨some 5,none,.mv (.tmp 0)⟩,
  ⟨some 6,none,.mv (.tmp 1)⟩,
  ⟨some 7,none,.callX 92 [(.tmp 5),(.tmp 6)]⟩,
  ⟨some 8,none,.bin .geq (.tmp 7) (.const (.int .i64 0))⟩,
  ⟨some 4,none,.asg (.tmp 8)⟩]) .ret))
theorem zC4 {a0 a1 d:D}(h:code_slices_ContainsFunc_impl_Piece_impl_Piece.wp (CT Try.prog NoG) (zHy [(.t 4)] d) [a0,a1,.undef,.undef,.undef,.undef,.undef,.undef,.undef]):Contract Try.prog NoG 65 [a0,a1] d :=
  zAo (pt:=0) noG Try.func65 (fun us W=>by kernel_rfl) (c:=Try.f65.body.getD .skip) (ms:=[]) (ms':=[]) (by kernel_rfl) (by kernel_rfl) (by kernel_rfl) h
theorem zGe (f:FuncId)(caps:List D)(hd:CapsOK caps)(xs:List Piece)(p:Piece→Bool)(hc:∀ x,x∈xs→Contract Try.prog NoG f (.agg (Piece.td.d false x)::caps) (.v (.bool (p x))))(hn:xs.length≤1099511627776) :
    Contract Try.prog NoG 65 [.sl false 5 (xs.map (Piece.td.d false)),.fn f [] caps] (.v (.bool (xs.any p))):=by
  refine zC4 ?_;unfold code_slices_ContainsFunc_impl_Piece_impl_Piece;simp -implicitDefEqProofs (disch:=omega) only [go_sem,↓reduceIte ,hd.owny,hd.pr];refine zZx (zPu f caps hd xs p hc hn) ?_ (.inl rfl) ?_
  · refine zBs ?_;simp only [xA6,xBl,deep,raw,xBh,xBb,TD.rows,zAw,zAt,zA0,zAs,hd.owny,hd.pr,hd.d7]
    try rfl
  simp -implicitDefEqProofs (disch:=omega) only [go_sem,↓reduceIte];exact congrArg Value.bool (zZ4 p xs)
end Go.Proofs.Ytaleehohmpohoaa
