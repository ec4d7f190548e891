/- Laws that the proof stands on. -/
import Derived.Test.YtaleehohmpohoaaZVFlat
import Derived.Test.YtaleehohmpohoaaZVDsnP
import Derived.Test.YtaleehohmpohoaaZg14
import Derived.Test.YtaleehohmpohoaaProg
set_option linter.all false
namespace Go.Proofs.Ytaleehohmpohoaa
open Go.RowKit Go.V
attribute [local go_sem] xD4 xDy xDz xDv xDu xEb xD9 xEn xEa xFu xEi xE3 xEc xFd xEv xE2 xD7 xEd xEk xFg Value.oneCell' xFf xEy xFh xFl xFm xDw xD5 and_true true_and beq_self_eq_true xDr if_true if_false xEm Nat.reduceAdd Nat.reduceMul Nat.reduceLeDiff xD8 xEu xEt not_true_eq_false not_false_eq_true ne_eq reduceCtorEq xE1 bne_self_eq_false Nat.reduceEqDiff List.isPrefixOf xEs xFe xE0 xFt xFi decide_true decide_false Nat.reduceBEq Nat.reduceBNe xEl xEr exists_eq_left' exists_eq_left xDi or_false or_true true_or false_or xDk xFa mB Nat.reduceMod Nat.reduceDiv
set_option maxRecDepth 100000
def xAk (N:List Int)(k:Int):Nat:=N.idxOf k
theorem yFp {N:List Int}{k:Int}(h:k∈N):xAk N k<N.length:=xGs h
def code_slices_IndexFunc_impl_Piece_impl_Piece:VCode:=(.seq (.ops [
  ⟨some 4,none,.asg (.const (.int .i64 0))⟩]) (.seq (.seq (.ops [
  ⟨some 6,none,.mv (.tmp 0)⟩,
  ⟨some 7,none,.len (.tmp 6)⟩,
  ⟨some 8,none,.mv (.const (.int .i64 0))⟩]) (.block 0 (.loop (mB 19 523900) (.seq (.ops [
  ⟨some 9,none,.bin .lss (.tmp 8) (.tmp 7)⟩]) (.seq (.cond (.tmp 9) .skip (.exit 0)) (.seq (.block 1 (.seq (.ops [
  ⟨some 10,none,.mv (.tmp 8)⟩,
  ⟨some 5,none,.asg (.tmp 10)⟩]) (.seq (.ops [
  ⟨some 11,none,.mv (.tmp 1)⟩,
  ⟨some 12,none,.mv (.tmp 0)⟩,
  ⟨some 13,none,.mv (.tmp 5)⟩,
  ⟨some 14,none,.ia 5 (.tmp 12) (.tmp 13)⟩,
  ⟨some 15,none,.load 5 true (.tmp 14)⟩,
  ⟨some 16,none,.callvX (.tmp 11) [(.tmp 15)]⟩]) (.cond (.tmp 16) (.seq (.ops [
  ⟨some 17,none,.mv (.tmp 5)⟩,
  ⟨some 4,none,.asg (.tmp 17)⟩]) .ret) .skip)))) (.ops [
  ⟨some 18,none,.bin .add (.tmp 8) (.const (.int .i64 1))⟩,
  ⟨some 8,none,.mv (.tmp 18)⟩]))))))) (.seq (.ops [
  ⟨some 4,none,.asg (.const (.int .i64 (-1)))⟩]) .ret)))
theorem zDw {a0 a1 d:D}(h:code_slices_IndexFunc_impl_Piece_impl_Piece.wp (CT Try.prog NoG) (zG3 [(.t 4)] d) [a0,a1,.undef,.undef,.undef,.undef,.undef,.undef,.undef,.undef,.undef,.undef,.undef,.undef,.undef,.undef,.undef,.undef,.undef]):Contract Try.prog NoG 92 [a0,a1] d :=
  zAt (pt:=0) noG Try.func92 (fun us W=>by kernel_rfl) (c:=Try.f92.body.getD .skip) (ms:=[(mB 19 523900)]) (ms':=[]) (by kernel_rfl) (by kernel_rfl) (by kernel_rfl) h
theorem zOa (f:FuncId)(caps:List D)(hd:CapsOK caps)(xs:List Piece)(p:Piece→Bool)(hc:∀ x,x∈xs→Contract Try.prog NoG f (.agg (Piece.td.d false x)::caps) (.v (.bool (p x))))(hn:xs.length≤1099511627776) :
    Contract Try.prog NoG 92 [.sl false 5 (xs.map (Piece.td.d false)),.fn f [] caps] (.v (.int .i64 (yId p xs))):=by
  refine zDw ?_;unfold code_slices_IndexFunc_impl_Piece_impl_Piece;simp -implicitDefEqProofs (disch:=omega) only [go_sem,↓reduceIte ,hd.owny,hd.pr];refine zT8 (fun i:Nat=>[.sl false 5 (xs.map (Piece.td.d false)),.fn f [] caps,.undef,.undef,.undef,.undef,.undef,.v (.int .i64 (xs.map (Piece.td.d false)).length),.v (.int .i64 i),.undef,.undef,.undef,.undef,.undef,.undef,.undef,.undef,.undef,.undef]) (fun i=>i≤xs.length∧∀ j (hj:j<xs.length),j<i→p xs[j]=false) (fun i=>xs.length-i) 0 ?_ ⟨xE9 _,fun j _ h=>absurd h (Nat.not_lt_zero _)⟩ ?_
  · simp -implicitDefEqProofs (disch:=omega) only [go_sem,↓reduceIte ,hd.owny,hd.pr]
    (try simp -implicitDefEqProofs only [zCz,zCy,zB6,zB8,zB9,zB7,and_self,and_true,true_and])<;>repeat' (first | exact zBr rfl | exact zCu | apply And.intro | apply zD3 | apply zBb | apply zBl | exact zB1 | exact zBs | apply zCv | apply zCw)
  rintro i ⟨hi,ha⟩;simp -implicitDefEqProofs (disch:=omega) only [go_sem,↓reduceIte ,xDj,xDo,xD3,xDp,xDm,xDk,hd.owny,hd.pr];refine zAu ?_ ?_<;>intro hlt
  · have hlt:i<xs.length:=(by simpa using hlt);have hx:=xDl hlt;simp -implicitDefEqProofs (disch:=omega) only [go_sem,↓reduceIte ,xDj,xDo,xD3,xDp,xDm,xDk,hlt,hx,Piece.td_d,hd.owny,hd.pr];have hcx:=hc _ (xEo hlt);rw [Piece.td_d] at hcx;refine zZs (f:=f) (first:=[]) (caps:=caps) ?_ hcx ?_ (.inl rfl) ?_
    · simp -implicitDefEqProofs (disch:=omega) only [go_sem,↓reduceIte ,hd.owny]
    · refine zA1 ?_;simp only [xEd,xD7,xDu,xEb,hd.d8,xEz];simp only [deep,raw,xD4,xDy,xDu,xEb,TD.rows,zAf,zAc,zAg,zAb]
    simp -implicitDefEqProofs (disch:=omega) only [go_sem,↓reduceIte ,hd.owny,hd.pr];refine zAu ?_ ?_<;>intro hp
    · simp -implicitDefEqProofs (disch:=omega) only [go_sem,↓reduceIte ,hd.owny,hd.pr];rw [zTq p xs i hlt ha hp]
    · simp -implicitDefEqProofs (disch:=omega) only [go_sem,↓reduceIte ,wrN,hd.owny,hd.pr];refine ⟨i+1,by omega,⟨hlt,fun j hj h=>?_⟩,zEx⟩;rcases xJb j i with h' | h'
      · exact ha j hj h'
      · have:j=i:=(by omega);subst this;exact hp
  · have hlt:¬ i<xs.length:=(by simpa using hlt);simp -implicitDefEqProofs (disch:=omega) only [go_sem,↓reduceIte];rw [zQk p xs (fun j hj=>ha j hj (by omega))]
def code_slices_ContainsFunc_impl_Piece_impl_Piece:VCode:=(.seq (.ops [
  ⟨some 4,none,.asg (.const (.bool false))⟩]) (.seq (.ops [
  ⟨some 5,none,.mv (.tmp 0)⟩,
  ⟨some 6,none,.mv (.tmp 1)⟩,
  ⟨some 7,none,.callX 92 [(.tmp 5),(.tmp 6)]⟩,
  ⟨some 8,none,.bin .geq (.tmp 7) (.const (.int .i64 0))⟩,
  ⟨some 4,none,.asg (.tmp 8)⟩]) .ret))
theorem zDa {a0 a1 d:D}(h:code_slices_ContainsFunc_impl_Piece_impl_Piece.wp (CT Try.prog NoG) (zG3 [(.t 4)] d) [a0,a1,.undef,.undef,.undef,.undef,.undef,.undef,.undef]):Contract Try.prog NoG 65 [a0,a1] d :=
  zAt (pt:=0) noG Try.func65 (fun us W=>by kernel_rfl) (c:=Try.f65.body.getD .skip) (ms:=[]) (ms':=[]) (by kernel_rfl) (by kernel_rfl) (by kernel_rfl) h
theorem zF1 (f:FuncId)(caps:List D)(hd:CapsOK caps)(xs:List Piece)(p:Piece→Bool)(hc:∀ x,x∈xs→Contract Try.prog NoG f (.agg (Piece.td.d false x)::caps) (.v (.bool (p x))))(hn:xs.length≤1099511627776) :
    Contract Try.prog NoG 65 [.sl false 5 (xs.map (Piece.td.d false)),.fn f [] caps] (.v (.bool (xs.any p))):=by
  refine zDa ?_;unfold code_slices_ContainsFunc_impl_Piece_impl_Piece;simp -implicitDefEqProofs (disch:=omega) only [go_sem,↓reduceIte ,hd.owny,hd.pr];refine zX1 (zOa f caps hd xs p hc hn) ?_ (.inl rfl) ?_
  · refine zA1 ?_;simp only [xDu,xEb,deep,raw,xD4,xDy,TD.rows,zAf,zAc,zAg,zAb,hd.owny,hd.pr,hd.d7]
    try rfl
  simp -implicitDefEqProofs (disch:=omega) only [go_sem,↓reduceIte];exact congrArg Value.bool (zYa p xs)
end Go.Proofs.Ytaleehohmpohoaa
