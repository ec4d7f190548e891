/- Laws that the proof stands on. -/
import Derived.Test.YtaleehohmpohoaaZVTwo
import Derived.Test.YtaleehohmpohoaaZg27
import Derived.Test.YtaleehohmpohoaaZg23
set_option linter.all false
namespace Go.Proofs.Ytaleehohmpohoaa
open Go.RowKit Go.V
attribute [local go_sem] xBh xBb xBc xA8 xA6 xBl xBk xBy xBm xC7 xBt xCi xBn xCl xB6 xCg xBi xBp xBw xCn Value.oneCell' xCp xCu xCv xC0 xC1 xBr xB7 and_true true_and beq_self_eq_true xBa if_true if_false xB2 Nat.reduceAdd Nat.reduceMul Nat.reduceLeDiff xBj xB5 xB0 not_true_eq_false not_false_eq_true ne_eq reduceCtorEq xCf bne_self_eq_false Nat.reduceEqDiff List.isPrefixOf xB9 xCm xCq xC5 xCx decide_true decide_false Nat.reduceBEq Nat.reduceBNe xBv xBz exists_eq_left' exists_eq_left xAv or_false or_true true_or false_or xAx xCk mB Nat.reduceMod Nat.reduceDiv
set_option maxRecDepth 100000
def zLt (N:List Int)(x y:Int)(i:Nat):List Int:=(N.take i).map (zGf x y)++N.drop i
theorem yH9 (N:List Int)(x y:Int)(i:Nat):(zLt N x y i).length=N.length:=by unfold zLt;rw [xC4,xAw,xDh,xEh];omega
theorem ySi (N:List Int)(x y:Int):zLt N x y 0=N:=by unfold zLt;simp
theorem yIa {N:List Int}{x y:Int}{i:Nat}(h:N.length=i):zLt N x y i=N.map (zGf x y):=by unfold zLt;rw [← h,xDj,List.drop_length,xBw]
theorem yBg {N:List Int}{x y:Int}{i:Nat}(h:i<N.length):(zLt N x y i)[i]?=some (N.getD i 0):=by unfold zLt;rw [xCz (by rw [xAw,xDh];omega),xAw,xDh,xDb,xA3,show i+(i-min i N.length)=i by omega,xA1 h];rfl
theorem zX2 {N:List Int}{x y:Int}{i:Nat}(h:i<N.length):(zLt N x y i).set i (zGf x y (N.getD i 0))=zLt N x y (i+1):=by unfold zLt;rw [List.set_append_right _ _ (by rw [xAw,xDh];omega),xAw,xDh,show i-min i N.length=0 by omega,xGe h,xA8,xCd h,xBo,xDn,xA3,xA1 h];rfl
theorem yDu {N:List Int}{x y:Int}{i:Nat}(h:i<N.length)(he:zGf x y (N.getD i 0)=N.getD i 0):zLt N x y i=zLt N x y (i+1):=by
  rw [← zX2 h,he];apply xDc;intro j;by_cases hj:i=j
  · subst hj;rw [xBq (by rw [yH9];exact h),yBg h]
  · rw [xA9 hj]
/-! The pieces that are kept, by their inlets. -/
def zY8 (st:MS)(ps:List Piece)(i:Nat):List Piece:=((ps.take i).map (yJm st)).foldl zTt []
theorem yG6 {st:MS}{ps:List Piece}{i:Nat}(h:i<ps.length):zY8 st ps (i+1)=zTt (zY8 st ps i) (yJm st ps[i]):=by unfold zY8;rw [xCd h,xBo,xDx];rfl
theorem yLq (st:MS)(ps:List Piece):zY8 st ps ps.length=yUu st ps:=by unfold zY8 yUu;rw [xDj]
theorem yLp (st:MS)(ps:List Piece)(i:Nat):(zY8 st ps i).length≤i:=by have:=zTf ((ps.take i).map (yJm st)) [];rw [xAw,xDh,xBy] at this;unfold zY8;omega
def yRf (ps:List Piece)(F st:MS):Prop:=OkM st∧(st.g=true→fin ps st=F)∧(st.g=false→st=F)
theorem yLz {ps:List Piece}(hp:∀ p,p∈ps→InP p){F st:MS}(h:yRf ps F st)(hg:st.g=true):yRf ps F (pass ps st):=by
  obtain ⟨h1,h2,_⟩:=h;refine ⟨(zGl hp h1).1,fun hg2=>?_,fun hg2=>?_⟩
  · rw [← zWb hp h1 hg2];exact h2 hg
  · rw [← zWc hg2];exact h2 hg
end Go.Proofs.Ytaleehohmpohoaa
