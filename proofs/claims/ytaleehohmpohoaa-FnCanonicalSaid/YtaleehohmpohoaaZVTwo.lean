/- Laws that the proof stands on. -/
import Derived.Test.YtaleehohmpohoaaZVFlat
set_option linter.all false
namespace Go.V
open Go.RowKit
theorem ContractL.tag2 {P:Program}{G:World→(Nat→Prop)→Prop}{f:FuncId}{i:Nat}{args c1 c2 c1' c2':List D}{d:D}(h:ContractL P G f i args (.agg [.box none c1,.box none c2]) d (.agg [.box none c1',.box none c2']))(t1 t2:Option Nat):ContractL P G f i args (.agg [.box t1 c1,.box t2 c2]) d (.agg [.box t1 c1',.box t2 c2']):=by
  refine ⟨h.1,fun w I us u X hG hI hu hV hT hXn hX=>?_⟩;have hT':=hT;simp only [T,Cells] at hT';obtain ⟨uu,heu,u1,us',F1,F2,rfl,hF12,ho1,⟨b1,cs1,et1,F1',hub1,ht1,hh1,hFb1,hcs1⟩,u2,us2,G1,G2,rfl,hG12,ho2,⟨b2,cs2,et2,F2',hub2,ht2,hh2,hFb2,hcs2⟩,rfl,rfl⟩:=hT';refine (h.2 w I us u X hG hI hu hV (by
    rw [heu];simp only [T,Cells];exact ⟨_,rfl,u1,_,F1,F2,rfl,hF12,ho1,⟨b1,cs1,et1,F1',hub1,(fun k hk=>by cases hk),hh1,hFb1,hcs1⟩,u2,[],G1,[],rfl,hG12,ho2,⟨b2,cs2,et2,F2',hub2,(fun k hk=>by cases hk),hh2,hFb2,hcs2⟩,rfl,rfl⟩) hXn hX).mono ?_
  rintro e w' ⟨v,F,X',I',he,hb,hTd,hTx,hnd,hF,hI1,hI2⟩;refine ⟨v,F,X',I',he,hb,hTd,?_,hnd,hF,hI1,hI2⟩;rw [heu] at hTx ⊢;simp only [T.eq_5,Cells] at hTx ⊢;obtain ⟨us3,he3,w1,ws,H1,H2,rfl,hH,hw1,hB1,w2,ws2,J1,J2,rfl,hJ,hw2,hB2,rfl,hJ2⟩:=hTx;have he4:=congrArg Array.toList (Value.agg.inj he3);simp only [xCo] at he4;obtain ⟨rfl,rfl,_⟩:=he4;refine ⟨_,rfl,u1,_,H1,H2,rfl,hH,hw1,?_,u2,[],J1,J2,rfl,hJ,hw2,?_,rfl,hJ2⟩
  · simp only [T] at hB1 ⊢;obtain ⟨bb,k1,k2,k3,k4,_,k6,k7,k8⟩:=hB1;rw [hub1] at k4;simp only [Value.pointer.injEq,xAv,Addr.mk.injEq,and_true] at k4;subst k4;exact ⟨b1,k1,k2,k3,hub1,ht1,k6,k7,k8⟩
  · simp only [T] at hB2 ⊢;obtain ⟨bb,k1,k2,k3,k4,_,k6,k7,k8⟩:=hB2;rw [hub2] at k4;simp only [Value.pointer.injEq,xAv,Addr.mk.injEq,and_true] at k4;subst k4;exact ⟨b2,k1,k2,k3,hub2,ht2,k6,k7,k8⟩
end Go.V
