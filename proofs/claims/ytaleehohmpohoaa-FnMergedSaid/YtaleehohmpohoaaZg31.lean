/- Laws that the proof stands on. -/
import Derived.Test.YtaleehohmpohoaaZVDrE
import Derived.Test.YtaleehohmpohoaaZg27
import Derived.Test.YtaleehohmpohoaaZg29
import Derived.Test.YtaleehohmpohoaaZg25
import Derived.Test.YtaleehohmpohoaaZVSeg
set_option linter.all false
namespace Go.Proofs.Ytaleehohmpohoaa
open Go.RowKit Go.V
attribute [local go_sem] xD4 xDy xDz xDv xDu xEb xD9 xEn xEa xFu xEi xE3 xEc xFd xEv xE2 xD7 xEd xEk xFg Value.oneCell' xFf xEy xFh xFl xFm xDw xD5 and_true true_and beq_self_eq_true xDr if_true if_false xEm Nat.reduceAdd Nat.reduceMul Nat.reduceLeDiff xD8 xEu xEt not_true_eq_false not_false_eq_true ne_eq reduceCtorEq xE1 bne_self_eq_false Nat.reduceEqDiff List.isPrefixOf xEs xFe xE0 xFt xFi decide_true decide_false Nat.reduceBEq Nat.reduceBNe xEl xEr exists_eq_left' exists_eq_left xDi or_false or_true true_or false_or xDk xFa mB Nat.reduceMod Nat.reduceDiv
set_option maxRecDepth 100000
structure CodeB (code:List Int):Prop where
  ok:∀ x,x∈code→0≤x∧x≤255
  len:code.length≤1048576
theorem CodeB.src {code:List Int}(h:CodeB code):SrcB 4611686018427387904 ⟨code,0,0⟩:=⟨h.ok,h.len,by simp⟩
def xAq (s:Src):Int:=((yV3 s).Pieces.length:Nat)
def xCf (s:Src):Int:=if yXi (yB6 s) 10 then [(-1:Int),0,100,(-9223372036854775808:Int)].getD (zCq (zBq (yB6 s) 10) 4).toNat 0 else zCq (zBq (yB6 s) 10) (xAq s)
def xCe (s:Src):Int:=if yXi (yB6 s) 10 then zCq (zBq (zBq (yB6 s) 10) 4) 3 else zCq (zBq (zBq (yB6 s) 10) (xAq s)) (xAq s)
def code_spec_DrawMergePieces:VCode:=(.seq (.ops [
  ⟨some 2,none,.alloc [(.slice none 0 0),(.slice none 0 0),(.slice none 0 0)]⟩,
  ⟨some 3,none,.asg (.const (.int .i64 0))⟩,
  ⟨some 4,none,.asg (.const (.int .i64 0))⟩]) (.seq (.ops [
  ⟨some 8,none,.mv (.tmp 0)⟩,
  ⟨some 9,none,.callX 50 [(.tmp 8)]⟩,
  ⟨some 5,none,.asg (.tmp 9)⟩]) (.seq (.ops [
  ⟨some 10,none,.mv (.tmp 5)⟩,
  ⟨some 11,none,.callX 51 [(.tmp 10)]⟩,
  ⟨some 6,none,.alloc [(.slice none 0 0),(.slice none 0 0),(.slice none 0 0)]⟩,
  ⟨none,none,.store 3 (.tmp 6) (.tmp 11)⟩]) (.seq (.seq (.ops [
  ⟨some 12,none,.mv (.tmp 5)⟩,
  ⟨some 13,none,.callX 52 [(.tmp 12),(.const (.int .i64 10))]⟩]) (.cond (.tmp 13) (.seq (.drawT (.h 1 ⟨some 15,none,.mv (.tmp 5)⟩ (.h 4 ⟨some 18,none,.mv (.tmp 5)⟩ (.br 0 ⟨some 14,none,.load 3 true (.tmp 6)⟩ (.br 2 ⟨some 16,none,.bsl 1 [(.const (.int .i64 (-1))),(.const (.int .i64 0)),(.const (.int .i64 100)),(.const (.int .i64 (-9223372036854775808)))]⟩ (.br 3 ⟨some 17,none,.callX 53 [(.tmp 15),(.tmp 16)]⟩ (.br 5 ⟨some 19,none,.callX 54 [(.tmp 18),(.const (.int .i64 3))]⟩ .done .nil) .nil) .nil) (.br 2 ⟨some 16,none,.bsl 1 [(.const (.int .i64 (-1))),(.const (.int .i64 0)),(.const (.int .i64 100)),(.const (.int .i64 (-9223372036854775808)))]⟩ (.br 0 ⟨some 14,none,.load 3 true (.tmp 6)⟩ (.br 3 ⟨some 17,none,.callX 53 [(.tmp 15),(.tmp 16)]⟩ (.br 5 ⟨some 19,none,.callX 54 [(.tmp 18),(.const (.int .i64 3))]⟩ .done .nil) .nil) (.br 3 ⟨some 17,none,.callX 53 [(.tmp 15),(.tmp 16)]⟩ (.br 0 ⟨some 14,none,.load 3 true (.tmp 6)⟩ (.br 5 ⟨some 19,none,.callX 54 [(.tmp 18),(.const (.int .i64 3))]⟩ .done .nil) (.br 5 ⟨some 19,none,.callX 54 [(.tmp 18),(.const (.int .i64 3))]⟩ (.br 0 ⟨some 14,none,.load 3 true (.tmp 6)⟩ .done .nil) .nil)) .nil)) .nil)))) [⟨none,none,.store 3 (.tmp 2) (.tmp 14)⟩,⟨some 3,none,.asg (.tmp 17)⟩,⟨some 4,none,.asg (.tmp 19)⟩]) .ret) .skip)) (.seq (.ops [
  ⟨some 20,none,.mv (.tmp 5)⟩,
  ⟨some 21,none,.fa 2 (.tmp 6)⟩,
  ⟨some 22,none,.load 1 false (.tmp 21)⟩,
  ⟨some 23,none,.len (.tmp 22)⟩,
  ⟨some 24,none,.callX 54 [(.tmp 20),(.tmp 23)]⟩,
  ⟨some 7,none,.asg (.tmp 24)⟩]) (.seq (.drawT (.h 1 ⟨some 26,none,.mv (.tmp 7)⟩ (.h 2 ⟨some 27,none,.mv (.tmp 5)⟩ (.h 3 ⟨some 28,none,.fa 2 (.tmp 6)⟩ (.br 0 ⟨some 25,none,.load 3 true (.tmp 6)⟩ (.br 4 ⟨some 29,none,.load 1 false (.tmp 28)⟩ (.h 5 ⟨some 30,none,.len (.tmp 29)⟩ (.br 6 ⟨some 31,none,.callX 54 [(.tmp 27),(.tmp 30)]⟩ (.br 7 ⟨none,none,.store 3 (.tmp 2) (.tmp 25)⟩ .done .nil) .nil)) .nil) (.br 4 ⟨some 29,none,.load 1 false (.tmp 28)⟩ (.h 5 ⟨some 30,none,.len (.tmp 29)⟩ (.br 0 ⟨some 25,none,.load 3 true (.tmp 6)⟩ (.br 6 ⟨some 31,none,.callX 54 [(.tmp 27),(.tmp 30)]⟩ (.br 7 ⟨none,none,.store 3 (.tmp 2) (.tmp 25)⟩ .done .nil) .nil) (.br 6 ⟨some 31,none,.callX 54 [(.tmp 27),(.tmp 30)]⟩ (.br 0 ⟨some 25,none,.load 3 true (.tmp 6)⟩ (.br 7 ⟨none,none,.store 3 (.tmp 2) (.tmp 25)⟩ .done .nil) .nil) .nil))) .nil))))) [⟨some 3,none,.asg (.tmp 26)⟩,⟨some 4,none,.asg (.tmp 31)⟩]) .ret))))))
theorem zHa {a0 d:D}(h:code_spec_DrawMergePieces.wp (CT Try.prog NoG) (zG3 [(.c 2 3 true),(.t 3),(.t 4)] d) [a0,.undef,.undef,.undef,.undef,.undef,.undef,.undef,.undef,.undef,.undef,.undef,.undef,.undef,.undef,.undef,.undef,.undef,.undef,.undef,.undef,.undef,.undef,.undef,.undef,.undef,.undef,.undef,.undef,.undef,.undef,.undef]):Contract Try.prog NoG 21 [a0] d :=
  zAt (pt:=13056) noG Try.func21 (fun us W=>by kernel_rfl) (c:=Try.f21.body.getD .skip) (ms:=[]) (ms':=[]) (by kernel_rfl) (by kernel_rfl) (by kernel_rfl) h
set_option maxHeartbeats 4000000 in
theorem zOc (code:List Int) (hc:CodeB code):Contract Try.prog NoG 21 [.sl false 1 (code.map rB8)] (.tup [.agg (Design.td.d false (yV3 ⟨code,0,0⟩)),.v (.int .i64 (xCf ⟨code,0,0⟩)),.v (.int .i64 (xCe ⟨code,0,0⟩))]):=by
  have hD:=zQi ⟨code,0,0⟩ (hc.src.mono (by omega));have hF:=yUf (k:=100) (s:=⟨code,0,0⟩) (hc.src.mono (by omega));have hpl:=hF.d.p;have hb:=hF.b4;have hO:=xAu (yB6 ⟨code,0,0⟩) 10 (hb.mono (by omega));have hb1:SrcB 98 (zBq (yB6 ⟨code,0,0⟩) 10):=SrcB.pick (k:=98) hb 10;unfold xCf xCe xAq;generalize yV3 ⟨code,0,0⟩=d at *;generalize yB6 ⟨code,0,0⟩=s1 at *;have hA:=zWs (zBq s1 10) [-1,0,100,-9223372036854775808] (hb1.mono (by omega)) (by decide) (by decide);have hl1:((([-1,0,100,-9223372036854775808]:List Int).length:Nat):Int)=4:=rfl;rw [hl1] at hA;have hP3:=zG4 (zBq (zBq s1 10) 4) 3 ((SrcB.pick (k:=96) hb1 4).mono (by omega));have hP1:=zG4 (zBq s1 10) ((d.Pieces.length:Nat):Int) (hb1.mono (by omega));have hP2:=zG4 (zBq (zBq s1 10) ((d.Pieces.length:Nat):Int)) ((d.Pieces.length:Nat):Int) ((SrcB.pick (k:=96) hb1 _).mono (by omega));rw [Design.td_d] at hD ⊢;simp only [xDu,xEb,rI,Src.d] at hD hO hA hP1 hP2 hP3;refine zHa ?_;unfold code_spec_DrawMergePieces;simp -implicitDefEqProofs (disch:=omega) only [go_sem,↓reduceIte];refine zAs (yC1 code) (by simp -implicitDefEqProofs (disch:=omega) only [go_sem,↓reduceIte,deep,TD.rows,zAf,zAc,zAg,zAb,zAd,zAa,Src.d];exact rfl) ?_;simp -implicitDefEqProofs (disch:=omega) only [go_sem,↓reduceIte ,Src.d];refine zCx (i:=0) (r:=9) (hD) rfl rfl (by simp -implicitDefEqProofs (disch:=omega) only [go_sem,↓reduceIte,deep,TD.rows,zAf,zAc,zAg,zAb,zAd,zAa];exact rfl) ?_;simp -implicitDefEqProofs (disch:=omega) only [go_sem,↓reduceIte];cases h1:yXi s1 10 with
  | true =>
    rw [h1] at hO;simp only [if_true];generalize ([-1,0,100,-9223372036854775808]:List Int).getD (zCq (zBq s1 10) 4).toNat 0=v1 at *;generalize zBq s1 10=s2 at *;generalize zBq s2 4=s3 at *;refine zCx (i:=0) (r:=9) (hO) rfl rfl (by simp -implicitDefEqProofs (disch:=omega) only [go_sem,↓reduceIte,deep,TD.rows,zAf,zAc,zAg,zAb,zAd,zAa];exact rfl) ?_;simp -implicitDefEqProofs (disch:=omega) only [go_sem,↓reduceIte];apply zJs
    case h =>
      intro K2 hK2;simp -implicitDefEqProofs (disch:=omega) only [go_sem,↓reduceIte]
      repeat' (first
        | with_reducible exact hK2
        | with_reducible refine And.intro ?_ ?_
        | ((with_reducible refine zSv ?_);refine zX2 16 (i:=0) (r:=9) (hA) (by simp -implicitDefEqProofs (disch:=omega) only [go_sem,↓reduceIte,deep,TD.rows,zAf,zAc,zAg,zAb,zAd,zAa,frz,D.imm,zJp];exact rfl) rfl rfl (by simp -implicitDefEqProofs (disch:=omega) only [go_sem,↓reduceIte,deep,TD.rows,zAf,zAc,zAg,zAb,zAd,zAa];exact rfl) ?_;simp -implicitDefEqProofs (disch:=omega) only [go_sem,↓reduceIte])
        | ((with_reducible refine zSv ?_);refine zCx (i:=0) (r:=9) (hP3) rfl rfl (by simp -implicitDefEqProofs (disch:=omega) only [go_sem,↓reduceIte,deep,TD.rows,zAf,zAc,zAg,zAb,zAd,zAa];exact rfl) ?_;simp -implicitDefEqProofs (disch:=omega) only [go_sem,↓reduceIte]))
    simp -implicitDefEqProofs (disch:=omega) only [go_sem,↓reduceIte ,zJh]
  | false =>
    rw [h1] at hO;simp only [xDr,if_false];generalize zBq s1 10=s2 at *;refine zCx (i:=0) (r:=9) (hO) rfl rfl (by simp -implicitDefEqProofs (disch:=omega) only [go_sem,↓reduceIte,deep,TD.rows,zAf,zAc,zAg,zAb,zAd,zAa,xDj];exact rfl) ?_;simp -implicitDefEqProofs (disch:=omega) only [go_sem,↓reduceIte ,xDj];refine zCx (i:=0) (r:=9) (hP1) rfl rfl (by simp -implicitDefEqProofs (disch:=omega) only [go_sem,↓reduceIte,deep,TD.rows,zAf,zAc,zAg,zAb,zAd,zAa];exact rfl) ?_;simp -implicitDefEqProofs (disch:=omega) only [go_sem,↓reduceIte];apply zJs
    case h =>
      intro K2 hK2;simp -implicitDefEqProofs (disch:=omega) only [go_sem,↓reduceIte ,xDj]
      repeat' (first
        | with_reducible exact hK2
        | with_reducible refine And.intro ?_ ?_
        | ((with_reducible refine zSv ?_);refine zCx (i:=0) (r:=9) (hP2) rfl rfl (by simp -implicitDefEqProofs (disch:=omega) only [go_sem,↓reduceIte,deep,TD.rows,zAf,zAc,zAg,zAb,zAd,zAa];exact rfl) ?_;simp -implicitDefEqProofs (disch:=omega) only [go_sem,↓reduceIte]))
    simp -implicitDefEqProofs (disch:=omega) only [go_sem,↓reduceIte ,zJh]
def code_laws_f6big:VCode:=(.seq (.ops [
  ⟨some 2,none,.asg (.const (.bool false))⟩]) (.seq (.ops [
  ⟨some 3,none,.mv (.tmp 0)⟩,
  ⟨some 4,none,.len (.tmp 3)⟩,
  ⟨some 5,none,.bin .gtr (.tmp 4) (.const (.int .i64 4096))⟩,
  ⟨some 2,none,.asg (.tmp 5)⟩]) .ret))
theorem zR6 {a0 d:D}(h:code_laws_f6big.wp (CT Try.prog NoG) (zG3 [(.t 2)] d) [a0,.undef,.undef,.undef,.undef,.undef]):Contract Try.prog NoG 20 [a0] d :=
  zAt (pt:=0) noG Try.func20 (fun us W=>by kernel_rfl) (c:=Try.f20.body.getD .skip) (ms:=[]) (ms':=[]) (by kernel_rfl) (by kernel_rfl) (by kernel_rfl) h
abbrev zAj:List (List Bool):=[]
theorem zN3:zAr Try.prog 0 (cL (Try.f5.body.getD .skip)) zAj=some ((.ops [
  ⟨some 2,none,.asg (.const (.bool false))⟩]),zAj):=by kernel_rfl
theorem zN2:zAr Try.prog 0 (cL (cL (cR (Try.f5.body.getD .skip)))) zAj=some ((.ops [
  ⟨some 16,none,.mv (.tmp 0)⟩,
  ⟨some 17,none,.callX 20 [(.tmp 16)]⟩]),zAj):=by kernel_rfl
theorem zN1:zAr Try.prog 0 (cL (cL (cR (cL (cR (Try.f5.body.getD .skip)))))) zAj=some ((.ops [
  ⟨some 2,none,.asg (.const (.bool true))⟩]),zAj):=by kernel_rfl
theorem zN0:zAr Try.prog 0 (cR (cL (cR (cL (cR (Try.f5.body.getD .skip)))))) zAj=some (.ret,zAj):=by kernel_rfl
theorem zNz:zAr Try.prog 0 (cR (cR (cL (cR (Try.f5.body.getD .skip))))) zAj=some (.skip,zAj):=by kernel_rfl
def zC6:VCode:=(.ops [
  ⟨some 19,none,.mv (.tmp 0)⟩,
  ⟨some 20,none,.callX 21 [(.tmp 19)]⟩,
  ⟨some 18,none,.mv (.tmp 20)⟩,
  ⟨some 21,none,.ext (.tmp 18) 0⟩,
  ⟨some 22,none,.ext (.tmp 18) 1⟩,
  ⟨some 23,none,.ext (.tmp 18) 2⟩,
  ⟨some 3,none,.alloc [(.slice none 0 0),(.slice none 0 0),(.slice none 0 0)]⟩,
  ⟨none,none,.store 3 (.tmp 3) (.tmp 21)⟩,
  ⟨some 4,none,.asg (.tmp 22)⟩,
  ⟨some 5,none,.asg (.tmp 23)⟩])
theorem zNy:zAr Try.prog 0 (cL (cR (cR (Try.f5.body.getD .skip)))) zAj=some (zC6,zAj):=by kernel_rfl
def zBw:VCode:=(.ops [
  ⟨some 25,none,.load 3 true (.tmp 3)⟩,
  ⟨some 26,none,.mv (.tmp 4)⟩,
  ⟨some 27,none,.mv (.tmp 5)⟩,
  ⟨some 28,none,.callX 22 [(.tmp 25),(.tmp 26),(.tmp 27)]⟩,
  ⟨some 24,none,.mv (.tmp 28)⟩,
  ⟨some 29,none,.ext (.tmp 24) 0⟩,
  ⟨some 30,none,.ext (.tmp 24) 1⟩,
  ⟨some 6,none,.alloc [(.slice none 0 0),(.slice none 0 0),(.slice none 0 0)]⟩,
  ⟨none,none,.store 3 (.tmp 6) (.tmp 29)⟩,
  ⟨some 7,none,.asg (.tmp 30)⟩])
theorem zNx:zAr Try.prog 0 (cL (cR (cR (cR (Try.f5.body.getD .skip))))) zAj=some (zBw,zAj):=by kernel_rfl
def zBv:VCode:=(.ops [
  ⟨some 32,none,.load 3 true (.tmp 3)⟩,
  ⟨some 33,none,.mv (.tmp 4)⟩,
  ⟨some 34,none,.mv (.tmp 5)⟩,
  ⟨some 35,none,.callX 23 [(.tmp 32),(.tmp 33),(.tmp 34)]⟩,
  ⟨some 31,none,.mv (.tmp 35)⟩,
  ⟨some 36,none,.ext (.tmp 31) 0⟩,
  ⟨some 37,none,.ext (.tmp 31) 1⟩,
  ⟨some 8,none,.alloc [(.slice none 0 0),(.slice none 0 0),(.slice none 0 0)]⟩,
  ⟨none,none,.store 3 (.tmp 8) (.tmp 36)⟩,
  ⟨some 9,none,.asg (.tmp 37)⟩])
theorem zNw:zAr Try.prog 0 (cL (cR (cR (cR (cR (Try.f5.body.getD .skip)))))) zAj=some (zBv,zAj):=by kernel_rfl
def zBu:VCode:=(.ops [
  ⟨some 38,none,.mv (.tmp 7)⟩,
  ⟨some 39,none,.mv (.tmp 9)⟩,
  ⟨some 40,none,.bin .neq (.tmp 38) (.tmp 39)⟩,
  ⟨some 41,none,.mv (.tmp 40)⟩,
  ⟨some 42,some (41,false),.load 3 true (.tmp 6)⟩,
  ⟨some 43,some (41,false),.load 3 true (.tmp 8)⟩,
  ⟨some 44,some (41,false),.callX 24 [(.tmp 42),(.tmp 43)]⟩,
  ⟨some 45,some (41,false),.un .not (.tmp 44)⟩,
  ⟨some 46,none,.pick (.tmp 41) (.const (.bool true)) (.tmp 45)⟩])
theorem zNv:zAr Try.prog 0 (cL (cL (cR (cR (cR (cR (cR (Try.f5.body.getD .skip)))))))) zAj=some (zBu,zAj):=by kernel_rfl
theorem zNu:zAr Try.prog 0 (cL (cL (cR (cL (cR (cR (cR (cR (cR (Try.f5.body.getD .skip)))))))))) zAj=some ((.ops [
  ⟨some 2,none,.asg (.const (.bool false))⟩]),zAj):=by kernel_rfl
theorem zMg:zAr Try.prog 0 (cR (cL (cR (cL (cR (cR (cR (cR (cR (Try.f5.body.getD .skip)))))))))) zAj=some (.ret,zAj):=by kernel_rfl
theorem zMf:zAr Try.prog 0 (cR (cR (cL (cR (cR (cR (cR (cR (Try.f5.body.getD .skip))))))))) zAj=some (.skip,zAj):=by kernel_rfl
def zBp:VCode:=(.ops [
  ⟨some 48,none,.load 3 true (.tmp 3)⟩,
  ⟨some 49,none,.callX 25 [(.tmp 48)]⟩,
  ⟨some 47,none,.mv (.tmp 49)⟩,
  ⟨some 50,none,.ext (.tmp 47) 0⟩,
  ⟨some 51,none,.ext (.tmp 47) 1⟩,
  ⟨some 10,none,.alloc [(.int .i64 0),(.int .i64 0),(.slice none 0 0)]⟩,
  ⟨none,none,.store 3 (.tmp 10) (.tmp 50)⟩,
  ⟨some 11,none,.asg (.tmp 51)⟩])
theorem zMe:zAr Try.prog 0 (cL (cR (cR (cR (cR (cR (cR (Try.f5.body.getD .skip)))))))) zAj=some (zBp,zAj):=by kernel_rfl
def zBo:VCode:=(.ops [
  ⟨some 52,none,.mv (.tmp 7)⟩,
  ⟨some 53,none,.bin .neq (.tmp 52) (.const (.int .i64 0))⟩,
  ⟨some 54,none,.mv (.tmp 53)⟩,
  ⟨some 55,some (54,false),.mv (.tmp 11)⟩,
  ⟨some 56,some (54,false),.bin .neq (.tmp 55) (.const (.int .i64 0))⟩,
  ⟨some 57,none,.pick (.tmp 54) (.const (.bool true)) (.tmp 56)⟩])
theorem zMd:zAr Try.prog 0 (cL (cL (cR (cR (cR (cR (cR (cR (cR (Try.f5.body.getD .skip)))))))))) zAj=some (zBo,zAj):=by kernel_rfl
theorem zMc:zAr Try.prog 0 (cL (cL (cR (cL (cR (cR (cR (cR (cR (cR (cR (Try.f5.body.getD .skip)))))))))))) zAj=some ((.ops [
  ⟨some 2,none,.asg (.const (.bool true))⟩]),zAj):=by kernel_rfl
theorem zMb:zAr Try.prog 0 (cR (cL (cR (cL (cR (cR (cR (cR (cR (cR (cR (Try.f5.body.getD .skip)))))))))))) zAj=some (.ret,zAj):=by kernel_rfl
theorem zMa:zAr Try.prog 0 (cR (cR (cL (cR (cR (cR (cR (cR (cR (cR (Try.f5.body.getD .skip))))))))))) zAj=some (.skip,zAj):=by kernel_rfl
def zDv:VCode:=(.ops [
  ⟨some 59,none,.load 3 true (.tmp 8)⟩,
  ⟨some 60,none,.callX 25 [(.tmp 59)]⟩,
  ⟨some 58,none,.mv (.tmp 60)⟩,
  ⟨some 61,none,.ext (.tmp 58) 0⟩,
  ⟨some 62,none,.ext (.tmp 58) 1⟩,
  ⟨some 12,none,.alloc [(.int .i64 0),(.int .i64 0),(.slice none 0 0)]⟩,
  ⟨none,none,.store 3 (.tmp 12) (.tmp 61)⟩,
  ⟨some 13,none,.asg (.tmp 62)⟩])
theorem zL9:zAr Try.prog 0 (cL (cR (cR (cR (cR (cR (cR (cR (cR (Try.f5.body.getD .skip)))))))))) zAj=some (zDv,zAj):=by kernel_rfl
def zDu:VCode:=(.ops [
  ⟨some 64,none,.load 3 true (.tmp 3)⟩,
  ⟨some 65,none,.mv (.tmp 5)⟩,
  ⟨some 66,none,.mv (.tmp 4)⟩,
  ⟨some 67,none,.callX 22 [(.tmp 64),(.tmp 65),(.tmp 66)]⟩,
  ⟨some 63,none,.mv (.tmp 67)⟩,
  ⟨some 68,none,.ext (.tmp 63) 0⟩,
  ⟨some 69,none,.ext (.tmp 63) 1⟩,
  ⟨some 14,none,.alloc [(.slice none 0 0),(.slice none 0 0),(.slice none 0 0)]⟩,
  ⟨none,none,.store 3 (.tmp 14) (.tmp 68)⟩,
  ⟨some 15,none,.asg (.tmp 69)⟩])
theorem zL8:zAr Try.prog 0 (cL (cR (cR (cR (cR (cR (cR (cR (cR (cR (Try.f5.body.getD .skip))))))))))) zAj=some (zDu,zAj):=by kernel_rfl
def zDt:VCode:=(.draw (mB 99 0x7ffffffc00000000000000000) [] [⟨0,mB 99 0x7ffffffc00000000000000000,[],⟨some 70,none,.mv (.tmp 13)⟩⟩,⟨1,mB 99 0x7ffffff800000000000000000,[],⟨some 71,none,.bin .eql (.tmp 70) (.const (.int .i64 0))⟩⟩,⟨2,mB 99 0x7ffffff000000000000000000,[],⟨some 72,none,.mv (.tmp 71)⟩⟩,⟨3,mB 99 0x7fffffe000000000000000000,[],⟨some 73,some (72,true),.load 3 true (.tmp 10)⟩⟩,⟨4,mB 99 0x7fffffc000000000000000000,[],⟨some 74,some (72,true),.call 26 [(.tmp 73)]⟩⟩,⟨5,mB 99 0x7fffffe000000000000000000,[],⟨some 75,some (72,true),.load 3 true (.tmp 12)⟩⟩,⟨6,mB 99 0x7fffff0000000000000000000,[],⟨some 76,some (72,true),.call 26 [(.tmp 75)]⟩⟩,⟨7,mB 99 0x7ffffe0000000000000000000,[],⟨some 77,some (72,true),.bin .eql (.tmp 74) (.tmp 76)⟩⟩,⟨8,mB 99 0x7ffffc0000000000000000000,[],⟨some 78,none,.pick (.tmp 72) (.tmp 77) (.const (.bool false))⟩⟩,⟨9,mB 99 0x7ffff80000000000000000000,[],⟨some 79,none,.mv (.tmp 78)⟩⟩,⟨10,mB 99 0x7ffff00000000000000000000,[],⟨some 80,some (79,true),.load 3 true (.tmp 8)⟩⟩,⟨11,mB 99 0x7fffe00000000000000000000,[],⟨some 81,some (79,true),.call 27 [(.tmp 80)]⟩⟩,⟨12,mB 99 0x7fffc00000000000000000000,[],⟨some 82,none,.pick (.tmp 79) (.tmp 81) (.const (.bool false))⟩⟩,⟨13,mB 99 0x7fff800000000000000000000,[],⟨some 83,none,.mv (.tmp 82)⟩⟩,⟨14,mB 99 0x7fff000000000000000000000,[],⟨some 84,some (83,true),.fa 2 (.tmp 8)⟩⟩,⟨15,mB 99 0x7ffe000000000000000000000,[],⟨some 85,some (83,true),.load 1 false (.tmp 84)⟩⟩,⟨16,mB 99 0x7ffc000000000000000000000,[],⟨some 86,some (83,true),.len (.tmp 85)⟩⟩,⟨17,mB 99 0x7fff000000000000000000000,[],⟨some 87,some (83,true),.fa 2 (.tmp 3)⟩⟩,⟨18,mB 99 0x7ff7000000000000000000000,[],⟨some 88,some (83,true),.load 1 false (.tmp 87)⟩⟩,⟨19,mB 99 0x7fe7000000000000000000000,[],⟨some 89,some (83,true),.len (.tmp 88)⟩⟩,⟨20,mB 99 0x7fc0000000000000000000000,[],⟨some 90,some (83,true),.bin .lss (.tmp 86) (.tmp 89)⟩⟩,⟨21,mB 99 0x7f80000000000000000000000,[],⟨some 91,none,.pick (.tmp 83) (.tmp 90) (.const (.bool false))⟩⟩,⟨22,mB 99 0x7f00000000000000000000000,[],⟨some 92,none,.mv (.tmp 91)⟩⟩,⟨23,mB 99 0x7e00000000000000000000000,[],⟨some 93,some (92,true),.mv (.tmp 15)⟩⟩,⟨24,mB 99 0x7c00000000000000000000000,[],⟨some 94,some (92,true),.bin .eql (.tmp 93) (.const (.int .i64 0))⟩⟩,⟨25,mB 99 0x7800000000000000000000000,[],⟨some 95,none,.pick (.tmp 92) (.tmp 94) (.const (.bool false))⟩⟩,⟨26,mB 99 0x7000000000000000000000000,[],⟨some 96,none,.mv (.tmp 95)⟩⟩,⟨27,mB 99 0x6000000000000000000000000,[],⟨some 97,some (96,true),.load 3 true (.tmp 14)⟩⟩,⟨28,mB 99 0x6000000000000000000000000,[],⟨some 98,some (96,true),.load 3 true (.tmp 8)⟩⟩] [⟨some 99,some (96,true),.callX 24 [(.tmp 97),(.tmp 98)]⟩,⟨some 100,none,.pick (.tmp 96) (.tmp 99) (.const (.bool false))⟩,⟨some 2,none,.asg (.tmp 100)⟩])
theorem zL7:zAr Try.prog 0 (cL (cR (cR (cR (cR (cR (cR (cR (cR (cR (cR (Try.f5.body.getD .skip)))))))))))) zAj=some (zDt,zAj):=by kernel_rfl
theorem zL6:zAr Try.prog 0 (cR (cR (cR (cR (cR (cR (cR (cR (cR (cR (cR (Try.f5.body.getD .skip)))))))))))) zAj=some (.ret,zAj):=by kernel_rfl
def code_laws_FnMerged:VCode:=(.seq (.ops [
  ⟨some 2,none,.asg (.const (.bool false))⟩]) (.seq (.seq (.ops [
  ⟨some 16,none,.mv (.tmp 0)⟩,
  ⟨some 17,none,.callX 20 [(.tmp 16)]⟩]) (.cond (.tmp 17) (.seq (.ops [
  ⟨some 2,none,.asg (.const (.bool true))⟩]) .ret) .skip)) (.seq zC6 (.seq zBw (.seq zBv (.seq (.seq zBu (.cond (.tmp 46) (.seq (.ops [
  ⟨some 2,none,.asg (.const (.bool false))⟩]) .ret) .skip)) (.seq zBp (.seq (.seq zBo (.cond (.tmp 57) (.seq (.ops [
  ⟨some 2,none,.asg (.const (.bool true))⟩]) .ret) .skip)) (.seq zDv (.seq zDu (.seq zDt .ret)))))))))))
theorem zOo {a0 d:D}(h:code_laws_FnMerged.wp (CT Try.prog NoG) (zG3 [(.t 2)] d) [a0,.undef,.undef,.undef,.undef,.undef,.undef,.undef,.undef,.undef,.undef,.undef,.undef,.undef,.undef,.undef,.undef,.undef,.undef,.undef,.undef,.undef,.undef,.undef,.undef,.undef,.undef,.undef,.undef,.undef,.undef,.undef,.undef,.undef,.undef,.undef,.undef,.undef,.undef,.undef,.undef,.undef,.undef,.undef,.undef,.undef,.undef,.undef,.undef,.undef,.undef,.undef,.undef,.undef,.undef,.undef,.undef,.undef,.undef,.undef,.undef,.undef,.undef,.undef,.undef,.undef,.undef,.undef,.undef,.undef,.undef,.undef,.undef,.undef,.undef,.undef,.undef,.undef,.undef,.undef,.undef,.undef,.undef,.undef,.undef,.undef,.undef,.undef,.undef,.undef,.undef,.undef,.undef,.undef,.undef,.undef,.undef,.undef,.undef,.undef,.undef]):Contract Try.prog NoG 5 [a0] d :=
  zAt (pt:=0) noG Try.func5 (fun us W=>by kernel_rfl) (c:=Try.f5.body.getD .skip) (ms:=[]) (ms':=[]) (by kernel_rfl) (zAw zN3 (zAw (zAw zN2 (zC0 (zAw zN1 zN0) zNz)) (zAw zNy (zAw zNx (zAw zNw (zAw (zAw zNv (zC0 (zAw zNu zMg) zMf)) (zAw zMe (zAw (zAw zMd (zC0 (zAw zMc zMb) zMa)) (zAw zL9 (zAw zL8 (zAw zL7 zL6))))))))))) (by kernel_rfl) h
theorem yC2 (a:List Int):Contract Try.prog NoG 20 [.sl false 1 (a.map rB8)] (.v (.bool (decide (4096<(a.length:Int))))):=by refine zR6 ?_;unfold code_laws_f6big;simp -implicitDefEqProofs (disch:=omega) only [go_sem,↓reduceIte ,xDj]
set_option maxHeartbeats 8000000 in
theorem zZ3 (q_code:List Int)(hc:∀ x,x∈q_code→InK .u8 x):Contract Try.prog NoG 5 [.sl false 1 (q_code.map rB8)] (.v (.bool true)):=by
  refine zOo ?_;unfold code_laws_FnMerged;simp -implicitDefEqProofs (disch:=omega) only [go_sem,↓reduceIte];by_cases hl:(4096:Int)<(q_code.length:Int)
  · have d0:=decide_eq_true hl;refine zAs (yC2 q_code) (by simp -implicitDefEqProofs (disch:=omega) only [go_sem,↓reduceIte,deep,TD.rows,zAf,zAc,zAg,zAb,zAd,zAa,d0];exact rfl) ?_;simp -implicitDefEqProofs (disch:=omega) only [go_sem,↓reduceIte ,d0]
  · have d0:=decide_eq_false hl;have hcb:CodeB q_code:=⟨fun x hx=>by have:=hc x hx;unfold InK at this;omega,by omega⟩
    have hF:=(yUf (k:=0) (hcb.src.mono (by omega))).d;have hD:=zOc q_code hcb;refine zAs (yC2 q_code) (by simp -implicitDefEqProofs (disch:=omega) only [go_sem,↓reduceIte,deep,TD.rows,zAf,zAc,zAg,zAb,zAd,zAa,d0];exact rfl) ?_;simp -implicitDefEqProofs (disch:=omega) only [go_sem,↓reduceIte ,d0];generalize yV3 ⟨q_code,0,0⟩=d at *;generalize xCf ⟨q_code,0,0⟩=i at *;generalize xCe ⟨q_code,0,0⟩=k at *;have hdB:dsnB d:=⟨by have:=hF.b;omega,by have:=hF.l;omega,by have:=hF.p;omega⟩
    have hI:=zGs d i k hdB;have hS:=zMn d i k hdB;have hE:=zU3 (zAx d i k) (xBh d i k);have hP:=zU4 d hdB;by_cases c0:zBf d i k=0
    · by_cases r0:zCt d=0
      · obtain ⟨m1,m2,m3,m4⟩:=yXv c0 r0;have hB:=zGs d k i hdB;rw [← zO2,← zHw] at hB;have hP2:=zU4 (zAx d i k) (xBh d i k);have hT:=zTo (yRg r0);have hV:=zF7 (zAx d i k) (xBh d i k);rw [m1,m2] at hP2;rw [m3] at hV;rw [c0] at hI hS hB;rw [r0] at hP;have hlt:decide (((zAx d i k).Pieces.length:Int)<(d.Pieces.length:Int))=true:=decide_eq_true (by omega);generalize zAx d i k=m at *;generalize zN8 d=pp at *;generalize yVy pp d.Bottom.length d.Left.length=tx at *;have htt:decide (tx=tx)=true:=decide_eq_true rfl;clear m1 m2 m3 m4 c0 r0;simp only [Design.td_d,Pattern.td_d] at hI hS hD hE hP hP2 hT hB hV;simp -implicitDefEqProofs (disch:=omega) only [go_sem,↓reduceIte ,zC6];refine zAs (hD) (by simp -implicitDefEqProofs (disch:=omega) only [go_sem,↓reduceIte,deep,TD.rows,zAf,zAc,zAg,zAb,zAd,zAa,zBw];exact rfl) ?_;simp -implicitDefEqProofs (disch:=omega) only [go_sem,↓reduceIte ,zBw];refine zAs (hI) (by simp -implicitDefEqProofs (disch:=omega) only [go_sem,↓reduceIte,deep,TD.rows,zAf,zAc,zAg,zAb,zAd,zAa,zBv];exact rfl) ?_;simp -implicitDefEqProofs (disch:=omega) only [go_sem,↓reduceIte ,zBv];refine zAs (hS) (by simp -implicitDefEqProofs (disch:=omega) only [go_sem,↓reduceIte,deep,TD.rows,zAf,zAc,zAg,zAb,zAd,zAa,zBu,Int.reduceEq,decide_true,decide_false,xDw];exact rfl) ?_;simp -implicitDefEqProofs (disch:=omega) only [go_sem,↓reduceIte ,zBu,Int.reduceEq,decide_true,decide_false,xDw];refine zAs (hE) (by simp -implicitDefEqProofs (disch:=omega) only [go_sem,↓reduceIte,deep,TD.rows,zAf,zAc,zAg,zAb,zAd,zAa,Int.reduceEq,decide_true,decide_false,xDw,zBp];exact rfl) ?_;simp -implicitDefEqProofs (disch:=omega) only [go_sem,↓reduceIte ,Int.reduceEq,decide_true,decide_false,xDw,zBp];refine zAs (hP) (by simp -implicitDefEqProofs (disch:=omega) only [go_sem,↓reduceIte,deep,TD.rows,zAf,zAc,zAg,zAb,zAd,zAa,zBo,Int.reduceEq,decide_true,decide_false,xDw,zDv];exact rfl) ?_;simp -implicitDefEqProofs (disch:=omega) only [go_sem,↓reduceIte ,zBo,Int.reduceEq,decide_true,decide_false,xDw,zDv];refine zAs (hP2) (by simp -implicitDefEqProofs (disch:=omega) only [go_sem,↓reduceIte,deep,TD.rows,zAf,zAc,zAg,zAb,zAd,zAa,zDu];exact rfl) ?_;simp -implicitDefEqProofs (disch:=omega) only [go_sem,↓reduceIte ,zDu];refine zAs (hB) (by simp -implicitDefEqProofs (disch:=omega) only [go_sem,↓reduceIte,deep,TD.rows,zAf,zAc,zAg,zAb,zAd,zAa,zDt,Int.reduceEq,decide_true,decide_false,xDw];exact rfl) ?_;simp -implicitDefEqProofs (disch:=omega) only [go_sem,↓reduceIte ,zDt,Int.reduceEq,decide_true,decide_false,xDw];refine zJf (hT) (by simp -implicitDefEqProofs (disch:=omega) only [go_sem,↓reduceIte,deep,TD.rows,zAf,zAc,zAg,zAb,zAd,zAa];exact rfl) ?_;simp -implicitDefEqProofs (disch:=omega) only [go_sem,↓reduceIte];refine zJf (hT) (by simp -implicitDefEqProofs (disch:=omega) only [go_sem,↓reduceIte,deep,TD.rows,zAf,zAc,zAg,zAb,zAd,zAa,htt];exact rfl) ?_;simp -implicitDefEqProofs (disch:=omega) only [go_sem,↓reduceIte ,htt];refine zJf (hV) (by simp -implicitDefEqProofs (disch:=omega) only [go_sem,↓reduceIte,deep,TD.rows,zAf,zAc,zAg,zAb,zAd,zAa,xDj,hlt,Int.reduceEq,decide_true,decide_false,xDw];exact rfl) ?_;simp -implicitDefEqProofs (disch:=omega) only [go_sem,↓reduceIte ,xDj,hlt,Int.reduceEq,decide_true,decide_false,xDw];refine zAs (hE) (by simp -implicitDefEqProofs (disch:=omega) only [go_sem,↓reduceIte,deep,TD.rows,zAf,zAc,zAg,zAb,zAd,zAa];exact rfl) ?_;simp -implicitDefEqProofs (disch:=omega) only [go_sem,↓reduceIte]
      · have dn:decide (zCt d=0)=false:=decide_eq_false r0;rw [c0] at hI hS;generalize zAx d i k=m at *;simp only [Design.td_d,Pattern.td_d] at hI hS hD hE hP;simp -implicitDefEqProofs (disch:=omega) only [go_sem,↓reduceIte ,zC6];refine zAs (hD) (by simp -implicitDefEqProofs (disch:=omega) only [go_sem,↓reduceIte,deep,TD.rows,zAf,zAc,zAg,zAb,zAd,zAa,zBw];exact rfl) ?_;simp -implicitDefEqProofs (disch:=omega) only [go_sem,↓reduceIte ,zBw];refine zAs (hI) (by simp -implicitDefEqProofs (disch:=omega) only [go_sem,↓reduceIte,deep,TD.rows,zAf,zAc,zAg,zAb,zAd,zAa,zBv];exact rfl) ?_;simp -implicitDefEqProofs (disch:=omega) only [go_sem,↓reduceIte ,zBv];refine zAs (hS) (by simp -implicitDefEqProofs (disch:=omega) only [go_sem,↓reduceIte,deep,TD.rows,zAf,zAc,zAg,zAb,zAd,zAa,zBu,Int.reduceEq,decide_true,decide_false,xDw];exact rfl) ?_;simp -implicitDefEqProofs (disch:=omega) only [go_sem,↓reduceIte ,zBu,Int.reduceEq,decide_true,decide_false,xDw];refine zAs (hE) (by simp -implicitDefEqProofs (disch:=omega) only [go_sem,↓reduceIte,deep,TD.rows,zAf,zAc,zAg,zAb,zAd,zAa,Int.reduceEq,decide_true,decide_false,xDw,zBp];exact rfl) ?_;simp -implicitDefEqProofs (disch:=omega) only [go_sem,↓reduceIte ,Int.reduceEq,decide_true,decide_false,xDw,zBp];refine zAs (hP) (by simp -implicitDefEqProofs (disch:=omega) only [go_sem,↓reduceIte,deep,TD.rows,zAf,zAc,zAg,zAb,zAd,zAa,zBo,Int.reduceEq,decide_true,decide_false,xDw,dn,xD5];exact rfl) ?_;simp -implicitDefEqProofs (disch:=omega) only [go_sem,↓reduceIte ,zBo,Int.reduceEq,decide_true,decide_false,xDw,dn,xD5]
    · have dc:decide (zBf d i k=0)=false:=decide_eq_false c0;have hself:decide (zBf d i k=zBf d i k)=true:=decide_eq_true rfl;generalize zAx d i k=m at *;simp only [Design.td_d,Pattern.td_d] at hI hS hD hE hP;simp -implicitDefEqProofs (disch:=omega) only [go_sem,↓reduceIte ,zC6];refine zAs (hD) (by simp -implicitDefEqProofs (disch:=omega) only [go_sem,↓reduceIte,deep,TD.rows,zAf,zAc,zAg,zAb,zAd,zAa,zBw];exact rfl) ?_;simp -implicitDefEqProofs (disch:=omega) only [go_sem,↓reduceIte ,zBw];refine zAs (hI) (by simp -implicitDefEqProofs (disch:=omega) only [go_sem,↓reduceIte,deep,TD.rows,zAf,zAc,zAg,zAb,zAd,zAa,zBv];exact rfl) ?_;simp -implicitDefEqProofs (disch:=omega) only [go_sem,↓reduceIte ,zBv];refine zAs (hS) (by simp -implicitDefEqProofs (disch:=omega) only [go_sem,↓reduceIte,deep,TD.rows,zAf,zAc,zAg,zAb,zAd,zAa,zBu,hself,xDw];exact rfl) ?_;simp -implicitDefEqProofs (disch:=omega) only [go_sem,↓reduceIte ,zBu,hself,xDw];refine zAs (hE) (by simp -implicitDefEqProofs (disch:=omega) only [go_sem,↓reduceIte,deep,TD.rows,zAf,zAc,zAg,zAb,zAd,zAa,xDw,zBp];exact rfl) ?_;simp -implicitDefEqProofs (disch:=omega) only [go_sem,↓reduceIte ,xDw,zBp];refine zAs (hP) (by simp -implicitDefEqProofs (disch:=omega) only [go_sem,↓reduceIte,deep,TD.rows,zAf,zAc,zAg,zAb,zAd,zAa,zBo,dc,xD5];exact rfl) ?_;simp -implicitDefEqProofs (disch:=omega) only [go_sem,↓reduceIte ,zBo,dc,xD5]
theorem zTh (q_code_v:Value)(q_code:List Int)(w:World)(q_code_h:(Ty.slice 5 (Ty.int .u8)).rep w w.heap.size [q_code_v] q_code):Calls Try.prog 5 #[q_code_v] w fun e w'=>e=.returned (.bool true)∧Below w.heap.size w w':=by refine (Contract.at (zZ3 q_code ((TD.slice 5 (TD.int .u8)).rep_ok q_code_h)) gI (xD8 _) (yCv (TD.arg_slice (TD.int .u8) q_code_h) yIn)).mono ?_;rintro e w' ⟨⟨v,I,F,rfl,hT,hn,hF⟩,hb⟩;obtain rfl:=T_v hT;exact ⟨rfl,hb⟩
end Go.Proofs.Ytaleehohmpohoaa
