/- Laws that the proof stands on. -/
import Derived.Test.YtaleehohmpohoaaZVDrE
import Derived.Test.YtaleehohmpohoaaZg26
import Derived.Test.YtaleehohmpohoaaZg27
import Derived.Test.YtaleehohmpohoaaZVSeg
set_option linter.all false
namespace Go.Proofs.Ytaleehohmpohoaa
open Go.RowKit Go.V
attribute [local go_sem] xBh xBb xBc xA8 xA6 xBl xBk xBy xBm xC7 xBt xCi xBn xCl xB6 xCg xBi xBp xBw xCn Value.oneCell' xCp xCu xCv xC0 xC1 xBr xB7 and_true true_and beq_self_eq_true xBa if_true if_false xB2 Nat.reduceAdd Nat.reduceMul Nat.reduceLeDiff xBj xB5 xB0 not_true_eq_false not_false_eq_true ne_eq reduceCtorEq xCf bne_self_eq_false Nat.reduceEqDiff List.isPrefixOf xB9 xCm xCq xC5 xCx decide_true decide_false Nat.reduceBEq Nat.reduceBNe xBv xBz exists_eq_left' exists_eq_left xAv or_false or_true true_or false_or xAx xCk mB Nat.reduceMod Nat.reduceDiv
set_option maxRecDepth 100000
structure CodeB (code:List Int):Prop where
  ok:∀ x,x∈code→0≤x∧x≤255
  len:code.length≤1048576
theorem CodeB.src {code:List Int}(h:CodeB code):SrcB 4611686018427387904 ⟨code,0,0⟩:=⟨h.ok,h.len,by simp⟩
def code_spec_DrawCanonicalDesign:VCode:=(.seq (.ops [
  ⟨some 2,none,.alloc [(.slice none 0 0),(.slice none 0 0),(.slice none 0 0)]⟩]) (.seq (.ops [
  ⟨some 3,none,.mv (.tmp 0)⟩,
  ⟨some 4,none,.callX 50 [(.tmp 3)]⟩,
  ⟨some 5,none,.callX 51 [(.tmp 4)]⟩,
  ⟨none,none,.store 3 (.tmp 2) (.tmp 5)⟩]) .ret))
theorem zGi {a0 d:D}(h:code_spec_DrawCanonicalDesign.wp (CT Try.prog NoG) (zHy [(.c 2 3 true)] d) [a0,.undef,.undef,.undef,.undef,.undef]):Contract Try.prog NoG 28 [a0] d :=
  zAo (pt:=0) noG Try.func28 (fun us W=>by kernel_rfl) (c:=Try.f28.body.getD .skip) (ms:=[]) (ms':=[]) (by kernel_rfl) (by kernel_rfl) (by kernel_rfl) h
theorem zKb (code:List Int)(hc:CodeB code):Contract Try.prog NoG 28 [.sl false 1 (code.map rB8)] (.agg (Design.td.d false (yYl ⟨code,0,0⟩))):=by have hD:=zR5 ⟨code,0,0⟩ (hc.src.mono qAc);rw [Design.td_d] at hD ⊢;simp only [Src.d] at hD;refine zGi ?_;unfold code_spec_DrawCanonicalDesign;simp -implicitDefEqProofs (disch:=omega) only [go_sem,↓reduceIte];refine zAr (yEz code) (by simp -implicitDefEqProofs (disch:=omega) only [go_sem,↓reduceIte,deep,TD.rows,zAw,zAt,zA0,zAs,zAv,zAq,Src.d];exact rfl) ?_;simp -implicitDefEqProofs (disch:=omega) only [go_sem,↓reduceIte ,Src.d];refine zD1 (i:=0) (r:=4) (hD) rfl rfl qAb ?_;simp -implicitDefEqProofs (disch:=omega) only [go_sem,↓reduceIte]
def code_laws_f6big:VCode:=(.seq (.ops [
  ⟨some 2,none,.asg (.const (.bool false))⟩]) (.seq (.ops [
  ⟨some 3,none,.mv (.tmp 0)⟩,
  ⟨some 4,none,.len (.tmp 3)⟩,
  ⟨some 5,none,.bin .gtr (.tmp 4) (.const (.int .i64 4096))⟩,
  ⟨some 2,none,.asg (.tmp 5)⟩]) .ret))
theorem zT0 {a0 d:D}(h:code_laws_f6big.wp (CT Try.prog NoG) (zHy [(.t 2)] d) [a0,.undef,.undef,.undef,.undef,.undef]):Contract Try.prog NoG 20 [a0] d :=
  zAo (pt:=0) noG Try.func20 (fun us W=>by kernel_rfl) (c:=Try.f20.body.getD .skip) (ms:=[]) (ms':=[]) (by kernel_rfl) (by kernel_rfl) (by kernel_rfl) h
abbrev zDz:List Bool:=(mB 116 0xfffffffffffffc3fffffffffcbfb7)
abbrev zAl:List (List Bool):=[]
abbrev zAb:List (List Bool):=zDz::zAl
theorem zK4:zAj Try.prog 0 (cL (Try.f6.body.getD .skip)) zAb=some ((.ops [
  ⟨some 2,none,.asg (.const (.bool false))⟩]),zAb):=by kernel_rfl
theorem zK3:zAj Try.prog 0 (cL (cL (cR (Try.f6.body.getD .skip)))) zAb=some ((.ops [
  ⟨some 18,none,.mv (.tmp 0)⟩,
  ⟨some 19,none,.callX 20 [(.tmp 18)]⟩]),zAb):=by kernel_rfl
theorem zK2:zAj Try.prog 0 (cL (cL (cR (cL (cR (Try.f6.body.getD .skip)))))) zAb=some ((.ops [
  ⟨some 2,none,.asg (.const (.bool true))⟩]),zAb):=by kernel_rfl
theorem zK1:zAj Try.prog 0 (cR (cL (cR (cL (cR (Try.f6.body.getD .skip)))))) zAb=some (.ret,zAb):=by kernel_rfl
theorem zK0:zAj Try.prog 0 (cR (cR (cL (cR (Try.f6.body.getD .skip))))) zAb=some (.skip,zAb):=by kernel_rfl
def zCy:VCode:=(.ops [
  ⟨some 20,none,.mv (.tmp 0)⟩,
  ⟨some 21,none,.callX 28 [(.tmp 20)]⟩,
  ⟨some 3,none,.alloc [(.slice none 0 0),(.slice none 0 0),(.slice none 0 0)]⟩,
  ⟨none,none,.store 3 (.tmp 3) (.tmp 21)⟩])
theorem zKz:zAj Try.prog 0 (cL (cR (cR (Try.f6.body.getD .skip)))) zAb=some (zCy,zAb):=by kernel_rfl
def zCx:VCode:=(.ops [
  ⟨some 23,none,.load 3 true (.tmp 3)⟩,
  ⟨some 24,none,.callX 10 [(.tmp 23)]⟩,
  ⟨some 22,none,.mv (.tmp 24)⟩,
  ⟨some 25,none,.ext (.tmp 22) 0⟩,
  ⟨some 26,none,.ext (.tmp 22) 1⟩,
  ⟨some 4,none,.alloc [(.slice none 0 0),(.slice none 0 0),(.slice none 0 0)]⟩,
  ⟨none,none,.store 3 (.tmp 4) (.tmp 25)⟩,
  ⟨some 5,none,.asg (.tmp 26)⟩])
theorem zKy:zAj Try.prog 0 (cL (cR (cR (cR (Try.f6.body.getD .skip))))) zAb=some (zCx,zAb):=by kernel_rfl
def zCw:VCode:=(.ops [
  ⟨some 28,none,.load 3 true (.tmp 3)⟩,
  ⟨some 29,none,.callX 8 [(.tmp 28)]⟩,
  ⟨some 27,none,.mv (.tmp 29)⟩,
  ⟨some 30,none,.ext (.tmp 27) 0⟩,
  ⟨some 31,none,.ext (.tmp 27) 1⟩,
  ⟨some 6,none,.alloc [(.slice none 0 0),(.slice none 0 0),(.slice none 0 0)]⟩,
  ⟨none,none,.store 3 (.tmp 6) (.tmp 30)⟩,
  ⟨some 7,none,.asg (.tmp 31)⟩])
theorem zKx:zAj Try.prog 0 (cL (cR (cR (cR (cR (Try.f6.body.getD .skip)))))) zAb=some (zCw,zAb):=by kernel_rfl
def zBp:VCode:=(.ops [
  ⟨some 32,none,.mv (.tmp 5)⟩,
  ⟨some 33,none,.mv (.tmp 7)⟩,
  ⟨some 34,none,.bin .neq (.tmp 32) (.tmp 33)⟩,
  ⟨some 35,none,.mv (.tmp 34)⟩,
  ⟨some 36,some (35,false),.load 3 true (.tmp 4)⟩,
  ⟨some 37,some (35,false),.load 3 true (.tmp 6)⟩,
  ⟨some 38,some (35,false),.callX 24 [(.tmp 36),(.tmp 37)]⟩,
  ⟨some 39,some (35,false),.un .not (.tmp 38)⟩,
  ⟨some 40,none,.pick (.tmp 35) (.const (.bool true)) (.tmp 39)⟩])
theorem zKw:zAj Try.prog 0 (cL (cL (cR (cR (cR (cR (cR (Try.f6.body.getD .skip)))))))) zAb=some (zBp,zAb):=by kernel_rfl
theorem zKv:zAj Try.prog 0 (cL (cL (cR (cL (cR (cR (cR (cR (cR (Try.f6.body.getD .skip)))))))))) zAb=some ((.ops [
  ⟨some 2,none,.asg (.const (.bool false))⟩]),zAb):=by kernel_rfl
theorem zJ9:zAj Try.prog 0 (cR (cL (cR (cL (cR (cR (cR (cR (cR (Try.f6.body.getD .skip)))))))))) zAb=some (.ret,zAb):=by kernel_rfl
theorem zJ8:zAj Try.prog 0 (cR (cR (cL (cR (cR (cR (cR (cR (Try.f6.body.getD .skip))))))))) zAb=some (.skip,zAb):=by kernel_rfl
theorem zJ7:zAj Try.prog 0 (cL (cL (cR (cR (cR (cR (cR (cR (Try.f6.body.getD .skip))))))))) zAb=some ((.ops [
  ⟨some 41,none,.mv (.tmp 5)⟩,
  ⟨some 42,none,.bin .neq (.tmp 41) (.const (.int .i64 0))⟩]),zAb):=by kernel_rfl
theorem zJ6:zAj Try.prog 0 (cL (cL (cR (cL (cR (cR (cR (cR (cR (cR (Try.f6.body.getD .skip))))))))))) zAb=some ((.ops [
  ⟨some 2,none,.asg (.const (.bool true))⟩]),zAb):=by kernel_rfl
theorem zJ5:zAj Try.prog 0 (cR (cL (cR (cL (cR (cR (cR (cR (cR (cR (Try.f6.body.getD .skip))))))))))) zAb=some (.ret,zAb):=by kernel_rfl
theorem zJ4:zAj Try.prog 0 (cR (cR (cL (cR (cR (cR (cR (cR (cR (Try.f6.body.getD .skip)))))))))) zAb=some (.skip,zAb):=by kernel_rfl
def zCo:VCode:=(.ops [
  ⟨some 44,none,.load 3 true (.tmp 6)⟩,
  ⟨some 45,none,.callX 10 [(.tmp 44)]⟩,
  ⟨some 43,none,.mv (.tmp 45)⟩,
  ⟨some 46,none,.ext (.tmp 43) 0⟩,
  ⟨some 47,none,.ext (.tmp 43) 1⟩,
  ⟨some 8,none,.alloc [(.slice none 0 0),(.slice none 0 0),(.slice none 0 0)]⟩,
  ⟨none,none,.store 3 (.tmp 8) (.tmp 46)⟩,
  ⟨some 9,none,.asg (.tmp 47)⟩])
theorem zJ3:zAj Try.prog 0 (cL (cR (cR (cR (cR (cR (cR (cR (Try.f6.body.getD .skip))))))))) zAb=some (zCo,zAb):=by kernel_rfl
def zCn:VCode:=(.ops [
  ⟨some 49,none,.load 3 true (.tmp 3)⟩,
  ⟨some 50,none,.callX 25 [(.tmp 49)]⟩,
  ⟨some 48,none,.mv (.tmp 50)⟩,
  ⟨some 51,none,.ext (.tmp 48) 0⟩,
  ⟨some 52,none,.ext (.tmp 48) 1⟩,
  ⟨some 10,none,.alloc [(.int .i64 0),(.int .i64 0),(.slice none 0 0)]⟩,
  ⟨none,none,.store 3 (.tmp 10) (.tmp 51)⟩,
  ⟨some 11,none,.asg (.tmp 52)⟩])
theorem zJ2:zAj Try.prog 0 (cL (cR (cR (cR (cR (cR (cR (cR (cR (Try.f6.body.getD .skip)))))))))) zAb=some (zCn,zAb):=by kernel_rfl
def zCm:VCode:=(.ops [
  ⟨some 54,none,.load 3 true (.tmp 6)⟩,
  ⟨some 55,none,.callX 25 [(.tmp 54)]⟩,
  ⟨some 53,none,.mv (.tmp 55)⟩,
  ⟨some 56,none,.ext (.tmp 53) 0⟩,
  ⟨some 57,none,.ext (.tmp 53) 1⟩,
  ⟨some 12,none,.alloc [(.int .i64 0),(.int .i64 0),(.slice none 0 0)]⟩,
  ⟨none,none,.store 3 (.tmp 12) (.tmp 56)⟩,
  ⟨some 13,none,.asg (.tmp 57)⟩])
theorem zJ1:zAj Try.prog 0 (cL (cR (cR (cR (cR (cR (cR (cR (cR (cR (Try.f6.body.getD .skip))))))))))) zAb=some (zCm,zAb):=by kernel_rfl
def zCl:VCode:=(.ops [
  ⟨some 59,none,.load 3 true (.tmp 3)⟩,
  ⟨some 60,none,.callX 29 [(.tmp 59)]⟩,
  ⟨some 58,none,.mv (.tmp 60)⟩,
  ⟨some 61,none,.ext (.tmp 58) 0⟩,
  ⟨some 62,none,.ext (.tmp 58) 1⟩,
  ⟨some 14,none,.asg (.tmp 61)⟩,
  ⟨some 15,none,.asg (.tmp 62)⟩])
theorem zJ0:zAj Try.prog 0 (cL (cR (cR (cR (cR (cR (cR (cR (cR (cR (cR (Try.f6.body.getD .skip)))))))))))) zAb=some (zCl,zAb):=by kernel_rfl
def zCk:VCode:=(.draw (mB 96 0xffffffff8000000000000000) [] [⟨0,mB 96 0xffffffff8000000000000000,[],⟨some 63,none,.mv (.tmp 9)⟩⟩,⟨1,mB 96 0xffffffff0000000000000000,[],⟨some 64,none,.bin .neq (.tmp 63) (.const (.int .i64 0))⟩⟩,⟨2,mB 96 0xfffffffe0000000000000000,[],⟨some 65,none,.mv (.tmp 64)⟩⟩,⟨3,mB 96 0xfffffffc0000000000000000,[],⟨some 66,some (65,false),.load 3 true (.tmp 8)⟩⟩,⟨4,mB 96 0xfffffffc0000000000000000,[],⟨some 67,some (65,false),.load 3 true (.tmp 6)⟩⟩,⟨5,mB 96 0xfffffff00000000000000000,[],⟨some 68,some (65,false),.call 24 [(.tmp 66),(.tmp 67)]⟩⟩,⟨6,mB 96 0xffffffe00000000000000000,[],⟨some 69,some (65,false),.un .not (.tmp 68)⟩⟩,⟨7,mB 96 0xffffffc00000000000000000,[],⟨some 70,none,.pick (.tmp 65) (.const (.bool true)) (.tmp 69)⟩⟩,⟨8,mB 96 0xffffff800000000000000000,[],⟨some 71,none,.mv (.tmp 70)⟩⟩,⟨9,mB 96 0xffffff000000000000000000,[],⟨some 72,some (71,false),.mv (.tmp 11)⟩⟩,⟨10,mB 96 0xfffffe000000000000000000,[],⟨some 73,some (71,false),.bin .neq (.tmp 72) (.const (.int .i64 0))⟩⟩,⟨11,mB 96 0xfffffc000000000000000000,[],⟨some 74,none,.pick (.tmp 71) (.const (.bool true)) (.tmp 73)⟩⟩,⟨12,mB 96 0xfffff8000000000000000000,[],⟨some 75,none,.mv (.tmp 74)⟩⟩,⟨13,mB 96 0xfffff0000000000000000000,[],⟨some 76,some (75,false),.mv (.tmp 13)⟩⟩,⟨14,mB 96 0xffffe0000000000000000000,[],⟨some 77,some (75,false),.bin .neq (.tmp 76) (.const (.int .i64 0))⟩⟩,⟨15,mB 96 0xffffc0000000000000000000,[],⟨some 78,none,.pick (.tmp 75) (.const (.bool true)) (.tmp 77)⟩⟩,⟨16,mB 96 0xffff80000000000000000000,[],⟨some 79,none,.mv (.tmp 78)⟩⟩,⟨17,mB 96 0xffff00000000000000000000,[],⟨some 80,some (79,false),.load 3 true (.tmp 10)⟩⟩,⟨18,mB 96 0xfffe00000000000000000000,[],⟨some 81,some (79,false),.call 26 [(.tmp 80)]⟩⟩,⟨19,mB 96 0xffff00000000000000000000,[],⟨some 82,some (79,false),.load 3 true (.tmp 12)⟩⟩,⟨20,mB 96 0xfff800000000000000000000,[],⟨some 83,some (79,false),.call 26 [(.tmp 82)]⟩⟩,⟨21,mB 96 0xfff000000000000000000000,[],⟨some 84,some (79,false),.bin .neq (.tmp 81) (.tmp 83)⟩⟩,⟨22,mB 96 0xffe000000000000000000000,[],⟨some 85,none,.pick (.tmp 79) (.const (.bool true)) (.tmp 84)⟩⟩,⟨23,mB 96 0xffc000000000000000000000,[],⟨some 86,none,.mv (.tmp 85)⟩⟩,⟨24,mB 96 0xff8000000000000000000000,[],⟨some 87,some (86,false),.mv (.tmp 15)⟩⟩,⟨25,mB 96 0xff0000000000000000000000,[],⟨some 88,some (86,false),.bin .neq (.tmp 87) (.const (.int .i64 0))⟩⟩,⟨26,mB 96 0xfe0000000000000000000000,[],⟨some 89,none,.pick (.tmp 86) (.const (.bool true)) (.tmp 88)⟩⟩,⟨27,mB 96 0xfc0000000000000000000000,[],⟨some 90,none,.mv (.tmp 89)⟩⟩,⟨28,mB 96 0xf80000000000000000000000,[],⟨some 91,some (90,false),.mv (.tmp 14)⟩⟩,⟨29,mB 96 0xf00000000000000000000000,[],⟨some 92,some (90,false),.len (.tmp 91)⟩⟩,⟨30,mB 96 0xf80000000000000000000000,[],⟨some 93,some (90,false),.fa 2 (.tmp 3)⟩⟩,⟨31,mB 96 0xd80000000000000000000000,[],⟨some 94,some (90,false),.load 1 false (.tmp 93)⟩⟩,⟨32,mB 96 0x980000000000000000000000,[],⟨some 95,some (90,false),.len (.tmp 94)⟩⟩] [⟨some 96,some (90,false),.bin .neq (.tmp 92) (.tmp 95)⟩,⟨some 97,none,.pick (.tmp 90) (.const (.bool true)) (.tmp 96)⟩])
theorem zJz:zAj Try.prog 0 (cL (cL (cR (cR (cR (cR (cR (cR (cR (cR (cR (cR (cR (Try.f6.body.getD .skip)))))))))))))) zAb=some (zCk,zAb):=by kernel_rfl
theorem zJy:zAj Try.prog 0 (cL (cL (cR (cL (cR (cR (cR (cR (cR (cR (cR (cR (cR (cR (cR (Try.f6.body.getD .skip)))))))))))))))) zAb=some ((.ops [
  ⟨some 2,none,.asg (.const (.bool false))⟩]),zAb):=by kernel_rfl
theorem zJx:zAj Try.prog 0 (cR (cL (cR (cL (cR (cR (cR (cR (cR (cR (cR (cR (cR (cR (cR (Try.f6.body.getD .skip)))))))))))))))) zAb=some (.ret,zAb):=by kernel_rfl
theorem zJw:zAj Try.prog 0 (cR (cR (cL (cR (cR (cR (cR (cR (cR (cR (cR (cR (cR (cR (Try.f6.body.getD .skip))))))))))))))) zAb=some (.skip,zAb):=by kernel_rfl
theorem zJv:zAj Try.prog 0 (cL (cR (cR (cR (cR (cR (cR (cR (cR (cR (cR (cR (cR (Try.f6.body.getD .skip)))))))))))))) zAb=some ((.ops [
  ⟨some 16,none,.asg (.const (.int .i64 0))⟩]),zAb):=by kernel_rfl
theorem zJu:zAj Try.prog 0 (cL (cL (cR (cR (cR (cR (cR (cR (cR (cR (cR (cR (cR (cR (cR (Try.f6.body.getD .skip)))))))))))))))) zAb=some ((.ops [
  ⟨some 17,none,.asg (.const (.int .i64 0))⟩]),zAb):=by kernel_rfl
def zDt:VCode:=(.ops [
  ⟨some 98,none,.mv (.tmp 17)⟩,
  ⟨some 99,none,.mv (.tmp 14)⟩,
  ⟨some 100,none,.len (.tmp 99)⟩,
  ⟨some 101,none,.bin .lss (.tmp 98) (.tmp 100)⟩])
theorem zJt:zAj Try.prog 0 (cL (cL (cL (cL (cR (cL (cR (cR (cR (cR (cR (cR (cR (cR (cR (cR (cR (cR (cR (Try.f6.body.getD .skip)))))))))))))))))))) zAl=some (zDt,zAl):=by kernel_rfl
theorem zJs:zAj Try.prog 0 (cL (cR (cL (cL (cL (cR (cL (cR (cR (cR (cR (cR (cR (cR (cR (cR (cR (cR (cR (cR (Try.f6.body.getD .skip))))))))))))))))))))) zAl=some (.skip,zAl):=by kernel_rfl
theorem zJr:zAj Try.prog 0 (cR (cR (cL (cL (cL (cR (cL (cR (cR (cR (cR (cR (cR (cR (cR (cR (cR (cR (cR (cR (Try.f6.body.getD .skip))))))))))))))))))))) zAl=some ((.exit 0),zAl):=by kernel_rfl
def zCj:VCode:=(.ops [
  ⟨some 104,none,.mv (.tmp 14)⟩,
  ⟨some 105,none,.mv (.tmp 17)⟩,
  ⟨some 106,none,.ia 1 (.tmp 104) (.tmp 105)⟩,
  ⟨some 107,none,.load 1 false (.tmp 106)⟩,
  ⟨some 108,none,.bin .gtr (.tmp 107) (.const (.int .i64 0))⟩])
theorem zJq:zAj Try.prog 0 (cL (cL (cL (cR (cL (cL (cR (cL (cR (cR (cR (cR (cR (cR (cR (cR (cR (cR (cR (cR (cR (Try.f6.body.getD .skip)))))))))))))))))))))) zAl=some (zCj,zAl):=by kernel_rfl
def zDs:VCode:=(.ops [
  ⟨some 109,none,.mv (.tmp 16)⟩,
  ⟨some 110,none,.bin .add (.tmp 109) (.const (.int .i64 1))⟩,
  ⟨some 16,none,.asg (.tmp 110)⟩])
theorem zJp:zAj Try.prog 0 (cL (cR (cL (cL (cR (cL (cL (cR (cL (cR (cR (cR (cR (cR (cR (cR (cR (cR (cR (cR (cR (cR (Try.f6.body.getD .skip))))))))))))))))))))))) zAl=some (zDs,zAl):=by kernel_rfl
theorem zJo:zAj Try.prog 0 (cR (cR (cL (cL (cR (cL (cL (cR (cL (cR (cR (cR (cR (cR (cR (cR (cR (cR (cR (cR (cR (cR (Try.f6.body.getD .skip))))))))))))))))))))))) zAl=some (.skip,zAl):=by kernel_rfl
def zCi:VCode:=(.ops [
  ⟨some 102,none,.mv (.tmp 17)⟩,
  ⟨some 103,none,.bin .add (.tmp 102) (.const (.int .i64 1))⟩,
  ⟨some 17,none,.asg (.tmp 103)⟩])
theorem zJn:zAj Try.prog 0 (cR (cR (cL (cL (cR (cL (cR (cR (cR (cR (cR (cR (cR (cR (cR (cR (cR (cR (cR (Try.f6.body.getD .skip)))))))))))))))))))) zAl=some (zCi,zAl):=by kernel_rfl
def zDr:VCode:=(.ops [
  ⟨some 111,none,.mv (.tmp 16)⟩,
  ⟨some 112,none,.fa 2 (.tmp 6)⟩,
  ⟨some 113,none,.load 1 false (.tmp 112)⟩,
  ⟨some 114,none,.len (.tmp 113)⟩,
  ⟨some 115,none,.bin .eql (.tmp 111) (.tmp 114)⟩,
  ⟨some 2,none,.asg (.tmp 115)⟩])
theorem zJm:zAj Try.prog 0 (cL (cR (cR (cR (cR (cR (cR (cR (cR (cR (cR (cR (cR (cR (cR (Try.f6.body.getD .skip)))))))))))))))) zAl=some (zDr,zAl):=by kernel_rfl
theorem zJl:zAj Try.prog 0 (cR (cR (cR (cR (cR (cR (cR (cR (cR (cR (cR (cR (cR (cR (cR (Try.f6.body.getD .skip)))))))))))))))) zAl=some (.ret,zAl):=by kernel_rfl
def code_laws_FnCanonical:VCode:=(.seq (.ops [
  ⟨some 2,none,.asg (.const (.bool false))⟩]) (.seq (.seq (.ops [
  ⟨some 18,none,.mv (.tmp 0)⟩,
  ⟨some 19,none,.callX 20 [(.tmp 18)]⟩]) (.cond (.tmp 19) (.seq (.ops [
  ⟨some 2,none,.asg (.const (.bool true))⟩]) .ret) .skip)) (.seq zCy (.seq zCx (.seq zCw (.seq (.seq zBp (.cond (.tmp 40) (.seq (.ops [
  ⟨some 2,none,.asg (.const (.bool false))⟩]) .ret) .skip)) (.seq (.seq (.ops [
  ⟨some 41,none,.mv (.tmp 5)⟩,
  ⟨some 42,none,.bin .neq (.tmp 41) (.const (.int .i64 0))⟩]) (.cond (.tmp 42) (.seq (.ops [
  ⟨some 2,none,.asg (.const (.bool true))⟩]) .ret) .skip)) (.seq zCo (.seq zCn (.seq zCm (.seq zCl (.seq (.seq zCk (.cond (.tmp 97) (.seq (.ops [
  ⟨some 2,none,.asg (.const (.bool false))⟩]) .ret) .skip)) (.seq (.ops [
  ⟨some 16,none,.asg (.const (.int .i64 0))⟩]) (.seq (.seq (.ops [
  ⟨some 17,none,.asg (.const (.int .i64 0))⟩]) (.block 0 (.loop zDz (.seq (.seq zDt (.cond (.tmp 101) .skip (.exit 0))) (.seq (.block 1 (.seq zCj (.cond (.tmp 108) zDs .skip))) zCi))))) (.seq zDr .ret)))))))))))))))
theorem zLp {a0 d:D}(h:code_laws_FnCanonical.wp (CT Try.prog NoG) (zHy [(.t 2)] d) [a0,.undef,.undef,.undef,.undef,.undef,.undef,.undef,.undef,.undef,.undef,.undef,.undef,.undef,.undef,.undef,.undef,.undef,.undef,.undef,.undef,.undef,.undef,.undef,.undef,.undef,.undef,.undef,.undef,.undef,.undef,.undef,.undef,.undef,.undef,.undef,.undef,.undef,.undef,.undef,.undef,.undef,.undef,.undef,.undef,.undef,.undef,.undef,.undef,.undef,.undef,.undef,.undef,.undef,.undef,.undef,.undef,.undef,.undef,.undef,.undef,.undef,.undef,.undef,.undef,.undef,.undef,.undef,.undef,.undef,.undef,.undef,.undef,.undef,.undef,.undef,.undef,.undef,.undef,.undef,.undef,.undef,.undef,.undef,.undef,.undef,.undef,.undef,.undef,.undef,.undef,.undef,.undef,.undef,.undef,.undef,.undef,.undef,.undef,.undef,.undef,.undef,.undef,.undef,.undef,.undef,.undef,.undef,.undef,.undef,.undef,.undef,.undef,.undef,.undef,.undef]):Contract Try.prog NoG 6 [a0] d :=
  zAo (pt:=0) noG Try.func6 (fun us W=>by kernel_rfl) (c:=Try.f6.body.getD .skip) (ms:=[zDz]) (ms':=[]) (by kernel_rfl) (zAm zK4 (zAm (zAm zK3 (zCb (zAm zK2 zK1) zK0)) (zAm zKz (zAm zKy (zAm zKx (zAm (zAm zKw (zCb (zAm zKv zJ9) zJ8)) (zAm (zAm zJ7 (zCb (zAm zJ6 zJ5) zJ4)) (zAm zJ3 (zAm zJ2 (zAm zJ1 (zAm zJ0 (zAm (zAm zJz (zCb (zAm zJy zJx) zJw)) (zAm zJv (zAm (zAm zJu (zCd (zI7 (zAm (zAm zJt (zCb zJs zJr)) (zAm (zCd (zAm zJq (zCb zJp zJo))) zJn))))) (zAm zJm zJl))))))))))))))) (by kernel_rfl) h
theorem yE0 (a:List Int):Contract Try.prog NoG 20 [.sl false 1 (a.map rB8)] (.v (.bool (decide (4096<(a.length:Int))))):=by refine zT0 ?_;unfold code_laws_f6big;simp -implicitDefEqProofs (disch:=omega) only [go_sem,↓reduceIte ,xAw]
theorem yTf {d:Design}(h:DrF d):Design.cnt d≤1048576:=by have:=h.b;have:=h.l;have:=h.p;unfold Design.cnt;omega
theorem yTe {d:Design}(h:zC1 d=true):dsnB d:=by obtain ⟨⟨_,w⟩,⟨_,l⟩,p,_⟩:=zA1 h;exact ⟨by omega,by omega,by omega⟩
set_option maxHeartbeats 8000000 in
theorem zVa (q_code:List Int) (hc:∀ x,x∈q_code→InK .u8 x):Contract Try.prog NoG 6 [.sl false 1 (q_code.map rB8)] (.v (.bool true)):=by
  refine zLp ?_;unfold code_laws_FnCanonical;simp -implicitDefEqProofs (disch:=omega) only [go_sem,↓reduceIte];by_cases hl:(4096:Int)<(q_code.length:Int)
  · have d0:=decide_eq_true hl;refine zAr (yE0 q_code) qBe ?_;simp -implicitDefEqProofs (disch:=omega) only [go_sem,↓reduceIte ,d0]
  · have d0:=decide_eq_false hl;have hcb:CodeB q_code:=⟨fun x hx=>by have:=hc x hx;unfold InK at this;omega,by omega⟩
    have hF:=(yXl (k:=0) (hcb.src.mono qAc)).d;have hD:=zKb q_code hcb;refine zAr (yE0 q_code) qBe ?_;simp -implicitDefEqProofs (disch:=omega) only [go_sem,↓reduceIte ,d0];generalize yYl ⟨q_code,0,0⟩=d at *;have hcn:=yTf hF;have hdB:=zWe hcn;have hI:=zF2 d hF.ok hcn;have hS:=zKc d hF.ok hcn;unfold zCs at hI hS;by_cases h0:zA7 d=0
    · obtain ⟨m0,m1,m2,m3,m4,m5,m6,m7,m8⟩:=yTr h0;have hin:=zF3 h0;have hpu:=yGz (n:=d.Pieces.length) hin m6 m7;have hPB:=yQ7 h0;have hmB:=yTe m8;have hmp:=(zA1 m8).2.2.1;have hdp:=(zA1 (zF4 h0).1).2.2.1;have hpm:zPs (zAn d)=zPs d:=(by unfold zPs;rw [if_pos m0,if_pos h0,m2,m3];have:yEc (zAn d) (zBl (zAn d))=yEc d (zBl d):=m4;rw [this]);have hmc:Design.cnt (zAn d)≤1048576:=(by obtain ⟨⟨_,w⟩,⟨_,l⟩,_⟩:=zA1 m8;unfold Design.cnt;omega);have hI2:=zF2 (zAn d) (zN1 d hF.ok hcn) hmc;unfold zCs at hI2;have hE:=zQo (zAn d) hmB;have hP:=zWs d hdB;have hP2:=zWs (zAn d) hmB;have hT:=zVg hPB;have hU:=zQ1 d hF.ok hcn;unfold zNz zN0 at hU;rw [if_pos h0] at hU;rw [m1] at hI2;rw [hpm] at hP2;rw [h0] at hI hS hP hU;rw [m0] at hI2 hP2;rw [← m5] at hpu;have hul:=zWt d.Pieces.length (zBl d);have huI:=zZ6 d.Pieces.length (zBl d);generalize zHi d.Pieces.length (zBl d)=us at *;generalize zPs d=pp at *;generalize zAn d=m at *;generalize yUt pp d.Bottom.length d.Left.length=tx at *;clear m0 m1 m2 m3 m4 m5 m6 m7 m8 hpm hPB hin;simp only [Design.td_d,Pattern.td_d] at hI hS hD hE hP hP2 hT hI2 hU;simp -implicitDefEqProofs (disch:=omega) only [go_sem,↓reduceIte ,zCy];refine zAr (hD) qA5 ?_;simp -implicitDefEqProofs (disch:=omega) only [go_sem,↓reduceIte ,zCx];refine zAr (hI) qA4 ?_;simp -implicitDefEqProofs (disch:=omega) only [go_sem,↓reduceIte ,zCw];refine zAr (hS) (by simp -implicitDefEqProofs (disch:=omega) only [go_sem,↓reduceIte,deep,TD.rows,zAw,zAt,zA0,zAs,zAv,zAq,zBp,Int.reduceEq,decide_true,decide_false,xBr];exact rfl) ?_;simp -implicitDefEqProofs (disch:=omega) only [go_sem,↓reduceIte ,zBp,Int.reduceEq,decide_true,decide_false,xBr];refine zAr (hE) (by simp -implicitDefEqProofs (disch:=omega) only [go_sem,↓reduceIte,deep,TD.rows,zAw,zAt,zA0,zAs,zAv,zAq,Int.reduceEq,decide_true,decide_false,xBr,zCo];exact rfl) ?_;simp -implicitDefEqProofs (disch:=omega) only [go_sem,↓reduceIte ,Int.reduceEq,decide_true,decide_false,xBr,zCo];refine zAr (hI2) (by simp -implicitDefEqProofs (disch:=omega) only [go_sem,↓reduceIte,deep,TD.rows,zAw,zAt,zA0,zAs,zAv,zAq,zCn];exact rfl) ?_;simp -implicitDefEqProofs (disch:=omega) only [go_sem,↓reduceIte ,zCn];refine zAr (hP) (by simp -implicitDefEqProofs (disch:=omega) only [go_sem,↓reduceIte,deep,TD.rows,zAw,zAt,zA0,zAs,zAv,zAq,zCm];exact rfl) ?_;simp -implicitDefEqProofs (disch:=omega) only [go_sem,↓reduceIte ,zCm];refine zAr (hP2) (by simp -implicitDefEqProofs (disch:=omega) only [go_sem,↓reduceIte,deep,TD.rows,zAw,zAt,zA0,zAs,zAv,zAq,zCl];exact rfl) ?_;simp -implicitDefEqProofs (disch:=omega) only [go_sem,↓reduceIte ,zCl];refine zAr (hU) (by simp -implicitDefEqProofs (disch:=omega) only [go_sem,↓reduceIte,deep,TD.rows,zAw,zAt,zA0,zAs,zAv,zAq,zCk,Int.reduceEq,decide_true,decide_false,xBr];exact rfl) ?_;simp -implicitDefEqProofs (disch:=omega) only [go_sem,↓reduceIte ,zCk,Int.reduceEq,decide_true,decide_false,xBr];have htt:decide (tx=tx)=true:=decide_eq_true rfl;have hnn:decide ((d.Pieces.length:Int)=(d.Pieces.length:Int))=true:=decide_eq_true rfl;have hfin:decide (((yEl us d.Pieces.length).length:Int)=(m.Pieces.length:Int))=true:=decide_eq_true qAc;refine zK5 (hE) (by simp -implicitDefEqProofs (disch:=omega) only [go_sem,↓reduceIte,deep,TD.rows,zAw,zAt,zA0,zAs,zAv,zAq,Int.reduceEq,decide_true,decide_false,xBr];exact rfl) ?_;simp -implicitDefEqProofs (disch:=omega) only [go_sem,↓reduceIte ,Int.reduceEq,decide_true,decide_false,xBr];refine zK5 (hT) qAb ?_;simp -implicitDefEqProofs (disch:=omega) only [go_sem,↓reduceIte];refine zK5 (hT) (by simp -implicitDefEqProofs (disch:=omega) only [go_sem,↓reduceIte,deep,TD.rows,zAw,zAt,zA0,zAs,zAv,zAq,htt,Int.reduceEq,decide_true,decide_false,xBr,xAw,hul,hnn];exact rfl) ?_;simp -implicitDefEqProofs (disch:=omega) only [go_sem,↓reduceIte ,htt,Int.reduceEq,decide_true,decide_false,xBr,xAw,hul,hnn];refine zBv qAd (fun i:Nat=>[(16,.v (.int .i64 ((yEl us i).length:Nat))),(17,.v (.int .i64 (i:Nat)))]) (fun _=>by simp only [zBq,zBb,xA8,xBc];exact rfl) (fun i:Nat=>i≤d.Pieces.length) (fun i:Nat=>d.Pieces.length-i) (0) (by rw [show (yEl us 0).length=0 from rfl];exact qAa) (?_) ?_
      · exact xCs _
      intro i hi;simp -implicitDefEqProofs (disch:=omega) only [go_sem,↓reduceIte ,xAw,xAz,xA7,xA0,xAy,xAx,xAw,hul,zDt];refine zAp ?_ ?_<;>intro hlt
      · have hlt:i<d.Pieces.length:=qAg;have hlu:i<us.length:=qAc;have e1:=xA1 hlu;have hnx:=yG0 us i;have hle:=yQ5 us i;rw [xA3,e1,xDd] at hnx;by_cases hp:0<us[i]
        · have dp:=decide_eq_true hp;rw [if_pos hp] at hnx;simp -implicitDefEqProofs (disch:=omega) only [go_sem,↓reduceIte ,xAw,xAz,xA7,xA0,xAy,xAx,hul,hlt,e1,rI,dp,zCj,zDs,zCi,wrN];refine ⟨i+1,by omega,hlt,?_⟩;rw [hnx];exact zD2
        · have dp:=decide_eq_false hp;rw [if_neg hp,xEk] at hnx;simp -implicitDefEqProofs (disch:=omega) only [go_sem,↓reduceIte ,xAw,xAz,xA7,xA0,xAy,xAx,hul,hlt,e1,rI,dp,zCj,zCi,wrN];refine ⟨i+1,by omega,hlt,?_⟩;rw [hnx];exact zD2
      · obtain rfl:i=d.Pieces.length:=qCs;simp -implicitDefEqProofs (disch:=omega) only [go_sem,↓reduceIte ,xAw,hfin,zDr]
    · have hm:zAn d=⟨[],[],[]⟩:=(by unfold zAn;rw [if_neg h0]);have dn:decide (zA7 d=0)=false:=decide_eq_false h0;have hself:decide (zA7 d=zA7 d)=true:=decide_eq_true rfl;rw [hm] at hI hS;have hE:=zQo ⟨[],[],[]⟩ ⟨xCs _,xCs _,xCs _⟩;simp only [Design.td_d,xBl] at hI hS hD hE;simp -implicitDefEqProofs (disch:=omega) only [go_sem,↓reduceIte ,zCy];refine zAr (hD) qA5 ?_;simp -implicitDefEqProofs (disch:=omega) only [go_sem,↓reduceIte ,zCx];refine zAr (hI) qA4 ?_;simp -implicitDefEqProofs (disch:=omega) only [go_sem,↓reduceIte ,zCw];refine zAr (hS) (by simp -implicitDefEqProofs (disch:=omega) only [go_sem,↓reduceIte,deep,TD.rows,zAw,zAt,zA0,zAs,zAv,zAq,zBp,hself,xBr];exact rfl) ?_;simp -implicitDefEqProofs (disch:=omega) only [go_sem,↓reduceIte ,zBp,hself,xBr];refine zAr (hE) (by simp -implicitDefEqProofs (disch:=omega) only [go_sem,↓reduceIte,deep,TD.rows,zAw,zAt,zA0,zAs,zAv,zAq,dn,xBr,xB7];exact rfl) ?_;simp -implicitDefEqProofs (disch:=omega) only [go_sem,↓reduceIte ,dn,xBr,xB7]
theorem zQz (q_code_v:Value)(q_code:List Int)(w:World)(q_code_h:(Ty.slice 5 (Ty.int .u8)).rep w w.heap.size [q_code_v] q_code):Calls Try.prog 6 #[q_code_v] w fun e w'=>e=.returned (.bool true)∧Below w.heap.size w w':=by refine (Contract.at (zVa q_code ((TD.slice 5 (TD.int .u8)).rep_ok q_code_h)) gI (xBj _) (yEu (TD.arg_slice (TD.int .u8) q_code_h) yJw)).mono ?_;rintro e w' ⟨⟨v,I,F,rfl,hT,hn,hF⟩,hb⟩;obtain rfl:=T_v hT;exact ⟨rfl,hb⟩
end Go.Proofs.Ytaleehohmpohoaa
