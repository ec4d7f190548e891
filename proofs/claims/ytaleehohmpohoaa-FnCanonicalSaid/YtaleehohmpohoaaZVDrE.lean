/- Laws that the proof stands on. -/
import Derived.Test.YtaleehohmpohoaaZVDrD
import Derived.Test.YtaleehohmpohoaaZVMgT
import Derived.Test.YtaleehohmpohoaaZVSeg
set_option linter.all false
namespace Go.V
open Go.RowKit
theorem ContractX.imm {P:Program}{G:World→(Nat→Prop)→Prop}{f:FuncId}{i:Nat}{args cells:List D}{d:D}{cells':List D}(h:ContractX P G f i args cells d cells'):ContractX P G f i args cells d.imm cells':=by
  refine ⟨h.1,fun w I us b X hG hI hu hV hT hn hX=>(h.2 w I us b X hG hI hu hV hT hn hX).mono ?_⟩;rintro e w' ⟨v,F,X',I',he,hb,hTd,hTx,hnd,hF,hI1,hI2⟩;have hdj:=xA5.1 hnd;refine ⟨v,[],X',fun b=>I' b∨b∈F,he,hb,T.imm (fun b h=>.inl h) d hTd (fun b hb=>.inr hb),T.mono (fun b h=>.inl h) _ hTx,by simpa using hdj.2.1,fun x hx=>?_,fun b hb=>.inl (hI1 b hb),fun b hb=>hb.elim (hI2 b) (fun h=>⟨.inr (hF b (xCt _ h)).1,(hF b (xCt _ h)).2.1⟩)⟩;have hx:x∈X':=by simpa using hx
  have h1:=hF x (xC3 _ hx);refine ⟨h1.1,h1.2.1,?_⟩;rintro (h | h)
  · exact h1.2.2 h
  · exact hdj.2.2 x h x hx rfl
theorem yGx {s:List D}{r t:Nat}{tag tg:Option Nat}{z1 z2 z3:Nat}{r1 r2 r3:List (List D)}(hr:s[r]?=some (.box tag [.ref t [(0,0)],.ref t [(0,1)],.ref t [(0,2)]]))(ht:s[t]?=some (.box tg [.sl true z1 r1,.sl true z2 r2,.sl true z3 r3]))(hne:r≠t) :
    pull r t s=(zAc (zF7 r) ((zAc (zAd t) s).set t .undef)).set r (.box tag [.sl true z1 r1,.sl true z2 r2,.sl true z3 r3]):=by
  unfold pull;rw [hr,ht];simp [hne]
end Go.V
namespace Go.Proofs.Ytaleehohmpohoaa
open Go.RowKit Go.V
attribute [local go_sem] xBh xBb xBc xA8 xA6 xBl xBk xBy xBm xC7 xBt xCi xBn xCl xB6 xCg xBi xBp xBw xCn Value.oneCell' xCp xCu xCv xC0 xC1 xBr xB7 and_true true_and beq_self_eq_true xBa if_true if_false xB2 Nat.reduceAdd Nat.reduceMul Nat.reduceLeDiff xBj xB5 xB0 not_true_eq_false not_false_eq_true ne_eq reduceCtorEq xCf bne_self_eq_false Nat.reduceEqDiff List.isPrefixOf xB9 xCm xCq xC5 xCx decide_true decide_false Nat.reduceBEq Nat.reduceBNe xBv xBz exists_eq_left' exists_eq_left xAv or_false or_true true_or false_or xAx xCk mB Nat.reduceMod Nat.reduceDiv
set_option maxRecDepth 100000
abbrev zDd:List Bool:=(mB 84 0xfffffffffffffffffff4a)
abbrev zAa:List (List Bool):=[]
abbrev zA5:List (List Bool):=zDd::zAa
theorem zI6:zAj Try.prog 206208761856 (cL (Try.f51.body.getD .skip)) zA5=some ((.ops [
  ⟨some 2,none,.alloc [(.slice none 0 0),(.slice none 0 0),(.slice none 0 0)]⟩]),zA5):=by kernel_rfl
def zDn:VCode:=(.ops [
  ⟨some 9,none,.mv (.tmp 0)⟩,
  ⟨some 10,none,.callX 74 [(.tmp 9)]⟩,
  ⟨some 3,none,.alloc [(.int .i64 0),(.int .i64 0),(.slice none 0 0)]⟩,
  ⟨none,none,.store 3 (.tmp 3) (.tmp 10)⟩])
theorem zI5:zAj Try.prog 206208761856 (cL (cR (Try.f51.body.getD .skip))) zA5=some (zDn,zA5):=by kernel_rfl
def zDm:VCode:=(.ops [
  ⟨some 11,none,.callX 75 [(.tmp 3)]⟩,
  ⟨some 4,none,.alloc [(.slice none 0 0),(.slice none 0 0),(.slice none 0 0)]⟩,
  ⟨none,none,.store 3 (.tmp 4) (.tmp 11)⟩])
theorem zI4:zAj Try.prog 206208761856 (cL (cR (cR (Try.f51.body.getD .skip)))) zA5=some (zDm,zA5):=by kernel_rfl
def zDl:VCode:=(.ops [
  ⟨some 12,none,.mv (.tmp 0)⟩,
  ⟨some 13,none,.callX 54 [(.tmp 12),(.const (.int .i64 5))]⟩,
  ⟨some 5,none,.asg (.tmp 13)⟩])
theorem zI3:zAj Try.prog 206208761856 (cL (cL (cR (cR (cR (Try.f51.body.getD .skip)))))) zA5=some (zDl,zA5):=by kernel_rfl
def zBt:VCode:=(.ops [
  ⟨some 14,none,.mv (.tmp 5)⟩,
  ⟨some 15,none,.bin .gtr (.tmp 14) (.const (.int .i64 0))⟩,
  ⟨some 16,none,.mv (.tmp 15)⟩,
  ⟨some 17,some (16,true),.fa 2 (.tmp 4)⟩,
  ⟨some 18,some (16,true),.load 1 false (.tmp 17)⟩,
  ⟨some 19,some (16,true),.len (.tmp 18)⟩,
  ⟨some 20,some (16,true),.bin .gtr (.tmp 19) (.const (.int .i64 1))⟩,
  ⟨some 21,none,.pick (.tmp 16) (.tmp 20) (.const (.bool false))⟩])
theorem zI2:zAj Try.prog 206208761856 (cL (cL (cL (cL (cR (cL (cR (cR (cR (Try.f51.body.getD .skip)))))))))) zAa=some (zBt,zAa):=by kernel_rfl
theorem zI1:zAj Try.prog 206208761856 (cL (cR (cL (cL (cL (cR (cL (cR (cR (cR (Try.f51.body.getD .skip))))))))))) zAa=some (.skip,zAa):=by kernel_rfl
theorem zI0:zAj Try.prog 206208761856 (cR (cR (cL (cL (cL (cR (cL (cR (cR (cR (Try.f51.body.getD .skip))))))))))) zAa=some ((.exit 0),zAa):=by kernel_rfl
def zDk:VCode:=(.ops [
  ⟨some 24,none,.mv (.tmp 0)⟩,
  ⟨some 25,none,.fa 2 (.tmp 4)⟩,
  ⟨some 26,none,.load 1 false (.tmp 25)⟩,
  ⟨some 27,none,.len (.tmp 26)⟩,
  ⟨some 28,none,.bin .sub (.tmp 27) (.const (.int .i64 1))⟩,
  ⟨some 29,none,.callX 54 [(.tmp 24),(.tmp 28)]⟩,
  ⟨some 30,none,.bin .add (.const (.int .i64 1)) (.tmp 29)⟩,
  ⟨some 6,none,.asg (.tmp 30)⟩])
theorem zIz:zAj Try.prog 206208761856 (cL (cL (cL (cR (cL (cL (cR (cL (cR (cR (cR (Try.f51.body.getD .skip)))))))))))) zAa=some (zDk,zAa):=by kernel_rfl
def zDj:VCode:=(.ops [
  ⟨some 32,none,.mv (.tmp 6)⟩,
  ⟨some 33,none,.mv (.tmp 0)⟩,
  ⟨some 34,none,.mv (.tmp 6)⟩,
  ⟨some 35,none,.callX 54 [(.tmp 33),(.tmp 34)]⟩,
  ⟨some 36,none,.callX 58 [(.tmp 4),(.tmp 32),(.tmp 35)]⟩,
  ⟨some 31,none,.mv (.tmp 36)⟩,
  ⟨some 37,none,.ext (.tmp 31) 0⟩,
  ⟨some 38,none,.ext (.tmp 31) 1⟩,
  ⟨some 7,none,.alloc [(.slice none 0 0),(.slice none 0 0),(.slice none 0 0)]⟩,
  ⟨none,none,.store 3 (.tmp 7) (.tmp 37)⟩,
  ⟨some 8,none,.asg (.tmp 38)⟩])
theorem zIy:zAj Try.prog 206208761856 (cL (cR (cL (cL (cR (cL (cL (cR (cL (cR (cR (cR (Try.f51.body.getD .skip))))))))))))) zAa=some (zDj,zAa):=by kernel_rfl
theorem zIx:zAj Try.prog 206208761856 (cL (cR (cR (cL (cL (cR (cL (cL (cR (cL (cR (cR (cR (Try.f51.body.getD .skip)))))))))))))) zAa=some ((.ops [
  ⟨some 39,none,.mv (.tmp 8)⟩]),zAa):=by kernel_rfl
theorem zIf:zAj Try.prog 206208761856 (cL (cR (cR (cR (cL (cL (cR (cL (cL (cR (cL (cR (cR (cR (Try.f51.body.getD .skip))))))))))))))) zAa=some ((.ops [
  ⟨some 40,none,.load 3 true (.tmp 7)⟩,
  ⟨none,none,.store 3 (.tmp 4) (.tmp 40)⟩]),zAa):=by kernel_rfl
theorem zIe:zAj Try.prog 206208761856 (cR (cR (cR (cR (cL (cL (cR (cL (cL (cR (cL (cR (cR (cR (Try.f51.body.getD .skip))))))))))))))) zAa=some (.skip,zAa):=by kernel_rfl
def zBe:VCode:=(.ops [
  ⟨some 22,none,.mv (.tmp 5)⟩,
  ⟨some 23,none,.bin .sub (.tmp 22) (.const (.int .i64 1))⟩,
  ⟨some 5,none,.asg (.tmp 23)⟩])
theorem zId:zAj Try.prog 206208761856 (cR (cR (cL (cL (cR (cL (cR (cR (cR (Try.f51.body.getD .skip)))))))))) zAa=some (zBe,zAa):=by kernel_rfl
theorem zIc:zAj Try.prog 206208761856 (cL (cL (cR (cR (cR (cR (Try.f51.body.getD .skip))))))) zAa=some ((.ops [
  ⟨some 41,none,.mv (.tmp 0)⟩,
  ⟨some 42,none,.callX 54 [(.tmp 41),(.const (.int .i64 20))]⟩]),zAa):=by kernel_rfl
theorem zIb:zAj Try.prog 206208761856 (cL (cL (cR (cL (cR (cR (cR (cR (Try.f51.body.getD .skip))))))))) zAa=some ((.ops [
  ⟨some 44,none,.bin .eql (.tmp 42) (.const (.int .i64 0))⟩,
  ⟨some 43,none,.asg (.tmp 44)⟩]),zAa):=by kernel_rfl
def zC8:VCode:=(.drawT (.h 0 ⟨some 45,none,.fa 0 (.tmp 4)⟩ (.h 2 ⟨some 47,none,.mv (.tmp 0)⟩ (.br 1 ⟨some 46,none,.load 1 false (.tmp 45)⟩ (.br 3 ⟨some 48,none,.bsl 1 [(.const (.int .i64 (-1))),(.const (.int .i64 0)),(.const (.int .i64 119)),(.const (.int .i64 120))]⟩ (.br 4 ⟨some 49,none,.callX 53 [(.tmp 47),(.tmp 48)]⟩ (.br 5 ⟨some 50,none,.bsl 1 [(.tmp 49)]⟩ .done .nil) .nil) .nil) (.br 3 ⟨some 48,none,.bsl 1 [(.const (.int .i64 (-1))),(.const (.int .i64 0)),(.const (.int .i64 119)),(.const (.int .i64 120))]⟩ (.br 1 ⟨some 46,none,.load 1 false (.tmp 45)⟩ (.br 4 ⟨some 49,none,.callX 53 [(.tmp 47),(.tmp 48)]⟩ (.br 5 ⟨some 50,none,.bsl 1 [(.tmp 49)]⟩ .done .nil) .nil) (.br 4 ⟨some 49,none,.callX 53 [(.tmp 47),(.tmp 48)]⟩ (.br 1 ⟨some 46,none,.load 1 false (.tmp 45)⟩ (.br 5 ⟨some 50,none,.bsl 1 [(.tmp 49)]⟩ .done .nil) (.br 5 ⟨some 50,none,.bsl 1 [(.tmp 49)]⟩ (.br 1 ⟨some 46,none,.load 1 false (.tmp 45)⟩ .done .nil) .nil)) .nil)) .nil)))) [⟨some 51,none,.app 1 8 (.tmp 46) (.tmp 50)⟩,⟨some 52,none,.fa 0 (.tmp 4)⟩,⟨none,none,.store 1 (.tmp 52) (.tmp 51)⟩])
theorem zIa:zAj Try.prog 206208761856 (cL (cR (cL (cR (cL (cR (cR (cR (cR (Try.f51.body.getD .skip)))))))))) zAa=some (zC8,zAa):=by kernel_rfl
theorem zH9:zAj Try.prog 206208761856 (cL (cR (cR (cL (cR (cL (cR (cR (cR (cR (Try.f51.body.getD .skip))))))))))) zAa=some ((.ops [
  ⟨some 54,none,.bin .eql (.tmp 42) (.const (.int .i64 1))⟩,
  ⟨some 53,none,.asg (.tmp 54)⟩]),zAa):=by kernel_rfl
def zC7:VCode:=(.draw (mB 62 0x3f80000000000000) (mB 61 0x1000000000000000) [⟨0,mB 62 0x3f80000000000000,[],⟨some 55,none,.fa 2 (.tmp 4)⟩⟩,⟨1,mB 62 0x3f00000000000000,[],⟨some 56,none,.load 1 false (.tmp 55)⟩⟩,⟨2,mB 62 0x3f80000000000000,[],⟨some 57,none,.fa 2 (.tmp 4)⟩⟩,⟨3,mB 62 0x3d80000000000000,[],⟨some 58,none,.load 1 false (.tmp 57)⟩⟩,⟨4,mB 62 0x3980000000000000,[],⟨some 59,none,.ia 5 (.tmp 58) (.const (.int .i64 0))⟩⟩,⟨5,mB 62 0x3180000000000000,[],⟨some 60,none,.load 5 true (.tmp 59)⟩⟩,⟨6,mB 62 0x2180000000000000,(mB 61 0x1000000000000000),⟨some 61,none,.bslN 5 [(.tmp 60)]⟩⟩] [⟨some 62,none,.app 5 40 (.tmp 56) (.tmp 61)⟩,⟨some 63,none,.fa 2 (.tmp 4)⟩,⟨none,none,.store 1 (.tmp 63) (.tmp 62)⟩])
theorem zH8:zAj Try.prog 206208761856 (cL (cR (cR (cR (cL (cR (cL (cR (cR (cR (cR (Try.f51.body.getD .skip)))))))))))) zAa=some (zC7,zAa):=by kernel_rfl
theorem zH7:zAj Try.prog 206208761856 (cL (cR (cR (cR (cR (cL (cR (cL (cR (cR (cR (cR (Try.f51.body.getD .skip))))))))))))) zAa=some ((.ops [
  ⟨some 65,none,.bin .eql (.tmp 42) (.const (.int .i64 2))⟩,
  ⟨some 64,none,.asg (.tmp 65)⟩]),zAa):=by kernel_rfl
def zB9:VCode:=(.ops [
  ⟨some 66,none,.fa 2 (.tmp 4)⟩,
  ⟨some 67,none,.load 1 false (.tmp 66)⟩,
  ⟨some 68,none,.slc 5 (.tmp 67) (some (.const (.int .i64 1))) none none⟩,
  ⟨some 69,none,.fa 2 (.tmp 4)⟩,
  ⟨none,none,.store 1 (.tmp 69) (.tmp 68)⟩])
theorem zH6:zAj Try.prog 206208761856 (cL (cR (cR (cR (cR (cR (cL (cR (cL (cR (cR (cR (cR (Try.f51.body.getD .skip)))))))))))))) zAa=some (zB9,zAa):=by kernel_rfl
theorem zH5:zAj Try.prog 206208761856 (cL (cR (cR (cR (cR (cR (cR (cL (cR (cL (cR (cR (cR (cR (Try.f51.body.getD .skip))))))))))))))) zAa=some ((.ops [
  ⟨some 71,none,.bin .eql (.tmp 42) (.const (.int .i64 3))⟩,
  ⟨some 70,none,.asg (.tmp 71)⟩]),zAa):=by kernel_rfl
def zC6:VCode:=(.drawT (.h 0 ⟨some 72,none,.fa 2 (.tmp 4)⟩ (.h 2 ⟨some 74,none,.mv (.tmp 0)⟩ (.br 1 ⟨some 73,none,.load 1 false (.tmp 72)⟩ (.br 3 ⟨some 75,none,.bsl 1 [(.const (.int .i64 (-1))),(.const (.int .i64 0)),(.const (.int .i64 5)),(.const (.int .i64 6))]⟩ (.br 4 ⟨some 76,none,.callX 53 [(.tmp 74),(.tmp 75)]⟩ .done .nil) .nil) (.br 3 ⟨some 75,none,.bsl 1 [(.const (.int .i64 (-1))),(.const (.int .i64 0)),(.const (.int .i64 5)),(.const (.int .i64 6))]⟩ (.br 1 ⟨some 73,none,.load 1 false (.tmp 72)⟩ (.br 4 ⟨some 76,none,.callX 53 [(.tmp 74),(.tmp 75)]⟩ .done .nil) (.br 4 ⟨some 76,none,.callX 53 [(.tmp 74),(.tmp 75)]⟩ (.br 1 ⟨some 73,none,.load 1 false (.tmp 72)⟩ .done .nil) .nil)) .nil)))) [⟨some 77,none,.ia 5 (.tmp 73) (.const (.int .i64 0))⟩,⟨some 78,none,.fa 0 (.tmp 77)⟩,⟨none,none,.store 1 (.tmp 78) (.tmp 76)⟩])
theorem zH4:zAj Try.prog 206208761856 (cL (cR (cR (cR (cR (cR (cR (cR (cL (cR (cL (cR (cR (cR (cR (Try.f51.body.getD .skip)))))))))))))))) zAa=some (zC6,zAa):=by kernel_rfl
theorem zH3:zAj Try.prog 206208761856 (cL (cR (cR (cR (cR (cR (cR (cR (cR (cL (cR (cL (cR (cR (cR (cR (Try.f51.body.getD .skip))))))))))))))))) zAa=some ((.ops [
  ⟨some 80,none,.bin .eql (.tmp 42) (.const (.int .i64 4))⟩,
  ⟨some 79,none,.asg (.tmp 80)⟩]),zAa):=by kernel_rfl
def zC5:VCode:=(.ops [
  ⟨some 81,none,.bsl 1 []⟩,
  ⟨some 82,none,.fa 1 (.tmp 4)⟩,
  ⟨none,none,.store 1 (.tmp 82) (.tmp 81)⟩])
theorem zH2:zAj Try.prog 206208761856 (cL (cR (cR (cR (cR (cR (cR (cR (cR (cR (cL (cR (cL (cR (cR (cR (cR (Try.f51.body.getD .skip)))))))))))))))))) zAa=some (zC5,zAa):=by kernel_rfl
theorem zH1:zAj Try.prog 206208761856 (cR (cR (cR (cR (cR (cR (cR (cR (cR (cR (cL (cR (cL (cR (cR (cR (cR (Try.f51.body.getD .skip)))))))))))))))))) zAa=some (.skip,zAa):=by kernel_rfl
theorem zH0:zAj Try.prog 206208761856 (cL (cR (cR (cR (cR (cR (Try.f51.body.getD .skip))))))) zAa=some ((.ops [
  ⟨some 83,none,.load 3 true (.tmp 4)⟩,
  ⟨none,none,.store 3 (.tmp 2) (.tmp 83)⟩]),zAa):=by kernel_rfl
theorem zHz:zAj Try.prog 206208761856 (cR (cR (cR (cR (cR (cR (Try.f51.body.getD .skip))))))) zAa=some (.ret,zAa):=by kernel_rfl
def code_spec_l24DrawDesign:VCode:=(.seq (.ops [
  ⟨some 2,none,.alloc [(.slice none 0 0),(.slice none 0 0),(.slice none 0 0)]⟩]) (.seq zDn (.seq zDm (.seq (.seq zDl (.block 0 (.loop zDd (.seq (.seq zBt (.cond (.tmp 21) .skip (.exit 0))) (.seq (.block 1 (.seq zDk (.seq zDj (.seq (.ops [
  ⟨some 39,none,.mv (.tmp 8)⟩]) (.cond (.tmp 39) (.ops [
  ⟨some 40,none,.load 3 true (.tmp 7)⟩,
  ⟨none,none,.store 3 (.tmp 4) (.tmp 40)⟩]) .skip))))) zBe))))) (.seq (.seq (.ops [
  ⟨some 41,none,.mv (.tmp 0)⟩,
  ⟨some 42,none,.callX 54 [(.tmp 41),(.const (.int .i64 20))]⟩]) (.block 2 (.seq (.ops [
  ⟨some 44,none,.bin .eql (.tmp 42) (.const (.int .i64 0))⟩,
  ⟨some 43,none,.asg (.tmp 44)⟩]) (.cond (.tmp 43) zC8 (.seq (.ops [
  ⟨some 54,none,.bin .eql (.tmp 42) (.const (.int .i64 1))⟩,
  ⟨some 53,none,.asg (.tmp 54)⟩]) (.cond (.tmp 53) zC7 (.seq (.ops [
  ⟨some 65,none,.bin .eql (.tmp 42) (.const (.int .i64 2))⟩,
  ⟨some 64,none,.asg (.tmp 65)⟩]) (.cond (.tmp 64) zB9 (.seq (.ops [
  ⟨some 71,none,.bin .eql (.tmp 42) (.const (.int .i64 3))⟩,
  ⟨some 70,none,.asg (.tmp 71)⟩]) (.cond (.tmp 70) zC6 (.seq (.ops [
  ⟨some 80,none,.bin .eql (.tmp 42) (.const (.int .i64 4))⟩,
  ⟨some 79,none,.asg (.tmp 80)⟩]) (.cond (.tmp 79) zC5 .skip)))))))))))) (.seq (.ops [
  ⟨some 83,none,.load 3 true (.tmp 4)⟩,
  ⟨none,none,.store 3 (.tmp 2) (.tmp 83)⟩]) .ret))))))
theorem zJi {a0 d:D}{cells cells':List D}(h:∀ b,code_spec_l24DrawDesign.wp (CT Try.prog NoG) (yOu [(.c 2 3 true)] d 0 b cells') [.box (some b) cells,.undef,.undef,.undef,.undef,.undef,.undef,.undef,.undef,.undef,.undef,.undef,.undef,.undef,.undef,.undef,.undef,.undef,.undef,.undef,.undef,.undef,.undef,.undef,.undef,.undef,.undef,.undef,.undef,.undef,.undef,.undef,.undef,.undef,.undef,.undef,.undef,.undef,.undef,.undef,.undef,.undef,.undef,.undef,.undef,.undef,.undef,.undef,.undef,.undef,.undef,.undef,.undef,.undef,.undef,.undef,.undef,.undef,.undef,.undef,.undef,.undef,.undef,.undef,.undef,.undef,.undef,.undef,.undef,.undef,.undef,.undef,.undef,.undef,.undef,.undef,.undef,.undef,.undef,.undef,.undef,.undef,.undef,.undef]):ContractX Try.prog NoG 51 0 [a0] cells d cells' :=
  zE7 (pt:=206208761856) noG Try.func51 (fun us W=>by kernel_rfl) (c:=Try.f51.body.getD .skip) (ms:=[zDd]) (ms':=[]) (by kernel_rfl) (zAm zI6 (zAm zI5 (zAm zI4 (zAm (zAm zI3 (zCd (zI7 (zAm (zAm zI2 (zCb zI1 zI0)) (zAm (zCd (zAm zIz (zAm zIy (zAm zIx (zCb zIf zIe))))) zId))))) (zAm (zAm zIc (zCd (zAm zIb (zCb zIa (zAm zH9 (zCb zH8 (zAm zH7 (zCb zH6 (zAm zH5 (zCb zH4 (zAm zH3 (zCb zH2 zH1)))))))))))) (zAm zH0 zHz)))))) (by kernel_rfl) qAh h
def dr4:Option Bool→Design→List D
  | some true,_=>[.ref 7 [(0,0)],.ref 7 [(0,1)],.ref 7 [(0,2)]]
  | _,d=>[.sl true 1 (d.Bottom.map rI),.sl true 1 (d.Left.map rI),.sl true 5 (d.Pieces.map (Piece.td.d true))]
def dr7:Option Bool→Design→D
  | some true,d=>.box none [.sl true 1 (d.Bottom.map rI),.sl true 1 (d.Left.map rI),.sl true 5 (d.Pieces.map (Piece.td.d true))]
  | some false,_=>.box none [.sl true 1 [],.sl true 1 [],.sl true 5 []]
  | none,_=>.undef
theorem yTl (d:Design):dr4 none d=[.sl true 1 (d.Bottom.map rI),.sl true 1 (d.Left.map rI),.sl true 5 (d.Pieces.map (Piece.td.d true))]:=rfl
theorem yTi (d:Design):dr7 none d=.undef:=rfl
theorem yTm (d:Design):dr4 (some false) d=[.sl true 1 (d.Bottom.map rI),.sl true 1 (d.Left.map rI),.sl true 5 (d.Pieces.map (Piece.td.d true))]:=rfl
theorem yTj (d:Design):dr7 (some false) d=.box none [.sl true 1 [],.sl true 1 [],.sl true 5 []]:=rfl
theorem yTk (d:Design):dr4 (some true) d=[.ref 7 [(0,0)],.ref 7 [(0,1)],.ref 7 [(0,2)]]:=rfl
theorem yTh (d:Design):dr7 (some true) d=.box none [.sl true 1 (d.Bottom.map rI),.sl true 1 (d.Left.map rI),.sl true 5 (d.Pieces.map (Piece.td.d true))]:=rfl
def yYd (d:Design)(s:Src):List D:=if zCu s 20=2∧d.Pieces.length=1 then [.sl true 1 (d.Bottom.map rI),.sl true 1 (d.Left.map rI),.sl false 5 []] else Design.td.d true (edD d s)
theorem yLd (d:Design)(s:Src):zL7 (yYd d s)=Design.td.d false (edD d s):=by
  unfold yYd;split
  · rename_i h;have e:edD d s=⟨d.Bottom,d.Left,[]⟩:=by unfold edD;rw [h.1];simp only [Int.reduceEq,if_false,if_true];have:d.Pieces.drop 1=[]:=xGy qAc;rw [this]
    rw [e,Design.td_d];simp only [zL7,D.imm,zGa,zAw,xBl]
  · exact Design.td.imm true _
theorem zZr {d:Design}(h:DsF d):∃ q0 qs,d.Pieces=q0::qs:=by
  cases hd:d.Pieces with
  | nil=>have:=h.n;rw [hd] at this;simp at this
  | cons q0 qs=>exact ⟨q0,qs,rfl⟩
set_option maxHeartbeats 8000000 in
theorem yYr (s:Src) (hB:SrcB 60 s):ContractX Try.prog NoG 51 0 [.undef] s.d (.agg (yYd (yJo s).1 (yJo s).2)) (yYk s).d:=by
  have f:=yXl (k:=0) hB;have hD:=yEx s (hB.mono qAc);have hU:=zYr (yJn s) f.p;have hP0:=zN6 (zY6 s) 5 (f.b1.mono qAc);obtain ⟨fp,fu,_,fn,f2,fm,f3,_,_⟩:=f;obtain ⟨n,hn⟩:∃ n:Nat,zCu (zY6 s) 5=(n:Int):=⟨(zCu (zY6 s) 5).toNat,by omega⟩
  have hR:yJo s=mergeD n (zTx (yJn s)) (zCc (zY6 s) 5):=(by unfold yJo;rw [hn,xAz]);rw [hn] at hP0;unfold yYk;generalize yJo s=R at *;generalize yJn s=p at *;generalize zY6 s=s1 at *;generalize zCc s1 5=s2 at *;rw [Pattern.td_d] at hD hU;rw [Design.td_d] at hU;simp only [Src.d] at hD hP0 ⊢;refine zJi ?_;intro b;unfold code_spec_l24DrawDesign;simp -implicitDefEqProofs (disch:=omega) only [go_sem,↓reduceIte ,zDn,zDm];refine zD1 (i:=0) (r:=0) (hD) rfl rfl qAb ?_;simp -implicitDefEqProofs (disch:=omega) only [go_sem,↓reduceIte];refine zAr (hU) qAb ?_;simp -implicitDefEqProofs (disch:=omega) only [go_sem,↓reduceIte];simp -implicitDefEqProofs (disch:=omega) only [go_sem,↓reduceIte ,zDl];refine zD1 (i:=0) (r:=0) (hP0) rfl rfl qAb ?_;simp -implicitDefEqProofs (disch:=omega) only [go_sem,↓reduceIte];refine zBv qAd (fun z:Option Bool×Nat×Design×Src=>[(0,.box (some b) z.2.2.2.d),(4,.box none (dr4 z.1 z.2.2.1)),(5,.v (.int .i64 (z.2.1:Nat))),(7,dr7 z.1 z.2.2.1)]) (fun _=>by simp only [zBq,zBb,xA8,xBc];exact rfl) (fun z:Option Bool×Nat×Design×Src=>z.2.1≤4∧DsF z.2.2.1∧SrcB (4+4*z.2.1) z.2.2.2∧mergeD z.2.1 z.2.2.1 z.2.2.2=R) (fun z:Option Bool×Nat×Design×Src=>z.2.1) ((none,n,zTx p,s2)) (by rw [Src.d,yTl,yTi];exact qAa) (?_) ?_
  · exact ⟨(by show n≤4;omega),fu,f2.mono (by show 4+4*n≤_;omega),hR.symm⟩
  rintro ⟨g,k,d,s⟩ ⟨hk4,hd,hs,hm⟩;simp only at hk4 hd hs hm;simp only [Src.d];have hpl:=(zA1 hd.ok).2.2.1;by_cases hgo:0<k∧1<d.Pieces.length
  · obtain ⟨hk0,hl1⟩:=hgo;have hg:decide ((0:Int)<(k:Int))=true:=decide_eq_true qAc;obtain ⟨k,rfl⟩:∃ n,k=n+1:=⟨k-1,by omega⟩
    have hg1:decide ((1:Int)<(d.Pieces.length:Int))=true:=decide_eq_true qAc;have hm2:mergeD k (yCv d s) (yFe d s)=R:=(by rw [← hm,mergeD,if_pos hl1]);obtain ⟨hi,hkk,hs1,hs2⟩:=yFd (k:=4+4*k) hd (hs.mono qAc) hl1;have hqd:=yFf (k:=4+4*k) hd (hs.mono qAc) hl1;have hP1:=zN6 s ((d.Pieces.length:Int)-1) (hs.mono qAc);have hP2:=zN6 _ (zHj d s) (hs1.mono qAc);have hM:=yCn d (zHj d s) (zIk d s) hd.ok qAc qAc;have w1:IntKind.i64.wrap ((d.Pieces.length:Int)-1)=(d.Pieces.length:Int)-1:=wrI qAc qAc;have w2:IntKind.i64.wrap (1+zCu s ((d.Pieces.length:Int)-1))=zHj d s:=wrI (by unfold zHj at hi;omega) (by unfold zHj at hi;omega);have w3:IntKind.i64.wrap (((k+1:Nat):Int)-1)=(k:Int):=(by rw [wrI qAc qAc];omega);have eK:zCu (zCc s ((d.Pieces.length:Int)-1)) (zHj d s)=zIk d s:=rfl;have eS:zCc (zCc s ((d.Pieces.length:Int)-1)) (zHj d s)=yFe d s:=rfl;rw [eK,eS] at hP2;have hQ:yCv d s=if clash (mgD d (zHj d s) (zIk d s)) d.Pieces then d else zZf d (mgD d (zHj d s) (zIk d s)):=rfl
    rw [Design.td_d,Design.td_d] at hM;generalize zHj d s=si at *;generalize zIk d s=sk at *;generalize yFe d s=s3 at *;generalize yCv d s=dq at *;generalize clash (mgD d si sk) d.Pieces=cl at *;generalize zZf d (mgD d si sk)=mo at *;simp only [Src.d] at hP1 hP2;rcases g with _ | _ | _<;>simp only [yTl,yTi,yTm,yTj,yTk,yTh]
    all_goals
      simp -implicitDefEqProofs (disch:=omega) only [go_sem,↓reduceIte ,xAw,xAz,xA7,xA0,xAy,xAx,xAw,hg,hg1,w1,zBt,zDk]
      first
        | refine yCb 4 7 (i:=0) (r:=0) (hP1) ((yGx rfl rfl qAx).trans qAb) rfl rfl qAb (by repeat (first | exact zEh | refine zDf ?_ ?_ | exact le_of_eq rfl | exact zDe (zBs rfl) | refine zGx ?_ | exact zGw rfl (TD.rows ..) | refine zEg ?_ | refine zL0 ?_ ?_ | exact zCg)) (by repeat (first | exact zEh | refine zDf ?_ ?_ | exact le_of_eq rfl | exact zDe (zBs rfl) | refine zGx ?_ | exact zGw rfl (TD.rows ..) | refine zEg ?_ | refine zL0 ?_ ?_ | exact zCg)) (.inr rfl) ?_
        | refine zD1 (i:=0) (r:=0) (hP1) rfl rfl qAb ?_
      simp -implicitDefEqProofs (disch:=omega) only [go_sem,↓reduceIte ,w2,zDj];refine zD1 (i:=0) (r:=0) (hP2) rfl rfl qAb ?_;simp -implicitDefEqProofs (disch:=omega) only [go_sem,↓reduceIte];cases cl with
      | true=>simp only [if_true] at hQ hM;subst hQ;refine zAr (hM) (by simp -implicitDefEqProofs (disch:=omega) only [go_sem,↓reduceIte,deep,TD.rows,zAw,zAt,zA0,zAs,zAv,zAq,xBr,zBe,w3];exact rfl) ?_;simp -implicitDefEqProofs (disch:=omega) only [go_sem,↓reduceIte ,xBr,zBe,w3];refine ⟨(some false,k,dq,s3),(by show k<k+1;omega),⟨(by show k≤4;omega),hqd,hs2,hm2⟩,?_⟩;simp only [yTm,yTj];exact zD2
      | false=>simp only [xBa,if_false] at hQ hM;subst hQ;refine zAr (hM) (by simp -implicitDefEqProofs (disch:=omega) only [go_sem,↓reduceIte,deep,TD.rows,zAw,zAt,zA0,zAs,zAv,zAq,xB7,zBe,w3];exact rfl) ?_;simp -implicitDefEqProofs (disch:=omega) only [go_sem,↓reduceIte ,xB7,zBe,w3];refine ⟨(some true,k,dq,s3),(by show k<k+1;omega),⟨(by show k≤4;omega),hqd,hs2,hm2⟩,?_⟩;simp only [yTk,yTh];exact zD2
  · have hRr:R=(d,s):=by
      rw [← hm];cases k with
      | zero=>rfl
      | succ k=>rw [mergeD,if_neg (fun h=>hgo ⟨by omega,h⟩)]
    have hgs:decide ((0:Int)<(k:Int))=false∨(decide ((0:Int)<(k:Int))=true∧decide ((1:Int)<(d.Pieces.length:Int))=false):=by
      by_cases h0:0<k
      · exact .inr ⟨decide_eq_true qAc,decide_eq_false qAc⟩
      · exact .inl (decide_eq_false qAc)
    subst hRr;simp only [yYd,edD,edN];have hPk:=zN6 s 20 (hs.mono qAc);have sb1:SrcB 2 (zCc s 20):=SrcB.pick (k:=2) (hs.mono qAc) 20;have hA1:=yE2 (zCc s 20) [-1,0,119,120] (sb1.mono qAc) qAx qAx;have hA2:=yE2 (zCc s 20) [-1,0,5,6] (sb1.mono qAc) qAx qAx;have hl1:((([-1,0,119,120]:List Int).length:Nat):Int)=4:=rfl;have hl2:((([-1,0,5,6]:List Int).length:Nat):Int)=4:=rfl;rw [hl1] at hA1;rw [hl2] at hA2;clear hl1 hl2;generalize zCu s 20=c at *;generalize zCc s 20=s3 at *;generalize ([-1,0,119,120]:List Int).getD (zCu s3 4).toNat 0=v1 at *;generalize ([-1,0,5,6]:List Int).getD (zCu s3 4).toNat 0=v2 at *;generalize zCc s3 4=s4 at *;simp only [xA6,xBl,rI,Src.d] at hA1 hA2 hPk;obtain ⟨q0,qs,hq⟩:=zZr hd;have hql:(q0::qs).length≤100:=by rw [← hq];exact hpl
    rw [xBk] at hql;have hbl:=(zA1 hd.ok).1.2;have hg0:d.Pieces.getD 0 p0=q0:=by rw [hq];rfl
    rw [hg0];rcases hgs with hg | ⟨hg,hg1⟩<;>rcases g with _ | _ | _<;>simp only [yTl,yTi,yTm,yTj,yTk,yTh]
    all_goals
      first
        | (simp -implicitDefEqProofs (disch:=omega) only [go_sem,↓reduceIte,xAw,xAz,xA7,xA0,xAy,xAx,hg,hg1,zBt])
        | (simp -implicitDefEqProofs (disch:=omega) only [go_sem,↓reduceIte,xAw,xAz,xA7,xA0,xAy,xAx,hg,zBt])
      first
        | refine yCb 4 7 (i:=0) (r:=0) (hPk) ((yGx rfl rfl qAx).trans qAb) rfl rfl qAb (by repeat (first | exact zEh | refine zDf ?_ ?_ | exact le_of_eq rfl | exact zDe (zBs rfl) | refine zGx ?_ | exact zGw rfl (TD.rows ..) | refine zEg ?_ | refine zL0 ?_ ?_ | exact zCg)) (by repeat (first | exact zEh | refine zDf ?_ ?_ | exact le_of_eq rfl | exact zDe (zBs rfl) | refine zGx ?_ | exact zGw rfl (TD.rows ..) | refine zEg ?_ | refine zL0 ?_ ?_ | exact zCg)) (.inr rfl) ?_
        | refine zD1 (i:=0) (r:=0) (hPk) rfl rfl qAb ?_
      simp -implicitDefEqProofs (disch:=omega) only [go_sem,↓reduceIte];by_cases k0:c=0
      · subst k0;simp only [Int.reduceEq,false_and,if_false,if_true,Design.td_d];simp -implicitDefEqProofs (disch:=omega) only [go_sem,↓reduceIte ,xEm,xEp,xEe,xEr,xEv,xFn,xFv,Int.reduceLT,Int.reduceLE,Int.reduceEq,Int.reduceAdd,Int.reduceSub,Int.reduceMul,Int.reduceToNat,Int.reduceNeg];apply zDg
        case h =>
          intro K2 hK2;simp -implicitDefEqProofs (disch:=omega) only [go_sem,↓reduceIte ,zC8,xAw]
          repeat' (first
            | with_reducible exact hK2
            | with_reducible refine And.intro ?_ ?_
            | ((with_reducible refine yIc ?_);refine yI8 48 (i:=0) (r:=0) (hA1) qA7 rfl rfl qAb ?_;simp -implicitDefEqProofs (disch:=omega) only [go_sem,↓reduceIte]))
        simp -implicitDefEqProofs (disch:=omega) only [go_sem,↓reduceIte ,zCh,xAw];exact ⟨by omega,by first | (rw [xBo];done) | (rw [xBo];rfl)⟩
      by_cases k1:c=1
      · subst k1;simp only [Int.reduceEq,false_and,if_false,if_true,Design.td_d];simp -implicitDefEqProofs (disch:=omega) only [go_sem,↓reduceIte ,xEm,xEp,xEe,xEr,xEv,xFn,xFv,Int.reduceLT,Int.reduceLE,Int.reduceEq,Int.reduceAdd,Int.reduceSub,Int.reduceMul,Int.reduceToNat,Int.reduceNeg,xAw,xAz,xA7,xA0,xAy,xAx,hq,xAw,xBk,xA6,xBb,Piece.td_d,zC7];exact ⟨by omega,by omega,by first | (rw [xBo];done) | (rw [xBo];rfl)⟩
      by_cases hc2:c=2
      · subst hc2;cases qs with
        | nil=>have hl1:d.Pieces.length=1:=(by rw [hq];rfl);simp only [Int.reduceEq,true_and,hl1,if_false,if_true];simp -implicitDefEqProofs (disch:=omega) only [go_sem,↓reduceIte ,xEm,xEp,xEe,xEr,xEv,xFn,xFv,Int.reduceLT,Int.reduceLE,Int.reduceEq,Int.reduceAdd,Int.reduceSub,Int.reduceMul,Int.reduceToNat,Int.reduceNeg,xAw,xAz,xA7,xA0,xAy,xAx,hq,xAw,xBk,xBy,xA6,xBl,xB2,Nat.sub_self,Nat.reduceAdd,Nat.reduceSub,zB9];exact ⟨5,rfl⟩
        | cons q1 qs=>have hl1:¬ d.Pieces.length=1:=(by rw [hq];simp);simp only [Int.reduceEq,true_and,hl1,if_false,if_true,Design.td_d];rw [hq];simp -implicitDefEqProofs (disch:=omega) only [go_sem,↓reduceIte ,xEm,xEp,xEe,xEr,xEv,xFn,xFv,Int.reduceLT,Int.reduceLE,Int.reduceEq,Int.reduceAdd,Int.reduceSub,Int.reduceMul,Int.reduceToNat,Int.reduceNeg,xAw,xAz,xA7,xA0,xAy,xAx,hq,xAw,xBk,xA6,xBt,xCi,zB9];exact ⟨by omega,by omega,xDg (by rw [xBk,xAw];omega)⟩
      by_cases k3:c=3
      · subst k3;simp only [Int.reduceEq,false_and,if_false,if_true,Design.td_d];simp -implicitDefEqProofs (disch:=omega) only [go_sem,↓reduceIte ,xEm,xEp,xEe,xEr,xEv,xFn,xFv,Int.reduceLT,Int.reduceLE,Int.reduceEq,Int.reduceAdd,Int.reduceSub,Int.reduceMul,Int.reduceToNat,Int.reduceNeg];apply zDg
        case h =>
          intro K2 hK2;simp -implicitDefEqProofs (disch:=omega) only [go_sem,↓reduceIte ,zC6,xAw]
          repeat' (first
            | with_reducible exact hK2
            | with_reducible refine And.intro ?_ ?_
            | ((with_reducible refine yIc ?_);refine yI8 75 (i:=0) (r:=0) (hA2) qA7 rfl rfl qAb ?_;simp -implicitDefEqProofs (disch:=omega) only [go_sem,↓reduceIte]))
        simp -implicitDefEqProofs (disch:=omega) only [go_sem,↓reduceIte ,xEm,xEp,xEe,xEr,xEv,xFn,xFv,Int.reduceLT,Int.reduceLE,Int.reduceEq,Int.reduceAdd,Int.reduceSub,Int.reduceMul,Int.reduceToNat,Int.reduceNeg,xAw,xAz,xA7,xA0,xAy,xAx,zCh,hq,xAw,xBk,xA6,xBb,xA8,Piece.td_d];exact ⟨by omega,rfl⟩
      by_cases k4:c=4
      · subst k4;simp only [Int.reduceEq,false_and,if_false,if_true,Design.td_d];simp -implicitDefEqProofs (disch:=omega) only [go_sem,↓reduceIte ,xEm,xEp,xEe,xEr,xEv,xFn,xFv,Int.reduceLT,Int.reduceLE,Int.reduceEq,Int.reduceAdd,Int.reduceSub,Int.reduceMul,Int.reduceToNat,Int.reduceNeg,zC5]
      simp only [k0,k1,hc2,k3,k4,false_and,if_false,Design.td_d];simp -implicitDefEqProofs (disch:=omega) only [go_sem,↓reduceIte ,decide_eq_false k0,decide_eq_false k1,decide_eq_false hc2,decide_eq_false k3,decide_eq_false k4]
theorem zR5 (s:Src)(hB:SrcB 60 s):ContractX Try.prog NoG 51 0 [.undef] s.d (.agg (Design.td.d false (yYl s))) (yYk s).d:=by have:=(yYr s hB).imm;simp only [D.imm,yLd] at this;exact this
end Go.Proofs.Ytaleehohmpohoaa
