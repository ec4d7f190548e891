/- Laws that the proof stands on. -/
import Derived.Test.YtaleehohmpohoaaZg24
import Derived.Test.YtaleehohmpohoaaZg29
import Derived.Test.YtaleehohmpohoaaZVSeg
set_option linter.all false
namespace Go.V
open Go.RowKit
theorem ContractX.imm {P:Program}{G:World→(Nat→Prop)→Prop}{f:FuncId}{i:Nat}{args cells:List D}{d:D}{cells':List D}(h:ContractX P G f i args cells d cells'):ContractX P G f i args cells d.imm cells':=by
  refine ⟨h.1,fun w I us b X hG hI hu hV hT hn hX=>(h.2 w I us b X hG hI hu hV hT hn hX).mono ?_⟩;rintro e w' ⟨v,F,X',I',he,hb,hTd,hTx,hnd,hF,hI1,hI2⟩;have hdj:=xDs.1 hnd;refine ⟨v,[],X',fun b=>I' b∨b∈F,he,hb,T.imm (fun b h=>.inl h) d hTd (fun b hb=>.inr hb),T.mono (fun b h=>.inl h) _ hTx,by simpa using hdj.2.1,fun x hx=>?_,fun b hb=>.inl (hI1 b hb),fun b hb=>hb.elim (hI2 b) (fun h=>⟨.inr (hF b (xE8 _ h)).1,(hF b (xE8 _ h)).2.1⟩)⟩;have hx:x∈X':=by simpa using hx
  have h1:=hF x (xFk _ hx);refine ⟨h1.1,h1.2.1,?_⟩;rintro (h | h)
  · exact h1.2.2 h
  · exact hdj.2.2 x h x hx rfl
theorem yE9 {s:List D}{r t:Nat}{tag tg:Option Nat}{z1 z2 z3:Nat}{r1 r2 r3:List (List D)}(hr:s[r]?=some (.box tag [.ref t [(0,0)],.ref t [(0,1)],.ref t [(0,2)]]))(ht:s[t]?=some (.box tg [.sl true z1 r1,.sl true z2 r2,.sl true z3 r3]))(hne:r≠t) :
    pull r t s=(zAh (zFh r) ((zAh (zAi t) s).set t .undef)).set r (.box tag [.sl true z1 r1,.sl true z2 r2,.sl true z3 r3]):=by
  unfold pull;rw [hr,ht];simp [hne]
end Go.V
namespace Go.Proofs.Ytaleehohmpohoaa
open Go.RowKit Go.V
attribute [local go_sem] xD4 xDy xDz xDv xDu xEb xD9 xEn xEa xFu xEi xE3 xEc xFd xEv xE2 xD7 xEd xEk xFg Value.oneCell' xFf xEy xFh xFl xFm xDw xD5 and_true true_and beq_self_eq_true xDr if_true if_false xEm Nat.reduceAdd Nat.reduceMul Nat.reduceLeDiff xD8 xEu xEt not_true_eq_false not_false_eq_true ne_eq reduceCtorEq xE1 bne_self_eq_false Nat.reduceEqDiff List.isPrefixOf xEs xFe xE0 xFt xFi decide_true decide_false Nat.reduceBEq Nat.reduceBNe xEl xEr exists_eq_left' exists_eq_left xDi or_false or_true true_or false_or xDk xFa mB Nat.reduceMod Nat.reduceDiv
set_option maxRecDepth 100000
abbrev zDk:List Bool:=(mB 84 0xfffffffffffffffffff4a)
abbrev zAe:List (List Bool):=[]
abbrev zA4:List (List Bool):=zDk::zAe
theorem zIj:zAr Try.prog 206208761856 (cL (Try.f51.body.getD .skip)) zA4=some ((.ops [
  ⟨some 2,none,.alloc [(.slice none 0 0),(.slice none 0 0),(.slice none 0 0)]⟩]),zA4):=by kernel_rfl
def zDs:VCode:=(.ops [
  ⟨some 9,none,.mv (.tmp 0)⟩,
  ⟨some 10,none,.callX 74 [(.tmp 9)]⟩,
  ⟨some 3,none,.alloc [(.int .i64 0),(.int .i64 0),(.slice none 0 0)]⟩,
  ⟨none,none,.store 3 (.tmp 3) (.tmp 10)⟩])
theorem zIi:zAr Try.prog 206208761856 (cL (cR (Try.f51.body.getD .skip))) zA4=some (zDs,zA4):=by kernel_rfl
def zDr:VCode:=(.ops [
  ⟨some 11,none,.callX 75 [(.tmp 3)]⟩,
  ⟨some 4,none,.alloc [(.slice none 0 0),(.slice none 0 0),(.slice none 0 0)]⟩,
  ⟨none,none,.store 3 (.tmp 4) (.tmp 11)⟩])
theorem zIh:zAr Try.prog 206208761856 (cL (cR (cR (Try.f51.body.getD .skip)))) zA4=some (zDr,zA4):=by kernel_rfl
def zDq:VCode:=(.ops [
  ⟨some 12,none,.mv (.tmp 0)⟩,
  ⟨some 13,none,.callX 54 [(.tmp 12),(.const (.int .i64 5))]⟩,
  ⟨some 5,none,.asg (.tmp 13)⟩])
theorem zIg:zAr Try.prog 206208761856 (cL (cL (cR (cR (cR (Try.f51.body.getD .skip)))))) zA4=some (zDq,zA4):=by kernel_rfl
def zB4:VCode:=(.ops [
  ⟨some 14,none,.mv (.tmp 5)⟩,
  ⟨some 15,none,.bin .gtr (.tmp 14) (.const (.int .i64 0))⟩,
  ⟨some 16,none,.mv (.tmp 15)⟩,
  ⟨some 17,some (16,true),.fa 2 (.tmp 4)⟩,
  ⟨some 18,some (16,true),.load 1 false (.tmp 17)⟩,
  ⟨some 19,some (16,true),.len (.tmp 18)⟩,
  ⟨some 20,some (16,true),.bin .gtr (.tmp 19) (.const (.int .i64 1))⟩,
  ⟨some 21,none,.pick (.tmp 16) (.tmp 20) (.const (.bool false))⟩])
theorem zIf:zAr Try.prog 206208761856 (cL (cL (cL (cL (cR (cL (cR (cR (cR (Try.f51.body.getD .skip)))))))))) zAe=some (zB4,zAe):=by kernel_rfl
theorem zIe:zAr Try.prog 206208761856 (cL (cR (cL (cL (cL (cR (cL (cR (cR (cR (Try.f51.body.getD .skip))))))))))) zAe=some (.skip,zAe):=by kernel_rfl
theorem zId:zAr Try.prog 206208761856 (cR (cR (cL (cL (cL (cR (cL (cR (cR (cR (Try.f51.body.getD .skip))))))))))) zAe=some ((.exit 0),zAe):=by kernel_rfl
def zDp:VCode:=(.ops [
  ⟨some 24,none,.mv (.tmp 0)⟩,
  ⟨some 25,none,.fa 2 (.tmp 4)⟩,
  ⟨some 26,none,.load 1 false (.tmp 25)⟩,
  ⟨some 27,none,.len (.tmp 26)⟩,
  ⟨some 28,none,.bin .sub (.tmp 27) (.const (.int .i64 1))⟩,
  ⟨some 29,none,.callX 54 [(.tmp 24),(.tmp 28)]⟩,
  ⟨some 30,none,.bin .add (.const (.int .i64 1)) (.tmp 29)⟩,
  ⟨some 6,none,.asg (.tmp 30)⟩])
theorem zIc:zAr Try.prog 206208761856 (cL (cL (cL (cR (cL (cL (cR (cL (cR (cR (cR (Try.f51.body.getD .skip)))))))))))) zAe=some (zDp,zAe):=by kernel_rfl
def zDo:VCode:=(.ops [
  ⟨some 32,none,.mv (.tmp 6)⟩,
  ⟨some 33,none,.mv (.tmp 0)⟩,
  ⟨some 34,none,.mv (.tmp 6)⟩,
  ⟨some 35,none,.callX 54 [(.tmp 33),(.tmp 34)]⟩,
  ⟨some 36,none,.callX 58 [(.tmp 4),(.tmp 32),(.tmp 35)]⟩,
  ⟨some 31,none,.mv (.tmp 36)⟩,
  ⟨some 37,none,.ext (.tmp 31) 0⟩,
  ⟨some 38,none,.ext (.tmp 31) 1⟩,
  ⟨some 7,none,.alloc [(.slice none 0 0),(.slice none 0 0),(.slice none 0 0)]⟩,
  ⟨none,none,.store 3 (.tmp 7) (.tmp 37)⟩,
  ⟨some 8,none,.asg (.tmp 38)⟩])
theorem zIb:zAr Try.prog 206208761856 (cL (cR (cL (cL (cR (cL (cL (cR (cL (cR (cR (cR (Try.f51.body.getD .skip))))))))))))) zAe=some (zDo,zAe):=by kernel_rfl
theorem zIa:zAr Try.prog 206208761856 (cL (cR (cR (cL (cL (cR (cL (cL (cR (cL (cR (cR (cR (Try.f51.body.getD .skip)))))))))))))) zAe=some ((.ops [
  ⟨some 39,none,.mv (.tmp 8)⟩]),zAe):=by kernel_rfl
theorem zHt:zAr Try.prog 206208761856 (cL (cR (cR (cR (cL (cL (cR (cL (cL (cR (cL (cR (cR (cR (Try.f51.body.getD .skip))))))))))))))) zAe=some ((.ops [
  ⟨some 40,none,.load 3 true (.tmp 7)⟩,
  ⟨none,none,.store 3 (.tmp 4) (.tmp 40)⟩]),zAe):=by kernel_rfl
theorem zHs:zAr Try.prog 206208761856 (cR (cR (cR (cR (cL (cL (cR (cL (cL (cR (cL (cR (cR (cR (Try.f51.body.getD .skip))))))))))))))) zAe=some (.skip,zAe):=by kernel_rfl
def zBk:VCode:=(.ops [
  ⟨some 22,none,.mv (.tmp 5)⟩,
  ⟨some 23,none,.bin .sub (.tmp 22) (.const (.int .i64 1))⟩,
  ⟨some 5,none,.asg (.tmp 23)⟩])
theorem zHr:zAr Try.prog 206208761856 (cR (cR (cL (cL (cR (cL (cR (cR (cR (Try.f51.body.getD .skip)))))))))) zAe=some (zBk,zAe):=by kernel_rfl
theorem zHq:zAr Try.prog 206208761856 (cL (cL (cR (cR (cR (cR (Try.f51.body.getD .skip))))))) zAe=some ((.ops [
  ⟨some 41,none,.mv (.tmp 0)⟩,
  ⟨some 42,none,.callX 54 [(.tmp 41),(.const (.int .i64 20))]⟩]),zAe):=by kernel_rfl
theorem zHp:zAr Try.prog 206208761856 (cL (cL (cR (cL (cR (cR (cR (cR (Try.f51.body.getD .skip))))))))) zAe=some ((.ops [
  ⟨some 44,none,.bin .eql (.tmp 42) (.const (.int .i64 0))⟩,
  ⟨some 43,none,.asg (.tmp 44)⟩]),zAe):=by kernel_rfl
def zDe:VCode:=(.drawT (.h 0 ⟨some 45,none,.fa 0 (.tmp 4)⟩ (.h 2 ⟨some 47,none,.mv (.tmp 0)⟩ (.br 1 ⟨some 46,none,.load 1 false (.tmp 45)⟩ (.br 3 ⟨some 48,none,.bsl 1 [(.const (.int .i64 (-1))),(.const (.int .i64 0)),(.const (.int .i64 119)),(.const (.int .i64 120))]⟩ (.br 4 ⟨some 49,none,.callX 53 [(.tmp 47),(.tmp 48)]⟩ (.br 5 ⟨some 50,none,.bsl 1 [(.tmp 49)]⟩ .done .nil) .nil) .nil) (.br 3 ⟨some 48,none,.bsl 1 [(.const (.int .i64 (-1))),(.const (.int .i64 0)),(.const (.int .i64 119)),(.const (.int .i64 120))]⟩ (.br 1 ⟨some 46,none,.load 1 false (.tmp 45)⟩ (.br 4 ⟨some 49,none,.callX 53 [(.tmp 47),(.tmp 48)]⟩ (.br 5 ⟨some 50,none,.bsl 1 [(.tmp 49)]⟩ .done .nil) .nil) (.br 4 ⟨some 49,none,.callX 53 [(.tmp 47),(.tmp 48)]⟩ (.br 1 ⟨some 46,none,.load 1 false (.tmp 45)⟩ (.br 5 ⟨some 50,none,.bsl 1 [(.tmp 49)]⟩ .done .nil) (.br 5 ⟨some 50,none,.bsl 1 [(.tmp 49)]⟩ (.br 1 ⟨some 46,none,.load 1 false (.tmp 45)⟩ .done .nil) .nil)) .nil)) .nil)))) [⟨some 51,none,.app 1 8 (.tmp 46) (.tmp 50)⟩,⟨some 52,none,.fa 0 (.tmp 4)⟩,⟨none,none,.store 1 (.tmp 52) (.tmp 51)⟩])
theorem zHo:zAr Try.prog 206208761856 (cL (cR (cL (cR (cL (cR (cR (cR (cR (Try.f51.body.getD .skip)))))))))) zAe=some (zDe,zAe):=by kernel_rfl
theorem zHn:zAr Try.prog 206208761856 (cL (cR (cR (cL (cR (cL (cR (cR (cR (cR (Try.f51.body.getD .skip))))))))))) zAe=some ((.ops [
  ⟨some 54,none,.bin .eql (.tmp 42) (.const (.int .i64 1))⟩,
  ⟨some 53,none,.asg (.tmp 54)⟩]),zAe):=by kernel_rfl
def zDd:VCode:=(.draw (mB 62 0x3f80000000000000) (mB 61 0x1000000000000000) [⟨0,mB 62 0x3f80000000000000,[],⟨some 55,none,.fa 2 (.tmp 4)⟩⟩,⟨1,mB 62 0x3f00000000000000,[],⟨some 56,none,.load 1 false (.tmp 55)⟩⟩,⟨2,mB 62 0x3f80000000000000,[],⟨some 57,none,.fa 2 (.tmp 4)⟩⟩,⟨3,mB 62 0x3d80000000000000,[],⟨some 58,none,.load 1 false (.tmp 57)⟩⟩,⟨4,mB 62 0x3980000000000000,[],⟨some 59,none,.ia 5 (.tmp 58) (.const (.int .i64 0))⟩⟩,⟨5,mB 62 0x3180000000000000,[],⟨some 60,none,.load 5 true (.tmp 59)⟩⟩,⟨6,mB 62 0x2180000000000000,(mB 61 0x1000000000000000),⟨some 61,none,.bslN 5 [(.tmp 60)]⟩⟩] [⟨some 62,none,.app 5 40 (.tmp 56) (.tmp 61)⟩,⟨some 63,none,.fa 2 (.tmp 4)⟩,⟨none,none,.store 1 (.tmp 63) (.tmp 62)⟩])
theorem zHm:zAr Try.prog 206208761856 (cL (cR (cR (cR (cL (cR (cL (cR (cR (cR (cR (Try.f51.body.getD .skip)))))))))))) zAe=some (zDd,zAe):=by kernel_rfl
theorem zHl:zAr Try.prog 206208761856 (cL (cR (cR (cR (cR (cL (cR (cL (cR (cR (cR (cR (Try.f51.body.getD .skip))))))))))))) zAe=some ((.ops [
  ⟨some 65,none,.bin .eql (.tmp 42) (.const (.int .i64 2))⟩,
  ⟨some 64,none,.asg (.tmp 65)⟩]),zAe):=by kernel_rfl
def zCm:VCode:=(.ops [
  ⟨some 66,none,.fa 2 (.tmp 4)⟩,
  ⟨some 67,none,.load 1 false (.tmp 66)⟩,
  ⟨some 68,none,.slc 5 (.tmp 67) (some (.const (.int .i64 1))) none none⟩,
  ⟨some 69,none,.fa 2 (.tmp 4)⟩,
  ⟨none,none,.store 1 (.tmp 69) (.tmp 68)⟩])
theorem zHk:zAr Try.prog 206208761856 (cL (cR (cR (cR (cR (cR (cL (cR (cL (cR (cR (cR (cR (Try.f51.body.getD .skip)))))))))))))) zAe=some (zCm,zAe):=by kernel_rfl
theorem zHj:zAr Try.prog 206208761856 (cL (cR (cR (cR (cR (cR (cR (cL (cR (cL (cR (cR (cR (cR (Try.f51.body.getD .skip))))))))))))))) zAe=some ((.ops [
  ⟨some 71,none,.bin .eql (.tmp 42) (.const (.int .i64 3))⟩,
  ⟨some 70,none,.asg (.tmp 71)⟩]),zAe):=by kernel_rfl
def zDc:VCode:=(.drawT (.h 0 ⟨some 72,none,.fa 2 (.tmp 4)⟩ (.h 2 ⟨some 74,none,.mv (.tmp 0)⟩ (.br 1 ⟨some 73,none,.load 1 false (.tmp 72)⟩ (.br 3 ⟨some 75,none,.bsl 1 [(.const (.int .i64 (-1))),(.const (.int .i64 0)),(.const (.int .i64 5)),(.const (.int .i64 6))]⟩ (.br 4 ⟨some 76,none,.callX 53 [(.tmp 74),(.tmp 75)]⟩ .done .nil) .nil) (.br 3 ⟨some 75,none,.bsl 1 [(.const (.int .i64 (-1))),(.const (.int .i64 0)),(.const (.int .i64 5)),(.const (.int .i64 6))]⟩ (.br 1 ⟨some 73,none,.load 1 false (.tmp 72)⟩ (.br 4 ⟨some 76,none,.callX 53 [(.tmp 74),(.tmp 75)]⟩ .done .nil) (.br 4 ⟨some 76,none,.callX 53 [(.tmp 74),(.tmp 75)]⟩ (.br 1 ⟨some 73,none,.load 1 false (.tmp 72)⟩ .done .nil) .nil)) .nil)))) [⟨some 77,none,.ia 5 (.tmp 73) (.const (.int .i64 0))⟩,⟨some 78,none,.fa 0 (.tmp 77)⟩,⟨none,none,.store 1 (.tmp 78) (.tmp 76)⟩])
theorem zHi:zAr Try.prog 206208761856 (cL (cR (cR (cR (cR (cR (cR (cR (cL (cR (cL (cR (cR (cR (cR (Try.f51.body.getD .skip)))))))))))))))) zAe=some (zDc,zAe):=by kernel_rfl
theorem zHh:zAr Try.prog 206208761856 (cL (cR (cR (cR (cR (cR (cR (cR (cR (cL (cR (cL (cR (cR (cR (cR (Try.f51.body.getD .skip))))))))))))))))) zAe=some ((.ops [
  ⟨some 80,none,.bin .eql (.tmp 42) (.const (.int .i64 4))⟩,
  ⟨some 79,none,.asg (.tmp 80)⟩]),zAe):=by kernel_rfl
def zDb:VCode:=(.ops [
  ⟨some 81,none,.bsl 1 []⟩,
  ⟨some 82,none,.fa 1 (.tmp 4)⟩,
  ⟨none,none,.store 1 (.tmp 82) (.tmp 81)⟩])
theorem zHg:zAr Try.prog 206208761856 (cL (cR (cR (cR (cR (cR (cR (cR (cR (cR (cL (cR (cL (cR (cR (cR (cR (Try.f51.body.getD .skip)))))))))))))))))) zAe=some (zDb,zAe):=by kernel_rfl
theorem zHf:zAr Try.prog 206208761856 (cR (cR (cR (cR (cR (cR (cR (cR (cR (cR (cL (cR (cL (cR (cR (cR (cR (Try.f51.body.getD .skip)))))))))))))))))) zAe=some (.skip,zAe):=by kernel_rfl
theorem zHe:zAr Try.prog 206208761856 (cL (cR (cR (cR (cR (cR (Try.f51.body.getD .skip))))))) zAe=some ((.ops [
  ⟨some 83,none,.load 3 true (.tmp 4)⟩,
  ⟨none,none,.store 3 (.tmp 2) (.tmp 83)⟩]),zAe):=by kernel_rfl
theorem zHd:zAr Try.prog 206208761856 (cR (cR (cR (cR (cR (cR (Try.f51.body.getD .skip))))))) zAe=some (.ret,zAe):=by kernel_rfl
def code_spec_l24DrawDesign:VCode:=(.seq (.ops [
  ⟨some 2,none,.alloc [(.slice none 0 0),(.slice none 0 0),(.slice none 0 0)]⟩]) (.seq zDs (.seq zDr (.seq (.seq zDq (.block 0 (.loop zDk (.seq (.seq zB4 (.cond (.tmp 21) .skip (.exit 0))) (.seq (.block 1 (.seq zDp (.seq zDo (.seq (.ops [
  ⟨some 39,none,.mv (.tmp 8)⟩]) (.cond (.tmp 39) (.ops [
  ⟨some 40,none,.load 3 true (.tmp 7)⟩,
  ⟨none,none,.store 3 (.tmp 4) (.tmp 40)⟩]) .skip))))) zBk))))) (.seq (.seq (.ops [
  ⟨some 41,none,.mv (.tmp 0)⟩,
  ⟨some 42,none,.callX 54 [(.tmp 41),(.const (.int .i64 20))]⟩]) (.block 2 (.seq (.ops [
  ⟨some 44,none,.bin .eql (.tmp 42) (.const (.int .i64 0))⟩,
  ⟨some 43,none,.asg (.tmp 44)⟩]) (.cond (.tmp 43) zDe (.seq (.ops [
  ⟨some 54,none,.bin .eql (.tmp 42) (.const (.int .i64 1))⟩,
  ⟨some 53,none,.asg (.tmp 54)⟩]) (.cond (.tmp 53) zDd (.seq (.ops [
  ⟨some 65,none,.bin .eql (.tmp 42) (.const (.int .i64 2))⟩,
  ⟨some 64,none,.asg (.tmp 65)⟩]) (.cond (.tmp 64) zCm (.seq (.ops [
  ⟨some 71,none,.bin .eql (.tmp 42) (.const (.int .i64 3))⟩,
  ⟨some 70,none,.asg (.tmp 71)⟩]) (.cond (.tmp 70) zDc (.seq (.ops [
  ⟨some 80,none,.bin .eql (.tmp 42) (.const (.int .i64 4))⟩,
  ⟨some 79,none,.asg (.tmp 80)⟩]) (.cond (.tmp 79) zDb .skip)))))))))))) (.seq (.ops [
  ⟨some 83,none,.load 3 true (.tmp 4)⟩,
  ⟨none,none,.store 3 (.tmp 2) (.tmp 83)⟩]) .ret))))))
theorem zIr {a0 d:D}{cells cells':List D}(h:∀ b,code_spec_l24DrawDesign.wp (CT Try.prog NoG) (yHl [(.c 2 3 true)] d 0 b cells') [.box (some b) cells,.undef,.undef,.undef,.undef,.undef,.undef,.undef,.undef,.undef,.undef,.undef,.undef,.undef,.undef,.undef,.undef,.undef,.undef,.undef,.undef,.undef,.undef,.undef,.undef,.undef,.undef,.undef,.undef,.undef,.undef,.undef,.undef,.undef,.undef,.undef,.undef,.undef,.undef,.undef,.undef,.undef,.undef,.undef,.undef,.undef,.undef,.undef,.undef,.undef,.undef,.undef,.undef,.undef,.undef,.undef,.undef,.undef,.undef,.undef,.undef,.undef,.undef,.undef,.undef,.undef,.undef,.undef,.undef,.undef,.undef,.undef,.undef,.undef,.undef,.undef,.undef,.undef,.undef,.undef,.undef,.undef,.undef,.undef]):ContractX Try.prog NoG 51 0 [a0] cells d cells' :=
  zDh (pt:=206208761856) noG Try.func51 (fun us W=>by kernel_rfl) (c:=Try.f51.body.getD .skip) (ms:=[zDk]) (ms':=[]) (by kernel_rfl) (zAw zIj (zAw zIi (zAw zIh (zAw (zAw zIg (zC7 (zJd (zAw (zAw zIf (zC0 zIe zId)) (zAw (zC7 (zAw zIc (zAw zIb (zAw zIa (zC0 zHt zHs))))) zHr))))) (zAw (zAw zHq (zC7 (zAw zHp (zC0 zHo (zAw zHn (zC0 zHm (zAw zHl (zC0 zHk (zAw zHj (zC0 zHi (zAw zHh (zC0 zHg zHf)))))))))))) (zAw zHe zHd)))))) (by kernel_rfl) (by simp) h
def dr4:Option Bool→Design→List D
  | some true,_=>[.ref 7 [(0,0)],.ref 7 [(0,1)],.ref 7 [(0,2)]]
  | _,d=>[.sl true 1 (d.Bottom.map rI),.sl true 1 (d.Left.map rI),.sl true 5 (d.Pieces.map (Piece.td.d true))]
def dr7:Option Bool→Design→D
  | some true,d=>.box none [.sl true 1 (d.Bottom.map rI),.sl true 1 (d.Left.map rI),.sl true 5 (d.Pieces.map (Piece.td.d true))]
  | some false,_=>.box none [.sl true 1 [],.sl true 1 [],.sl true 5 []]
  | none,_=>.undef
theorem yUl (d:Design):dr4 none d=[.sl true 1 (d.Bottom.map rI),.sl true 1 (d.Left.map rI),.sl true 5 (d.Pieces.map (Piece.td.d true))]:=rfl
theorem yUi (d:Design):dr7 none d=.undef:=rfl
theorem yUm (d:Design):dr4 (some false) d=[.sl true 1 (d.Bottom.map rI),.sl true 1 (d.Left.map rI),.sl true 5 (d.Pieces.map (Piece.td.d true))]:=rfl
theorem yUj (d:Design):dr7 (some false) d=.box none [.sl true 1 [],.sl true 1 [],.sl true 5 []]:=rfl
theorem yUk (d:Design):dr4 (some true) d=[.ref 7 [(0,0)],.ref 7 [(0,1)],.ref 7 [(0,2)]]:=rfl
theorem yUh (d:Design):dr7 (some true) d=.box none [.sl true 1 (d.Bottom.map rI),.sl true 1 (d.Left.map rI),.sl true 5 (d.Pieces.map (Piece.td.d true))]:=rfl
def xAh (d:Design)(s:Src):List D:=if zCq s 20=2∧d.Pieces.length=1 then [.sl true 1 (d.Bottom.map rI),.sl true 1 (d.Left.map rI),.sl false 5 []] else Design.td.d true (edD d s)
theorem yKf (d:Design)(s:Src):zJp (xAh d s)=Design.td.d false (edD d s):=by
  unfold xAh;split
  · rename_i h;have e:edD d s=⟨d.Bottom,d.Left,[]⟩:=by unfold edD;rw [h.1];simp only [Int.reduceEq,if_false,if_true];have:d.Pieces.drop 1=[]:=xI9 (by omega);rw [this]
    rw [e,Design.td_d];simp only [zJp,D.imm,zFx,zAf,xEb]
  · exact Design.td.imm true _
theorem zXv {d:Design}(h:DsF d):∃ q0 qs,d.Pieces=q0::qs:=by
  cases hd:d.Pieces with
  | nil=>have:=h.n;rw [hd] at this;simp at this
  | cons q0 qs=>exact ⟨q0,qs,rfl⟩
set_option maxHeartbeats 8000000 in
theorem xAv (s:Src) (hB:SrcB 60 s):ContractX Try.prog NoG 51 0 [.undef] s.d (.agg (xAh (yIg s).1 (yIg s).2)) (yB6 s).d:=by
  have f:=yUf (k:=0) hB;have hD:=yCz s (hB.mono (by omega));have hU:=zWq (yIf s) f.p;have hP0:=zG4 (zW9 s) 5 (f.b1.mono (by omega));obtain ⟨fp,fu,_,fn,f2,fm,f3,_,_⟩:=f;obtain ⟨n,hn⟩:∃ n:Nat,zCq (zW9 s) 5=(n:Int):=⟨(zCq (zW9 s) 5).toNat,by omega⟩
  have hR:yIg s=mergeD n (zR3 (yIf s)) (zBq (zW9 s) 5):=(by unfold yIg;rw [hn,xDo]);rw [hn] at hP0;unfold yB6;generalize yIg s=R at *;generalize yIf s=p at *;generalize zW9 s=s1 at *;generalize zBq s1 5=s2 at *;rw [Pattern.td_d] at hD hU;rw [Design.td_d] at hU;simp only [Src.d] at hD hP0 ⊢;refine zIr ?_;intro b;unfold code_spec_l24DrawDesign;simp -implicitDefEqProofs (disch:=omega) only [go_sem,↓reduceIte ,zDs,zDr];refine zCx (i:=0) (r:=0) (hD) rfl rfl (by simp -implicitDefEqProofs (disch:=omega) only [go_sem,↓reduceIte,deep,TD.rows,zAf,zAc,zAg,zAb,zAd,zAa];exact rfl) ?_;simp -implicitDefEqProofs (disch:=omega) only [go_sem,↓reduceIte];refine zAs (hU) (by simp -implicitDefEqProofs (disch:=omega) only [go_sem,↓reduceIte,deep,TD.rows,zAf,zAc,zAg,zAb,zAd,zAa];exact rfl) ?_;simp -implicitDefEqProofs (disch:=omega) only [go_sem,↓reduceIte];simp -implicitDefEqProofs (disch:=omega) only [go_sem,↓reduceIte ,zDq];refine zCx (i:=0) (r:=0) (hP0) rfl rfl (by simp -implicitDefEqProofs (disch:=omega) only [go_sem,↓reduceIte,deep,TD.rows,zAf,zAc,zAg,zAb,zAd,zAa];exact rfl) ?_;simp -implicitDefEqProofs (disch:=omega) only [go_sem,↓reduceIte];refine zB5 (by simp -implicitDefEqProofs (disch:=omega) only [go_sem,↓reduceIte];exact rfl) (fun z:Option Bool×Nat×Design×Src=>[(0,.box (some b) z.2.2.2.d),(4,.box none (dr4 z.1 z.2.2.1)),(5,.v (.int .i64 (z.2.1:Nat))),(7,dr7 z.1 z.2.2.1)]) (fun _=>by simp only [zB0,zBe,xDv,xDz];exact rfl) (fun z:Option Bool×Nat×Design×Src=>z.2.1≤4∧DsF z.2.2.1∧SrcB (4+4*z.2.1) z.2.2.2∧mergeD z.2.1 z.2.2.1 z.2.2.2=R) (fun z:Option Bool×Nat×Design×Src=>z.2.1) ((none,n,zR3 p,s2)) (by rw [Src.d,yUl,yUi];(try simp -implicitDefEqProofs only [zCz,zCy,zB6,zB8,zB9,zB7,and_self,and_true,true_and])<;>repeat' (first | exact zBr rfl | exact zCu | apply And.intro | apply zD3 | apply zBb | apply zBl | exact zB1 | exact zBs | apply zCv | apply zCw)) (?_) ?_
  · exact ⟨(by show n≤4;omega),fu,f2.mono (by show 4+4*n≤_;omega),hR.symm⟩
  rintro ⟨g,k,d,s⟩ ⟨hk4,hd,hs,hm⟩;simp only at hk4 hd hs hm;simp only [Src.d];have hpl:=(zA8 hd.ok).2.2.1;by_cases hgo:0<k∧1<d.Pieces.length
  · obtain ⟨hk0,hl1⟩:=hgo;have hg:decide ((0:Int)<(k:Int))=true:=decide_eq_true (by omega);obtain ⟨k,rfl⟩:∃ n,k=n+1:=⟨k-1,by omega⟩
    have hg1:decide ((1:Int)<(d.Pieces.length:Int))=true:=decide_eq_true (by omega);have hm2:mergeD k (yAb d s) (yDj d s)=R:=(by rw [← hm,mergeD,if_pos hl1]);obtain ⟨hi,hkk,hs1,hs2⟩:=yDi (k:=4+4*k) hd (hs.mono (by omega)) hl1;have hqd:=yDk (k:=4+4*k) hd (hs.mono (by omega)) hl1;have hP1:=zG4 s ((d.Pieces.length:Int)-1) (hs.mono (by omega));have hP2:=zG4 _ (zG2 d s) (hs1.mono (by omega));have hM:=zSe d (zG2 d s) (zIq d s) hd.ok (by omega) (by omega);have w1:IntKind.i64.wrap ((d.Pieces.length:Int)-1)=(d.Pieces.length:Int)-1:=wrI (by omega) (by omega);have w2:IntKind.i64.wrap (1+zCq s ((d.Pieces.length:Int)-1))=zG2 d s:=wrI (by unfold zG2 at hi;omega) (by unfold zG2 at hi;omega);have w3:IntKind.i64.wrap (((k+1:Nat):Int)-1)=(k:Int):=(by rw [wrI (by omega) (by omega)];omega);have eK:zCq (zBq s ((d.Pieces.length:Int)-1)) (zG2 d s)=zIq d s:=rfl;have eS:zBq (zBq s ((d.Pieces.length:Int)-1)) (zG2 d s)=yDj d s:=rfl;rw [eK,eS] at hP2;have hQ:yAb d s=if clash (mgD d (zG2 d s) (zIq d s)) d.Pieces then d else zFw d (mgD d (zG2 d s) (zIq d s)):=rfl
    rw [Design.td_d,Design.td_d] at hM;generalize zG2 d s=si at *;generalize zIq d s=sk at *;generalize yDj d s=s3 at *;generalize yAb d s=dq at *;generalize clash (mgD d si sk) d.Pieces=cl at *;generalize zFw d (mgD d si sk)=mo at *;simp only [Src.d] at hP1 hP2;rcases g with _ | _ | _<;>simp only [yUl,yUi,yUm,yUj,yUk,yUh]
    all_goals
      simp -implicitDefEqProofs (disch:=omega) only [go_sem,↓reduceIte ,xDj,xDo,xD3,xDp,xDm,xDk,xDj,hg,hg1,w1,zB4,zDp]
      first
        | refine zZu 4 7 (i:=0) (r:=0) (hP1) ((yE9 rfl rfl (by decide)).trans (by simp -implicitDefEqProofs (disch:=omega) only [go_sem,↓reduceIte,deep,TD.rows,zAf,zAc,zAg,zAb,zAd,zAa];exact rfl)) rfl rfl (by simp -implicitDefEqProofs (disch:=omega) only [go_sem,↓reduceIte,deep,TD.rows,zAf,zAc,zAg,zAb,zAd,zAa];exact rfl) (by repeat (first | exact zB3 | refine zBi ?_ ?_ | exact le_of_eq rfl | exact zBh (zA1 rfl) | refine zC4 ?_ | exact zC3 rfl (TD.rows ..) | refine zB2 ?_ | refine zE8 ?_ ?_ | exact zA5)) (by repeat (first | exact zB3 | refine zBi ?_ ?_ | exact le_of_eq rfl | exact zBh (zA1 rfl) | refine zC4 ?_ | exact zC3 rfl (TD.rows ..) | refine zB2 ?_ | refine zE8 ?_ ?_ | exact zA5)) (.inr rfl) ?_
        | refine zCx (i:=0) (r:=0) (hP1) rfl rfl (by simp -implicitDefEqProofs (disch:=omega) only [go_sem,↓reduceIte,deep,TD.rows,zAf,zAc,zAg,zAb,zAd,zAa];exact rfl) ?_
      simp -implicitDefEqProofs (disch:=omega) only [go_sem,↓reduceIte ,w2,zDo];refine zCx (i:=0) (r:=0) (hP2) rfl rfl (by simp -implicitDefEqProofs (disch:=omega) only [go_sem,↓reduceIte,deep,TD.rows,zAf,zAc,zAg,zAb,zAd,zAa];exact rfl) ?_;simp -implicitDefEqProofs (disch:=omega) only [go_sem,↓reduceIte];cases cl with
      | true=>simp only [if_true] at hQ hM;subst hQ;refine zAs (hM) (by simp -implicitDefEqProofs (disch:=omega) only [go_sem,↓reduceIte,deep,TD.rows,zAf,zAc,zAg,zAb,zAd,zAa,xDw,zBk,w3];exact rfl) ?_;simp -implicitDefEqProofs (disch:=omega) only [go_sem,↓reduceIte ,xDw,zBk,w3];refine ⟨(some false,k,dq,s3),(by show k<k+1;omega),⟨(by show k≤4;omega),hqd,hs2,hm2⟩,?_⟩;simp only [yUm,yUj];exact zEx
      | false=>simp only [xDr,if_false] at hQ hM;subst hQ;refine zAs (hM) (by simp -implicitDefEqProofs (disch:=omega) only [go_sem,↓reduceIte,deep,TD.rows,zAf,zAc,zAg,zAb,zAd,zAa,xD5,zBk,w3];exact rfl) ?_;simp -implicitDefEqProofs (disch:=omega) only [go_sem,↓reduceIte ,xD5,zBk,w3];refine ⟨(some true,k,dq,s3),(by show k<k+1;omega),⟨(by show k≤4;omega),hqd,hs2,hm2⟩,?_⟩;simp only [yUk,yUh];exact zEx
  · have hRr:R=(d,s):=by
      rw [← hm];cases k with
      | zero=>rfl
      | succ k=>rw [mergeD,if_neg (fun h=>hgo ⟨by omega,h⟩)]
    have hgs:decide ((0:Int)<(k:Int))=false∨(decide ((0:Int)<(k:Int))=true∧decide ((1:Int)<(d.Pieces.length:Int))=false):=by
      by_cases h0:0<k
      · exact .inr ⟨decide_eq_true (by omega),decide_eq_false (by omega)⟩
      · exact .inl (decide_eq_false (by omega))
    subst hRr;simp only [xAh,edD,edN];have hPk:=zG4 s 20 (hs.mono (by omega));have sb1:SrcB 2 (zBq s 20):=SrcB.pick (k:=2) (hs.mono (by omega)) 20;have hA1:=zWs (zBq s 20) [-1,0,119,120] (sb1.mono (by omega)) (by decide) (by decide);have hA2:=zWs (zBq s 20) [-1,0,5,6] (sb1.mono (by omega)) (by decide) (by decide);have hl1:((([-1,0,119,120]:List Int).length:Nat):Int)=4:=rfl;have hl2:((([-1,0,5,6]:List Int).length:Nat):Int)=4:=rfl;rw [hl1] at hA1;rw [hl2] at hA2;clear hl1 hl2;generalize zCq s 20=c at *;generalize zBq s 20=s3 at *;generalize ([-1,0,119,120]:List Int).getD (zCq s3 4).toNat 0=v1 at *;generalize ([-1,0,5,6]:List Int).getD (zCq s3 4).toNat 0=v2 at *;generalize zBq s3 4=s4 at *;simp only [xDu,xEb,rI,Src.d] at hA1 hA2 hPk;obtain ⟨q0,qs,hq⟩:=zXv hd;have hql:(q0::qs).length≤100:=by rw [← hq];exact hpl
    rw [xD9] at hql;have hbl:=(zA8 hd.ok).1.2;have hg0:d.Pieces.getD 0 p0=q0:=by rw [hq];rfl
    rw [hg0];rcases hgs with hg | ⟨hg,hg1⟩<;>rcases g with _ | _ | _<;>simp only [yUl,yUi,yUm,yUj,yUk,yUh]
    all_goals
      first
        | (simp -implicitDefEqProofs (disch:=omega) only [go_sem,↓reduceIte,xDj,xDo,xD3,xDp,xDm,xDk,hg,hg1,zB4])
        | (simp -implicitDefEqProofs (disch:=omega) only [go_sem,↓reduceIte,xDj,xDo,xD3,xDp,xDm,xDk,hg,zB4])
      first
        | refine zZu 4 7 (i:=0) (r:=0) (hPk) ((yE9 rfl rfl (by decide)).trans (by simp -implicitDefEqProofs (disch:=omega) only [go_sem,↓reduceIte,deep,TD.rows,zAf,zAc,zAg,zAb,zAd,zAa];exact rfl)) rfl rfl (by simp -implicitDefEqProofs (disch:=omega) only [go_sem,↓reduceIte,deep,TD.rows,zAf,zAc,zAg,zAb,zAd,zAa];exact rfl) (by repeat (first | exact zB3 | refine zBi ?_ ?_ | exact le_of_eq rfl | exact zBh (zA1 rfl) | refine zC4 ?_ | exact zC3 rfl (TD.rows ..) | refine zB2 ?_ | refine zE8 ?_ ?_ | exact zA5)) (by repeat (first | exact zB3 | refine zBi ?_ ?_ | exact le_of_eq rfl | exact zBh (zA1 rfl) | refine zC4 ?_ | exact zC3 rfl (TD.rows ..) | refine zB2 ?_ | refine zE8 ?_ ?_ | exact zA5)) (.inr rfl) ?_
        | refine zCx (i:=0) (r:=0) (hPk) rfl rfl (by simp -implicitDefEqProofs (disch:=omega) only [go_sem,↓reduceIte,deep,TD.rows,zAf,zAc,zAg,zAb,zAd,zAa];exact rfl) ?_
      simp -implicitDefEqProofs (disch:=omega) only [go_sem,↓reduceIte];by_cases k0:c=0
      · subst k0;simp only [Int.reduceEq,false_and,if_false,if_true,Design.td_d];simp -implicitDefEqProofs (disch:=omega) only [go_sem,↓reduceIte ,xG7,xHe,xGy,xHh,xHk,xHg,xIb,Int.reduceLT,Int.reduceLE,Int.reduceEq,Int.reduceAdd,Int.reduceSub,Int.reduceMul,Int.reduceToNat,Int.reduceNeg];apply zJs
        case h =>
          intro K2 hK2;simp -implicitDefEqProofs (disch:=omega) only [go_sem,↓reduceIte ,zDe,xDj]
          repeat' (first
            | with_reducible exact hK2
            | with_reducible refine And.intro ?_ ?_
            | ((with_reducible refine zSv ?_);refine zX2 48 (i:=0) (r:=0) (hA1) (by simp -implicitDefEqProofs (disch:=omega) only [go_sem,↓reduceIte,deep,TD.rows,zAf,zAc,zAg,zAb,zAd,zAa,frz,D.imm,zJp];exact rfl) rfl rfl (by simp -implicitDefEqProofs (disch:=omega) only [go_sem,↓reduceIte,deep,TD.rows,zAf,zAc,zAg,zAb,zAd,zAa];exact rfl) ?_;simp -implicitDefEqProofs (disch:=omega) only [go_sem,↓reduceIte]))
        simp -implicitDefEqProofs (disch:=omega) only [go_sem,↓reduceIte ,zJh,xDj];exact ⟨by omega,by first | (rw [xEz];done) | (rw [xEz];rfl)⟩
      by_cases k1:c=1
      · subst k1;simp only [Int.reduceEq,false_and,if_false,if_true,Design.td_d];simp -implicitDefEqProofs (disch:=omega) only [go_sem,↓reduceIte ,xG7,xHe,xGy,xHh,xHk,xHg,xIb,Int.reduceLT,Int.reduceLE,Int.reduceEq,Int.reduceAdd,Int.reduceSub,Int.reduceMul,Int.reduceToNat,Int.reduceNeg,xDj,xDo,xD3,xDp,xDm,xDk,hq,xDj,xD9,xDu,xDy,Piece.td_d,zDd];exact ⟨by omega,by omega,by first | (rw [xEz];done) | (rw [xEz];rfl)⟩
      by_cases hc2:c=2
      · subst hc2;cases qs with
        | nil=>have hl1:d.Pieces.length=1:=(by rw [hq];rfl);simp only [Int.reduceEq,true_and,hl1,if_false,if_true];simp -implicitDefEqProofs (disch:=omega) only [go_sem,↓reduceIte ,xG7,xHe,xGy,xHh,xHk,xHg,xIb,Int.reduceLT,Int.reduceLE,Int.reduceEq,Int.reduceAdd,Int.reduceSub,Int.reduceMul,Int.reduceToNat,Int.reduceNeg,xDj,xDo,xD3,xDp,xDm,xDk,hq,xDj,xD9,xEn,xDu,xEb,xEm,Nat.sub_self,Nat.reduceAdd,Nat.reduceSub,zCm];exact ⟨5,rfl⟩
        | cons q1 qs=>have hl1:¬ d.Pieces.length=1:=(by rw [hq];simp);simp only [Int.reduceEq,true_and,hl1,if_false,if_true,Design.td_d];rw [hq];simp -implicitDefEqProofs (disch:=omega) only [go_sem,↓reduceIte ,xG7,xHe,xGy,xHh,xHk,xHg,xIb,Int.reduceLT,Int.reduceLE,Int.reduceEq,Int.reduceAdd,Int.reduceSub,Int.reduceMul,Int.reduceToNat,Int.reduceNeg,xDj,xDo,xD3,xDp,xDm,xDk,hq,xDj,xD9,xDu,xEi,xE3,zCm];exact ⟨by omega,by omega,xGd (by rw [xD9,xDj];omega)⟩
      by_cases k3:c=3
      · subst k3;simp only [Int.reduceEq,false_and,if_false,if_true,Design.td_d];simp -implicitDefEqProofs (disch:=omega) only [go_sem,↓reduceIte ,xG7,xHe,xGy,xHh,xHk,xHg,xIb,Int.reduceLT,Int.reduceLE,Int.reduceEq,Int.reduceAdd,Int.reduceSub,Int.reduceMul,Int.reduceToNat,Int.reduceNeg];apply zJs
        case h =>
          intro K2 hK2;simp -implicitDefEqProofs (disch:=omega) only [go_sem,↓reduceIte ,zDc,xDj]
          repeat' (first
            | with_reducible exact hK2
            | with_reducible refine And.intro ?_ ?_
            | ((with_reducible refine zSv ?_);refine zX2 75 (i:=0) (r:=0) (hA2) (by simp -implicitDefEqProofs (disch:=omega) only [go_sem,↓reduceIte,deep,TD.rows,zAf,zAc,zAg,zAb,zAd,zAa,frz,D.imm,zJp];exact rfl) rfl rfl (by simp -implicitDefEqProofs (disch:=omega) only [go_sem,↓reduceIte,deep,TD.rows,zAf,zAc,zAg,zAb,zAd,zAa];exact rfl) ?_;simp -implicitDefEqProofs (disch:=omega) only [go_sem,↓reduceIte]))
        simp -implicitDefEqProofs (disch:=omega) only [go_sem,↓reduceIte ,xG7,xHe,xGy,xHh,xHk,xHg,xIb,Int.reduceLT,Int.reduceLE,Int.reduceEq,Int.reduceAdd,Int.reduceSub,Int.reduceMul,Int.reduceToNat,Int.reduceNeg,xDj,xDo,xD3,xDp,xDm,xDk,zJh,hq,xDj,xD9,xDu,xDy,xDv,Piece.td_d];exact ⟨by omega,rfl⟩
      by_cases k4:c=4
      · subst k4;simp only [Int.reduceEq,false_and,if_false,if_true,Design.td_d];simp -implicitDefEqProofs (disch:=omega) only [go_sem,↓reduceIte ,xG7,xHe,xGy,xHh,xHk,xHg,xIb,Int.reduceLT,Int.reduceLE,Int.reduceEq,Int.reduceAdd,Int.reduceSub,Int.reduceMul,Int.reduceToNat,Int.reduceNeg,zDb]
      simp only [k0,k1,hc2,k3,k4,false_and,if_false,Design.td_d];simp -implicitDefEqProofs (disch:=omega) only [go_sem,↓reduceIte ,decide_eq_false k0,decide_eq_false k1,decide_eq_false hc2,decide_eq_false k3,decide_eq_false k4]
theorem zQi (s:Src)(hB:SrcB 60 s):ContractX Try.prog NoG 51 0 [.undef] s.d (.agg (Design.td.d false (yV3 s))) (yB6 s).d:=by have:=(xAv s hB).imm;simp only [D.imm,yKf] at this;exact this
end Go.Proofs.Ytaleehohmpohoaa
