/- Laws that the proof stands on. -/
import Derived.Test.YtaleehohmpohoaaZg27
set_option linter.all false
namespace Go.Proofs.Ytaleehohmpohoaa
open Go.RowKit Go.V
attribute [local go_sem] xBh xBb xBc xA8 xA6 xBl xBk xBy xBm xC7 xBt xCi xBn xCl xB6 xCg xBi xBp xBw xCn Value.oneCell' xCp xCu xCv xC0 xC1 xBr xB7 and_true true_and beq_self_eq_true xBa if_true if_false xB2 Nat.reduceAdd Nat.reduceMul Nat.reduceLeDiff xBj xB5 xB0 not_true_eq_false not_false_eq_true ne_eq reduceCtorEq xCf bne_self_eq_false Nat.reduceEqDiff List.isPrefixOf xB9 xCm xCq xC5 xCx decide_true decide_false Nat.reduceBEq Nat.reduceBNe xBv xBz exists_eq_left' exists_eq_left xAv or_false or_true true_or false_or xAx xCk mB Nat.reduceMod Nat.reduceDiv
set_option maxRecDepth 100000
def code_spec_l24Draw:VCode:=(.seq (.ops [
  ⟨some 2,none,.alloc [(.int .i64 0),(.int .i64 0),(.slice none 0 0)]⟩]) (.seq (.ops [
  ⟨some 8,none,.mv (.tmp 0)⟩,
  ⟨some 9,none,.callX 54 [(.tmp 8),(.const (.int .i64 4))]⟩,
  ⟨some 10,none,.bin .add (.const (.int .i64 1)) (.tmp 9)⟩,
  ⟨some 11,none,.mv (.tmp 0)⟩,
  ⟨some 12,none,.callX 54 [(.tmp 11),(.const (.int .i64 4))]⟩,
  ⟨some 13,none,.bin .add (.const (.int .i64 1)) (.tmp 12)⟩,
  ⟨some 14,none,.build [(.int .i64 0),(.int .i64 0),(.slice none 0 0)] [(0,1,(.tmp 10)),(1,1,(.tmp 13))]⟩,
  ⟨some 3,none,.alloc [(.int .i64 0),(.int .i64 0),(.slice none 0 0)]⟩,
  ⟨none,none,.store 3 (.tmp 3) (.tmp 14)⟩]) (.seq (.ops [
  ⟨some 15,none,.mv (.tmp 0)⟩,
  ⟨some 16,none,.callX 54 [(.tmp 15),(.const (.int .i64 5))]⟩,
  ⟨some 4,none,.asg (.tmp 16)⟩]) (.seq (.seq (.ops [
  ⟨some 5,none,.asg (.const (.int .i64 0))⟩]) (.block 0 (.loop (mB 77 0x1fffffffffffffffffc2) (.seq (.seq (.ops [
  ⟨some 17,none,.mv (.tmp 5)⟩,
  ⟨some 18,none,.fa 0 (.tmp 3)⟩,
  ⟨some 19,none,.load 1 false (.tmp 18)⟩,
  ⟨some 20,none,.fa 1 (.tmp 3)⟩,
  ⟨some 21,none,.load 1 false (.tmp 20)⟩,
  ⟨some 22,none,.bin .mul (.tmp 19) (.tmp 21)⟩,
  ⟨some 23,none,.bin .lss (.tmp 17) (.tmp 22)⟩]) (.cond (.tmp 23) .skip (.exit 0))) (.seq (.block 1 (.seq (.ops [
  ⟨some 26,none,.mv (.tmp 5)⟩,
  ⟨some 27,none,.fa 0 (.tmp 3)⟩,
  ⟨some 28,none,.load 1 false (.tmp 27)⟩,
  ⟨some 29,none,.bin .rem (.tmp 26) (.tmp 28)⟩,
  ⟨some 6,none,.asg (.tmp 29)⟩]) (.seq (.ops [
  ⟨some 30,none,.mv (.tmp 5)⟩,
  ⟨some 31,none,.fa 0 (.tmp 3)⟩,
  ⟨some 32,none,.load 1 false (.tmp 31)⟩,
  ⟨some 33,none,.bin .quo (.tmp 30) (.tmp 32)⟩,
  ⟨some 7,none,.asg (.tmp 33)⟩]) (.seq (.ops [
  ⟨some 34,none,.mv (.tmp 4)⟩]) (.block 2 (.seq (.ops [
  ⟨some 46,none,.bin .eql (.tmp 34) (.const (.int .i64 0))⟩,
  ⟨some 45,none,.asg (.tmp 46)⟩]) (.cond (.tmp 45) (.ops [
  ⟨some 47,none,.fa 2 (.tmp 3)⟩,
  ⟨some 48,none,.load 1 false (.tmp 47)⟩,
  ⟨some 49,none,.mv (.tmp 6)⟩,
  ⟨some 50,none,.mv (.tmp 7)⟩,
  ⟨some 51,none,.bin .add (.tmp 49) (.tmp 50)⟩,
  ⟨some 52,none,.bin .rem (.tmp 51) (.const (.int .i64 2))⟩,
  ⟨some 53,none,.bsl 1 [(.tmp 52)]⟩,
  ⟨some 54,none,.app 1 8 (.tmp 48) (.tmp 53)⟩,
  ⟨some 55,none,.fa 2 (.tmp 3)⟩,
  ⟨none,none,.store 1 (.tmp 55) (.tmp 54)⟩]) (.seq (.ops [
  ⟨some 57,none,.bin .eql (.tmp 34) (.const (.int .i64 1))⟩,
  ⟨some 56,none,.asg (.tmp 57)⟩]) (.cond (.tmp 56) (.ops [
  ⟨some 58,none,.fa 2 (.tmp 3)⟩,
  ⟨some 59,none,.load 1 false (.tmp 58)⟩,
  ⟨some 60,none,.mv (.tmp 6)⟩,
  ⟨some 61,none,.mv (.tmp 7)⟩,
  ⟨some 62,none,.bin .and (.tmp 60) (.tmp 61)⟩,
  ⟨some 63,none,.bin .rem (.tmp 62) (.const (.int .i64 2))⟩,
  ⟨some 64,none,.bsl 1 [(.tmp 63)]⟩,
  ⟨some 65,none,.app 1 8 (.tmp 59) (.tmp 64)⟩,
  ⟨some 66,none,.fa 2 (.tmp 3)⟩,
  ⟨none,none,.store 1 (.tmp 66) (.tmp 65)⟩]) (.seq (.ops [
  ⟨some 68,none,.bin .eql (.tmp 34) (.const (.int .i64 2))⟩,
  ⟨some 67,none,.asg (.tmp 68)⟩]) (.cond (.tmp 67) (.ops [
  ⟨some 69,none,.fa 2 (.tmp 3)⟩,
  ⟨some 70,none,.load 1 false (.tmp 69)⟩,
  ⟨some 71,none,.mv (.tmp 6)⟩,
  ⟨some 72,none,.bin .rem (.tmp 71) (.const (.int .i64 2))⟩,
  ⟨some 73,none,.bsl 1 [(.tmp 72)]⟩,
  ⟨some 74,none,.app 1 8 (.tmp 70) (.tmp 73)⟩,
  ⟨some 75,none,.fa 2 (.tmp 3)⟩,
  ⟨none,none,.store 1 (.tmp 75) (.tmp 74)⟩]) (.drawT (.h 0 ⟨some 35,none,.fa 2 (.tmp 3)⟩ (.h 2 ⟨some 37,none,.mv (.tmp 0)⟩ (.h 3 ⟨some 38,none,.mv (.tmp 4)⟩ (.h 4 ⟨some 39,none,.bin .rem (.tmp 38) (.const (.int .i64 2))⟩ (.h 5 ⟨some 40,none,.bin .add (.const (.int .i64 2)) (.tmp 39)⟩ (.br 1 ⟨some 36,none,.load 1 false (.tmp 35)⟩ (.br 6 ⟨some 41,none,.callX 54 [(.tmp 37),(.tmp 40)]⟩ (.br 7 ⟨some 42,none,.bsl 1 [(.tmp 41)]⟩ .done .nil) .nil) (.br 6 ⟨some 41,none,.callX 54 [(.tmp 37),(.tmp 40)]⟩ (.br 1 ⟨some 36,none,.load 1 false (.tmp 35)⟩ (.br 7 ⟨some 42,none,.bsl 1 [(.tmp 41)]⟩ .done .nil) (.br 7 ⟨some 42,none,.bsl 1 [(.tmp 41)]⟩ (.br 1 ⟨some 36,none,.load 1 false (.tmp 35)⟩ .done .nil) .nil)) .nil))))))) [⟨some 43,none,.app 1 8 (.tmp 36) (.tmp 42)⟩,⟨some 44,none,.fa 2 (.tmp 3)⟩,⟨none,none,.store 1 (.tmp 44) (.tmp 43)⟩])))))))))))) (.ops [
  ⟨some 24,none,.mv (.tmp 5)⟩,
  ⟨some 25,none,.bin .add (.tmp 24) (.const (.int .i64 1))⟩,
  ⟨some 5,none,.asg (.tmp 25)⟩])))))) (.seq (.ops [
  ⟨some 76,none,.load 3 true (.tmp 3)⟩,
  ⟨none,none,.store 3 (.tmp 2) (.tmp 76)⟩]) .ret)))))
theorem zQ5 {a0 d:D}{cells cells':List D}(h:∀ b,code_spec_l24Draw.wp (CT Try.prog NoG) (yOu [(.c 2 3 true)] d 0 b cells') [.box (some b) cells,.undef,.undef,.undef,.undef,.undef,.undef,.undef,.undef,.undef,.undef,.undef,.undef,.undef,.undef,.undef,.undef,.undef,.undef,.undef,.undef,.undef,.undef,.undef,.undef,.undef,.undef,.undef,.undef,.undef,.undef,.undef,.undef,.undef,.undef,.undef,.undef,.undef,.undef,.undef,.undef,.undef,.undef,.undef,.undef,.undef,.undef,.undef,.undef,.undef,.undef,.undef,.undef,.undef,.undef,.undef,.undef,.undef,.undef,.undef,.undef,.undef,.undef,.undef,.undef,.undef,.undef,.undef,.undef,.undef,.undef,.undef,.undef,.undef,.undef,.undef,.undef]):ContractX Try.prog NoG 74 0 [a0] cells d cells' :=
  zE7 (pt:=786432) noG Try.func74 (fun us W=>by kernel_rfl) (c:=Try.f74.body.getD .skip) (ms:=[(mB 77 0x1fffffffffffffffffc2)]) (ms':=[]) (by kernel_rfl) (by kernel_rfl) (by kernel_rfl) qAh h
def code_spec_l24Unique:VCode:=(.seq (.ops [
  ⟨some 2,none,.alloc [(.slice none 0 0),(.slice none 0 0),(.slice none 0 0)]⟩]) (.seq (.ops [
  ⟨some 8,none,.build [(.slice none 0 0),(.slice none 0 0),(.slice none 0 0)] []⟩,
  ⟨some 3,none,.alloc [(.slice none 0 0),(.slice none 0 0),(.slice none 0 0)]⟩,
  ⟨none,none,.store 3 (.tmp 3) (.tmp 8)⟩]) (.seq (.seq (.ops [
  ⟨some 4,none,.asg (.const (.int .i64 0))⟩]) (.block 0 (.loop (mB 88 0xffffffffffffffffffffe2) (.seq (.seq (.ops [
  ⟨some 9,none,.mv (.tmp 4)⟩,
  ⟨some 10,none,.mv (.tmp 0)⟩,
  ⟨some 11,none,.nilc (.tmp 10)⟩,
  ⟨some 12,none,.fa 0 (.tmp 11)⟩,
  ⟨some 13,none,.load 1 false (.tmp 12)⟩,
  ⟨some 14,none,.bin .lss (.tmp 9) (.tmp 13)⟩]) (.cond (.tmp 14) .skip (.exit 0))) (.seq (.block 1 (.ops [
  ⟨some 17,none,.fa 0 (.tmp 3)⟩,
  ⟨some 18,none,.load 1 false (.tmp 17)⟩,
  ⟨some 19,none,.mv (.tmp 4)⟩,
  ⟨some 20,none,.bsl 1 [(.tmp 19)]⟩,
  ⟨some 21,none,.app 1 8 (.tmp 18) (.tmp 20)⟩,
  ⟨some 22,none,.fa 0 (.tmp 3)⟩,
  ⟨none,none,.store 1 (.tmp 22) (.tmp 21)⟩])) (.ops [
  ⟨some 15,none,.mv (.tmp 4)⟩,
  ⟨some 16,none,.bin .add (.tmp 15) (.const (.int .i64 1))⟩,
  ⟨some 4,none,.asg (.tmp 16)⟩])))))) (.seq (.seq (.ops [
  ⟨some 5,none,.asg (.const (.int .i64 0))⟩]) (.block 2 (.loop (mB 88 0xffffffffffffffffffffd2) (.seq (.seq (.ops [
  ⟨some 23,none,.mv (.tmp 5)⟩,
  ⟨some 24,none,.mv (.tmp 0)⟩,
  ⟨some 25,none,.nilc (.tmp 24)⟩,
  ⟨some 26,none,.fa 1 (.tmp 25)⟩,
  ⟨some 27,none,.load 1 false (.tmp 26)⟩,
  ⟨some 28,none,.bin .lss (.tmp 23) (.tmp 27)⟩]) (.cond (.tmp 28) .skip (.exit 2))) (.seq (.block 3 (.draw (mB 41 2196875771904) (mB 40 549755813888) [⟨0,mB 41 2196875771904,[],⟨some 31,none,.fa 1 (.tmp 3)⟩⟩,⟨1,mB 41 2194728288256,[],⟨some 32,none,.load 1 false (.tmp 31)⟩⟩,⟨2,mB 41 2196875771904,[],⟨some 33,none,.mv (.tmp 5)⟩⟩,⟨3,mB 41 2196875771904,[],⟨some 34,none,.mv (.tmp 0)⟩⟩,⟨4,mB 41 2179695902720,[],⟨some 35,none,.nilc (.tmp 34)⟩⟩,⟨5,mB 41 2145336164352,[],⟨some 36,none,.fa 0 (.tmp 35)⟩⟩,⟨6,mB 41 2076616687616,[],⟨some 37,none,.load 1 false (.tmp 36)⟩⟩,⟨7,mB 41 1939177734144,[],⟨some 38,none,.bin .add (.tmp 37) (.const (.int .i64 1))⟩⟩,⟨8,mB 41 1655709892608,[],⟨some 39,none,.bin .mul (.tmp 33) (.tmp 38)⟩⟩,⟨9,mB 41 1105954078720,(mB 40 549755813888),⟨some 40,none,.bslN 1 [(.tmp 39)]⟩⟩] [⟨some 41,none,.app 1 8 (.tmp 32) (.tmp 40)⟩,⟨some 42,none,.fa 1 (.tmp 3)⟩,⟨none,none,.store 1 (.tmp 42) (.tmp 41)⟩])) (.ops [
  ⟨some 29,none,.mv (.tmp 5)⟩,
  ⟨some 30,none,.bin .add (.tmp 29) (.const (.int .i64 1))⟩,
  ⟨some 5,none,.asg (.tmp 30)⟩])))))) (.seq (.seq (.ops [
  ⟨some 6,none,.asg (.const (.int .i64 0))⟩]) (.block 4 (.loop (mB 88 0xffffffffffffffffffffb2) (.seq (.seq (.draw (mB 53 0x1ff80000000000) [] [⟨0,mB 53 0x1ff80000000000,[],⟨some 43,none,.mv (.tmp 6)⟩⟩,⟨1,mB 53 0x1ff80000000000,[],⟨some 44,none,.mv (.tmp 0)⟩⟩,⟨2,mB 53 0x1fe80000000000,[],⟨some 45,none,.nilc (.tmp 44)⟩⟩,⟨3,mB 53 0x1fc80000000000,[],⟨some 46,none,.fa 0 (.tmp 45)⟩⟩,⟨4,mB 53 0x1f880000000000,[],⟨some 47,none,.load 1 false (.tmp 46)⟩⟩,⟨5,mB 53 0x1ff80000000000,[],⟨some 48,none,.mv (.tmp 0)⟩⟩,⟨6,mB 53 0x1ef80000000000,[],⟨some 49,none,.nilc (.tmp 48)⟩⟩,⟨7,mB 53 0x1cf80000000000,[],⟨some 50,none,.fa 1 (.tmp 49)⟩⟩,⟨8,mB 53 0x18f80000000000,[],⟨some 51,none,.load 1 false (.tmp 50)⟩⟩,⟨9,mB 53 0x10080000000000,[],⟨some 52,none,.bin .mul (.tmp 47) (.tmp 51)⟩⟩] [⟨some 53,none,.bin .lss (.tmp 43) (.tmp 52)⟩]) (.cond (.tmp 53) .skip (.exit 4))) (.seq (.block 5 (.seq (.ops [
  ⟨some 56,none,.mv (.tmp 6)⟩,
  ⟨some 57,none,.mv (.tmp 6)⟩,
  ⟨some 58,none,.mv (.tmp 0)⟩,
  ⟨some 59,none,.nilc (.tmp 58)⟩,
  ⟨some 60,none,.fa 0 (.tmp 59)⟩,
  ⟨some 61,none,.load 1 false (.tmp 60)⟩,
  ⟨some 62,none,.bin .quo (.tmp 57) (.tmp 61)⟩,
  ⟨some 63,none,.bin .add (.tmp 56) (.tmp 62)⟩,
  ⟨some 7,none,.asg (.tmp 63)⟩]) (.draw (mB 85 0x1fffff0000000000000000) (mB 84 0xf41000000000000000000) [⟨0,mB 85 0x1fffff0000000000000000,[],⟨some 64,none,.fa 2 (.tmp 3)⟩⟩,⟨1,mB 85 0x1ffffe0000000000000000,[],⟨some 65,none,.load 1 false (.tmp 64)⟩⟩,⟨2,mB 85 0x1fffff0000000000000000,[],⟨some 66,none,.mv (.tmp 0)⟩⟩,⟨3,mB 85 0x1ffffb0000000000000000,[],⟨some 67,none,.nilc (.tmp 66)⟩⟩,⟨4,mB 85 0x1ffff30000000000000000,[],⟨some 68,none,.fa 2 (.tmp 67)⟩⟩,⟨5,mB 85 0x1fffe30000000000000000,[],⟨some 69,none,.load 1 false (.tmp 68)⟩⟩,⟨6,mB 85 0x1fffff0000000000000000,[],⟨some 70,none,.mv (.tmp 6)⟩⟩,⟨7,mB 85 0x1fff830000000000000000,[],⟨some 71,none,.ia 1 (.tmp 69) (.tmp 70)⟩⟩,⟨8,mB 85 0x1fff030000000000000000,[],⟨some 72,none,.load 1 false (.tmp 71)⟩⟩,⟨9,mB 85 0x1fffff0000000000000000,[],⟨some 73,none,.mv (.tmp 6)⟩⟩,⟨10,mB 85 0x1fffff0000000000000000,[],⟨some 74,none,.mv (.tmp 0)⟩⟩,⟨11,mB 85 0x1ffbff0000000000000000,[],⟨some 75,none,.nilc (.tmp 74)⟩⟩,⟨12,mB 85 0x1ff3ff0000000000000000,[],⟨some 76,none,.fa 0 (.tmp 75)⟩⟩,⟨13,mB 85 0x1fe3ff0000000000000000,[],⟨some 77,none,.load 1 false (.tmp 76)⟩⟩,⟨14,mB 85 0x1fc1ff0000000000000000,[],⟨some 78,none,.bin .add (.tmp 73) (.tmp 77)⟩⟩,⟨15,mB 85 0x1fffff0000000000000000,[],⟨some 79,none,.mv (.tmp 7)⟩⟩,⟨16,mB 85 0x1f7fff0000000000000000,[],⟨some 80,none,.bin .add (.tmp 79) (.const (.int .i64 1))⟩⟩,⟨17,mB 85 0x1fffff0000000000000000,[],⟨some 81,none,.mv (.tmp 6)⟩⟩,⟨18,mB 85 0x1fffff0000000000000000,[],⟨some 82,none,.mv (.tmp 7)⟩⟩,⟨19,mB 85 0x1800030000000000000000,(mB 83 0x741000000000000000000),⟨some 83,none,.build [(.int .i64 0),(.int .i64 0),(.int .i64 0),(.int .i64 0),(.int .i64 0)] [(0,1,(.tmp 72)),(1,1,(.tmp 78)),(2,1,(.tmp 80)),(3,1,(.tmp 81)),(4,1,(.tmp 82))]⟩⟩,⟨20,mB 85 0x1741030000000000000000,(mB 84 0x800000000000000000000),⟨some 84,none,.bslN 5 [(.tmp 83)]⟩⟩] [⟨some 85,none,.app 5 40 (.tmp 65) (.tmp 84)⟩,⟨some 86,none,.fa 2 (.tmp 3)⟩,⟨none,none,.store 1 (.tmp 86) (.tmp 85)⟩]))) (.ops [
  ⟨some 54,none,.mv (.tmp 6)⟩,
  ⟨some 55,none,.bin .add (.tmp 54) (.const (.int .i64 1))⟩,
  ⟨some 6,none,.asg (.tmp 55)⟩])))))) (.seq (.ops [
  ⟨some 87,none,.load 3 true (.tmp 3)⟩,
  ⟨none,none,.store 3 (.tmp 2) (.tmp 87)⟩]) .ret))))))
theorem zOu {a0 d:D}(h:code_spec_l24Unique.wp (CT Try.prog NoG) (zHy [(.c 2 3 true)] d) [a0,.undef,.undef,.undef,.undef,.undef,.undef,.undef,.undef,.undef,.undef,.undef,.undef,.undef,.undef,.undef,.undef,.undef,.undef,.undef,.undef,.undef,.undef,.undef,.undef,.undef,.undef,.undef,.undef,.undef,.undef,.undef,.undef,.undef,.undef,.undef,.undef,.undef,.undef,.undef,.undef,.undef,.undef,.undef,.undef,.undef,.undef,.undef,.undef,.undef,.undef,.undef,.undef,.undef,.undef,.undef,.undef,.undef,.undef,.undef,.undef,.undef,.undef,.undef,.undef,.undef,.undef,.undef,.undef,.undef,.undef,.undef,.undef,.undef,.undef,.undef,.undef,.undef,.undef,.undef,.undef,.undef,.undef,.undef,.undef,.undef,.undef,.undef]):Contract Try.prog NoG 75 [a0] d :=
  zAo (pt:=0) noG Try.func75 (fun us W=>by kernel_rfl) (c:=Try.f75.body.getD .skip) (ms:=[(mB 88 0xffffffffffffffffffffe2),(mB 88 0xffffffffffffffffffffd2),(mB 88 0xffffffffffffffffffffb2)]) (ms':=[]) (by kernel_rfl) (by kernel_rfl) (by kernel_rfl) h
theorem zK9 (xs:List Int)(x:Int):(xs++[x]).map rI=xs.map rI++[[.v (.int .i64 x)]]:=by rw [xBo];rfl
theorem yU2:¬ (2:Int)=0:=by decide
set_option maxHeartbeats 8000000 in
theorem yEx (s:Src) (hB:SrcB 38 s):ContractX Try.prog NoG 74 0 [.undef] s.d (.agg (Pattern.td.d true (yJn s))) (zY6 s).d:=by
  have f:=yVz (k:=0) hB;have wh:=yEt f.w f.h;have hP1:=zN6 s 4 (hB.mono qAc);have hP2:=zN6 _ 4 (f.b0.mono qAc);have hP3:=zN6 _ 5 (f.b1.mono qAc);have e1:IntKind.i64.wrap (1+zCu s 4)=zYo s:=wrI (by have:=f.w;unfold zYo at this;omega) (by have:=f.w;unfold zYo at this;omega);have e2:IntKind.i64.wrap (1+zCu (zCc s 4) 4)=yDh s:=wrI (by have:=f.h;unfold yDh at this;omega) (by have:=f.h;unfold yDh at this;omega);have hpd:yJn s=⟨zYo s,yDh s,(zE8 (zYo s) (yOf s) (yUs s) (zYo s*yDh s).toNat).1⟩:=rfl;have hpn:zY6 s=(zE8 (zYo s) (yOf s) (yUs s) (zYo s*yDh s).toNat).2:=rfl;rw [hpd,hpn,Pattern.td_d];obtain ⟨fw,fh,fk,_,_,fb⟩:=f;have hk3:zCu (zCc (zCc s 4) 4) 5=yOf s:=rfl;have hs3:zCc (zCc (zCc s 4) 4) 5=yUs s:=rfl;rw [hk3,hs3] at hP3;generalize zYo s=W at *;generalize yDh s=H at *;generalize yOf s=K at *;generalize yUs s=S at *;obtain ⟨N,hN⟩:∃ N:Nat,W*H=(N:Int):=⟨(W*H).toNat,by omega⟩
  rw [hN,xAz];have wm:IntKind.i64.wrap (W*H)=(N:Int):=by rw [hN];exact wrI qAc qAc
  refine zQ5 ?_;intro b;unfold code_spec_l24Draw;simp only [Src.d] at *;simp -implicitDefEqProofs (disch:=omega) only [go_sem,↓reduceIte];refine zD1 (i:=0) (r:=0) (hP1) rfl rfl (by simp -implicitDefEqProofs (disch:=omega) only [go_sem,↓reduceIte,deep,TD.rows,zAw,zAt,zA0,zAs,zAv,zAq,e1];exact rfl) ?_;simp -implicitDefEqProofs (disch:=omega) only [go_sem,↓reduceIte ,e1];refine zD1 (i:=0) (r:=0) (hP2) rfl rfl (by simp -implicitDefEqProofs (disch:=omega) only [go_sem,↓reduceIte,deep,TD.rows,zAw,zAt,zA0,zAs,zAv,zAq,e2];exact rfl) ?_;simp -implicitDefEqProofs (disch:=omega) only [go_sem,↓reduceIte ,e2];refine zD1 (i:=0) (r:=0) (hP3) rfl rfl qAb ?_;simp -implicitDefEqProofs (disch:=omega) only [go_sem,↓reduceIte];refine zBv qAd (fun n:Nat=>[(0,.box (some b) (zE8 W K S n).2.d),(3,.box none [.v (.int .i64 W),.v (.int .i64 H),.sl true 1 ((zE8 W K S n).1.map rI)]),(5,.v (.int .i64 (n:Nat)))]) (fun _=>by simp only [zBq,zBb,xA8,xBc];exact rfl) (fun n:Nat=>n≤N) (fun n:Nat=>N-n) (0) (by rw [show (zE8 W K S 0)=([],S) from rfl,xBl,Src.d];exact qAa) (?_) ?_
  · exact xCs _
  intro n hn;simp only [Src.d];simp -implicitDefEqProofs (disch:=omega) only [go_sem,↓reduceIte ,wm];refine zAp ?_ ?_<;>intro hlt
  · have hlt:n<N:=qAg;have hW0:¬ W=0:=qAc;have hcl:=zQi W K S n;have hnx:zE8 W K S (n+1)=((zE8 W K S n).1++[cellV W K n (zE8 W K S n).2],zRe K (zE8 W K S n).2):=rfl;have hSB:SrcB 2 (zE8 W K S n).2:=zRz W K (k:=2) n (fb.mono qAc);have hx:=zS4 (x:=(n:Int)) (n:=W) qAc fw.1;have hy:=yBy (x:=(n:Int)) (n:=W) qAc fw.1;have wy:IntKind.i64.wrap ((n:Int).tdiv W)=(n:Int).tdiv W:=wrI qAc qAc;generalize (zE8 W K S n).1=C at *;generalize (zE8 W K S n).2=S2 at *;have kk:=zS4 (x:=K) (n:=2) fk.1 qAc;have wk:IntKind.i64.wrap (2+K.tmod 2)=2+K.tmod 2:=wrI qAc qAc;have wxy:IntKind.i64.wrap ((n:Int).tmod W+(n:Int).tdiv W)=(n:Int).tmod W+(n:Int).tdiv W:=wrI qAc qAc;by_cases k0:K=0
    · have d0:decide (K=0)=true:=decide_eq_true k0;have ev:cellV W K n S2=((n:Int).tmod W+(n:Int).tdiv W).tmod 2:=(by unfold cellV;rw [if_pos k0]);have en:zRe K S2=S2:=(by unfold zRe;rw [if_pos k0]);simp -implicitDefEqProofs (disch:=omega) only [go_sem,↓reduceIte ,hW0,d0,wy,wxy,xAw,hcl,wrN];refine ⟨by decide,by omega,n+1,by omega,hlt,?_⟩;rw [hnx,ev,en]
      try simp only [zK9,Src.d]
      exact zD2
    · have d0 : decide (K=0)=false:=decide_eq_false k0;by_cases k1:K=1
      · have d1:decide (K=1)=true:=decide_eq_true k1;have ev:cellV W K n S2=(yX5 ((n:Int).tmod W) ((n:Int).tdiv W)).tmod 2:=(by unfold cellV;rw [if_neg k0,if_pos k1]);have en:zRe K S2=S2:=(by unfold zRe;rw [if_neg k0,if_pos k1]);unfold yX5 at ev;simp -implicitDefEqProofs (disch:=omega) only [go_sem,↓reduceIte ,hW0,d0,d1,wy,xAw,hcl,wrN];refine ⟨by decide,by omega,n+1,by omega,hlt,?_⟩;rw [hnx,ev,en]
        try simp only [zK9,Src.d]
        exact zD2
      · have d1:decide (K=1)=false:=decide_eq_false k1;by_cases k2:K=2
        · have d2:decide (K=2)=true:=decide_eq_true k2;have ev:cellV W K n S2=((n:Int).tmod W).tmod 2:=(by unfold cellV;rw [if_neg k0,if_neg k1,if_pos k2]);have en:zRe K S2=S2:=(by unfold zRe;rw [if_neg k0,if_neg k1,if_pos k2]);simp -implicitDefEqProofs (disch:=omega) only [go_sem,↓reduceIte ,hW0,d0,d1,d2,wy,xAw,hcl,wrN];refine ⟨by decide,by omega,n+1,by omega,hlt,?_⟩;rw [hnx,ev,en]
          try simp only [zK9,Src.d]
          exact zD2
        · have d2:decide (K=2)=false:=decide_eq_false k2;have ev:cellV W K n S2=zCu S2 (2+K.tmod 2):=(by unfold cellV;rw [if_neg k0,if_neg k1,if_neg k2]);have en:zRe K S2=zCc S2 (2+K.tmod 2):=(by unfold zRe;rw [if_neg k0,if_neg k1,if_neg k2]);have hP:=zN6 S2 (2+K.tmod 2) hSB;rw [← ev,← en] at hP;simp only [Src.d] at hP;simp -implicitDefEqProofs (disch:=omega) only [go_sem,↓reduceIte ,hW0,d0,d1,d2,wy];apply zDg
          case h =>
            intro K2 hK2;simp -implicitDefEqProofs (disch:=omega) only [go_sem,↓reduceIte ,wk,hW0]
            repeat' (first
              | with_reducible exact hK2
              | with_reducible refine And.intro ?_ ?_
              | with_reducible exact yU2
              | ((with_reducible refine yIc ?_);refine zD1 (i:=0) (r:=0) (hP) rfl rfl qAb ?_;simp -implicitDefEqProofs (disch:=omega) only [go_sem,↓reduceIte]))
          simp -implicitDefEqProofs (disch:=omega) only [go_sem,↓reduceIte ,zCh,xAw,hcl,wrN];refine ⟨by omega,n+1,by omega,hlt,?_⟩;rw [hnx]
          try simp only [zK9,Src.d]
          exact zD2
  · obtain rfl:n=N:=(by have:¬ n<N:=qAg;omega);simp -implicitDefEqProofs (disch:=omega) only [go_sem,↓reduceIte]
set_option maxHeartbeats 8000000 in
theorem zYr (p:Pattern) (hp:OkPat p):Contract Try.prog NoG 75 [.iptr (Pattern.td.d false p) 0] (.agg (Design.td.d true (zTx p))):=by
  obtain ⟨hw,hh,hn,hc⟩:=hp;have wh:=yEt hw hh;obtain ⟨W,hW⟩:∃ n:Nat,p.Width=(n:Int):=⟨p.Width.toNat,by omega⟩
  obtain ⟨H,hH⟩:∃ n:Nat,p.Height=(n:Int):=⟨p.Height.toNat,by omega⟩
  obtain ⟨N,hN⟩:∃ n:Nat,p.Width*p.Height=(n:Int):=⟨(p.Width*p.Height).toNat,by omega⟩
  rw [Pattern.td_d,Design.td_d];refine zOu ?_;unfold code_spec_l24Unique zTx;simp only;rw [hN,hW,hH];simp only [xAz];simp -implicitDefEqProofs (disch:=omega) only [go_sem,↓reduceIte];refine zBv qAd (fun x:Nat=>[(3,.box none [.sl true 1 ((zVk x).map rI),.nils,.nils]),(4,.v (.int .i64 (x:Nat)))]) (fun _=>by simp only [zBq,zBb,xA8,xBc];exact rfl) (fun x:Nat=>x≤W) (fun x:Nat=>W-x) (0) (zD2) (?_) ?_
  · exact xCs _
  intro x hx;have hxl:=zWw x;have hxn:=yCs x;simp -implicitDefEqProofs (disch:=omega) only [go_sem,↓reduceIte];refine zAp ?_ ?_<;>intro hlt
  · have hlt:x<W:=qAg;simp -implicitDefEqProofs (disch:=omega) only [go_sem,↓reduceIte ,xAw,hxl,wrN];refine ⟨by omega,x+1,by omega,hlt,?_⟩;rw [hxn]
    try simp only [zK9]
    exact zD2
  · obtain rfl:x=W:=(by have:¬ x<W:=qAg;omega);simp -implicitDefEqProofs (disch:=omega) only [go_sem,↓reduceIte];refine zBv qAd (fun y:Nat=>[(3,.box none [.sl true 1 ((zVk x).map rI),.sl true 1 ((zWv (x:Nat) y).map rI),.nils]),(5,.v (.int .i64 (y:Nat)))]) (fun _=>by simp only [zBq,zBb,xA8,xBc];exact rfl) (fun y:Nat=>y≤H) (fun y:Nat=>H-y) (0) (zD2) (?_) ?_
    · exact xCs _
    intro y hy;have hyl:=zWu (x:Nat) y;have hyn:=yCr (x:Nat) y;simp -implicitDefEqProofs (disch:=omega) only [go_sem,↓reduceIte];refine zAp ?_ ?_<;>intro hlt
    · have hlt:y<H:=qAg;have wx:IntKind.i64.wrap ((x:Int)+1)=(x:Int)+1:=wrI qAc qAc;have hm:=yOj (a:=(y:Int)) (b:=(x:Int)+1) qAc qAc;have wm:IntKind.i64.wrap ((y:Int)*((x:Int)+1))=(y:Int)*((x:Int)+1):=wrI qAc qAc;simp -implicitDefEqProofs (disch:=omega) only [go_sem,↓reduceIte ,xAw,hyl,wx,wm,wrN];refine ⟨by omega,y+1,by omega,hlt,?_⟩;rw [hyn]
      try simp only [zK9]
      exact zD2
    · obtain rfl:y=H:=(by have:¬ y<H:=qAg;omega);have wN:IntKind.i64.wrap ((x:Int)*(y:Int))=(N:Int):=(by rw [← hW,← hH,hN];exact wrI qAc qAc);simp -implicitDefEqProofs (disch:=omega) only [go_sem,↓reduceIte];refine zBv qAd (fun n:Nat=>[(3,.box none [.sl true 1 ((zVk x).map rI),.sl true 1 ((zWv (x:Nat) y).map rI),.sl true 5 ((zVj p n).map (Piece.td.d true))]),(6,.v (.int .i64 (n:Nat)))]) (fun _=>by simp only [zBq,zBb,xA8,xBc];exact rfl) (fun n:Nat=>n≤N) (fun n:Nat=>N-n) (0) (zD2) (?_) ?_
      · exact xCs _
      intro n hnn;have hnl:=zSa p n;have hnx:=yCq p n;simp -implicitDefEqProofs (disch:=omega) only [go_sem,↓reduceIte ,wN];refine zAp ?_ ?_<;>intro hlt
      · have hlt:n<N:=qAg;have hW0:¬ (x:Int)=0:=qAc;have hd:=yBy (x:=(n:Int)) (n:=(x:Int)) qAc qAc;have hltC:n<p.Cells.length:=qAc;have en:=xA1 hltC;have w1:IntKind.i64.wrap ((n:Int).tdiv (x:Int))=(n:Int).tdiv (x:Int):=wrI qAc qAc;have w2:IntKind.i64.wrap ((n:Int)+(n:Int).tdiv (x:Int))=(n:Int)+(n:Int).tdiv (x:Int):=wrI qAc qAc;have w3:IntKind.i64.wrap ((n:Int)+(x:Int))=(n:Int)+(x:Int):=wrI qAc qAc;have w4:IntKind.i64.wrap ((n:Int)+(n:Int).tdiv (x:Int)+1)=(n:Int)+(n:Int).tdiv (x:Int)+1:=wrI qAc qAc;have hup:yCp p n=⟨p.Cells[n],(n:Int)+(x:Int),(n:Int)+(n:Int).tdiv (x:Int)+1,n,(n:Int)+(n:Int).tdiv (x:Int)⟩:=(by unfold yCp;rw [hW,xA3,en];rfl);simp (maxSteps:=4000000) -implicitDefEqProofs (disch:=omega) only [go_sem,↓reduceIte ,xAw,xAz,xA7,xA0,xAy,xAx,hltC,en,rI,hW0,w1,w2,w3,w4,xAw,hnl,wrN];refine ⟨by omega,n+1,by omega,hlt,?_⟩;rw [hnx,hup]
        try simp only [xBo,xA6,xBl,Piece.td_d]
        exact zD2
      · obtain rfl:n=N:=(by have:¬ n<N:=qAg;omega);simp -implicitDefEqProofs (disch:=omega) only [go_sem,↓reduceIte]
end Go.Proofs.Ytaleehohmpohoaa
