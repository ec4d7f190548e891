/- Laws that the proof stands on. -/
import Derived.Test.YtaleehohmpohoaaZg16
import Derived.Test.YtaleehohmpohoaaZg18
import Derived.Test.YtaleehohmpohoaaZg17
import Derived.Test.YtaleehohmpohoaaZg12
import Derived.Test.YtaleehohmpohoaaZVDsnP
import Derived.Test.YtaleehohmpohoaaZg11
import Derived.Test.YtaleehohmpohoaaZVSeg
set_option linter.all false
namespace Go.Proofs.Ytaleehohmpohoaa
open Go.RowKit Go.V
attribute [local go_sem] List.getElem?_cons_succ List.getElem?_cons_zero List.set_cons_succ List.set_cons_zero List.map_cons List.map_nil List.length_cons List.length_nil List.all_cons List.all_nil List.drop_succ_cons List.drop_zero List.take_succ_cons List.take_zero List.flatMap_cons List.flatMap_nil List.cons_append List.nil_append List.append_nil List.headD_cons Value.oneCell' Bool.and_true Bool.true_and Bool.or_false Bool.false_or Bool.and_self Bool.not_true Bool.not_false and_true true_and beq_self_eq_true Bool.false_eq_true if_true if_false Nat.zero_add Nat.reduceAdd Nat.reduceMul Nat.reduceLeDiff Nat.le_refl Option.isSome_some Option.isSome_none not_true_eq_false not_false_eq_true ne_eq reduceCtorEq List.reverse_nil bne_self_eq_false Nat.reduceEqDiff List.isPrefixOf Bool.not_eq_true Bool.and_false Bool.false_and Bool.true_or Bool.or_true decide_true decide_false Nat.reduceBEq Nat.reduceBNe List.replicate_succ List.replicate_zero exists_eq_left' exists_eq_left Option.some.injEq or_false or_true true_or false_or Option.map_some Option.map_none mB Nat.reduceMod Nat.reduceDiv
set_option maxRecDepth 100000
def ClosS (P:Program)(K:SK)(F:FuncId)(xs:List Int)(Pr:SI→Prop)(go:Int→SI→Bool×SI):Prop:=∀ (b:Nat) (k:Int) (s:SI),0≤k→k≤119→Pr s→ContractX P NoG F 1 (.v (.int .i64 k)::.undef::xs.map ipI) [.box (some b) (srD true K s)] (.v (.bool (go k s).1)) [.box (some b) (srD true K (go k s).2)]
def code_impl_designSearch_cell_1:VCode:=(.seq (.ops [
  ⟨some 4,none,.asg (.const (.bool false))⟩]) (.seq (.draw (mB 18 262112) [] [⟨0,mB 18 262112,[],⟨some 5,none,.load 1 false (.tmp 1)⟩⟩,⟨1,mB 18 262080,[],⟨some 6,none,.nilc (.tmp 5)⟩⟩,⟨2,mB 18 262016,[],⟨some 7,none,.fa 9 (.tmp 6)⟩⟩,⟨3,mB 18 261888,[],⟨some 8,none,.fa 1 (.tmp 7)⟩⟩,⟨4,mB 18 261632,[],⟨some 9,none,.load 1 false (.tmp 8)⟩⟩,⟨5,mB 18 262112,[],⟨some 10,none,.load 1 false (.tmp 2)⟩⟩,⟨6,mB 18 262112,[],⟨some 11,none,.load 1 false (.tmp 1)⟩⟩,⟨7,mB 18 260064,[],⟨some 12,none,.nilc (.tmp 11)⟩⟩,⟨8,mB 18 255968,[],⟨some 13,none,.fa 0 (.tmp 12)⟩⟩,⟨9,mB 18 247776,[],⟨some 14,none,.fa 0 (.tmp 13)⟩⟩,⟨10,mB 18 231392,[],⟨some 15,none,.load 1 false (.tmp 14)⟩⟩,⟨11,mB 18 197600,[],⟨some 16,none,.bin .quo (.tmp 10) (.tmp 15)⟩⟩,⟨12,mB 18 262112,[],⟨some 17,none,.mv (.tmp 0)⟩⟩] [⟨some 18,none,.ia 1 (.tmp 9) (.tmp 16)⟩,⟨none,none,.store 1 (.tmp 18) (.tmp 17)⟩]) (.seq (.ops [
  ⟨some 19,none,.load 1 false (.tmp 1)⟩,
  ⟨some 20,none,.load 1 false (.tmp 2)⟩,
  ⟨some 21,none,.callX 99 [(.tmp 19),(.tmp 20)]⟩,
  ⟨some 4,none,.asg (.tmp 21)⟩]) .ret)))
theorem law_impl_designSearch_cell_1 {a0 a1 a2 d:D}{cells cells':List D}(h:∀ b,code_impl_designSearch_cell_1.wp (CT Try.prog NoG) (endX [(.t 4)] d 1 b cells') [a0,.box (some b) cells,a2,.undef,.undef,.undef,.undef,.undef,.undef,.undef,.undef,.undef,.undef,.undef,.undef,.undef,.undef,.undef,.undef,.undef,.undef,.undef]):ContractX Try.prog NoG 98 1 [a0,a1,a2] cells d cells' :=
  contract_ofX (pt:=0) noG Try.func98 (fun us W=>by kernel_rfl) (c:=Try.f98.body.getD .skip) (ms:=[]) (ms':=[]) (by kernel_rfl) (by kernel_rfl) (by kernel_rfl) (by simp) h
def code_impl_designSearch_bottom_1:VCode:=(.seq (.ops [
  ⟨some 4,none,.asg (.const (.bool false))⟩]) (.seq (.draw (mB 12 4064) [] [⟨0,mB 12 4064,[],⟨some 5,none,.load 1 false (.tmp 1)⟩⟩,⟨1,mB 12 4032,[],⟨some 6,none,.nilc (.tmp 5)⟩⟩,⟨2,mB 12 3968,[],⟨some 7,none,.fa 9 (.tmp 6)⟩⟩,⟨3,mB 12 3840,[],⟨some 8,none,.fa 0 (.tmp 7)⟩⟩,⟨4,mB 12 3584,[],⟨some 9,none,.load 1 false (.tmp 8)⟩⟩,⟨5,mB 12 4064,[],⟨some 10,none,.load 1 false (.tmp 2)⟩⟩,⟨6,mB 12 4064,[],⟨some 11,none,.mv (.tmp 0)⟩⟩] [⟨some 12,none,.ia 1 (.tmp 9) (.tmp 10)⟩,⟨none,none,.store 1 (.tmp 12) (.tmp 11)⟩]) (.seq (.ops [
  ⟨some 13,none,.load 1 false (.tmp 1)⟩,
  ⟨some 14,none,.load 1 false (.tmp 2)⟩,
  ⟨some 15,none,.callX 112 [(.tmp 13),(.tmp 14)]⟩,
  ⟨some 4,none,.asg (.tmp 15)⟩]) .ret)))
theorem law_impl_designSearch_bottom_1 {a0 a1 a2 d:D}{cells cells':List D}(h:∀ b,code_impl_designSearch_bottom_1.wp (CT Try.prog NoG) (endX [(.t 4)] d 1 b cells') [a0,.box (some b) cells,a2,.undef,.undef,.undef,.undef,.undef,.undef,.undef,.undef,.undef,.undef,.undef,.undef,.undef]):ContractX Try.prog NoG 113 1 [a0,a1,a2] cells d cells' :=
  contract_ofX (pt:=0) noG Try.func113 (fun us W=>by kernel_rfl) (c:=Try.f113.body.getD .skip) (ms:=[]) (ms':=[]) (by kernel_rfl) (by kernel_rfl) (by kernel_rfl) (by simp) h
theorem v_srCell1 {K:SK}(hK:OkK K){n i:Nat}(hi:i<K.Cells.length)(hb:MethS Try.prog K 99 i (bottomI K (cellI K n) i)) :
    ClosS Try.prog K 98 [(i:Int)] (OkI K) (fun k s=>bottomI K (cellI K n) i (lefI (i / K.W) k s)):=by
  intro b k s h0 h1 h;have hN:=hK.nle;have hbb:=hb _ (h.lef (i / K.W) (glu_k h0 h1));have hW0:(K.W:Int)≠0:=by have:=hK.w;omega
  have hq:i / K.W<K.H:=(by rw [Nat.div_lt_iff_lt_mul hK.w.1,← hK.n];exact hi);have hl:i / K.W<s.left.length:=(by rw [h.ll];exact hq);have hx:=getD_at hl;have e2:=tdivN i K.W (by omega);dsimp only;generalize bottomI K (cellI K n) i (lefI (i / K.W) k s)=o at *;refine law_impl_designSearch_cell_1 ?_;intro bb;unfold code_impl_designSearch_cell_1;simp -implicitDefEqProofs (disch:=omega) only [go_sem,↓reduceIte ,hW0,ne_eq,not_false_eq_true,e2,List.length_map,Int.toNat_natCast,Int.ofNat_lt,Int.natCast_nonneg,List.getElem?_map,Option.map_some,Int.natCast_zero,Int.natCast_one,Int.cast_ofNat_Int,Int.ofNat_le,Int.toNat_zero,Nat.sub_zero,Int.le_refl,Int.reduceLT,Int.reduceLE,Int.reduceEq,Int.reduceAdd,Int.reduceSub,Int.reduceMul,Int.reduceToNat,Int.reduceNeg,hl,hx,rI,setI_map];refine call_lendN (i:=0) (x:=.tmp 19) (r:=1) hbb rfl rfl rfl rfl (by simp -implicitDefEqProofs (disch:=omega) only [go_sem,↓reduceIte,deep,TD.rows,immLL_rI,immLL_rB8,immLL_rS,immLL_rBo,immLL_rII,immLL_rIIt];exact rfl) (by repeat (first | exact leL_nil | refine leL_cons ?_ ?_ | exact le_of_eq rfl | exact le_iptrN (leL_of_eq rfl) | refine le_agg ?_ | exact le_slf rfl (TD.rows ..) | refine le_iptr ?_ | refine le_fn ?_ ?_ | exact le_nilsl_)) rfl ?_;simp -implicitDefEqProofs (disch:=omega) only [go_sem,↓reduceIte]
theorem v_srBot1 {K:SK}(hK:OkK K){n i:Nat}(hi:i<K.W)(hb:MethS Try.prog K 112 i (stepI K (cellI K n) i)) :
    ClosS Try.prog K 113 [(i:Int)] (OkI K) (fun k s=>stepI K (cellI K n) i (botI i k s)):=by
  intro b k s h0 h1 h;have hbb:=hb _ (h.bot i (glu_k h0 h1));have hl:i<s.bottom.length:=by rw [h.lb];exact hi
  have hx:=getD_at hl;dsimp only;generalize stepI K (cellI K n) i (botI i k s)=o at *;refine law_impl_designSearch_bottom_1 ?_;intro bb;unfold code_impl_designSearch_bottom_1;simp -implicitDefEqProofs (disch:=omega) only [go_sem,↓reduceIte ,List.length_map,Int.toNat_natCast,Int.ofNat_lt,Int.natCast_nonneg,List.getElem?_map,Option.map_some,Int.natCast_zero,Int.natCast_one,Int.cast_ofNat_Int,Int.ofNat_le,Int.toNat_zero,Nat.sub_zero,Int.le_refl,Int.reduceLT,Int.reduceLE,Int.reduceEq,Int.reduceAdd,Int.reduceSub,Int.reduceMul,Int.reduceToNat,Int.reduceNeg,hl,hx,rI,setI_map];refine call_lendN (i:=0) (x:=.tmp 13) (r:=1) hbb rfl rfl rfl rfl (by simp -implicitDefEqProofs (disch:=omega) only [go_sem,↓reduceIte,deep,TD.rows,immLL_rI,immLL_rB8,immLL_rS,immLL_rBo,immLL_rII,immLL_rIIt];exact rfl) (by repeat (first | exact leL_nil | refine leL_cons ?_ ?_ | exact le_of_eq rfl | exact le_iptrN (leL_of_eq rfl) | refine le_agg ?_ | exact le_slf rfl (TD.rows ..) | refine le_iptr ?_ | refine le_fn ?_ ?_ | exact le_nilsl_)) rfl ?_;simp -implicitDefEqProofs (disch:=omega) only [go_sem,↓reduceIte]
def code_impl_designSearch_step_1_1:VCode:=(.seq (.ops [
  ⟨some 7,none,.asg (.const (.bool false))⟩]) (.seq (.ops [
  ⟨some 10,none,.load 1 false (.tmp 1)⟩,
  ⟨some 11,none,.nilc (.tmp 10)⟩,
  ⟨some 12,none,.fa 9 (.tmp 11)⟩,
  ⟨some 13,none,.fa 2 (.tmp 12)⟩,
  ⟨some 14,none,.load 1 false (.tmp 13)⟩,
  ⟨some 15,none,.len (.tmp 14)⟩,
  ⟨some 8,none,.asg (.tmp 15)⟩]) (.seq (.draw (mB 29 536805888) (mB 28 260046848) [⟨0,mB 29 536805888,[],⟨some 16,none,.load 1 false (.tmp 1)⟩⟩,⟨1,mB 29 536740352,[],⟨some 17,none,.nilc (.tmp 16)⟩⟩,⟨2,mB 29 536609280,[],⟨some 18,none,.fa 0 (.tmp 17)⟩⟩,⟨3,mB 29 536347136,[],⟨some 19,none,.fa 2 (.tmp 18)⟩⟩,⟨4,mB 29 535822848,[],⟨some 20,none,.load 1 false (.tmp 19)⟩⟩,⟨5,mB 29 536805888,[],⟨some 21,none,.load 1 false (.tmp 2)⟩⟩,⟨6,mB 29 532677120,[],⟨some 22,none,.ia 1 (.tmp 20) (.tmp 21)⟩⟩,⟨7,mB 29 528482816,[],⟨some 23,none,.load 1 false (.tmp 22)⟩⟩,⟨8,mB 29 536805888,[],⟨some 24,none,.load 1 false (.tmp 3)⟩⟩,⟨9,mB 29 536805888,[],⟨some 25,none,.mv (.tmp 0)⟩⟩,⟨10,mB 29 536805888,[],⟨some 26,none,.load 1 false (.tmp 4)⟩⟩,⟨11,mB 29 536805888,[],⟨some 27,none,.load 1 false (.tmp 5)⟩⟩,⟨12,mB 29 268435968,(mB 28 260046848),⟨some 28,none,.build [(.int .i64 0),(.int .i64 0),(.int .i64 0),(.int .i64 0),(.int .i64 0)] [(0,1,(.tmp 23)),(1,1,(.tmp 24)),(2,1,(.tmp 25)),(3,1,(.tmp 26)),(4,1,(.tmp 27))]⟩⟩,⟨13,mB 29 536805888,[],⟨some 9,none,.alloc [(.int .i64 0),(.int .i64 0),(.int .i64 0),(.int .i64 0),(.int .i64 0)]⟩⟩] [⟨none,none,.store 5 (.tmp 9) (.tmp 28)⟩]) (.seq (.drawW (mB 38 274341036032) (mB 37 120259084288) [⟨1,mB 38 274341036032,[],⟨some 30,none,.load 1 false (.tmp 1)⟩⟩,⟨2,mB 38 273267294208,[],⟨some 31,none,.nilc (.tmp 30)⟩⟩,⟨3,mB 38 271119810560,[],⟨some 32,none,.fa 9 (.tmp 31)⟩⟩,⟨4,mB 38 266824843264,[],⟨some 33,none,.fa 2 (.tmp 32)⟩⟩,⟨5,mB 38 258234908672,[],⟨some 34,none,.load 1 false (.tmp 33)⟩⟩,⟨6,mB 38 274341036032,[],⟨some 35,none,.load 5 true (.tmp 9)⟩⟩,⟨7,mB 38 239981297664,(mB 36 34359738368),⟨some 36,none,.bslN 5 [(.tmp 35)]⟩⟩] ⟨8,mB 38 172335562752,(mB 37 85899345920),⟨some 37,none,.app 5 40 (.tmp 34) (.tmp 36)⟩⟩ [⟨0,mB 38 274341036032,[],⟨some 29,none,.load 1 false (.tmp 1)⟩⟩] [⟨some 38,none,.nilc (.tmp 29)⟩,⟨some 39,none,.fa 9 (.tmp 38)⟩,⟨some 40,none,.fa 2 (.tmp 39)⟩,⟨none,none,.store 1 (.tmp 40) (.tmp 37)⟩]) (.seq (.seq (.ops [
  ⟨some 41,none,.load 1 false (.tmp 1)⟩,
  ⟨some 42,none,.load 1 false (.tmp 2)⟩,
  ⟨some 43,none,.load 5 true (.tmp 9)⟩,
  ⟨some 44,none,.callX 121 [(.tmp 41),(.tmp 42),(.tmp 43)]⟩]) (.cond (.tmp 44) (.seq (.ops [
  ⟨some 7,none,.asg (.const (.bool true))⟩]) .ret) .skip)) (.seq (.draw (mB 53 0x1fe00000000000) [] [⟨0,mB 53 0x1fe00000000000,[],⟨some 45,none,.load 1 false (.tmp 1)⟩⟩,⟨1,mB 53 0x1fe00000000000,[],⟨some 46,none,.load 1 false (.tmp 1)⟩⟩,⟨2,mB 53 0x1fa00000000000,[],⟨some 47,none,.nilc (.tmp 46)⟩⟩,⟨3,mB 53 0x1f200000000000,[],⟨some 48,none,.fa 9 (.tmp 47)⟩⟩,⟨4,mB 53 0x1e200000000000,[],⟨some 49,none,.fa 2 (.tmp 48)⟩⟩,⟨5,mB 53 0x1c200000000000,[],⟨some 50,none,.load 1 false (.tmp 49)⟩⟩,⟨6,mB 53 0x1fe00000000000,[],⟨some 51,none,.mv (.tmp 8)⟩⟩,⟨7,mB 53 0x10200000000000,[],⟨some 52,none,.slc 5 (.tmp 50) none (some (.tmp 51)) none⟩⟩] [⟨some 53,none,.nilc (.tmp 45)⟩,⟨some 54,none,.fa 9 (.tmp 53)⟩,⟨some 55,none,.fa 2 (.tmp 54)⟩,⟨none,none,.store 1 (.tmp 55) (.tmp 52)⟩]) (.seq (.ops [
  ⟨some 7,none,.asg (.const (.bool false))⟩]) .ret)))))))
theorem law_impl_designSearch_step_1_1 {a0 a1 a2 a3 a4 a5 d:D}{cells cells':List D}(h:∀ b,code_impl_designSearch_step_1_1.wp (CT Try.prog NoG) (endX [(.t 7)] d 1 b cells') [a0,.box (some b) cells,a2,a3,a4,a5,.undef,.undef,.undef,.undef,.undef,.undef,.undef,.undef,.undef,.undef,.undef,.undef,.undef,.undef,.undef,.undef,.undef,.undef,.undef,.undef,.undef,.undef,.undef,.undef,.undef,.undef,.undef,.undef,.undef,.undef,.undef,.undef,.undef,.undef,.undef,.undef,.undef,.undef,.undef,.undef,.undef,.undef,.undef,.undef,.undef,.undef,.undef,.undef,.undef,.undef]):ContractX Try.prog NoG 123 1 [a0,a1,a2,a3,a4,a5] cells d cells' :=
  contract_ofX (pt:=0) noG Try.func123 (fun us W=>by kernel_rfl) (c:=Try.f123.body.getD .skip) (ms:=[]) (ms':=[]) (by kernel_rfl) (by kernel_rfl) (by kernel_rfl) (by simp) h
def code_impl_designSearch_step_1:VCode:=(.seq (.ops [
  ⟨some 5,none,.box (.tmp 0)⟩,
  ⟨some 6,none,.asg (.const (.bool false))⟩]) (.seq (.ops [
  ⟨some 7,none,.load 1 false (.tmp 1)⟩,
  ⟨some 8,none,.nilc (.tmp 7)⟩,
  ⟨some 9,none,.fa 8 (.tmp 8)⟩,
  ⟨some 10,none,.mkf 123 [] [(.tmp 1),(.tmp 2),(.tmp 5),(.tmp 3),(.tmp 4)]⟩,
  ⟨some 11,none,.callX 97 [(.tmp 9),(.tmp 10)]⟩,
  ⟨some 6,none,.asg (.tmp 11)⟩]) .ret))
theorem law_impl_designSearch_step_1 {a0 a1 a2 a3 a4 d:D}{cells cells':List D}(h:∀ b,code_impl_designSearch_step_1.wp (CT Try.prog NoG) (endX [(.t 6)] d 1 b cells') [a0,.box (some b) cells,a2,a3,a4,.undef,.undef,.undef,.undef,.undef,.undef,.undef]):ContractX Try.prog NoG 122 1 [a0,a1,a2,a3,a4] cells d cells' :=
  contract_ofX (pt:=0) noG Try.func122 (fun us W=>by kernel_rfl) (c:=Try.f122.body.getD .skip) (ms:=[]) (ms':=[]) (by kernel_rfl) (by kernel_rfl) (by kernel_rfl) (by simp) h
theorem pcs_app (ps:List Piece)(p:Piece):ps.map (Piece.td.d true)++[[.v (.int .i64 p.Color),.v (.int .i64 p.North),.v (.int .i64 p.East),.v (.int .i64 p.South),.v (.int .i64 p.West)]]=(ps++[p]).map (Piece.td.d true):=by rw [List.map_append];rfl
theorem v_srStep11 {K:SK}(hK:OkK K){n i m:Nat}(hi:i<K.Cells.length)(hm:(m:Int)<K.most){no so we:Int}(hno:Glu no)(hso:Glu so)(hwe:Glu we)(ht:∀ (p:Piece),okPiece p→∀ s,OkI K s→ContractX Try.prog NoG 121 0 [.undef,.v (.int .i64 (i:Int)),.agg (Piece.td.d false p)] (srD true K s) (.v (.bool (takeI (cellI K n) i p s).1)) (srD true K (takeI (cellI K n) i p s).2)) :
    ClosS Try.prog K 123 [(i:Int),no,so,we] (OkL K m) (fun e=>tryI (cellI K n) i ⟨K.Cells.getD i 0,no,e,so,we⟩):=by
  rintro b k s h0 h1 ⟨h,hlm⟩;have hN:=hK.nle;have hM:=hK.m;have hp:okPiece ⟨K.Cells.getD i 0,no,k,so,we⟩:=⟨okK_cell hK i,hno,glu_k h0 h1,hso,hwe⟩
  have htt:=ht ⟨K.Cells.getD i 0,no,k,so,we⟩ hp { s with pieces:=s.pieces++[⟨K.Cells.getD i 0,no,k,so,we⟩] } (h.add hp (by omega));have hcx:=getD_at hi;have hkq:(takeI (cellI K n) i ⟨K.Cells.getD i 0,no,k,so,we⟩ { s with pieces:=s.pieces++[⟨K.Cells.getD i 0,no,k,so,we⟩] }).1=false→(takeI (cellI K n) i ⟨K.Cells.getD i 0,no,k,so,we⟩ { s with pieces:=s.pieces++[⟨K.Cells.getD i 0,no,k,so,we⟩] }).2.pieces=s.pieces++[⟨K.Cells.getD i 0,no,k,so,we⟩]:=fun e=>keepP_cell n _ e;rw [Piece.td_d] at htt;have happ:=pcs_app s.pieces ⟨K.Cells.getD i 0,no,k,so,we⟩;dsimp only at happ htt;unfold tryI cutI;dsimp only;generalize takeI (cellI K n) i ⟨K.Cells.getD i 0,no,k,so,we⟩ { s with pieces:=s.pieces++[⟨K.Cells.getD i 0,no,k,so,we⟩] }=o at *;refine law_impl_designSearch_step_1_1 ?_;intro bb;unfold code_impl_designSearch_step_1_1;simp -implicitDefEqProofs (disch:=omega) only [go_sem,↓reduceIte ,List.length_map,Int.toNat_natCast,Int.ofNat_lt,Int.natCast_nonneg,List.getElem?_map,Option.map_some,Int.natCast_zero,Int.natCast_one,Int.cast_ofNat_Int,Int.ofNat_le,Int.toNat_zero,Nat.sub_zero,Int.le_refl,Int.reduceLT,Int.reduceLE,Int.reduceEq,Int.reduceAdd,Int.reduceSub,Int.reduceMul,Int.reduceToNat,Int.reduceNeg,hi,hcx,rI,List.length_map,happ];refine ⟨by omega,?_⟩;cases hr:o.1 with
  | true=>rw [hr] at htt;refine call_lendN (i:=0) (x:=.tmp 41) (r:=1) htt rfl rfl rfl rfl (by simp -implicitDefEqProofs (disch:=omega) only [go_sem,↓reduceIte,deep,TD.rows,immLL_rI,immLL_rB8,immLL_rS,immLL_rBo,immLL_rII,immLL_rIIt];exact rfl) (by repeat (first | exact leL_nil | refine leL_cons ?_ ?_ | exact le_of_eq rfl | exact le_iptrN (leL_of_eq rfl) | refine le_agg ?_ | exact le_slf rfl (TD.rows ..) | refine le_iptr ?_ | refine le_fn ?_ ?_ | exact le_nilsl_)) rfl ?_;simp -implicitDefEqProofs (disch:=omega) only [go_sem,↓reduceIte]
  | false =>
    rw [hr] at htt;have hpq:=hkq hr;have hlo:s.pieces.length≤o.2.pieces.length:=by rw [hpq];simp
    refine call_lendN (i:=0) (x:=.tmp 41) (r:=1) htt rfl rfl rfl rfl (by simp -implicitDefEqProofs (disch:=omega) only [go_sem,↓reduceIte,deep,TD.rows,immLL_rI,immLL_rB8,immLL_rS,immLL_rBo,immLL_rII,immLL_rIIt];exact rfl) (by repeat (first | exact leL_nil | refine leL_cons ?_ ?_ | exact le_of_eq rfl | exact le_iptrN (leL_of_eq rfl) | refine le_agg ?_ | exact le_slf rfl (TD.rows ..) | refine le_iptr ?_ | refine le_fn ?_ ?_ | exact le_nilsl_)) rfl ?_;simp -implicitDefEqProofs (disch:=omega) only [go_sem,↓reduceIte ,List.length_map,Int.toNat_natCast,Int.ofNat_lt,Int.natCast_nonneg,List.getElem?_map,Option.map_some,Int.natCast_zero,Int.natCast_one,Int.cast_ofNat_Int,Int.ofNat_le,Int.toNat_zero,Nat.sub_zero,Int.le_refl,Int.reduceLT,Int.reduceLE,Int.reduceEq,Int.reduceAdd,Int.reduceSub,Int.reduceMul,Int.reduceToNat,Int.reduceNeg,List.length_map,hlo];rw [← List.map_take]
theorem v_srStep1 {K:SK}(hK:OkK K){n i m:Nat}(hi:i<K.Cells.length)(hm:(m:Int)<K.most){so we:Int}(hso:Glu so)(hwe:Glu we)(ht:∀ (p:Piece),okPiece p→∀ s,OkI K s→ContractX Try.prog NoG 121 0 [.undef,.v (.int .i64 (i:Int)),.agg (Piece.td.d false p)] (srD true K s) (.v (.bool (takeI (cellI K n) i p s).1)) (srD true K (takeI (cellI K n) i p s).2)) :
    ClosS Try.prog K 122 [(i:Int),so,we] (OkL K m) (fun no=>colsI (fun e=>tryI (cellI K n) i ⟨K.Cells.getD i 0,no,e,so,we⟩)):=by
  rintro b k s h0 h1 hs;have h11:=v_srStep11 hK hi hm (glu_k h0 h1) hso hwe ht;have hE:=v_each_step1 (K:=K) (go:=fun e=>tryI (cellI K n) i ⟨K.Cells.getD i 0,k,e,so,we⟩) (P:=OkL K m) (Q:=OkI K) (x1:=(i:Int)) (x2:=k) (x3:=so) (x4:=we) (fun _ _ hn h=>⟨h.1.cols hn,h.2⟩)
    (fun _ _ h0' h1' h=>okI_try' (okF_cell hK n) i ⟨okK_cell hK i,glu_k h0 h1,glu_k h0' h1',hso,hwe⟩ hm h) (fun b k' s' a0 a1 a2=>h11 b k' s' a0 a1 a2) s hs hs.1.co b
  dsimp only;generalize colsI (fun e=>tryI (cellI K n) i ⟨K.Cells.getD i 0,k,e,so,we⟩) s=o at *;refine law_impl_designSearch_step_1 ?_;intro bb;unfold code_impl_designSearch_step_1;simp -implicitDefEqProofs (disch:=omega) only [go_sem,↓reduceIte ,List.length_map,Int.toNat_natCast,Int.ofNat_lt,Int.natCast_nonneg,List.getElem?_map,Option.map_some,Int.natCast_zero,Int.natCast_one,Int.cast_ofNat_Int,Int.ofNat_le,Int.toNat_zero,Nat.sub_zero,Int.le_refl,Int.reduceLT,Int.reduceLE,Int.reduceEq,Int.reduceAdd,Int.reduceSub,Int.reduceMul,Int.reduceToNat,Int.reduceNeg];refine call_eachN hE rfl rfl rfl (by simp -implicitDefEqProofs (disch:=omega) only [go_sem,↓reduceIte,deep,TD.rows,immLL_rI,immLL_rB8,immLL_rS,immLL_rBo,immLL_rII,immLL_rIIt,gone2];exact rfl) (by repeat (first | exact leL_nil | refine leL_cons ?_ ?_ | exact le_of_eq rfl | exact le_iptrN (leL_of_eq rfl) | refine le_agg ?_ | exact le_slf rfl (TD.rows ..) | refine le_iptr ?_ | refine le_fn ?_ ?_ | exact le_nilsl_)) (sr_prune K s) ?_;simp -implicitDefEqProofs (disch:=omega) only [go_sem,↓reduceIte]
def code_impl_designSearch_step:VCode:=(.seq (.ops [
  ⟨some 2,none,.box (.tmp 0)⟩,
  ⟨some 3,none,.box (.tmp 1)⟩,
  ⟨some 4,none,.asg (.const (.bool false))⟩]) (.seq (.seq (.draw (mB 17 130560) [] [⟨0,mB 17 130560,[],⟨some 9,none,.load 1 false (.tmp 2)⟩⟩,⟨1,mB 17 130048,[],⟨some 10,none,.nilc (.tmp 9)⟩⟩,⟨2,mB 17 129024,[],⟨some 11,none,.fa 5 (.tmp 10)⟩⟩,⟨3,mB 17 126976,[],⟨some 12,none,.load 1 false (.tmp 11)⟩⟩,⟨4,mB 17 130560,[],⟨some 13,none,.load 1 false (.tmp 2)⟩⟩,⟨5,mB 17 122368,[],⟨some 14,none,.nilc (.tmp 13)⟩⟩,⟨6,mB 17 105984,[],⟨some 15,none,.fa 4 (.tmp 14)⟩⟩,⟨7,mB 17 73216,[],⟨some 16,none,.load 1 false (.tmp 15)⟩⟩] [⟨some 17,none,.bin .geq (.tmp 12) (.tmp 16)⟩]) (.cond (.tmp 17) (.seq (.ops [
  ⟨some 18,none,.load 1 false (.tmp 2)⟩,
  ⟨some 19,none,.nilc (.tmp 18)⟩,
  ⟨some 20,none,.fa 6 (.tmp 19)⟩,
  ⟨none,none,.store 1 (.tmp 20) (.const (.bool true))⟩]) (.seq (.ops [
  ⟨some 4,none,.asg (.const (.bool true))⟩]) .ret)) .skip)) (.seq (.ops [
  ⟨some 21,none,.load 1 false (.tmp 2)⟩,
  ⟨some 22,none,.nilc (.tmp 21)⟩,
  ⟨some 23,none,.fa 5 (.tmp 22)⟩,
  ⟨some 24,none,.load 1 false (.tmp 23)⟩,
  ⟨some 25,none,.bin .add (.tmp 24) (.const (.int .i64 1))⟩,
  ⟨some 26,none,.nilc (.tmp 21)⟩,
  ⟨some 27,none,.fa 5 (.tmp 26)⟩,
  ⟨none,none,.store 1 (.tmp 27) (.tmp 25)⟩]) (.seq (.draw (mB 34 16911433824) [] [⟨0,mB 34 16911433824,[],⟨some 28,none,.load 1 false (.tmp 2)⟩⟩,⟨1,mB 34 16911433824,[],⟨some 29,none,.load 1 false (.tmp 3)⟩⟩,⟨2,mB 34 16106127456,[],⟨some 30,none,.call 119 [(.tmp 28),(.tmp 29)]⟩⟩,⟨3,mB 34 16911433824,[],⟨some 31,none,.load 1 false (.tmp 2)⟩⟩,⟨4,mB 34 16911433824,[],⟨some 32,none,.load 1 false (.tmp 3)⟩⟩,⟨5,mB 34 8589934688,[],⟨some 33,none,.call 120 [(.tmp 31),(.tmp 32)]⟩⟩,⟨6,mB 34 16911433824,[],⟨some 5,none,.alloc [(.int .i64 0)]⟩⟩,⟨7,mB 34 16911433824,[],⟨some 6,none,.alloc [(.int .i64 0)]⟩⟩] [⟨none,none,.store 1 (.tmp 5) (.tmp 30)⟩,⟨none,none,.store 1 (.tmp 6) (.tmp 33)⟩]) (.seq (.seq (.ops [
  ⟨some 34,none,.load 1 false (.tmp 2)⟩,
  ⟨some 35,none,.nilc (.tmp 34)⟩,
  ⟨some 36,none,.fa 9 (.tmp 35)⟩,
  ⟨some 37,none,.fa 2 (.tmp 36)⟩,
  ⟨some 38,none,.load 1 false (.tmp 37)⟩,
  ⟨some 39,none,.len (.tmp 38)⟩,
  ⟨some 40,none,.mv (.const (.int .i64 0))⟩]) (.block 0 (.loop (mB 88 0xfffffffffffe03ffffff92) (.seq (.ops [
  ⟨some 41,none,.bin .lss (.tmp 40) (.tmp 39)⟩]) (.seq (.cond (.tmp 41) .skip (.exit 0)) (.seq (.block 1 (.seq (.ops [
  ⟨some 42,none,.ia 5 (.tmp 38) (.tmp 40)⟩,
  ⟨some 43,none,.load 5 true (.tmp 42)⟩,
  ⟨some 8,none,.alloc [(.int .i64 0),(.int .i64 0),(.int .i64 0),(.int .i64 0),(.int .i64 0)]⟩,
  ⟨none,none,.store 5 (.tmp 8) (.tmp 43)⟩]) (.seq (.ops [
  ⟨some 44,none,.fa 3 (.tmp 8)⟩,
  ⟨some 45,none,.load 1 false (.tmp 44)⟩,
  ⟨some 46,none,.load 1 false (.tmp 5)⟩,
  ⟨some 47,none,.bin .eql (.tmp 45) (.tmp 46)⟩,
  ⟨some 48,none,.mv (.tmp 47)⟩,
  ⟨some 49,some (48,true),.fa 4 (.tmp 8)⟩,
  ⟨some 50,some (48,true),.load 1 false (.tmp 49)⟩,
  ⟨some 51,some (48,true),.load 1 false (.tmp 6)⟩,
  ⟨some 52,some (48,true),.bin .eql (.tmp 50) (.tmp 51)⟩,
  ⟨some 53,none,.pick (.tmp 48) (.tmp 52) (.const (.bool false))⟩]) (.cond (.tmp 53) (.seq (.draw (mB 69 0x1fffc0000000000000) [] [⟨0,mB 69 0x1fffc0000000000000,[],⟨some 54,none,.fa 0 (.tmp 8)⟩⟩,⟨1,mB 69 0x1fff80000000000000,[],⟨some 55,none,.load 1 false (.tmp 54)⟩⟩,⟨2,mB 69 0x1fffc0000000000000,[],⟨some 56,none,.load 1 false (.tmp 2)⟩⟩,⟨3,mB 69 0x1ffec0000000000000,[],⟨some 57,none,.nilc (.tmp 56)⟩⟩,⟨4,mB 69 0x1ffcc0000000000000,[],⟨some 58,none,.fa 0 (.tmp 57)⟩⟩,⟨5,mB 69 0x1ff8c0000000000000,[],⟨some 59,none,.fa 2 (.tmp 58)⟩⟩,⟨6,mB 69 0x1ff0c0000000000000,[],⟨some 60,none,.load 1 false (.tmp 59)⟩⟩,⟨7,mB 69 0x1fffc0000000000000,[],⟨some 61,none,.load 1 false (.tmp 3)⟩⟩,⟨8,mB 69 0x1fc0c0000000000000,[],⟨some 62,none,.ia 1 (.tmp 60) (.tmp 61)⟩⟩,⟨9,mB 69 0x1f80c0000000000000,[],⟨some 63,none,.load 1 false (.tmp 62)⟩⟩,⟨10,mB 69 0x1f0000000000000000,[],⟨some 64,none,.bin .eql (.tmp 55) (.tmp 63)⟩⟩,⟨11,mB 69 0x1e0000000000000000,[],⟨some 65,none,.mv (.tmp 64)⟩⟩,⟨12,mB 69 0x1c0000000000000000,[],⟨some 66,some (65,true),.load 1 false (.tmp 2)⟩⟩,⟨13,mB 69 0x1c0000000000000000,[],⟨some 67,some (65,true),.load 1 false (.tmp 3)⟩⟩,⟨14,mB 69 0x1c0000000000000000,[],⟨some 68,some (65,true),.load 5 true (.tmp 8)⟩⟩] [⟨some 69,some (65,true),.callX 121 [(.tmp 66),(.tmp 67),(.tmp 68)]⟩,⟨some 70,none,.pick (.tmp 65) (.tmp 69) (.const (.bool false))⟩,⟨some 4,none,.asg (.tmp 70)⟩]) .ret) .skip)))) (.ops [
  ⟨some 71,none,.bin .add (.tmp 40) (.const (.int .i64 1))⟩,
  ⟨some 40,none,.mv (.tmp 71)⟩]))))))) (.seq (.seq (.draw (mB 82 0x3ff000000000000000000) [] [⟨0,mB 82 0x3ff000000000000000000,[],⟨some 72,none,.load 1 false (.tmp 2)⟩⟩,⟨1,mB 82 0x3fe000000000000000000,[],⟨some 73,none,.nilc (.tmp 72)⟩⟩,⟨2,mB 82 0x3fc000000000000000000,[],⟨some 74,none,.fa 9 (.tmp 73)⟩⟩,⟨3,mB 82 0x3f8000000000000000000,[],⟨some 75,none,.fa 2 (.tmp 74)⟩⟩,⟨4,mB 82 0x3f0000000000000000000,[],⟨some 76,none,.load 1 false (.tmp 75)⟩⟩,⟨5,mB 82 0x3e0000000000000000000,[],⟨some 77,none,.len (.tmp 76)⟩⟩,⟨6,mB 82 0x3ff000000000000000000,[],⟨some 78,none,.load 1 false (.tmp 2)⟩⟩,⟨7,mB 82 0x3bf000000000000000000,[],⟨some 79,none,.nilc (.tmp 78)⟩⟩,⟨8,mB 82 0x33f000000000000000000,[],⟨some 80,none,.fa 3 (.tmp 79)⟩⟩,⟨9,mB 82 0x23f000000000000000000,[],⟨some 81,none,.load 1 false (.tmp 80)⟩⟩] [⟨some 82,none,.bin .geq (.tmp 77) (.tmp 81)⟩]) (.cond (.tmp 82) (.seq (.ops [
  ⟨some 4,none,.asg (.const (.bool false))⟩]) .ret) .skip)) (.seq (.ops [
  ⟨some 83,none,.load 1 false (.tmp 2)⟩,
  ⟨some 84,none,.nilc (.tmp 83)⟩,
  ⟨some 85,none,.fa 7 (.tmp 84)⟩,
  ⟨some 86,none,.mkf 122 [] [(.tmp 2),(.tmp 3),(.tmp 5),(.tmp 6)]⟩,
  ⟨some 87,none,.callX 97 [(.tmp 85),(.tmp 86)]⟩,
  ⟨some 4,none,.asg (.tmp 87)⟩]) .ret)))))))
theorem law_impl_designSearch_step {a0 a1 d:D}{cells cells':List D}(h:∀ b,code_impl_designSearch_step.wp (CT Try.prog NoG) (endX [(.t 4)] d 0 b cells') [.box (some b) cells,a1,.undef,.undef,.undef,.undef,.undef,.undef,.undef,.undef,.undef,.undef,.undef,.undef,.undef,.undef,.undef,.undef,.undef,.undef,.undef,.undef,.undef,.undef,.undef,.undef,.undef,.undef,.undef,.undef,.undef,.undef,.undef,.undef,.undef,.undef,.undef,.undef,.undef,.undef,.undef,.undef,.undef,.undef,.undef,.undef,.undef,.undef,.undef,.undef,.undef,.undef,.undef,.undef,.undef,.undef,.undef,.undef,.undef,.undef,.undef,.undef,.undef,.undef,.undef,.undef,.undef,.undef,.undef,.undef,.undef,.undef,.undef,.undef,.undef,.undef,.undef,.undef,.undef,.undef,.undef,.undef,.undef,.undef,.undef,.undef,.undef,.undef]):ContractX Try.prog NoG 112 0 [a0,a1] cells d cells' :=
  contract_ofX (pt:=0) noG Try.func112 (fun us W=>by kernel_rfl) (c:=Try.f112.body.getD .skip) (ms:=[(mB 88 0xfffffffffffe03ffffff92)]) (ms':=[]) (by kernel_rfl) (by kernel_rfl) (by kernel_rfl) (by simp) h
theorem find_next {α:Type}{p:α→Bool}{xs:List α}{i:Nat}(h:i<xs.length)(hn:(xs.take i).find? p=none):xs.find? p=if p xs[i] then some xs[i] else (xs.drop (i+1)).find? p:=by
  conv=>lhs;rw [← List.take_append_drop i xs]
  rw [List.find?_append,hn,Option.none_or,List.drop_eq_getElem_cons h,List.find?_cons];cases p xs[i]<;>rfl
set_option maxHeartbeats 4000000 in
theorem v_srStep {K:SK} (hK:OkK K) {n i:Nat} (hi:i<K.Cells.length) (ht:∀ (p:Piece),okPiece p→∀ s,OkI K s→ContractX Try.prog NoG 121 0 [.undef,.v (.int .i64 (i:Int)),.agg (Piece.td.d false p)] (srD true K s) (.v (.bool (takeI (cellI K n) i p s).1)) (srD true K (takeI (cellI K n) i p s).2)) :
    MethS Try.prog K 112 i (stepI K (cellI K n) i):=by
  intro s h;have hN:=hK.nle;have hM:=hK.m;have hB:=hK.b;have hst:=h.st;have hcx:=getD_at hi;have hpl:s.pieces.length≤100:=by have:=h.lp;omega
  unfold stepI;by_cases hb:K.budget≤s.steps
  · rw [if_pos hb];refine law_impl_designSearch_step ?_;intro b;unfold code_impl_designSearch_step;have hb':decide (K.budget≤s.steps)=true:=decide_eq_true hb;simp -implicitDefEqProofs (disch:=omega) only [go_sem,↓reduceIte ,hb']
  · rw [if_neg hb];have hh:=h.step hb;have hb':decide (K.budget≤s.steps)=false:=decide_eq_false hb;have hw1:IntKind.i64.wrap (s.steps+1)=s.steps+1:=wrI (by omega) (by omega);have hS:=v_srSouth hK hh i hi;have hW:=v_srWest hK hh i hi;have hgs:=okI_south i h;have hgw:=okI_west i h;rw [show southI K i { s with steps:=s.steps+1 }=southI K i s from rfl] at hS;rw [show westI K i { s with steps:=s.steps+1 }=westI K i s from rfl] at hW;generalize southI K i s=so at *;generalize westI K i s=we at *;refine law_impl_designSearch_step ?_;intro b;unfold code_impl_designSearch_step;simp -implicitDefEqProofs (disch:=omega) only [go_sem,↓reduceIte ,hb',hw1];refine call_NB (hS) (by simp -implicitDefEqProofs (disch:=omega) only [go_sem,↓reduceIte,deep,TD.rows,immLL_rI,immLL_rB8,immLL_rS,immLL_rBo,immLL_rII,immLL_rIIt];exact rfl) ?_;simp -implicitDefEqProofs (disch:=omega) only [go_sem,↓reduceIte];refine call_NB (hW) (by simp -implicitDefEqProofs (disch:=omega) only [go_sem,↓reduceIte,deep,TD.rows,immLL_rI,immLL_rB8,immLL_rS,immLL_rBo,immLL_rII,immLL_rIIt,List.length_map];exact rfl) ?_;simp -implicitDefEqProofs (disch:=omega) only [go_sem,↓reduceIte ,List.length_map];unfold layI;dsimp only;refine loop_ov (by simp -implicitDefEqProofs (disch:=omega) only [go_sem,↓reduceIte];exact rfl) (fun j:Nat=>[(40,.v (.int .i64 (j:Nat)))]) (fun _=>by simp only [ovr_nil,ovr_cons,List.set_cons_zero,List.set_cons_succ];exact rfl) (fun j:Nat=>j≤s.pieces.length∧(s.pieces.take j).find? (isInl so we)=none) (fun j:Nat=>s.pieces.length-j) (0) (nleA) (?_) ?_
    · exact ⟨Nat.zero_le _,rfl⟩
    rintro j ⟨hj,hnone⟩;simp -implicitDefEqProofs (disch:=omega) only [go_sem,↓reduceIte ,List.length_map,Int.toNat_natCast,Int.ofNat_lt,Int.natCast_nonneg,List.getElem?_map,Option.map_some];refine cond_split ?_ ?_<;>intro hlt
    · have hlt:j<s.pieces.length:=(by simpa using hlt);have hx:=List.getElem?_eq_getElem hlt;have hfn:=find_next hlt hnone;have hmem:=List.getElem_mem hlt;generalize hp:s.pieces[j]=p at *;have hok:=h.pi p hmem;have htk:(s.pieces.take (j+1))=s.pieces.take j++[p]:=(by rw [List.take_succ_eq_append_getElem hlt,hp]);cases c1:decide (p.South=so) with
      | false=>have hno:isInl so we p=false:=(by unfold isInl;rw [c1];rfl);simp -implicitDefEqProofs (disch:=omega) only [go_sem,↓reduceIte ,List.length_map,Int.toNat_natCast,Int.ofNat_lt,Int.natCast_nonneg,List.getElem?_map,Option.map_some,Int.natCast_zero,Int.natCast_one,Int.cast_ofNat_Int,Int.ofNat_le,Int.toNat_zero,Nat.sub_zero,Int.le_refl,Int.reduceLT,Int.reduceLE,Int.reduceEq,Int.reduceAdd,Int.reduceSub,Int.reduceMul,Int.reduceToNat,Int.reduceNeg,hlt,hx,c1,wrN,Piece.td_d];exact ⟨j+1,by omega,⟨hlt,by rw [htk,List.find?_append,hnone,Option.none_or,List.find?_cons,hno];rfl⟩,nleA⟩
      | true =>
        cases c2:decide (p.West=we) with
        | false=>have hno:isInl so we p=false:=(by unfold isInl;rw [c2,Bool.and_false]);simp -implicitDefEqProofs (disch:=omega) only [go_sem,↓reduceIte ,List.length_map,Int.toNat_natCast,Int.ofNat_lt,Int.natCast_nonneg,List.getElem?_map,Option.map_some,Int.natCast_zero,Int.natCast_one,Int.cast_ofNat_Int,Int.ofNat_le,Int.toNat_zero,Nat.sub_zero,Int.le_refl,Int.reduceLT,Int.reduceLE,Int.reduceEq,Int.reduceAdd,Int.reduceSub,Int.reduceMul,Int.reduceToNat,Int.reduceNeg,hlt,hx,c1,c2,wrN,Piece.td_d];exact ⟨j+1,by omega,⟨hlt,by rw [htk,List.find?_append,hnone,Option.none_or,List.find?_cons,hno];rfl⟩,nleA⟩
        | true =>
          have hyes:isInl so we p=true:=(by unfold isInl;rw [c1,c2];rfl);rw [hyes,if_pos rfl] at hfn;rw [hfn];dsimp only;by_cases hcol:p.Color=K.Cells.getD i 0
          · rw [if_pos hcol];have htt:=ht p hok _ hh;rw [Piece.td_d] at htt;have c3:=decide_eq_true hcol;simp -implicitDefEqProofs (disch:=omega) only [go_sem,↓reduceIte ,List.length_map,Int.toNat_natCast,Int.ofNat_lt,Int.natCast_nonneg,List.getElem?_map,Option.map_some,Int.natCast_zero,Int.natCast_one,Int.cast_ofNat_Int,Int.ofNat_le,Int.toNat_zero,Nat.sub_zero,Int.le_refl,Int.reduceLT,Int.reduceLE,Int.reduceEq,Int.reduceAdd,Int.reduceSub,Int.reduceMul,Int.reduceToNat,Int.reduceNeg,hlt,hx,c1,c2,c3,Piece.td_d,hi,hcx,rI];refine call_PB (i:=0) (r:=0) (htt) rfl rfl (by simp -implicitDefEqProofs (disch:=omega) only [go_sem,↓reduceIte,deep,TD.rows,immLL_rI,immLL_rB8,immLL_rS,immLL_rBo,immLL_rII,immLL_rIIt];exact rfl) ?_;simp -implicitDefEqProofs (disch:=omega) only [go_sem,↓reduceIte]
          · rw [if_neg hcol];have c3:=decide_eq_false hcol;simp -implicitDefEqProofs (disch:=omega) only [go_sem,↓reduceIte ,List.length_map,Int.toNat_natCast,Int.ofNat_lt,Int.natCast_nonneg,List.getElem?_map,Option.map_some,Int.natCast_zero,Int.natCast_one,Int.cast_ofNat_Int,Int.ofNat_le,Int.toNat_zero,Nat.sub_zero,Int.le_refl,Int.reduceLT,Int.reduceLE,Int.reduceEq,Int.reduceAdd,Int.reduceSub,Int.reduceMul,Int.reduceToNat,Int.reduceNeg,hlt,hx,c1,c2,c3,Piece.td_d,hi,hcx,rI]
    · obtain rfl:j=s.pieces.length:=(by have:¬ j<s.pieces.length:=(by simpa using hlt);omega);rw [List.take_length] at hnone;rw [hnone];dsimp only;by_cases hm:K.most≤(s.pieces.length:Int)
      · rw [if_pos hm];have hm':=decide_eq_true hm;simp -implicitDefEqProofs (disch:=omega) only [go_sem,↓reduceIte ,List.length_map,Int.toNat_natCast,Int.ofNat_lt,Int.natCast_nonneg,List.getElem?_map,Option.map_some,List.length_map,hm']
      · rw [if_neg hm];unfold newI;have hm':=decide_eq_false hm;have hE:=v_each_step (K:=K) (go:=fun no=>colsI (fun e=>tryI (cellI K n) i ⟨K.Cells.getD i 0,no,e,so,we⟩)) (P:=OkL K s.pieces.length) (Q:=OkI K) (x1:=(i:Int)) (x2:=so) (x3:=we) (fun _ _ hn h=>⟨h.1.rows hn,h.2⟩)
          (fun _ _ h0 h1 h=>okI_col hK (okF_cell hK n) i hgs hgw (glu_k h0 h1) (by omega) h) (fun b k s h0 h1 hs=>v_srStep1 hK hi (by omega) hgs hgw ht b k s h0 h1 hs) _ ⟨hh,Nat.le_refl _⟩ h.ro
        simp -implicitDefEqProofs (disch:=omega) only [go_sem,↓reduceIte ,List.length_map,Int.toNat_natCast,Int.ofNat_lt,Int.natCast_nonneg,List.getElem?_map,Option.map_some,List.length_map,hm'];refine call_each (hE b) rfl rfl (by decide) rfl rfl (by simp -implicitDefEqProofs (disch:=omega) only [go_sem,↓reduceIte,deep,TD.rows,immLL_rI,immLL_rB8,immLL_rS,immLL_rBo,immLL_rII,immLL_rIIt,gone2];exact rfl) (by repeat (first | exact leL_nil | refine leL_cons ?_ ?_ | exact le_of_eq rfl | exact le_iptrN (leL_of_eq rfl) | refine le_agg ?_ | exact le_slf rfl (TD.rows ..) | refine le_iptr ?_ | refine le_fn ?_ ?_ | exact le_nilsl_)) (by simp only [pruneL,D.prune]) ?_;simp -implicitDefEqProofs (disch:=omega) only [go_sem,↓reduceIte]
def code_impl_designSearch_bottom:VCode:=(.seq (.ops [
  ⟨some 2,none,.box (.tmp 0)⟩,
  ⟨some 3,none,.box (.tmp 1)⟩,
  ⟨some 4,none,.asg (.const (.bool false))⟩]) (.seq (.seq (.draw [false,false,false,false,false,true,true,true,true,true,true] [] [⟨0,[false,false,false,false,false,true,true,true,true,true,true],[],⟨some 5,none,.load 1 false (.tmp 3)⟩⟩,⟨1,[false,false,false,false,false,true,true,true,true,true,true],[],⟨some 6,none,.load 1 false (.tmp 2)⟩⟩,⟨2,[false,false,false,false,false,true,false,true,true,true,true],[],⟨some 7,none,.nilc (.tmp 6)⟩⟩,⟨3,[false,false,false,false,false,true,false,false,true,true,true],[],⟨some 8,none,.fa 0 (.tmp 7)⟩⟩,⟨4,[false,false,false,false,false,true,false,false,false,true,true],[],⟨some 9,none,.fa 0 (.tmp 8)⟩⟩,⟨5,[false,false,false,false,false,true,false,false,false,false,true],[],⟨some 10,none,.load 1 false (.tmp 9)⟩⟩] [⟨some 11,none,.bin .geq (.tmp 5) (.tmp 10)⟩]) (.cond (.tmp 11) (.seq (.ops [
  ⟨some 12,none,.load 1 false (.tmp 2)⟩,
  ⟨some 13,none,.load 1 false (.tmp 3)⟩,
  ⟨some 14,none,.callX 112 [(.tmp 12),(.tmp 13)]⟩,
  ⟨some 4,none,.asg (.tmp 14)⟩]) .ret) .skip)) (.seq (.ops [
  ⟨some 15,none,.load 1 false (.tmp 2)⟩,
  ⟨some 16,none,.nilc (.tmp 15)⟩,
  ⟨some 17,none,.fa 7 (.tmp 16)⟩,
  ⟨some 18,none,.mkf 113 [] [(.tmp 2),(.tmp 3)]⟩,
  ⟨some 19,none,.callX 97 [(.tmp 17),(.tmp 18)]⟩,
  ⟨some 4,none,.asg (.tmp 19)⟩]) .ret)))
theorem law_impl_designSearch_bottom {a0 a1 d:D}{cells cells':List D}(h:∀ b,code_impl_designSearch_bottom.wp (CT Try.prog NoG) (endX [(.t 4)] d 0 b cells') [.box (some b) cells,a1,.undef,.undef,.undef,.undef,.undef,.undef,.undef,.undef,.undef,.undef,.undef,.undef,.undef,.undef,.undef,.undef,.undef,.undef]):ContractX Try.prog NoG 99 0 [a0,a1] cells d cells' :=
  contract_ofX (pt:=0) noG Try.func99 (fun us W=>by kernel_rfl) (c:=Try.f99.body.getD .skip) (ms:=[]) (ms':=[]) (by kernel_rfl) (by kernel_rfl) (by kernel_rfl) (by simp) h
def code_impl_designSearch_cell:VCode:=(.seq (.ops [
  ⟨some 2,none,.box (.tmp 0)⟩,
  ⟨some 3,none,.box (.tmp 1)⟩,
  ⟨some 4,none,.asg (.const (.bool false))⟩]) (.seq (.block 0 (.seq (.draw (mB 13 8128) [] [⟨0,mB 13 8128,[],⟨some 6,none,.load 1 false (.tmp 3)⟩⟩,⟨1,mB 13 8128,[],⟨some 7,none,.load 1 false (.tmp 2)⟩⟩,⟨2,mB 13 8000,[],⟨some 8,none,.nilc (.tmp 7)⟩⟩,⟨3,mB 13 7744,[],⟨some 9,none,.fa 0 (.tmp 8)⟩⟩,⟨4,mB 13 7232,[],⟨some 10,none,.fa 2 (.tmp 9)⟩⟩,⟨5,mB 13 6208,[],⟨some 11,none,.load 1 false (.tmp 10)⟩⟩,⟨6,mB 13 4160,[],⟨some 12,none,.len (.tmp 11)⟩⟩] [⟨some 13,none,.bin .eql (.tmp 6) (.tmp 12)⟩,⟨some 5,none,.asg (.tmp 13)⟩]) (.cond (.tmp 5) (.seq (.ops [
  ⟨some 4,none,.asg (.const (.bool true))⟩]) .ret) (.seq (.draw (mB 21 2064384) [] [⟨0,mB 21 2064384,[],⟨some 15,none,.load 1 false (.tmp 3)⟩⟩,⟨1,mB 21 2064384,[],⟨some 16,none,.load 1 false (.tmp 2)⟩⟩,⟨2,mB 21 1998848,[],⟨some 17,none,.nilc (.tmp 16)⟩⟩,⟨3,mB 21 1867776,[],⟨some 18,none,.fa 0 (.tmp 17)⟩⟩,⟨4,mB 21 1605632,[],⟨some 19,none,.fa 0 (.tmp 18)⟩⟩,⟨5,mB 21 1081344,[],⟨some 20,none,.load 1 false (.tmp 19)⟩⟩] [⟨some 21,none,.bin .rem (.tmp 15) (.tmp 20)⟩,⟨some 22,none,.bin .eql (.tmp 21) (.const (.int .i64 0))⟩,⟨some 14,none,.asg (.tmp 22)⟩]) (.cond (.tmp 14) (.seq (.ops [
  ⟨some 23,none,.load 1 false (.tmp 2)⟩,
  ⟨some 24,none,.nilc (.tmp 23)⟩,
  ⟨some 25,none,.fa 8 (.tmp 24)⟩,
  ⟨some 26,none,.mkf 98 [] [(.tmp 2),(.tmp 3)]⟩,
  ⟨some 27,none,.callX 97 [(.tmp 25),(.tmp 26)]⟩,
  ⟨some 4,none,.asg (.tmp 27)⟩]) .ret) .skip))))) (.seq (.ops [
  ⟨some 28,none,.load 1 false (.tmp 2)⟩,
  ⟨some 29,none,.load 1 false (.tmp 3)⟩,
  ⟨some 30,none,.callX 99 [(.tmp 28),(.tmp 29)]⟩,
  ⟨some 4,none,.asg (.tmp 30)⟩]) .ret)))
theorem law_impl_designSearch_cell {a0 a1 d:D}{cells cells':List D}(h:∀ b,code_impl_designSearch_cell.wp (CT Try.prog NoG) (endX [(.t 4)] d 0 b cells') [.box (some b) cells,a1,.undef,.undef,.undef,.undef,.undef,.undef,.undef,.undef,.undef,.undef,.undef,.undef,.undef,.undef,.undef,.undef,.undef,.undef,.undef,.undef,.undef,.undef,.undef,.undef,.undef,.undef,.undef,.undef,.undef]):ContractX Try.prog NoG 73 0 [a0,a1] cells d cells' :=
  contract_ofX (pt:=0) noG Try.func73 (fun us W=>by kernel_rfl) (c:=Try.f73.body.getD .skip) (ms:=[]) (ms':=[]) (by kernel_rfl) (by kernel_rfl) (by kernel_rfl) (by simp) h
theorem v_srBottom {K:SK}(hK:OkK K){n i:Nat}(hi:i<K.Cells.length)(hb:MethS Try.prog K 112 i (stepI K (cellI K n) i)):MethS Try.prog K 99 i (bottomI K (cellI K n) i):=by
  intro s h;unfold bottomI;by_cases hw:K.W≤i
  · rw [if_pos hw];have hbb:=hb s h;have hw':decide ((K.W:Int)≤(i:Int))=true:=decide_eq_true (by omega);refine law_impl_designSearch_bottom ?_;intro b;unfold code_impl_designSearch_bottom;simp -implicitDefEqProofs (disch:=omega) only [go_sem,↓reduceIte ,hw'];refine call_PB (i:=0) (r:=0) (hbb) rfl rfl (by simp -implicitDefEqProofs (disch:=omega) only [go_sem,↓reduceIte,deep,TD.rows,immLL_rI,immLL_rB8,immLL_rS,immLL_rBo,immLL_rII,immLL_rIIt];exact rfl) ?_;simp -implicitDefEqProofs (disch:=omega) only [go_sem,↓reduceIte]
  · rw [if_neg hw];have hw':decide ((K.W:Int)≤(i:Int))=false:=decide_eq_false (by omega);have hE:=v_each_bottom (K:=K) (go:=fun k s=>stepI K (cellI K n) i (botI i k s)) (P:=OkI K) (Q:=OkI K) (x1:=(i:Int)) (fun _ _ hn h=>h.rows hn)
      (fun _ _ h0 h1 h=>.of (okF_step hK (okF_cell hK n) i _ (h.bot i (glu_k h0 h1)))) (fun b k s h0 h1 hs=>v_srBot1 hK (by omega) hb b k s h0 h1 hs) s h h.ro
    refine law_impl_designSearch_bottom ?_;intro b;unfold code_impl_designSearch_bottom;simp -implicitDefEqProofs (disch:=omega) only [go_sem,↓reduceIte ,hw'];refine call_each (hE b) rfl rfl (by decide) rfl rfl (by simp -implicitDefEqProofs (disch:=omega) only [go_sem,↓reduceIte,deep,TD.rows,immLL_rI,immLL_rB8,immLL_rS,immLL_rBo,immLL_rII,immLL_rIIt,gone2];exact rfl) (by repeat (first | exact leL_nil | refine leL_cons ?_ ?_ | exact le_of_eq rfl | exact le_iptrN (leL_of_eq rfl) | refine le_agg ?_ | exact le_slf rfl (TD.rows ..) | refine le_iptr ?_ | refine le_fn ?_ ?_ | exact le_nilsl_)) (by simp only [pruneL,D.prune]) ?_;simp -implicitDefEqProofs (disch:=omega) only [go_sem,↓reduceIte]
theorem v_srCell {K:SK}(hK:OkK K){n:Nat}(hn:n<K.Cells.length)(hb:MethS Try.prog K 99 (K.Cells.length-(n+1)) (bottomI K (cellI K n) (K.Cells.length-(n+1)))):MethS Try.prog K 73 (K.Cells.length-(n+1)) (cellI K (n+1)):=by
  intro s h;have hN:=hK.nle;have hW0:(K.W:Int)≠0:=by have:=hK.w;omega
  have hne:decide (((K.Cells.length-(n+1):Nat):Int)=((K.Cells.length:Nat):Int))=false:=decide_eq_false (by omega);unfold cellI;have hi:K.Cells.length-(n+1)<K.Cells.length:=(by omega);generalize K.Cells.length-(n+1)=i at *;by_cases hm:i % K.W=0
  · rw [if_pos hm];have hm':decide (((i % K.W:Nat):Int)=0)=true:=decide_eq_true (by omega);have hE:=v_each_cell (K:=K) (go:=fun k s=>bottomI K (cellI K n) i (lefI (i / K.W) k s)) (P:=OkI K) (Q:=OkI K) (x1:=(i:Int)) (fun _ _ hn h=>h.cols hn)
      (fun _ _ h0 h1 h=>.of (okF_bottom hK (okF_cell hK n) i _ (h.lef _ (glu_k h0 h1)))) (fun b k s h0 h1 hs=>v_srCell1 hK hi hb b k s h0 h1 hs) s h h.co
    refine law_impl_designSearch_cell ?_;intro b;unfold code_impl_designSearch_cell;simp -implicitDefEqProofs (disch:=omega) only [go_sem,↓reduceIte ,List.length_map,hne,tmodN,hW0,ne_eq,not_false_eq_true,hm'];refine call_each (hE b) rfl rfl (by decide) rfl rfl (by simp -implicitDefEqProofs (disch:=omega) only [go_sem,↓reduceIte,deep,TD.rows,immLL_rI,immLL_rB8,immLL_rS,immLL_rBo,immLL_rII,immLL_rIIt,gone2];exact rfl) (by repeat (first | exact leL_nil | refine leL_cons ?_ ?_ | exact le_of_eq rfl | exact le_iptrN (leL_of_eq rfl) | refine le_agg ?_ | exact le_slf rfl (TD.rows ..) | refine le_iptr ?_ | refine le_fn ?_ ?_ | exact le_nilsl_)) (by simp only [pruneL,D.prune]) ?_;simp -implicitDefEqProofs (disch:=omega) only [go_sem,↓reduceIte]
  · rw [if_neg hm];have hm':decide (((i % K.W:Nat):Int)=0)=false:=decide_eq_false (by omega);have hbb:=hb s h;refine law_impl_designSearch_cell ?_;intro b;unfold code_impl_designSearch_cell;simp -implicitDefEqProofs (disch:=omega) only [go_sem,↓reduceIte ,List.length_map,hne,tmodN,hW0,ne_eq,not_false_eq_true,hm'];refine call_PB (i:=0) (r:=0) (hbb) rfl rfl (by simp -implicitDefEqProofs (disch:=omega) only [go_sem,↓reduceIte,deep,TD.rows,immLL_rI,immLL_rB8,immLL_rS,immLL_rBo,immLL_rII,immLL_rIIt];exact rfl) ?_;simp -implicitDefEqProofs (disch:=omega) only [go_sem,↓reduceIte]
theorem v_srEnd {K:SK}(hK:OkK K):MethS Try.prog K 73 K.Cells.length (cellI K 0):=by intro s h;rw [show cellI K 0 s=(true,s) from rfl];refine law_impl_designSearch_cell ?_;intro b;unfold code_impl_designSearch_cell;simp -implicitDefEqProofs (disch:=omega) only [go_sem,↓reduceIte ,List.length_map,decide_true]
theorem v_srAll {K:SK}(hK:OkK K):∀ n,n≤K.Cells.length→MethS Try.prog K 73 (K.Cells.length-n) (cellI K n)
  | 0,_=>v_srEnd hK
  | n+1,hn=>by have ih:=v_srAll hK n (by omega);rw [show K.Cells.length-n=K.Cells.length-(n+1)+1 by omega] at ih;have hi:K.Cells.length-(n+1)<K.Cells.length:=(by omega);exact v_srCell hK hn (v_srBottom hK hi (v_srStep hK hi fun p hp s h=>v_srTake hK hi ih p hp s h))
def srK (q:Pattern)(m b:Int):SK:=⟨q.Width.toNat,q.Height.toNat,q.Cells,m,b⟩
def sr0 (K:SK):SI:=⟨0,false,0,0,List.replicate K.W 0,List.replicate K.H 0,[],List.replicate K.Cells.length 0,List.replicate K.Cells.length 0⟩
def ds0:Design:=⟨[],[],[]⟩
def srOut (o:Bool×SI):Design×Int×Int:=if o.2.broke then (ds0,o.2.steps,8) else if o.1 then (⟨o.2.bottom,o.2.left,o.2.pieces⟩,o.2.steps,0) else (ds0,o.2.steps,3)
def srAsk (q:Pattern)(m b:Int):Int:=if okPattern q=false then 1 else if inR 0 20000 b=false then 2 else if inR 0 100 m=false then 2 else 0
def srAll (q:Pattern)(m b:Int):Design×Int×Int:=if srAsk q m b=0 then srOut (cellI (srK q m b) q.Cells.length (sr0 (srK q m b))) else (ds0,0,srAsk q m b)
def SearchDesignR (q:Pattern)(m b:Int):Design:=(srAll q m b).1
def SearchDesignS (q:Pattern)(m b:Int):Int:=(srAll q m b).2.1
def SearchDesignC (q:Pattern)(m b:Int):Int:=(srAll q m b).2.2
theorem okPat_iff {q:Pattern}(h:okPattern q=true):∃ W H:Nat,q.Width=(W:Int)∧q.Height=(H:Int)∧(0<W∧W≤10)∧(0<H∧H≤10)∧q.Cells.length=H*W∧∀ x,x∈q.Cells→0≤x∧x≤5:=by
  unfold okPattern at h;simp only [Bool.and_eq_true,decide_eq_true_eq,inR_iff] at h;obtain ⟨h1,h2,h3,h4⟩:=h;obtain ⟨W,hW⟩:=Int.eq_ofNat_of_zero_le (a:=q.Width) (by omega);obtain ⟨H,hH⟩:=Int.eq_ofNat_of_zero_le (a:=q.Height) (by omega);refine ⟨W,H,hW,hH,by omega,by omega,?_,fun x hx=>?_⟩
  · rw [hW,hH,← Int.natCast_mul] at h3;rw [Nat.mul_comm];omega
  · exact inR_iff.1 (List.all_eq_true.1 h4 x hx)
theorem srK_ok {q:Pattern}{m b:Int}(h:srAsk q m b=0):OkK (srK q m b):=by
  unfold srAsk at h;cases h1:okPattern q with
  | false=>rw [h1] at h;simp at h
  | true =>
  cases h2:inR 0 20000 b with
  | false=>rw [h1,h2] at h;simp at h
  | true =>
  cases h3:inR 0 100 m with
  | false=>rw [h1,h2,h3] at h;simp at h
  | true =>
  obtain ⟨W,H,e1,e2,a1,a2,a3,a4⟩:=okPat_iff h1;exact ⟨by simpa [srK,e1] using a1,by simpa [srK,e2] using a2,by simpa [srK,e1,e2] using a3,a4,inR_iff.1 h3,inR_iff.1 h2⟩
theorem sr0_ok {K:SK}(hK:OkK K):OkI K (sr0 K):=by
  have hg:∀ n x,x∈List.replicate n (0:Int)→Glu x:=fun n x hx=>by rw [(List.mem_replicate.1 hx).2];exact ⟨by omega,by omega⟩
  exact ⟨⟨Int.le_refl _,hK.b.1⟩,⟨Int.le_refl _,by show (0:Int)≤120;decide⟩,⟨Int.le_refl _,by show (0:Int)≤120;decide⟩,by simp [sr0],by simp [sr0],by simp [sr0],by simp [sr0],by have:=hK.m;simp [sr0];omega,hg _,hg _,hg _,hg _,fun p hp=>by cases hp⟩
theorem srOut_ok {K:SK}{o:Bool×SI}(h:OkI K o.2)(hK:OkK K):Design.td.ok (srOut o).1∧(srOut o).1.Bottom.length≤10∧(srOut o).1.Left.length≤10∧(srOut o).1.Pieces.length≤100∧0≤(srOut o).2.1∧(srOut o).2.1≤20000:=by
  have h0:Design.td.ok ds0:=(by rw [Design.td_ok];exact ⟨fun x hx=>(by cases hx),fun x hx=>(by cases hx),fun x hx=>(by cases hx)⟩);have hst:0≤o.2.steps∧o.2.steps≤20000:=⟨h.st.1,Int.le_trans h.st.2 hK.b.2⟩
  have hs:∀ x,Glu x→InK .i64 x:=fun x hx=>⟨by have:=hx.1;omega,by have:=hx.2;omega⟩
  unfold srOut;split
  · exact ⟨h0,by simp [ds0],by simp [ds0],by simp [ds0],hst⟩
  · split
    · refine ⟨?_,by simp only [h.lb];exact hK.w.2,by simp only [h.ll];exact hK.h.2,by have:=h.lp;have:=hK.m;dsimp only;omega,hst⟩;rw [Design.td_ok];refine ⟨fun x hx=>hs x (h.bo x hx),fun x hx=>hs x (h.lo x hx),fun p hp=>?_⟩;obtain ⟨p1,p2,p3,p4,p5⟩:=h.pi p hp;have p1':Glu p.Color:=⟨p1.1,by omega⟩
      exact ⟨hs _ p1',hs _ p2,hs _ p3,hs _ p4,hs _ p5⟩
    · exact ⟨h0,by simp [ds0],by simp [ds0],by simp [ds0],hst⟩
theorem srAll_ok (q:Pattern)(m b:Int):Design.td.ok (srAll q m b).1∧(srAll q m b).1.Bottom.length≤10∧(srAll q m b).1.Left.length≤10∧(srAll q m b).1.Pieces.length≤100:=by
  unfold srAll;split
  · rename_i h;have hK:=srK_ok h;obtain ⟨h1,h2,h3,h4,_⟩:=srOut_ok (okF_cell hK q.Cells.length _ (sr0_ok hK)) hK;exact ⟨h1,h2,h3,h4⟩
  · refine ⟨?_,by simp [ds0],by simp [ds0],by simp [ds0]⟩;rw [Design.td_ok];exact ⟨fun x hx=>(by cases hx),fun x hx=>(by cases hx),fun x hx=>(by cases hx)⟩
theorem SearchDesignR_ok (q:Pattern)(_:Pattern.td.ok q)(_:Pattern.cnt q≤1048576)(m:Int)(_:InK .i64 m)(b:Int)(_:InK .i64 b):Design.td.ok (SearchDesignR q m b):=(srAll_ok q m b).1
theorem SearchDesignR_cn (q:Pattern)(m b:Int):Design.cnT (SearchDesignR q m b)≤1000000000000:=by have h1:=Design.cnT_le (SearchDesignR q m b);unfold Design.cnt at h1;obtain ⟨_,h2,h3,h4⟩:=srAll_ok q m b;unfold SearchDesignR at *;omega
def code_impl_searchCode:VCode:=(.seq (.ops [
  ⟨some 2,none,.box (.tmp 0)⟩,
  ⟨some 4,none,.asg (.const (.int .i64 0))⟩]) (.seq (.block 0 (.seq (.ops [
  ⟨some 6,none,.load 3 true (.tmp 2)⟩,
  ⟨some 7,none,.callX 60 [(.tmp 6)]⟩,
  ⟨some 8,none,.un .not (.tmp 7)⟩,
  ⟨some 5,none,.asg (.tmp 8)⟩]) (.cond (.tmp 5) (.seq (.ops [
  ⟨some 4,none,.asg (.const (.int .i64 1))⟩]) .ret) (.seq (.ops [
  ⟨some 10,none,.mv (.tmp 1)⟩,
  ⟨some 11,none,.callX 48 [(.tmp 10),(.const (.int .i64 0)),(.const (.int .i64 20000))]⟩,
  ⟨some 12,none,.un .not (.tmp 11)⟩,
  ⟨some 9,none,.asg (.tmp 12)⟩]) (.cond (.tmp 9) (.seq (.ops [
  ⟨some 4,none,.asg (.const (.int .i64 2))⟩]) .ret) .skip))))) (.seq (.ops [
  ⟨some 4,none,.asg (.const (.int .i64 0))⟩]) .ret)))
theorem law_impl_searchCode {a0 a1 d:D}(h:code_impl_searchCode.wp (CT Try.prog NoG) (endQ [(.t 4)] d) [a0,a1,.undef,.undef,.undef,.undef,.undef,.undef,.undef,.undef,.undef,.undef,.undef]):Contract Try.prog NoG 47 [a0,a1] d :=
  contract_of (pt:=0) noG Try.func47 (fun us W=>by kernel_rfl) (c:=Try.f47.body.getD .skip) (ms:=[]) (ms':=[]) (by kernel_rfl) (by kernel_rfl) (by kernel_rfl) h
def code_impl_searchDesign:VCode:=(.seq (.ops [
  ⟨some 3,none,.box (.tmp 0)⟩,
  ⟨some 6,none,.alloc [(.slice none 0 0),(.slice none 0 0),(.slice none 0 0)]⟩,
  ⟨some 7,none,.asg (.const (.int .i64 0))⟩,
  ⟨some 8,none,.asg (.const (.int .i64 0))⟩]) (.seq (.ops [
  ⟨some 12,none,.fa 2 (.tmp 3)⟩,
  ⟨some 13,none,.load 1 false (.tmp 12)⟩,
  ⟨some 14,none,.len (.tmp 13)⟩,
  ⟨some 9,none,.asg (.tmp 14)⟩]) (.seq (.draw (mB 22 4161536) [] [⟨0,mB 22 4161536,[],⟨some 15,none,.load 3 true (.tmp 3)⟩⟩,⟨1,mB 22 4161536,[],⟨some 16,none,.mv (.tmp 1)⟩⟩,⟨2,mB 22 4161536,[],⟨some 17,none,.mv (.tmp 2)⟩⟩,⟨3,mB 22 4161536,[],⟨some 18,none,.mv (.tmp 9)⟩⟩,⟨4,mB 22 3899392,[],⟨some 19,none,.mks 1 8 [(.int .i64 0)] (.tmp 18) (.tmp 18)⟩⟩,⟨5,mB 22 4161536,[],⟨some 20,none,.mv (.tmp 9)⟩⟩,⟨6,mB 22 3112960,[],⟨some 21,none,.mks 1 8 [(.int .i64 0)] (.tmp 20) (.tmp 20)⟩⟩] [⟨some 22,none,.build [(.int .i64 0),(.int .i64 0),(.slice none 0 0),(.int .i64 0),(.int .i64 0),(.int .i64 0),(.bool false),(.int .i64 0),(.int .i64 0),(.slice none 0 0),(.slice none 0 0),(.slice none 0 0),(.slice none 0 0),(.slice none 0 0)] [(0,3,(.tmp 15)),(3,1,(.tmp 16)),(4,1,(.tmp 17)),(12,1,(.tmp 19)),(13,1,(.tmp 21))]⟩,⟨some 23,none,.box (.tmp 22)⟩,⟨some 10,none,.asg (.tmp 23)⟩]) (.seq (.draw (mB 32 4278190080) (mB 31 1207959552) [⟨0,mB 32 4278190080,[],⟨some 24,none,.mv (.tmp 10)⟩⟩,⟨1,mB 32 4278190080,[],⟨some 25,none,.fa 0 (.tmp 3)⟩⟩,⟨2,mB 32 4244635648,[],⟨some 26,none,.load 1 false (.tmp 25)⟩⟩,⟨3,mB 32 4177526784,[],⟨some 27,none,.mks 1 8 [(.int .i64 0)] (.tmp 26) (.tmp 26)⟩⟩,⟨4,mB 32 4278190080,[],⟨some 28,none,.fa 1 (.tmp 3)⟩⟩,⟨5,mB 32 4009754624,[],⟨some 29,none,.load 1 false (.tmp 28)⟩⟩,⟨6,mB 32 3472883712,[],⟨some 30,none,.mks 1 8 [(.int .i64 0)] (.tmp 29) (.tmp 29)⟩⟩,⟨7,mB 32 2164260864,(mB 31 1207959552),⟨some 31,none,.build [(.slice none 0 0),(.slice none 0 0),(.slice none 0 0)] [(0,1,(.tmp 27)),(1,1,(.tmp 30))]⟩⟩] [⟨some 32,none,.nilc (.tmp 24)⟩,⟨some 33,none,.fa 9 (.tmp 32)⟩,⟨none,none,.store 3 (.tmp 33) (.tmp 31)⟩]) (.seq (.ops [
  ⟨some 34,none,.mv (.tmp 10)⟩,
  ⟨some 35,none,.callX 73 [(.tmp 34),(.const (.int .i64 0))]⟩,
  ⟨some 11,none,.asg (.tmp 35)⟩]) (.seq (.block 0 (.seq (.ops [
  ⟨some 37,none,.mv (.tmp 10)⟩,
  ⟨some 38,none,.nilc (.tmp 37)⟩,
  ⟨some 39,none,.fa 6 (.tmp 38)⟩,
  ⟨some 40,none,.load 1 false (.tmp 39)⟩,
  ⟨some 36,none,.asg (.tmp 40)⟩]) (.cond (.tmp 36) (.seq (.drawB [(6,3)] [(6,3)] (mB 46 68169720922176) (mB 42 2199023255552) [⟨0,mB 46 68169720922176,[],⟨some 41,none,.build [(.slice none 0 0),(.slice none 0 0),(.slice none 0 0)] []⟩⟩,⟨1,mB 46 68169720922176,[],⟨some 42,none,.mv (.tmp 10)⟩⟩,⟨2,mB 46 63771674411072,[],⟨some 43,none,.nilc (.tmp 42)⟩⟩,⟨3,mB 46 54975581388864,[],⟨some 44,none,.fa 5 (.tmp 43)⟩⟩,⟨4,mB 46 37383395344448,[],⟨some 45,none,.load 1 false (.tmp 44)⟩⟩,⟨5,mB 46 65970697666624,(mB 42 2199023255552),⟨some 6,none,.box (.tmp 41)⟩⟩] [⟨some 7,none,.asg (.tmp 45)⟩,⟨some 8,none,.asg (.const (.int .i64 8))⟩]) .ret) (.seq (.ops [
  ⟨some 47,none,.mv (.tmp 11)⟩,
  ⟨some 48,none,.un .not (.tmp 47)⟩,
  ⟨some 46,none,.asg (.tmp 48)⟩]) (.cond (.tmp 46) (.seq (.drawB [(6,3)] [(6,3)] (mB 54 0x3e000000000040) (mB 50 0x2000000000000) [⟨0,mB 54 0x3e000000000040,[],⟨some 49,none,.build [(.slice none 0 0),(.slice none 0 0),(.slice none 0 0)] []⟩⟩,⟨1,mB 54 0x3e000000000040,[],⟨some 50,none,.mv (.tmp 10)⟩⟩,⟨2,mB 54 0x3a000000000040,[],⟨some 51,none,.nilc (.tmp 50)⟩⟩,⟨3,mB 54 0x32000000000040,[],⟨some 52,none,.fa 5 (.tmp 51)⟩⟩,⟨4,mB 54 0x22000000000040,[],⟨some 53,none,.load 1 false (.tmp 52)⟩⟩,⟨5,mB 54 0x3c000000000040,(mB 50 0x2000000000000),⟨some 6,none,.box (.tmp 49)⟩⟩] [⟨some 7,none,.asg (.tmp 53)⟩,⟨some 8,none,.asg (.const (.int .i64 3))⟩]) .ret) .skip))))) (.seq (.drawB [(6,3)] [(6,3)] (mB 62 0x3fc0000000000040) (mB 58 0x200000000000000) [⟨0,mB 62 0x3fc0000000000040,[],⟨some 54,none,.mv (.tmp 10)⟩⟩,⟨1,mB 62 0x3f80000000000040,[],⟨some 55,none,.nilc (.tmp 54)⟩⟩,⟨2,mB 62 0x3f00000000000040,[],⟨some 56,none,.fa 9 (.tmp 55)⟩⟩,⟨3,mB 62 0x3e00000000000040,[],⟨some 57,none,.load 3 true (.tmp 56)⟩⟩,⟨4,mB 62 0x3fc0000000000040,[],⟨some 58,none,.mv (.tmp 10)⟩⟩,⟨5,mB 62 0x3bc0000000000040,[],⟨some 59,none,.nilc (.tmp 58)⟩⟩,⟨6,mB 62 0x33c0000000000040,[],⟨some 60,none,.fa 5 (.tmp 59)⟩⟩,⟨7,mB 62 0x23c0000000000040,[],⟨some 61,none,.load 1 false (.tmp 60)⟩⟩,⟨8,mB 62 0x3c00000000000040,(mB 58 0x200000000000000),⟨some 6,none,.box (.tmp 57)⟩⟩] [⟨some 7,none,.asg (.tmp 61)⟩,⟨some 8,none,.asg (.const (.int .i64 0))⟩]) .ret)))))))
theorem law_impl_searchDesign {a0 a1 a2 d:D}(h:code_impl_searchDesign.wp (CT Try.prog NoG) (endQ [(.c 6 3 true),(.t 7),(.t 8)] d) [a0,a1,a2,.undef,.undef,.undef,.undef,.undef,.undef,.undef,.undef,.undef,.undef,.undef,.undef,.undef,.undef,.undef,.undef,.undef,.undef,.undef,.undef,.undef,.undef,.undef,.undef,.undef,.undef,.undef,.undef,.undef,.undef,.undef,.undef,.undef,.undef,.undef,.undef,.undef,.undef,.undef,.undef,.undef,.undef,.undef,.undef,.undef,.undef,.undef,.undef,.undef,.undef,.undef,.undef,.undef,.undef,.undef,.undef,.undef,.undef,.undef]):Contract Try.prog NoG 49 [a0,a1,a2] d :=
  contract_of (pt:=0) noG Try.func49 (fun us W=>by kernel_rfl) (c:=Try.f49.body.getD .skip) (ms:=[]) (ms':=[]) (by kernel_rfl) (by kernel_rfl) (by kernel_rfl) h
def code_impl_SearchDesign:VCode:=(.seq (.ops [
  ⟨some 3,none,.box (.tmp 0)⟩,
  ⟨some 6,none,.alloc [(.slice none 0 0),(.slice none 0 0),(.slice none 0 0)]⟩,
  ⟨some 7,none,.asg (.const (.int .i64 0))⟩,
  ⟨some 8,none,.asg (.const (.int .i64 0))⟩]) (.seq (.seq (.ops [
  ⟨some 10,none,.load 3 true (.tmp 3)⟩,
  ⟨some 11,none,.mv (.tmp 2)⟩,
  ⟨some 12,none,.callX 47 [(.tmp 10),(.tmp 11)]⟩,
  ⟨some 9,none,.asg (.tmp 12)⟩]) (.seq (.ops [
  ⟨some 13,none,.mv (.tmp 9)⟩,
  ⟨some 14,none,.bin .neq (.tmp 13) (.const (.int .i64 0))⟩]) (.cond (.tmp 14) (.seq (.ops [
  ⟨some 15,none,.build [(.slice none 0 0),(.slice none 0 0),(.slice none 0 0)] []⟩,
  ⟨some 16,none,.mv (.tmp 9)⟩,
  ⟨none,none,.store 3 (.tmp 6) (.tmp 15)⟩,
  ⟨some 7,none,.asg (.const (.int .i64 0))⟩,
  ⟨some 8,none,.asg (.tmp 16)⟩]) .ret) .skip))) (.seq (.seq (.ops [
  ⟨some 17,none,.mv (.tmp 1)⟩,
  ⟨some 18,none,.callX 48 [(.tmp 17),(.const (.int .i64 0)),(.const (.int .i64 100))]⟩,
  ⟨some 19,none,.un .not (.tmp 18)⟩]) (.cond (.tmp 19) (.seq (.ops [
  ⟨some 20,none,.build [(.slice none 0 0),(.slice none 0 0),(.slice none 0 0)] []⟩,
  ⟨none,none,.store 3 (.tmp 6) (.tmp 20)⟩,
  ⟨some 7,none,.asg (.const (.int .i64 0))⟩,
  ⟨some 8,none,.asg (.const (.int .i64 2))⟩]) .ret) .skip)) (.seq (.ops [
  ⟨some 21,none,.load 3 true (.tmp 3)⟩,
  ⟨some 22,none,.mv (.tmp 1)⟩,
  ⟨some 23,none,.mv (.tmp 2)⟩,
  ⟨some 24,none,.callX 49 [(.tmp 21),(.tmp 22),(.tmp 23)]⟩,
  ⟨some 25,none,.ext (.tmp 24) 0⟩,
  ⟨some 26,none,.ext (.tmp 24) 1⟩,
  ⟨some 27,none,.ext (.tmp 24) 2⟩,
  ⟨none,none,.store 3 (.tmp 6) (.tmp 25)⟩,
  ⟨some 7,none,.asg (.tmp 26)⟩,
  ⟨some 8,none,.asg (.tmp 27)⟩]) .ret))))
theorem law_impl_SearchDesign {a0 a1 a2 d:D}(h:code_impl_SearchDesign.wp (CT Try.prog NoG) (endQ [(.c 6 3 true),(.t 7),(.t 8)] d) [a0,a1,a2,.undef,.undef,.undef,.undef,.undef,.undef,.undef,.undef,.undef,.undef,.undef,.undef,.undef,.undef,.undef,.undef,.undef,.undef,.undef,.undef,.undef,.undef,.undef,.undef,.undef]):Contract Try.prog NoG 17 [a0,a1,a2] d :=
  contract_of (pt:=0) noG Try.func17 (fun us W=>by kernel_rfl) (c:=Try.f17.body.getD .skip) (ms:=[]) (ms':=[]) (by kernel_rfl) (by kernel_rfl) (by kernel_rfl) h
theorem v_searchCode (q:Pattern)(b:Int)(hn:q.Cells.length≤1048576):Contract Try.prog NoG 47 [.agg (Pattern.td.d false q),.v (.int .i64 b)] (.v (.int .i64 (if okPattern q=false then 1 else if inR 0 20000 b=false then 2 else 0))):=by
  have hv:=v_ValidPattern q hn;rw [Pattern.td_d] at hv ⊢;refine law_impl_searchCode ?_;unfold code_impl_searchCode;cases h1:okPattern q with
  | false=>rw [h1] at hv;simp -implicitDefEqProofs (disch:=omega) only [go_sem,↓reduceIte];refine call_B (hv) (by simp -implicitDefEqProofs (disch:=omega) only [go_sem,↓reduceIte,deep,TD.rows,immLL_rI,immLL_rB8,immLL_rS,immLL_rBo,immLL_rII,immLL_rIIt,Bool.not_false];exact rfl) ?_;simp -implicitDefEqProofs (disch:=omega) only [go_sem,↓reduceIte ,Bool.not_false]
  | true =>
    rw [h1] at hv;cases h2:inR 0 20000 b with
    | false=>simp -implicitDefEqProofs (disch:=omega) only [go_sem,↓reduceIte];refine call_B (hv) (by simp -implicitDefEqProofs (disch:=omega) only [go_sem,↓reduceIte,deep,TD.rows,immLL_rI,immLL_rB8,immLL_rS,immLL_rBo,immLL_rII,immLL_rIIt,Bool.not_true];exact rfl) ?_;simp -implicitDefEqProofs (disch:=omega) only [go_sem,↓reduceIte ,Bool.not_true];refine call_B (v_within _ _ _) (by simp -implicitDefEqProofs (disch:=omega) only [go_sem,↓reduceIte,deep,TD.rows,immLL_rI,immLL_rB8,immLL_rS,immLL_rBo,immLL_rII,immLL_rIIt,h2,Bool.not_false];exact rfl) ?_;simp -implicitDefEqProofs (disch:=omega) only [go_sem,↓reduceIte ,h2,Bool.not_false]
    | true=>simp -implicitDefEqProofs (disch:=omega) only [go_sem,↓reduceIte];refine call_B (hv) (by simp -implicitDefEqProofs (disch:=omega) only [go_sem,↓reduceIte,deep,TD.rows,immLL_rI,immLL_rB8,immLL_rS,immLL_rBo,immLL_rII,immLL_rIIt,Bool.not_true];exact rfl) ?_;simp -implicitDefEqProofs (disch:=omega) only [go_sem,↓reduceIte ,Bool.not_true];refine call_B (v_within _ _ _) (by simp -implicitDefEqProofs (disch:=omega) only [go_sem,↓reduceIte,deep,TD.rows,immLL_rI,immLL_rB8,immLL_rS,immLL_rBo,immLL_rII,immLL_rIIt,h2,Bool.not_true];exact rfl) ?_;simp -implicitDefEqProofs (disch:=omega) only [go_sem,↓reduceIte ,h2,Bool.not_true]
theorem repI (n:Nat):(List.replicate n (0:Int)).map rI=List.replicate n [.v (.int .i64 0)]:=by rw [List.map_replicate]
set_option maxHeartbeats 4000000 in
theorem v_searchDesign (q:Pattern)(m b:Int)(h:srAsk q m b=0):Contract Try.prog NoG 49 [.agg (Pattern.td.d false q),.v (.int .i64 m),.v (.int .i64 b)] (.tup [.agg (Design.td.d true (srAll q m b).1),.v (.int .i64 (srAll q m b).2.1),.v (.int .i64 (srAll q m b).2.2)]):=by
  have hK:=srK_ok h;have hN:=hK.nle;have hAll:=v_srAll hK q.Cells.length (Nat.le_refl _) _ (sr0_ok hK);have hq:okPattern q=true:=by
    cases h1:okPattern q with
    | false=>unfold srAsk at h;rw [h1] at h;simp at h
    | true=>rfl
  obtain ⟨W,H,e1,e2,a1,a2,a3,_⟩:=okPat_iff hq;rw [show (srK q m b).Cells.length-q.Cells.length=0 from Nat.sub_self _] at hAll;unfold srAll;rw [if_pos h];generalize ho:cellI (srK q m b) q.Cells.length (sr0 (srK q m b))=o at *;have hW:(srK q m b).W=W:=(by simp [srK,e1]);have hH:(srK q m b).H=H:=(by simp [srK,e2]);simp only [srD,hW,hH] at hAll;simp only [sr0,hW,hH,repI] at hAll;simp only [srK] at hAll hN;rw [Pattern.td_d,e1,e2,Design.td_d];refine law_impl_searchDesign ?_;unfold code_impl_searchDesign;unfold srOut;cases hb:o.2.broke with
  | true=>simp -implicitDefEqProofs (disch:=omega) only [go_sem,↓reduceIte ,List.length_map];refine ⟨by omega,by omega,by omega,by omega,by omega,by omega,by omega,by omega,by omega,by omega,by omega,by omega,?_⟩;refine call_PB (i:=0) (r:=23) (hAll) rfl rfl (by simp -implicitDefEqProofs (disch:=omega) only [go_sem,↓reduceIte,deep,TD.rows,immLL_rI,immLL_rB8,immLL_rS,immLL_rBo,immLL_rII,immLL_rIIt,Int.toNat_natCast,hb,ds0];exact rfl) ?_;simp -implicitDefEqProofs (disch:=omega) only [go_sem,↓reduceIte ,Int.toNat_natCast,hb,ds0]
  | false =>
    cases hr:o.1 with
    | false=>simp -implicitDefEqProofs (disch:=omega) only [go_sem,↓reduceIte ,List.length_map];refine ⟨by omega,by omega,by omega,by omega,by omega,by omega,by omega,by omega,by omega,by omega,by omega,by omega,?_⟩;refine call_PB (i:=0) (r:=23) (hAll) rfl rfl (by simp -implicitDefEqProofs (disch:=omega) only [go_sem,↓reduceIte,deep,TD.rows,immLL_rI,immLL_rB8,immLL_rS,immLL_rBo,immLL_rII,immLL_rIIt,Int.toNat_natCast,hb,hr,ds0];exact rfl) ?_;simp -implicitDefEqProofs (disch:=omega) only [go_sem,↓reduceIte ,Int.toNat_natCast,hb,hr,ds0]
    | true=>simp -implicitDefEqProofs (disch:=omega) only [go_sem,↓reduceIte ,List.length_map];refine ⟨by omega,by omega,by omega,by omega,by omega,by omega,by omega,by omega,by omega,by omega,by omega,by omega,?_⟩;refine call_PB (i:=0) (r:=23) (hAll) rfl rfl (by simp -implicitDefEqProofs (disch:=omega) only [go_sem,↓reduceIte,deep,TD.rows,immLL_rI,immLL_rB8,immLL_rS,immLL_rBo,immLL_rII,immLL_rIIt,Int.toNat_natCast,hb,hr];exact rfl) ?_;simp -implicitDefEqProofs (disch:=omega) only [go_sem,↓reduceIte ,Int.toNat_natCast,hb,hr]
set_option maxHeartbeats 4000000 in
theorem vSearchDesign_impl (q_aP:Pattern)(q_aP_ok:Pattern.td.ok q_aP)(q_aP_n:Pattern.cnt q_aP≤1048576)(q_aPieces:Int)(q_aPieces_ok:InK .i64 q_aPieces)(q_aBudget:Int)(q_aBudget_ok:InK .i64 q_aBudget):Contract Try.prog NoG 17 [.agg (Pattern.td.d false q_aP),.v (.int .i64 q_aPieces),.v (.int .i64 q_aBudget)] (.tup [.agg (Design.td.d true (SearchDesignR q_aP q_aPieces q_aBudget)),.v (.int .i64 (SearchDesignS q_aP q_aPieces q_aBudget)),.v (.int .i64 (SearchDesignC q_aP q_aPieces q_aBudget))]):=by
  have hn:q_aP.Cells.length≤1048576:=q_aP_n;have hc:=v_searchCode q_aP q_aBudget hn;have hw:=v_within q_aPieces 0 100;unfold SearchDesignR SearchDesignS SearchDesignC;cases h1:okPattern q_aP with
  | false=>have e:srAll q_aP q_aPieces q_aBudget=(ds0,0,1):=(by unfold srAll srAsk;rw [h1];rfl);rw [h1,if_pos rfl] at hc;rw [e,Pattern.td_d,Design.td_d];rw [Pattern.td_d] at hc;refine law_impl_SearchDesign ?_;unfold code_impl_SearchDesign;simp -implicitDefEqProofs (disch:=omega) only [go_sem,↓reduceIte];refine call_B (hc) (by simp -implicitDefEqProofs (disch:=omega) only [go_sem,↓reduceIte,deep,TD.rows,immLL_rI,immLL_rB8,immLL_rS,immLL_rBo,immLL_rII,immLL_rIIt,Int.natCast_zero,Int.natCast_one,Int.cast_ofNat_Int,Int.ofNat_le,Int.toNat_zero,Nat.sub_zero,Int.le_refl,Int.reduceLT,Int.reduceLE,Int.reduceEq,Int.reduceAdd,Int.reduceSub,Int.reduceMul,Int.reduceToNat,Int.reduceNeg,ds0];exact rfl) ?_;simp -implicitDefEqProofs (disch:=omega) only [go_sem,↓reduceIte ,Int.natCast_zero,Int.natCast_one,Int.cast_ofNat_Int,Int.ofNat_le,Int.toNat_zero,Nat.sub_zero,Int.le_refl,Int.reduceLT,Int.reduceLE,Int.reduceEq,Int.reduceAdd,Int.reduceSub,Int.reduceMul,Int.reduceToNat,Int.reduceNeg,ds0]
  | true =>
    rw [h1,if_neg (by decide)] at hc;cases h2:inR 0 20000 q_aBudget with
    | false=>have e:srAll q_aP q_aPieces q_aBudget=(ds0,0,2):=(by unfold srAll srAsk;rw [h1,h2];rfl);rw [h2,if_pos rfl] at hc;rw [e,Pattern.td_d,Design.td_d];rw [Pattern.td_d] at hc;refine law_impl_SearchDesign ?_;unfold code_impl_SearchDesign;simp -implicitDefEqProofs (disch:=omega) only [go_sem,↓reduceIte];refine call_B (hc) (by simp -implicitDefEqProofs (disch:=omega) only [go_sem,↓reduceIte,deep,TD.rows,immLL_rI,immLL_rB8,immLL_rS,immLL_rBo,immLL_rII,immLL_rIIt,Int.natCast_zero,Int.natCast_one,Int.cast_ofNat_Int,Int.ofNat_le,Int.toNat_zero,Nat.sub_zero,Int.le_refl,Int.reduceLT,Int.reduceLE,Int.reduceEq,Int.reduceAdd,Int.reduceSub,Int.reduceMul,Int.reduceToNat,Int.reduceNeg,ds0];exact rfl) ?_;simp -implicitDefEqProofs (disch:=omega) only [go_sem,↓reduceIte ,Int.natCast_zero,Int.natCast_one,Int.cast_ofNat_Int,Int.ofNat_le,Int.toNat_zero,Nat.sub_zero,Int.le_refl,Int.reduceLT,Int.reduceLE,Int.reduceEq,Int.reduceAdd,Int.reduceSub,Int.reduceMul,Int.reduceToNat,Int.reduceNeg,ds0]
    | true =>
      rw [h2,if_neg (by decide)] at hc;cases h3:inR 0 100 q_aPieces with
      | false=>have e:srAll q_aP q_aPieces q_aBudget=(ds0,0,2):=(by unfold srAll srAsk;rw [h1,h2,h3];rfl);rw [e,Pattern.td_d,Design.td_d];rw [Pattern.td_d] at hc;refine law_impl_SearchDesign ?_;unfold code_impl_SearchDesign;simp -implicitDefEqProofs (disch:=omega) only [go_sem,↓reduceIte];refine call_B (hc) (by simp -implicitDefEqProofs (disch:=omega) only [go_sem,↓reduceIte,deep,TD.rows,immLL_rI,immLL_rB8,immLL_rS,immLL_rBo,immLL_rII,immLL_rIIt,Int.natCast_zero,Int.natCast_one,Int.cast_ofNat_Int,Int.ofNat_le,Int.toNat_zero,Nat.sub_zero,Int.le_refl,Int.reduceLT,Int.reduceLE,Int.reduceEq,Int.reduceAdd,Int.reduceSub,Int.reduceMul,Int.reduceToNat,Int.reduceNeg];exact rfl) ?_;simp -implicitDefEqProofs (disch:=omega) only [go_sem,↓reduceIte ,Int.natCast_zero,Int.natCast_one,Int.cast_ofNat_Int,Int.ofNat_le,Int.toNat_zero,Nat.sub_zero,Int.le_refl,Int.reduceLT,Int.reduceLE,Int.reduceEq,Int.reduceAdd,Int.reduceSub,Int.reduceMul,Int.reduceToNat,Int.reduceNeg];refine call_B (hw) (by simp -implicitDefEqProofs (disch:=omega) only [go_sem,↓reduceIte,deep,TD.rows,immLL_rI,immLL_rB8,immLL_rS,immLL_rBo,immLL_rII,immLL_rIIt,h3,Bool.not_false,ds0];exact rfl) ?_;simp -implicitDefEqProofs (disch:=omega) only [go_sem,↓reduceIte ,h3,Bool.not_false,ds0]
      | true=>have ha:srAsk q_aP q_aPieces q_aBudget=0:=(by unfold srAsk;rw [h1,h2,h3];rfl);have hs:=v_searchDesign q_aP q_aPieces q_aBudget ha;generalize srAll q_aP q_aPieces q_aBudget=r at *;rw [Pattern.td_d,Design.td_d];rw [Pattern.td_d] at hc;rw [Pattern.td_d,Design.td_d] at hs;refine law_impl_SearchDesign ?_;unfold code_impl_SearchDesign;simp -implicitDefEqProofs (disch:=omega) only [go_sem,↓reduceIte];refine call_B (hc) (by simp -implicitDefEqProofs (disch:=omega) only [go_sem,↓reduceIte,deep,TD.rows,immLL_rI,immLL_rB8,immLL_rS,immLL_rBo,immLL_rII,immLL_rIIt,Int.natCast_zero,Int.natCast_one,Int.cast_ofNat_Int,Int.ofNat_le,Int.toNat_zero,Nat.sub_zero,Int.le_refl,Int.reduceLT,Int.reduceLE,Int.reduceEq,Int.reduceAdd,Int.reduceSub,Int.reduceMul,Int.reduceToNat,Int.reduceNeg];exact rfl) ?_;simp -implicitDefEqProofs (disch:=omega) only [go_sem,↓reduceIte ,Int.natCast_zero,Int.natCast_one,Int.cast_ofNat_Int,Int.ofNat_le,Int.toNat_zero,Nat.sub_zero,Int.le_refl,Int.reduceLT,Int.reduceLE,Int.reduceEq,Int.reduceAdd,Int.reduceSub,Int.reduceMul,Int.reduceToNat,Int.reduceNeg];refine call_B (hw) (by simp -implicitDefEqProofs (disch:=omega) only [go_sem,↓reduceIte,deep,TD.rows,immLL_rI,immLL_rB8,immLL_rS,immLL_rBo,immLL_rII,immLL_rIIt,h3,Bool.not_true];exact rfl) ?_;simp -implicitDefEqProofs (disch:=omega) only [go_sem,↓reduceIte ,h3,Bool.not_true];refine call_B (hs) (by simp -implicitDefEqProofs (disch:=omega) only [go_sem,↓reduceIte,deep,TD.rows,immLL_rI,immLL_rB8,immLL_rS,immLL_rBo,immLL_rII,immLL_rIIt];exact rfl) ?_;simp -implicitDefEqProofs (disch:=omega) only [go_sem,↓reduceIte]
structure dsnB (d:Design):Prop where
  b:d.Bottom.length≤1048576
  l:d.Left.length≤1048576
  p:d.Pieces.length≤1048576
def code_spec_l24Fit:VCode:=(.seq (.ops [
  ⟨some 6,none,.asg (.const (.int .i64 0))⟩]) (.seq (.seq (.ops [
  ⟨some 7,none,.asg (.const (.int .i64 0))⟩]) (.block 0 (.loop (mB 40 1099511627640) (.seq (.seq (.ops [
  ⟨some 8,none,.mv (.tmp 7)⟩,
  ⟨some 9,none,.mv (.tmp 0)⟩,
  ⟨some 10,none,.nilc (.tmp 9)⟩,
  ⟨some 11,none,.fa 2 (.tmp 10)⟩,
  ⟨some 12,none,.load 1 false (.tmp 11)⟩,
  ⟨some 13,none,.len (.tmp 12)⟩,
  ⟨some 14,none,.bin .lss (.tmp 8) (.tmp 13)⟩]) (.cond (.tmp 14) .skip (.exit 0))) (.seq (.block 1 (.seq (.ops [
  ⟨some 17,none,.mv (.tmp 0)⟩,
  ⟨some 18,none,.nilc (.tmp 17)⟩,
  ⟨some 19,none,.fa 2 (.tmp 18)⟩,
  ⟨some 20,none,.load 1 false (.tmp 19)⟩,
  ⟨some 21,none,.mv (.tmp 7)⟩,
  ⟨some 22,none,.ia 5 (.tmp 20) (.tmp 21)⟩,
  ⟨some 23,none,.fa 3 (.tmp 22)⟩,
  ⟨some 24,none,.load 1 false (.tmp 23)⟩,
  ⟨some 25,none,.mv (.tmp 1)⟩,
  ⟨some 26,none,.bin .eql (.tmp 24) (.tmp 25)⟩,
  ⟨some 27,none,.mv (.tmp 26)⟩,
  ⟨some 28,some (27,true),.mv (.tmp 0)⟩,
  ⟨some 29,some (27,true),.nilc (.tmp 28)⟩,
  ⟨some 30,some (27,true),.fa 2 (.tmp 29)⟩,
  ⟨some 31,some (27,true),.load 1 false (.tmp 30)⟩,
  ⟨some 32,some (27,true),.mv (.tmp 7)⟩,
  ⟨some 33,some (27,true),.ia 5 (.tmp 31) (.tmp 32)⟩,
  ⟨some 34,some (27,true),.fa 4 (.tmp 33)⟩,
  ⟨some 35,some (27,true),.load 1 false (.tmp 34)⟩,
  ⟨some 36,some (27,true),.mv (.tmp 2)⟩,
  ⟨some 37,some (27,true),.bin .eql (.tmp 35) (.tmp 36)⟩,
  ⟨some 38,none,.pick (.tmp 27) (.tmp 37) (.const (.bool false))⟩]) (.cond (.tmp 38) (.seq (.ops [
  ⟨some 39,none,.mv (.tmp 7)⟩,
  ⟨some 6,none,.asg (.tmp 39)⟩]) .ret) .skip))) (.ops [
  ⟨some 15,none,.mv (.tmp 7)⟩,
  ⟨some 16,none,.bin .add (.tmp 15) (.const (.int .i64 1))⟩,
  ⟨some 7,none,.asg (.tmp 16)⟩])))))) (.seq (.ops [
  ⟨some 6,none,.asg (.const (.int .i64 (-1)))⟩]) .ret)))
theorem law_spec_l24Fit {a0 a1 a2 d:D}(h:code_spec_l24Fit.wp (CT Try.prog NoG) (endQ [(.t 6)] d) [a0,a1,a2,.undef,.undef,.undef,.undef,.undef,.undef,.undef,.undef,.undef,.undef,.undef,.undef,.undef,.undef,.undef,.undef,.undef,.undef,.undef,.undef,.undef,.undef,.undef,.undef,.undef,.undef,.undef,.undef,.undef,.undef,.undef,.undef,.undef,.undef,.undef,.undef,.undef]):Contract Try.prog NoG 84 [a0,a1,a2] d :=
  contract_of (pt:=0) noG Try.func84 (fun us W=>by kernel_rfl) (c:=Try.f84.body.getD .skip) (ms:=[(mB 40 1099511627640)]) (ms':=[]) (by kernel_rfl) (by kernel_rfl) (by kernel_rfl) h
theorem v_l24Fit (d:Design)(s w:Int)(hp:d.Pieces.length≤1048576):Contract Try.prog NoG 84 [.iptr (Design.td.d false d) 0,.v (.int .i64 s),.v (.int .i64 w)] (.v (.int .i64 (fitP d.Pieces s w))):=by
  rw [Design.td_d];refine law_spec_l24Fit ?_;unfold code_spec_l24Fit;simp -implicitDefEqProofs (disch:=omega) only [go_sem,↓reduceIte];refine loop_ov (by simp -implicitDefEqProofs (disch:=omega) only [go_sem,↓reduceIte];exact rfl) (fun i:Nat=>[(7,.v (.int .i64 (i:Nat)))]) (fun _=>by simp only [ovr_nil,ovr_cons,List.set_cons_zero,List.set_cons_succ];exact rfl) (fun i:Nat=>i≤d.Pieces.length∧∀ j (hj:j<d.Pieces.length),j<i→isInl s w d.Pieces[j]=false) (fun i:Nat=>d.Pieces.length-i) (0) (nleA) (?_) ?_
  · exact ⟨Nat.zero_le _,fun j _ hj=>absurd hj (by omega)⟩
  rintro i ⟨hi,hall⟩;simp -implicitDefEqProofs (disch:=omega) only [go_sem,↓reduceIte ,List.length_map,Int.toNat_natCast,Int.ofNat_lt,Int.natCast_nonneg,List.getElem?_map,Option.map_some];refine cond_split ?_ ?_<;>intro hlt
  · have hlt:i<d.Pieces.length:=(by simpa using hlt);have e1:=List.getElem?_eq_getElem hlt;have hstep:isInl s w d.Pieces[i]=false→∀ j (hj:j<d.Pieces.length),j<i+1→isInl s w d.Pieces[j]=false:=fun h j hj hji=>by
      rcases Nat.lt_succ_iff_lt_or_eq.1 hji with h1 | rfl
      · exact hall j hj h1
      · exact h
    cases q1:decide (d.Pieces[i].South=s) with
    | false=>have hn:=hstep (by unfold isInl;rw [q1];rfl);simp -implicitDefEqProofs (disch:=omega) only [go_sem,↓reduceIte ,List.length_map,Int.toNat_natCast,Int.ofNat_lt,Int.natCast_nonneg,List.getElem?_map,Option.map_some,hlt,e1,Piece.td_d,q1,wrN];exact ⟨i+1,by omega,⟨hlt,hn⟩,nleA⟩
    | true =>
      cases q2:decide (d.Pieces[i].West=w) with
      | false=>have hn:=hstep (by unfold isInl;rw [q1,q2];rfl);simp -implicitDefEqProofs (disch:=omega) only [go_sem,↓reduceIte ,List.length_map,Int.toNat_natCast,Int.ofNat_lt,Int.natCast_nonneg,List.getElem?_map,Option.map_some,hlt,e1,Piece.td_d,q1,q2,wrN];exact ⟨i+1,by omega,⟨hlt,hn⟩,nleA⟩
      | true=>have hr:fitP d.Pieces s w=(i:Int):=vIdx_hit _ _ i hlt hall (by unfold isInl;rw [q1,q2];rfl);simp -implicitDefEqProofs (disch:=omega) only [go_sem,↓reduceIte ,List.length_map,Int.toNat_natCast,Int.ofNat_lt,Int.natCast_nonneg,List.getElem?_map,Option.map_some,hlt,e1,Piece.td_d,q1,q2,hr]
  · obtain rfl:i=d.Pieces.length:=(by have:¬ i<d.Pieces.length:=(by simpa using hlt);omega);have hr:fitP d.Pieces s w = -1:=vIdx_miss _ _ (fun j hj=>hall j hj hj);simp -implicitDefEqProofs (disch:=omega) only [go_sem,↓reduceIte ,hr]
abbrev zrD (K:SK) (z:SR):List D:=[.iptr [.v (.int .i64 (K.W:Int)),.v (.int .i64 (K.H:Int)),.sl false 1 (K.Cells.map rI)] 0,.v (.int .i64 K.most),.v (.int .i64 K.budget),.v (.int .i64 z.steps),.v (.bool z.full),.sl true 1 (z.bottom.map rI),.sl true 1 (z.left.map rI),.sl true 5 (z.pieces.map (Piece.td.d true)),.sl true 1 (z.below.map rI),.v (.int .i64 z.west),.v (.int .i64 z.rows),.v (.int .i64 z.cols),.sl true 1 (z.found.Bottom.map rI),.sl true 1 (z.found.Left.map rI),.sl true 5 (z.found.Pieces.map (Piece.td.d true))]
def MethR (P:Program)(K:SK)(f:FuncId)(bl lf:Nat)(args:List D)(g:SR→Bool×SR):Prop:=∀ z,OkR K bl lf z→ContractX P NoG f 0 (.undef::args) (zrD K z) (.v (.bool (g z).1)) (zrD K (g z).2)
theorem setI_map' (xs:List Int)(i:Nat)(x:Int):(xs.map rI).set i [.v (.int .i64 x)]=(xs.set i x).map rI:=by rw [List.map_set]
def code_spec_l33S_put:VCode:=(.seq (.ops [
  ⟨some 5,none,.box (.tmp 2)⟩,
  ⟨some 6,none,.asg (.const (.bool false))⟩]) (.seq (.ops [
  ⟨some 10,none,.mv (.tmp 1)⟩,
  ⟨some 11,none,.mv (.tmp 0)⟩,
  ⟨some 12,none,.nilc (.tmp 11)⟩,
  ⟨some 13,none,.fa 0 (.tmp 12)⟩,
  ⟨some 14,none,.load 1 false (.tmp 13)⟩,
  ⟨some 15,none,.nilc (.tmp 14)⟩,
  ⟨some 16,none,.fa 0 (.tmp 15)⟩,
  ⟨some 17,none,.load 1 false (.tmp 16)⟩,
  ⟨some 18,none,.bin .rem (.tmp 10) (.tmp 17)⟩,
  ⟨some 7,none,.asg (.tmp 18)⟩]) (.seq (.ops [
  ⟨some 19,none,.mv (.tmp 0)⟩,
  ⟨some 20,none,.nilc (.tmp 19)⟩,
  ⟨some 21,none,.fa 8 (.tmp 20)⟩,
  ⟨some 22,none,.load 1 false (.tmp 21)⟩,
  ⟨some 23,none,.mv (.tmp 7)⟩,
  ⟨some 24,none,.ia 1 (.tmp 22) (.tmp 23)⟩,
  ⟨some 25,none,.load 1 false (.tmp 24)⟩,
  ⟨some 8,none,.asg (.tmp 25)⟩]) (.seq (.ops [
  ⟨some 26,none,.mv (.tmp 0)⟩,
  ⟨some 27,none,.nilc (.tmp 26)⟩,
  ⟨some 28,none,.fa 9 (.tmp 27)⟩,
  ⟨some 29,none,.load 1 false (.tmp 28)⟩,
  ⟨some 9,none,.asg (.tmp 29)⟩]) (.seq (.draw (mB 37 136365211648) [] [⟨0,mB 37 136365211648,[],⟨some 30,none,.mv (.tmp 0)⟩⟩,⟨1,mB 37 135291469824,[],⟨some 31,none,.nilc (.tmp 30)⟩⟩,⟨2,mB 37 133143986176,[],⟨some 32,none,.fa 8 (.tmp 31)⟩⟩,⟨3,mB 37 128849018880,[],⟨some 33,none,.load 1 false (.tmp 32)⟩⟩,⟨4,mB 37 136365211648,[],⟨some 34,none,.mv (.tmp 7)⟩⟩,⟨5,mB 37 136365211648,[],⟨some 35,none,.fa 1 (.tmp 5)⟩⟩,⟨6,mB 37 102005473280,[],⟨some 36,none,.load 1 false (.tmp 35)⟩⟩] [⟨some 37,none,.ia 1 (.tmp 33) (.tmp 34)⟩,⟨none,none,.store 1 (.tmp 37) (.tmp 36)⟩]) (.seq (.ops [
  ⟨some 38,none,.mv (.tmp 0)⟩,
  ⟨some 39,none,.fa 2 (.tmp 5)⟩,
  ⟨some 40,none,.load 1 false (.tmp 39)⟩,
  ⟨some 41,none,.nilc (.tmp 38)⟩,
  ⟨some 42,none,.fa 9 (.tmp 41)⟩,
  ⟨none,none,.store 1 (.tmp 42) (.tmp 40)⟩]) (.seq (.seq (.ops [
  ⟨some 43,none,.mv (.tmp 0)⟩,
  ⟨some 44,none,.mv (.tmp 1)⟩,
  ⟨some 45,none,.bin .add (.tmp 44) (.const (.int .i64 1))⟩,
  ⟨some 46,none,.callX 72 [(.tmp 43),(.tmp 45)]⟩]) (.cond (.tmp 46) (.seq (.ops [
  ⟨some 6,none,.asg (.const (.bool true))⟩]) .ret) .skip)) (.seq (.ops [
  ⟨some 47,none,.mv (.tmp 0)⟩,
  ⟨some 48,none,.nilc (.tmp 47)⟩,
  ⟨some 49,none,.fa 8 (.tmp 48)⟩,
  ⟨some 50,none,.load 1 false (.tmp 49)⟩,
  ⟨some 51,none,.mv (.tmp 7)⟩,
  ⟨some 52,none,.mv (.tmp 8)⟩,
  ⟨some 53,none,.ia 1 (.tmp 50) (.tmp 51)⟩,
  ⟨none,none,.store 1 (.tmp 53) (.tmp 52)⟩]) (.seq (.ops [
  ⟨some 54,none,.mv (.tmp 0)⟩,
  ⟨some 55,none,.mv (.tmp 9)⟩,
  ⟨some 56,none,.nilc (.tmp 54)⟩,
  ⟨some 57,none,.fa 9 (.tmp 56)⟩,
  ⟨none,none,.store 1 (.tmp 57) (.tmp 55)⟩]) (.seq (.ops [
  ⟨some 6,none,.asg (.const (.bool false))⟩]) .ret))))))))))
theorem law_spec_l33S_put {a0 a1 a2 d:D}{cells cells':List D}(h:∀ b,code_spec_l33S_put.wp (CT Try.prog NoG) (endX [(.t 6)] d 0 b cells') [.box (some b) cells,a1,a2,.undef,.undef,.undef,.undef,.undef,.undef,.undef,.undef,.undef,.undef,.undef,.undef,.undef,.undef,.undef,.undef,.undef,.undef,.undef,.undef,.undef,.undef,.undef,.undef,.undef,.undef,.undef,.undef,.undef,.undef,.undef,.undef,.undef,.undef,.undef,.undef,.undef,.undef,.undef,.undef,.undef,.undef,.undef,.undef,.undef,.undef,.undef,.undef,.undef,.undef,.undef,.undef,.undef,.undef,.undef]):ContractX Try.prog NoG 118 0 [a0,a1,a2] cells d cells' :=
  contract_ofX (pt:=0) noG Try.func118 (fun us W=>by kernel_rfl) (c:=Try.f118.body.getD .skip) (ms:=[]) (ms':=[]) (by kernel_rfl) (by kernel_rfl) (by kernel_rfl) (by simp) h
set_option maxHeartbeats 4000000 in
theorem v_rPut {K:SK}(hK:OkK K){n i lf:Nat}(hi:i<K.Cells.length){bl:Nat}(hb:i % K.W<bl)(hf:FramR K bl lf (atR K n))(hc:MethR Try.prog K 72 bl lf [.v (.int .i64 ((i+1:Nat):Int))] (atR K n))(p:Piece) :
    MethR Try.prog K 118 bl lf [.v (.int .i64 (i:Int)),.agg (Piece.td.d false p)] (putR K (atR K n) i p):=by
  intro z hz;have hN:=hK.nle;have hW0:(K.W:Int)≠0:=by have:=hK.w;omega
  have hz1:OkR K bl lf { z with below:=z.below.set (i % K.W) p.North,west:=p.East }:=⟨hz.st,hz.ro,hz.co,by simpa using hz.be,hz.bo,hz.lo,hz.lp⟩
  have hcc:=hc _ hz1;have hff:=(hf _ hz1).2;have hl:i % K.W<z.below.length:=(by rw [hz.be];exact hb);have hx:=getD_at hl;have e2:IntKind.i64.wrap ((i:Int)+1)=((i+1:Nat):Int):=(by rw [wrI (by omega) (by omega)];omega);rw [Piece.td_d];unfold putR;generalize atR K n { z with below:=z.below.set (i % K.W) p.North,west:=p.East }=q at *;unfold backR;refine law_spec_l33S_put ?_;intro b;unfold code_spec_l33S_put;cases hr:q.1 with
  | true=>rw [hr] at hcc;simp -implicitDefEqProofs (disch:=omega) only [go_sem,↓reduceIte ,tmodN,hW0,ne_eq,not_false_eq_true,List.length_map,Int.toNat_natCast,Int.ofNat_lt,Int.natCast_nonneg,List.getElem?_map,Option.map_some,Int.natCast_zero,Int.natCast_one,Int.cast_ofNat_Int,Int.ofNat_le,Int.toNat_zero,Nat.sub_zero,Int.le_refl,Int.reduceLT,Int.reduceLE,Int.reduceEq,Int.reduceAdd,Int.reduceSub,Int.reduceMul,Int.reduceToNat,Int.reduceNeg,hl,hx,rI,setI_map',e2];refine call_PB (i:=0) (r:=0) (hcc) rfl rfl (by simp -implicitDefEqProofs (disch:=omega) only [go_sem,↓reduceIte,deep,TD.rows,immLL_rI,immLL_rB8,immLL_rS,immLL_rBo,immLL_rII,immLL_rIIt];exact rfl) ?_;simp -implicitDefEqProofs (disch:=omega) only [go_sem,↓reduceIte];exact D.le_rfl _
  | false=>rw [hr] at hcc;obtain ⟨m,f,e⟩:=hff hr;rw [e] at hcc;rw [e];have hx2:(z.below.set (i % K.W) p.North)[i % K.W]?=some p.North:=List.getElem?_set_self hl;simp -implicitDefEqProofs (disch:=omega) only [go_sem,↓reduceIte ,tmodN,hW0,ne_eq,not_false_eq_true,List.length_map,Int.toNat_natCast,Int.ofNat_lt,Int.natCast_nonneg,List.getElem?_map,Option.map_some,Int.natCast_zero,Int.natCast_one,Int.cast_ofNat_Int,Int.ofNat_le,Int.toNat_zero,Nat.sub_zero,Int.le_refl,Int.reduceLT,Int.reduceLE,Int.reduceEq,Int.reduceAdd,Int.reduceSub,Int.reduceMul,Int.reduceToNat,Int.reduceNeg,hl,hx,rI,setI_map',e2];refine call_PB (i:=0) (r:=0) (hcc) rfl rfl (by simp -implicitDefEqProofs (disch:=omega) only [go_sem,↓reduceIte,deep,TD.rows,immLL_rI,immLL_rB8,immLL_rS,immLL_rBo,immLL_rII,immLL_rIIt,List.length_map,Int.toNat_natCast,Int.ofNat_lt,Int.natCast_nonneg,List.getElem?_map,Option.map_some,Int.natCast_zero,Int.natCast_one,Int.cast_ofNat_Int,Int.ofNat_le,Int.toNat_zero,Nat.sub_zero,Int.le_refl,Int.reduceLT,Int.reduceLE,Int.reduceEq,Int.reduceAdd,Int.reduceSub,Int.reduceMul,Int.reduceToNat,Int.reduceNeg,List.length_set,hl,hx2,rI,setI_map'];exact rfl) ?_;simp -implicitDefEqProofs (disch:=omega) only [go_sem,↓reduceIte ,List.length_map,Int.toNat_natCast,Int.ofNat_lt,Int.natCast_nonneg,List.getElem?_map,Option.map_some,Int.natCast_zero,Int.natCast_one,Int.cast_ofNat_Int,Int.ofNat_le,Int.toNat_zero,Nat.sub_zero,Int.le_refl,Int.reduceLT,Int.reduceLE,Int.reduceEq,Int.reduceAdd,Int.reduceSub,Int.reduceMul,Int.reduceToNat,Int.reduceNeg,List.length_set,hl,hx2,rI,setI_map'];exact D.le_rfl _
theorem rounds_step {pre:Int→SR→SR}{go:Int→SR→Bool×SR}{post fin:SR→SR}{n k:Nat}{z:SR}{R0:Bool×SR}(h:roundsR pre go post fin (n-k) k z=R0)(hk:k<n)(hf:z.full=false):R0=if (go k (pre k z)).1 then go k (pre k z) else roundsR pre go post fin (n-(k+1)) ((k+1:Nat):Int) (post (go k (pre k z)).2):=by rw [← h,show n-k=(n-(k+1))+1 by omega,roundsR,hf];rfl
theorem rounds_full {pre:Int→SR→SR}{go:Int→SR→Bool×SR}{post fin:SR→SR}{n k:Nat}{z:SR}{R0:Bool×SR}(h:roundsR pre go post fin (n-k) k z=R0)(hk:k<n)(hf:z.full=true):R0=(false,fin z):=by rw [← h,show n-k=(n-(k+1))+1 by omega,roundsR,hf];rfl
theorem rounds_done {pre:Int→SR→SR}{go:Int→SR→Bool×SR}{post fin:SR→SR}{n k:Nat}{z:SR}{R0:Bool×SR}(h:roundsR pre go post fin (n-k) k z=R0)(hk:¬ k<n):R0=(false,fin z):=by rw [← h,show n-k=0 by omega];rfl
theorem nE_lt {b:Int}{k:Nat}(hb:Glu b)(h:k<nEach b):(k:Int)≤b∧(k:Int)≤119:=by unfold nEach Glu at *;omega
theorem nE_ge {b:Int}{k:Nat}(hb:Glu b)(h:¬ k<nEach b)(hk:k≤nEach b):b<(k:Int)∨((k:Int)≤b∧119<(k:Int)):=by unfold nEach Glu at *;omega
theorem snoc_I (xs:List Int)(k:Int):xs.map rI++[[.v (.int .i64 k)]]=(xs++[k]).map rI:=by rw [List.map_append];rfl
theorem cut_I (xs:List Int)(k:Int):((xs++[k]).map rI).take xs.length=xs.map rI:=by rw [← List.map_take];simp
theorem wr_cut {xs:List Int}{k:Int}(h:xs.length≤1000):IntKind.i64.wrap (((xs++[k]).length:Int)-1)=((xs.length:Nat):Int):=by have e:(((xs++[k]).length:Nat):Int)=(xs.length:Int)+1:=(by simp);rw [e,show ((xs.length:Nat):Int)+1-1=(xs.length:Int) by omega];exact wrI (by omega) (by omega)
abbrev bxR (b:Nat) (K:SK) (z:SR):D:=.box (some b) (zrD K z)
def code_spec_l33S_left:VCode:=(.seq (.ops [
  ⟨some 4,none,.asg (.const (.bool false))⟩]) (.seq (.ops [
  ⟨some 7,none,.mv (.tmp 0)⟩,
  ⟨some 8,none,.nilc (.tmp 7)⟩,
  ⟨some 9,none,.fa 11 (.tmp 8)⟩,
  ⟨some 10,none,.load 1 false (.tmp 9)⟩,
  ⟨some 5,none,.asg (.tmp 10)⟩]) (.seq (.seq (.ops [
  ⟨some 6,none,.asg (.const (.int .i64 0))⟩]) (.block 0 (.loop (mB 71 0x7fffffffffffffff9c) (.seq (.seq (.ops [
  ⟨some 11,none,.mv (.tmp 6)⟩,
  ⟨some 12,none,.mv (.tmp 5)⟩,
  ⟨some 13,none,.bin .leq (.tmp 11) (.tmp 12)⟩,
  ⟨some 14,none,.mv (.tmp 13)⟩,
  ⟨some 15,some (14,true),.mv (.tmp 6)⟩,
  ⟨some 16,some (14,true),.bin .leq (.tmp 15) (.const (.int .i64 119))⟩,
  ⟨some 17,none,.pick (.tmp 14) (.tmp 16) (.const (.bool false))⟩,
  ⟨some 18,none,.mv (.tmp 17)⟩,
  ⟨some 19,some (18,true),.mv (.tmp 0)⟩,
  ⟨some 20,some (18,true),.nilc (.tmp 19)⟩,
  ⟨some 21,some (18,true),.fa 4 (.tmp 20)⟩,
  ⟨some 22,some (18,true),.load 1 false (.tmp 21)⟩,
  ⟨some 23,some (18,true),.un .not (.tmp 22)⟩,
  ⟨some 24,none,.pick (.tmp 18) (.tmp 23) (.const (.bool false))⟩]) (.cond (.tmp 24) .skip (.exit 0))) (.seq (.block 1 (.seq (.ops [
  ⟨some 27,none,.mv (.tmp 0)⟩,
  ⟨some 28,none,.mv (.tmp 5)⟩,
  ⟨some 29,none,.mv (.tmp 6)⟩,
  ⟨some 30,none,.bin .add (.tmp 29) (.const (.int .i64 1))⟩,
  ⟨some 31,none,.callX 110 [(.tmp 28),(.tmp 30)]⟩,
  ⟨some 32,none,.nilc (.tmp 27)⟩,
  ⟨some 33,none,.fa 11 (.tmp 32)⟩,
  ⟨none,none,.store 1 (.tmp 33) (.tmp 31)⟩]) (.seq (.ops [
  ⟨some 34,none,.mv (.tmp 0)⟩,
  ⟨some 35,none,.mv (.tmp 0)⟩,
  ⟨some 36,none,.nilc (.tmp 35)⟩,
  ⟨some 37,none,.fa 5 (.tmp 36)⟩,
  ⟨some 38,none,.fa 1 (.tmp 37)⟩,
  ⟨some 39,none,.load 1 false (.tmp 38)⟩,
  ⟨some 40,none,.mv (.tmp 6)⟩,
  ⟨some 41,none,.bsl 1 [(.tmp 40)]⟩,
  ⟨some 42,none,.app 1 8 (.tmp 39) (.tmp 41)⟩,
  ⟨some 43,none,.nilc (.tmp 34)⟩,
  ⟨some 44,none,.fa 5 (.tmp 43)⟩,
  ⟨some 45,none,.fa 1 (.tmp 44)⟩,
  ⟨none,none,.store 1 (.tmp 45) (.tmp 42)⟩]) (.seq (.seq (.ops [
  ⟨some 46,none,.mv (.tmp 0)⟩,
  ⟨some 47,none,.mv (.tmp 1)⟩,
  ⟨some 48,none,.mv (.tmp 6)⟩,
  ⟨some 49,none,.callX 96 [(.tmp 46),(.tmp 47),(.tmp 48)]⟩]) (.cond (.tmp 49) (.seq (.ops [
  ⟨some 4,none,.asg (.const (.bool true))⟩]) .ret) .skip)) (.draw (mB 64 0xfffc000000000000) [] [⟨0,mB 64 0xfffc000000000000,[],⟨some 50,none,.mv (.tmp 0)⟩⟩,⟨1,mB 64 0xfffc000000000000,[],⟨some 51,none,.mv (.tmp 0)⟩⟩,⟨2,mB 64 0xfff4000000000000,[],⟨some 52,none,.nilc (.tmp 51)⟩⟩,⟨3,mB 64 0xffe4000000000000,[],⟨some 53,none,.fa 5 (.tmp 52)⟩⟩,⟨4,mB 64 0xffc4000000000000,[],⟨some 54,none,.fa 1 (.tmp 53)⟩⟩,⟨5,mB 64 0xff84000000000000,[],⟨some 55,none,.load 1 false (.tmp 54)⟩⟩,⟨6,mB 64 0xfffc000000000000,[],⟨some 56,none,.mv (.tmp 0)⟩⟩,⟨7,mB 64 0xfefc000000000000,[],⟨some 57,none,.nilc (.tmp 56)⟩⟩,⟨8,mB 64 0xfcfc000000000000,[],⟨some 58,none,.fa 5 (.tmp 57)⟩⟩,⟨9,mB 64 0xf8fc000000000000,[],⟨some 59,none,.fa 1 (.tmp 58)⟩⟩,⟨10,mB 64 0xf0fc000000000000,[],⟨some 60,none,.load 1 false (.tmp 59)⟩⟩,⟨11,mB 64 0xe0fc000000000000,[],⟨some 61,none,.len (.tmp 60)⟩⟩,⟨12,mB 64 0xc0fc000000000000,[],⟨some 62,none,.bin .sub (.tmp 61) (.const (.int .i64 1))⟩⟩,⟨13,mB 64 0x8004000000000000,[],⟨some 63,none,.slc 1 (.tmp 55) none (some (.tmp 62)) none⟩⟩] [⟨some 64,none,.nilc (.tmp 50)⟩,⟨some 65,none,.fa 5 (.tmp 64)⟩,⟨some 66,none,.fa 1 (.tmp 65)⟩,⟨none,none,.store 1 (.tmp 66) (.tmp 63)⟩]))))) (.ops [
  ⟨some 25,none,.mv (.tmp 6)⟩,
  ⟨some 26,none,.bin .add (.tmp 25) (.const (.int .i64 1))⟩,
  ⟨some 6,none,.asg (.tmp 26)⟩])))))) (.seq (.ops [
  ⟨some 67,none,.mv (.tmp 0)⟩,
  ⟨some 68,none,.mv (.tmp 5)⟩,
  ⟨some 69,none,.nilc (.tmp 67)⟩,
  ⟨some 70,none,.fa 11 (.tmp 69)⟩,
  ⟨none,none,.store 1 (.tmp 70) (.tmp 68)⟩]) (.seq (.ops [
  ⟨some 4,none,.asg (.const (.bool false))⟩]) .ret)))))
theorem law_spec_l33S_left {a0 a1 d:D}{cells cells':List D}(h:∀ b,code_spec_l33S_left.wp (CT Try.prog NoG) (endX [(.t 4)] d 0 b cells') [.box (some b) cells,a1,.undef,.undef,.undef,.undef,.undef,.undef,.undef,.undef,.undef,.undef,.undef,.undef,.undef,.undef,.undef,.undef,.undef,.undef,.undef,.undef,.undef,.undef,.undef,.undef,.undef,.undef,.undef,.undef,.undef,.undef,.undef,.undef,.undef,.undef,.undef,.undef,.undef,.undef,.undef,.undef,.undef,.undef,.undef,.undef,.undef,.undef,.undef,.undef,.undef,.undef,.undef,.undef,.undef,.undef,.undef,.undef,.undef,.undef,.undef,.undef,.undef,.undef,.undef,.undef,.undef,.undef,.undef,.undef,.undef]):ContractX Try.prog NoG 95 0 [a0,a1] cells d cells' :=
  contract_ofX (pt:=0) noG Try.func95 (fun us W=>by kernel_rfl) (c:=Try.f95.body.getD .skip) (ms:=[(mB 71 0x7fffffffffffffff9c)]) (ms':=[]) (by kernel_rfl) (by kernel_rfl) (by kernel_rfl) (by simp) h
set_option maxHeartbeats 4000000 in
theorem v_rLeft {K:SK} (hK:OkK K) {n i:Nat} (hi:i<K.Cells.length) (hp:∀ p,FramR K (min (i+1) K.W) (i / K.W+1) (putR K (atR K n) i p)) (hs:∀ k:Int,MethR Try.prog K 96 (min i K.W) (i / K.W+1) [.v (.int .i64 (i:Int)),.v (.int .i64 k)] (southR K (atR K n) i k)) :
    MethR Try.prog K 95 (min i K.W) (i / K.W) [.v (.int .i64 (i:Int))] (leftR K (atR K n) i):=by
  intro z0 hz0;have hN:=hK.nle;have hiW:i / K.W≤100:=Nat.le_trans (Nat.div_le_self _ _) (by omega);unfold leftR;obtain ⟨R0,hR0⟩:∃ R0,roundsR (preL z0.cols) (fun k=>southR K (atR K n) i k) postL (fun z'=>{ z' with cols:=z0.cols }) (nEach z0.cols) 0 z0=R0:=⟨_,rfl⟩
  rw [hR0];have hg:=hz0.co;generalize hb0:z0.cols=b0 at *;refine law_spec_l33S_left ?_;intro b;unfold code_spec_l33S_left;simp -implicitDefEqProofs (disch:=omega) only [go_sem,↓reduceIte ,hb0];refine loop_ov (by simp -implicitDefEqProofs (disch:=omega) only [go_sem,↓reduceIte];exact rfl) (fun p:Nat×SR=>[(0,bxR b K p.2),(5,.v (.int .i64 b0)),(6,.v (.int .i64 (p.1:Nat)))]) (fun _=>by simp only [ovr_nil,ovr_cons,List.set_cons_zero,List.set_cons_succ];exact rfl) (fun p:Nat×SR=>p.1≤nEach b0∧OkR K (min i K.W) (i / K.W) p.2∧roundsR (preL b0) (fun k=>southR K (atR K n) i k) postL (fun z'=>{ z' with cols:=b0 }) (nEach b0-p.1) p.1 p.2=R0) (fun p:Nat×SR=>nEach b0-p.1) ((0,z0)) (nleA) (?_) ?_
  · exact ⟨Nat.zero_le _,hz0,hR0⟩
  rintro ⟨k,z⟩ ⟨hk,hz,hJ⟩;dsimp only at hk hz hJ ⊢;by_cases hlt:k<nEach b0
  · obtain ⟨g1,g2⟩:=nE_lt hg hlt;have d1:decide ((k:Int)≤b0)=true:=decide_eq_true g1;have d2:decide ((k:Int)≤119)=true:=decide_eq_true g2;cases hfu:z.full with
    | true=>obtain rfl:=rounds_full hJ hlt hfu;simp -implicitDefEqProofs (disch:=omega) only [go_sem,↓reduceIte ,d1,d2,hfu];exact D.le_rfl _
    | false =>
      have hst:=rounds_step hJ hlt hfu;have hz1:OkR K (min i K.W) (i / K.W+1) (preL b0 k z):=⟨hz.st,hz.ro,glu_max hg (by omega) g2,hz.be,hz.bo,by
        show (z.left++[(k:Int)]).length=i / K.W+1;rw [List.length_append,hz.lo];rfl,hz.lp⟩
      have hcc:=hs (k:Int) _ hz1;have hff:=fram_south (K:=K) (k:Int) hp _ hz1;have hw3:IntKind.i64.wrap ((k:Int)+1)=((k+1:Nat):Int):=(by rw [wrI (by omega) (by omega)];omega);have hw1:IntKind.i64.wrap ((k:Int)+1)=(k:Int)+1:=wrI (by omega) (by omega);have hmx:=v_l00Max b0 ((k:Int)+1);have hlo:=hz.lo;generalize southR K (atR K n) i k (preL b0 k z)=q at *;cases hr:q.1 with
      | true=>rw [hr,if_pos rfl] at hst;subst hst;rw [hr] at hcc ⊢;simp -implicitDefEqProofs (disch:=omega) only [go_sem,↓reduceIte ,d1,d2,hfu,hw1,Bool.not_false];refine call_B (hmx) (by simp -implicitDefEqProofs (disch:=omega) only [go_sem,↓reduceIte,deep,TD.rows,immLL_rI,immLL_rB8,immLL_rS,immLL_rBo,immLL_rII,immLL_rIIt,snoc_I,List.length_map];exact rfl) ?_;simp -implicitDefEqProofs (disch:=omega) only [go_sem,↓reduceIte ,snoc_I,List.length_map];refine ⟨by omega,?_⟩;refine call_PB (i:=0) (r:=0) (hcc) rfl rfl (by simp -implicitDefEqProofs (disch:=omega) only [go_sem,↓reduceIte,deep,TD.rows,immLL_rI,immLL_rB8,immLL_rS,immLL_rBo,immLL_rII,immLL_rIIt];exact rfl) ?_;simp -implicitDefEqProofs (disch:=omega) only [go_sem,↓reduceIte];exact D.le_rfl _
      | false =>
        rw [hr,if_neg (by decide)] at hst;rw [hr] at hcc;obtain ⟨m,f,e⟩:=hff.2 hr;have hin:=hff.1;rw [e] at hcc hst;unfold preL at hcc hst;dsimp only at hcc hst;have hw2:=wr_cut (xs:=z.left) (k:=(k:Int)) (by omega);have hl2:z.left.length≤(z.left++[(k:Int)]).length:=by simp
        simp -implicitDefEqProofs (disch:=omega) only [go_sem,↓reduceIte ,d1,d2,hfu,hw1,Bool.not_false];refine call_B (hmx) (by simp -implicitDefEqProofs (disch:=omega) only [go_sem,↓reduceIte,deep,TD.rows,immLL_rI,immLL_rB8,immLL_rS,immLL_rBo,immLL_rII,immLL_rIIt,snoc_I,List.length_map];exact rfl) ?_;simp -implicitDefEqProofs (disch:=omega) only [go_sem,↓reduceIte ,snoc_I,List.length_map];refine ⟨by omega,?_⟩;refine call_PB (i:=0) (r:=0) (hcc) rfl rfl (by simp -implicitDefEqProofs (disch:=omega) only [go_sem,↓reduceIte,deep,TD.rows,immLL_rI,immLL_rB8,immLL_rS,immLL_rBo,immLL_rII,immLL_rIIt,List.length_map,hw2,Int.toNat_natCast,Int.natCast_zero,Int.toNat_zero,List.drop_zero,Nat.sub_zero,cut_I,hw3];exact rfl) ?_;simp -implicitDefEqProofs (disch:=omega) only [go_sem,↓reduceIte ,List.length_map,hw2,Int.toNat_natCast,Int.natCast_zero,Int.toNat_zero,List.drop_zero,Nat.sub_zero,cut_I,hw3];have e4:postL { z with steps:=m,full:=f,left:=z.left++[(k:Int)],cols:=max b0 ((k:Int)+1) }={ z with steps:=m,full:=f,cols:=max b0 ((k:Int)+1) }:=by simp [postL]
        rw [e4] at hst;refine ⟨by omega,by omega,by omega,by omega,by omega,hl2,(k+1,{ z with steps:=m,full:=f,cols:=max b0 ((k:Int)+1) }),by omega,⟨hlt,⟨by unfold StR at hin;rw [e] at hin;exact hin,hz.ro,glu_max hg (by omega) g2,hz.be,hz.bo,hz.lo,hz.lp⟩,hst.symm⟩,?_⟩
        (try simp -implicitDefEqProofs only [nleL_cc,nleL_nn,nle_self,nle_boxs,nle_aggs,nle_nils,and_self,and_true,true_and])<;>repeat' (first | exact nle_of_eq rfl | exact nle_nil | apply And.intro | apply nle_sl | apply nleLL_cons | apply nleL_cons | exact nleL_nil | exact nleLL_nil | apply nle_box | apply nle_agg)
  · obtain rfl:=rounds_done hJ hlt;rcases nE_ge hg hlt hk with g1 | ⟨g1,g2⟩
    · have d1:decide ((k:Int)≤b0)=false:=decide_eq_false (by omega);simp -implicitDefEqProofs (disch:=omega) only [go_sem,↓reduceIte ,d1];exact D.le_rfl _
    · have d1:decide ((k:Int)≤b0)=true:=decide_eq_true g1;have d2:decide ((k:Int)≤119)=false:=decide_eq_false (by omega);simp -implicitDefEqProofs (disch:=omega) only [go_sem,↓reduceIte ,d1,d2];exact D.le_rfl _
theorem vIdx_c {α:Type}(p:α→Bool)(x:α)(xs:List α):vIdx p (x::xs)=if p x then 0 else (if vIdx p xs<0 then -1 else vIdx p xs+1):=by
  unfold vIdx;rw [List.findIdx?_cons];cases p x with
  | true=>rfl
  | false =>
    cases xs.findIdx? p with
    | none=>rfl
    | some j=>simp only [Bool.false_eq_true,if_false,Option.map_some];rw [if_neg (by omega)];omega
theorem fit_none {ps:List Piece}{s w:Int}:ps.find? (isInl s w)=none→fitP ps s w = -1:=by
  unfold fitP;induction ps with
  | nil=>intro _;rfl
  | cons x ps ih =>
    intro h;rw [List.find?_cons] at h;rw [vIdx_c];cases hx:isInl s w x with
    | true=>rw [hx] at h;cases h
    | false=>rw [hx] at h;rw [if_neg (by decide),ih h];rfl
theorem fit_some {ps:List Piece}{s w:Int}{p:Piece}:ps.find? (isInl s w)=some p→∃ j:Nat,fitP ps s w=(j:Int)∧ps[j]?=some p:=by
  unfold fitP;induction ps with
  | nil=>intro h;cases h
  | cons x ps ih =>
    intro h;rw [List.find?_cons] at h;rw [vIdx_c];cases hx:isInl s w x with
    | true=>rw [hx] at h;cases h;exact ⟨0,rfl,rfl⟩
    | false=>rw [hx] at h;obtain ⟨j,h1,h2⟩:=ih h;refine ⟨j+1,?_,h2⟩;rw [if_neg (by decide),h1,if_neg (by omega)];omega
theorem pcs_app' (ps:List Piece)(p:Piece):ps.map (Piece.td.d true)++[[.v (.int .i64 p.Color),.v (.int .i64 p.North),.v (.int .i64 p.East),.v (.int .i64 p.South),.v (.int .i64 p.West)]]=(ps++[p]).map (Piece.td.d true):=by rw [List.map_append];rfl
theorem cut_P (xs:List Piece)(k:Piece):((xs++[k]).map (Piece.td.d true)).take xs.length=xs.map (Piece.td.d true):=by rw [← List.map_take];simp
theorem wr_cutP {xs:List Piece}{k:Piece}(h:xs.length≤1000):IntKind.i64.wrap (((xs++[k]).length:Int)-1)=((xs.length:Nat):Int):=by have e:(((xs++[k]).length:Nat):Int)=(xs.length:Int)+1:=(by simp);rw [e,show ((xs.length:Nat):Int)+1-1=(xs.length:Int) by omega];exact wrI (by omega) (by omega)
abbrev mk_spec_l33S_lay_1:List Bool:=(mB 196 0xfffffffffffffffffffffffffffffffffffffffffffffc3f0)
abbrev mk_spec_l33S_lay_0:List Bool:=(mB 196 0xfffffffffffffffffffffffffffffffffffffffffffffe3f0)
abbrev ms_spec_l33S_lay_2:List (List Bool):=[]
abbrev ms_spec_l33S_lay_1:List (List Bool):=mk_spec_l33S_lay_1::ms_spec_l33S_lay_2
abbrev ms_spec_l33S_lay_0:List (List Bool):=mk_spec_l33S_lay_0::ms_spec_l33S_lay_1
theorem cc_spec_l33S_lay_0:cCode Try.prog 0 (cL (Try.f111.body.getD .skip)) ms_spec_l33S_lay_0=some ((.ops [
  ⟨some 8,none,.asg (.const (.bool false))⟩]),ms_spec_l33S_lay_0):=by kernel_rfl
def cd_spec_l33S_lay_1:VCode:=(.draw (mB 23 8355840) [] [⟨0,mB 23 8355840,[],⟨some 15,none,.mv (.tmp 0)⟩⟩,⟨1,mB 23 8323072,[],⟨some 16,none,.nilc (.tmp 15)⟩⟩,⟨2,mB 23 8257536,[],⟨some 17,none,.fa 3 (.tmp 16)⟩⟩,⟨3,mB 23 8126464,[],⟨some 18,none,.load 1 false (.tmp 17)⟩⟩,⟨4,mB 23 8355840,[],⟨some 19,none,.mv (.tmp 0)⟩⟩,⟨5,mB 23 7831552,[],⟨some 20,none,.nilc (.tmp 19)⟩⟩,⟨6,mB 23 6782976,[],⟨some 21,none,.fa 2 (.tmp 20)⟩⟩,⟨7,mB 23 4685824,[],⟨some 22,none,.load 1 false (.tmp 21)⟩⟩] [⟨some 23,none,.bin .geq (.tmp 18) (.tmp 22)⟩])
theorem cc_spec_l33S_lay_1:cCode Try.prog 0 (cL (cL (cR (Try.f111.body.getD .skip)))) ms_spec_l33S_lay_0=some (cd_spec_l33S_lay_1,ms_spec_l33S_lay_0):=by kernel_rfl
def cd_spec_l33S_lay_2:VCode:=(.ops [
  ⟨some 24,none,.mv (.tmp 0)⟩,
  ⟨some 25,none,.nilc (.tmp 24)⟩,
  ⟨some 26,none,.fa 4 (.tmp 25)⟩,
  ⟨none,none,.store 1 (.tmp 26) (.const (.bool true))⟩])
theorem cc_spec_l33S_lay_2:cCode Try.prog 0 (cL (cL (cR (cL (cR (Try.f111.body.getD .skip)))))) ms_spec_l33S_lay_0=some (cd_spec_l33S_lay_2,ms_spec_l33S_lay_0):=by kernel_rfl
theorem cc_spec_l33S_lay_3:cCode Try.prog 0 (cL (cR (cL (cR (cL (cR (Try.f111.body.getD .skip))))))) ms_spec_l33S_lay_0=some ((.ops [
  ⟨some 8,none,.asg (.const (.bool false))⟩]),ms_spec_l33S_lay_0):=by kernel_rfl
theorem cc_spec_l33S_lay_4:cCode Try.prog 0 (cR (cR (cL (cR (cL (cR (Try.f111.body.getD .skip))))))) ms_spec_l33S_lay_0=some (.ret,ms_spec_l33S_lay_0):=by kernel_rfl
theorem cc_spec_l33S_lay_5:cCode Try.prog 0 (cR (cR (cL (cR (Try.f111.body.getD .skip))))) ms_spec_l33S_lay_0=some (.skip,ms_spec_l33S_lay_0):=by kernel_rfl
def cd_spec_l33S_lay_6:VCode:=(.ops [
  ⟨some 27,none,.mv (.tmp 0)⟩,
  ⟨some 28,none,.nilc (.tmp 27)⟩,
  ⟨some 29,none,.fa 3 (.tmp 28)⟩,
  ⟨some 30,none,.load 1 false (.tmp 29)⟩,
  ⟨some 31,none,.bin .add (.tmp 30) (.const (.int .i64 1))⟩,
  ⟨some 32,none,.nilc (.tmp 27)⟩,
  ⟨some 33,none,.fa 3 (.tmp 32)⟩,
  ⟨none,none,.store 1 (.tmp 33) (.tmp 31)⟩])
theorem cc_spec_l33S_lay_6:cCode Try.prog 0 (cL (cR (cR (Try.f111.body.getD .skip)))) ms_spec_l33S_lay_0=some (cd_spec_l33S_lay_6,ms_spec_l33S_lay_0):=by kernel_rfl
def cd_spec_l33S_lay_7:VCode:=(.ops [
  ⟨some 34,none,.mv (.tmp 0)⟩,
  ⟨some 35,none,.nilc (.tmp 34)⟩,
  ⟨some 36,none,.fa 5 (.tmp 35)⟩,
  ⟨some 37,none,.mv (.tmp 2)⟩,
  ⟨some 38,none,.mv (.tmp 3)⟩,
  ⟨some 39,none,.callX 84 [(.tmp 36),(.tmp 37),(.tmp 38)]⟩,
  ⟨some 9,none,.asg (.tmp 39)⟩])
theorem cc_spec_l33S_lay_7:cCode Try.prog 0 (cL (cR (cR (cR (Try.f111.body.getD .skip))))) ms_spec_l33S_lay_0=some (cd_spec_l33S_lay_7,ms_spec_l33S_lay_0):=by kernel_rfl
theorem cc_spec_l33S_lay_8:cCode Try.prog 0 (cL (cL (cR (cR (cR (cR (Try.f111.body.getD .skip))))))) ms_spec_l33S_lay_0=some ((.ops [
  ⟨some 40,none,.mv (.tmp 9)⟩,
  ⟨some 41,none,.bin .geq (.tmp 40) (.const (.int .i64 0))⟩]),ms_spec_l33S_lay_0):=by kernel_rfl
def cd_spec_l33S_lay_9:VCode:=(.draw (mB 73 0x1fffffffc0000000000) [] [⟨0,mB 73 0x1fffffffc0000000000,[],⟨some 42,none,.mv (.tmp 0)⟩⟩,⟨1,mB 73 0x1fffffff80000000000,[],⟨some 43,none,.nilc (.tmp 42)⟩⟩,⟨2,mB 73 0x1fffffff00000000000,[],⟨some 44,none,.fa 5 (.tmp 43)⟩⟩,⟨3,mB 73 0x1ffffffe00000000000,[],⟨some 45,none,.fa 2 (.tmp 44)⟩⟩,⟨4,mB 73 0x1ffffffc00000000000,[],⟨some 46,none,.load 1 false (.tmp 45)⟩⟩,⟨5,mB 73 0x1fffffffc0000000000,[],⟨some 47,none,.mv (.tmp 9)⟩⟩,⟨6,mB 73 0x1ffffff000000000000,[],⟨some 48,none,.ia 5 (.tmp 46) (.tmp 47)⟩⟩,⟨7,mB 73 0x1fffffe000000000000,[],⟨some 49,none,.fa 0 (.tmp 48)⟩⟩,⟨8,mB 73 0x1fffffc000000000000,[],⟨some 50,none,.load 1 false (.tmp 49)⟩⟩,⟨9,mB 73 0x1fffffffc0000000000,[],⟨some 51,none,.mv (.tmp 0)⟩⟩,⟨10,mB 73 0x1fffff7fc0000000000,[],⟨some 52,none,.nilc (.tmp 51)⟩⟩,⟨11,mB 73 0x1ffffe7fc0000000000,[],⟨some 53,none,.fa 0 (.tmp 52)⟩⟩,⟨12,mB 73 0x1ffffc7fc0000000000,[],⟨some 54,none,.load 1 false (.tmp 53)⟩⟩,⟨13,mB 73 0x1ffff87fc0000000000,[],⟨some 55,none,.nilc (.tmp 54)⟩⟩,⟨14,mB 73 0x1ffff07fc0000000000,[],⟨some 56,none,.fa 2 (.tmp 55)⟩⟩,⟨15,mB 73 0x1fffe07fc0000000000,[],⟨some 57,none,.load 1 false (.tmp 56)⟩⟩,⟨16,mB 73 0x1fffffffc0000000000,[],⟨some 58,none,.mv (.tmp 1)⟩⟩,⟨17,mB 73 0x1fff807fc0000000000,[],⟨some 59,none,.ia 1 (.tmp 57) (.tmp 58)⟩⟩,⟨18,mB 73 0x1fff007fc0000000000,[],⟨some 60,none,.load 1 false (.tmp 59)⟩⟩,⟨19,mB 73 0x1ffe000000000000000,[],⟨some 61,none,.bin .eql (.tmp 50) (.tmp 60)⟩⟩,⟨20,mB 73 0x1ffc000000000000000,[],⟨some 62,none,.mv (.tmp 61)⟩⟩,⟨21,mB 73 0x1ff8000000000000000,[],⟨some 63,some (62,true),.mv (.tmp 0)⟩⟩,⟨22,mB 73 0x1ff8000000000000000,[],⟨some 64,some (62,true),.mv (.tmp 1)⟩⟩,⟨23,mB 73 0x1ff8000000000000000,[],⟨some 65,some (62,true),.mv (.tmp 0)⟩⟩,⟨24,mB 73 0x1fd8000000000000000,[],⟨some 66,some (62,true),.nilc (.tmp 65)⟩⟩,⟨25,mB 73 0x1f98000000000000000,[],⟨some 67,some (62,true),.fa 5 (.tmp 66)⟩⟩,⟨26,mB 73 0x1f18000000000000000,[],⟨some 68,some (62,true),.fa 2 (.tmp 67)⟩⟩,⟨27,mB 73 0x1e18000000000000000,[],⟨some 69,some (62,true),.load 1 false (.tmp 68)⟩⟩,⟨28,mB 73 0x1ff8000000000000000,[],⟨some 70,some (62,true),.mv (.tmp 9)⟩⟩,⟨29,mB 73 0x1818000000000000000,[],⟨some 71,some (62,true),.ia 5 (.tmp 69) (.tmp 70)⟩⟩,⟨30,mB 73 0x1018000000000000000,[],⟨some 72,some (62,true),.load 5 true (.tmp 71)⟩⟩] [⟨some 73,some (62,true),.callX 118 [(.tmp 63),(.tmp 64),(.tmp 72)]⟩,⟨some 74,none,.pick (.tmp 62) (.tmp 73) (.const (.bool false))⟩,⟨some 8,none,.asg (.tmp 74)⟩])
theorem cc_spec_l33S_lay_9:cCode Try.prog 0 (cL (cL (cR (cL (cR (cR (cR (cR (Try.f111.body.getD .skip))))))))) ms_spec_l33S_lay_0=some (cd_spec_l33S_lay_9,ms_spec_l33S_lay_0):=by kernel_rfl
theorem cc_spec_l33S_lay_10:cCode Try.prog 0 (cR (cL (cR (cL (cR (cR (cR (cR (Try.f111.body.getD .skip))))))))) ms_spec_l33S_lay_0=some (.ret,ms_spec_l33S_lay_0):=by kernel_rfl
theorem cc_spec_l33S_lay_11:cCode Try.prog 0 (cR (cR (cL (cR (cR (cR (cR (Try.f111.body.getD .skip)))))))) ms_spec_l33S_lay_0=some (.skip,ms_spec_l33S_lay_0):=by kernel_rfl
def cd_spec_l33S_lay_12:VCode:=(.draw (mB 85 0x1ff8000000000000000000) [] [⟨0,mB 85 0x1ff8000000000000000000,[],⟨some 75,none,.mv (.tmp 0)⟩⟩,⟨1,mB 85 0x1ff0000000000000000000,[],⟨some 76,none,.nilc (.tmp 75)⟩⟩,⟨2,mB 85 0x1fe0000000000000000000,[],⟨some 77,none,.fa 5 (.tmp 76)⟩⟩,⟨3,mB 85 0x1fc0000000000000000000,[],⟨some 78,none,.fa 2 (.tmp 77)⟩⟩,⟨4,mB 85 0x1f80000000000000000000,[],⟨some 79,none,.load 1 false (.tmp 78)⟩⟩,⟨5,mB 85 0x1f00000000000000000000,[],⟨some 80,none,.len (.tmp 79)⟩⟩,⟨6,mB 85 0x1ff8000000000000000000,[],⟨some 81,none,.mv (.tmp 0)⟩⟩,⟨7,mB 85 0x1df8000000000000000000,[],⟨some 82,none,.nilc (.tmp 81)⟩⟩,⟨8,mB 85 0x19f8000000000000000000,[],⟨some 83,none,.fa 1 (.tmp 82)⟩⟩,⟨9,mB 85 0x11f8000000000000000000,[],⟨some 84,none,.load 1 false (.tmp 83)⟩⟩] [⟨some 85,none,.bin .geq (.tmp 80) (.tmp 84)⟩])
theorem cc_spec_l33S_lay_12:cCode Try.prog 0 (cL (cL (cR (cR (cR (cR (cR (Try.f111.body.getD .skip)))))))) ms_spec_l33S_lay_0=some (cd_spec_l33S_lay_12,ms_spec_l33S_lay_0):=by kernel_rfl
theorem cc_spec_l33S_lay_13:cCode Try.prog 0 (cL (cL (cR (cL (cR (cR (cR (cR (cR (Try.f111.body.getD .skip)))))))))) ms_spec_l33S_lay_0=some ((.ops [
  ⟨some 8,none,.asg (.const (.bool false))⟩]),ms_spec_l33S_lay_0):=by kernel_rfl
theorem cc_spec_l33S_lay_14:cCode Try.prog 0 (cR (cL (cR (cL (cR (cR (cR (cR (cR (Try.f111.body.getD .skip)))))))))) ms_spec_l33S_lay_0=some (.ret,ms_spec_l33S_lay_0):=by kernel_rfl
theorem cc_spec_l33S_lay_15:cCode Try.prog 0 (cR (cR (cL (cR (cR (cR (cR (cR (Try.f111.body.getD .skip))))))))) ms_spec_l33S_lay_0=some (.skip,ms_spec_l33S_lay_0):=by kernel_rfl
def cd_spec_l33S_lay_16:VCode:=(.ops [
  ⟨some 86,none,.mv (.tmp 0)⟩,
  ⟨some 87,none,.nilc (.tmp 86)⟩,
  ⟨some 88,none,.fa 10 (.tmp 87)⟩,
  ⟨some 89,none,.load 1 false (.tmp 88)⟩,
  ⟨some 10,none,.asg (.tmp 89)⟩])
theorem cc_spec_l33S_lay_16:cCode Try.prog 0 (cL (cR (cR (cR (cR (cR (cR (Try.f111.body.getD .skip)))))))) ms_spec_l33S_lay_0=some (cd_spec_l33S_lay_16,ms_spec_l33S_lay_0):=by kernel_rfl
def cd_spec_l33S_lay_17:VCode:=(.ops [
  ⟨some 90,none,.mv (.tmp 0)⟩,
  ⟨some 91,none,.nilc (.tmp 90)⟩,
  ⟨some 92,none,.fa 11 (.tmp 91)⟩,
  ⟨some 93,none,.load 1 false (.tmp 92)⟩,
  ⟨some 11,none,.asg (.tmp 93)⟩])
theorem cc_spec_l33S_lay_17:cCode Try.prog 0 (cL (cR (cR (cR (cR (cR (cR (cR (Try.f111.body.getD .skip))))))))) ms_spec_l33S_lay_0=some (cd_spec_l33S_lay_17,ms_spec_l33S_lay_0):=by kernel_rfl
theorem cc_spec_l33S_lay_18:cCode Try.prog 0 (cL (cL (cR (cR (cR (cR (cR (cR (cR (cR (Try.f111.body.getD .skip))))))))))) ms_spec_l33S_lay_0=some ((.ops [
  ⟨some 12,none,.asg (.const (.int .i64 0))⟩]),ms_spec_l33S_lay_0):=by kernel_rfl
def cd_spec_l33S_lay_19:VCode:=(.ops [
  ⟨some 94,none,.mv (.tmp 12)⟩,
  ⟨some 95,none,.mv (.tmp 10)⟩,
  ⟨some 96,none,.bin .leq (.tmp 94) (.tmp 95)⟩,
  ⟨some 97,none,.mv (.tmp 96)⟩,
  ⟨some 98,some (97,true),.mv (.tmp 12)⟩,
  ⟨some 99,some (97,true),.bin .leq (.tmp 98) (.const (.int .i64 119))⟩,
  ⟨some 100,none,.pick (.tmp 97) (.tmp 99) (.const (.bool false))⟩,
  ⟨some 101,none,.mv (.tmp 100)⟩,
  ⟨some 102,some (101,true),.mv (.tmp 0)⟩,
  ⟨some 103,some (101,true),.nilc (.tmp 102)⟩,
  ⟨some 104,some (101,true),.fa 4 (.tmp 103)⟩,
  ⟨some 105,some (101,true),.load 1 false (.tmp 104)⟩,
  ⟨some 106,some (101,true),.un .not (.tmp 105)⟩,
  ⟨some 107,none,.pick (.tmp 101) (.tmp 106) (.const (.bool false))⟩])
theorem cc_spec_l33S_lay_19:cCode Try.prog 0 (cL (cL (cL (cL (cR (cL (cR (cR (cR (cR (cR (cR (cR (cR (Try.f111.body.getD .skip))))))))))))))) ms_spec_l33S_lay_1=some (cd_spec_l33S_lay_19,ms_spec_l33S_lay_1):=by kernel_rfl
theorem cc_spec_l33S_lay_20:cCode Try.prog 0 (cL (cR (cL (cL (cL (cR (cL (cR (cR (cR (cR (cR (cR (cR (cR (Try.f111.body.getD .skip)))))))))))))))) ms_spec_l33S_lay_1=some (.skip,ms_spec_l33S_lay_1):=by kernel_rfl
theorem cc_spec_l33S_lay_21:cCode Try.prog 0 (cR (cR (cL (cL (cL (cR (cL (cR (cR (cR (cR (cR (cR (cR (cR (Try.f111.body.getD .skip)))))))))))))))) ms_spec_l33S_lay_1=some ((.exit 0),ms_spec_l33S_lay_1):=by kernel_rfl
theorem cc_spec_l33S_lay_22:cCode Try.prog 0 (cL (cL (cL (cR (cL (cL (cR (cL (cR (cR (cR (cR (cR (cR (cR (cR (Try.f111.body.getD .skip))))))))))))))))) ms_spec_l33S_lay_1=some ((.ops [
  ⟨some 13,none,.asg (.const (.int .i64 0))⟩]),ms_spec_l33S_lay_1):=by kernel_rfl
def cd_spec_l33S_lay_23:VCode:=(.ops [
  ⟨some 110,none,.mv (.tmp 13)⟩,
  ⟨some 111,none,.mv (.tmp 11)⟩,
  ⟨some 112,none,.bin .leq (.tmp 110) (.tmp 111)⟩,
  ⟨some 113,none,.mv (.tmp 112)⟩,
  ⟨some 114,some (113,true),.mv (.tmp 13)⟩,
  ⟨some 115,some (113,true),.bin .leq (.tmp 114) (.const (.int .i64 119))⟩,
  ⟨some 116,none,.pick (.tmp 113) (.tmp 115) (.const (.bool false))⟩,
  ⟨some 117,none,.mv (.tmp 116)⟩,
  ⟨some 118,some (117,true),.mv (.tmp 0)⟩,
  ⟨some 119,some (117,true),.nilc (.tmp 118)⟩,
  ⟨some 120,some (117,true),.fa 4 (.tmp 119)⟩,
  ⟨some 121,some (117,true),.load 1 false (.tmp 120)⟩,
  ⟨some 122,some (117,true),.un .not (.tmp 121)⟩,
  ⟨some 123,none,.pick (.tmp 117) (.tmp 122) (.const (.bool false))⟩])
theorem cc_spec_l33S_lay_23:cCode Try.prog 0 (cL (cL (cL (cL (cR (cL (cL (cR (cL (cL (cR (cL (cR (cR (cR (cR (cR (cR (cR (cR (Try.f111.body.getD .skip))))))))))))))))))))) ms_spec_l33S_lay_2=some (cd_spec_l33S_lay_23,ms_spec_l33S_lay_2):=by kernel_rfl
theorem cc_spec_l33S_lay_24:cCode Try.prog 0 (cL (cR (cL (cL (cL (cR (cL (cL (cR (cL (cL (cR (cL (cR (cR (cR (cR (cR (cR (cR (cR (Try.f111.body.getD .skip)))))))))))))))))))))) ms_spec_l33S_lay_2=some (.skip,ms_spec_l33S_lay_2):=by kernel_rfl
theorem cc_spec_l33S_lay_25:cCode Try.prog 0 (cR (cR (cL (cL (cL (cR (cL (cL (cR (cL (cL (cR (cL (cR (cR (cR (cR (cR (cR (cR (cR (Try.f111.body.getD .skip)))))))))))))))))))))) ms_spec_l33S_lay_2=some ((.exit 2),ms_spec_l33S_lay_2):=by kernel_rfl
def cd_spec_l33S_lay_26:VCode:=(.ops [
  ⟨some 126,none,.mv (.tmp 0)⟩,
  ⟨some 127,none,.mv (.tmp 10)⟩,
  ⟨some 128,none,.mv (.tmp 12)⟩,
  ⟨some 129,none,.bin .add (.tmp 128) (.const (.int .i64 1))⟩,
  ⟨some 130,none,.callX 110 [(.tmp 127),(.tmp 129)]⟩,
  ⟨some 131,none,.nilc (.tmp 126)⟩,
  ⟨some 132,none,.fa 10 (.tmp 131)⟩,
  ⟨none,none,.store 1 (.tmp 132) (.tmp 130)⟩])
theorem cc_spec_l33S_lay_26:cCode Try.prog 0 (cL (cL (cL (cR (cL (cL (cR (cL (cL (cR (cL (cL (cR (cL (cR (cR (cR (cR (cR (cR (cR (cR (Try.f111.body.getD .skip))))))))))))))))))))))) ms_spec_l33S_lay_2=some (cd_spec_l33S_lay_26,ms_spec_l33S_lay_2):=by kernel_rfl
def cd_spec_l33S_lay_27:VCode:=(.ops [
  ⟨some 133,none,.mv (.tmp 0)⟩,
  ⟨some 134,none,.mv (.tmp 11)⟩,
  ⟨some 135,none,.mv (.tmp 13)⟩,
  ⟨some 136,none,.bin .add (.tmp 135) (.const (.int .i64 1))⟩,
  ⟨some 137,none,.callX 110 [(.tmp 134),(.tmp 136)]⟩,
  ⟨some 138,none,.nilc (.tmp 133)⟩,
  ⟨some 139,none,.fa 11 (.tmp 138)⟩,
  ⟨none,none,.store 1 (.tmp 139) (.tmp 137)⟩])
theorem cc_spec_l33S_lay_27:cCode Try.prog 0 (cL (cR (cL (cL (cR (cL (cL (cR (cL (cL (cR (cL (cL (cR (cL (cR (cR (cR (cR (cR (cR (cR (cR (Try.f111.body.getD .skip)))))))))))))))))))))))) ms_spec_l33S_lay_2=some (cd_spec_l33S_lay_27,ms_spec_l33S_lay_2):=by kernel_rfl
def cd_spec_l33S_lay_28:VCode:=(.ops [
  ⟨some 140,none,.mv (.tmp 0)⟩,
  ⟨some 141,none,.nilc (.tmp 140)⟩,
  ⟨some 142,none,.fa 0 (.tmp 141)⟩,
  ⟨some 143,none,.load 1 false (.tmp 142)⟩,
  ⟨some 144,none,.nilc (.tmp 143)⟩,
  ⟨some 145,none,.fa 2 (.tmp 144)⟩,
  ⟨some 146,none,.load 1 false (.tmp 145)⟩,
  ⟨some 147,none,.mv (.tmp 1)⟩,
  ⟨some 148,none,.ia 1 (.tmp 146) (.tmp 147)⟩,
  ⟨some 149,none,.load 1 false (.tmp 148)⟩,
  ⟨some 150,none,.mv (.tmp 12)⟩,
  ⟨some 151,none,.mv (.tmp 13)⟩,
  ⟨some 152,none,.mv (.tmp 2)⟩,
  ⟨some 153,none,.mv (.tmp 3)⟩,
  ⟨some 154,none,.build [(.int .i64 0),(.int .i64 0),(.int .i64 0),(.int .i64 0),(.int .i64 0)] [(0,1,(.tmp 149)),(1,1,(.tmp 150)),(2,1,(.tmp 151)),(3,1,(.tmp 152)),(4,1,(.tmp 153))]⟩,
  ⟨some 14,none,.alloc [(.int .i64 0),(.int .i64 0),(.int .i64 0),(.int .i64 0),(.int .i64 0)]⟩,
  ⟨none,none,.store 5 (.tmp 14) (.tmp 154)⟩])
theorem cc_spec_l33S_lay_28:cCode Try.prog 0 (cL (cR (cR (cL (cL (cR (cL (cL (cR (cL (cL (cR (cL (cL (cR (cL (cR (cR (cR (cR (cR (cR (cR (cR (Try.f111.body.getD .skip))))))))))))))))))))))))) ms_spec_l33S_lay_2=some (cd_spec_l33S_lay_28,ms_spec_l33S_lay_2):=by kernel_rfl
def cd_spec_l33S_lay_29:VCode:=(.drawW (mB 164 0xff800000000000000000000000000000000000000) (mB 163 0x70000000000000000000000000000000000000000) [⟨1,mB 164 0xff800000000000000000000000000000000000000,[],⟨some 156,none,.mv (.tmp 0)⟩⟩,⟨2,mB 164 0xfe800000000000000000000000000000000000000,[],⟨some 157,none,.nilc (.tmp 156)⟩⟩,⟨3,mB 164 0xfc800000000000000000000000000000000000000,[],⟨some 158,none,.fa 5 (.tmp 157)⟩⟩,⟨4,mB 164 0xf8800000000000000000000000000000000000000,[],⟨some 159,none,.fa 2 (.tmp 158)⟩⟩,⟨5,mB 164 0xf0800000000000000000000000000000000000000,[],⟨some 160,none,.load 1 false (.tmp 159)⟩⟩,⟨6,mB 164 0xff800000000000000000000000000000000000000,[],⟨some 161,none,.load 5 true (.tmp 14)⟩⟩,⟨7,mB 164 0xdf800000000000000000000000000000000000000,(mB 162 0x20000000000000000000000000000000000000000),⟨some 162,none,.bslN 5 [(.tmp 161)]⟩⟩] ⟨8,mB 164 0xa0800000000000000000000000000000000000000,(mB 163 0x50000000000000000000000000000000000000000),⟨some 163,none,.app 5 40 (.tmp 160) (.tmp 162)⟩⟩ [⟨0,mB 164 0xff800000000000000000000000000000000000000,[],⟨some 155,none,.mv (.tmp 0)⟩⟩] [⟨some 164,none,.nilc (.tmp 155)⟩,⟨some 165,none,.fa 5 (.tmp 164)⟩,⟨some 166,none,.fa 2 (.tmp 165)⟩,⟨none,none,.store 1 (.tmp 166) (.tmp 163)⟩])
theorem cc_spec_l33S_lay_29:cCode Try.prog 0 (cL (cR (cR (cR (cL (cL (cR (cL (cL (cR (cL (cL (cR (cL (cL (cR (cL (cR (cR (cR (cR (cR (cR (cR (cR (Try.f111.body.getD .skip)))))))))))))))))))))))))) ms_spec_l33S_lay_2=some (cd_spec_l33S_lay_29,ms_spec_l33S_lay_2):=by kernel_rfl
def cd_spec_l33S_lay_30:VCode:=(.ops [
  ⟨some 167,none,.mv (.tmp 0)⟩,
  ⟨some 168,none,.mv (.tmp 1)⟩,
  ⟨some 169,none,.load 5 true (.tmp 14)⟩,
  ⟨some 170,none,.callX 118 [(.tmp 167),(.tmp 168),(.tmp 169)]⟩])
theorem cc_spec_l33S_lay_30:cCode Try.prog 0 (cL (cL (cR (cR (cR (cR (cL (cL (cR (cL (cL (cR (cL (cL (cR (cL (cL (cR (cL (cR (cR (cR (cR (cR (cR (cR (cR (Try.f111.body.getD .skip)))))))))))))))))))))))))))) ms_spec_l33S_lay_2=some (cd_spec_l33S_lay_30,ms_spec_l33S_lay_2):=by kernel_rfl
theorem cc_spec_l33S_lay_31:cCode Try.prog 0 (cL (cL (cR (cL (cR (cR (cR (cR (cL (cL (cR (cL (cL (cR (cL (cL (cR (cL (cL (cR (cL (cR (cR (cR (cR (cR (cR (cR (cR (Try.f111.body.getD .skip)))))))))))))))))))))))))))))) ms_spec_l33S_lay_2=some ((.ops [
  ⟨some 8,none,.asg (.const (.bool true))⟩]),ms_spec_l33S_lay_2):=by kernel_rfl
theorem cc_spec_l33S_lay_32:cCode Try.prog 0 (cR (cL (cR (cL (cR (cR (cR (cR (cL (cL (cR (cL (cL (cR (cL (cL (cR (cL (cL (cR (cL (cR (cR (cR (cR (cR (cR (cR (cR (Try.f111.body.getD .skip)))))))))))))))))))))))))))))) ms_spec_l33S_lay_2=some (.ret,ms_spec_l33S_lay_2):=by kernel_rfl
theorem cc_spec_l33S_lay_33:cCode Try.prog 0 (cR (cR (cL (cR (cR (cR (cR (cL (cL (cR (cL (cL (cR (cL (cL (cR (cL (cL (cR (cL (cR (cR (cR (cR (cR (cR (cR (cR (Try.f111.body.getD .skip))))))))))))))))))))))))))))) ms_spec_l33S_lay_2=some (.skip,ms_spec_l33S_lay_2):=by kernel_rfl
def cd_spec_l33S_lay_34:VCode:=(.draw (mB 185 0x1fff8000000000000000000000000000000000000000000) [] [⟨0,mB 185 0x1fff8000000000000000000000000000000000000000000,[],⟨some 171,none,.mv (.tmp 0)⟩⟩,⟨1,mB 185 0x1fff8000000000000000000000000000000000000000000,[],⟨some 172,none,.mv (.tmp 0)⟩⟩,⟨2,mB 185 0x1ffe8000000000000000000000000000000000000000000,[],⟨some 173,none,.nilc (.tmp 172)⟩⟩,⟨3,mB 185 0x1ffc8000000000000000000000000000000000000000000,[],⟨some 174,none,.fa 5 (.tmp 173)⟩⟩,⟨4,mB 185 0x1ff88000000000000000000000000000000000000000000,[],⟨some 175,none,.fa 2 (.tmp 174)⟩⟩,⟨5,mB 185 0x1ff08000000000000000000000000000000000000000000,[],⟨some 176,none,.load 1 false (.tmp 175)⟩⟩,⟨6,mB 185 0x1fff8000000000000000000000000000000000000000000,[],⟨some 177,none,.mv (.tmp 0)⟩⟩,⟨7,mB 185 0x1fdf8000000000000000000000000000000000000000000,[],⟨some 178,none,.nilc (.tmp 177)⟩⟩,⟨8,mB 185 0x1f9f8000000000000000000000000000000000000000000,[],⟨some 179,none,.fa 5 (.tmp 178)⟩⟩,⟨9,mB 185 0x1f1f8000000000000000000000000000000000000000000,[],⟨some 180,none,.fa 2 (.tmp 179)⟩⟩,⟨10,mB 185 0x1e1f8000000000000000000000000000000000000000000,[],⟨some 181,none,.load 1 false (.tmp 180)⟩⟩,⟨11,mB 185 0x1c1f8000000000000000000000000000000000000000000,[],⟨some 182,none,.len (.tmp 181)⟩⟩,⟨12,mB 185 0x181f8000000000000000000000000000000000000000000,[],⟨some 183,none,.bin .sub (.tmp 182) (.const (.int .i64 1))⟩⟩,⟨13,mB 185 0x10008000000000000000000000000000000000000000000,[],⟨some 184,none,.slc 5 (.tmp 176) none (some (.tmp 183)) none⟩⟩] [⟨some 185,none,.nilc (.tmp 171)⟩,⟨some 186,none,.fa 5 (.tmp 185)⟩,⟨some 187,none,.fa 2 (.tmp 186)⟩,⟨none,none,.store 1 (.tmp 187) (.tmp 184)⟩])
theorem cc_spec_l33S_lay_34:cCode Try.prog 0 (cR (cR (cR (cR (cR (cL (cL (cR (cL (cL (cR (cL (cL (cR (cL (cL (cR (cL (cR (cR (cR (cR (cR (cR (cR (cR (Try.f111.body.getD .skip))))))))))))))))))))))))))) ms_spec_l33S_lay_2=some (cd_spec_l33S_lay_34,ms_spec_l33S_lay_2):=by kernel_rfl
def cd_spec_l33S_lay_35:VCode:=(.ops [
  ⟨some 124,none,.mv (.tmp 13)⟩,
  ⟨some 125,none,.bin .add (.tmp 124) (.const (.int .i64 1))⟩,
  ⟨some 13,none,.asg (.tmp 125)⟩])
theorem cc_spec_l33S_lay_35:cCode Try.prog 0 (cR (cR (cL (cL (cR (cL (cL (cR (cL (cL (cR (cL (cR (cR (cR (cR (cR (cR (cR (cR (Try.f111.body.getD .skip))))))))))))))))))))) ms_spec_l33S_lay_2=some (cd_spec_l33S_lay_35,ms_spec_l33S_lay_2):=by kernel_rfl
def cd_spec_l33S_lay_36:VCode:=(.ops [
  ⟨some 108,none,.mv (.tmp 12)⟩,
  ⟨some 109,none,.bin .add (.tmp 108) (.const (.int .i64 1))⟩,
  ⟨some 12,none,.asg (.tmp 109)⟩])
theorem cc_spec_l33S_lay_36:cCode Try.prog 0 (cR (cR (cL (cL (cR (cL (cR (cR (cR (cR (cR (cR (cR (cR (Try.f111.body.getD .skip))))))))))))))) ms_spec_l33S_lay_2=some (cd_spec_l33S_lay_36,ms_spec_l33S_lay_2):=by kernel_rfl
def cd_spec_l33S_lay_37:VCode:=(.ops [
  ⟨some 188,none,.mv (.tmp 0)⟩,
  ⟨some 189,none,.mv (.tmp 10)⟩,
  ⟨some 190,none,.nilc (.tmp 188)⟩,
  ⟨some 191,none,.fa 10 (.tmp 190)⟩,
  ⟨none,none,.store 1 (.tmp 191) (.tmp 189)⟩])
theorem cc_spec_l33S_lay_37:cCode Try.prog 0 (cL (cR (cR (cR (cR (cR (cR (cR (cR (cR (Try.f111.body.getD .skip))))))))))) ms_spec_l33S_lay_2=some (cd_spec_l33S_lay_37,ms_spec_l33S_lay_2):=by kernel_rfl
def cd_spec_l33S_lay_38:VCode:=(.ops [
  ⟨some 192,none,.mv (.tmp 0)⟩,
  ⟨some 193,none,.mv (.tmp 11)⟩,
  ⟨some 194,none,.nilc (.tmp 192)⟩,
  ⟨some 195,none,.fa 11 (.tmp 194)⟩,
  ⟨none,none,.store 1 (.tmp 195) (.tmp 193)⟩])
theorem cc_spec_l33S_lay_38:cCode Try.prog 0 (cL (cR (cR (cR (cR (cR (cR (cR (cR (cR (cR (Try.f111.body.getD .skip)))))))))))) ms_spec_l33S_lay_2=some (cd_spec_l33S_lay_38,ms_spec_l33S_lay_2):=by kernel_rfl
theorem cc_spec_l33S_lay_39:cCode Try.prog 0 (cL (cR (cR (cR (cR (cR (cR (cR (cR (cR (cR (cR (Try.f111.body.getD .skip))))))))))))) ms_spec_l33S_lay_2=some ((.ops [
  ⟨some 8,none,.asg (.const (.bool false))⟩]),ms_spec_l33S_lay_2):=by kernel_rfl
theorem cc_spec_l33S_lay_40:cCode Try.prog 0 (cR (cR (cR (cR (cR (cR (cR (cR (cR (cR (cR (cR (Try.f111.body.getD .skip))))))))))))) ms_spec_l33S_lay_2=some (.ret,ms_spec_l33S_lay_2):=by kernel_rfl
def code_spec_l33S_lay:VCode:=(.seq (.ops [
  ⟨some 8,none,.asg (.const (.bool false))⟩]) (.seq (.seq cd_spec_l33S_lay_1 (.cond (.tmp 23) (.seq cd_spec_l33S_lay_2 (.seq (.ops [
  ⟨some 8,none,.asg (.const (.bool false))⟩]) .ret)) .skip)) (.seq cd_spec_l33S_lay_6 (.seq cd_spec_l33S_lay_7 (.seq (.seq (.ops [
  ⟨some 40,none,.mv (.tmp 9)⟩,
  ⟨some 41,none,.bin .geq (.tmp 40) (.const (.int .i64 0))⟩]) (.cond (.tmp 41) (.seq cd_spec_l33S_lay_9 .ret) .skip)) (.seq (.seq cd_spec_l33S_lay_12 (.cond (.tmp 85) (.seq (.ops [
  ⟨some 8,none,.asg (.const (.bool false))⟩]) .ret) .skip)) (.seq cd_spec_l33S_lay_16 (.seq cd_spec_l33S_lay_17 (.seq (.seq (.ops [
  ⟨some 12,none,.asg (.const (.int .i64 0))⟩]) (.block 0 (.loop mk_spec_l33S_lay_0 (.seq (.seq cd_spec_l33S_lay_19 (.cond (.tmp 107) .skip (.exit 0))) (.seq (.block 1 (.seq (.ops [
  ⟨some 13,none,.asg (.const (.int .i64 0))⟩]) (.block 2 (.loop mk_spec_l33S_lay_1 (.seq (.seq cd_spec_l33S_lay_23 (.cond (.tmp 123) .skip (.exit 2))) (.seq (.block 3 (.seq cd_spec_l33S_lay_26 (.seq cd_spec_l33S_lay_27 (.seq cd_spec_l33S_lay_28 (.seq cd_spec_l33S_lay_29 (.seq (.seq cd_spec_l33S_lay_30 (.cond (.tmp 170) (.seq (.ops [
  ⟨some 8,none,.asg (.const (.bool true))⟩]) .ret) .skip)) cd_spec_l33S_lay_34)))))) cd_spec_l33S_lay_35)))))) cd_spec_l33S_lay_36))))) (.seq cd_spec_l33S_lay_37 (.seq cd_spec_l33S_lay_38 (.seq (.ops [
  ⟨some 8,none,.asg (.const (.bool false))⟩]) .ret))))))))))))
theorem law_spec_l33S_lay {a0 a1 a2 a3 d:D}{cells cells':List D}(h:∀ b,code_spec_l33S_lay.wp (CT Try.prog NoG) (endX [(.t 8)] d 0 b cells') [.box (some b) cells,a1,a2,a3,.undef,.undef,.undef,.undef,.undef,.undef,.undef,.undef,.undef,.undef,.undef,.undef,.undef,.undef,.undef,.undef,.undef,.undef,.undef,.undef,.undef,.undef,.undef,.undef,.undef,.undef,.undef,.undef,.undef,.undef,.undef,.undef,.undef,.undef,.undef,.undef,.undef,.undef,.undef,.undef,.undef,.undef,.undef,.undef,.undef,.undef,.undef,.undef,.undef,.undef,.undef,.undef,.undef,.undef,.undef,.undef,.undef,.undef,.undef,.undef,.undef,.undef,.undef,.undef,.undef,.undef,.undef,.undef,.undef,.undef,.undef,.undef,.undef,.undef,.undef,.undef,.undef,.undef,.undef,.undef,.undef,.undef,.undef,.undef,.undef,.undef,.undef,.undef,.undef,.undef,.undef,.undef,.undef,.undef,.undef,.undef,.undef,.undef,.undef,.undef,.undef,.undef,.undef,.undef,.undef,.undef,.undef,.undef,.undef,.undef,.undef,.undef,.undef,.undef,.undef,.undef,.undef,.undef,.undef,.undef,.undef,.undef,.undef,.undef,.undef,.undef,.undef,.undef,.undef,.undef,.undef,.undef,.undef,.undef,.undef,.undef,.undef,.undef,.undef,.undef,.undef,.undef,.undef,.undef,.undef,.undef,.undef,.undef,.undef,.undef,.undef,.undef,.undef,.undef,.undef,.undef,.undef,.undef,.undef,.undef,.undef,.undef,.undef,.undef,.undef,.undef,.undef,.undef,.undef,.undef,.undef,.undef,.undef,.undef,.undef,.undef,.undef,.undef,.undef,.undef,.undef,.undef,.undef,.undef,.undef,.undef,.undef,.undef,.undef,.undef,.undef,.undef]):ContractX Try.prog NoG 111 0 [a0,a1,a2,a3] cells d cells' :=
  contract_ofX (pt:=0) noG Try.func111 (fun us W=>by kernel_rfl) (c:=Try.f111.body.getD .skip) (ms:=[mk_spec_l33S_lay_0,mk_spec_l33S_lay_1]) (ms':=[]) (by kernel_rfl) (cc_seq cc_spec_l33S_lay_0 (cc_seq (cc_seq cc_spec_l33S_lay_1 (cc_cond (cc_seq cc_spec_l33S_lay_2 (cc_seq cc_spec_l33S_lay_3 cc_spec_l33S_lay_4)) cc_spec_l33S_lay_5)) (cc_seq cc_spec_l33S_lay_6 (cc_seq cc_spec_l33S_lay_7 (cc_seq (cc_seq cc_spec_l33S_lay_8 (cc_cond (cc_seq cc_spec_l33S_lay_9 cc_spec_l33S_lay_10) cc_spec_l33S_lay_11)) (cc_seq (cc_seq cc_spec_l33S_lay_12 (cc_cond (cc_seq cc_spec_l33S_lay_13 cc_spec_l33S_lay_14) cc_spec_l33S_lay_15)) (cc_seq cc_spec_l33S_lay_16 (cc_seq cc_spec_l33S_lay_17 (cc_seq (cc_seq cc_spec_l33S_lay_18 (cc_block (cc_loop (cc_seq (cc_seq cc_spec_l33S_lay_19 (cc_cond cc_spec_l33S_lay_20 cc_spec_l33S_lay_21)) (cc_seq (cc_block (cc_seq cc_spec_l33S_lay_22 (cc_block (cc_loop (cc_seq (cc_seq cc_spec_l33S_lay_23 (cc_cond cc_spec_l33S_lay_24 cc_spec_l33S_lay_25)) (cc_seq (cc_block (cc_seq cc_spec_l33S_lay_26 (cc_seq cc_spec_l33S_lay_27 (cc_seq cc_spec_l33S_lay_28 (cc_seq cc_spec_l33S_lay_29 (cc_seq (cc_seq cc_spec_l33S_lay_30 (cc_cond (cc_seq cc_spec_l33S_lay_31 cc_spec_l33S_lay_32) cc_spec_l33S_lay_33)) cc_spec_l33S_lay_34)))))) cc_spec_l33S_lay_35)))))) cc_spec_l33S_lay_36))))) (cc_seq cc_spec_l33S_lay_37 (cc_seq cc_spec_l33S_lay_38 (cc_seq cc_spec_l33S_lay_39 cc_spec_l33S_lay_40)))))))))))) (by kernel_rfl) (by simp) h
set_option maxHeartbeats 4000000 in
theorem v_rLay {K : SK} (hK:OkK K) {n i bl lf:Nat} (hi:i<K.Cells.length) (hp:∀ p,FramR K bl lf (putR K (atR K n) i p)) (hs:∀ p,MethR Try.prog K 118 bl lf [.v (.int .i64 (i:Int)),.agg (Piece.td.d false p)] (putR K (atR K n) i p)) (so we:Int) :
    MethR Try.prog K 111 bl lf [.v (.int .i64 (i:Int)),.v (.int .i64 so),.v (.int .i64 we)] (layR K (atR K n) i so we):=by
  intro z hz;have hN:=hK.nle;have hM:=hK.m;have hB:=hK.b;have hst:=hz.st;have hcx:=getD_at hi;have hpl:z.pieces.length≤100:=by have:=hz.lp;omega
  unfold layR;refine law_spec_l33S_lay ?_;intro b;unfold code_spec_l33S_lay;by_cases hb:K.budget≤z.steps
  · rw [if_pos hb];have hb':decide (K.budget≤z.steps)=true:=decide_eq_true hb;simp -implicitDefEqProofs (disch:=omega) only [go_sem,↓reduceIte ,cd_spec_l33S_lay_1,cd_spec_l33S_lay_2,hb'];exact D.le_rfl _
  · rw [if_neg hb];have hb':decide (K.budget≤z.steps)=false:=decide_eq_false hb;have hz1:OkR K bl lf { z with steps:=z.steps+1 }:=⟨by dsimp only;omega,hz.ro,hz.co,hz.be,hz.bo,hz.lo,hz.lp⟩
    have hw1:IntKind.i64.wrap (z.steps+1)=z.steps+1:=wrI (by omega) (by omega);have hF:=v_l24Fit ⟨z.bottom,z.left,z.pieces⟩ so we (show z.pieces.length≤1048576 by omega);rw [Design.td_d] at hF;unfold fitR;dsimp only at hF ⊢;simp -implicitDefEqProofs (disch:=omega) only [go_sem,↓reduceIte ,cd_spec_l33S_lay_1,cd_spec_l33S_lay_6,cd_spec_l33S_lay_7,hb',hw1];cases hf:z.pieces.find? (isInl so we) with
    | some p =>
      obtain ⟨j,e1,e2⟩:=fit_some hf;rw [e1] at hF;have hj:j<z.pieces.length:=(List.getElem?_eq_some_iff.1 e2).1;have g0:decide ((0:Int)≤(j:Int))=true:=decide_eq_true (by omega);dsimp only;by_cases hcol:p.Color=K.Cells.getD i 0
      · rw [if_pos hcol];have c3:=decide_eq_true hcol;have hcc:=hs p _ hz1;rw [Piece.td_d] at hcc;refine call_B (hF) (by simp -implicitDefEqProofs (disch:=omega) only [go_sem,↓reduceIte,deep,TD.rows,immLL_rI,immLL_rB8,immLL_rS,immLL_rBo,immLL_rII,immLL_rIIt,cd_spec_l33S_lay_9,List.length_map,Int.toNat_natCast,Int.ofNat_lt,Int.natCast_nonneg,List.getElem?_map,Option.map_some,Int.natCast_zero,Int.natCast_one,Int.cast_ofNat_Int,Int.ofNat_le,Int.toNat_zero,Nat.sub_zero,Int.le_refl,Int.reduceLT,Int.reduceLE,Int.reduceEq,Int.reduceAdd,Int.reduceSub,Int.reduceMul,Int.reduceToNat,Int.reduceNeg,g0,hj,e2,Piece.td_d,hi,hcx,rI,c3,List.length_map];exact rfl) ?_;simp -implicitDefEqProofs (disch:=omega) only [go_sem,↓reduceIte ,cd_spec_l33S_lay_9,List.length_map,Int.toNat_natCast,Int.ofNat_lt,Int.natCast_nonneg,List.getElem?_map,Option.map_some,Int.natCast_zero,Int.natCast_one,Int.cast_ofNat_Int,Int.ofNat_le,Int.toNat_zero,Nat.sub_zero,Int.le_refl,Int.reduceLT,Int.reduceLE,Int.reduceEq,Int.reduceAdd,Int.reduceSub,Int.reduceMul,Int.reduceToNat,Int.reduceNeg,g0,hj,e2,Piece.td_d,hi,hcx,rI,c3,List.length_map];refine call_PB (i:=0) (r:=0) (hcc) rfl rfl (by simp -implicitDefEqProofs (disch:=omega) only [go_sem,↓reduceIte,deep,TD.rows,immLL_rI,immLL_rB8,immLL_rS,immLL_rBo,immLL_rII,immLL_rIIt];exact rfl) ?_;simp -implicitDefEqProofs (disch:=omega) only [go_sem,↓reduceIte];exact D.le_rfl _
      · rw [if_neg hcol];have c3:=decide_eq_false hcol;refine call_B (hF) (by simp -implicitDefEqProofs (disch:=omega) only [go_sem,↓reduceIte,deep,TD.rows,immLL_rI,immLL_rB8,immLL_rS,immLL_rBo,immLL_rII,immLL_rIIt,cd_spec_l33S_lay_9,List.length_map,Int.toNat_natCast,Int.ofNat_lt,Int.natCast_nonneg,List.getElem?_map,Option.map_some,Int.natCast_zero,Int.natCast_one,Int.cast_ofNat_Int,Int.ofNat_le,Int.toNat_zero,Nat.sub_zero,Int.le_refl,Int.reduceLT,Int.reduceLE,Int.reduceEq,Int.reduceAdd,Int.reduceSub,Int.reduceMul,Int.reduceToNat,Int.reduceNeg,g0,hj,e2,Piece.td_d,hi,hcx,rI,c3,List.length_map];exact rfl) ?_;simp -implicitDefEqProofs (disch:=omega) only [go_sem,↓reduceIte ,cd_spec_l33S_lay_9,List.length_map,Int.toNat_natCast,Int.ofNat_lt,Int.natCast_nonneg,List.getElem?_map,Option.map_some,Int.natCast_zero,Int.natCast_one,Int.cast_ofNat_Int,Int.ofNat_le,Int.toNat_zero,Nat.sub_zero,Int.le_refl,Int.reduceLT,Int.reduceLE,Int.reduceEq,Int.reduceAdd,Int.reduceSub,Int.reduceMul,Int.reduceToNat,Int.reduceNeg,g0,hj,e2,Piece.td_d,hi,hcx,rI,c3,List.length_map];exact D.le_rfl _
    | none =>
      rw [fit_none hf] at hF;have g0:decide ((0:Int) ≤ -1)=false:=by decide
      dsimp only;by_cases hm:K.most≤(z.pieces.length:Int)
      · rw [if_pos hm];have hm':=decide_eq_true hm;refine call_B (hF) (by simp -implicitDefEqProofs (disch:=omega) only [go_sem,↓reduceIte,deep,TD.rows,immLL_rI,immLL_rB8,immLL_rS,immLL_rBo,immLL_rII,immLL_rIIt,cd_spec_l33S_lay_12,g0,List.length_map,hm'];exact rfl) ?_;simp -implicitDefEqProofs (disch:=omega) only [go_sem,↓reduceIte ,cd_spec_l33S_lay_12,g0,List.length_map,hm'];exact D.le_rfl _
      · rw [if_neg hm];have hm':=decide_eq_false hm;refine call_B (hF) (by simp -implicitDefEqProofs (disch:=omega) only [go_sem,↓reduceIte,deep,TD.rows,immLL_rI,immLL_rB8,immLL_rS,immLL_rBo,immLL_rII,immLL_rIIt,cd_spec_l33S_lay_12,cd_spec_l33S_lay_16,cd_spec_l33S_lay_17,g0,List.length_map,hm'];exact rfl) ?_;simp -implicitDefEqProofs (disch:=omega) only [go_sem,↓reduceIte ,cd_spec_l33S_lay_12,cd_spec_l33S_lay_16,cd_spec_l33S_lay_17,g0,List.length_map,hm'];have hnew:=fram_new (K:=K) so we hp _ hz1 (by dsimp only;omega);unfold newR;dsimp only;have hg1:=hz.ro;have hg2:=hz.co;have hlz:z.pieces.length<100:=by omega
        obtain ⟨R0,hR0⟩:∃ R0,roundsR (fun _ z=>z) (fun n1=>roundsR (fun e z'=>preN z.rows z.cols n1 e ⟨K.Cells.getD i 0,n1,e,so,we⟩ z') (fun e=>putR K (atR K n) i ⟨K.Cells.getD i 0,n1,e,so,we⟩) postN id (nEach z.cols) 0) id (fun z'=>{ z' with rows:=z.rows,cols:=z.cols }) (nEach z.rows) 0 { z with steps:=z.steps+1 }=R0:=⟨_,rfl⟩
        rw [hR0];generalize hr0:z.rows=r0 at *;generalize hc0:z.cols=c0 at *;refine loop_ov (by simp -implicitDefEqProofs (disch:=omega) only [go_sem,↓reduceIte];exact rfl) (fun p:Nat×SR=>[(0,bxR b K p.2),(10,.v (.int .i64 r0)),(11,.v (.int .i64 c0)),(12,.v (.int .i64 (p.1:Nat)))]) (fun _=>by simp only [ovr_nil,ovr_cons,List.set_cons_zero,List.set_cons_succ];exact rfl) (fun p:Nat×SR=>p.1≤nEach r0∧KeptR K z p.2∧roundsR (fun _ z=>z) (fun n1=>roundsR (fun e z'=>preN r0 c0 n1 e ⟨K.Cells.getD i 0,n1,e,so,we⟩ z') (fun e=>putR K (atR K n) i ⟨K.Cells.getD i 0,n1,e,so,we⟩) postN id (nEach c0) 0) id (fun z'=>{ z' with rows:=r0,cols:=c0 }) (nEach r0-p.1) p.1 p.2=R0) (fun p:Nat×SR=>nEach r0-p.1) ((0,{ z with steps:=z.steps+1 })) (by rw [hr0,hc0];(try simp -implicitDefEqProofs only [nleL_cc,nleL_nn,nle_self,nle_boxs,nle_aggs,nle_nils,and_self,and_true,true_and])<;>repeat' (first | exact nle_of_eq rfl | exact nle_nil | apply And.intro | apply nle_sl | apply nleLL_cons | apply nleL_cons | exact nleL_nil | exact nleLL_nil | apply nle_box | apply nle_agg)) (?_) ?_
        · refine ⟨Nat.zero_le _,⟨z.steps+1,z.full,r0,c0,by rw [← hr0,← hc0],hz1.st⟩,?_⟩;dsimp only;rw [Nat.sub_zero,hr0,hc0];exact hR0
        rintro ⟨k1,z1⟩ ⟨hk1,hZ1,hJ1⟩;dsimp only at hk1 hZ1 hJ1 ⊢;by_cases hlt1:k1<nEach r0
        · obtain ⟨g1,g2⟩:=nE_lt hg1 hlt1;have d1:decide ((k1:Int)≤r0)=true:=decide_eq_true g1;have d2:decide ((k1:Int)≤119)=true:=decide_eq_true g2;cases hfu:z1.full with
          | true=>obtain rfl:=rounds_full hJ1 hlt1 hfu;simp -implicitDefEqProofs (disch:=omega) only [go_sem,↓reduceIte ,cd_spec_l33S_lay_19,cd_spec_l33S_lay_37,cd_spec_l33S_lay_38,d1,d2,hfu];exact D.le_rfl _
          | false =>
            have hst1:=rounds_step hJ1 hlt1 hfu;obtain ⟨Q0,hQ0⟩:∃ Q0,roundsR (fun e z'=>preN r0 c0 k1 e ⟨K.Cells.getD i 0,k1,e,so,we⟩ z') (fun e=>putR K (atR K n) i ⟨K.Cells.getD i 0,k1,e,so,we⟩) postN id (nEach c0) 0 z1=Q0:=⟨_,rfl⟩
            rw [hQ0] at hst1;have hw4:IntKind.i64.wrap ((k1:Int)+1)=((k1+1:Nat):Int):=by rw [wrI (by omega) (by omega)];omega
            simp -implicitDefEqProofs (disch:=omega) only [go_sem,↓reduceIte ,cd_spec_l33S_lay_19,d1,d2,hfu];refine loop_ov (by simp -implicitDefEqProofs (disch:=omega) only [go_sem,↓reduceIte];exact rfl) (fun p:Nat×SR=>[(0,bxR b K p.2),(10,.v (.int .i64 r0)),(11,.v (.int .i64 c0)),(12,.v (.int .i64 (k1:Nat))),(13,.v (.int .i64 (p.1:Nat)))]) (fun _=>by simp only [ovr_nil,ovr_cons,List.set_cons_zero,List.set_cons_succ];exact rfl) (fun p:Nat×SR=>p.1≤nEach c0∧KeptR K z p.2∧roundsR (fun e z'=>preN r0 c0 k1 e ⟨K.Cells.getD i 0,k1,e,so,we⟩ z') (fun e=>putR K (atR K n) i ⟨K.Cells.getD i 0,k1,e,so,we⟩) postN id (nEach c0-p.1) p.1 p.2=Q0) (fun p:Nat×SR=>nEach c0-p.1) ((0,z1)) (nleA) (?_) ?_
            · exact ⟨Nat.zero_le _,hZ1,hQ0⟩
            rintro ⟨k2,z2⟩ ⟨hk2,hZ2,hJ2⟩;dsimp only at hk2 hZ2 hJ2 ⊢;by_cases hlt2:k2<nEach c0
            · obtain ⟨g3,g4⟩:=nE_lt hg2 hlt2;have d3:decide ((k2:Int)≤c0)=true:=decide_eq_true g3;have d4:decide ((k2:Int)≤119)=true:=decide_eq_true g4;cases hfu2:z2.full with
              | true =>
                obtain rfl:=rounds_full hJ2 hlt2 hfu2;simp -implicitDefEqProofs (disch:=omega) only [go_sem,↓reduceIte ,cd_spec_l33S_lay_23,cd_spec_l33S_lay_36,d3,d4,hfu2,hw4];rw [if_neg (by simp)] at hst1;refine ⟨(k1+1,z2),by omega,⟨hlt1,hZ2,hst1.symm⟩,?_⟩;unfold bxR zrD;dsimp only;rw [hfu2]
                (try simp -implicitDefEqProofs only [nleL_cc,nleL_nn,nle_self,nle_boxs,nle_aggs,nle_nils,and_self,and_true,true_and])<;>repeat' (first | exact nle_of_eq rfl | exact nle_nil | apply And.intro | apply nle_sl | apply nleLL_cons | apply nleL_cons | exact nleL_nil | exact nleLL_nil | apply nle_box | apply nle_agg)
              | false =>
                have hst2:=rounds_step hJ2 hlt2 hfu2;obtain ⟨m2,f2,r2,c2,rfl,hm2⟩:=hZ2;dsimp only at hfu2;subst hfu2;have hok:OkR K bl lf (preN r0 c0 k1 k2 ⟨K.Cells.getD i 0,k1,k2,so,we⟩ { z with steps:=m2,full:=false,rows:=r2,cols:=c2 }):=⟨hm2,glu_max hg1 (by omega) g2,glu_max hg2 (by omega) g4,hz.be,hz.bo,hz.lo,by
                  show ((z.pieces++[_]).length:Int)≤K.most;simp only [List.length_append,List.length_cons,List.length_nil];omega⟩
                have hcc:=hs ⟨K.Cells.getD i 0,k1,k2,so,we⟩ _ hok;have hfr:=hp ⟨K.Cells.getD i 0,k1,k2,so,we⟩ _ hok;have happ:=pcs_app' z.pieces ⟨K.Cells.getD i 0,k1,k2,so,we⟩;have hw5:IntKind.i64.wrap ((k1:Int)+1)=(k1:Int)+1:=wrI (by omega) (by omega);have hw6:IntKind.i64.wrap ((k2:Int)+1)=(k2:Int)+1:=wrI (by omega) (by omega);have hw7:IntKind.i64.wrap ((k2:Int)+1)=((k2+1:Nat):Int):=(by rw [wrI (by omega) (by omega)];omega);have hmx1:=v_l00Max r0 ((k1:Int)+1);have hmx2:=v_l00Max c0 ((k2:Int)+1);rw [Piece.td_d] at hcc;dsimp only at happ;generalize putR K (atR K n) i ⟨K.Cells.getD i 0,k1,k2,so,we⟩ (preN r0 c0 k1 k2 ⟨K.Cells.getD i 0,k1,k2,so,we⟩ { z with steps:=m2,full:=false,rows:=r2,cols:=c2 })=q at *;cases hr:q.1 with
                | true=>rw [hr,if_pos rfl] at hst2;subst hst2;rw [hr,if_pos rfl] at hst1;subst hst1;rw [hr] at hcc ⊢;unfold preN at hcc;dsimp only at hcc;simp -implicitDefEqProofs (disch:=omega) only [go_sem,↓reduceIte ,cd_spec_l33S_lay_23,cd_spec_l33S_lay_26,d3,d4,hw5,Bool.not_false];refine call_B (hmx1) (by simp -implicitDefEqProofs (disch:=omega) only [go_sem,↓reduceIte,deep,TD.rows,immLL_rI,immLL_rB8,immLL_rS,immLL_rBo,immLL_rII,immLL_rIIt,cd_spec_l33S_lay_27,hw6];exact rfl) ?_;simp -implicitDefEqProofs (disch:=omega) only [go_sem,↓reduceIte ,cd_spec_l33S_lay_27,hw6];refine call_B (hmx2) (by simp -implicitDefEqProofs (disch:=omega) only [go_sem,↓reduceIte,deep,TD.rows,immLL_rI,immLL_rB8,immLL_rS,immLL_rBo,immLL_rII,immLL_rIIt,cd_spec_l33S_lay_28,cd_spec_l33S_lay_29,List.length_map,Int.toNat_natCast,Int.ofNat_lt,Int.natCast_nonneg,List.getElem?_map,Option.map_some,Int.natCast_zero,Int.natCast_one,Int.cast_ofNat_Int,Int.ofNat_le,Int.toNat_zero,Nat.sub_zero,Int.le_refl,Int.reduceLT,Int.reduceLE,Int.reduceEq,Int.reduceAdd,Int.reduceSub,Int.reduceMul,Int.reduceToNat,Int.reduceNeg,hi,hcx,rI,happ,List.length_map];exact rfl) ?_;simp -implicitDefEqProofs (disch:=omega) only [go_sem,↓reduceIte ,cd_spec_l33S_lay_28,cd_spec_l33S_lay_29,List.length_map,Int.toNat_natCast,Int.ofNat_lt,Int.natCast_nonneg,List.getElem?_map,Option.map_some,Int.natCast_zero,Int.natCast_one,Int.cast_ofNat_Int,Int.ofNat_le,Int.toNat_zero,Nat.sub_zero,Int.le_refl,Int.reduceLT,Int.reduceLE,Int.reduceEq,Int.reduceAdd,Int.reduceSub,Int.reduceMul,Int.reduceToNat,Int.reduceNeg,hi,hcx,rI,happ,List.length_map];refine ⟨by omega,?_⟩;simp -implicitDefEqProofs (disch:=omega) only [go_sem,↓reduceIte ,cd_spec_l33S_lay_30];refine call_PB (i:=0) (r:=0) (hcc) rfl rfl (by simp -implicitDefEqProofs (disch:=omega) only [go_sem,↓reduceIte,deep,TD.rows,immLL_rI,immLL_rB8,immLL_rS,immLL_rBo,immLL_rII,immLL_rIIt];exact rfl) ?_;simp -implicitDefEqProofs (disch:=omega) only [go_sem,↓reduceIte];exact D.le_rfl _
                | false =>
                  rw [hr,if_neg (by decide)] at hst2;rw [hr] at hcc;obtain ⟨m,f,e⟩:=hfr.2 hr;have hin:=hfr.1;rw [e] at hcc hst2;unfold preN at hcc hst2;dsimp only at hcc hst2;have e4:postN { z with steps:=m,full:=f,pieces:=z.pieces++[⟨K.Cells.getD i 0,(k1:Int),(k2:Int),so,we⟩],rows:=max r0 ((k1:Int)+1),cols:=max c0 ((k2:Int)+1) }={ z with steps:=m,full:=f,rows:=max r0 ((k1:Int)+1),cols:=max c0 ((k2:Int)+1) }:=by simp [postN]
                  rw [e4] at hst2;have hw8:=wr_cutP (xs:=z.pieces) (k:=⟨K.Cells.getD i 0,(k1:Int),(k2:Int),so,we⟩) (by omega);have hl2:z.pieces.length≤(z.pieces++[(⟨K.Cells.getD i 0,(k1:Int),(k2:Int),so,we⟩:Piece)]).length:=by simp
                  simp -implicitDefEqProofs (disch:=omega) only [go_sem,↓reduceIte ,cd_spec_l33S_lay_23,cd_spec_l33S_lay_26,d3,d4,hw5,Bool.not_false];refine call_B (hmx1) (by simp -implicitDefEqProofs (disch:=omega) only [go_sem,↓reduceIte,deep,TD.rows,immLL_rI,immLL_rB8,immLL_rS,immLL_rBo,immLL_rII,immLL_rIIt,cd_spec_l33S_lay_27,hw6];exact rfl) ?_;simp -implicitDefEqProofs (disch:=omega) only [go_sem,↓reduceIte ,cd_spec_l33S_lay_27,hw6];refine call_B (hmx2) (by simp -implicitDefEqProofs (disch:=omega) only [go_sem,↓reduceIte,deep,TD.rows,immLL_rI,immLL_rB8,immLL_rS,immLL_rBo,immLL_rII,immLL_rIIt,cd_spec_l33S_lay_28,cd_spec_l33S_lay_29,List.length_map,Int.toNat_natCast,Int.ofNat_lt,Int.natCast_nonneg,List.getElem?_map,Option.map_some,Int.natCast_zero,Int.natCast_one,Int.cast_ofNat_Int,Int.ofNat_le,Int.toNat_zero,Nat.sub_zero,Int.le_refl,Int.reduceLT,Int.reduceLE,Int.reduceEq,Int.reduceAdd,Int.reduceSub,Int.reduceMul,Int.reduceToNat,Int.reduceNeg,hi,hcx,rI,happ,List.length_map];exact rfl) ?_;simp -implicitDefEqProofs (disch:=omega) only [go_sem,↓reduceIte ,cd_spec_l33S_lay_28,cd_spec_l33S_lay_29,List.length_map,Int.toNat_natCast,Int.ofNat_lt,Int.natCast_nonneg,List.getElem?_map,Option.map_some,Int.natCast_zero,Int.natCast_one,Int.cast_ofNat_Int,Int.ofNat_le,Int.toNat_zero,Nat.sub_zero,Int.le_refl,Int.reduceLT,Int.reduceLE,Int.reduceEq,Int.reduceAdd,Int.reduceSub,Int.reduceMul,Int.reduceToNat,Int.reduceNeg,hi,hcx,rI,happ,List.length_map];refine ⟨by omega,?_⟩;simp -implicitDefEqProofs (disch:=omega) only [go_sem,↓reduceIte ,cd_spec_l33S_lay_30];refine call_PB (i:=0) (r:=0) (hcc) rfl rfl (by simp -implicitDefEqProofs (disch:=omega) only [go_sem,↓reduceIte,deep,TD.rows,immLL_rI,immLL_rB8,immLL_rS,immLL_rBo,immLL_rII,immLL_rIIt,cd_spec_l33S_lay_34,cd_spec_l33S_lay_35,List.length_map,hw8,Int.toNat_natCast,Int.natCast_zero,Int.toNat_zero,List.drop_zero,Nat.sub_zero,cut_P,hw7];exact rfl) ?_;simp -implicitDefEqProofs (disch:=omega) only [go_sem,↓reduceIte ,cd_spec_l33S_lay_34,cd_spec_l33S_lay_35,List.length_map,hw8,Int.toNat_natCast,Int.natCast_zero,Int.toNat_zero,List.drop_zero,Nat.sub_zero,cut_P,hw7];refine ⟨by omega,by omega,by omega,by omega,by omega,hl2,(k2+1,{ z with steps:=m,full:=f,rows:=max r0 ((k1:Int)+1),cols:=max c0 ((k2:Int)+1) }),by omega,⟨hlt2,⟨m,f,_,_,rfl,by unfold StR at hin;rw [e] at hin;exact hin⟩,hst2.symm⟩,?_⟩
                  (try simp -implicitDefEqProofs only [nleL_cc,nleL_nn,nle_self,nle_boxs,nle_aggs,nle_nils,and_self,and_true,true_and])<;>repeat' (first | exact nle_of_eq rfl | exact nle_nil | apply And.intro | apply nle_sl | apply nleLL_cons | apply nleL_cons | exact nleL_nil | exact nleLL_nil | apply nle_box | apply nle_agg)
            · obtain rfl:=rounds_done hJ2 hlt2;rw [if_neg (by simp)] at hst1;rcases nE_ge hg2 hlt2 hk2 with g3 | ⟨g3,g4⟩
              · have d3:decide ((k2:Int)≤c0)=false:=decide_eq_false (by omega);simp -implicitDefEqProofs (disch:=omega) only [go_sem,↓reduceIte ,cd_spec_l33S_lay_23,cd_spec_l33S_lay_36,d3,hw4];exact ⟨(k1+1,z2),by omega,⟨hlt1,hZ2,hst1.symm⟩,nleA⟩
              · have d3:decide ((k2:Int)≤c0)=true:=decide_eq_true g3;have d4:decide ((k2:Int)≤119)=false:=decide_eq_false (by omega);simp -implicitDefEqProofs (disch:=omega) only [go_sem,↓reduceIte ,cd_spec_l33S_lay_23,cd_spec_l33S_lay_36,d3,d4,hw4];exact ⟨(k1+1,z2),by omega,⟨hlt1,hZ2,hst1.symm⟩,nleA⟩
        · obtain rfl:=rounds_done hJ1 hlt1;rcases nE_ge hg1 hlt1 hk1 with g1 | ⟨g1,g2⟩
          · have d1:decide ((k1:Int)≤r0)=false:=decide_eq_false (by omega);simp -implicitDefEqProofs (disch:=omega) only [go_sem,↓reduceIte ,cd_spec_l33S_lay_19,cd_spec_l33S_lay_37,cd_spec_l33S_lay_38,d1];exact D.le_rfl _
          · have d1:decide ((k1:Int)≤r0)=true:=decide_eq_true g1;have d2:decide ((k1:Int)≤119)=false:=decide_eq_false (by omega);simp -implicitDefEqProofs (disch:=omega) only [go_sem,↓reduceIte ,cd_spec_l33S_lay_19,cd_spec_l33S_lay_37,cd_spec_l33S_lay_38,d1,d2];exact D.le_rfl _
def code_spec_l33S_south:VCode:=(.seq (.ops [
  ⟨some 6,none,.asg (.const (.bool false))⟩]) (.seq (.seq (.ops [
  ⟨some 9,none,.mv (.tmp 1)⟩,
  ⟨some 10,none,.mv (.tmp 0)⟩,
  ⟨some 11,none,.nilc (.tmp 10)⟩,
  ⟨some 12,none,.fa 0 (.tmp 11)⟩,
  ⟨some 13,none,.load 1 false (.tmp 12)⟩,
  ⟨some 14,none,.nilc (.tmp 13)⟩,
  ⟨some 15,none,.fa 0 (.tmp 14)⟩,
  ⟨some 16,none,.load 1 false (.tmp 15)⟩,
  ⟨some 17,none,.bin .geq (.tmp 9) (.tmp 16)⟩]) (.cond (.tmp 17) (.seq (.draw (mB 36 68719214592) [] [⟨0,mB 36 68719214592,[],⟨some 18,none,.mv (.tmp 0)⟩⟩,⟨1,mB 36 68719214592,[],⟨some 19,none,.mv (.tmp 1)⟩⟩,⟨2,mB 36 68719214592,[],⟨some 20,none,.mv (.tmp 0)⟩⟩,⟨3,mB 36 68718166016,[],⟨some 21,none,.nilc (.tmp 20)⟩⟩,⟨4,mB 36 68716068864,[],⟨some 22,none,.fa 8 (.tmp 21)⟩⟩,⟨5,mB 36 68711874560,[],⟨some 23,none,.load 1 false (.tmp 22)⟩⟩,⟨6,mB 36 68719214592,[],⟨some 24,none,.mv (.tmp 1)⟩⟩,⟨7,mB 36 68719214592,[],⟨some 25,none,.mv (.tmp 0)⟩⟩,⟨8,mB 36 68685660160,[],⟨some 26,none,.nilc (.tmp 25)⟩⟩,⟨9,mB 36 68618551296,[],⟨some 27,none,.fa 0 (.tmp 26)⟩⟩,⟨10,mB 36 68484333568,[],⟨some 28,none,.load 1 false (.tmp 27)⟩⟩,⟨11,mB 36 68215898112,[],⟨some 29,none,.nilc (.tmp 28)⟩⟩,⟨12,mB 36 67679027200,[],⟨some 30,none,.fa 0 (.tmp 29)⟩⟩,⟨13,mB 36 66605285376,[],⟨some 31,none,.load 1 false (.tmp 30)⟩⟩,⟨14,mB 36 64441024512,[],⟨some 32,none,.bin .rem (.tmp 24) (.tmp 31)⟩⟩,⟨15,mB 36 60130328576,[],⟨some 33,none,.ia 1 (.tmp 23) (.tmp 32)⟩⟩,⟨16,mB 36 51540393984,[],⟨some 34,none,.load 1 false (.tmp 33)⟩⟩,⟨17,mB 36 68719214592,[],⟨some 35,none,.mv (.tmp 2)⟩⟩] [⟨some 36,none,.callX 111 [(.tmp 18),(.tmp 19),(.tmp 34),(.tmp 35)]⟩,⟨some 6,none,.asg (.tmp 36)⟩]) .ret) .skip)) (.seq (.ops [
  ⟨some 37,none,.mv (.tmp 0)⟩,
  ⟨some 38,none,.nilc (.tmp 37)⟩,
  ⟨some 39,none,.fa 10 (.tmp 38)⟩,
  ⟨some 40,none,.load 1 false (.tmp 39)⟩,
  ⟨some 7,none,.asg (.tmp 40)⟩]) (.seq (.seq (.ops [
  ⟨some 8,none,.asg (.const (.int .i64 0))⟩]) (.block 0 (.loop (mB 126 0x3ffffffffffffffffffffffffffffe78) (.seq (.seq (.ops [
  ⟨some 41,none,.mv (.tmp 8)⟩,
  ⟨some 42,none,.mv (.tmp 7)⟩,
  ⟨some 43,none,.bin .leq (.tmp 41) (.tmp 42)⟩,
  ⟨some 44,none,.mv (.tmp 43)⟩,
  ⟨some 45,some (44,true),.mv (.tmp 8)⟩,
  ⟨some 46,some (44,true),.bin .leq (.tmp 45) (.const (.int .i64 119))⟩,
  ⟨some 47,none,.pick (.tmp 44) (.tmp 46) (.const (.bool false))⟩,
  ⟨some 48,none,.mv (.tmp 47)⟩,
  ⟨some 49,some (48,true),.mv (.tmp 0)⟩,
  ⟨some 50,some (48,true),.nilc (.tmp 49)⟩,
  ⟨some 51,some (48,true),.fa 4 (.tmp 50)⟩,
  ⟨some 52,some (48,true),.load 1 false (.tmp 51)⟩,
  ⟨some 53,some (48,true),.un .not (.tmp 52)⟩,
  ⟨some 54,none,.pick (.tmp 48) (.tmp 53) (.const (.bool false))⟩]) (.cond (.tmp 54) .skip (.exit 0))) (.seq (.block 1 (.seq (.ops [
  ⟨some 57,none,.mv (.tmp 0)⟩,
  ⟨some 58,none,.mv (.tmp 7)⟩,
  ⟨some 59,none,.mv (.tmp 8)⟩,
  ⟨some 60,none,.bin .add (.tmp 59) (.const (.int .i64 1))⟩,
  ⟨some 61,none,.callX 110 [(.tmp 58),(.tmp 60)]⟩,
  ⟨some 62,none,.nilc (.tmp 57)⟩,
  ⟨some 63,none,.fa 10 (.tmp 62)⟩,
  ⟨none,none,.store 1 (.tmp 63) (.tmp 61)⟩]) (.seq (.ops [
  ⟨some 64,none,.mv (.tmp 0)⟩,
  ⟨some 65,none,.mv (.tmp 0)⟩,
  ⟨some 66,none,.nilc (.tmp 65)⟩,
  ⟨some 67,none,.fa 5 (.tmp 66)⟩,
  ⟨some 68,none,.fa 0 (.tmp 67)⟩,
  ⟨some 69,none,.load 1 false (.tmp 68)⟩,
  ⟨some 70,none,.mv (.tmp 8)⟩,
  ⟨some 71,none,.bsl 1 [(.tmp 70)]⟩,
  ⟨some 72,none,.app 1 8 (.tmp 69) (.tmp 71)⟩,
  ⟨some 73,none,.nilc (.tmp 64)⟩,
  ⟨some 74,none,.fa 5 (.tmp 73)⟩,
  ⟨some 75,none,.fa 0 (.tmp 74)⟩,
  ⟨none,none,.store 1 (.tmp 75) (.tmp 72)⟩]) (.seq (.ops [
  ⟨some 76,none,.mv (.tmp 0)⟩,
  ⟨some 77,none,.mv (.tmp 0)⟩,
  ⟨some 78,none,.nilc (.tmp 77)⟩,
  ⟨some 79,none,.fa 8 (.tmp 78)⟩,
  ⟨some 80,none,.load 1 false (.tmp 79)⟩,
  ⟨some 81,none,.mv (.tmp 8)⟩,
  ⟨some 82,none,.bsl 1 [(.tmp 81)]⟩,
  ⟨some 83,none,.app 1 8 (.tmp 80) (.tmp 82)⟩,
  ⟨some 84,none,.nilc (.tmp 76)⟩,
  ⟨some 85,none,.fa 8 (.tmp 84)⟩,
  ⟨none,none,.store 1 (.tmp 85) (.tmp 83)⟩]) (.seq (.seq (.ops [
  ⟨some 86,none,.mv (.tmp 0)⟩,
  ⟨some 87,none,.mv (.tmp 1)⟩,
  ⟨some 88,none,.mv (.tmp 8)⟩,
  ⟨some 89,none,.mv (.tmp 2)⟩,
  ⟨some 90,none,.callX 111 [(.tmp 86),(.tmp 87),(.tmp 88),(.tmp 89)]⟩]) (.cond (.tmp 90) (.seq (.ops [
  ⟨some 6,none,.asg (.const (.bool true))⟩]) .ret) .skip)) (.seq (.draw (mB 105 0x1fff80000000000000000000000) [] [⟨0,mB 105 0x1fff80000000000000000000000,[],⟨some 91,none,.mv (.tmp 0)⟩⟩,⟨1,mB 105 0x1fff80000000000000000000000,[],⟨some 92,none,.mv (.tmp 0)⟩⟩,⟨2,mB 105 0x1ffe80000000000000000000000,[],⟨some 93,none,.nilc (.tmp 92)⟩⟩,⟨3,mB 105 0x1ffc80000000000000000000000,[],⟨some 94,none,.fa 5 (.tmp 93)⟩⟩,⟨4,mB 105 0x1ff880000000000000000000000,[],⟨some 95,none,.fa 0 (.tmp 94)⟩⟩,⟨5,mB 105 0x1ff080000000000000000000000,[],⟨some 96,none,.load 1 false (.tmp 95)⟩⟩,⟨6,mB 105 0x1fff80000000000000000000000,[],⟨some 97,none,.mv (.tmp 0)⟩⟩,⟨7,mB 105 0x1fdf80000000000000000000000,[],⟨some 98,none,.nilc (.tmp 97)⟩⟩,⟨8,mB 105 0x1f9f80000000000000000000000,[],⟨some 99,none,.fa 5 (.tmp 98)⟩⟩,⟨9,mB 105 0x1f1f80000000000000000000000,[],⟨some 100,none,.fa 0 (.tmp 99)⟩⟩,⟨10,mB 105 0x1e1f80000000000000000000000,[],⟨some 101,none,.load 1 false (.tmp 100)⟩⟩,⟨11,mB 105 0x1c1f80000000000000000000000,[],⟨some 102,none,.len (.tmp 101)⟩⟩,⟨12,mB 105 0x181f80000000000000000000000,[],⟨some 103,none,.bin .sub (.tmp 102) (.const (.int .i64 1))⟩⟩,⟨13,mB 105 0x100080000000000000000000000,[],⟨some 104,none,.slc 1 (.tmp 96) none (some (.tmp 103)) none⟩⟩] [⟨some 105,none,.nilc (.tmp 91)⟩,⟨some 106,none,.fa 5 (.tmp 105)⟩,⟨some 107,none,.fa 0 (.tmp 106)⟩,⟨none,none,.store 1 (.tmp 107) (.tmp 104)⟩]) (.draw (mB 120 0xfff000000000000000000000000000) [] [⟨0,mB 120 0xfff000000000000000000000000000,[],⟨some 108,none,.mv (.tmp 0)⟩⟩,⟨1,mB 120 0xfff000000000000000000000000000,[],⟨some 109,none,.mv (.tmp 0)⟩⟩,⟨2,mB 120 0xffd000000000000000000000000000,[],⟨some 110,none,.nilc (.tmp 109)⟩⟩,⟨3,mB 120 0xff9000000000000000000000000000,[],⟨some 111,none,.fa 8 (.tmp 110)⟩⟩,⟨4,mB 120 0xff1000000000000000000000000000,[],⟨some 112,none,.load 1 false (.tmp 111)⟩⟩,⟨5,mB 120 0xfff000000000000000000000000000,[],⟨some 113,none,.mv (.tmp 0)⟩⟩,⟨6,mB 120 0xfdf000000000000000000000000000,[],⟨some 114,none,.nilc (.tmp 113)⟩⟩,⟨7,mB 120 0xf9f000000000000000000000000000,[],⟨some 115,none,.fa 8 (.tmp 114)⟩⟩,⟨8,mB 120 0xf1f000000000000000000000000000,[],⟨some 116,none,.load 1 false (.tmp 115)⟩⟩,⟨9,mB 120 0xe1f000000000000000000000000000,[],⟨some 117,none,.len (.tmp 116)⟩⟩,⟨10,mB 120 0xc1f000000000000000000000000000,[],⟨some 118,none,.bin .sub (.tmp 117) (.const (.int .i64 1))⟩⟩,⟨11,mB 120 0x801000000000000000000000000000,[],⟨some 119,none,.slc 1 (.tmp 112) none (some (.tmp 118)) none⟩⟩] [⟨some 120,none,.nilc (.tmp 108)⟩,⟨some 121,none,.fa 8 (.tmp 120)⟩,⟨none,none,.store 1 (.tmp 121) (.tmp 119)⟩]))))))) (.ops [
  ⟨some 55,none,.mv (.tmp 8)⟩,
  ⟨some 56,none,.bin .add (.tmp 55) (.const (.int .i64 1))⟩,
  ⟨some 8,none,.asg (.tmp 56)⟩])))))) (.seq (.ops [
  ⟨some 122,none,.mv (.tmp 0)⟩,
  ⟨some 123,none,.mv (.tmp 7)⟩,
  ⟨some 124,none,.nilc (.tmp 122)⟩,
  ⟨some 125,none,.fa 10 (.tmp 124)⟩,
  ⟨none,none,.store 1 (.tmp 125) (.tmp 123)⟩]) (.seq (.ops [
  ⟨some 6,none,.asg (.const (.bool false))⟩]) .ret))))))
theorem law_spec_l33S_south {a0 a1 a2 d:D}{cells cells':List D}(h:∀ b,code_spec_l33S_south.wp (CT Try.prog NoG) (endX [(.t 6)] d 0 b cells') [.box (some b) cells,a1,a2,.undef,.undef,.undef,.undef,.undef,.undef,.undef,.undef,.undef,.undef,.undef,.undef,.undef,.undef,.undef,.undef,.undef,.undef,.undef,.undef,.undef,.undef,.undef,.undef,.undef,.undef,.undef,.undef,.undef,.undef,.undef,.undef,.undef,.undef,.undef,.undef,.undef,.undef,.undef,.undef,.undef,.undef,.undef,.undef,.undef,.undef,.undef,.undef,.undef,.undef,.undef,.undef,.undef,.undef,.undef,.undef,.undef,.undef,.undef,.undef,.undef,.undef,.undef,.undef,.undef,.undef,.undef,.undef,.undef,.undef,.undef,.undef,.undef,.undef,.undef,.undef,.undef,.undef,.undef,.undef,.undef,.undef,.undef,.undef,.undef,.undef,.undef,.undef,.undef,.undef,.undef,.undef,.undef,.undef,.undef,.undef,.undef,.undef,.undef,.undef,.undef,.undef,.undef,.undef,.undef,.undef,.undef,.undef,.undef,.undef,.undef,.undef,.undef,.undef,.undef,.undef,.undef,.undef,.undef,.undef,.undef,.undef,.undef]):ContractX Try.prog NoG 96 0 [a0,a1,a2] cells d cells' :=
  contract_ofX (pt:=0) noG Try.func96 (fun us W=>by kernel_rfl) (c:=Try.f96.body.getD .skip) (ms:=[(mB 126 0x3ffffffffffffffffffffffffffffe78)]) (ms':=[]) (by kernel_rfl) (by kernel_rfl) (by kernel_rfl) (by simp) h
set_option maxHeartbeats 4000000 in
theorem v_rSouth {K:SK} (hK:OkK K) {n i lf:Nat} (hi:i<K.Cells.length) (hp:∀ p,FramR K (min (i+1) K.W) lf (putR K (atR K n) i p)) (hs:∀ so we:Int,MethR Try.prog K 111 (min (i+1) K.W) lf [.v (.int .i64 (i:Int)),.v (.int .i64 so),.v (.int .i64 we)] (layR K (atR K n) i so we)) (we:Int) :
    MethR Try.prog K 96 (min i K.W) lf [.v (.int .i64 (i:Int)),.v (.int .i64 we)] (southR K (atR K n) i we):=by
  intro z0 hz0;have hN:=hK.nle;have hW0:(K.W:Int)≠0:=by have:=hK.w;omega
  unfold southR;by_cases hw:K.W≤i
  · rw [if_pos hw];have d0:decide (K.W≤i)=true:=decide_eq_true hw;have e:min i K.W=min (i+1) K.W:=by omega
    have hl:i % K.W<z0.below.length:=(by rw [hz0.be];have:=Nat.mod_lt i hK.w.1;omega);have hx:=getD_at hl;rw [e] at hz0;have hcc:=hs (z0.below.getD (i % K.W) 0) we z0 hz0;refine law_spec_l33S_south ?_;intro b;unfold code_spec_l33S_south;simp -implicitDefEqProofs (disch:=omega) only [go_sem,↓reduceIte ,d0,tmodN,hW0,ne_eq,not_false_eq_true,List.length_map,Int.toNat_natCast,Int.ofNat_lt,Int.natCast_nonneg,List.getElem?_map,Option.map_some,Int.natCast_zero,Int.natCast_one,Int.cast_ofNat_Int,Int.ofNat_le,Int.toNat_zero,Nat.sub_zero,Int.le_refl,Int.reduceLT,Int.reduceLE,Int.reduceEq,Int.reduceAdd,Int.reduceSub,Int.reduceMul,Int.reduceToNat,Int.reduceNeg,hl,hx,rI];refine call_PB (i:=0) (r:=0) (hcc) rfl rfl (by simp -implicitDefEqProofs (disch:=omega) only [go_sem,↓reduceIte,deep,TD.rows,immLL_rI,immLL_rB8,immLL_rS,immLL_rBo,immLL_rII,immLL_rIIt];exact rfl) ?_;simp -implicitDefEqProofs (disch:=omega) only [go_sem,↓reduceIte];exact D.le_rfl _
  · rw [if_neg hw];have d0:decide ((K.W:Int)≤(i:Int))=false:=decide_eq_false (by omega);have e1:min i K.W=i:=by omega
    have e2:min (i+1) K.W=i+1:=(by omega);rw [e1] at hz0;rw [e2] at hp hs;obtain ⟨R0,hR0⟩:∃ R0,roundsR (preS z0.rows) (fun k=>layR K (atR K n) i k we) postS (fun z'=>{ z' with rows:=z0.rows }) (nEach z0.rows) 0 z0=R0:=⟨_,rfl⟩
    rw [hR0];have hg:=hz0.ro;generalize hb0:z0.rows=b0 at *;refine law_spec_l33S_south ?_;intro b;unfold code_spec_l33S_south;simp -implicitDefEqProofs (disch:=omega) only [go_sem,↓reduceIte ,hb0,d0];refine loop_ov (by simp -implicitDefEqProofs (disch:=omega) only [go_sem,↓reduceIte];exact rfl) (fun p:Nat×SR=>[(0,bxR b K p.2),(7,.v (.int .i64 b0)),(8,.v (.int .i64 (p.1:Nat)))]) (fun _=>by simp only [ovr_nil,ovr_cons,List.set_cons_zero,List.set_cons_succ];exact rfl) (fun p:Nat×SR=>p.1≤nEach b0∧OkR K i lf p.2∧roundsR (preS b0) (fun k=>layR K (atR K n) i k we) postS (fun z'=>{ z' with rows:=b0 }) (nEach b0-p.1) p.1 p.2=R0) (fun p:Nat×SR=>nEach b0-p.1) ((0,z0)) (nleA) (?_) ?_
    · exact ⟨Nat.zero_le _,hz0,hR0⟩
    rintro ⟨k,z⟩ ⟨hk,hz,hJ⟩;dsimp only at hk hz hJ ⊢;by_cases hlt:k<nEach b0
    · obtain ⟨g1,g2⟩:=nE_lt hg hlt;have d1:decide ((k:Int)≤b0)=true:=decide_eq_true g1;have d2:decide ((k:Int)≤119)=true:=decide_eq_true g2;cases hfu:z.full with
      | true=>obtain rfl:=rounds_full hJ hlt hfu;simp -implicitDefEqProofs (disch:=omega) only [go_sem,↓reduceIte ,d1,d2,hfu];exact D.le_rfl _
      | false =>
        have hst:=rounds_step hJ hlt hfu;have hz1:OkR K (i+1) lf (preS b0 k z):=⟨hz.st,glu_max hg (by omega) g2,hz.co,by
          show (z.below++[(k:Int)]).length=i+1;rw [List.length_append,hz.be];rfl,by
          show (z.bottom++[(k:Int)]).length=i+1;rw [List.length_append,hz.bo];rfl,hz.lo,hz.lp⟩
        have hcc:=hs (k:Int) we _ hz1;have hff:=fram_lay (K:=K) (k:Int) we hp _ hz1;have hw1:IntKind.i64.wrap ((k:Int)+1)=(k:Int)+1:=wrI (by omega) (by omega);have hw3:IntKind.i64.wrap ((k:Int)+1)=((k+1:Nat):Int):=(by rw [wrI (by omega) (by omega)];omega);have hmx:=v_l00Max b0 ((k:Int)+1);have hbe:=hz.be;have hbo:=hz.bo;generalize layR K (atR K n) i k we (preS b0 k z)=q at *;cases hr:q.1 with
        | true=>rw [hr,if_pos rfl] at hst;subst hst;rw [hr] at hcc ⊢;simp -implicitDefEqProofs (disch:=omega) only [go_sem,↓reduceIte ,d1,d2,hfu,hw1,Bool.not_false];refine call_B (hmx) (by simp -implicitDefEqProofs (disch:=omega) only [go_sem,↓reduceIte,deep,TD.rows,immLL_rI,immLL_rB8,immLL_rS,immLL_rBo,immLL_rII,immLL_rIIt,snoc_I,List.length_map];exact rfl) ?_;simp -implicitDefEqProofs (disch:=omega) only [go_sem,↓reduceIte ,snoc_I,List.length_map];refine ⟨by omega,by omega,?_⟩;refine call_PB (i:=0) (r:=0) (hcc) rfl rfl (by simp -implicitDefEqProofs (disch:=omega) only [go_sem,↓reduceIte,deep,TD.rows,immLL_rI,immLL_rB8,immLL_rS,immLL_rBo,immLL_rII,immLL_rIIt];exact rfl) ?_;simp -implicitDefEqProofs (disch:=omega) only [go_sem,↓reduceIte];exact D.le_rfl _
        | false =>
          rw [hr,if_neg (by decide)] at hst;rw [hr] at hcc;obtain ⟨m,f,e⟩:=hff.2 hr;have hin:=hff.1;rw [e] at hcc hst;unfold preS at hcc hst;dsimp only at hcc hst;have hw2:=wr_cut (xs:=z.below) (k:=(k:Int)) (by omega);have hw4:=wr_cut (xs:=z.bottom) (k:=(k:Int)) (by omega);have hl2:z.below.length≤(z.below++[(k:Int)]).length:=by simp
          have hl4:z.bottom.length≤(z.bottom++[(k:Int)]).length:=(by simp);simp -implicitDefEqProofs (disch:=omega) only [go_sem,↓reduceIte ,d1,d2,hfu,hw1,Bool.not_false];refine call_B (hmx) (by simp -implicitDefEqProofs (disch:=omega) only [go_sem,↓reduceIte,deep,TD.rows,immLL_rI,immLL_rB8,immLL_rS,immLL_rBo,immLL_rII,immLL_rIIt,snoc_I,List.length_map];exact rfl) ?_;simp -implicitDefEqProofs (disch:=omega) only [go_sem,↓reduceIte ,snoc_I,List.length_map];refine ⟨by omega,by omega,?_⟩;refine call_PB (i:=0) (r:=0) (hcc) rfl rfl (by simp -implicitDefEqProofs (disch:=omega) only [go_sem,↓reduceIte,deep,TD.rows,immLL_rI,immLL_rB8,immLL_rS,immLL_rBo,immLL_rII,immLL_rIIt,List.length_map,hw2,hw4,Int.toNat_natCast,Int.natCast_zero,Int.toNat_zero,List.drop_zero,Nat.sub_zero,cut_I,hw3];exact rfl) ?_;simp -implicitDefEqProofs (disch:=omega) only [go_sem,↓reduceIte ,List.length_map,hw2,hw4,Int.toNat_natCast,Int.natCast_zero,Int.toNat_zero,List.drop_zero,Nat.sub_zero,cut_I,hw3];have e4:postS { z with steps:=m,full:=f,bottom:=z.bottom++[(k:Int)],below:=z.below++[(k:Int)],rows:=max b0 ((k:Int)+1) }={ z with steps:=m,full:=f,rows:=max b0 ((k:Int)+1) }:=(by simp [postS]);rw [e4] at hst;refine ⟨by omega,by omega,by omega,by omega,by omega,hl4,by omega,by omega,by omega,by omega,by omega,hl2,(k+1,{ z with steps:=m,full:=f,rows:=max b0 ((k:Int)+1) }),by omega,⟨hlt,⟨by unfold StR at hin;rw [e] at hin;exact hin,glu_max hg (by omega) g2,hz.co,hz.be,hz.bo,hz.lo,hz.lp⟩,hst.symm⟩,?_⟩
          (try simp -implicitDefEqProofs only [nleL_cc,nleL_nn,nle_self,nle_boxs,nle_aggs,nle_nils,and_self,and_true,true_and])<;>repeat' (first | exact nle_of_eq rfl | exact nle_nil | apply And.intro | apply nle_sl | apply nleLL_cons | apply nleL_cons | exact nleL_nil | exact nleLL_nil | apply nle_box | apply nle_agg)
    · obtain rfl:=rounds_done hJ hlt;rcases nE_ge hg hlt hk with g1 | ⟨g1,g2⟩
      · have d1:decide ((k:Int)≤b0)=false:=decide_eq_false (by omega);simp -implicitDefEqProofs (disch:=omega) only [go_sem,↓reduceIte ,d1];exact D.le_rfl _
      · have d1:decide ((k:Int)≤b0)=true:=decide_eq_true g1;have d2:decide ((k:Int)≤119)=false:=decide_eq_false (by omega);simp -implicitDefEqProofs (disch:=omega) only [go_sem,↓reduceIte ,d1,d2];exact D.le_rfl _
def code_spec_l33S_at:VCode:=(.seq (.ops [
  ⟨some 4,none,.asg (.const (.bool false))⟩]) (.seq (.seq (.ops [
  ⟨some 6,none,.mv (.tmp 1)⟩,
  ⟨some 7,none,.mv (.tmp 0)⟩,
  ⟨some 8,none,.nilc (.tmp 7)⟩,
  ⟨some 9,none,.fa 0 (.tmp 8)⟩,
  ⟨some 10,none,.load 1 false (.tmp 9)⟩,
  ⟨some 11,none,.nilc (.tmp 10)⟩,
  ⟨some 12,none,.fa 2 (.tmp 11)⟩,
  ⟨some 13,none,.load 1 false (.tmp 12)⟩,
  ⟨some 14,none,.len (.tmp 13)⟩,
  ⟨some 15,none,.bin .eql (.tmp 6) (.tmp 14)⟩]) (.cond (.tmp 15) (.seq (.draw (mB 37 137438887936) (mB 36 52349108224) [⟨0,mB 37 137438887936,[],⟨some 16,none,.mv (.tmp 0)⟩⟩,⟨1,mB 37 137438887936,[],⟨some 17,none,.mv (.tmp 0)⟩⟩,⟨2,mB 37 137438756864,[],⟨some 18,none,.nilc (.tmp 17)⟩⟩,⟨3,mB 37 137438494720,[],⟨some 19,none,.fa 5 (.tmp 18)⟩⟩,⟨4,mB 37 137437970432,[],⟨some 20,none,.fa 0 (.tmp 19)⟩⟩,⟨5,mB 37 137436921856,[],⟨some 21,none,.load 1 false (.tmp 20)⟩⟩,⟨6,mB 37 137434824704,[],⟨some 22,none,.call 94 [(.tmp 21)]⟩⟩,⟨7,mB 37 137438887936,[],⟨some 23,none,.mv (.tmp 0)⟩⟩,⟨8,mB 37 137430499328,[],⟨some 24,none,.nilc (.tmp 23)⟩⟩,⟨9,mB 37 137413722112,[],⟨some 25,none,.fa 5 (.tmp 24)⟩⟩,⟨10,mB 37 137380167680,[],⟨some 26,none,.fa 1 (.tmp 25)⟩⟩,⟨11,mB 37 137313058816,[],⟨some 27,none,.load 1 false (.tmp 26)⟩⟩,⟨12,mB 37 137170583552,[],⟨some 28,none,.call 94 [(.tmp 27)]⟩⟩,⟨13,mB 37 137438887936,[],⟨some 29,none,.bslN 5 []⟩⟩,⟨14,mB 37 137438887936,[],⟨some 30,none,.mv (.tmp 0)⟩⟩,⟨15,mB 37 136365146112,[],⟨some 31,none,.nilc (.tmp 30)⟩⟩,⟨16,mB 37 134217662464,[],⟨some 32,none,.fa 5 (.tmp 31)⟩⟩,⟨17,mB 37 129922695168,[],⟨some 33,none,.fa 2 (.tmp 32)⟩⟩,⟨18,mB 37 121332760576,[],⟨some 34,none,.load 1 false (.tmp 33)⟩⟩,⟨19,mB 37 103079280640,(mB 35 17716740096),⟨some 35,none,.appN 5 40 (.tmp 29) (.tmp 34)⟩⟩,⟨20,mB 37 86436282368,(mB 36 34632368128),⟨some 36,none,.build [(.slice none 0 0),(.slice none 0 0),(.slice none 0 0)] [(0,1,(.tmp 22)),(1,1,(.tmp 28)),(2,1,(.tmp 35))]⟩⟩] [⟨some 37,none,.nilc (.tmp 16)⟩,⟨some 38,none,.fa 12 (.tmp 37)⟩,⟨none,none,.store 3 (.tmp 38) (.tmp 36)⟩]) (.seq (.ops [
  ⟨some 4,none,.asg (.const (.bool true))⟩]) .ret)) .skip)) (.seq (.ops [
  ⟨some 39,none,.mv (.tmp 1)⟩,
  ⟨some 40,none,.mv (.tmp 0)⟩,
  ⟨some 41,none,.nilc (.tmp 40)⟩,
  ⟨some 42,none,.fa 0 (.tmp 41)⟩,
  ⟨some 43,none,.load 1 false (.tmp 42)⟩,
  ⟨some 44,none,.nilc (.tmp 43)⟩,
  ⟨some 45,none,.fa 0 (.tmp 44)⟩,
  ⟨some 46,none,.load 1 false (.tmp 45)⟩,
  ⟨some 47,none,.bin .rem (.tmp 39) (.tmp 46)⟩,
  ⟨some 5,none,.asg (.tmp 47)⟩]) (.seq (.seq (.ops [
  ⟨some 48,none,.mv (.tmp 5)⟩,
  ⟨some 49,none,.bin .eql (.tmp 48) (.const (.int .i64 0))⟩]) (.cond (.tmp 49) (.seq (.ops [
  ⟨some 50,none,.mv (.tmp 0)⟩,
  ⟨some 51,none,.mv (.tmp 1)⟩,
  ⟨some 52,none,.callX 95 [(.tmp 50),(.tmp 51)]⟩,
  ⟨some 4,none,.asg (.tmp 52)⟩]) .ret) .skip)) (.seq (.ops [
  ⟨some 53,none,.mv (.tmp 0)⟩,
  ⟨some 54,none,.mv (.tmp 1)⟩,
  ⟨some 55,none,.mv (.tmp 0)⟩,
  ⟨some 56,none,.nilc (.tmp 55)⟩,
  ⟨some 57,none,.fa 9 (.tmp 56)⟩,
  ⟨some 58,none,.load 1 false (.tmp 57)⟩,
  ⟨some 59,none,.callX 96 [(.tmp 53),(.tmp 54),(.tmp 58)]⟩,
  ⟨some 4,none,.asg (.tmp 59)⟩]) .ret)))))
theorem law_spec_l33S_at {a0 a1 d:D}{cells cells':List D}(h:∀ b,code_spec_l33S_at.wp (CT Try.prog NoG) (endX [(.t 4)] d 0 b cells') [.box (some b) cells,a1,.undef,.undef,.undef,.undef,.undef,.undef,.undef,.undef,.undef,.undef,.undef,.undef,.undef,.undef,.undef,.undef,.undef,.undef,.undef,.undef,.undef,.undef,.undef,.undef,.undef,.undef,.undef,.undef,.undef,.undef,.undef,.undef,.undef,.undef,.undef,.undef,.undef,.undef,.undef,.undef,.undef,.undef,.undef,.undef,.undef,.undef,.undef,.undef,.undef,.undef,.undef,.undef,.undef,.undef,.undef,.undef,.undef,.undef]):ContractX Try.prog NoG 72 0 [a0,a1] cells d cells' :=
  contract_ofX (pt:=0) noG Try.func72 (fun us W=>by kernel_rfl) (c:=Try.f72.body.getD .skip) (ms:=[]) (ms':=[]) (by kernel_rfl) (by kernel_rfl) (by kernel_rfl) (by simp) h
set_option maxHeartbeats 4000000 in
theorem v_rEnd {K:SK}(hK:OkK K){lf:Nat}(hlf:lf≤1000):MethR Try.prog K 72 (min K.Cells.length K.W) lf [.v (.int .i64 (K.Cells.length:Int))] (atR K 0):=by
  intro z hz;have hM:=hK.m;have hW:=hK.w;have hlb:=hz.bo;have hlp:=hz.lp;have hll:=hz.lo;rw [show atR K 0 z=(true,{ z with found:=⟨z.bottom,z.left,z.pieces⟩ }) from rfl];refine law_spec_l33S_at ?_;intro b;unfold code_spec_l33S_at
  simp -implicitDefEqProofs (disch:=omega) only [go_sem,↓reduceIte ,List.length_map,decide_true];refine call_NB (v_l00Own z.bottom (by omega)) (by simp -implicitDefEqProofs (disch:=omega) only [go_sem,↓reduceIte,deep,TD.rows,immLL_rI,immLL_rB8,immLL_rS,immLL_rBo,immLL_rII,immLL_rIIt];exact rfl) ?_;simp -implicitDefEqProofs (disch:=omega) only [go_sem,↓reduceIte];refine call_NB (v_l00Own z.left (by omega)) (by simp -implicitDefEqProofs (disch:=omega) only [go_sem,↓reduceIte,deep,TD.rows,immLL_rI,immLL_rB8,immLL_rS,immLL_rBo,immLL_rII,immLL_rIIt,List.length_map];exact rfl) ?_;simp -implicitDefEqProofs (disch:=omega) only [go_sem,↓reduceIte ,List.length_map];refine ⟨fun row hr=>?_,by omega,D.le_rfl _⟩;obtain ⟨p,_,rfl⟩:=List.mem_map.1 hr;rfl
theorem v_rAt1 {K:SK}(hK:OkK K){n lf:Nat}(hn:n<K.Cells.length)(hm:(K.Cells.length-(n+1)) % K.W=0)(hl:MethR Try.prog K 95 (min (K.Cells.length-(n+1)) K.W) lf [.v (.int .i64 ((K.Cells.length-(n+1):Nat):Int))] (leftR K (atR K n) (K.Cells.length-(n+1)))) :
    MethR Try.prog K 72 (min (K.Cells.length-(n+1)) K.W) lf [.v (.int .i64 ((K.Cells.length-(n+1):Nat):Int))] (atR K (n+1)):=by
  intro z hz;have hcc:=hl z hz;have hN:=hK.nle;have hW0:(K.W:Int)≠0:=by have:=hK.w;omega
  have hne:decide (((K.Cells.length-(n+1):Nat):Int)=((K.Cells.length:Nat):Int))=false:=decide_eq_false (by omega);unfold atR;rw [if_pos hm];generalize K.Cells.length-(n+1)=i at *;have hm':decide (((i % K.W:Nat):Int)=0)=true:=decide_eq_true (by omega);refine law_spec_l33S_at ?_;intro b;unfold code_spec_l33S_at
  simp -implicitDefEqProofs (disch:=omega) only [go_sem,↓reduceIte ,List.length_map,hne,tmodN,hW0,ne_eq,not_false_eq_true,hm'];refine call_PB (i:=0) (r:=0) (hcc) rfl rfl (by simp -implicitDefEqProofs (disch:=omega) only [go_sem,↓reduceIte,deep,TD.rows,immLL_rI,immLL_rB8,immLL_rS,immLL_rBo,immLL_rII,immLL_rIIt];exact rfl) ?_;simp -implicitDefEqProofs (disch:=omega) only [go_sem,↓reduceIte];exact D.le_rfl _
theorem v_rAt2 {K:SK}(hK:OkK K){n lf:Nat}(hn:n<K.Cells.length)(hm:(K.Cells.length-(n+1)) % K.W≠0)(hl:∀ we:Int,MethR Try.prog K 96 (min (K.Cells.length-(n+1)) K.W) lf [.v (.int .i64 ((K.Cells.length-(n+1):Nat):Int)),.v (.int .i64 we)] (southR K (atR K n) (K.Cells.length-(n+1)) we)) :
    MethR Try.prog K 72 (min (K.Cells.length-(n+1)) K.W) lf [.v (.int .i64 ((K.Cells.length-(n+1):Nat):Int))] (atR K (n+1)):=by
  intro z hz;have hcc:=hl z.west z hz;have hN:=hK.nle;have hW0:(K.W:Int)≠0:=by have:=hK.w;omega
  have hne:decide (((K.Cells.length-(n+1):Nat):Int)=((K.Cells.length:Nat):Int))=false:=decide_eq_false (by omega);unfold atR;rw [if_neg hm];generalize K.Cells.length-(n+1)=i at *;have hm':decide (((i % K.W:Nat):Int)=0)=false:=decide_eq_false (by omega);refine law_spec_l33S_at ?_;intro b;unfold code_spec_l33S_at
  simp -implicitDefEqProofs (disch:=omega) only [go_sem,↓reduceIte ,List.length_map,hne,tmodN,hW0,ne_eq,not_false_eq_true,hm'];refine call_PB (i:=0) (r:=0) (hcc) rfl rfl (by simp -implicitDefEqProofs (disch:=omega) only [go_sem,↓reduceIte,deep,TD.rows,immLL_rI,immLL_rB8,immLL_rS,immLL_rBo,immLL_rII,immLL_rIIt];exact rfl) ?_;simp -implicitDefEqProofs (disch:=omega) only [go_sem,↓reduceIte];exact D.le_rfl _
theorem v_rAll {K:SK}(hK:OkK K):∀ n,n≤K.Cells.length→MethR Try.prog K 72 (min (K.Cells.length-n) K.W) ((K.Cells.length-n+K.W-1) / K.W) [.v (.int .i64 ((K.Cells.length-n:Nat):Int))] (atR K n)
  | 0,_=>by have hN:=hK.nle;have hW:=hK.w;have:(K.Cells.length-0+K.W-1) / K.W≤K.Cells.length-0+K.W-1:=Nat.div_le_self _ _;exact v_rEnd hK (by omega)
  | n+1,hn=>by
    have hW:=hK.w.1;have ih:=v_rAll hK n (by omega);have hf:=fram_at (K:=K) hW n (by omega);rw [show K.Cells.length-n=K.Cells.length-(n+1)+1 by omega,ceil_add hW] at ih hf;have hi:K.Cells.length-(n+1)<K.Cells.length:=(by omega);have hb:(K.Cells.length-(n+1)) % K.W<min (K.Cells.length-(n+1)+1) K.W:=(by have:=Nat.mod_lt (K.Cells.length-(n+1)) hW;have:=Nat.mod_le (K.Cells.length-(n+1)) K.W;omega);have hfp:=fun p=>fram_put hb p hf;have hput:=fun p=>v_rPut hK hi hb hf ih p;have hlay:=fun so we=>v_rLay hK hi hfp hput so we;have hso:=fun we=>v_rSouth hK hi hfp hlay we;by_cases hm:(K.Cells.length-(n+1)) % K.W=0
    · rw [ceil_zero hW hm];exact v_rAt1 hK (by omega) hm (v_rLeft hK hi hfp hso)
    · rw [ceil_pos hW hm];exact v_rAt2 hK (by omega) hm hso
def rr0:SR:=⟨0,false,[],[],[],[],0,0,0,ds0⟩
theorem rr0_ok {K:SK}(hK:OkK K):OkR K 0 0 rr0 :=
  ⟨⟨Int.le_refl _,hK.b.1⟩,⟨Int.le_refl _,by show (0:Int)≤120;decide⟩,⟨Int.le_refl _,by show (0:Int)≤120;decide⟩,rfl,rfl,rfl,hK.m.1⟩
theorem rel0 (K:SK):RelS K 0 0 0 (sr0 K) rr0 where
  st:=rfl
  nf:=rfl
  nb:=rfl
  pc:=rfl
  lb:=by simp [sr0]
  ll:=by simp [sr0]
  ln:=by simp [sr0]
  le:=by simp [sr0]
  bo:=by simp [rr0]
  lo:=by simp [rr0]
  be:=rfl
  no:=fun j hj=>absurd hj (by omega)
  we:=fun h=>absurd h (by omega)
def rrOut (q:Bool×SR):Design×Int×Int:=if q.1 then (q.2.found,q.2.steps,0) else if q.2.full then (ds0,q.2.steps,8) else (ds0,q.2.steps,3)
theorem sr_same {K:SK}(hK:OkK K):rrOut (atR K K.Cells.length rr0)=srOut (cellI K K.Cells.length (sr0 K)):=by
  have h:=sim_cell K hK.w.1 hK.h.1 hK.n K.Cells.length (Nat.le_refl _) (sr0 K) rr0;rw [Nat.sub_self,Nat.zero_min,Nat.zero_add,Nat.div_eq_of_lt (by have:=hK.w.1;omega)] at h;have ho:=h (rel0 K) rfl rfl;generalize atR K K.Cells.length rr0=q at *;generalize cellI K K.Cells.length (sr0 K)=o at *;unfold rrOut srOut;cases hr:o.1 with
  | false=>obtain ⟨h1,h2,h3⟩:=ho.no hr;have hf:q.2.full=false:=(by rw [h2];rfl);rw [h1,hf,h3.nb,ho.st];rfl
  | true =>
    rcases ho.yes hr with ⟨h1,h2,h3⟩ | ⟨h1,h2,h3⟩
    · rw [h1,h2,h3,ho.st];rfl
    · rw [h1,h2,h3,ho.st];rfl
def code_spec_l33Asked:VCode:=(.seq (.ops [
  ⟨some 4,none,.asg (.const (.int .i64 0))⟩]) (.seq (.seq (.ops [
  ⟨some 5,none,.mv (.tmp 0)⟩,
  ⟨some 6,none,.callX 71 [(.tmp 5)]⟩,
  ⟨some 7,none,.un .not (.tmp 6)⟩]) (.cond (.tmp 7) (.seq (.ops [
  ⟨some 4,none,.asg (.const (.int .i64 1))⟩]) .ret) .skip)) (.seq (.seq (.ops [
  ⟨some 8,none,.mv (.tmp 1)⟩,
  ⟨some 9,none,.callX 45 [(.tmp 8),(.const (.int .i64 0)),(.const (.int .i64 20000))]⟩,
  ⟨some 10,none,.un .not (.tmp 9)⟩]) (.cond (.tmp 10) (.seq (.ops [
  ⟨some 4,none,.asg (.const (.int .i64 2))⟩]) .ret) .skip)) (.seq (.ops [
  ⟨some 4,none,.asg (.const (.int .i64 0))⟩]) .ret))))
theorem law_spec_l33Asked {a0 a1 d:D}(h:code_spec_l33Asked.wp (CT Try.prog NoG) (endQ [(.t 4)] d) [a0,a1,.undef,.undef,.undef,.undef,.undef,.undef,.undef,.undef,.undef]):Contract Try.prog NoG 44 [a0,a1] d :=
  contract_of (pt:=0) noG Try.func44 (fun us W=>by kernel_rfl) (c:=Try.f44.body.getD .skip) (ms:=[]) (ms':=[]) (by kernel_rfl) (by kernel_rfl) (by kernel_rfl) h
def code_spec_l33Search:VCode:=(.seq (.ops [
  ⟨some 6,none,.alloc [(.slice none 0 0),(.slice none 0 0),(.slice none 0 0)]⟩,
  ⟨some 7,none,.asg (.const (.int .i64 0))⟩,
  ⟨some 8,none,.asg (.const (.int .i64 0))⟩]) (.seq (.ops [
  ⟨some 10,none,.mv (.tmp 0)⟩,
  ⟨some 11,none,.mv (.tmp 1)⟩,
  ⟨some 12,none,.mv (.tmp 2)⟩,
  ⟨some 13,none,.build [(.pointer none),(.int .i64 0),(.int .i64 0),(.int .i64 0),(.bool false),(.slice none 0 0),(.slice none 0 0),(.slice none 0 0),(.slice none 0 0),(.int .i64 0),(.int .i64 0),(.int .i64 0),(.slice none 0 0),(.slice none 0 0),(.slice none 0 0)] [(0,1,(.tmp 10)),(1,1,(.tmp 11)),(2,1,(.tmp 12))]⟩,
  ⟨some 14,none,.box (.tmp 13)⟩,
  ⟨some 9,none,.asg (.tmp 14)⟩]) (.seq (.seq (.ops [
  ⟨some 15,none,.mv (.tmp 9)⟩,
  ⟨some 16,none,.callX 72 [(.tmp 15),(.const (.int .i64 0))]⟩]) (.cond (.tmp 16) (.seq (.drawB [(6,3)] [(6,3)] (mB 25 33423424) (mB 21 1048576) [⟨0,mB 25 33423424,[],⟨some 17,none,.mv (.tmp 9)⟩⟩,⟨1,mB 25 33292352,[],⟨some 18,none,.nilc (.tmp 17)⟩⟩,⟨2,mB 25 33030208,[],⟨some 19,none,.fa 12 (.tmp 18)⟩⟩,⟨3,mB 25 32505920,[],⟨some 20,none,.load 3 true (.tmp 19)⟩⟩,⟨4,mB 25 33423424,[],⟨some 21,none,.mv (.tmp 9)⟩⟩,⟨5,mB 25 31326272,[],⟨some 22,none,.nilc (.tmp 21)⟩⟩,⟨6,mB 25 27131968,[],⟨some 23,none,.fa 3 (.tmp 22)⟩⟩,⟨7,mB 25 18743360,[],⟨some 24,none,.load 1 false (.tmp 23)⟩⟩,⟨8,mB 25 31457344,(mB 21 1048576),⟨some 6,none,.box (.tmp 20)⟩⟩] [⟨some 7,none,.asg (.tmp 24)⟩,⟨some 8,none,.asg (.const (.int .i64 0))⟩]) .ret) .skip)) (.seq (.seq (.ops [
  ⟨some 25,none,.mv (.tmp 9)⟩,
  ⟨some 26,none,.nilc (.tmp 25)⟩,
  ⟨some 27,none,.fa 4 (.tmp 26)⟩,
  ⟨some 28,none,.load 1 false (.tmp 27)⟩]) (.cond (.tmp 28) (.seq (.drawB [(6,3)] [(6,3)] (mB 34 16642998336) (mB 30 536870912) [⟨0,mB 34 16642998336,[],⟨some 29,none,.build [(.slice none 0 0),(.slice none 0 0),(.slice none 0 0)] []⟩⟩,⟨1,mB 34 16642998336,[],⟨some 30,none,.mv (.tmp 9)⟩⟩,⟨2,mB 34 15569256512,[],⟨some 31,none,.nilc (.tmp 30)⟩⟩,⟨3,mB 34 13421772864,[],⟨some 32,none,.fa 3 (.tmp 31)⟩⟩,⟨4,mB 34 9126805568,[],⟨some 33,none,.load 1 false (.tmp 32)⟩⟩,⟨5,mB 34 16106127424,(mB 30 536870912),⟨some 6,none,.box (.tmp 29)⟩⟩] [⟨some 7,none,.asg (.tmp 33)⟩,⟨some 8,none,.asg (.const (.int .i64 8))⟩]) .ret) .skip)) (.seq (.drawB [(6,3)] [(6,3)] (mB 39 532575944768) (mB 35 17179869184) [⟨0,mB 39 532575944768,[],⟨some 34,none,.build [(.slice none 0 0),(.slice none 0 0),(.slice none 0 0)] []⟩⟩,⟨1,mB 39 532575944768,[],⟨some 35,none,.mv (.tmp 9)⟩⟩,⟨2,mB 39 498216206400,[],⟨some 36,none,.nilc (.tmp 35)⟩⟩,⟨3,mB 39 429496729664,[],⟨some 37,none,.fa 3 (.tmp 36)⟩⟩,⟨4,mB 39 292057776192,[],⟨some 38,none,.load 1 false (.tmp 37)⟩⟩,⟨5,mB 39 515396075584,(mB 35 17179869184),⟨some 6,none,.box (.tmp 34)⟩⟩] [⟨some 7,none,.asg (.tmp 38)⟩,⟨some 8,none,.asg (.const (.int .i64 3))⟩]) .ret)))))
theorem law_spec_l33Search {a0 a1 a2 d:D}(h:code_spec_l33Search.wp (CT Try.prog NoG) (endQ [(.c 6 3 true),(.t 7),(.t 8)] d) [a0,a1,a2,.undef,.undef,.undef,.undef,.undef,.undef,.undef,.undef,.undef,.undef,.undef,.undef,.undef,.undef,.undef,.undef,.undef,.undef,.undef,.undef,.undef,.undef,.undef,.undef,.undef,.undef,.undef,.undef,.undef,.undef,.undef,.undef,.undef,.undef,.undef,.undef]):Contract Try.prog NoG 46 [a0,a1,a2] d :=
  contract_of (pt:=0) noG Try.func46 (fun us W=>by kernel_rfl) (c:=Try.f46.body.getD .skip) (ms:=[]) (ms':=[]) (by kernel_rfl) (by kernel_rfl) (by kernel_rfl) h
def code_spec_SearchDesign:VCode:=(.seq (.ops [
  ⟨some 3,none,.box (.tmp 0)⟩,
  ⟨some 6,none,.alloc [(.slice none 0 0),(.slice none 0 0),(.slice none 0 0)]⟩,
  ⟨some 7,none,.asg (.const (.int .i64 0))⟩,
  ⟨some 8,none,.asg (.const (.int .i64 0))⟩]) (.seq (.ops [
  ⟨some 10,none,.mv (.tmp 2)⟩,
  ⟨some 11,none,.callX 44 [(.tmp 3),(.tmp 10)]⟩,
  ⟨some 9,none,.asg (.tmp 11)⟩]) (.seq (.seq (.ops [
  ⟨some 12,none,.mv (.tmp 9)⟩,
  ⟨some 13,none,.bin .eql (.tmp 12) (.const (.int .i64 0))⟩,
  ⟨some 14,none,.mv (.tmp 13)⟩,
  ⟨some 15,some (14,true),.mv (.tmp 1)⟩,
  ⟨some 16,some (14,true),.callX 45 [(.tmp 15),(.const (.int .i64 0)),(.const (.int .i64 100))]⟩,
  ⟨some 17,some (14,true),.un .not (.tmp 16)⟩,
  ⟨some 18,none,.pick (.tmp 14) (.tmp 17) (.const (.bool false))⟩]) (.cond (.tmp 18) (.ops [
  ⟨some 9,none,.asg (.const (.int .i64 2))⟩]) .skip)) (.seq (.seq (.ops [
  ⟨some 19,none,.mv (.tmp 9)⟩,
  ⟨some 20,none,.bin .neq (.tmp 19) (.const (.int .i64 0))⟩]) (.cond (.tmp 20) (.seq (.ops [
  ⟨some 21,none,.build [(.slice none 0 0),(.slice none 0 0),(.slice none 0 0)] []⟩,
  ⟨some 22,none,.mv (.tmp 9)⟩,
  ⟨none,none,.store 3 (.tmp 6) (.tmp 21)⟩,
  ⟨some 7,none,.asg (.const (.int .i64 0))⟩,
  ⟨some 8,none,.asg (.tmp 22)⟩]) .ret) .skip)) (.seq (.ops [
  ⟨some 23,none,.mv (.tmp 1)⟩,
  ⟨some 24,none,.mv (.tmp 2)⟩,
  ⟨some 25,none,.callX 46 [(.tmp 3),(.tmp 23),(.tmp 24)]⟩,
  ⟨some 26,none,.ext (.tmp 25) 0⟩,
  ⟨some 27,none,.ext (.tmp 25) 1⟩,
  ⟨some 28,none,.ext (.tmp 25) 2⟩,
  ⟨none,none,.store 3 (.tmp 6) (.tmp 26)⟩,
  ⟨some 7,none,.asg (.tmp 27)⟩,
  ⟨some 8,none,.asg (.tmp 28)⟩]) .ret)))))
theorem law_spec_SearchDesign {a0 a1 a2 d:D}(h:code_spec_SearchDesign.wp (CT Try.prog NoG) (endQ [(.c 6 3 true),(.t 7),(.t 8)] d) [a0,a1,a2,.undef,.undef,.undef,.undef,.undef,.undef,.undef,.undef,.undef,.undef,.undef,.undef,.undef,.undef,.undef,.undef,.undef,.undef,.undef,.undef,.undef,.undef,.undef,.undef,.undef,.undef]):Contract Try.prog NoG 15 [a0,a1,a2] d :=
  contract_of (pt:=0) noG Try.func15 (fun us W=>by kernel_rfl) (c:=Try.f15.body.getD .skip) (ms:=[]) (ms':=[]) (by kernel_rfl) (by kernel_rfl) (by kernel_rfl) h
theorem v_l33Asked (q:Pattern)(b:Int)(hn:q.Cells.length≤1048576):Contract Try.prog NoG 44 [.iptr (Pattern.td.d false q) 0,.v (.int .i64 b)] (.v (.int .i64 (if okPattern q=false then 1 else if inR 0 20000 b=false then 2 else 0))):=by
  have hv:=v_l24Ok q hn;rw [Pattern.td_d] at hv ⊢;refine law_spec_l33Asked ?_;unfold code_spec_l33Asked;cases h1:okPattern q with
  | false=>rw [h1] at hv;simp -implicitDefEqProofs (disch:=omega) only [go_sem,↓reduceIte];refine call_B (hv) (by simp -implicitDefEqProofs (disch:=omega) only [go_sem,↓reduceIte,deep,TD.rows,immLL_rI,immLL_rB8,immLL_rS,immLL_rBo,immLL_rII,immLL_rIIt,Bool.not_false];exact rfl) ?_;simp -implicitDefEqProofs (disch:=omega) only [go_sem,↓reduceIte ,Bool.not_false]
  | true =>
    rw [h1] at hv;cases h2:inR 0 20000 b with
    | false=>simp -implicitDefEqProofs (disch:=omega) only [go_sem,↓reduceIte];refine call_B (hv) (by simp -implicitDefEqProofs (disch:=omega) only [go_sem,↓reduceIte,deep,TD.rows,immLL_rI,immLL_rB8,immLL_rS,immLL_rBo,immLL_rII,immLL_rIIt,Bool.not_true];exact rfl) ?_;simp -implicitDefEqProofs (disch:=omega) only [go_sem,↓reduceIte ,Bool.not_true];refine call_B (v_l00In _ _ _) (by simp -implicitDefEqProofs (disch:=omega) only [go_sem,↓reduceIte,deep,TD.rows,immLL_rI,immLL_rB8,immLL_rS,immLL_rBo,immLL_rII,immLL_rIIt,h2,Bool.not_false];exact rfl) ?_;simp -implicitDefEqProofs (disch:=omega) only [go_sem,↓reduceIte ,h2,Bool.not_false]
    | true=>simp -implicitDefEqProofs (disch:=omega) only [go_sem,↓reduceIte];refine call_B (hv) (by simp -implicitDefEqProofs (disch:=omega) only [go_sem,↓reduceIte,deep,TD.rows,immLL_rI,immLL_rB8,immLL_rS,immLL_rBo,immLL_rII,immLL_rIIt,Bool.not_true];exact rfl) ?_;simp -implicitDefEqProofs (disch:=omega) only [go_sem,↓reduceIte ,Bool.not_true];refine call_B (v_l00In _ _ _) (by simp -implicitDefEqProofs (disch:=omega) only [go_sem,↓reduceIte,deep,TD.rows,immLL_rI,immLL_rB8,immLL_rS,immLL_rBo,immLL_rII,immLL_rIIt,h2,Bool.not_true];exact rfl) ?_;simp -implicitDefEqProofs (disch:=omega) only [go_sem,↓reduceIte ,h2,Bool.not_true]
set_option maxHeartbeats 4000000 in
theorem v_l33Search (q:Pattern)(m b:Int)(h:srAsk q m b=0):Contract Try.prog NoG 46 [.iptr (Pattern.td.d false q) 0,.v (.int .i64 m),.v (.int .i64 b)] (.tup [.agg (Design.td.d true (srAll q m b).1),.v (.int .i64 (srAll q m b).2.1),.v (.int .i64 (srAll q m b).2.2)]):=by
  have hK:=srK_ok h;have hAll:=v_rAll hK q.Cells.length (Nat.le_refl _) rr0;have hsame:=sr_same hK;have hq:okPattern q=true:=by
    cases h1:okPattern q with
    | false=>unfold srAsk at h;rw [h1] at h;simp at h
    | true=>rfl
  obtain ⟨W,H,e1,e2,a1,a2,a3,_⟩:=okPat_iff hq;have hW:(srK q m b).W=W:=(by simp [srK,e1]);have hH:(srK q m b).H=H:=(by simp [srK,e2]);rw [show (srK q m b).Cells.length-q.Cells.length=0 from Nat.sub_self _,Nat.zero_min,Nat.zero_add,Nat.div_eq_of_lt (by have:=hK.w.1;omega)] at hAll;have hcc:=hAll (rr0_ok hK);unfold srAll;rw [if_pos h];rw [show cellI (srK q m b) q.Cells.length (sr0 (srK q m b))=cellI (srK q m b) (srK q m b).Cells.length (sr0 (srK q m b)) from rfl,← hsame];rw [show atR (srK q m b) q.Cells.length rr0=atR (srK q m b) (srK q m b).Cells.length rr0 from rfl] at hcc;generalize ho:atR (srK q m b) (srK q m b).Cells.length rr0=o at *;simp only [zrD,hW,hH,rr0,ds0,List.map_nil] at hcc;simp only [srK] at hcc;rw [Pattern.td_d,e1,e2,Design.td_d];refine law_spec_l33Search ?_;unfold code_spec_l33Search;unfold rrOut;cases hr:o.1 with
  | true=>rw [hr] at hcc;simp -implicitDefEqProofs (disch:=omega) only [go_sem,↓reduceIte];refine call_PB (i:=0) (r:=14) (hcc) rfl rfl (by simp -implicitDefEqProofs (disch:=omega) only [go_sem,↓reduceIte,deep,TD.rows,immLL_rI,immLL_rB8,immLL_rS,immLL_rBo,immLL_rII,immLL_rIIt];exact rfl) ?_;simp -implicitDefEqProofs (disch:=omega) only [go_sem,↓reduceIte]
  | false =>
    rw [hr] at hcc;cases hf:o.2.full with
    | true=>simp -implicitDefEqProofs (disch:=omega) only [go_sem,↓reduceIte];refine call_PB (i:=0) (r:=14) (hcc) rfl rfl (by simp -implicitDefEqProofs (disch:=omega) only [go_sem,↓reduceIte,deep,TD.rows,immLL_rI,immLL_rB8,immLL_rS,immLL_rBo,immLL_rII,immLL_rIIt,hf,ds0];exact rfl) ?_;simp -implicitDefEqProofs (disch:=omega) only [go_sem,↓reduceIte ,hf,ds0]
    | false=>simp -implicitDefEqProofs (disch:=omega) only [go_sem,↓reduceIte];refine call_PB (i:=0) (r:=14) (hcc) rfl rfl (by simp -implicitDefEqProofs (disch:=omega) only [go_sem,↓reduceIte,deep,TD.rows,immLL_rI,immLL_rB8,immLL_rS,immLL_rBo,immLL_rII,immLL_rIIt,hf,ds0];exact rfl) ?_;simp -implicitDefEqProofs (disch:=omega) only [go_sem,↓reduceIte ,hf,ds0]
set_option maxHeartbeats 4000000 in
theorem vSearchDesign_spec (q_aP:Pattern)(q_aP_ok:Pattern.td.ok q_aP)(q_aP_n:Pattern.cnt q_aP≤1048576)(q_aPieces:Int)(q_aPieces_ok:InK .i64 q_aPieces)(q_aBudget:Int)(q_aBudget_ok:InK .i64 q_aBudget):Contract Try.prog NoG 15 [.agg (Pattern.td.d false q_aP),.v (.int .i64 q_aPieces),.v (.int .i64 q_aBudget)] (.tup [.agg (Design.td.d true (SearchDesignR q_aP q_aPieces q_aBudget)),.v (.int .i64 (SearchDesignS q_aP q_aPieces q_aBudget)),.v (.int .i64 (SearchDesignC q_aP q_aPieces q_aBudget))]):=by
  have hn:q_aP.Cells.length≤1048576:=q_aP_n;have hc:=v_l33Asked q_aP q_aBudget hn;have hw:=v_l00In q_aPieces 0 100;unfold SearchDesignR SearchDesignS SearchDesignC;cases h1:okPattern q_aP with
  | false=>have e:srAll q_aP q_aPieces q_aBudget=(ds0,0,1):=(by unfold srAll srAsk;rw [h1];rfl);rw [h1,if_pos rfl] at hc;rw [e,Pattern.td_d,Design.td_d];rw [Pattern.td_d] at hc;refine law_spec_SearchDesign ?_;unfold code_spec_SearchDesign;simp -implicitDefEqProofs (disch:=omega) only [go_sem,↓reduceIte];refine call_B (hc) (by simp -implicitDefEqProofs (disch:=omega) only [go_sem,↓reduceIte,deep,TD.rows,immLL_rI,immLL_rB8,immLL_rS,immLL_rBo,immLL_rII,immLL_rIIt,Int.natCast_zero,Int.natCast_one,Int.cast_ofNat_Int,Int.ofNat_le,Int.toNat_zero,Nat.sub_zero,Int.le_refl,Int.reduceLT,Int.reduceLE,Int.reduceEq,Int.reduceAdd,Int.reduceSub,Int.reduceMul,Int.reduceToNat,Int.reduceNeg,ds0];exact rfl) ?_;simp -implicitDefEqProofs (disch:=omega) only [go_sem,↓reduceIte ,Int.natCast_zero,Int.natCast_one,Int.cast_ofNat_Int,Int.ofNat_le,Int.toNat_zero,Nat.sub_zero,Int.le_refl,Int.reduceLT,Int.reduceLE,Int.reduceEq,Int.reduceAdd,Int.reduceSub,Int.reduceMul,Int.reduceToNat,Int.reduceNeg,ds0]
  | true =>
    rw [h1,if_neg (by decide)] at hc;cases h2:inR 0 20000 q_aBudget with
    | false=>have e:srAll q_aP q_aPieces q_aBudget=(ds0,0,2):=(by unfold srAll srAsk;rw [h1,h2];rfl);rw [h2,if_pos rfl] at hc;rw [e,Pattern.td_d,Design.td_d];rw [Pattern.td_d] at hc;refine law_spec_SearchDesign ?_;unfold code_spec_SearchDesign;simp -implicitDefEqProofs (disch:=omega) only [go_sem,↓reduceIte];refine call_B (hc) (by simp -implicitDefEqProofs (disch:=omega) only [go_sem,↓reduceIte,deep,TD.rows,immLL_rI,immLL_rB8,immLL_rS,immLL_rBo,immLL_rII,immLL_rIIt,Int.natCast_zero,Int.natCast_one,Int.cast_ofNat_Int,Int.ofNat_le,Int.toNat_zero,Nat.sub_zero,Int.le_refl,Int.reduceLT,Int.reduceLE,Int.reduceEq,Int.reduceAdd,Int.reduceSub,Int.reduceMul,Int.reduceToNat,Int.reduceNeg,ds0];exact rfl) ?_;simp -implicitDefEqProofs (disch:=omega) only [go_sem,↓reduceIte ,Int.natCast_zero,Int.natCast_one,Int.cast_ofNat_Int,Int.ofNat_le,Int.toNat_zero,Nat.sub_zero,Int.le_refl,Int.reduceLT,Int.reduceLE,Int.reduceEq,Int.reduceAdd,Int.reduceSub,Int.reduceMul,Int.reduceToNat,Int.reduceNeg,ds0]
    | true =>
      rw [h2,if_neg (by decide)] at hc;cases h3:inR 0 100 q_aPieces with
      | false=>have e:srAll q_aP q_aPieces q_aBudget=(ds0,0,2):=(by unfold srAll srAsk;rw [h1,h2,h3];rfl);rw [e,Pattern.td_d,Design.td_d];rw [Pattern.td_d] at hc;refine law_spec_SearchDesign ?_;unfold code_spec_SearchDesign;simp -implicitDefEqProofs (disch:=omega) only [go_sem,↓reduceIte];refine call_B (hc) (by simp -implicitDefEqProofs (disch:=omega) only [go_sem,↓reduceIte,deep,TD.rows,immLL_rI,immLL_rB8,immLL_rS,immLL_rBo,immLL_rII,immLL_rIIt,Int.natCast_zero,Int.natCast_one,Int.cast_ofNat_Int,Int.ofNat_le,Int.toNat_zero,Nat.sub_zero,Int.le_refl,Int.reduceLT,Int.reduceLE,Int.reduceEq,Int.reduceAdd,Int.reduceSub,Int.reduceMul,Int.reduceToNat,Int.reduceNeg];exact rfl) ?_;simp -implicitDefEqProofs (disch:=omega) only [go_sem,↓reduceIte ,Int.natCast_zero,Int.natCast_one,Int.cast_ofNat_Int,Int.ofNat_le,Int.toNat_zero,Nat.sub_zero,Int.le_refl,Int.reduceLT,Int.reduceLE,Int.reduceEq,Int.reduceAdd,Int.reduceSub,Int.reduceMul,Int.reduceToNat,Int.reduceNeg];refine call_B (hw) (by simp -implicitDefEqProofs (disch:=omega) only [go_sem,↓reduceIte,deep,TD.rows,immLL_rI,immLL_rB8,immLL_rS,immLL_rBo,immLL_rII,immLL_rIIt,h3,Bool.not_false,ds0,Int.natCast_zero,Int.natCast_one,Int.cast_ofNat_Int,Int.ofNat_le,Int.toNat_zero,Nat.sub_zero,Int.le_refl,Int.reduceLT,Int.reduceLE,Int.reduceEq,Int.reduceAdd,Int.reduceSub,Int.reduceMul,Int.reduceToNat,Int.reduceNeg,decide_false];exact rfl) ?_;simp -implicitDefEqProofs (disch:=omega) only [go_sem,↓reduceIte ,h3,Bool.not_false,ds0,Int.natCast_zero,Int.natCast_one,Int.cast_ofNat_Int,Int.ofNat_le,Int.toNat_zero,Nat.sub_zero,Int.le_refl,Int.reduceLT,Int.reduceLE,Int.reduceEq,Int.reduceAdd,Int.reduceSub,Int.reduceMul,Int.reduceToNat,Int.reduceNeg,decide_false]
      | true=>have ha:srAsk q_aP q_aPieces q_aBudget=0:=(by unfold srAsk;rw [h1,h2,h3];rfl);have hs:=v_l33Search q_aP q_aPieces q_aBudget ha;generalize srAll q_aP q_aPieces q_aBudget=r at *;rw [Pattern.td_d,Design.td_d];rw [Pattern.td_d] at hc;rw [Pattern.td_d,Design.td_d] at hs;refine law_spec_SearchDesign ?_;unfold code_spec_SearchDesign;simp -implicitDefEqProofs (disch:=omega) only [go_sem,↓reduceIte];refine call_B (hc) (by simp -implicitDefEqProofs (disch:=omega) only [go_sem,↓reduceIte,deep,TD.rows,immLL_rI,immLL_rB8,immLL_rS,immLL_rBo,immLL_rII,immLL_rIIt,Int.natCast_zero,Int.natCast_one,Int.cast_ofNat_Int,Int.ofNat_le,Int.toNat_zero,Nat.sub_zero,Int.le_refl,Int.reduceLT,Int.reduceLE,Int.reduceEq,Int.reduceAdd,Int.reduceSub,Int.reduceMul,Int.reduceToNat,Int.reduceNeg];exact rfl) ?_;simp -implicitDefEqProofs (disch:=omega) only [go_sem,↓reduceIte ,Int.natCast_zero,Int.natCast_one,Int.cast_ofNat_Int,Int.ofNat_le,Int.toNat_zero,Nat.sub_zero,Int.le_refl,Int.reduceLT,Int.reduceLE,Int.reduceEq,Int.reduceAdd,Int.reduceSub,Int.reduceMul,Int.reduceToNat,Int.reduceNeg];refine call_B (hw) (by simp -implicitDefEqProofs (disch:=omega) only [go_sem,↓reduceIte,deep,TD.rows,immLL_rI,immLL_rB8,immLL_rS,immLL_rBo,immLL_rII,immLL_rIIt,h3,Bool.not_true,Int.natCast_zero,Int.natCast_one,Int.cast_ofNat_Int,Int.ofNat_le,Int.toNat_zero,Nat.sub_zero,Int.le_refl,Int.reduceLT,Int.reduceLE,Int.reduceEq,Int.reduceAdd,Int.reduceSub,Int.reduceMul,Int.reduceToNat,Int.reduceNeg,decide_true];exact rfl) ?_;simp -implicitDefEqProofs (disch:=omega) only [go_sem,↓reduceIte ,h3,Bool.not_true,Int.natCast_zero,Int.natCast_one,Int.cast_ofNat_Int,Int.ofNat_le,Int.toNat_zero,Nat.sub_zero,Int.le_refl,Int.reduceLT,Int.reduceLE,Int.reduceEq,Int.reduceAdd,Int.reduceSub,Int.reduceMul,Int.reduceToNat,Int.reduceNeg,decide_true];refine call_B (hs) (by simp -implicitDefEqProofs (disch:=omega) only [go_sem,↓reduceIte,deep,TD.rows,immLL_rI,immLL_rB8,immLL_rS,immLL_rBo,immLL_rII,immLL_rIIt];exact rfl) ?_;simp -implicitDefEqProofs (disch:=omega) only [go_sem,↓reduceIte]
end Go.Proofs.Ytaleehohmpohoaa
