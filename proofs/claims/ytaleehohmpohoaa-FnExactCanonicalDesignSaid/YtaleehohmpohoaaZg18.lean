/- Laws that the proof stands on. -/
import Derived.Test.YtaleehohmpohoaaZVDsnP
import Derived.Test.YtaleehohmpohoaaZVBkPiece
import Derived.Test.YtaleehohmpohoaaZg10
import Derived.Test.YtaleehohmpohoaaZg14
import Derived.Test.YtaleehohmpohoaaZVMeet
set_option linter.all false
namespace Go.Proofs.Ytaleehohmpohoaa
open Go.RowKit Go.V
attribute [local go_sem] List.getElem?_cons_succ List.getElem?_cons_zero List.set_cons_succ List.set_cons_zero List.map_cons List.map_nil List.length_cons List.length_nil List.all_cons List.all_nil List.drop_succ_cons List.drop_zero List.take_succ_cons List.take_zero List.flatMap_cons List.flatMap_nil List.cons_append List.nil_append List.append_nil List.headD_cons Value.oneCell' Bool.and_true Bool.true_and Bool.or_false Bool.false_or Bool.and_self Bool.not_true Bool.not_false and_true true_and beq_self_eq_true Bool.false_eq_true if_true if_false Nat.zero_add Nat.reduceAdd Nat.reduceMul Nat.reduceLeDiff Nat.le_refl Option.isSome_some Option.isSome_none not_true_eq_false not_false_eq_true ne_eq reduceCtorEq List.reverse_nil bne_self_eq_false Nat.reduceEqDiff List.isPrefixOf Bool.not_eq_true Bool.and_false Bool.false_and Bool.true_or Bool.or_true decide_true decide_false Nat.reduceBEq Nat.reduceBNe List.replicate_succ List.replicate_zero exists_eq_left' exists_eq_left Option.some.injEq or_false or_true true_or false_or Option.map_some Option.map_none mB Nat.reduceMod Nat.reduceDiv
set_option maxRecDepth 100000
theorem inl_next {ps:List Piece}{i:Nat}(hi:i<ps.length):mset (inlE ((revI ps).take i)) (.agg #[.int .i64 (ps.getD (ps.length-1-i) p0).South,.int .i64 (ps.getD (ps.length-1-i) p0).West]) (.int .i64 ((ps.length-1-i:Nat):Int))=inlE ((revI ps).take (i+1)):=by have h1:i<(revI ps).length:=(by rw [revI_len];exact hi);have h2:=tbG_next (key:=keyI) (val:=valI) h1;rw [revI_get hi] at h2;have h3:ps.getD (ps.length-1-i) p0=ps[ps.length-1-i]'(by omega):=(by rw [List.getD_eq_getElem?_getD,List.getElem?_eq_getElem (by omega)];rfl);rw [h3];exact h2
def code_impl_byInlet:VCode:=(.seq (.ops [
  ⟨(some 2),none,(.asg (.const (.map none)))⟩]) (.seq (.ops [
  ⟨(some 6),none,(.mkm (.flat [1,1]))⟩,
  ⟨(some 3),none,(.alloc [(.map none)])⟩,
  ⟨none,none,(.store 1 (.tmp 3) (.tmp 6))⟩]) (.seq (.seq (.ops [
  ⟨(some 7),none,(.mv (.tmp 0))⟩,
  ⟨(some 8),none,(.callX 93 [(.tmp 7)])⟩]) (.block 0 (.rangeF (.tmp 8) [9,10] (mB 18 261680) (.seq (.ops [
  ⟨(some 4),none,(.asg (.tmp 9))⟩]) (.ops [
  ⟨(some 5),none,(.alloc [(.int .i64 0),(.int .i64 0),(.int .i64 0),(.int .i64 0),(.int .i64 0)])⟩,
  ⟨none,none,(.store 5 (.tmp 5) (.tmp 10))⟩])) (.block 1 (.ops [
  ⟨(some 11),none,(.load 1 false (.tmp 3))⟩,
  ⟨(some 12),none,(.fa 3 (.tmp 5))⟩,
  ⟨(some 13),none,(.load 1 false (.tmp 12))⟩,
  ⟨(some 14),none,(.fa 4 (.tmp 5))⟩,
  ⟨(some 15),none,(.load 1 false (.tmp 14))⟩,
  ⟨(some 16),none,(.build [(.int .i64 0),(.int .i64 0)] [(0,1,(.tmp 13)),(1,1,(.tmp 15))])⟩,
  ⟨(some 17),none,(.mv (.tmp 4))⟩,
  ⟨none,none,(.mupd (.flat [1,1]) (.tmp 11) (.tmp 16) (.tmp 17))⟩]))))) (.seq (.ops [
  ⟨(some 18),none,(.load 1 false (.tmp 3))⟩,
  ⟨(some 2),none,(.asg (.tmp 18))⟩]) .ret))))
theorem law_impl_byInlet {a0 d:D}(h:code_impl_byInlet.wp (CT Try.prog NoG) (endQ [(.t 2)] d) [a0,.undef,.undef,.undef,.undef,.undef,.undef,.undef,.undef,.undef,.undef,.undef,.undef,.undef,.undef,.undef,.undef,.undef,.undef]):Contract Try.prog NoG 66 [a0] d :=
  contract_ofR (pt:=0) noG Try.func66 (fun us W=>by kernel_rfl) (c:=Try.f66.body.getD .skip) (ms:=[]) (ms':=[]) (by kernel_rfl) (by kernel_rfl) (by kernel_rfl) (by kernel_rfl) h
set_option maxHeartbeats 1000000 in
theorem v_byInlet (ps:List Piece)(hn:ps.length≤1048576):Contract Try.prog NoG 66 [.sl false 5 (ps.map (Piece.td.d false))] (.mp (.flat [1,1]) (inlE (revI ps))):=by
  refine law_impl_byInlet ?_;unfold code_impl_byInlet;simp -implicitDefEqProofs (disch:=omega) only [go_sem,↓reduceIte];refine call_B (v_Backward_Piece ps) (by simp -implicitDefEqProofs (disch:=omega) only [go_sem,↓reduceIte,deep,TD.rows,immLL_rI,immLL_rB8,immLL_rS,immLL_rBo,immLL_rII,immLL_rIIt];exact rfl) ?_;simp -implicitDefEqProofs (disch:=omega) only [go_sem,↓reduceIte];refine range_ov (N:=ps.length) (by simp -implicitDefEqProofs (disch:=omega) only [go_sem,↓reduceIte];exact rfl) (by rfl) (fun i=>bkP ps i) (it_Backward_Piece ps hn) (fun _ _=>rfl) (by simp -implicitDefEqProofs (disch:=omega) only [go_sem,↓reduceIte];exact rfl) (fun i=>[(3,.box none [.mp (.flat [1,1]) (inlE ((revI ps).take i))])]) (fun _=>by simp only [ovr_nil,ovr_cons,List.set_cons_zero,List.set_cons_succ];exact rfl) (by rw [show inlE ((revI ps).take 0)=[] from rfl];(try simp -implicitDefEqProofs only [nleL_cc,nleL_nn,nle_self,nle_boxs,nle_aggs,nle_nils,and_self,and_true,true_and])<;>repeat' (first | exact nle_of_eq rfl | exact nle_nil | apply And.intro | apply nle_sl | apply nleLL_cons | apply nleL_cons | exact nleL_nil | exact nleLL_nil | apply nle_box | apply nle_agg)) ?_ ?_
  · intro i hi;have hs:=inl_next hi;simp -implicitDefEqProofs (disch:=omega) only [go_sem,↓reduceIte ,bkP,Piece.td_d,hs];exact ⟨_,nleA,rfl⟩
  · have hN:(revI ps).take ps.length=revI ps:=(by rw [← revI_len ps,List.take_length]);simp -implicitDefEqProofs (disch:=omega) only [go_sem,↓reduceIte ,hN]
structure dsnB (d:Design):Prop where
  b:d.Bottom.length≤1048576
  l:d.Left.length≤1048576
  p:d.Pieces.length≤1048576
theorem dsnB_of {d:Design}(h:Design.cnt d≤1048576):dsnB d:=by have h1:Design.cnt d=d.Bottom.length+d.Left.length+d.Pieces.length:=rfl;exact ⟨by omega,by omega,by omega⟩
def code_impl_gluesOk:VCode:=(.seq (.ops [
  ⟨(some 2),none,(.asg (.const (.bool false)))⟩]) (.seq (.ops [
  ⟨(some 3),none,(.mv (.tmp 0))⟩,
  ⟨(some 4),none,(.callX 86 [(.tmp 3),(.const (.int .i64 120))])⟩,
  ⟨(some 2),none,(.asg (.tmp 4))⟩]) .ret))
theorem law_impl_gluesOk {a0 d:D}(h:code_impl_gluesOk.wp (CT Try.prog NoG) (endQ [(.t 2)] d) [a0,.undef,.undef,.undef,.undef]):Contract Try.prog NoG 64 [a0] d :=
  contract_of (pt:=0) noG Try.func64 (fun us W=>by kernel_rfl) (c:=Try.f64.body.getD .skip) (ms:=[]) (ms':=[]) (by kernel_rfl) (by kernel_rfl) (by kernel_rfl) h
def code_impl_edgeOk:VCode:=(.seq (.ops [
  ⟨(some 2),none,(.asg (.const (.bool false)))⟩]) (.seq (.ops [
  ⟨(some 3),none,(.mv (.tmp 0))⟩,
  ⟨(some 4),none,(.len (.tmp 3))⟩,
  ⟨(some 5),none,(.callX 48 [(.tmp 4),(.const (.int .i64 1)),(.const (.int .i64 10))])⟩,
  ⟨(some 6),none,(.mv (.tmp 5))⟩,
  ⟨(some 7),(some (6,true)),(.mv (.tmp 0))⟩,
  ⟨(some 8),(some (6,true)),(.callX 64 [(.tmp 7)])⟩,
  ⟨(some 9),none,(.pick (.tmp 6) (.tmp 8) (.const (.bool false)))⟩,
  ⟨(some 2),none,(.asg (.tmp 9))⟩]) .ret))
theorem law_impl_edgeOk {a0 d:D}(h:code_impl_edgeOk.wp (CT Try.prog NoG) (endQ [(.t 2)] d) [a0,.undef,.undef,.undef,.undef,.undef,.undef,.undef,.undef,.undef]):Contract Try.prog NoG 62 [a0] d :=
  contract_of (pt:=0) noG Try.func62 (fun us W=>by kernel_rfl) (c:=Try.f62.body.getD .skip) (ms:=[]) (ms':=[]) (by kernel_rfl) (by kernel_rfl) (by kernel_rfl) h
def code_impl_ValidDesign_1:VCode:=(.seq (.ops [
  ⟨(some 1),none,(.box (.tmp 0))⟩,
  ⟨(some 2),none,(.asg (.const (.bool false)))⟩]) (.seq (.ops [
  ⟨(some 3),none,(.fa 0 (.tmp 1))⟩,
  ⟨(some 4),none,(.load 1 false (.tmp 3))⟩,
  ⟨(some 5),none,(.callX 48 [(.tmp 4),(.const (.int .i64 0)),(.const (.int .i64 5))])⟩,
  ⟨(some 6),none,(.un .not (.tmp 5))⟩,
  ⟨(some 7),none,(.mv (.tmp 6))⟩,
  ⟨(some 8),(some (7,false)),(.fa 1 (.tmp 1))⟩,
  ⟨(some 9),(some (7,false)),(.load 1 false (.tmp 8))⟩,
  ⟨(some 10),(some (7,false)),(.fa 2 (.tmp 1))⟩,
  ⟨(some 11),(some (7,false)),(.load 1 false (.tmp 10))⟩,
  ⟨(some 12),(some (7,false)),(.fa 3 (.tmp 1))⟩,
  ⟨(some 13),(some (7,false)),(.load 1 false (.tmp 12))⟩,
  ⟨(some 14),(some (7,false)),(.fa 4 (.tmp 1))⟩,
  ⟨(some 15),(some (7,false)),(.load 1 false (.tmp 14))⟩,
  ⟨(some 16),(some (7,false)),(.bsl 1 [(.tmp 9),(.tmp 11),(.tmp 13),(.tmp 15)])⟩,
  ⟨(some 17),(some (7,false)),(.callX 64 [(.tmp 16)])⟩,
  ⟨(some 18),(some (7,false)),(.un .not (.tmp 17))⟩,
  ⟨(some 19),none,(.pick (.tmp 7) (.const (.bool true)) (.tmp 18))⟩,
  ⟨(some 2),none,(.asg (.tmp 19))⟩]) .ret))
theorem law_impl_ValidDesign_1 {a0 d:D}(h:code_impl_ValidDesign_1.wp (CT Try.prog NoG) (endQ [(.t 2)] d) [a0,.undef,.undef,.undef,.undef,.undef,.undef,.undef,.undef,.undef,.undef,.undef,.undef,.undef,.undef,.undef,.undef,.undef,.undef,.undef]):Contract Try.prog NoG 63 [a0] d :=
  contract_of (pt:=0) noG Try.func63 (fun us W=>by kernel_rfl) (c:=Try.f63.body.getD .skip) (ms:=[]) (ms':=[]) (by kernel_rfl) (by kernel_rfl) (by kernel_rfl) h
def code_impl_ValidDesign:VCode:=(.seq (.ops [
  ⟨(some 1),none,(.box (.tmp 0))⟩,
  ⟨(some 2),none,(.asg (.const (.bool false)))⟩]) (.seq (.seq (.ops [
  ⟨(some 4),none,(.fa 0 (.tmp 1))⟩,
  ⟨(some 5),none,(.load 1 false (.tmp 4))⟩,
  ⟨(some 6),none,(.callX 62 [(.tmp 5)])⟩,
  ⟨(some 7),none,(.un .not (.tmp 6))⟩,
  ⟨(some 8),none,(.mv (.tmp 7))⟩,
  ⟨(some 9),(some (8,false)),(.fa 1 (.tmp 1))⟩,
  ⟨(some 10),(some (8,false)),(.load 1 false (.tmp 9))⟩,
  ⟨(some 11),(some (8,false)),(.callX 62 [(.tmp 10)])⟩,
  ⟨(some 12),(some (8,false)),(.un .not (.tmp 11))⟩,
  ⟨(some 13),none,(.pick (.tmp 8) (.const (.bool true)) (.tmp 12))⟩,
  ⟨(some 14),none,(.mv (.tmp 13))⟩,
  ⟨(some 15),(some (14,false)),(.fa 2 (.tmp 1))⟩,
  ⟨(some 16),(some (14,false)),(.load 1 false (.tmp 15))⟩,
  ⟨(some 17),(some (14,false)),(.len (.tmp 16))⟩,
  ⟨(some 18),(some (14,false)),(.bin .gtr (.tmp 17) (.const (.int .i64 100)))⟩,
  ⟨(some 19),none,(.pick (.tmp 14) (.const (.bool true)) (.tmp 18))⟩]) (.cond (.tmp 19) (.seq (.ops [
  ⟨(some 2),none,(.asg (.const (.bool false)))⟩]) .ret) .skip)) (.seq (.ops [
  ⟨(some 3),none,(.asg (.func 63))⟩]) (.seq (.draw (mB 33 8588886016) [] [⟨0,(mB 33 8588886016),[],⟨(some 20),none,(.fa 2 (.tmp 1))⟩⟩,⟨1,(mB 33 8587837440),[],⟨(some 21),none,(.load 1 false (.tmp 20))⟩⟩,⟨2,(mB 33 8588886016),[],⟨(some 22),none,(.mv (.tmp 3))⟩⟩,⟨3,(mB 33 8581545984),[],⟨(some 23),none,(.call 65 [(.tmp 21),(.tmp 22)])⟩⟩,⟨4,(mB 33 8573157376),[],⟨(some 24),none,(.un .not (.tmp 23))⟩⟩,⟨5,(mB 33 8556380160),[],⟨(some 25),none,(.mv (.tmp 24))⟩⟩,⟨6,(mB 33 8522825728),[],⟨(some 26),(some (25,true)),(.fa 2 (.tmp 1))⟩⟩,⟨7,(mB 33 8455716864),[],⟨(some 27),(some (25,true)),(.load 1 false (.tmp 26))⟩⟩,⟨8,(mB 33 8321499136),[],⟨(some 28),(some (25,true)),(.call 66 [(.tmp 27)])⟩⟩,⟨9,(mB 33 8053063680),[],⟨(some 29),(some (25,true)),(.mlen (.tmp 28))⟩⟩,⟨10,(mB 33 8522825728),[],⟨(some 30),(some (25,true)),(.fa 2 (.tmp 1))⟩⟩,⟨11,(mB 33 7449083904),[],⟨(some 31),(some (25,true)),(.load 1 false (.tmp 30))⟩⟩,⟨12,(mB 33 5301600256),[],⟨(some 32),(some (25,true)),(.len (.tmp 31))⟩⟩] [⟨(some 33),(some (25,true)),(.bin .eql (.tmp 29) (.tmp 32))⟩,⟨(some 34),none,(.pick (.tmp 25) (.tmp 33) (.const (.bool false)))⟩,⟨(some 2),none,(.asg (.tmp 34))⟩]) .ret))))
theorem law_impl_ValidDesign {a0 d:D}(h:code_impl_ValidDesign.wp (CT Try.prog NoG) (endQ [(.t 2)] d) [a0,.undef,.undef,.undef,.undef,.undef,.undef,.undef,.undef,.undef,.undef,.undef,.undef,.undef,.undef,.undef,.undef,.undef,.undef,.undef,.undef,.undef,.undef,.undef,.undef,.undef,.undef,.undef,.undef,.undef,.undef,.undef,.undef,.undef,.undef]):Contract Try.prog NoG 27 [a0] d :=
  contract_of (pt:=0) noG Try.func27 (fun us W=>by kernel_rfl) (c:=Try.f27.body.getD .skip) (ms:=[]) (ms':=[]) (by kernel_rfl) (by kernel_rfl) (by kernel_rfl) h
theorem v_gluesOk (xs:List Int)(hn:xs.length≤1048576):Contract Try.prog NoG 64 [.sl false 1 (xs.map rI)] (.v (.bool (xs.all (inR 0 119)))):=by refine law_impl_gluesOk ?_;unfold code_impl_gluesOk;simp -implicitDefEqProofs (disch:=omega) only [go_sem,↓reduceIte];refine call_B (v_below xs 120 (by omega) (by omega) hn) (by simp -implicitDefEqProofs (disch:=omega) only [go_sem,↓reduceIte,deep,TD.rows,immLL_rI,immLL_rB8,immLL_rS,immLL_rBo,immLL_rII,immLL_rIIt,Int.reduceSub];exact rfl) ?_;simp -implicitDefEqProofs (disch:=omega) only [go_sem,↓reduceIte ,Int.reduceSub]
theorem v_edgeOk (xs:List Int)(hn:xs.length≤1048576):Contract Try.prog NoG 62 [.sl false 1 (xs.map rI)] (.v (.bool (okEdge xs))):=by
  refine law_impl_edgeOk ?_;unfold code_impl_edgeOk okEdge;simp -implicitDefEqProofs (disch:=omega) only [go_sem,↓reduceIte ,List.length_map];cases h:inR 1 10 xs.length with
  | false=>refine call_B (v_within _ _ _) (by simp -implicitDefEqProofs (disch:=omega) only [go_sem,↓reduceIte,deep,TD.rows,immLL_rI,immLL_rB8,immLL_rS,immLL_rBo,immLL_rII,immLL_rIIt,h];exact rfl) ?_;simp -implicitDefEqProofs (disch:=omega) only [go_sem,↓reduceIte ,h]
  | true=>refine call_B (v_within _ _ _) (by simp -implicitDefEqProofs (disch:=omega) only [go_sem,↓reduceIte,deep,TD.rows,immLL_rI,immLL_rB8,immLL_rS,immLL_rBo,immLL_rII,immLL_rIIt,h];exact rfl) ?_;simp -implicitDefEqProofs (disch:=omega) only [go_sem,↓reduceIte ,h];refine call_B (v_gluesOk xs hn) (by simp -implicitDefEqProofs (disch:=omega) only [go_sem,↓reduceIte,deep,TD.rows,immLL_rI,immLL_rB8,immLL_rS,immLL_rBo,immLL_rII,immLL_rIIt];exact rfl) ?_;simp -implicitDefEqProofs (disch:=omega) only [go_sem,↓reduceIte]
theorem v_VDesign1 (p:Piece):Contract Try.prog NoG 63 [.agg (Piece.td.d false p)] (.v (.bool (!okPc p))):=by
  rw [Piece.td_d];refine law_impl_ValidDesign_1 ?_;unfold code_impl_ValidDesign_1 okPc;simp -implicitDefEqProofs (disch:=omega) only [go_sem,↓reduceIte];cases h:inR 0 5 p.Color with
  | false=>refine call_B (v_within _ _ _) (by simp -implicitDefEqProofs (disch:=omega) only [go_sem,↓reduceIte,deep,TD.rows,immLL_rI,immLL_rB8,immLL_rS,immLL_rBo,immLL_rII,immLL_rIIt,h];exact rfl) ?_;simp -implicitDefEqProofs (disch:=omega) only [go_sem,↓reduceIte ,h]
  | true=>refine call_B (v_within _ _ _) (by simp -implicitDefEqProofs (disch:=omega) only [go_sem,↓reduceIte,deep,TD.rows,immLL_rI,immLL_rB8,immLL_rS,immLL_rBo,immLL_rII,immLL_rIIt,h];exact rfl) ?_;simp -implicitDefEqProofs (disch:=omega) only [go_sem,↓reduceIte ,h];refine call_B (v_gluesOk [p.North,p.East,p.South,p.West] (by simp)) (by simp -implicitDefEqProofs (disch:=omega) only [go_sem,↓reduceIte,deep,TD.rows,immLL_rI,immLL_rB8,immLL_rS,immLL_rBo,immLL_rII,immLL_rIIt];exact rfl) ?_;simp -implicitDefEqProofs (disch:=omega) only [go_sem,↓reduceIte]
set_option maxHeartbeats 1000000 in
theorem v_ValidDesign (d:Design)(hd:dsnB d):Contract Try.prog NoG 27 [.agg (Design.td.d false d)] (.v (.bool (okDsn d))):=by
  have hb:=hd.b;have hl:=hd.l;have hp:=hd.p;rw [Design.td_d];refine law_impl_ValidDesign ?_;unfold code_impl_ValidDesign okDsn;simp -implicitDefEqProofs (disch:=omega) only [go_sem,↓reduceIte];cases h1:okEdge d.Bottom with
  | false=>refine call_B (v_edgeOk d.Bottom hb) (by simp -implicitDefEqProofs (disch:=omega) only [go_sem,↓reduceIte,deep,TD.rows,immLL_rI,immLL_rB8,immLL_rS,immLL_rBo,immLL_rII,immLL_rIIt,h1];exact rfl) ?_;simp -implicitDefEqProofs (disch:=omega) only [go_sem,↓reduceIte ,h1]
  | true =>
  cases h2:okEdge d.Left with
  | false=>refine call_B (v_edgeOk d.Bottom hb) (by simp -implicitDefEqProofs (disch:=omega) only [go_sem,↓reduceIte,deep,TD.rows,immLL_rI,immLL_rB8,immLL_rS,immLL_rBo,immLL_rII,immLL_rIIt,h1];exact rfl) ?_;simp -implicitDefEqProofs (disch:=omega) only [go_sem,↓reduceIte ,h1];refine call_B (v_edgeOk d.Left hl) (by simp -implicitDefEqProofs (disch:=omega) only [go_sem,↓reduceIte,deep,TD.rows,immLL_rI,immLL_rB8,immLL_rS,immLL_rBo,immLL_rII,immLL_rIIt,h2];exact rfl) ?_;simp -implicitDefEqProofs (disch:=omega) only [go_sem,↓reduceIte ,h2]
  | true =>
  by_cases h3:d.Pieces.length≤100
  · have h3':decide ((100:Int)<(d.Pieces.length:Int))=false:=(by rw [decide_eq_false_iff_not];omega);rw [decide_eq_true h3];cases h4:d.Pieces.all okPc with
    | false=>refine call_B (v_edgeOk d.Bottom hb) (by simp -implicitDefEqProofs (disch:=omega) only [go_sem,↓reduceIte,deep,TD.rows,immLL_rI,immLL_rB8,immLL_rS,immLL_rBo,immLL_rII,immLL_rIIt,h1];exact rfl) ?_;simp -implicitDefEqProofs (disch:=omega) only [go_sem,↓reduceIte ,h1];refine call_B (v_edgeOk d.Left hl) (by simp -implicitDefEqProofs (disch:=omega) only [go_sem,↓reduceIte,deep,TD.rows,immLL_rI,immLL_rB8,immLL_rS,immLL_rBo,immLL_rII,immLL_rIIt,h2,List.length_map,h3'];exact rfl) ?_;simp -implicitDefEqProofs (disch:=omega) only [go_sem,↓reduceIte ,h2,List.length_map,h3'];refine call_NB (v_ContainsFunc_Piece _ [] ⟨rfl,fun _=>rfl,fun _=>rfl,fun _=>rfl⟩ d.Pieces (fun p=>!okPc p) (fun x _=>v_VDesign1 x) (by omega)) (by simp -implicitDefEqProofs (disch:=omega) only [go_sem,↓reduceIte,deep,TD.rows,immLL_rI,immLL_rB8,immLL_rS,immLL_rBo,immLL_rII,immLL_rIIt,any_not,Bool.not_not,h4];exact rfl) ?_;simp -implicitDefEqProofs (disch:=omega) only [go_sem,↓reduceIte ,any_not,Bool.not_not,h4]
    | true=>refine call_B (v_edgeOk d.Bottom hb) (by simp -implicitDefEqProofs (disch:=omega) only [go_sem,↓reduceIte,deep,TD.rows,immLL_rI,immLL_rB8,immLL_rS,immLL_rBo,immLL_rII,immLL_rIIt,h1];exact rfl) ?_;simp -implicitDefEqProofs (disch:=omega) only [go_sem,↓reduceIte ,h1];refine call_B (v_edgeOk d.Left hl) (by simp -implicitDefEqProofs (disch:=omega) only [go_sem,↓reduceIte,deep,TD.rows,immLL_rI,immLL_rB8,immLL_rS,immLL_rBo,immLL_rII,immLL_rIIt,h2,List.length_map,h3'];exact rfl) ?_;simp -implicitDefEqProofs (disch:=omega) only [go_sem,↓reduceIte ,h2,List.length_map,h3'];refine call_NB (v_ContainsFunc_Piece _ [] ⟨rfl,fun _=>rfl,fun _=>rfl,fun _=>rfl⟩ d.Pieces (fun p=>!okPc p) (fun x _=>v_VDesign1 x) (by omega)) (by simp -implicitDefEqProofs (disch:=omega) only [go_sem,↓reduceIte,deep,TD.rows,immLL_rI,immLL_rB8,immLL_rS,immLL_rBo,immLL_rII,immLL_rIIt,any_not,Bool.not_not,h4];exact rfl) ?_;simp -implicitDefEqProofs (disch:=omega) only [go_sem,↓reduceIte ,any_not,Bool.not_not,h4];refine call_NB (v_byInlet d.Pieces hp) (by simp -implicitDefEqProofs (disch:=omega) only [go_sem,↓reduceIte,deep,TD.rows,immLL_rI,immLL_rB8,immLL_rS,immLL_rBo,immLL_rII,immLL_rIIt,List.length_map,inl_len];exact rfl) ?_;simp -implicitDefEqProofs (disch:=omega) only [go_sem,↓reduceIte ,List.length_map,inl_len]
  · have h3':decide ((100:Int)<(d.Pieces.length:Int))=true:=(by rw [decide_eq_true_eq];omega);rw [decide_eq_false h3];refine call_B (v_edgeOk d.Bottom hb) (by simp -implicitDefEqProofs (disch:=omega) only [go_sem,↓reduceIte,deep,TD.rows,immLL_rI,immLL_rB8,immLL_rS,immLL_rBo,immLL_rII,immLL_rIIt,h1];exact rfl) ?_;simp -implicitDefEqProofs (disch:=omega) only [go_sem,↓reduceIte ,h1];refine call_B (v_edgeOk d.Left hl) (by simp -implicitDefEqProofs (disch:=omega) only [go_sem,↓reduceIte,deep,TD.rows,immLL_rI,immLL_rB8,immLL_rS,immLL_rBo,immLL_rII,immLL_rIIt,h2,List.length_map,h3'];exact rfl) ?_;simp -implicitDefEqProofs (disch:=omega) only [go_sem,↓reduceIte ,h2,List.length_map,h3']
theorem range_no {p:Nat→Bool}{i n:Nat}(hi:i<n)(h:p i=false):(List.range n).all p=false:=by rw [List.all_eq_false];exact ⟨i,by simpa using hi,by simp [h]⟩
theorem all_no {α:Type}{xs:List α}{p:α→Bool}{j:Nat}(hj:j<xs.length)(h:p xs[j]=false):xs.all p=false:=by rw [List.all_eq_false];exact ⟨xs[j],List.getElem_mem hj,by simp [h]⟩
theorem take_nx {α:Type}{xs:List α}{i:Nat}(hi:i<xs.length):xs.take (i+1)=xs.take i++[xs[i]]:=List.take_succ_eq_append_getElem hi
def code_spec_l24Numbers:VCode:=(.seq (.ops [
  ⟨(some 2),none,(.asg (.const (.bool false)))⟩]) (.seq (.seq (.ops [
  ⟨(some 4),none,(.mv (.tmp 0))⟩,
  ⟨(some 5),none,(.len (.tmp 4))⟩,
  ⟨(some 6),none,(.callX 45 [(.tmp 5),(.const (.int .i64 1)),(.const (.int .i64 10))])⟩,
  ⟨(some 7),none,(.un .not (.tmp 6))⟩]) (.cond (.tmp 7) (.seq (.ops [
  ⟨(some 2),none,(.asg (.const (.bool false)))⟩]) .ret) .skip)) (.seq (.seq (.ops [
  ⟨(some 3),none,(.asg (.const (.int .i64 0)))⟩]) (.block 0 (.loop (mB 20 1048566) (.seq (.seq (.ops [
  ⟨(some 8),none,(.mv (.tmp 3))⟩,
  ⟨(some 9),none,(.mv (.tmp 0))⟩,
  ⟨(some 10),none,(.len (.tmp 9))⟩,
  ⟨(some 11),none,(.bin .lss (.tmp 8) (.tmp 10))⟩]) (.cond (.tmp 11) .skip (.exit 0))) (.seq (.block 1 (.seq (.ops [
  ⟨(some 14),none,(.mv (.tmp 0))⟩,
  ⟨(some 15),none,(.mv (.tmp 3))⟩,
  ⟨(some 16),none,(.ia 1 (.tmp 14) (.tmp 15))⟩,
  ⟨(some 17),none,(.load 1 false (.tmp 16))⟩,
  ⟨(some 18),none,(.callX 45 [(.tmp 17),(.const (.int .i64 0)),(.const (.int .i64 119))])⟩,
  ⟨(some 19),none,(.un .not (.tmp 18))⟩]) (.cond (.tmp 19) (.seq (.ops [
  ⟨(some 2),none,(.asg (.const (.bool false)))⟩]) .ret) .skip))) (.ops [
  ⟨(some 12),none,(.mv (.tmp 3))⟩,
  ⟨(some 13),none,(.bin .add (.tmp 12) (.const (.int .i64 1)))⟩,
  ⟨(some 3),none,(.asg (.tmp 13))⟩])))))) (.seq (.ops [
  ⟨(some 2),none,(.asg (.const (.bool true)))⟩]) .ret))))
theorem law_spec_l24Numbers {a0 d:D}(h:code_spec_l24Numbers.wp (CT Try.prog NoG) (endQ [(.t 2)] d) [a0,.undef,.undef,.undef,.undef,.undef,.undef,.undef,.undef,.undef,.undef,.undef,.undef,.undef,.undef,.undef,.undef,.undef,.undef,.undef]):Contract Try.prog NoG 81 [a0] d :=
  contract_of (pt:=0) noG Try.func81 (fun us W=>by kernel_rfl) (c:=Try.f81.body.getD .skip) (ms:=[(mB 20 1048566)]) (ms':=[]) (by kernel_rfl) (by kernel_rfl) (by kernel_rfl) h
def code_spec_l24Piece:VCode:=(.seq (.ops [
  ⟨(some 2),none,(.asg (.const (.bool false)))⟩]) (.seq (.ops [
  ⟨(some 3),none,(.mv (.tmp 0))⟩,
  ⟨(some 4),none,(.nilc (.tmp 3))⟩,
  ⟨(some 5),none,(.fa 0 (.tmp 4))⟩,
  ⟨(some 6),none,(.load 1 false (.tmp 5))⟩,
  ⟨(some 7),none,(.callX 45 [(.tmp 6),(.const (.int .i64 0)),(.const (.int .i64 5))])⟩,
  ⟨(some 8),none,(.mv (.tmp 7))⟩,
  ⟨(some 9),(some (8,true)),(.mv (.tmp 0))⟩,
  ⟨(some 10),(some (8,true)),(.nilc (.tmp 9))⟩,
  ⟨(some 11),(some (8,true)),(.fa 1 (.tmp 10))⟩,
  ⟨(some 12),(some (8,true)),(.load 1 false (.tmp 11))⟩,
  ⟨(some 13),(some (8,true)),(.callX 45 [(.tmp 12),(.const (.int .i64 0)),(.const (.int .i64 119))])⟩,
  ⟨(some 14),none,(.pick (.tmp 8) (.tmp 13) (.const (.bool false)))⟩,
  ⟨(some 15),none,(.mv (.tmp 14))⟩,
  ⟨(some 16),(some (15,true)),(.mv (.tmp 0))⟩,
  ⟨(some 17),(some (15,true)),(.nilc (.tmp 16))⟩,
  ⟨(some 18),(some (15,true)),(.fa 2 (.tmp 17))⟩,
  ⟨(some 19),(some (15,true)),(.load 1 false (.tmp 18))⟩,
  ⟨(some 20),(some (15,true)),(.callX 45 [(.tmp 19),(.const (.int .i64 0)),(.const (.int .i64 119))])⟩,
  ⟨(some 21),none,(.pick (.tmp 15) (.tmp 20) (.const (.bool false)))⟩,
  ⟨(some 22),none,(.mv (.tmp 21))⟩,
  ⟨(some 23),(some (22,true)),(.mv (.tmp 0))⟩,
  ⟨(some 24),(some (22,true)),(.nilc (.tmp 23))⟩,
  ⟨(some 25),(some (22,true)),(.fa 3 (.tmp 24))⟩,
  ⟨(some 26),(some (22,true)),(.load 1 false (.tmp 25))⟩,
  ⟨(some 27),(some (22,true)),(.callX 45 [(.tmp 26),(.const (.int .i64 0)),(.const (.int .i64 119))])⟩,
  ⟨(some 28),none,(.pick (.tmp 22) (.tmp 27) (.const (.bool false)))⟩,
  ⟨(some 29),none,(.mv (.tmp 28))⟩,
  ⟨(some 30),(some (29,true)),(.mv (.tmp 0))⟩,
  ⟨(some 31),(some (29,true)),(.nilc (.tmp 30))⟩,
  ⟨(some 32),(some (29,true)),(.fa 4 (.tmp 31))⟩,
  ⟨(some 33),(some (29,true)),(.load 1 false (.tmp 32))⟩,
  ⟨(some 34),(some (29,true)),(.callX 45 [(.tmp 33),(.const (.int .i64 0)),(.const (.int .i64 119))])⟩,
  ⟨(some 35),none,(.pick (.tmp 29) (.tmp 34) (.const (.bool false)))⟩,
  ⟨(some 2),none,(.asg (.tmp 35))⟩]) .ret))
theorem law_spec_l24Piece {a0 d:D}(h:code_spec_l24Piece.wp (CT Try.prog NoG) (endQ [(.t 2)] d) [a0,.undef,.undef,.undef,.undef,.undef,.undef,.undef,.undef,.undef,.undef,.undef,.undef,.undef,.undef,.undef,.undef,.undef,.undef,.undef,.undef,.undef,.undef,.undef,.undef,.undef,.undef,.undef,.undef,.undef,.undef,.undef,.undef,.undef,.undef,.undef]):Contract Try.prog NoG 82 [a0] d :=
  contract_of (pt:=0) noG Try.func82 (fun us W=>by kernel_rfl) (c:=Try.f82.body.getD .skip) (ms:=[]) (ms':=[]) (by kernel_rfl) (by kernel_rfl) (by kernel_rfl) h
def code_spec_l24Design:VCode:=(.seq (.ops [
  ⟨(some 2),none,(.asg (.const (.bool false)))⟩]) (.seq (.seq (.ops [
  ⟨(some 5),none,(.mv (.tmp 0))⟩,
  ⟨(some 6),none,(.nilc (.tmp 5))⟩,
  ⟨(some 7),none,(.fa 0 (.tmp 6))⟩,
  ⟨(some 8),none,(.load 1 false (.tmp 7))⟩,
  ⟨(some 9),none,(.callX 81 [(.tmp 8)])⟩,
  ⟨(some 10),none,(.un .not (.tmp 9))⟩,
  ⟨(some 11),none,(.mv (.tmp 10))⟩,
  ⟨(some 12),(some (11,false)),(.mv (.tmp 0))⟩,
  ⟨(some 13),(some (11,false)),(.nilc (.tmp 12))⟩,
  ⟨(some 14),(some (11,false)),(.fa 1 (.tmp 13))⟩,
  ⟨(some 15),(some (11,false)),(.load 1 false (.tmp 14))⟩,
  ⟨(some 16),(some (11,false)),(.callX 81 [(.tmp 15)])⟩,
  ⟨(some 17),(some (11,false)),(.un .not (.tmp 16))⟩,
  ⟨(some 18),none,(.pick (.tmp 11) (.const (.bool true)) (.tmp 17))⟩,
  ⟨(some 19),none,(.mv (.tmp 18))⟩,
  ⟨(some 20),(some (19,false)),(.mv (.tmp 0))⟩,
  ⟨(some 21),(some (19,false)),(.nilc (.tmp 20))⟩,
  ⟨(some 22),(some (19,false)),(.fa 2 (.tmp 21))⟩,
  ⟨(some 23),(some (19,false)),(.load 1 false (.tmp 22))⟩,
  ⟨(some 24),(some (19,false)),(.len (.tmp 23))⟩,
  ⟨(some 25),(some (19,false)),(.bin .gtr (.tmp 24) (.const (.int .i64 100)))⟩,
  ⟨(some 26),none,(.pick (.tmp 19) (.const (.bool true)) (.tmp 25))⟩]) (.cond (.tmp 26) (.seq (.ops [
  ⟨(some 2),none,(.asg (.const (.bool false)))⟩]) .ret) .skip)) (.seq (.seq (.ops [
  ⟨(some 3),none,(.asg (.const (.int .i64 0)))⟩]) (.block 0 (.loop (mB 85 38685626227668133590597622) (.seq (.seq (.ops [
  ⟨(some 27),none,(.mv (.tmp 3))⟩,
  ⟨(some 28),none,(.mv (.tmp 0))⟩,
  ⟨(some 29),none,(.nilc (.tmp 28))⟩,
  ⟨(some 30),none,(.fa 2 (.tmp 29))⟩,
  ⟨(some 31),none,(.load 1 false (.tmp 30))⟩,
  ⟨(some 32),none,(.len (.tmp 31))⟩,
  ⟨(some 33),none,(.bin .lss (.tmp 27) (.tmp 32))⟩]) (.cond (.tmp 33) .skip (.exit 0))) (.seq (.block 1 (.seq (.seq (.ops [
  ⟨(some 36),none,(.mv (.tmp 0))⟩,
  ⟨(some 37),none,(.nilc (.tmp 36))⟩,
  ⟨(some 38),none,(.fa 2 (.tmp 37))⟩,
  ⟨(some 39),none,(.load 1 false (.tmp 38))⟩,
  ⟨(some 40),none,(.mv (.tmp 3))⟩,
  ⟨(some 41),none,(.ia 5 (.tmp 39) (.tmp 40))⟩,
  ⟨(some 42),none,(.callX 82 [(.tmp 41)])⟩,
  ⟨(some 43),none,(.un .not (.tmp 42))⟩]) (.cond (.tmp 43) (.seq (.ops [
  ⟨(some 2),none,(.asg (.const (.bool false)))⟩]) .ret) .skip)) (.seq (.ops [
  ⟨(some 4),none,(.asg (.const (.int .i64 0)))⟩]) (.block 2 (.loop (mB 85 38685626227668133590597606) (.seq (.seq (.ops [
  ⟨(some 44),none,(.mv (.tmp 4))⟩,
  ⟨(some 45),none,(.mv (.tmp 3))⟩,
  ⟨(some 46),none,(.bin .lss (.tmp 44) (.tmp 45))⟩]) (.cond (.tmp 46) .skip (.exit 2))) (.seq (.block 3 (.seq (.draw (mB 83 9671406556354083444228096) [] [⟨0,(mB 83 9671406556354083444228096),[],⟨(some 49),none,(.mv (.tmp 0))⟩⟩,⟨1,(mB 83 9671406555791133490806784),[],⟨(some 50),none,(.nilc (.tmp 49))⟩⟩,⟨2,(mB 83 9671406554665233583964160),[],⟨(some 51),none,(.fa 2 (.tmp 50))⟩⟩,⟨3,(mB 83 9671406552413433770278912),[],⟨(some 52),none,(.load 1 false (.tmp 51))⟩⟩,⟨4,(mB 83 9671406556354083444228096),[],⟨(some 53),none,(.mv (.tmp 4))⟩⟩,⟨5,(mB 83 9671406538902634888167424),[],⟨(some 54),none,(.ia 5 (.tmp 52) (.tmp 53))⟩⟩,⟨6,(mB 83 9671406520888236378685440),[],⟨(some 55),none,(.fa 3 (.tmp 54))⟩⟩,⟨7,(mB 83 9671406484859439359721472),[],⟨(some 56),none,(.load 1 false (.tmp 55))⟩⟩,⟨8,(mB 83 9671406556354083444228096),[],⟨(some 57),none,(.mv (.tmp 0))⟩⟩,⟨9,(mB 83 9671406412238895368372224),[],⟨(some 58),none,(.nilc (.tmp 57))⟩⟩,⟨10,(mB 83 9671406124008519216660480),[],⟨(some 59),none,(.fa 2 (.tmp 58))⟩⟩,⟨11,(mB 83 9671405547547766913236992),[],⟨(some 60),none,(.load 1 false (.tmp 59))⟩⟩,⟨12,(mB 83 9671406556354083444228096),[],⟨(some 61),none,(.mv (.tmp 3))⟩⟩,⟨13,(mB 83 9671402088783253092696064),[],⟨(some 62),none,(.ia 5 (.tmp 60) (.tmp 61))⟩⟩,⟨14,(mB 83 9671397477097234665308160),[],⟨(some 63),none,(.fa 3 (.tmp 62))⟩⟩,⟨15,(mB 83 9671388253725197810532352),[],⟨(some 64),none,(.load 1 false (.tmp 63))⟩⟩,⟨16,(mB 83 9671369663428885978546176),[],⟨(some 65),none,(.bin .eql (.tmp 56) (.tmp 64))⟩⟩,⟨17,(mB 83 9671332769940738559442944),[],⟨(some 66),none,(.mv (.tmp 65))⟩⟩,⟨18,(mB 83 9671258982964443721236480),[],⟨(some 67),(some (66,true)),(.mv (.tmp 0))⟩⟩,⟨19,(mB 83 9671111409011854044823552),[],⟨(some 68),(some (66,true)),(.nilc (.tmp 67))⟩⟩,⟨20,(mB 83 9670816261106674691997696),[],⟨(some 69),(some (66,true)),(.fa 2 (.tmp 68))⟩⟩,⟨21,(mB 83 9670225965296315986345984),[],⟨(some 70),(some (66,true)),(.load 1 false (.tmp 69))⟩⟩,⟨22,(mB 83 9671258982964443721236480),[],⟨(some 71),(some (66,true)),(.mv (.tmp 4))⟩⟩,⟨23,(mB 83 9666684190434163752435712),[],⟨(some 72),(some (66,true)),(.ia 5 (.tmp 70) (.tmp 71))⟩⟩,⟨24,(mB 83 9661961823951294107222016),[],⟨(some 73),(some (66,true)),(.fa 4 (.tmp 72))⟩⟩,⟨25,(mB 83 9652517090985554816794624),[],⟨(some 74),(some (66,true)),(.load 1 false (.tmp 73))⟩⟩,⟨26,(mB 83 9671258982964443721236480),[],⟨(some 75),(some (66,true)),(.mv (.tmp 0))⟩⟩,⟨27,(mB 83 9633480051101486559526912),[],⟨(some 76),(some (66,true)),(.nilc (.tmp 75))⟩⟩,⟨28,(mB 83 9557922187375572236107776),[],⟨(some 77),(some (66,true)),(.fa 2 (.tmp 76))⟩⟩,⟨29,(mB 83 9406806459923743589269504),[],⟨(some 78),(some (66,true)),(.load 1 false (.tmp 77))⟩⟩,⟨30,(mB 83 9671258982964443721236480),[],⟨(some 79),(some (66,true)),(.mv (.tmp 3))⟩⟩,⟨31,(mB 83 8500112095212771708239872),[],⟨(some 80),(some (66,true)),(.ia 5 (.tmp 78) (.tmp 79))⟩⟩,⟨32,(mB 83 7291186275598142533533696),[],⟨(some 81),(some (66,true)),(.fa 4 (.tmp 80))⟩⟩,⟨33,(mB 83 4873334636368884184121344),[],⟨(some 82),(some (66,true)),(.load 1 false (.tmp 81))⟩⟩] [⟨(some 83),(some (66,true)),(.bin .eql (.tmp 74) (.tmp 82))⟩,⟨(some 84),none,(.pick (.tmp 66) (.tmp 83) (.const (.bool false)))⟩]) (.cond (.tmp 84) (.seq (.ops [
  ⟨(some 2),none,(.asg (.const (.bool false)))⟩]) .ret) .skip))) (.ops [
  ⟨(some 47),none,(.mv (.tmp 4))⟩,
  ⟨(some 48),none,(.bin .add (.tmp 47) (.const (.int .i64 1)))⟩,
  ⟨(some 4),none,(.asg (.tmp 48))⟩])))))))) (.ops [
  ⟨(some 34),none,(.mv (.tmp 3))⟩,
  ⟨(some 35),none,(.bin .add (.tmp 34) (.const (.int .i64 1)))⟩,
  ⟨(some 3),none,(.asg (.tmp 35))⟩])))))) (.seq (.ops [
  ⟨(some 2),none,(.asg (.const (.bool true)))⟩]) .ret))))
theorem law_spec_l24Design {a0 d:D}(h:code_spec_l24Design.wp (CT Try.prog NoG) (endQ [(.t 2)] d) [a0,.undef,.undef,.undef,.undef,.undef,.undef,.undef,.undef,.undef,.undef,.undef,.undef,.undef,.undef,.undef,.undef,.undef,.undef,.undef,.undef,.undef,.undef,.undef,.undef,.undef,.undef,.undef,.undef,.undef,.undef,.undef,.undef,.undef,.undef,.undef,.undef,.undef,.undef,.undef,.undef,.undef,.undef,.undef,.undef,.undef,.undef,.undef,.undef,.undef,.undef,.undef,.undef,.undef,.undef,.undef,.undef,.undef,.undef,.undef,.undef,.undef,.undef,.undef,.undef,.undef,.undef,.undef,.undef,.undef,.undef,.undef,.undef,.undef,.undef,.undef,.undef,.undef,.undef,.undef,.undef,.undef,.undef,.undef,.undef]):Contract Try.prog NoG 57 [a0] d :=
  contract_of (pt:=0) noG Try.func57 (fun us W=>by kernel_rfl) (c:=Try.f57.body.getD .skip) (ms:=[(mB 85 38685626227668133590597622),(mB 85 38685626227668133590597606)]) (ms':=[]) (by kernel_rfl) (by kernel_rfl) (by kernel_rfl) h
theorem v_l24Numbers (xs:List Int)(hn:xs.length≤1048576):Contract Try.prog NoG 81 [.sl false 1 (xs.map rI)] (.v (.bool (okEdge xs))):=by
  refine law_spec_l24Numbers ?_;unfold code_spec_l24Numbers;simp -implicitDefEqProofs (disch:=omega) only [go_sem,↓reduceIte ,List.length_map];cases h:inR 1 10 xs.length with
  | false=>have hno:okEdge xs=false:=(by unfold okEdge;rw [h];rfl);refine call_B (v_l00In _ _ _) (by simp -implicitDefEqProofs (disch:=omega) only [go_sem,↓reduceIte,deep,TD.rows,immLL_rI,immLL_rB8,immLL_rS,immLL_rBo,immLL_rII,immLL_rIIt,h,hno];exact rfl) ?_;simp -implicitDefEqProofs (disch:=omega) only [go_sem,↓reduceIte ,h,hno]
  | true =>
    have hyes:okEdge xs=xs.all (inR 0 119):=(by unfold okEdge;rw [h];rfl);refine call_B (v_l00In _ _ _) (by simp -implicitDefEqProofs (disch:=omega) only [go_sem,↓reduceIte,deep,TD.rows,immLL_rI,immLL_rB8,immLL_rS,immLL_rBo,immLL_rII,immLL_rIIt,h];exact rfl) ?_;simp -implicitDefEqProofs (disch:=omega) only [go_sem,↓reduceIte ,h];refine loop_ov (by simp -implicitDefEqProofs (disch:=omega) only [go_sem,↓reduceIte];exact rfl) (fun i:Nat=>[(3,.v (.int .i64 (i:Nat)))]) (fun _=>by simp only [ovr_nil,ovr_cons,List.set_cons_zero,List.set_cons_succ];exact rfl) (fun i:Nat=>i≤xs.length∧(xs.take i).all (inR 0 119)=true) (fun i:Nat=>xs.length-i) (0) (nleA) (?_) ?_
    · exact ⟨Nat.zero_le _,rfl⟩
    rintro i ⟨hi,hok⟩;simp -implicitDefEqProofs (disch:=omega) only [go_sem,↓reduceIte ,List.length_map,Int.toNat_natCast,Int.ofNat_lt,Int.natCast_nonneg,List.getElem?_map,Option.map_some];refine cond_split ?_ ?_<;>intro hlt
    · have hlt:i<xs.length:=(by simpa using hlt);have e1:=List.getElem?_eq_getElem hlt;cases hx:inR 0 119 xs[i] with
      | false=>have hno:okEdge xs=false:=(by rw [hyes];exact all_no hlt hx);simp -implicitDefEqProofs (disch:=omega) only [go_sem,↓reduceIte ,List.length_map,Int.toNat_natCast,Int.ofNat_lt,Int.natCast_nonneg,List.getElem?_map,Option.map_some,hlt,e1,rI];refine call_B (v_l00In _ _ _) (by simp -implicitDefEqProofs (disch:=omega) only [go_sem,↓reduceIte,deep,TD.rows,immLL_rI,immLL_rB8,immLL_rS,immLL_rBo,immLL_rII,immLL_rIIt,hx,hno];exact rfl) ?_;simp -implicitDefEqProofs (disch:=omega) only [go_sem,↓reduceIte ,hx,hno]
      | true=>have hnx:(xs.take (i+1)).all (inR 0 119)=true:=(by rw [take_nx hlt,List.all_append,hok,List.all_cons,hx];rfl);simp -implicitDefEqProofs (disch:=omega) only [go_sem,↓reduceIte ,List.length_map,Int.toNat_natCast,Int.ofNat_lt,Int.natCast_nonneg,List.getElem?_map,Option.map_some,hlt,e1,rI];refine call_B (v_l00In _ _ _) (by simp -implicitDefEqProofs (disch:=omega) only [go_sem,↓reduceIte,deep,TD.rows,immLL_rI,immLL_rB8,immLL_rS,immLL_rBo,immLL_rII,immLL_rIIt,hx,wrN];exact rfl) ?_;simp -implicitDefEqProofs (disch:=omega) only [go_sem,↓reduceIte ,hx,wrN];exact ⟨i+1,by omega,⟨hlt,hnx⟩,nleA⟩
    · obtain rfl:i=xs.length:=(by have:¬ i<xs.length:=(by simpa using hlt);omega);rw [List.take_length] at hok;rw [hyes,hok];simp -implicitDefEqProofs (disch:=omega) only [go_sem,↓reduceIte]
theorem v_l24Piece (p:Piece):Contract Try.prog NoG 82 [.iptr (Piece.td.d false p) 0] (.v (.bool (okPc p))):=by
  rw [Piece.td_d];refine law_spec_l24Piece ?_;unfold code_spec_l24Piece okPc;simp -implicitDefEqProofs (disch:=omega) only [go_sem,↓reduceIte];cases h1:inR 0 5 p.Color with
  | false=>refine call_B (v_l00In _ _ _) (by simp -implicitDefEqProofs (disch:=omega) only [go_sem,↓reduceIte,deep,TD.rows,immLL_rI,immLL_rB8,immLL_rS,immLL_rBo,immLL_rII,immLL_rIIt,h1];exact rfl) ?_;simp -implicitDefEqProofs (disch:=omega) only [go_sem,↓reduceIte ,h1]
  | true =>
  refine call_B (v_l00In _ _ _) (by simp -implicitDefEqProofs (disch:=omega) only [go_sem,↓reduceIte,deep,TD.rows,immLL_rI,immLL_rB8,immLL_rS,immLL_rBo,immLL_rII,immLL_rIIt,h1];exact rfl) ?_;simp -implicitDefEqProofs (disch:=omega) only [go_sem,↓reduceIte ,h1];cases h2:inR 0 119 p.North with
  | false=>refine call_B (v_l00In _ _ _) (by simp -implicitDefEqProofs (disch:=omega) only [go_sem,↓reduceIte,deep,TD.rows,immLL_rI,immLL_rB8,immLL_rS,immLL_rBo,immLL_rII,immLL_rIIt,h2];exact rfl) ?_;simp -implicitDefEqProofs (disch:=omega) only [go_sem,↓reduceIte ,h2]
  | true =>
  refine call_B (v_l00In _ _ _) (by simp -implicitDefEqProofs (disch:=omega) only [go_sem,↓reduceIte,deep,TD.rows,immLL_rI,immLL_rB8,immLL_rS,immLL_rBo,immLL_rII,immLL_rIIt,h2];exact rfl) ?_;simp -implicitDefEqProofs (disch:=omega) only [go_sem,↓reduceIte ,h2];cases h3:inR 0 119 p.East with
  | false=>refine call_B (v_l00In _ _ _) (by simp -implicitDefEqProofs (disch:=omega) only [go_sem,↓reduceIte,deep,TD.rows,immLL_rI,immLL_rB8,immLL_rS,immLL_rBo,immLL_rII,immLL_rIIt,h3];exact rfl) ?_;simp -implicitDefEqProofs (disch:=omega) only [go_sem,↓reduceIte ,h3]
  | true =>
  refine call_B (v_l00In _ _ _) (by simp -implicitDefEqProofs (disch:=omega) only [go_sem,↓reduceIte,deep,TD.rows,immLL_rI,immLL_rB8,immLL_rS,immLL_rBo,immLL_rII,immLL_rIIt,h3];exact rfl) ?_;simp -implicitDefEqProofs (disch:=omega) only [go_sem,↓reduceIte ,h3];cases h4:inR 0 119 p.South with
  | false=>refine call_B (v_l00In _ _ _) (by simp -implicitDefEqProofs (disch:=omega) only [go_sem,↓reduceIte,deep,TD.rows,immLL_rI,immLL_rB8,immLL_rS,immLL_rBo,immLL_rII,immLL_rIIt,h4];exact rfl) ?_;simp -implicitDefEqProofs (disch:=omega) only [go_sem,↓reduceIte ,h4]
  | true =>
  refine call_B (v_l00In _ _ _) (by simp -implicitDefEqProofs (disch:=omega) only [go_sem,↓reduceIte,deep,TD.rows,immLL_rI,immLL_rB8,immLL_rS,immLL_rBo,immLL_rII,immLL_rIIt,h4];exact rfl) ?_;simp -implicitDefEqProofs (disch:=omega) only [go_sem,↓reduceIte ,h4];refine call_B (v_l00In _ _ _) (by simp -implicitDefEqProofs (disch:=omega) only [go_sem,↓reduceIte,deep,TD.rows,immLL_rI,immLL_rB8,immLL_rS,immLL_rBo,immLL_rII,immLL_rIIt];exact rfl) ?_;simp -implicitDefEqProofs (disch:=omega) only [go_sem,↓reduceIte]
theorem nd_next {ps:List Piece}{i:Nat}(hi:i<ps.length):((ps.take (i+1)).map kkP).Nodup↔((ps.take i).map kkP).Nodup∧∀ k (hk:k<i),kkP (ps[k]'(by omega))≠kkP ps[i]:=by
  rw [take_nx hi,List.map_append,List.nodup_append];constructor
  · rintro ⟨h1,_,h2⟩;exact ⟨h1,fun k hk=>h2 _ (List.mem_map.2 ⟨ps[k],List.mem_take_iff_getElem.2 ⟨k,by omega,rfl⟩,rfl⟩) _ (by simp)⟩
  · rintro ⟨h1,h2⟩;refine ⟨h1,by simp,fun a ha b hb=>?_⟩;simp only [List.map_cons,List.map_nil,List.mem_singleton] at hb;subst hb;obtain ⟨x,hx,rfl⟩:=List.mem_map.1 ha;obtain ⟨k,hk,rfl⟩:=List.mem_take_iff_getElem.1 hx;exact h2 k (by omega)
theorem nd_no {ps:List Piece}{i k:Nat}(hi:i<ps.length)(hk:k<i)(h:kkP (ps[k]'(by omega))=kkP ps[i]):¬ (ps.map kkP).Nodup:=fun hn=>by have:=List.pairwise_iff_getElem.1 hn k i (by rw [List.length_map];omega) (by rw [List.length_map];exact hi) hk;simp only [List.getElem_map] at this;exact this h
set_option maxHeartbeats 1000000 in
theorem v_l24Design (d:Design) (hd:dsnB d):Contract Try.prog NoG 57 [.iptr (Design.td.d false d) 0] (.v (.bool (okDsn d))):=by
  have hb:=hd.b;have hl:=hd.l;have hp:=hd.p;rw [Design.td_d];refine law_spec_l24Design ?_;unfold code_spec_l24Design;simp -implicitDefEqProofs (disch:=omega) only [go_sem,↓reduceIte];cases h1:okEdge d.Bottom with
  | false=>have hno:okDsn d=false:=(by unfold okDsn;rw [h1];rfl);refine call_B (v_l24Numbers d.Bottom hb) (by simp -implicitDefEqProofs (disch:=omega) only [go_sem,↓reduceIte,deep,TD.rows,immLL_rI,immLL_rB8,immLL_rS,immLL_rBo,immLL_rII,immLL_rIIt,h1,hno];exact rfl) ?_;simp -implicitDefEqProofs (disch:=omega) only [go_sem,↓reduceIte ,h1,hno]
  | true =>
  refine call_B (v_l24Numbers d.Bottom hb) (by simp -implicitDefEqProofs (disch:=omega) only [go_sem,↓reduceIte,deep,TD.rows,immLL_rI,immLL_rB8,immLL_rS,immLL_rBo,immLL_rII,immLL_rIIt,h1];exact rfl) ?_;simp -implicitDefEqProofs (disch:=omega) only [go_sem,↓reduceIte ,h1];cases h2:okEdge d.Left with
  | false=>have hno:okDsn d=false:=(by unfold okDsn;rw [h1,h2];rfl);refine call_B (v_l24Numbers d.Left hl) (by simp -implicitDefEqProofs (disch:=omega) only [go_sem,↓reduceIte,deep,TD.rows,immLL_rI,immLL_rB8,immLL_rS,immLL_rBo,immLL_rII,immLL_rIIt,h2,hno];exact rfl) ?_;simp -implicitDefEqProofs (disch:=omega) only [go_sem,↓reduceIte ,h2,hno]
  | true =>
  refine call_B (v_l24Numbers d.Left hl) (by simp -implicitDefEqProofs (disch:=omega) only [go_sem,↓reduceIte,deep,TD.rows,immLL_rI,immLL_rB8,immLL_rS,immLL_rBo,immLL_rII,immLL_rIIt,h2,List.length_map];exact rfl) ?_;simp -implicitDefEqProofs (disch:=omega) only [go_sem,↓reduceIte ,h2,List.length_map];refine cond_split ?_ ?_<;>intro h3
  · have h3:¬ d.Pieces.length≤100:=(by rw [decide_eq_true_eq] at h3;omega);have hno:okDsn d=false:=(by unfold okDsn;rw [decide_eq_false h3,Bool.false_and,Bool.and_false,Bool.and_false]);simp -implicitDefEqProofs (disch:=omega) only [go_sem,↓reduceIte ,hno]
  · have h3 : d.Pieces.length≤100:=(by rw [decide_eq_false_iff_not] at h3;omega);have hyes:okDsn d=(d.Pieces.all okPc&&decide ((d.Pieces.map kkP).Nodup)):=(by unfold okDsn;rw [h1,h2,decide_eq_true h3];rfl);simp -implicitDefEqProofs (disch:=omega) only [go_sem,↓reduceIte];refine loop_ov (by simp -implicitDefEqProofs (disch:=omega) only [go_sem,↓reduceIte];exact rfl) (fun i:Nat=>[(3,.v (.int .i64 (i:Nat)))]) (fun _=>by simp only [ovr_nil,ovr_cons,List.set_cons_zero,List.set_cons_succ];exact rfl) (fun i:Nat=>i≤d.Pieces.length∧(d.Pieces.take i).all okPc=true∧((d.Pieces.take i).map kkP).Nodup) (fun i:Nat=>d.Pieces.length-i) (0) (nleA) (?_) ?_
    · exact ⟨Nat.zero_le _,rfl,by simp⟩
    rintro i ⟨hi,hok,hnd⟩;simp -implicitDefEqProofs (disch:=omega) only [go_sem,↓reduceIte ,List.length_map,Int.toNat_natCast,Int.ofNat_lt,Int.natCast_nonneg,List.getElem?_map,Option.map_some];refine cond_split ?_ ?_<;>intro hlt
    · have hlt:i<d.Pieces.length:=(by simpa using hlt);have e1:=List.getElem?_eq_getElem hlt;cases hx:okPc d.Pieces[i] with
      | false=>have hno:okDsn d=false:=(by rw [hyes,all_no hlt hx];rfl);simp -implicitDefEqProofs (disch:=omega) only [go_sem,↓reduceIte ,List.length_map,Int.toNat_natCast,Int.ofNat_lt,Int.natCast_nonneg,List.getElem?_map,Option.map_some,hlt,e1];refine call_B (v_l24Piece d.Pieces[i]) (by simp -implicitDefEqProofs (disch:=omega) only [go_sem,↓reduceIte,deep,TD.rows,immLL_rI,immLL_rB8,immLL_rS,immLL_rBo,immLL_rII,immLL_rIIt,hx,hno];exact rfl) ?_;simp -implicitDefEqProofs (disch:=omega) only [go_sem,↓reduceIte ,hx,hno]
      | true =>
        have hnx:(d.Pieces.take (i+1)).all okPc=true:=(by rw [take_nx hlt,List.all_append,hok,List.all_cons,hx];rfl);simp -implicitDefEqProofs (disch:=omega) only [go_sem,↓reduceIte ,List.length_map,Int.toNat_natCast,Int.ofNat_lt,Int.natCast_nonneg,List.getElem?_map,Option.map_some,hlt,e1];refine call_B (v_l24Piece d.Pieces[i]) (by simp -implicitDefEqProofs (disch:=omega) only [go_sem,↓reduceIte,deep,TD.rows,immLL_rI,immLL_rB8,immLL_rS,immLL_rBo,immLL_rII,immLL_rIIt,hx];exact rfl) ?_;simp -implicitDefEqProofs (disch:=omega) only [go_sem,↓reduceIte ,hx];refine loop_ov (by simp -implicitDefEqProofs (disch:=omega) only [go_sem,↓reduceIte];exact rfl) (fun k:Nat=>[(4,.v (.int .i64 (k:Nat)))]) (fun _=>by simp only [ovr_nil,ovr_cons,List.set_cons_zero,List.set_cons_succ];exact rfl) (fun k:Nat=>k≤i∧∀ j (hj:j<k) (hj':j<d.Pieces.length),kkP d.Pieces[j]≠kkP d.Pieces[i]) (fun k:Nat=>i-k) (0) (nleA) (?_) ?_
        · exact ⟨Nat.zero_le _,fun j hj=>absurd hj (by omega)⟩
        rintro k ⟨hk,hall⟩;simp -implicitDefEqProofs (disch:=omega) only [go_sem,↓reduceIte ,List.length_map,Int.toNat_natCast,Int.ofNat_lt,Int.natCast_nonneg,List.getElem?_map,Option.map_some];refine cond_split ?_ ?_<;>intro hlk
        · have hlk:k<i:=(by simpa using hlk);have hkp:k<d.Pieces.length:=(by omega);have e2:=List.getElem?_eq_getElem hkp;cases q1:decide (d.Pieces[k].South=d.Pieces[i].South) with
          | false =>
            have hne:∀ j (hj:j<k+1) (hj':j<d.Pieces.length),kkP d.Pieces[j]≠kkP d.Pieces[i]:=by
              intro j hj hj' e;rcases Nat.lt_succ_iff_lt_or_eq.1 hj with h | rfl
              · exact hall j h hj' e
              · have:=(Prod.mk.inj e).1;rw [decide_eq_false_iff_not] at q1;exact q1 this
            simp -implicitDefEqProofs (disch:=omega) only [go_sem,↓reduceIte ,List.length_map,Int.toNat_natCast,Int.ofNat_lt,Int.natCast_nonneg,List.getElem?_map,Option.map_some,hlt,e1,hkp,e2,Piece.td_d,q1,wrN];exact ⟨k+1,by omega,⟨hlk,hne⟩,nleA⟩
          | true =>
            cases q2:decide (d.Pieces[k].West=d.Pieces[i].West) with
            | false =>
              have hne:∀ j (hj:j<k+1) (hj':j<d.Pieces.length),kkP d.Pieces[j]≠kkP d.Pieces[i]:=by
                intro j hj hj' e;rcases Nat.lt_succ_iff_lt_or_eq.1 hj with h | rfl
                · exact hall j h hj' e
                · have:=(Prod.mk.inj e).2;rw [decide_eq_false_iff_not] at q2;exact q2 this
              simp -implicitDefEqProofs (disch:=omega) only [go_sem,↓reduceIte ,List.length_map,Int.toNat_natCast,Int.ofNat_lt,Int.natCast_nonneg,List.getElem?_map,Option.map_some,hlt,e1,hkp,e2,Piece.td_d,q1,q2,wrN];exact ⟨k+1,by omega,⟨hlk,hne⟩,nleA⟩
            | true =>
              rw [decide_eq_true_eq] at q1 q2;have hno:okDsn d=false:=by rw [hyes,decide_eq_false (nd_no hlt hlk (by unfold kkP;rw [q1,q2])),Bool.and_false]
              have q1':=decide_eq_true q1;have q2':=decide_eq_true q2;simp -implicitDefEqProofs (disch:=omega) only [go_sem,↓reduceIte ,List.length_map,Int.toNat_natCast,Int.ofNat_lt,Int.natCast_nonneg,List.getElem?_map,Option.map_some,hlt,e1,hkp,e2,Piece.td_d,q1',q2',hno]
        · have hki:k=i:=(by have:¬ k<i:=(by simpa using hlk);omega);subst hki;have hnn:=(nd_next hlt).2 ⟨hnd,fun j hj=>hall j hj (by omega)⟩;simp -implicitDefEqProofs (disch:=omega) only [go_sem,↓reduceIte ,wrN];exact ⟨k+1,by omega,⟨hlt,hnx,hnn⟩,nleA⟩
    · obtain rfl:i=d.Pieces.length:=(by have:¬ i<d.Pieces.length:=(by simpa using hlt);omega);rw [List.take_length] at hok hnd;have hy:okDsn d=true:=(by rw [hyes,hok,decide_eq_true hnd];rfl);simp -implicitDefEqProofs (disch:=omega) only [go_sem,↓reduceIte ,hy]
def code_spec_l24Fit:VCode:=(.seq (.ops [
  ⟨(some 6),none,(.asg (.const (.int .i64 0)))⟩]) (.seq (.seq (.ops [
  ⟨(some 7),none,(.asg (.const (.int .i64 0)))⟩]) (.block 0 (.loop (mB 40 1099511627640) (.seq (.seq (.ops [
  ⟨(some 8),none,(.mv (.tmp 7))⟩,
  ⟨(some 9),none,(.mv (.tmp 0))⟩,
  ⟨(some 10),none,(.nilc (.tmp 9))⟩,
  ⟨(some 11),none,(.fa 2 (.tmp 10))⟩,
  ⟨(some 12),none,(.load 1 false (.tmp 11))⟩,
  ⟨(some 13),none,(.len (.tmp 12))⟩,
  ⟨(some 14),none,(.bin .lss (.tmp 8) (.tmp 13))⟩]) (.cond (.tmp 14) .skip (.exit 0))) (.seq (.block 1 (.seq (.ops [
  ⟨(some 17),none,(.mv (.tmp 0))⟩,
  ⟨(some 18),none,(.nilc (.tmp 17))⟩,
  ⟨(some 19),none,(.fa 2 (.tmp 18))⟩,
  ⟨(some 20),none,(.load 1 false (.tmp 19))⟩,
  ⟨(some 21),none,(.mv (.tmp 7))⟩,
  ⟨(some 22),none,(.ia 5 (.tmp 20) (.tmp 21))⟩,
  ⟨(some 23),none,(.fa 3 (.tmp 22))⟩,
  ⟨(some 24),none,(.load 1 false (.tmp 23))⟩,
  ⟨(some 25),none,(.mv (.tmp 1))⟩,
  ⟨(some 26),none,(.bin .eql (.tmp 24) (.tmp 25))⟩,
  ⟨(some 27),none,(.mv (.tmp 26))⟩,
  ⟨(some 28),(some (27,true)),(.mv (.tmp 0))⟩,
  ⟨(some 29),(some (27,true)),(.nilc (.tmp 28))⟩,
  ⟨(some 30),(some (27,true)),(.fa 2 (.tmp 29))⟩,
  ⟨(some 31),(some (27,true)),(.load 1 false (.tmp 30))⟩,
  ⟨(some 32),(some (27,true)),(.mv (.tmp 7))⟩,
  ⟨(some 33),(some (27,true)),(.ia 5 (.tmp 31) (.tmp 32))⟩,
  ⟨(some 34),(some (27,true)),(.fa 4 (.tmp 33))⟩,
  ⟨(some 35),(some (27,true)),(.load 1 false (.tmp 34))⟩,
  ⟨(some 36),(some (27,true)),(.mv (.tmp 2))⟩,
  ⟨(some 37),(some (27,true)),(.bin .eql (.tmp 35) (.tmp 36))⟩,
  ⟨(some 38),none,(.pick (.tmp 27) (.tmp 37) (.const (.bool false)))⟩]) (.cond (.tmp 38) (.seq (.ops [
  ⟨(some 39),none,(.mv (.tmp 7))⟩,
  ⟨(some 6),none,(.asg (.tmp 39))⟩]) .ret) .skip))) (.ops [
  ⟨(some 15),none,(.mv (.tmp 7))⟩,
  ⟨(some 16),none,(.bin .add (.tmp 15) (.const (.int .i64 1)))⟩,
  ⟨(some 7),none,(.asg (.tmp 16))⟩])))))) (.seq (.ops [
  ⟨(some 6),none,(.asg (.const (.int .i64 (-1))))⟩]) .ret)))
theorem law_spec_l24Fit {a0 a1 a2 d:D}(h:code_spec_l24Fit.wp (CT Try.prog NoG) (endQ [(.t 6)] d) [a0,a1,a2,.undef,.undef,.undef,.undef,.undef,.undef,.undef,.undef,.undef,.undef,.undef,.undef,.undef,.undef,.undef,.undef,.undef,.undef,.undef,.undef,.undef,.undef,.undef,.undef,.undef,.undef,.undef,.undef,.undef,.undef,.undef,.undef,.undef,.undef,.undef,.undef,.undef]):Contract Try.prog NoG 84 [a0,a1,a2] d :=
  contract_of (pt:=0) noG Try.func84 (fun us W=>by kernel_rfl) (c:=Try.f84.body.getD .skip) (ms:=[(mB 40 1099511627640)]) (ms':=[]) (by kernel_rfl) (by kernel_rfl) (by kernel_rfl) h
theorem v_l24Fit (d:Design)(s w:Int)(hp:d.Pieces.length≤1048576):Contract Try.prog NoG 84 [.iptr (Design.td.d false d) 0,.v (.int .i64 s),.v (.int .i64 w)] (.v (.int .i64 (fitP d.Pieces s w))):=by
  rw [Design.td_d];refine law_spec_l24Fit ?_;unfold code_spec_l24Fit;simp -implicitDefEqProofs (disch:=omega) only [go_sem,↓reduceIte];refine loop_ov (by simp -implicitDefEqProofs (disch:=omega) only [go_sem,↓reduceIte];exact rfl) (fun i:Nat=>[(7,.v (.int .i64 (i:Nat)))]) (fun _=>by simp only [ovr_nil,ovr_cons,List.set_cons_zero,List.set_cons_succ];exact rfl) (fun i:Nat=>i≤d.Pieces.length∧∀ j (hj:j<d.Pieces.length),j<i→isInl s w d.Pieces[j]=false) (fun i:Nat=>d.Pieces.length-i) (0) (nleA) (?_) ?_
  · exact ⟨Nat.zero_le _,fun j _ hj=>absurd hj (by omega)⟩
  rintro i ⟨hi,hall⟩;simp -implicitDefEqProofs (disch:=omega) only [go_sem,↓reduceIte ,List.length_map,Int.toNat_natCast,Int.ofNat_lt,Int.natCast_nonneg,List.getElem?_map,Option.map_some];refine cond_split ?_ ?_<;>intro hlt
  · have hlt:i<d.Pieces.length:=(by simpa using hlt);have e1:=List.getElem?_eq_getElem hlt;have hstep:isInl s w d.Pieces[i]=false→∀ j (hj:j<d.Pieces.length),j<i+1→isInl s w d.Pieces[j]=false:=fun h j hj hji=>by
      rcases Nat.lt_succ_iff_lt_or_eq.1 hji with h1 | rfl
      · exact hall j hj h1
      · exact h
    cases q1:decide (d.Pieces[i].South=s) with
    | false=>have hn:=hstep (by unfold isInl;rw [q1];rfl);simp -implicitDefEqProofs (disch:=omega) only [go_sem,↓reduceIte ,List.length_map,Int.toNat_natCast,Int.ofNat_lt,Int.natCast_nonneg,List.getElem?_map,Option.map_some,hlt,e1,Piece.td_d,q1,wrN];exact ⟨i+1,by omega,⟨hlt,hn⟩,nleA⟩
    | true =>
      cases q2:decide (d.Pieces[i].West=w) with
      | false=>have hn:=hstep (by unfold isInl;rw [q1,q2];rfl);simp -implicitDefEqProofs (disch:=omega) only [go_sem,↓reduceIte ,List.length_map,Int.toNat_natCast,Int.ofNat_lt,Int.natCast_nonneg,List.getElem?_map,Option.map_some,hlt,e1,Piece.td_d,q1,q2,wrN];exact ⟨i+1,by omega,⟨hlt,hn⟩,nleA⟩
      | true=>have hr:fitP d.Pieces s w=(i:Int):=vIdx_hit _ _ i hlt hall (by unfold isInl;rw [q1,q2];rfl);simp -implicitDefEqProofs (disch:=omega) only [go_sem,↓reduceIte ,List.length_map,Int.toNat_natCast,Int.ofNat_lt,Int.natCast_nonneg,List.getElem?_map,Option.map_some,hlt,e1,Piece.td_d,q1,q2,hr]
  · obtain rfl:i=d.Pieces.length:=(by have:¬ i<d.Pieces.length:=(by simpa using hlt);omega);have hr:fitP d.Pieces s w = -1:=vIdx_miss _ _ (fun j hj=>hall j hj hj);simp -implicitDefEqProofs (disch:=omega) only [go_sem,↓reduceIte ,hr]
theorem runX_hit {ps:List Piece}{st0 st:RunS}{x k:Nat}(hst:runX ps st0 x=st)(hk:k<ps.length)(hf:fitP ps (st.bel.getD x 0) st.west=(k:Int)):runX ps st0 (x+1)=⟨st.out++[(k:Int)],st.bel.set x ps[k].North,ps[k].East⟩:=by rw [runX_next,hst];unfold runC;rw [hf,Int.toNat_natCast,List.getElem?_eq_getElem hk]
theorem runOK_hit {ps:List Piece}{st0 st:RunS}{x k:Nat}(hst:runX ps st0 x=st)(hf:fitP ps (st.bel.getD x 0) st.west=(k:Int)):runOK ps (runX ps st0 x) x=true:=by rw [hst];unfold runOK;rw [hf,decide_eq_true_eq];omega
theorem runOK_miss {ps:List Piece}{st0 st:RunS}{x:Nat}(hst:runX ps st0 x=st)(hf:fitP ps (st.bel.getD x 0) st.west = -1):runOK ps (runX ps st0 x) x=false:=by rw [hst];unfold runOK;rw [hf];rfl
theorem runX_out' {d:Design}(h:okDsn d=true){y x:Nat}(hx:x≤d.Bottom.length):(runX d.Pieces (runRow d y) x).out.length≤110:=by have h1:=runX_out d.Pieces (runRow d y) x;have h2:(runRow d y).out.length≤100:=runYi_out h;have:=(dsn_parts h).1;omega
theorem runRow_west {d:Design}{y:Nat}(hy:y<d.Left.length):(runRow d y).west=d.Left[y]:=by unfold runRow;rw [List.getD_eq_getElem?_getD,List.getElem?_eq_getElem hy];rfl
theorem getD_at {xs:List Int}{k:Nat}(h:k<xs.length):xs[k]?=some (xs.getD k 0):=by rw [List.getD_eq_getElem?_getD,List.getElem?_eq_getElem h];rfl
def code_spec_l24Run:VCode:=(.seq (.ops [
  ⟨(some 2),none,(.asg (.const (.slice none 0 0)))⟩,
  ⟨(some 3),none,(.asg (.const (.bool false)))⟩]) (.seq (.ops [
  ⟨(some 10),none,(.bsl 1 [])⟩,
  ⟨(some 4),none,(.asg (.tmp 10))⟩]) (.seq (.ops [
  ⟨(some 11),none,(.mv (.tmp 0))⟩,
  ⟨(some 12),none,(.nilc (.tmp 11))⟩,
  ⟨(some 13),none,(.fa 0 (.tmp 12))⟩,
  ⟨(some 14),none,(.load 1 false (.tmp 13))⟩,
  ⟨(some 15),none,(.callX 94 [(.tmp 14)])⟩,
  ⟨(some 5),none,(.asg (.tmp 15))⟩]) (.seq (.seq (.ops [
  ⟨(some 6),none,(.asg (.const (.int .i64 0)))⟩]) (.block 0 (.loop (mB 71 2361181411847473922958) (.seq (.seq (.ops [
  ⟨(some 16),none,(.mv (.tmp 6))⟩,
  ⟨(some 17),none,(.mv (.tmp 0))⟩,
  ⟨(some 18),none,(.nilc (.tmp 17))⟩,
  ⟨(some 19),none,(.fa 1 (.tmp 18))⟩,
  ⟨(some 20),none,(.load 1 false (.tmp 19))⟩,
  ⟨(some 21),none,(.len (.tmp 20))⟩,
  ⟨(some 22),none,(.bin .lss (.tmp 16) (.tmp 21))⟩]) (.cond (.tmp 22) .skip (.exit 0))) (.seq (.block 1 (.seq (.ops [
  ⟨(some 25),none,(.mv (.tmp 0))⟩,
  ⟨(some 26),none,(.nilc (.tmp 25))⟩,
  ⟨(some 27),none,(.fa 1 (.tmp 26))⟩,
  ⟨(some 28),none,(.load 1 false (.tmp 27))⟩,
  ⟨(some 29),none,(.mv (.tmp 6))⟩,
  ⟨(some 30),none,(.ia 1 (.tmp 28) (.tmp 29))⟩,
  ⟨(some 31),none,(.load 1 false (.tmp 30))⟩,
  ⟨(some 7),none,(.asg (.tmp 31))⟩]) (.seq (.ops [
  ⟨(some 8),none,(.asg (.const (.int .i64 0)))⟩]) (.block 2 (.loop (mB 71 2361181411847473922574) (.seq (.seq (.ops [
  ⟨(some 32),none,(.mv (.tmp 8))⟩,
  ⟨(some 33),none,(.mv (.tmp 5))⟩,
  ⟨(some 34),none,(.len (.tmp 33))⟩,
  ⟨(some 35),none,(.bin .lss (.tmp 32) (.tmp 34))⟩]) (.cond (.tmp 35) .skip (.exit 2))) (.seq (.block 3 (.seq (.ops [
  ⟨(some 38),none,(.mv (.tmp 0))⟩,
  ⟨(some 39),none,(.mv (.tmp 5))⟩,
  ⟨(some 40),none,(.mv (.tmp 8))⟩,
  ⟨(some 41),none,(.ia 1 (.tmp 39) (.tmp 40))⟩,
  ⟨(some 42),none,(.load 1 false (.tmp 41))⟩,
  ⟨(some 43),none,(.mv (.tmp 7))⟩,
  ⟨(some 44),none,(.callX 84 [(.tmp 38),(.tmp 42),(.tmp 43)])⟩,
  ⟨(some 9),none,(.asg (.tmp 44))⟩]) (.seq (.seq (.ops [
  ⟨(some 45),none,(.mv (.tmp 9))⟩,
  ⟨(some 46),none,(.bin .lss (.tmp 45) (.const (.int .i64 0)))⟩]) (.cond (.tmp 46) (.seq (.ops [
  ⟨(some 2),none,(.asg (.const (.slice none 0 0)))⟩,
  ⟨(some 3),none,(.asg (.const (.bool false)))⟩]) .ret) .skip)) (.seq (.ops [
  ⟨(some 47),none,(.mv (.tmp 4))⟩,
  ⟨(some 48),none,(.mv (.tmp 9))⟩,
  ⟨(some 49),none,(.bsl 1 [(.tmp 48)])⟩,
  ⟨(some 50),none,(.app 1 8 (.tmp 47) (.tmp 49))⟩,
  ⟨(some 4),none,(.asg (.tmp 50))⟩]) (.seq (.ops [
  ⟨(some 51),none,(.mv (.tmp 5))⟩,
  ⟨(some 52),none,(.mv (.tmp 8))⟩,
  ⟨(some 53),none,(.mv (.tmp 0))⟩,
  ⟨(some 54),none,(.nilc (.tmp 53))⟩,
  ⟨(some 55),none,(.fa 2 (.tmp 54))⟩,
  ⟨(some 56),none,(.load 1 false (.tmp 55))⟩,
  ⟨(some 57),none,(.mv (.tmp 9))⟩,
  ⟨(some 58),none,(.ia 5 (.tmp 56) (.tmp 57))⟩,
  ⟨(some 59),none,(.fa 1 (.tmp 58))⟩,
  ⟨(some 60),none,(.load 1 false (.tmp 59))⟩,
  ⟨(some 61),none,(.ia 1 (.tmp 51) (.tmp 52))⟩,
  ⟨none,none,(.store 1 (.tmp 61) (.tmp 60))⟩]) (.ops [
  ⟨(some 62),none,(.mv (.tmp 0))⟩,
  ⟨(some 63),none,(.nilc (.tmp 62))⟩,
  ⟨(some 64),none,(.fa 2 (.tmp 63))⟩,
  ⟨(some 65),none,(.load 1 false (.tmp 64))⟩,
  ⟨(some 66),none,(.mv (.tmp 9))⟩,
  ⟨(some 67),none,(.ia 5 (.tmp 65) (.tmp 66))⟩,
  ⟨(some 68),none,(.fa 2 (.tmp 67))⟩,
  ⟨(some 69),none,(.load 1 false (.tmp 68))⟩,
  ⟨(some 7),none,(.asg (.tmp 69))⟩])))))) (.ops [
  ⟨(some 36),none,(.mv (.tmp 8))⟩,
  ⟨(some 37),none,(.bin .add (.tmp 36) (.const (.int .i64 1)))⟩,
  ⟨(some 8),none,(.asg (.tmp 37))⟩])))))))) (.ops [
  ⟨(some 23),none,(.mv (.tmp 6))⟩,
  ⟨(some 24),none,(.bin .add (.tmp 23) (.const (.int .i64 1)))⟩,
  ⟨(some 6),none,(.asg (.tmp 24))⟩])))))) (.seq (.ops [
  ⟨(some 70),none,(.mv (.tmp 4))⟩,
  ⟨(some 2),none,(.asg (.tmp 70))⟩,
  ⟨(some 3),none,(.asg (.const (.bool true)))⟩]) .ret)))))
theorem law_spec_l24Run {a0 d:D}(h:code_spec_l24Run.wp (CT Try.prog NoG) (endQ [(.t 2),(.t 3)] d) [a0,.undef,.undef,.undef,.undef,.undef,.undef,.undef,.undef,.undef,.undef,.undef,.undef,.undef,.undef,.undef,.undef,.undef,.undef,.undef,.undef,.undef,.undef,.undef,.undef,.undef,.undef,.undef,.undef,.undef,.undef,.undef,.undef,.undef,.undef,.undef,.undef,.undef,.undef,.undef,.undef,.undef,.undef,.undef,.undef,.undef,.undef,.undef,.undef,.undef,.undef,.undef,.undef,.undef,.undef,.undef,.undef,.undef,.undef,.undef,.undef,.undef,.undef,.undef,.undef,.undef,.undef,.undef,.undef,.undef,.undef]):Contract Try.prog NoG 67 [a0] d :=
  contract_of (pt:=0) noG Try.func67 (fun us W=>by kernel_rfl) (c:=Try.f67.body.getD .skip) (ms:=[(mB 71 2361181411847473922958),(mB 71 2361181411847473922574)]) (ms':=[]) (by kernel_rfl) (by kernel_rfl) (by kernel_rfl) h
def code_spec_RunDesign:VCode:=(.seq (.ops [
  ⟨(some 1),none,(.box (.tmp 0))⟩,
  ⟨(some 2),none,(.asg (.const (.slice none 0 0)))⟩,
  ⟨(some 3),none,(.asg (.const (.int .i64 0)))⟩]) (.seq (.seq (.ops [
  ⟨(some 6),none,(.callX 57 [(.tmp 1)])⟩,
  ⟨(some 7),none,(.un .not (.tmp 6))⟩]) (.cond (.tmp 7) (.seq (.ops [
  ⟨(some 2),none,(.asg (.const (.slice none 0 0)))⟩,
  ⟨(some 3),none,(.asg (.const (.int .i64 1)))⟩]) .ret) .skip)) (.seq (.ops [
  ⟨(some 9),none,(.callX 67 [(.tmp 1)])⟩,
  ⟨(some 8),none,(.mv (.tmp 9))⟩,
  ⟨(some 10),none,(.ext (.tmp 8) 0)⟩,
  ⟨(some 11),none,(.ext (.tmp 8) 1)⟩,
  ⟨(some 4),none,(.asg (.tmp 10))⟩,
  ⟨(some 5),none,(.asg (.tmp 11))⟩]) (.seq (.seq (.ops [
  ⟨(some 12),none,(.mv (.tmp 5))⟩,
  ⟨(some 13),none,(.un .not (.tmp 12))⟩]) (.cond (.tmp 13) (.seq (.ops [
  ⟨(some 2),none,(.asg (.const (.slice none 0 0)))⟩,
  ⟨(some 3),none,(.asg (.const (.int .i64 3)))⟩]) .ret) .skip)) (.seq (.ops [
  ⟨(some 14),none,(.mv (.tmp 4))⟩,
  ⟨(some 2),none,(.asg (.tmp 14))⟩,
  ⟨(some 3),none,(.asg (.const (.int .i64 0)))⟩]) .ret)))))
theorem law_spec_RunDesign {a0 d:D}(h:code_spec_RunDesign.wp (CT Try.prog NoG) (endQ [(.t 2),(.t 3)] d) [a0,.undef,.undef,.undef,.undef,.undef,.undef,.undef,.undef,.undef,.undef,.undef,.undef,.undef,.undef]):Contract Try.prog NoG 32 [a0] d :=
  contract_of (pt:=0) noG Try.func32 (fun us W=>by kernel_rfl) (c:=Try.f32.body.getD .skip) (ms:=[]) (ms':=[]) (by kernel_rfl) (by kernel_rfl) (by kernel_rfl) h
set_option maxHeartbeats 2000000 in
theorem v_l24Run (d:Design) (hok:okDsn d=true):Contract Try.prog NoG 67 [.iptr (Design.td.d false d) 0] (.tup [.sl true 1 ((if runAll d then runOut d else []).map rI),.v (.bool (runAll d))]):=by
  obtain ⟨⟨b1,b2⟩,⟨l1,l2⟩,hp,_,hnd,_,_⟩:=dsn_parts hok;have hdd:Design.td.d false d=_:=Design.td_d false d;rw [Design.td_d];refine law_spec_l24Run ?_;unfold code_spec_l24Run;simp -implicitDefEqProofs (disch:=omega) only [go_sem,↓reduceIte];refine call_B (v_l00Own d.Bottom (by omega)) (by simp -implicitDefEqProofs (disch:=omega) only [go_sem,↓reduceIte,deep,TD.rows,immLL_rI,immLL_rB8,immLL_rS,immLL_rBo,immLL_rII,immLL_rIIt];exact rfl) ?_;simp -implicitDefEqProofs (disch:=omega) only [go_sem,↓reduceIte];refine loop_ov (by simp -implicitDefEqProofs (disch:=omega) only [go_sem,↓reduceIte];exact rfl) (fun y:Nat=>[(4,.sl true 1 ((runYi d y).out.map rI)),(5,.sl true 1 ((runYi d y).bel.map rI)),(6,.v (.int .i64 (y:Nat)))]) (fun _=>by simp only [ovr_nil,ovr_cons,List.set_cons_zero,List.set_cons_succ];exact rfl) (fun y:Nat=>y≤d.Left.length∧∀ j,j<y→rowOK d.Pieces (runRow d j) d.Bottom.length=true) (fun y:Nat=>d.Left.length-y) (0) (nleA) (?_) ?_
  · exact ⟨Nat.zero_le _,fun j hj=>absurd hj (by omega)⟩
  rintro y ⟨hy,hrows⟩;simp -implicitDefEqProofs (disch:=omega) only [go_sem,↓reduceIte ,List.length_map,Int.toNat_natCast,Int.ofNat_lt,Int.natCast_nonneg,List.getElem?_map,Option.map_some];refine cond_split ?_ ?_<;>intro hlt
  · have hlt:y<d.Left.length:=(by simpa using hlt);have e1:=List.getElem?_eq_getElem hlt;have hw:=runRow_west hlt;have hbl:=runYi_bel d y;simp -implicitDefEqProofs (disch:=omega) only [go_sem,↓reduceIte ,List.length_map,Int.toNat_natCast,Int.ofNat_lt,Int.natCast_nonneg,List.getElem?_map,Option.map_some,hlt,e1,rI];refine loop_ov (by simp -implicitDefEqProofs (disch:=omega) only [go_sem,↓reduceIte];exact rfl) (fun x:Nat=>[(4,.sl true 1 ((runX d.Pieces (runRow d y) x).out.map rI)),(5,.sl true 1 ((runX d.Pieces (runRow d y) x).bel.map rI)),(7,.v (.int .i64 (runX d.Pieces (runRow d y) x).west)),(8,.v (.int .i64 (x:Nat)))]) (fun _=>by simp only [ovr_nil,ovr_cons,List.set_cons_zero,List.set_cons_succ];exact rfl) (fun x:Nat=>x≤d.Bottom.length∧∀ j,j<x→runOK d.Pieces (runX d.Pieces (runRow d y) j) j=true) (fun x:Nat=>d.Bottom.length-x) (0) (by rw [show (runX d.Pieces (runRow d y) 0).west=d.Left[y] from hw];(try simp -implicitDefEqProofs only [nleL_cc,nleL_nn,nle_self,nle_boxs,nle_aggs,nle_nils,and_self,and_true,true_and])<;>repeat' (first | exact nle_of_eq rfl | exact nle_nil | apply And.intro | apply nle_sl | apply nleLL_cons | apply nleL_cons | exact nleL_nil | exact nleLL_nil | apply nle_box | apply nle_agg)) (?_) ?_
    · exact ⟨Nat.zero_le _,fun j hj=>absurd hj (by omega)⟩
    rintro x ⟨hx,hcells⟩;have hxb:(runX d.Pieces (runRow d y) x).bel.length=d.Bottom.length:=by rw [runX_bel,runRow_bel]
    have hol:=runX_out' hok (y:=y) hx;obtain ⟨st,hst⟩:∃ st,runX d.Pieces (runRow d y) x=st:=⟨_,rfl⟩
    rw [hst] at hxb hol;rw [hst];simp -implicitDefEqProofs (disch:=omega) only [go_sem,↓reduceIte ,List.length_map,Int.toNat_natCast,Int.ofNat_lt,Int.natCast_nonneg,List.getElem?_map,Option.map_some,hxb];refine cond_split ?_ ?_<;>intro hlx
    · have hlx:x<d.Bottom.length:=(by simpa using hlx);have e2:=getD_at (xs:=st.bel) (k:=x) (by omega)
      rcases fitP_cases d.Pieces (st.bel.getD x 0) st.west with ⟨hf,_⟩ | ⟨k,hk,hf,_⟩
      · have hno:runAll d=false:=range_no hlt (range_no hlx (runOK_miss hst hf));simp -implicitDefEqProofs (disch:=omega) only [go_sem,↓reduceIte ,List.length_map,Int.toNat_natCast,Int.ofNat_lt,Int.natCast_nonneg,List.getElem?_map,Option.map_some,hxb,hlx,e2,rI];refine call_B (v_l24Fit d (st.bel.getD x 0) st.west (by omega)) (by simp -implicitDefEqProofs (disch:=omega) only [go_sem,↓reduceIte,deep,TD.rows,immLL_rI,immLL_rB8,immLL_rS,immLL_rBo,immLL_rII,immLL_rIIt,hf,hno,Int.reduceLT,Int.reduceNeg];exact rfl) ?_;simp -implicitDefEqProofs (disch:=omega) only [go_sem,↓reduceIte ,hf,hno,Int.reduceLT,Int.reduceNeg]
      · have hnx:=runX_hit hst hk hf;have hok1:=runOK_hit hst hf;have e3:=List.getElem?_eq_getElem hk;have hs1:st.out.map rI++[[.v (.int .i64 (k:Int))]]=(st.out++[(k:Int)]).map rI:=(by rw [List.map_append];rfl);have hs2:(st.bel.map rI).set x [.v (.int .i64 d.Pieces[k].North)]=(st.bel.set x d.Pieces[k].North).map rI:=(by rw [List.map_set]);have hall:∀ j,j<x+1→runOK d.Pieces (runX d.Pieces (runRow d y) j) j=true:=fun j hj=>by
          rcases Nat.lt_succ_iff_lt_or_eq.1 hj with h1 | rfl
          · exact hcells j h1
          · exact hok1
        have hk0:decide ((k:Int)<0)=false:=(by rw [decide_eq_false_iff_not];omega);simp -implicitDefEqProofs (disch:=omega) only [go_sem,↓reduceIte ,List.length_map,Int.toNat_natCast,Int.ofNat_lt,Int.natCast_nonneg,List.getElem?_map,Option.map_some,hxb,hlx,e2,rI];refine call_B (v_l24Fit d (st.bel.getD x 0) st.west (by omega)) (by simp -implicitDefEqProofs (disch:=omega) only [go_sem,↓reduceIte,deep,TD.rows,immLL_rI,immLL_rB8,immLL_rS,immLL_rBo,immLL_rII,immLL_rIIt,hf,hk0,List.length_map,Int.toNat_natCast,Int.ofNat_lt,Int.natCast_nonneg,List.getElem?_map,Option.map_some,hxb,hlx,hk,e2,rI,e3,Piece.td_d,hs1,hs2,wrN];exact rfl) ?_;simp -implicitDefEqProofs (disch:=omega) only [go_sem,↓reduceIte ,hf,hk0,List.length_map,Int.toNat_natCast,Int.ofNat_lt,Int.natCast_nonneg,List.getElem?_map,Option.map_some,hxb,hlx,hk,e2,rI,e3,Piece.td_d,hs1,hs2,wrN]
        repeat (refine And.intro (by omega) ?_)
        exact ⟨x+1,by omega,⟨hlx,hall⟩,by rw [hnx];(try simp -implicitDefEqProofs only [nleL_cc,nleL_nn,nle_self,nle_boxs,nle_aggs,nle_nils,and_self,and_true,true_and])<;>repeat' (first | exact nle_of_eq rfl | exact nle_nil | apply And.intro | apply nle_sl | apply nleLL_cons | apply nleL_cons | exact nleL_nil | exact nleLL_nil | apply nle_box | apply nle_agg)⟩
    · have hxe:x=d.Bottom.length:=(by have:¬ x<d.Bottom.length:=(by simpa using hlx);omega);subst hxe;have hyn:=runYi_next hlt;rw [hst] at hyn;have hr:∀ j,j<y+1→rowOK d.Pieces (runRow d j) d.Bottom.length=true:=fun j hj=>by
        rcases Nat.lt_succ_iff_lt_or_eq.1 hj with h1 | rfl
        · exact hrows j h1
        · unfold rowOK;rw [List.all_eq_true];exact fun z hz=>hcells z (by simpa using hz)
      simp -implicitDefEqProofs (disch:=omega) only [go_sem,↓reduceIte ,wrN];exact ⟨y+1,by omega,⟨hlt,hr⟩,by rw [hyn];(try simp -implicitDefEqProofs only [nleL_cc,nleL_nn,nle_self,nle_boxs,nle_aggs,nle_nils,and_self,and_true,true_and])<;>repeat' (first | exact nle_of_eq rfl | exact nle_nil | apply And.intro | apply nle_sl | apply nleLL_cons | apply nleL_cons | exact nleL_nil | exact nleLL_nil | apply nle_box | apply nle_agg)⟩
  · have hye:y=d.Left.length:=(by have:¬ y<d.Left.length:=(by simpa using hlt);omega);subst hye;have hyes:runAll d=true:=(by unfold runAll;rw [List.all_eq_true];exact fun z hz=>hrows z (by simpa using hz));rw [hyes,if_pos rfl];simp -implicitDefEqProofs (disch:=omega) only [go_sem,↓reduceIte ,runOut]
theorem v_RunDesign_spec (d:Design)(hd:dsnB d):Contract Try.prog NoG 32 [.agg (Design.td.d false d)] (.tup [.sl true 1 ((runRes d).map rI),.v (.int .i64 (runCode d))]):=by
  rw [Design.td_d];refine law_spec_RunDesign ?_;unfold code_spec_RunDesign runRes runCode;simp -implicitDefEqProofs (disch:=omega) only [go_sem,↓reduceIte];cases h:okDsn d with
  | false=>rw [if_neg (by decide),if_neg (by decide)];refine call_B (v_l24Design d hd) (by simp -implicitDefEqProofs (disch:=omega) only [go_sem,↓reduceIte,deep,TD.rows,immLL_rI,immLL_rB8,immLL_rS,immLL_rBo,immLL_rII,immLL_rIIt,h];exact rfl) ?_;simp -implicitDefEqProofs (disch:=omega) only [go_sem,↓reduceIte ,h]
  | true =>
    rw [if_pos rfl,if_pos rfl];refine call_B (v_l24Design d hd) (by simp -implicitDefEqProofs (disch:=omega) only [go_sem,↓reduceIte,deep,TD.rows,immLL_rI,immLL_rB8,immLL_rS,immLL_rBo,immLL_rII,immLL_rIIt,h];exact rfl) ?_;simp -implicitDefEqProofs (disch:=omega) only [go_sem,↓reduceIte ,h];cases hr:runAll d with
    | false=>rw [if_neg (by decide),if_neg (by decide)];refine call_B (v_l24Run d h) (by simp -implicitDefEqProofs (disch:=omega) only [go_sem,↓reduceIte,deep,TD.rows,immLL_rI,immLL_rB8,immLL_rS,immLL_rBo,immLL_rII,immLL_rIIt,hr];exact rfl) ?_;simp -implicitDefEqProofs (disch:=omega) only [go_sem,↓reduceIte ,hr]
    | true=>rw [if_pos rfl,if_pos rfl];refine call_B (v_l24Run d h) (by simp -implicitDefEqProofs (disch:=omega) only [go_sem,↓reduceIte,deep,TD.rows,immLL_rI,immLL_rB8,immLL_rS,immLL_rBo,immLL_rII,immLL_rIIt,hr];exact rfl) ?_;simp -implicitDefEqProofs (disch:=omega) only [go_sem,↓reduceIte ,hr]
def code_impl_RunDesign:VCode:=(.seq (.ops [
  ⟨(some 1),none,(.box (.tmp 0))⟩,
  ⟨(some 2),none,(.asg (.const (.slice none 0 0)))⟩,
  ⟨(some 3),none,(.asg (.const (.int .i64 0)))⟩]) (.seq (.seq (.ops [
  ⟨(some 12),none,(.load 3 true (.tmp 1))⟩,
  ⟨(some 13),none,(.callX 27 [(.tmp 12)])⟩,
  ⟨(some 14),none,(.un .not (.tmp 13))⟩]) (.cond (.tmp 14) (.seq (.ops [
  ⟨(some 2),none,(.asg (.const (.slice none 0 0)))⟩,
  ⟨(some 3),none,(.asg (.const (.int .i64 1)))⟩]) .ret) .skip)) (.seq (.ops [
  ⟨(some 15),none,(.fa 2 (.tmp 1))⟩,
  ⟨(some 16),none,(.load 1 false (.tmp 15))⟩,
  ⟨(some 17),none,(.callX 66 [(.tmp 16)])⟩,
  ⟨(some 4),none,(.asg (.tmp 17))⟩]) (.seq (.ops [
  ⟨(some 18),none,(.fa 0 (.tmp 1))⟩,
  ⟨(some 19),none,(.load 1 false (.tmp 18))⟩,
  ⟨(some 20),none,(.callX 69 [(.tmp 19)])⟩,
  ⟨(some 5),none,(.asg (.tmp 20))⟩]) (.seq (.ops [
  ⟨(some 6),none,(.asg (.const (.slice none 0 0)))⟩]) (.seq (.seq (.ops [
  ⟨(some 21),none,(.fa 1 (.tmp 1))⟩,
  ⟨(some 22),none,(.load 1 false (.tmp 21))⟩,
  ⟨(some 23),none,(.len (.tmp 22))⟩,
  ⟨(some 24),none,(.mv (.const (.int .i64 0)))⟩]) (.block 0 (.loop (mB 68 295146990385644994445) (.seq (.ops [
  ⟨(some 25),none,(.bin .lss (.tmp 24) (.tmp 23))⟩]) (.seq (.cond (.tmp 25) .skip (.exit 0)) (.seq (.block 1 (.seq (.ops [
  ⟨(some 26),none,(.ia 1 (.tmp 22) (.tmp 24))⟩,
  ⟨(some 27),none,(.load 1 false (.tmp 26))⟩,
  ⟨(some 8),none,(.asg (.tmp 27))⟩]) (.seq (.ops [
  ⟨(some 28),none,(.mv (.tmp 5))⟩,
  ⟨(some 29),none,(.len (.tmp 28))⟩,
  ⟨(some 30),none,(.mv (.const (.int .i64 0)))⟩]) (.block 2 (.loop (mB 68 295146990384034381453) (.seq (.ops [
  ⟨(some 31),none,(.bin .lss (.tmp 30) (.tmp 29))⟩]) (.seq (.cond (.tmp 31) .skip (.exit 2)) (.seq (.block 3 (.seq (.ops [
  ⟨(some 32),none,(.mv (.tmp 30))⟩,
  ⟨(some 9),none,(.asg (.tmp 32))⟩]) (.seq (.ops [
  ⟨(some 34),none,(.mv (.tmp 4))⟩,
  ⟨(some 35),none,(.mv (.tmp 5))⟩,
  ⟨(some 36),none,(.mv (.tmp 9))⟩,
  ⟨(some 37),none,(.ia 1 (.tmp 35) (.tmp 36))⟩,
  ⟨(some 38),none,(.load 1 false (.tmp 37))⟩,
  ⟨(some 39),none,(.mv (.tmp 8))⟩,
  ⟨(some 40),none,(.build [(.int .i64 0),(.int .i64 0)] [(0,1,(.tmp 38)),(1,1,(.tmp 39))])⟩,
  ⟨(some 41),none,(.mlk (.flat [1,1]) (.int .i64 0) true (.tmp 34) (.tmp 40))⟩,
  ⟨(some 33),none,(.mv (.tmp 41))⟩,
  ⟨(some 42),none,(.ext (.tmp 33) 0)⟩,
  ⟨(some 43),none,(.ext (.tmp 33) 1)⟩,
  ⟨(some 10),none,(.asg (.tmp 42))⟩,
  ⟨(some 11),none,(.asg (.tmp 43))⟩]) (.seq (.seq (.ops [
  ⟨(some 44),none,(.mv (.tmp 11))⟩,
  ⟨(some 45),none,(.un .not (.tmp 44))⟩]) (.cond (.tmp 45) (.seq (.ops [
  ⟨(some 2),none,(.asg (.const (.slice none 0 0)))⟩,
  ⟨(some 3),none,(.asg (.const (.int .i64 3)))⟩]) .ret) .skip)) (.seq (.ops [
  ⟨(some 46),none,(.mv (.tmp 6))⟩,
  ⟨(some 47),none,(.mv (.tmp 10))⟩,
  ⟨(some 48),none,(.bsl 1 [(.tmp 47)])⟩,
  ⟨(some 49),none,(.app 1 8 (.tmp 46) (.tmp 48))⟩,
  ⟨(some 6),none,(.asg (.tmp 49))⟩]) (.draw (mB 64 18445618173802708992) [] [⟨0,(mB 64 18445618173802708992),[],⟨(some 50),none,(.mv (.tmp 5))⟩⟩,⟨1,(mB 64 18445618173802708992),[],⟨(some 51),none,(.mv (.tmp 9))⟩⟩,⟨2,(mB 64 18445618173802708992),[],⟨(some 52),none,(.fa 2 (.tmp 1))⟩⟩,⟨3,(mB 64 18441114574175338496),[],⟨(some 53),none,(.load 1 false (.tmp 52))⟩⟩,⟨4,(mB 64 18445618173802708992),[],⟨(some 54),none,(.mv (.tmp 10))⟩⟩,⟨5,(mB 64 18414092976411115520),[],⟨(some 55),none,(.ia 5 (.tmp 53) (.tmp 54))⟩⟩,⟨6,(mB 64 18378064179392151552),[],⟨(some 56),none,(.fa 1 (.tmp 55))⟩⟩,⟨7,(mB 64 18306006585354223616),[],⟨(some 57),none,(.load 1 false (.tmp 56))⟩⟩,⟨8,(mB 64 18445618173802708992),[],⟨(some 58),none,(.fa 2 (.tmp 1))⟩⟩,⟨9,(mB 64 18157387797650997248),[],⟨(some 59),none,(.load 1 false (.tmp 58))⟩⟩,⟨10,(mB 64 18445618173802708992),[],⟨(some 60),none,(.mv (.tmp 10))⟩⟩,⟨11,(mB 64 16428005540740726784),[],⟨(some 61),none,(.ia 5 (.tmp 59) (.tmp 60))⟩⟩,⟨12,(mB 64 14122162531527032832),[],⟨(some 62),none,(.fa 2 (.tmp 61))⟩⟩,⟨13,(mB 64 9510476513099644928),[],⟨(some 63),none,(.load 1 false (.tmp 62))⟩⟩] [⟨(some 64),none,(.ia 1 (.tmp 50) (.tmp 51))⟩,⟨none,none,(.store 1 (.tmp 64) (.tmp 57))⟩,⟨(some 8),none,(.asg (.tmp 63))⟩])))))) (.ops [
  ⟨(some 65),none,(.bin .add (.tmp 30) (.const (.int .i64 1)))⟩,
  ⟨(some 30),none,(.mv (.tmp 65))⟩]))))))))) (.ops [
  ⟨(some 66),none,(.bin .add (.tmp 24) (.const (.int .i64 1)))⟩,
  ⟨(some 24),none,(.mv (.tmp 66))⟩]))))))) (.seq (.ops [
  ⟨(some 67),none,(.mv (.tmp 6))⟩,
  ⟨(some 2),none,(.asg (.tmp 67))⟩,
  ⟨(some 3),none,(.asg (.const (.int .i64 0)))⟩]) .ret)))))))
theorem law_impl_RunDesign {a0 d:D}(h:code_impl_RunDesign.wp (CT Try.prog NoG) (endQ [(.t 2),(.t 3)] d) [a0,.undef,.undef,.undef,.undef,.undef,.undef,.undef,.undef,.undef,.undef,.undef,.undef,.undef,.undef,.undef,.undef,.undef,.undef,.undef,.undef,.undef,.undef,.undef,.undef,.undef,.undef,.undef,.undef,.undef,.undef,.undef,.undef,.undef,.undef,.undef,.undef,.undef,.undef,.undef,.undef,.undef,.undef,.undef,.undef,.undef,.undef,.undef,.undef,.undef,.undef,.undef,.undef,.undef,.undef,.undef,.undef,.undef,.undef,.undef,.undef,.undef,.undef,.undef,.undef,.undef,.undef,.undef]):Contract Try.prog NoG 36 [a0] d :=
  contract_of (pt:=0) noG Try.func36 (fun us W=>by kernel_rfl) (c:=Try.f36.body.getD .skip) (ms:=[(mB 68 295146990385644994445),(mB 68 295146990384034381453)]) (ms':=[]) (by kernel_rfl) (by kernel_rfl) (by kernel_rfl) h
set_option maxHeartbeats 8000000 in
theorem v_RunDesign_impl (d:Design) (hd:dsnB d):Contract Try.prog NoG 36 [.agg (Design.td.d false d)] (.tup [.sl true 1 ((runRes d).map rI),.v (.int .i64 (runCode d))]):=by
  rw [Design.td_d];refine law_impl_RunDesign ?_;unfold code_impl_RunDesign;simp -implicitDefEqProofs (disch:=omega) only [go_sem,↓reduceIte];cases hok:okDsn d with
  | false=>have r1:runRes d=[]:=(by unfold runRes;rw [hok];rfl);have r2:runCode d=1:=(by unfold runCode;rw [hok];rfl);rw [r1,r2];refine call_B (v_ValidDesign d hd) (by simp -implicitDefEqProofs (disch:=omega) only [go_sem,↓reduceIte,deep,TD.rows,immLL_rI,immLL_rB8,immLL_rS,immLL_rBo,immLL_rII,immLL_rIIt,hok];exact rfl) ?_;simp -implicitDefEqProofs (disch:=omega) only [go_sem,↓reduceIte ,hok]
  | true =>
  obtain ⟨⟨b1,b2⟩,⟨l1,l2⟩,hp,_,hnd,_,_⟩:=dsn_parts hok;have r1:runRes d=if runAll d then runOut d else []:=by unfold runRes;rw [hok];rfl
  have r2:runCode d=if runAll d then 0 else 3:=by unfold runCode;rw [hok];rfl
  rw [r1,r2];refine call_B (v_ValidDesign d hd) (by simp -implicitDefEqProofs (disch:=omega) only [go_sem,↓reduceIte,deep,TD.rows,immLL_rI,immLL_rB8,immLL_rS,immLL_rBo,immLL_rII,immLL_rIIt,hok];exact rfl) ?_;simp -implicitDefEqProofs (disch:=omega) only [go_sem,↓reduceIte ,hok];have hH:∀ (s w:Int) (k:Nat) (hk:k<d.Pieces.length),kkP d.Pieces[k]=(s,w)→mget (inlE (revI d.Pieces)) (.agg #[.int .i64 s,.int .i64 w])=some (.int .i64 (k:Nat)):=fun s w k hk h=>inl_hit hnd hk h;have hM:∀ (s w:Int),(∀ p,p∈d.Pieces→kkP p≠(s,w))→mget (inlE (revI d.Pieces)) (.agg #[.int .i64 s,.int .i64 w])=none:=fun s w h=>inl_miss hnd h;have hC:=v_byInlet d.Pieces (by omega)
  generalize inlE (revI d.Pieces)=M at hH hM hC;refine call_B (hC) (by simp -implicitDefEqProofs (disch:=omega) only [go_sem,↓reduceIte,deep,TD.rows,immLL_rI,immLL_rB8,immLL_rS,immLL_rBo,immLL_rII,immLL_rIIt];exact rfl) ?_;simp -implicitDefEqProofs (disch:=omega) only [go_sem,↓reduceIte];refine call_B (v_Clone_Int64 d.Bottom (by omega)) (by simp -implicitDefEqProofs (disch:=omega) only [go_sem,↓reduceIte,deep,TD.rows,immLL_rI,immLL_rB8,immLL_rS,immLL_rBo,immLL_rII,immLL_rIIt,List.length_map];exact rfl) ?_;simp -implicitDefEqProofs (disch:=omega) only [go_sem,↓reduceIte ,List.length_map];refine loop_ov (by simp -implicitDefEqProofs (disch:=omega) only [go_sem,↓reduceIte];exact rfl) (fun y:Nat=>[(5,.sl true 1 ((runYi d y).bel.map rI)),(6,.sl true 1 ((runYi d y).out.map rI)),(24,.v (.int .i64 (y:Nat)))]) (fun _=>by simp only [ovr_nil,ovr_cons,List.set_cons_zero,List.set_cons_succ];exact rfl) (fun y:Nat=>y≤d.Left.length∧∀ j,j<y→rowOK d.Pieces (runRow d j) d.Bottom.length=true) (fun y:Nat=>d.Left.length-y) (0) (nleA) (?_) ?_
  · exact ⟨Nat.zero_le _,fun j hj=>absurd hj (by omega)⟩
  rintro y ⟨hy,hrows⟩;simp -implicitDefEqProofs (disch:=omega) only [go_sem,↓reduceIte ,List.length_map,Int.toNat_natCast,Int.ofNat_lt,Int.natCast_nonneg,List.getElem?_map,Option.map_some];refine cond_split ?_ ?_<;>intro hlt
  · have hlt:y<d.Left.length:=(by simpa using hlt);have e1:=List.getElem?_eq_getElem hlt;have hw:=runRow_west hlt;have hbl:=runYi_bel d y;simp -implicitDefEqProofs (disch:=omega) only [go_sem,↓reduceIte ,List.length_map,Int.toNat_natCast,Int.ofNat_lt,Int.natCast_nonneg,List.getElem?_map,Option.map_some,hlt,e1,rI,hbl];refine loop_ov (by simp -implicitDefEqProofs (disch:=omega) only [go_sem,↓reduceIte];exact rfl) (fun x:Nat=>[(5,.sl true 1 ((runX d.Pieces (runRow d y) x).bel.map rI)),(6,.sl true 1 ((runX d.Pieces (runRow d y) x).out.map rI)),(8,.v (.int .i64 (runX d.Pieces (runRow d y) x).west)),(30,.v (.int .i64 (x:Nat)))]) (fun _=>by simp only [ovr_nil,ovr_cons,List.set_cons_zero,List.set_cons_succ];exact rfl) (fun x:Nat=>x≤d.Bottom.length∧∀ j,j<x→runOK d.Pieces (runX d.Pieces (runRow d y) j) j=true) (fun x:Nat=>d.Bottom.length-x) (0) (by rw [show (runX d.Pieces (runRow d y) 0).west=d.Left[y] from hw];(try simp -implicitDefEqProofs only [nleL_cc,nleL_nn,nle_self,nle_boxs,nle_aggs,nle_nils,and_self,and_true,true_and])<;>repeat' (first | exact nle_of_eq rfl | exact nle_nil | apply And.intro | apply nle_sl | apply nleLL_cons | apply nleL_cons | exact nleL_nil | exact nleLL_nil | apply nle_box | apply nle_agg)) (?_) ?_
    · exact ⟨Nat.zero_le _,fun j hj=>absurd hj (by omega)⟩
    rintro x ⟨hx,hcells⟩;have hxb:(runX d.Pieces (runRow d y) x).bel.length=d.Bottom.length:=by rw [runX_bel,runRow_bel]
    have hol:=runX_out' hok (y:=y) hx;obtain ⟨st,hst⟩:∃ st,runX d.Pieces (runRow d y) x=st:=⟨_,rfl⟩
    rw [hst] at hxb hol;rw [hst];simp -implicitDefEqProofs (disch:=omega) only [go_sem,↓reduceIte ,List.length_map,Int.toNat_natCast,Int.ofNat_lt,Int.natCast_nonneg,List.getElem?_map,Option.map_some,hxb];refine cond_split ?_ ?_<;>intro hlx
    · have hlx:x<d.Bottom.length:=(by simpa using hlx);have e2:=getD_at (xs:=st.bel) (k:=x) (by omega)
      rcases fitP_cases d.Pieces (st.bel.getD x 0) st.west with ⟨hf,hmiss⟩ | ⟨k,hk,hf,hkk⟩
      · have hno:runAll d=false:=range_no hlt (range_no hlx (runOK_miss hst hf));have hg:=hM _ _ hmiss;rw [hno,if_neg (by decide),if_neg (by decide)];simp -implicitDefEqProofs (disch:=omega) only [go_sem,↓reduceIte ,List.length_map,Int.toNat_natCast,Int.ofNat_lt,Int.natCast_nonneg,List.getElem?_map,Option.map_some,hxb,hlx,e2,rI,hg]
      · have hnx:=runX_hit hst hk hf;have hok1:=runOK_hit hst hf;have e3:=List.getElem?_eq_getElem hk;have hg:=hH _ _ k hk hkk;have hs1:st.out.map rI++[[.v (.int .i64 (k:Int))]]=(st.out++[(k:Int)]).map rI:=(by rw [List.map_append];rfl);have hs2:(st.bel.map rI).set x [.v (.int .i64 d.Pieces[k].North)]=(st.bel.set x d.Pieces[k].North).map rI:=(by rw [List.map_set]);have hall:∀ j,j<x+1→runOK d.Pieces (runX d.Pieces (runRow d y) j) j=true:=fun j hj=>by
          rcases Nat.lt_succ_iff_lt_or_eq.1 hj with h1 | rfl
          · exact hcells j h1
          · exact hok1
        simp -implicitDefEqProofs (disch:=omega) only [go_sem,↓reduceIte ,List.length_map,Int.toNat_natCast,Int.ofNat_lt,Int.natCast_nonneg,List.getElem?_map,Option.map_some,hxb,hlx,e2,rI,hg,hk,e3,Piece.td_d,hs1,hs2,wrN]
        repeat (refine And.intro (by omega) ?_)
        exact ⟨x+1,by omega,⟨hlx,hall⟩,by rw [hnx];(try simp -implicitDefEqProofs only [nleL_cc,nleL_nn,nle_self,nle_boxs,nle_aggs,nle_nils,and_self,and_true,true_and])<;>repeat' (first | exact nle_of_eq rfl | exact nle_nil | apply And.intro | apply nle_sl | apply nleLL_cons | apply nleL_cons | exact nleL_nil | exact nleLL_nil | apply nle_box | apply nle_agg)⟩
    · have hxe:x=d.Bottom.length:=(by have:¬ x<d.Bottom.length:=(by simpa using hlx);omega);subst hxe;have hyn:=runYi_next hlt;rw [hst] at hyn;have hr:∀ j,j<y+1→rowOK d.Pieces (runRow d j) d.Bottom.length=true:=fun j hj=>by
        rcases Nat.lt_succ_iff_lt_or_eq.1 hj with h1 | rfl
        · exact hrows j h1
        · unfold rowOK;rw [List.all_eq_true];exact fun z hz=>hcells z (by simpa using hz)
      simp -implicitDefEqProofs (disch:=omega) only [go_sem,↓reduceIte ,wrN];exact ⟨y+1,by omega,⟨hlt,hr⟩,by rw [hyn];(try simp -implicitDefEqProofs only [nleL_cc,nleL_nn,nle_self,nle_boxs,nle_aggs,nle_nils,and_self,and_true,true_and])<;>repeat' (first | exact nle_of_eq rfl | exact nle_nil | apply And.intro | apply nle_sl | apply nleLL_cons | apply nleL_cons | exact nleL_nil | exact nleLL_nil | apply nle_box | apply nle_agg)⟩
  · have hye:y=d.Left.length:=(by have:¬ y<d.Left.length:=(by simpa using hlt);omega);subst hye;have hyes:runAll d=true:=(by unfold runAll;rw [List.all_eq_true];exact fun z hz=>hrows z (by simpa using hz));rw [hyes,if_pos rfl,if_pos rfl];simp -implicitDefEqProofs (disch:=omega) only [go_sem,↓reduceIte ,runOut]
set_option maxHeartbeats 16000000 in
theorem canP3 {K:List D→Prop}{er ec:List (Value×Value)}{co no ea so we a b vs vw:Int}{bo le pc b1 b2 b3 b4:List (List D)}{es:List (Value×Value)}{jj:Nat}{y6 y11 y12 y32 y33 y34 y35 y37 y38 y39 y40 y41 y16:Value}{x42 x43 x44 x45 x46 x47 x48 x49 x50 x51 x52 x53 x54 x55 x56 x57 x58 x59 x60 x61 x62 x63 x64 x65 x66 x67 x68 x69 x70 x71 x72 x73 x74 x75 x76 x77 x78 x79 x80 x82 x83 x84 x86 x87 x88:D}
    (hM3:ContractL Try.prog NoG 37 0 [.undef,.v (.int .i64 so)] (.mp (.int .i64) er) (.v (.int .i64 vs)) (.mp (.int .i64) er))
    (hM4:ContractL Try.prog NoG 37 0 [.undef,.v (.int .i64 we)] (.mp (.int .i64) ec) (.v (.int .i64 vw)) (.mp (.int .i64) ec))
    (h42:x42.prune (notRoot 7)=x42) (k42:x42.prune (notRoot 8)=x42) (h43:x43.prune (notRoot 7)=x43) (k43:x43.prune (notRoot 8)=x43) (h44:x44.prune (notRoot 7)=x44) (k44:x44.prune (notRoot 8)=x44) (h45:x45.prune (notRoot 7)=x45) (k45:x45.prune (notRoot 8)=x45) (h46:x46.prune (notRoot 7)=x46) (k46:x46.prune (notRoot 8)=x46) (h47:x47.prune (notRoot 7)=x47) (k47:x47.prune (notRoot 8)=x47) (h48:x48.prune (notRoot 7)=x48) (k48:x48.prune (notRoot 8)=x48) (h49:x49.prune (notRoot 7)=x49) (k49:x49.prune (notRoot 8)=x49) (h50:x50.prune (notRoot 7)=x50) (k50:x50.prune (notRoot 8)=x50) (h51:x51.prune (notRoot 7)=x51) (k51:x51.prune (notRoot 8)=x51) (h52:x52.prune (notRoot 7)=x52) (k52:x52.prune (notRoot 8)=x52) (h53:x53.prune (notRoot 7)=x53) (k53:x53.prune (notRoot 8)=x53) (h54:x54.prune (notRoot 7)=x54) (k54:x54.prune (notRoot 8)=x54) (h55:x55.prune (notRoot 7)=x55) (k55:x55.prune (notRoot 8)=x55) (h56:x56.prune (notRoot 7)=x56) (k56:x56.prune (notRoot 8)=x56) (h57:x57.prune (notRoot 7)=x57) (k57:x57.prune (notRoot 8)=x57) (h58:x58.prune (notRoot 7)=x58) (k58:x58.prune (notRoot 8)=x58) (h59:x59.prune (notRoot 7)=x59) (k59:x59.prune (notRoot 8)=x59) (h60:x60.prune (notRoot 7)=x60) (k60:x60.prune (notRoot 8)=x60) (h61:x61.prune (notRoot 7)=x61) (k61:x61.prune (notRoot 8)=x61) (h62:x62.prune (notRoot 7)=x62) (k62:x62.prune (notRoot 8)=x62) (h63:x63.prune (notRoot 7)=x63) (k63:x63.prune (notRoot 8)=x63) (h64:x64.prune (notRoot 7)=x64) (k64:x64.prune (notRoot 8)=x64) (h65:x65.prune (notRoot 7)=x65) (k65:x65.prune (notRoot 8)=x65) (h66:x66.prune (notRoot 7)=x66) (k66:x66.prune (notRoot 8)=x66) (h67:x67.prune (notRoot 7)=x67) (k67:x67.prune (notRoot 8)=x67) (h68:x68.prune (notRoot 7)=x68) (k68:x68.prune (notRoot 8)=x68) (h69:x69.prune (notRoot 7)=x69) (k69:x69.prune (notRoot 8)=x69) (h70:x70.prune (notRoot 7)=x70) (k70:x70.prune (notRoot 8)=x70) (h71:x71.prune (notRoot 7)=x71) (k71:x71.prune (notRoot 8)=x71) (h72:x72.prune (notRoot 7)=x72) (k72:x72.prune (notRoot 8)=x72) (h73:x73.prune (notRoot 7)=x73) (k73:x73.prune (notRoot 8)=x73) (h74:x74.prune (notRoot 7)=x74) (k74:x74.prune (notRoot 8)=x74) (h75:x75.prune (notRoot 7)=x75) (k75:x75.prune (notRoot 8)=x75) (h76:x76.prune (notRoot 7)=x76) (k76:x76.prune (notRoot 8)=x76) (h77:x77.prune (notRoot 7)=x77) (k77:x77.prune (notRoot 8)=x77) (h78:x78.prune (notRoot 7)=x78) (k78:x78.prune (notRoot 8)=x78) (h79:x79.prune (notRoot 7)=x79) (k79:x79.prune (notRoot 8)=x79) (h80:x80.prune (notRoot 7)=x80) (k80:x80.prune (notRoot 8)=x80) (h82:x82.prune (notRoot 7)=x82) (k82:x82.prune (notRoot 8)=x82) (h83:x83.prune (notRoot 7)=x83) (k83:x83.prune (notRoot 8)=x83) (h84:x84.prune (notRoot 7)=x84) (k84:x84.prune (notRoot 8)=x84) (h86:x86.prune (notRoot 7)=x86) (k86:x86.prune (notRoot 8)=x86) (h87:x87.prune (notRoot 7)=x87) (k87:x87.prune (notRoot 8)=x87) (h88:x88.prune (notRoot 7)=x88) (k88:x88.prune (notRoot 8)=x88)
    (hK:K (D.undef::D.box none [D.sl false 1 b1,D.sl false 1 b2,D.sl false 5 b3]::D.box none [D.nils,D.nils,D.nils]::D.undef::D.sl true 1 b4::D.undef::D.v y6::D.mp (KK.int IntKind.i64) er::D.mp (KK.int IntKind.i64) ec::D.box none [D.sl true 1 bo,D.sl true 1 le,D.sl true 5 pc]::D.mp (KK.int IntKind.i64) es::D.v y11::D.v y12::D.box none [D.v (Value.int IntKind.i64 co),D.v (Value.int IntKind.i64 no),D.v (Value.int IntKind.i64 ea),D.v (Value.int IntKind.i64 so),D.v (Value.int IntKind.i64 we)]::D.v (Value.int IntKind.i64 a)::D.v (Value.int IntKind.i64 b)::D.tup [D.undef,D.v y16]::D.agg [D.sl false 1 b1,D.sl false 1 b2,D.sl false 5 b3]::D.undef::D.undef::D.undef::D.undef::D.undef::D.undef::D.undef::D.undef::D.undef::D.undef::D.undef::D.undef::D.undef::D.ref 4 []::D.v y32::D.v y33::D.v y34::D.v y35::D.ptr 4 [] jj 0::D.v y37::D.v y38::D.v y39::D.v y40::D.v y41::x42::x43::x44::x45::x46::x47::x48::x49::x50::x51::x52::x53::x54::x55::x56::x57::x58::x59::x60::x61::x62::x63::x64::x65::x66::x67::x68::x69::x70::x71::x72::x73::x74::x75::x76::x77::x78::x79::x80::D.undef::x82::x83::x84::D.undef::x86::x87::x88::D.ptr 9 [] 0 2::D.ref 9 [(0,2)]::D.ptr 13 [] 0 0::D.v (Value.int IntKind.i64 co)::D.v (Value.int IntKind.i64 a)::D.v (Value.int IntKind.i64 b)::D.undef::D.ptr 13 [] 0 3::D.v (Value.int IntKind.i64 so)::D.v (Value.int IntKind.i64 vs)::D.undef::D.ptr 13 [] 0 4::D.v (Value.int IntKind.i64 we)::D.v (Value.int IntKind.i64 vw)::D.agg [D.v (Value.int IntKind.i64 co),D.v (Value.int IntKind.i64 a),D.v (Value.int IntKind.i64 b),D.v (Value.int IntKind.i64 vs),D.v (Value.int IntKind.i64 vw)]::D.sl true 5 [[D.v (Value.int IntKind.i64 co),D.v (Value.int IntKind.i64 a),D.v (Value.int IntKind.i64 b),D.v (Value.int IntKind.i64 vs),D.v (Value.int IntKind.i64 vw)]]::D.undef::D.undef::D.undef::D.undef::[])) :
    vt_impl_CanonicalDesign_3.wp (CT Try.prog NoG) K (D.undef::D.box none [D.sl false 1 b1,D.sl false 1 b2,D.sl false 5 b3]::D.box none [D.nils,D.nils,D.nils]::D.undef::D.sl true 1 b4::D.undef::D.v y6::D.mp (KK.int IntKind.i64) er::D.mp (KK.int IntKind.i64) ec::D.box none [D.sl true 1 bo,D.sl true 1 le,D.sl true 5 pc]::D.mp (KK.int IntKind.i64) es::D.v y11::D.v y12::D.box none [D.v (Value.int IntKind.i64 co),D.v (Value.int IntKind.i64 no),D.v (Value.int IntKind.i64 ea),D.v (Value.int IntKind.i64 so),D.v (Value.int IntKind.i64 we)]::D.v (Value.int IntKind.i64 a)::D.v (Value.int IntKind.i64 b)::D.tup [D.undef,D.v y16]::D.agg [D.sl false 1 b1,D.sl false 1 b2,D.sl false 5 b3]::D.undef::D.undef::D.undef::D.undef::D.undef::D.undef::D.undef::D.undef::D.undef::D.undef::D.undef::D.undef::D.undef::D.ref 4 []::D.v y32::D.v y33::D.v y34::D.v y35::D.ptr 4 [] jj 0::D.v y37::D.v y38::D.v y39::D.v y40::D.v y41::x42::x43::x44::x45::x46::x47::x48::x49::x50::x51::x52::x53::x54::x55::x56::x57::x58::x59::x60::x61::x62::x63::x64::x65::x66::x67::x68::x69::x70::x71::x72::x73::x74::x75::x76::x77::x78::x79::x80::D.undef::x82::x83::x84::D.undef::x86::x87::x88::D.undef::D.undef::D.undef::D.undef::D.undef::D.undef::D.undef::D.undef::D.undef::D.undef::D.undef::D.undef::D.undef::D.undef::D.undef::D.undef::D.undef::D.undef::D.undef::D.undef::[]):=by
  unfold vt_impl_CanonicalDesign_3;simp -implicitDefEqProofs (disch:=omega) only [go_sem,↓reduceIte]
  repeat' (first | with_reducible exact hK | with_reducible refine And.intro ?_ ?_ | ((with_reducible refine isCallM ?_);refine call_meet (r:=7) (hM3) rfl rfl rfl rfl ?_;simp -implicitDefEqProofs (disch:=omega) only [go_sem,↓reduceIte,↓h42,↓h43,↓h44,↓h45,↓h46,↓h47,↓h48,↓h49,↓h50,↓h51,↓h52,↓h53,↓h54,↓h55,↓h56,↓h57,↓h58,↓h59,↓h60,↓h61,↓h62,↓h63,↓h64,↓h65,↓h66,↓h67,↓h68,↓h69,↓h70,↓h71,↓h72,↓h73,↓h74,↓h75,↓h76,↓h77,↓h78,↓h79,↓h80,↓h82,↓h83,↓h84,↓h86,↓h87,↓h88]) | ((with_reducible refine isCallM ?_);refine call_meet (r:=8) (hM4) rfl rfl rfl rfl ?_;simp -implicitDefEqProofs (disch:=omega) only [go_sem,↓reduceIte,↓k42,↓k43,↓k44,↓k45,↓k46,↓k47,↓k48,↓k49,↓k50,↓k51,↓k52,↓k53,↓k54,↓k55,↓k56,↓k57,↓k58,↓k59,↓k60,↓k61,↓k62,↓k63,↓k64,↓k65,↓k66,↓k67,↓k68,↓k69,↓k70,↓k71,↓k72,↓k73,↓k74,↓k75,↓k76,↓k77,↓k78,↓k79,↓k80,↓k82,↓k83,↓k84,↓k86,↓k87,↓k88]))
abbrev keeps78 (x:D):Prop:=x.prune (notRoot 7)=x∧x.prune (notRoot 8)=x
theorem kU:keeps78 .undef:=⟨rfl,rfl⟩
theorem kV (v:Value):keeps78 (.v v):=⟨rfl,rfl⟩
theorem kR9 (q:Path):keeps78 (.ref 9 q):=⟨rfl,rfl⟩
theorem kR10 (q:Path):keeps78 (.ref 10 q):=⟨rfl,rfl⟩
theorem kP9 (q:Path)(i j:Nat):keeps78 (.ptr 9 q i j):=⟨rfl,rfl⟩
theorem kP1 (q:Path)(i j:Nat):keeps78 (.ptr 1 q i j):=⟨rfl,rfl⟩
theorem kP13 (q:Path)(i j:Nat):keeps78 (.ptr 13 q i j):=⟨rfl,rfl⟩
theorem kS (o:Bool)(z:Nat)(r:List (List D)):keeps78 (.sl o z r):=⟨rfl,rfl⟩
theorem kI (c:List D)(j:Nat):keeps78 (.iptr c j):=⟨rfl,rfl⟩
theorem kA (a b c d e:Value):keeps78 (.agg [.v a,.v b,.v c,.v d,.v e]):=⟨rfl,rfl⟩
set_option maxHeartbeats 16000000 in
theorem canP3T {Q:VExit→List D→Prop}{tail:List VO}{er ec:List (Value×Value)}{co no ea so we a b vs vw:Int}{bo le pc b1 b2 b3 b4:List (List D)}{es:List (Value×Value)}{jj:Nat}{y6 y11 y12 y32 y33 y34 y35 y37 y38 y39 y40 y41 y16:Value}{x42 x43 x44 x45 x46 x47 x48 x49 x50 x51 x52 x53 x54 x55 x56 x57 x58 x59 x60 x61 x62 x63 x64 x65 x66 x67 x68 x69 x70 x71 x72 x73 x74 x75 x76 x77 x78 x79 x80 x82 x83 x84 x86 x87 x88:D}
    (hM3:ContractL Try.prog NoG 37 0 [.undef,.v (.int .i64 so)] (.mp (.int .i64) er) (.v (.int .i64 vs)) (.mp (.int .i64) er))
    (hM4:ContractL Try.prog NoG 37 0 [.undef,.v (.int .i64 we)] (.mp (.int .i64) ec) (.v (.int .i64 vw)) (.mp (.int .i64) ec))
    (h42:keeps78 x42) (h43:keeps78 x43) (h44:keeps78 x44) (h45:keeps78 x45) (h46:keeps78 x46) (h47:keeps78 x47) (h48:keeps78 x48) (h49:keeps78 x49) (h50:keeps78 x50) (h51:keeps78 x51) (h52:keeps78 x52) (h53:keeps78 x53) (h54:keeps78 x54) (h55:keeps78 x55) (h56:keeps78 x56) (h57:keeps78 x57) (h58:keeps78 x58) (h59:keeps78 x59) (h60:keeps78 x60) (h61:keeps78 x61) (h62:keeps78 x62) (h63:keeps78 x63) (h64:keeps78 x64) (h65:keeps78 x65) (h66:keeps78 x66) (h67:keeps78 x67) (h68:keeps78 x68) (h69:keeps78 x69) (h70:keeps78 x70) (h71:keeps78 x71) (h72:keeps78 x72) (h73:keeps78 x73) (h74:keeps78 x74) (h75:keeps78 x75) (h76:keeps78 x76) (h77:keeps78 x77) (h78:keeps78 x78) (h79:keeps78 x79) (h80:keeps78 x80) (h82:keeps78 x82) (h83:keeps78 x83) (h84:keeps78 x84) (h86:keeps78 x86) (h87:keeps78 x87) (h88:keeps78 x88)
    (hT:tailK (CT Try.prog NoG) tail Q (D.undef::D.box none [D.sl false 1 b1,D.sl false 1 b2,D.sl false 5 b3]::D.box none [D.nils,D.nils,D.nils]::D.undef::D.sl true 1 b4::D.undef::D.v y6::D.mp (KK.int IntKind.i64) er::D.mp (KK.int IntKind.i64) ec::D.box none [D.sl true 1 bo,D.sl true 1 le,D.sl true 5 pc]::D.mp (KK.int IntKind.i64) es::D.v y11::D.v y12::D.box none [D.v (Value.int IntKind.i64 co),D.v (Value.int IntKind.i64 no),D.v (Value.int IntKind.i64 ea),D.v (Value.int IntKind.i64 so),D.v (Value.int IntKind.i64 we)]::D.v (Value.int IntKind.i64 a)::D.v (Value.int IntKind.i64 b)::D.tup [D.undef,D.v y16]::D.agg [D.sl false 1 b1,D.sl false 1 b2,D.sl false 5 b3]::D.undef::D.undef::D.undef::D.undef::D.undef::D.undef::D.undef::D.undef::D.undef::D.undef::D.undef::D.undef::D.undef::D.ref 4 []::D.v y32::D.v y33::D.v y34::D.v y35::D.ptr 4 [] jj 0::D.v y37::D.v y38::D.v y39::D.v y40::D.v y41::x42::x43::x44::x45::x46::x47::x48::x49::x50::x51::x52::x53::x54::x55::x56::x57::x58::x59::x60::x61::x62::x63::x64::x65::x66::x67::x68::x69::x70::x71::x72::x73::x74::x75::x76::x77::x78::x79::x80::D.undef::x82::x83::x84::D.undef::x86::x87::x88::D.ptr 9 [] 0 2::D.ref 9 [(0,2)]::D.ptr 13 [] 0 0::D.v (Value.int IntKind.i64 co)::D.v (Value.int IntKind.i64 a)::D.v (Value.int IntKind.i64 b)::D.undef::D.ptr 13 [] 0 3::D.v (Value.int IntKind.i64 so)::D.v (Value.int IntKind.i64 vs)::D.undef::D.ptr 13 [] 0 4::D.v (Value.int IntKind.i64 we)::D.v (Value.int IntKind.i64 vw)::D.agg [D.v (Value.int IntKind.i64 co),D.v (Value.int IntKind.i64 a),D.v (Value.int IntKind.i64 b),D.v (Value.int IntKind.i64 vs),D.v (Value.int IntKind.i64 vw)]::D.sl true 5 [[D.v (Value.int IntKind.i64 co),D.v (Value.int IntKind.i64 a),D.v (Value.int IntKind.i64 b),D.v (Value.int IntKind.i64 vs),D.v (Value.int IntKind.i64 vw)]]::D.undef::D.undef::D.undef::D.undef::[])) :
    (VCode.drawT vt_impl_CanonicalDesign_3 tail).wp (CT Try.prog NoG) Q (D.undef::D.box none [D.sl false 1 b1,D.sl false 1 b2,D.sl false 5 b3]::D.box none [D.nils,D.nils,D.nils]::D.undef::D.sl true 1 b4::D.undef::D.v y6::D.mp (KK.int IntKind.i64) er::D.mp (KK.int IntKind.i64) ec::D.box none [D.sl true 1 bo,D.sl true 1 le,D.sl true 5 pc]::D.mp (KK.int IntKind.i64) es::D.v y11::D.v y12::D.box none [D.v (Value.int IntKind.i64 co),D.v (Value.int IntKind.i64 no),D.v (Value.int IntKind.i64 ea),D.v (Value.int IntKind.i64 so),D.v (Value.int IntKind.i64 we)]::D.v (Value.int IntKind.i64 a)::D.v (Value.int IntKind.i64 b)::D.tup [D.undef,D.v y16]::D.agg [D.sl false 1 b1,D.sl false 1 b2,D.sl false 5 b3]::D.undef::D.undef::D.undef::D.undef::D.undef::D.undef::D.undef::D.undef::D.undef::D.undef::D.undef::D.undef::D.undef::D.ref 4 []::D.v y32::D.v y33::D.v y34::D.v y35::D.ptr 4 [] jj 0::D.v y37::D.v y38::D.v y39::D.v y40::D.v y41::x42::x43::x44::x45::x46::x47::x48::x49::x50::x51::x52::x53::x54::x55::x56::x57::x58::x59::x60::x61::x62::x63::x64::x65::x66::x67::x68::x69::x70::x71::x72::x73::x74::x75::x76::x77::x78::x79::x80::D.undef::x82::x83::x84::D.undef::x86::x87::x88::D.undef::D.undef::D.undef::D.undef::D.undef::D.undef::D.undef::D.undef::D.undef::D.undef::D.undef::D.undef::D.undef::D.undef::D.undef::D.undef::D.undef::D.undef::D.undef::D.undef::[]):=by
  have h0:∀ K:List D→Prop,K (D.undef::D.box none [D.sl false 1 b1,D.sl false 1 b2,D.sl false 5 b3]::D.box none [D.nils,D.nils,D.nils]::D.undef::D.sl true 1 b4::D.undef::D.v y6::D.mp (KK.int IntKind.i64) er::D.mp (KK.int IntKind.i64) ec::D.box none [D.sl true 1 bo,D.sl true 1 le,D.sl true 5 pc]::D.mp (KK.int IntKind.i64) es::D.v y11::D.v y12::D.box none [D.v (Value.int IntKind.i64 co),D.v (Value.int IntKind.i64 no),D.v (Value.int IntKind.i64 ea),D.v (Value.int IntKind.i64 so),D.v (Value.int IntKind.i64 we)]::D.v (Value.int IntKind.i64 a)::D.v (Value.int IntKind.i64 b)::D.tup [D.undef,D.v y16]::D.agg [D.sl false 1 b1,D.sl false 1 b2,D.sl false 5 b3]::D.undef::D.undef::D.undef::D.undef::D.undef::D.undef::D.undef::D.undef::D.undef::D.undef::D.undef::D.undef::D.undef::D.ref 4 []::D.v y32::D.v y33::D.v y34::D.v y35::D.ptr 4 [] jj 0::D.v y37::D.v y38::D.v y39::D.v y40::D.v y41::x42::x43::x44::x45::x46::x47::x48::x49::x50::x51::x52::x53::x54::x55::x56::x57::x58::x59::x60::x61::x62::x63::x64::x65::x66::x67::x68::x69::x70::x71::x72::x73::x74::x75::x76::x77::x78::x79::x80::D.undef::x82::x83::x84::D.undef::x86::x87::x88::D.ptr 9 [] 0 2::D.ref 9 [(0,2)]::D.ptr 13 [] 0 0::D.v (Value.int IntKind.i64 co)::D.v (Value.int IntKind.i64 a)::D.v (Value.int IntKind.i64 b)::D.undef::D.ptr 13 [] 0 3::D.v (Value.int IntKind.i64 so)::D.v (Value.int IntKind.i64 vs)::D.undef::D.ptr 13 [] 0 4::D.v (Value.int IntKind.i64 we)::D.v (Value.int IntKind.i64 vw)::D.agg [D.v (Value.int IntKind.i64 co),D.v (Value.int IntKind.i64 a),D.v (Value.int IntKind.i64 b),D.v (Value.int IntKind.i64 vs),D.v (Value.int IntKind.i64 vw)]::D.sl true 5 [[D.v (Value.int IntKind.i64 co),D.v (Value.int IntKind.i64 a),D.v (Value.int IntKind.i64 b),D.v (Value.int IntKind.i64 vs),D.v (Value.int IntKind.i64 vw)]]::D.undef::D.undef::D.undef::D.undef::[])→vt_impl_CanonicalDesign_3.wp (CT Try.prog NoG) K (D.undef::D.box none [D.sl false 1 b1,D.sl false 1 b2,D.sl false 5 b3]::D.box none [D.nils,D.nils,D.nils]::D.undef::D.sl true 1 b4::D.undef::D.v y6::D.mp (KK.int IntKind.i64) er::D.mp (KK.int IntKind.i64) ec::D.box none [D.sl true 1 bo,D.sl true 1 le,D.sl true 5 pc]::D.mp (KK.int IntKind.i64) es::D.v y11::D.v y12::D.box none [D.v (Value.int IntKind.i64 co),D.v (Value.int IntKind.i64 no),D.v (Value.int IntKind.i64 ea),D.v (Value.int IntKind.i64 so),D.v (Value.int IntKind.i64 we)]::D.v (Value.int IntKind.i64 a)::D.v (Value.int IntKind.i64 b)::D.tup [D.undef,D.v y16]::D.agg [D.sl false 1 b1,D.sl false 1 b2,D.sl false 5 b3]::D.undef::D.undef::D.undef::D.undef::D.undef::D.undef::D.undef::D.undef::D.undef::D.undef::D.undef::D.undef::D.undef::D.ref 4 []::D.v y32::D.v y33::D.v y34::D.v y35::D.ptr 4 [] jj 0::D.v y37::D.v y38::D.v y39::D.v y40::D.v y41::x42::x43::x44::x45::x46::x47::x48::x49::x50::x51::x52::x53::x54::x55::x56::x57::x58::x59::x60::x61::x62::x63::x64::x65::x66::x67::x68::x69::x70::x71::x72::x73::x74::x75::x76::x77::x78::x79::x80::D.undef::x82::x83::x84::D.undef::x86::x87::x88::D.undef::D.undef::D.undef::D.undef::D.undef::D.undef::D.undef::D.undef::D.undef::D.undef::D.undef::D.undef::D.undef::D.undef::D.undef::D.undef::D.undef::D.undef::D.undef::D.undef::[]):=fun K hK=>by with_reducible exact canP3 hM3 hM4 h42.1 h42.2 h43.1 h43.2 h44.1 h44.2 h45.1 h45.2 h46.1 h46.2 h47.1 h47.2 h48.1 h48.2 h49.1 h49.2 h50.1 h50.2 h51.1 h51.2 h52.1 h52.2 h53.1 h53.2 h54.1 h54.2 h55.1 h55.2 h56.1 h56.2 h57.1 h57.2 h58.1 h58.2 h59.1 h59.2 h60.1 h60.2 h61.1 h61.2 h62.1 h62.2 h63.1 h63.2 h64.1 h64.2 h65.1 h65.2 h66.1 h66.2 h67.1 h67.2 h68.1 h68.2 h69.1 h69.2 h70.1 h70.2 h71.1 h71.2 h72.1 h72.2 h73.1 h73.2 h74.1 h74.2 h75.1 h75.2 h76.1 h76.2 h77.1 h77.2 h78.1 h78.2 h79.1 h79.2 h80.1 h80.2 h82.1 h82.2 h83.1 h83.2 h84.1 h84.2 h86.1 h86.2 h87.1 h87.2 h88.1 h88.2 hK
  with_reducible exact drawT_at h0 hT
end Go.Proofs.Ytaleehohmpohoaa
