/- Laws that the proof stands on. -/
import Derived.Test.YtjkbngjiagknkaaGreatDoorZg20
import Derived.Test.YtjkbngjiagknkaaGreatDoorZVRdQ
import Derived.Test.YtjkbngjiagknkaaGreatDoorZg24
import Derived.Test.YtjkbngjiagknkaaGreatDoorZVTab
set_option linter.all false
namespace Go.Proofs.YtjkbngjiagknkaaGreatDoor
open Go.RowKit Go.V
attribute [local go_sem] List.getElem?_cons_succ List.getElem?_cons_zero List.set_cons_succ List.set_cons_zero List.map_cons List.map_nil List.length_cons List.length_nil List.all_cons List.all_nil List.drop_succ_cons List.drop_zero List.take_succ_cons List.take_zero List.flatMap_cons List.flatMap_nil List.cons_append List.nil_append List.append_nil List.headD_cons Value.oneCell' Bool.and_true Bool.true_and Bool.or_false Bool.false_or Bool.and_self Bool.not_true Bool.not_false and_true true_and beq_self_eq_true Bool.false_eq_true if_true if_false Nat.zero_add Nat.reduceAdd Nat.reduceMul Nat.reduceLeDiff Nat.le_refl Option.isSome_some Option.isSome_none not_true_eq_false not_false_eq_true ne_eq reduceCtorEq List.reverse_nil bne_self_eq_false Nat.reduceEqDiff List.isPrefixOf Bool.not_eq_true Bool.and_false Bool.false_and Bool.true_or Bool.or_true decide_true decide_false Nat.reduceBEq Nat.reduceBNe List.replicate_succ List.replicate_zero exists_eq_left' exists_eq_left Option.some.injEq or_false or_true true_or false_or Option.map_some Option.map_none mB Nat.reduceMod Nat.reduceDiv
set_option maxRecDepth 100000
def code_impl_proofReader_line:VCode:=(.seq (.ops [
  ⟨(some 4),none,(.asg (.const (.int .i64 0)))⟩]) (.seq (.ops [
  ⟨(some 10),none,(.mv (.tmp 1))⟩,
  ⟨(some 11),none,(.callX 58 [(.tmp 10)])⟩,
  ⟨(some 5),none,(.asg (.tmp 11))⟩]) (.seq (.seq (.ops [
  ⟨(some 12),none,(.mv (.tmp 0))⟩,
  ⟨(some 13),none,(.nilc (.tmp 12))⟩,
  ⟨(some 14),none,(.fa 0 (.tmp 13))⟩,
  ⟨(some 15),none,(.fa 0 (.tmp 14))⟩,
  ⟨(some 16),none,(.load 1 false (.tmp 15))⟩,
  ⟨(some 17),none,(.bin .eql (.tmp 16) (.const (.int .i64 0)))⟩]) (.cond (.tmp 17) (.seq (.ops [
  ⟨(some 18),none,(.mv (.tmp 0))⟩,
  ⟨(some 19),none,(.mv (.tmp 5))⟩,
  ⟨(some 20),none,(.callX 93 [(.tmp 18),(.tmp 19)])⟩,
  ⟨(some 4),none,(.asg (.tmp 20))⟩]) .ret) .skip)) (.seq (.seq (.ops [
  ⟨(some 21),none,(.mv (.tmp 5))⟩,
  ⟨(some 22),none,(.len (.tmp 21))⟩,
  ⟨(some 23),none,(.bin .eql (.tmp 22) (.const (.int .i64 0)))⟩]) (.cond (.tmp 23) (.seq (.ops [
  ⟨(some 4),none,(.asg (.const (.int .i64 6)))⟩]) .ret) .skip)) (.seq (.ops [
  ⟨(some 24),none,(.bsl 1 [(.const (.string ⟨⟨[112,117,116]⟩⟩)),(.const (.string ⟨⟨[111,116,104,101,114]⟩⟩)),(.const (.string ⟨⟨[112,97,114,116]⟩⟩)),(.const (.string ⟨⟨[102,108,111,119]⟩⟩))])⟩,
  ⟨(some 25),none,(.mv (.tmp 5))⟩,
  ⟨(some 26),none,(.ia 1 (.tmp 25) (.const (.int .i64 0)))⟩,
  ⟨(some 27),none,(.load 1 false (.tmp 26))⟩,
  ⟨(some 28),none,(.callX 94 [(.tmp 24),(.tmp 27)])⟩,
  ⟨(some 6),none,(.asg (.tmp 28))⟩]) (.seq (.ops [
  ⟨(some 30),none,(.mv (.tmp 5))⟩,
  ⟨(some 31),none,(.slc 1 (.tmp 30) (some (.const (.int .i64 1))) none none)⟩,
  ⟨(some 32),none,(.callX 59 [(.tmp 31)])⟩,
  ⟨(some 29),none,(.mv (.tmp 32))⟩,
  ⟨(some 33),none,(.ext (.tmp 29) 0)⟩,
  ⟨(some 34),none,(.ext (.tmp 29) 1)⟩,
  ⟨(some 7),none,(.asg (.tmp 33))⟩,
  ⟨(some 8),none,(.asg (.tmp 34))⟩]) (.seq (.seq (.ops [
  ⟨(some 35),none,(.mv (.tmp 8))⟩,
  ⟨(some 36),none,(.un .not (.tmp 35))⟩,
  ⟨(some 37),none,(.mv (.tmp 36))⟩,
  ⟨(some 38),(some (37,false)),(.mv (.tmp 6))⟩,
  ⟨(some 39),(some (37,false)),(.mv (.tmp 0))⟩,
  ⟨(some 40),(some (37,false)),(.nilc (.tmp 39))⟩,
  ⟨(some 41),(some (37,false)),(.fa 5 (.tmp 40))⟩,
  ⟨(some 42),(some (37,false)),(.load 1 false (.tmp 41))⟩,
  ⟨(some 43),(some (37,false)),(.bin .lss (.tmp 38) (.tmp 42))⟩,
  ⟨(some 44),none,(.pick (.tmp 37) (.const (.bool true)) (.tmp 43))⟩]) (.cond (.tmp 44) (.seq (.ops [
  ⟨(some 4),none,(.asg (.const (.int .i64 6)))⟩]) .ret) .skip)) (.seq (.ops [
  ⟨(some 45),none,(.mv (.tmp 0))⟩,
  ⟨(some 46),none,(.mv (.tmp 6))⟩,
  ⟨(some 47),none,(.nilc (.tmp 45))⟩,
  ⟨(some 48),none,(.fa 5 (.tmp 47))⟩,
  ⟨none,none,(.store 1 (.tmp 48) (.tmp 46))⟩]) (.seq (.block 0 (.seq (.ops [
  ⟨(some 50),none,(.mv (.tmp 6))⟩,
  ⟨(some 51),none,(.bin .lss (.tmp 50) (.const (.int .i64 2)))⟩,
  ⟨(some 52),none,(.mv (.tmp 51))⟩,
  ⟨(some 53),(some (52,true)),(.mv (.tmp 7))⟩,
  ⟨(some 54),(some (52,true)),(.len (.tmp 53))⟩,
  ⟨(some 55),(some (52,true)),(.bin .eql (.tmp 54) (.const (.int .i64 3)))⟩,
  ⟨(some 56),none,(.pick (.tmp 52) (.tmp 55) (.const (.bool false)))⟩,
  ⟨(some 49),none,(.asg (.tmp 56))⟩]) (.cond (.tmp 49) (.seq (.draw (mB 68 295003789991276970496) (mB 67 88198495102423793664) [⟨0,(mB 68 295003789991276970496),[],⟨(some 57),none,(.mv (.tmp 7))⟩⟩,⟨1,(mB 68 294859674803201114624),[],⟨(some 58),none,(.ia 1 (.tmp 57) (.const (.int .i64 0)))⟩⟩,⟨2,(mB 68 294571444427049402880),[],⟨(some 59),none,(.load 1 false (.tmp 58))⟩⟩,⟨3,(mB 68 295003789991276970496),[],⟨(some 60),none,(.mv (.tmp 7))⟩⟩,⟨4,(mB 68 293850868486670123520),[],⟨(some 61),none,(.ia 1 (.tmp 60) (.const (.int .i64 1)))⟩⟩,⟨5,(mB 68 291545025477456429568),[],⟨(some 62),none,(.load 1 false (.tmp 61))⟩⟩,⟨6,(mB 68 285924533142498050560),(mB 63 5188146770730811392),⟨(some 63),none,(.build [(.int .i64 0),(.int .i64 0)] [(0,1,(.tmp 59)),(1,1,(.tmp 62))])⟩⟩,⟨7,(mB 68 295003789991276970496),[],⟨(some 64),none,(.mv (.tmp 7))⟩⟩,⟨8,(mB 68 276557045917567418880),[],⟨(some 65),none,(.ia 1 (.tmp 64) (.const (.int .i64 2)))⟩⟩,⟨9,(mB 68 239663557770148315648),[],⟨(some 66),none,(.load 1 false (.tmp 65))⟩⟩,⟨10,(mB 68 152762099360407224832),(mB 67 83010348331692982272),⟨(some 67),none,(.build [(.int .i64 0),(.int .i64 0),(.int .i64 0)] [(0,2,(.tmp 63)),(2,1,(.tmp 66))])⟩⟩,⟨11,(mB 68 295003789991276970496),[],⟨(some 9),none,(.alloc [(.int .i64 0),(.int .i64 0),(.int .i64 0)])⟩⟩] [⟨none,none,(.store 3 (.tmp 9) (.tmp 67))⟩]) (.seq (.ops [
  ⟨(some 68),none,(.mv (.tmp 6))⟩,
  ⟨(some 69),none,(.bin .eql (.tmp 68) (.const (.int .i64 0)))⟩]) (.cond (.tmp 69) (.drawW (mB 79 603282318186597176049664) (mB 78 264452523040700131966976) [⟨1,(mB 79 603282318186597176049664),[],⟨(some 71),none,(.mv (.tmp 0))⟩⟩,⟨2,(mB 79 600921134945162353442816),[],⟨(some 72),none,(.nilc (.tmp 71))⟩⟩,⟨3,(mB 79 596198768462292708229120),[],⟨(some 73),none,(.fa 0 (.tmp 72))⟩⟩,⟨4,(mB 79 586754035496553417801728),[],⟨(some 74),none,(.fa 1 (.tmp 73))⟩⟩,⟨5,(mB 79 567864569565074836946944),[],⟨(some 75),none,(.load 1 false (.tmp 74))⟩⟩,⟨6,(mB 79 603282318186597176049664),[],⟨(some 76),none,(.load 3 true (.tmp 9))⟩⟩,⟨7,(mB 79 527724454460682852630528),(mB 77 75557863725914323419136),⟨(some 77),none,(.bslN 3 [(.tmp 76)])⟩⟩] ⟨8,(mB 79 378969910250289028399104),(mB 78 188894659314785808547840),⟨(some 78),none,(.app 3 24 (.tmp 75) (.tmp 77))⟩⟩ [⟨0,(mB 79 603282318186597176049664),[],⟨(some 70),none,(.mv (.tmp 0))⟩⟩] [⟨(some 79),none,(.nilc (.tmp 70))⟩,⟨(some 80),none,(.fa 0 (.tmp 79))⟩,⟨(some 81),none,(.fa 1 (.tmp 80))⟩,⟨none,none,(.store 1 (.tmp 81) (.tmp 78))⟩]) (.drawW (mB 91 2471044375292302033099423744) (mB 90 1083197534374707740536733696) [⟨1,(mB 91 2471044375292302033099423744),[],⟨(some 83),none,(.mv (.tmp 0))⟩⟩,⟨2,(mB 91 2461372968735384999701774336),[],⟨(some 84),none,(.nilc (.tmp 83))⟩⟩,⟨3,(mB 91 2442030155621550932906475520),[],⟨(some 85),none,(.fa 0 (.tmp 84))⟩⟩,⟨4,(mB 91 2403344529393882799315877888),[],⟨(some 86),none,(.fa 2 (.tmp 85))⟩⟩,⟨5,(mB 91 2325973276938546532134682624),[],⟨(some 87),none,(.load 1 false (.tmp 86))⟩⟩,⟨6,(mB 91 2471044375292302033099423744),[],⟨(some 88),none,(.load 3 true (.tmp 9))⟩⟩,⟨7,(mB 91 2161559365470956964374642688),(mB 89 309485009821345068724781056),⟨(some 89),none,(.bslN 3 [(.tmp 88)])⟩⟩] ⟨8,(mB 91 1552260752385183860322729984),(mB 90 773712524553362671811952640),⟨(some 90),none,(.app 3 24 (.tmp 87) (.tmp 89))⟩⟩ [⟨0,(mB 91 2471044375292302033099423744),[],⟨(some 82),none,(.mv (.tmp 0))⟩⟩] [⟨(some 91),none,(.nilc (.tmp 82))⟩,⟨(some 92),none,(.fa 0 (.tmp 91))⟩,⟨(some 93),none,(.fa 2 (.tmp 92))⟩,⟨none,none,(.store 1 (.tmp 93) (.tmp 90))⟩])))) (.seq (.ops [
  ⟨(some 95),none,(.mv (.tmp 6))⟩,
  ⟨(some 96),none,(.bin .eql (.tmp 95) (.const (.int .i64 2)))⟩,
  ⟨(some 97),none,(.mv (.tmp 96))⟩,
  ⟨(some 98),(some (97,true)),(.mv (.tmp 7))⟩,
  ⟨(some 99),(some (97,true)),(.len (.tmp 98))⟩,
  ⟨(some 100),(some (97,true)),(.bin .gtr (.tmp 99) (.const (.int .i64 0)))⟩,
  ⟨(some 101),none,(.pick (.tmp 97) (.tmp 100) (.const (.bool false)))⟩,
  ⟨(some 102),none,(.mv (.tmp 101))⟩,
  ⟨(some 103),(some (102,true)),(.mv (.tmp 0))⟩,
  ⟨(some 104),(some (102,true)),(.nilc (.tmp 103))⟩,
  ⟨(some 105),(some (102,true)),(.fa 0 (.tmp 104))⟩,
  ⟨(some 106),(some (102,true)),(.fa 3 (.tmp 105))⟩,
  ⟨(some 107),(some (102,true)),(.load 1 false (.tmp 106))⟩,
  ⟨(some 108),(some (102,true)),(.len (.tmp 107))⟩,
  ⟨(some 109),(some (102,true)),(.bin .eql (.tmp 108) (.const (.int .i64 0)))⟩,
  ⟨(some 110),none,(.pick (.tmp 102) (.tmp 109) (.const (.bool false)))⟩,
  ⟨(some 94),none,(.asg (.tmp 110))⟩]) (.cond (.tmp 94) (.ops [
  ⟨(some 111),none,(.mv (.tmp 0))⟩,
  ⟨(some 112),none,(.mv (.tmp 7))⟩,
  ⟨(some 113),none,(.nilc (.tmp 111))⟩,
  ⟨(some 114),none,(.fa 0 (.tmp 113))⟩,
  ⟨(some 115),none,(.fa 3 (.tmp 114))⟩,
  ⟨none,none,(.store 1 (.tmp 115) (.tmp 112))⟩]) (.seq (.ops [
  ⟨(some 117),none,(.mv (.tmp 6))⟩,
  ⟨(some 118),none,(.bin .eql (.tmp 117) (.const (.int .i64 3)))⟩,
  ⟨(some 116),none,(.asg (.tmp 118))⟩]) (.cond (.tmp 116) (.ops [
  ⟨(some 119),none,(.mv (.tmp 0))⟩,
  ⟨(some 120),none,(.mv (.tmp 0))⟩,
  ⟨(some 121),none,(.nilc (.tmp 120))⟩,
  ⟨(some 122),none,(.fa 0 (.tmp 121))⟩,
  ⟨(some 123),none,(.fa 4 (.tmp 122))⟩,
  ⟨(some 124),none,(.load 1 false (.tmp 123))⟩,
  ⟨(some 125),none,(.mv (.tmp 7))⟩,
  ⟨(some 126),none,(.bsl 1 [(.tmp 125)])⟩,
  ⟨(some 127),none,(.app 1 24 (.tmp 124) (.tmp 126))⟩,
  ⟨(some 128),none,(.nilc (.tmp 119))⟩,
  ⟨(some 129),none,(.fa 0 (.tmp 128))⟩,
  ⟨(some 130),none,(.fa 4 (.tmp 129))⟩,
  ⟨none,none,(.store 1 (.tmp 130) (.tmp 127))⟩]) (.seq (.ops [
  ⟨(some 4),none,(.asg (.const (.int .i64 6)))⟩]) .ret)))))))) (.seq (.ops [
  ⟨(some 4),none,(.asg (.const (.int .i64 0)))⟩]) .ret))))))))))
theorem law_impl_proofReader_line {a0 a1 d:D} {cells cells':List D} (h:∀ b,code_impl_proofReader_line.wp (CT Tryz.prog TabG) (endX [(.t 4)] d 0 b cells') [.box (some b) cells,a1,.undef,.undef,.undef,.undef,.undef,.undef,.undef,.undef,.undef,.undef,.undef,.undef,.undef,.undef,.undef,.undef,.undef,.undef,.undef,.undef,.undef,.undef,.undef,.undef,.undef,.undef,.undef,.undef,.undef,.undef,.undef,.undef,.undef,.undef,.undef,.undef,.undef,.undef,.undef,.undef,.undef,.undef,.undef,.undef,.undef,.undef,.undef,.undef,.undef,.undef,.undef,.undef,.undef,.undef,.undef,.undef,.undef,.undef,.undef,.undef,.undef,.undef,.undef,.undef,.undef,.undef,.undef,.undef,.undef,.undef,.undef,.undef,.undef,.undef,.undef,.undef,.undef,.undef,.undef,.undef,.undef,.undef,.undef,.undef,.undef,.undef,.undef,.undef,.undef,.undef,.undef,.undef,.undef,.undef,.undef,.undef,.undef,.undef,.undef,.undef,.undef,.undef,.undef,.undef,.undef,.undef,.undef,.undef,.undef,.undef,.undef,.undef,.undef,.undef,.undef,.undef,.undef,.undef,.undef,.undef,.undef,.undef,.undef,.undef,.undef,.undef,.undef,.undef,.undef]):ContractX Tryz.prog TabG 68 0 [a0,a1] cells d cells' :=
  contract_ofX (pt:=0) tabG Tryz.func68 (fun us W=>by kernel_rfl) (c:=Tryz.f68.body.getD .skip) (ms:=[]) (ms':=[]) (by kernel_rfl) (by kernel_rfl) (by kernel_rfl) (by simp) h
theorem lawM_impl_proofReader_line {a0 a1 d:D} {cells cells':List D} (h:∀ b,code_impl_proofReader_line.wp (CT Tryz.prog TabG) (endXM 7 3 [(.t 4)] d 0 b cells') [.box (some b) cells,a1,.undef,.undef,.undef,.undef,.undef,.undef,.undef,.undef,.undef,.undef,.undef,.undef,.undef,.undef,.undef,.undef,.undef,.undef,.undef,.undef,.undef,.undef,.undef,.undef,.undef,.undef,.undef,.undef,.undef,.undef,.undef,.undef,.undef,.undef,.undef,.undef,.undef,.undef,.undef,.undef,.undef,.undef,.undef,.undef,.undef,.undef,.undef,.undef,.undef,.undef,.undef,.undef,.undef,.undef,.undef,.undef,.undef,.undef,.undef,.undef,.undef,.undef,.undef,.undef,.undef,.undef,.undef,.undef,.undef,.undef,.undef,.undef,.undef,.undef,.undef,.undef,.undef,.undef,.undef,.undef,.undef,.undef,.undef,.undef,.undef,.undef,.undef,.undef,.undef,.undef,.undef,.undef,.undef,.undef,.undef,.undef,.undef,.undef,.undef,.undef,.undef,.undef,.undef,.undef,.undef,.undef,.undef,.undef,.undef,.undef,.undef,.undef,.undef,.undef,.undef,.undef,.undef,.undef,.undef,.undef,.undef,.undef,.undef,.undef,.undef,.undef,.undef,.undef,.undef]):ContractX Tryz.prog TabG 68 0 [a0,a1] cells d cells' :=
  contract_ofXM (t:=7) (j:=3) (by decide) (pt:=0) tabG Tryz.func68 (fun us W=>by kernel_rfl) (c:=Tryz.f68.body.getD .skip) (ms:=[]) (ms':=[]) (by kernel_rfl) (by kernel_rfl) (by kernel_rfl) (by simp) h
attribute [local go_sem] nf
theorem v_first (p:Proof) (st:Int) (w:List ByteArray) :
    ContractX Tryz.prog TabG 93 0 [.undef,.sl false 1 (w.map rS)] (prD p st) (.v (.int .i64 (match pfHead p w with | some _=>0 | none=>6))) (prD ((pfHead p w).getD p) st):=by
  by_cases h2:w.length=2
  · obtain ⟨w0,w1,rfl⟩:∃ a b,w=[a,b]:=by
      match w,h2 with
      | [a,b],_=>exact ⟨a,b,rfl⟩
    cases hc:decide (w0=wProof) with
    | false=>have hN:pfHead p [w0,w1]=none:=(by unfold pfHead;simp only;rw [if_neg (fun h=>of_decide_eq_false hc h.1)]);rw [hN];exact v_first_b p st w0 w1 hc
    | true =>
      have hc':=of_decide_eq_true hc;have h:=v_first_c p st w0 w1 hc;by_cases hk:kindN w1=0
      · have hN:pfHead p [w0,w1]=none:=(by unfold pfHead;simp only;rw [if_neg (fun h=>h.2 hk)]);rw [if_pos hk,if_pos hk] at h;rw [hN];exact h
      · have hN:pfHead p [w0,w1]=some { p with Kind:=kindN w1 }:=(by unfold pfHead;simp only;rw [if_pos ⟨hc',hk⟩]);rw [if_neg hk,if_neg hk] at h;rw [hN];exact h
  · have hN:pfHead p w=none:=by
      unfold pfHead;split
      · simp at h2
      · rfl
    rw [hN];exact v_first_a p st w h2
set_option maxHeartbeats 40000000 in
theorem v_prl_first (p:Proof) (st:Int) (l:ByteArray) (hl:l.size≤1048576) (hk0:p.Kind=0) :
    ContractX Tryz.prog TabG 68 0 [.undef,.v (.string l)] (prD p st) (.v (.int .i64 (match pfHead p (wordsB l) with | some _=>0 | none=>6))) (prD ((pfHead p (wordsB l)).getD p) st):=by
  unfold prD
  try simp only []
  refine law_impl_proofReader_line ?_;intro bb;unfold code_impl_proofReader_line;have hS:=v_SplitWords l hl;have hF:=v_first p st (wordsB l);unfold prD at hF;have dk:decide (p.Kind=0)=true:=decide_eq_true hk0;simp -implicitDefEqProofs (disch:=omega) only [go_sem,↓reduceIte ,dk];refine call_B (hS) (by simp -implicitDefEqProofs (disch:=omega) only [go_sem,↓reduceIte,deep,TD.rows,immLL_rI,immLL_rB8,immLL_rS,immLL_rBo,immLL_rII,immLL_rIIt,dk];exact rfl) ?_;simp -implicitDefEqProofs (disch:=omega) only [go_sem,↓reduceIte ,dk];refine call_ioA (i:=0) (r:=0) (hF) rfl rfl (by simp -implicitDefEqProofs (disch:=omega) only [go_sem,↓reduceIte,deep,TD.rows,immLL_rI,immLL_rB8,immLL_rS,immLL_rBo,immLL_rII,immLL_rIIt,dk,nf];exact rfl) (by repeat (first | exact leL_nil | refine leL_cons ?_ ?_ | exact le_of_eq rfl | exact le_iptrN (leL_of_eq rfl) | refine le_agg ?_ | exact le_slf rfl (TD.rows ..) | refine le_iptr ?_ | refine le_fn ?_ ?_ | exact le_nilsl_)) (by repeat (first | exact leL_nil | refine leL_cons ?_ ?_ | exact le_of_eq rfl | exact le_iptrN (leL_of_eq rfl) | refine le_agg ?_ | exact le_slf rfl (TD.rows ..) | refine le_iptr ?_ | refine le_fn ?_ ?_ | exact le_nilsl_)) (by first | exact .inr rfl | exact .inl ⟨rfl,rfl⟩ | exact .inl ⟨by simp only [D.noImm,noImmL,go_sem,TD.nims,TD.nim,nim_rI,nim_rB8,nim_rBo,nim_rS],by simp only [D.noImm,noImmL,go_sem,TD.nims,TD.nim,nim_rI,nim_rB8,nim_rBo,nim_rS]⟩) ?_;simp -implicitDefEqProofs (disch:=omega) only [go_sem,↓reduceIte ,dk,nf]
  first | done | exact ⟨rfl,rfl⟩ | exact ⟨rfl,rfl,rfl⟩
set_option maxHeartbeats 40000000 in
theorem v_prl_nil (p:Proof) (st:Int) (l:ByteArray) (hl:l.size≤1048576) (hw:wordsB l=[]) (hk0:p.Kind≠0) :
    ContractX Tryz.prog TabG 68 0 [.undef,.v (.string l)] (prD p st) (.v (.int .i64 6)) (prD p st):=by
  unfold prD
  try simp only []
  refine law_impl_proofReader_line ?_;intro bb;unfold code_impl_proofReader_line;have hS:=v_SplitWords l hl;rw [hw] at hS;have dk:decide (p.Kind=0)=false:=decide_eq_false hk0;have ll:decide (((0:Nat):Int)=0)=true:=rfl;simp -implicitDefEqProofs (disch:=omega) only [go_sem,↓reduceIte ,dk];refine call_B (hS) (by simp -implicitDefEqProofs (disch:=omega) only [go_sem,↓reduceIte,deep,TD.rows,immLL_rI,immLL_rB8,immLL_rS,immLL_rBo,immLL_rII,immLL_rIIt,dk,ll];exact rfl) ?_;simp -implicitDefEqProofs (disch:=omega) only [go_sem,↓reduceIte ,dk,ll]
set_option maxHeartbeats 40000000 in
theorem v_prl_none (p:Proof) (st:Int) (l:ByteArray) (hl:l.size≤1048576) (w0:ByteArray) (ws:List ByteArray) (hw:wordsB l=w0::ws) (hk0:p.Kind≠0) (hr:rdNums ws=none) :
    ContractX Tryz.prog TabG 68 0 [.undef,.v (.string l)] (prD p st) (.v (.int .i64 6)) (prD p st):=by
  unfold prD
  try simp only []
  refine law_impl_proofReader_line ?_;intro bb;unfold code_impl_proofReader_line;have hS:=v_SplitWords l hl;rw [hw] at hS;obtain ⟨L,hwd,hLe⟩:∃ L,WdL L w0 ws∧(w0::ws).map rS=L:=⟨_,wdl_map _ _,rfl⟩
  have hz:∀ x,x∈ws→x.size≤1048576:=fun x hx=>by have:=wordsB_size (b:=l) (y:=x) (by rw [hw];exact List.mem_cons_of_mem _ hx);omega
  have hln:ws.length≤1048577:=(by have:=wordsB_len l;rw [hw,List.length_cons] at this;omega);rw [hLe] at hS;have lw:=hwd.len;have e0:=hwd.hd;have drp:=hwd.drp;have l0:(0:Int) < ((ws.length+1:Nat):Int):=(by omega);have l1:(1:Int)≤((ws.length+1:Nat):Int):=(by omega);have lz:decide (((ws.length+1:Nat):Int)=0)=false:=decide_eq_false (by omega);have drp2:List.take (Int.toNat ((ws.length+1:Nat):Int) - Int.toNat 1) (List.drop (Int.toNat 1) L)=ws.map rS:=(by rw [drp];exact List.take_of_length_le (by rw [List.length_map];simp only [Int.toNat_natCast];show ws.length≤ws.length+1 - 1;omega));have tk:List.take (Int.toNat ((ws.length+1:Nat):Int) - Int.toNat 1) (ws.map rS)=ws.map rS:=(by rw [drp] at drp2;exact drp2);have cnd:(Int.toNat 1+(Int.toNat ((ws.length+1:Nat):Int) - Int.toNat 1)≤L.length)=True:=(by rw [hwd.lenN];simp only [Int.toNat_natCast];exact eq_true (show 1+(ws.length+1 - 1)≤ws.length+1 by omega));have dk:decide (p.Kind=0)=false:=decide_eq_false hk0;have hv:=v_readNumbers ws hz hln;rw [hr] at hv;simp -implicitDefEqProofs (disch:=omega) only [go_sem,↓reduceIte ,dk];refine call_B (hS) (by simp -implicitDefEqProofs (disch:=omega) only [go_sem,↓reduceIte,deep,TD.rows,immLL_rI,immLL_rB8,immLL_rS,immLL_rBo,immLL_rII,immLL_rIIt,dk,lz,lw,e0,l0,l1,Int.le_refl,Int.reduceLE,Int.reduceLT,drp];exact rfl) ?_;simp -implicitDefEqProofs (disch:=omega) only [go_sem,↓reduceIte ,dk,lz,lw,e0,l0,l1,Int.le_refl,Int.reduceLE,Int.reduceLT,drp];refine call_B (v_placeI w0) (by simp -implicitDefEqProofs (disch:=omega) only [go_sem,↓reduceIte,deep,TD.rows,immLL_rI,immLL_rB8,immLL_rS,immLL_rBo,immLL_rII,immLL_rIIt,dk,lz,lw,e0,l0,l1,Int.le_refl,Int.reduceLE,Int.reduceLT,drp];exact rfl) ?_;simp -implicitDefEqProofs (disch:=omega) only [go_sem,↓reduceIte ,dk,lz,lw,e0,l0,l1,Int.le_refl,Int.reduceLE,Int.reduceLT,drp];refine call_B (hv) (by simp -implicitDefEqProofs (disch:=omega) only [go_sem,↓reduceIte,deep,TD.rows,immLL_rI,immLL_rB8,immLL_rS,immLL_rBo,immLL_rII,immLL_rIIt,dk,lz,lw,e0,l0,l1,Int.le_refl,Int.reduceLE,Int.reduceLT,drp,cnd,drp2,tk,if_true];exact rfl) ?_;simp -implicitDefEqProofs (disch:=omega) only [go_sem,↓reduceIte ,dk,lz,lw,e0,l0,l1,Int.le_refl,Int.reduceLE,Int.reduceLT,drp,cnd,drp2,tk,if_true]
set_option maxHeartbeats 40000000 in
theorem v_prl_lt (p:Proof) (st:Int) (l:ByteArray) (hl:l.size≤1048576) (w0:ByteArray) (ws:List ByteArray) (hw:wordsB l=w0::ws) (hk0:p.Kind≠0) (n:List Int) (hr:rdNums ws=some n) (hlt:placeW w0 < st) :
    ContractX Tryz.prog TabG 68 0 [.undef,.v (.string l)] (prD p st) (.v (.int .i64 6)) (prD p st):=by
  unfold prD
  try simp only []
  refine law_impl_proofReader_line ?_;intro bb;unfold code_impl_proofReader_line;have hS:=v_SplitWords l hl;rw [hw] at hS;obtain ⟨L,hwd,hLe⟩:∃ L,WdL L w0 ws∧(w0::ws).map rS=L:=⟨_,wdl_map _ _,rfl⟩
  have hz:∀ x,x∈ws→x.size≤1048576:=fun x hx=>by have:=wordsB_size (b:=l) (y:=x) (by rw [hw];exact List.mem_cons_of_mem _ hx);omega
  have hln:ws.length≤1048577:=(by have:=wordsB_len l;rw [hw,List.length_cons] at this;omega);rw [hLe] at hS;have lw:=hwd.len;have e0:=hwd.hd;have drp:=hwd.drp;have l0:(0:Int) < ((ws.length+1:Nat):Int):=(by omega);have l1:(1:Int)≤((ws.length+1:Nat):Int):=(by omega);have lz:decide (((ws.length+1:Nat):Int)=0)=false:=decide_eq_false (by omega);have drp2:List.take (Int.toNat ((ws.length+1:Nat):Int) - Int.toNat 1) (List.drop (Int.toNat 1) L)=ws.map rS:=(by rw [drp];exact List.take_of_length_le (by rw [List.length_map];simp only [Int.toNat_natCast];show ws.length≤ws.length+1 - 1;omega));have tk:List.take (Int.toNat ((ws.length+1:Nat):Int) - Int.toNat 1) (ws.map rS)=ws.map rS:=(by rw [drp] at drp2;exact drp2);have cnd:(Int.toNat 1+(Int.toNat ((ws.length+1:Nat):Int) - Int.toNat 1)≤L.length)=True:=(by rw [hwd.lenN];simp only [Int.toNat_natCast];exact eq_true (show 1+(ws.length+1 - 1)≤ws.length+1 by omega));have dk:decide (p.Kind=0)=false:=decide_eq_false hk0;have hv:=v_readNumbers ws hz hln;rw [hr] at hv;simp only [_root_.Option.getD_some,_root_.Option.isSome_some] at hv;have d1:decide (placeW w0 < st)=true:=decide_eq_true hlt;simp -implicitDefEqProofs (disch:=omega) only [go_sem,↓reduceIte ,dk];refine call_B (hS) (by simp -implicitDefEqProofs (disch:=omega) only [go_sem,↓reduceIte,deep,TD.rows,immLL_rI,immLL_rB8,immLL_rS,immLL_rBo,immLL_rII,immLL_rIIt,dk,lz,lw,e0,l0,l1,Int.le_refl,Int.reduceLE,Int.reduceLT,drp];exact rfl) ?_;simp -implicitDefEqProofs (disch:=omega) only [go_sem,↓reduceIte ,dk,lz,lw,e0,l0,l1,Int.le_refl,Int.reduceLE,Int.reduceLT,drp];refine call_B (v_placeI w0) (by simp -implicitDefEqProofs (disch:=omega) only [go_sem,↓reduceIte,deep,TD.rows,immLL_rI,immLL_rB8,immLL_rS,immLL_rBo,immLL_rII,immLL_rIIt,dk,lz,lw,e0,l0,l1,Int.le_refl,Int.reduceLE,Int.reduceLT,drp];exact rfl) ?_;simp -implicitDefEqProofs (disch:=omega) only [go_sem,↓reduceIte ,dk,lz,lw,e0,l0,l1,Int.le_refl,Int.reduceLE,Int.reduceLT,drp];refine call_B (hv) (by simp -implicitDefEqProofs (disch:=omega) only [go_sem,↓reduceIte,deep,TD.rows,immLL_rI,immLL_rB8,immLL_rS,immLL_rBo,immLL_rII,immLL_rIIt,dk,lz,lw,e0,l0,l1,Int.le_refl,Int.reduceLE,Int.reduceLT,drp,cnd,drp2,tk,if_true,d1];exact rfl) ?_;simp -implicitDefEqProofs (disch:=omega) only [go_sem,↓reduceIte ,dk,lz,lw,e0,l0,l1,Int.le_refl,Int.reduceLE,Int.reduceLT,drp,cnd,drp2,tk,if_true,d1]
set_option maxHeartbeats 40000000 in
theorem v_prl_0bad (p:Proof) (st:Int) (l:ByteArray) (hl:l.size≤1048576) (w0:ByteArray) (ws:List ByteArray) (hw:wordsB l=w0::ws) (hk0:p.Kind≠0) (n:List Int) (hr:rdNums ws=some n) (hk:placeW w0=0) (hlt:st≤0) (hn:n.length≠3) :
    ContractX Tryz.prog TabG 68 0 [.undef,.v (.string l)] (prD p st) (.v (.int .i64 6)) (prD p 0):=by
  unfold prD
  try simp only []
  refine law_impl_proofReader_line ?_;intro bb;unfold code_impl_proofReader_line;have hS:=v_SplitWords l hl;rw [hw] at hS;obtain ⟨L,hwd,hLe⟩:∃ L,WdL L w0 ws∧(w0::ws).map rS=L:=⟨_,wdl_map _ _,rfl⟩
  have hz:∀ x,x∈ws→x.size≤1048576:=fun x hx=>by have:=wordsB_size (b:=l) (y:=x) (by rw [hw];exact List.mem_cons_of_mem _ hx);omega
  have hln:ws.length≤1048577:=(by have:=wordsB_len l;rw [hw,List.length_cons] at this;omega);rw [hLe] at hS;have lw:=hwd.len;have e0:=hwd.hd;have drp:=hwd.drp;have l0:(0:Int) < ((ws.length+1:Nat):Int):=(by omega);have l1:(1:Int)≤((ws.length+1:Nat):Int):=(by omega);have lz:decide (((ws.length+1:Nat):Int)=0)=false:=decide_eq_false (by omega);have drp2:List.take (Int.toNat ((ws.length+1:Nat):Int) - Int.toNat 1) (List.drop (Int.toNat 1) L)=ws.map rS:=(by rw [drp];exact List.take_of_length_le (by rw [List.length_map];simp only [Int.toNat_natCast];show ws.length≤ws.length+1 - 1;omega));have tk:List.take (Int.toNat ((ws.length+1:Nat):Int) - Int.toNat 1) (ws.map rS)=ws.map rS:=(by rw [drp] at drp2;exact drp2);have cnd:(Int.toNat 1+(Int.toNat ((ws.length+1:Nat):Int) - Int.toNat 1)≤L.length)=True:=(by rw [hwd.lenN];simp only [Int.toNat_natCast];exact eq_true (show 1+(ws.length+1 - 1)≤ws.length+1 by omega));have dk:decide (p.Kind=0)=false:=decide_eq_false hk0;have hv:=v_readNumbers ws hz hln;rw [hr] at hv;simp only [_root_.Option.getD_some,_root_.Option.isSome_some] at hv;have d1:decide ((0:Int) < st)=false:=decide_eq_false (by omega);have d2:decide ((0:Int) < 2)=true:=rfl;have q0:decide ((0:Int)=0)=true:=rfl;have q2:decide ((0:Int)=2)=false:=rfl;have q3:decide ((0:Int)=3)=false:=rfl;have d5:decide ((n.length:Int)=3)=false:=decide_eq_false (by omega);simp -implicitDefEqProofs (disch:=omega) only [go_sem,↓reduceIte ,dk];refine call_B (hS) (by simp -implicitDefEqProofs (disch:=omega) only [go_sem,↓reduceIte,deep,TD.rows,immLL_rI,immLL_rB8,immLL_rS,immLL_rBo,immLL_rII,immLL_rIIt,dk,lz,lw,e0,l0,l1,Int.le_refl,Int.reduceLE,Int.reduceLT,drp];exact rfl) ?_;simp -implicitDefEqProofs (disch:=omega) only [go_sem,↓reduceIte ,dk,lz,lw,e0,l0,l1,Int.le_refl,Int.reduceLE,Int.reduceLT,drp];refine call_B (v_placeI w0) (by simp -implicitDefEqProofs (disch:=omega) only [go_sem,↓reduceIte,deep,TD.rows,immLL_rI,immLL_rB8,immLL_rS,immLL_rBo,immLL_rII,immLL_rIIt,dk,lz,lw,e0,l0,l1,Int.le_refl,Int.reduceLE,Int.reduceLT,drp];exact rfl) ?_;simp -implicitDefEqProofs (disch:=omega) only [go_sem,↓reduceIte ,dk,lz,lw,e0,l0,l1,Int.le_refl,Int.reduceLE,Int.reduceLT,drp];refine call_B (hv) (by simp -implicitDefEqProofs (disch:=omega) only [go_sem,↓reduceIte,deep,TD.rows,immLL_rI,immLL_rB8,immLL_rS,immLL_rBo,immLL_rII,immLL_rIIt,dk,lz,lw,e0,l0,l1,Int.le_refl,Int.reduceLE,Int.reduceLT,drp,cnd,drp2,tk,if_true,hk,d1,d2,q0,q2,q3,List.length_map,d5];exact rfl) ?_;simp -implicitDefEqProofs (disch:=omega) only [go_sem,↓reduceIte ,dk,lz,lw,e0,l0,l1,Int.le_refl,Int.reduceLE,Int.reduceLT,drp,cnd,drp2,tk,if_true,hk,d1,d2,q0,q2,q3,List.length_map,d5]
set_option maxHeartbeats 40000000 in
theorem v_prl_1bad (p:Proof) (st:Int) (l:ByteArray) (hl:l.size≤1048576) (w0:ByteArray) (ws:List ByteArray) (hw:wordsB l=w0::ws) (hk0:p.Kind≠0) (n:List Int) (hr:rdNums ws=some n) (hk:placeW w0=1) (hlt:st≤1) (hn:n.length≠3) :
    ContractX Tryz.prog TabG 68 0 [.undef,.v (.string l)] (prD p st) (.v (.int .i64 6)) (prD p 1):=by
  unfold prD
  try simp only []
  refine law_impl_proofReader_line ?_;intro bb;unfold code_impl_proofReader_line;have hS:=v_SplitWords l hl;rw [hw] at hS;obtain ⟨L,hwd,hLe⟩:∃ L,WdL L w0 ws∧(w0::ws).map rS=L:=⟨_,wdl_map _ _,rfl⟩
  have hz:∀ x,x∈ws→x.size≤1048576:=fun x hx=>by have:=wordsB_size (b:=l) (y:=x) (by rw [hw];exact List.mem_cons_of_mem _ hx);omega
  have hln:ws.length≤1048577:=(by have:=wordsB_len l;rw [hw,List.length_cons] at this;omega);rw [hLe] at hS;have lw:=hwd.len;have e0:=hwd.hd;have drp:=hwd.drp;have l0:(0:Int) < ((ws.length+1:Nat):Int):=(by omega);have l1:(1:Int)≤((ws.length+1:Nat):Int):=(by omega);have lz:decide (((ws.length+1:Nat):Int)=0)=false:=decide_eq_false (by omega);have drp2:List.take (Int.toNat ((ws.length+1:Nat):Int) - Int.toNat 1) (List.drop (Int.toNat 1) L)=ws.map rS:=(by rw [drp];exact List.take_of_length_le (by rw [List.length_map];simp only [Int.toNat_natCast];show ws.length≤ws.length+1 - 1;omega));have tk:List.take (Int.toNat ((ws.length+1:Nat):Int) - Int.toNat 1) (ws.map rS)=ws.map rS:=(by rw [drp] at drp2;exact drp2);have cnd:(Int.toNat 1+(Int.toNat ((ws.length+1:Nat):Int) - Int.toNat 1)≤L.length)=True:=(by rw [hwd.lenN];simp only [Int.toNat_natCast];exact eq_true (show 1+(ws.length+1 - 1)≤ws.length+1 by omega));have dk:decide (p.Kind=0)=false:=decide_eq_false hk0;have hv:=v_readNumbers ws hz hln;rw [hr] at hv;simp only [_root_.Option.getD_some,_root_.Option.isSome_some] at hv;have d1:decide ((1:Int) < st)=false:=decide_eq_false (by omega);have d2:decide ((1:Int) < 2)=true:=rfl;have q0:decide ((1:Int)=0)=false:=rfl;have q2:decide ((1:Int)=2)=false:=rfl;have q3:decide ((1:Int)=3)=false:=rfl;have d5:decide ((n.length:Int)=3)=false:=decide_eq_false (by omega);simp -implicitDefEqProofs (disch:=omega) only [go_sem,↓reduceIte ,dk];refine call_B (hS) (by simp -implicitDefEqProofs (disch:=omega) only [go_sem,↓reduceIte,deep,TD.rows,immLL_rI,immLL_rB8,immLL_rS,immLL_rBo,immLL_rII,immLL_rIIt,dk,lz,lw,e0,l0,l1,Int.le_refl,Int.reduceLE,Int.reduceLT,drp];exact rfl) ?_;simp -implicitDefEqProofs (disch:=omega) only [go_sem,↓reduceIte ,dk,lz,lw,e0,l0,l1,Int.le_refl,Int.reduceLE,Int.reduceLT,drp];refine call_B (v_placeI w0) (by simp -implicitDefEqProofs (disch:=omega) only [go_sem,↓reduceIte,deep,TD.rows,immLL_rI,immLL_rB8,immLL_rS,immLL_rBo,immLL_rII,immLL_rIIt,dk,lz,lw,e0,l0,l1,Int.le_refl,Int.reduceLE,Int.reduceLT,drp];exact rfl) ?_;simp -implicitDefEqProofs (disch:=omega) only [go_sem,↓reduceIte ,dk,lz,lw,e0,l0,l1,Int.le_refl,Int.reduceLE,Int.reduceLT,drp];refine call_B (hv) (by simp -implicitDefEqProofs (disch:=omega) only [go_sem,↓reduceIte,deep,TD.rows,immLL_rI,immLL_rB8,immLL_rS,immLL_rBo,immLL_rII,immLL_rIIt,dk,lz,lw,e0,l0,l1,Int.le_refl,Int.reduceLE,Int.reduceLT,drp,cnd,drp2,tk,if_true,hk,d1,d2,q0,q2,q3,List.length_map,d5];exact rfl) ?_;simp -implicitDefEqProofs (disch:=omega) only [go_sem,↓reduceIte ,dk,lz,lw,e0,l0,l1,Int.le_refl,Int.reduceLE,Int.reduceLT,drp,cnd,drp2,tk,if_true,hk,d1,d2,q0,q2,q3,List.length_map,d5]
end Go.Proofs.YtjkbngjiagknkaaGreatDoor
