/- Laws that the proof stands on. -/
import Derived.Test.YtjkbngjiagknkaaGreatDoorZg18
import Derived.Test.YtjkbngjiagknkaaGreatDoorZg15
import Derived.Test.YtjkbngjiagknkaaGreatDoorZVTab
import Derived.Test.YtjkbngjiagknkaaGreatDoorZg13
set_option linter.all false
namespace Go.Proofs.YtjkbngjiagknkaaGreatDoor
open Go.RowKit Go.V
attribute [local go_sem] List.getElem?_cons_succ List.getElem?_cons_zero List.set_cons_succ List.set_cons_zero List.map_cons List.map_nil List.length_cons List.length_nil List.all_cons List.all_nil List.drop_succ_cons List.drop_zero List.take_succ_cons List.take_zero List.flatMap_cons List.flatMap_nil List.cons_append List.nil_append List.append_nil List.headD_cons Value.oneCell' Bool.and_true Bool.true_and Bool.or_false Bool.false_or Bool.and_self Bool.not_true Bool.not_false and_true true_and beq_self_eq_true Bool.false_eq_true if_true if_false Nat.zero_add Nat.reduceAdd Nat.reduceMul Nat.reduceLeDiff Nat.le_refl Option.isSome_some Option.isSome_none not_true_eq_false not_false_eq_true ne_eq reduceCtorEq List.reverse_nil bne_self_eq_false Nat.reduceEqDiff List.isPrefixOf Bool.not_eq_true Bool.and_false Bool.false_and Bool.true_or Bool.or_true decide_true decide_false Nat.reduceBEq Nat.reduceBNe List.replicate_succ List.replicate_zero exists_eq_left' exists_eq_left Option.some.injEq or_false or_true true_or false_or Option.map_some Option.map_none mB Nat.reduceMod Nat.reduceDiv
set_option maxRecDepth 100000
def sMachine:ByteArray:=⟨⟨[109,97,99,104,105,110,101]⟩⟩
def sMove:ByteArray:=⟨⟨[109,111,118,101]⟩⟩
def sEast:ByteArray:=⟨⟨[101,97,115,116]⟩⟩
def sWest:ByteArray:=⟨⟨[119,101,115,116]⟩⟩
def rmHead (m:Machine):List ByteArray→Option Machine
  | [w0,w1,w2]=>if w0=sMachine then (match rdNums [w1,w2] with
    | some [a,b]=>some { m with States:=a,Symbols:=b }
    | _=>none) else none
  | _=>none
def rmMove (m:Machine):List ByteArray→Option Machine
  | [w0,w1,w2,w3,w4,w5]=>if w0=sMove∧(w4=sEast∨w4=sWest) then (match rdNums [w1,w2,w3,w5] with
    | some [a,b,c,d]=>some { m with Moves:=m.Moves++[⟨a,b,c,if w4=sEast then 1 else 3,d⟩] }
    | _=>none) else none
  | _=>none
def rmLine (first:Bool) (m:Machine) (w:List ByteArray):Option Machine:=if first then rmHead m w else rmMove m w
theorem rd2 (w1 w2:ByteArray):rdNums [w1,w2]=none∨∃ a b,rdNums [w1,w2]=some [a,b]:=by
  cases h:rdNums [w1,w2] with
  | none=>exact .inl rfl
  | some l =>
    have:=rdNums_len h;match l,this with
    | [a,b],_=>exact .inr ⟨a,b,rfl⟩
theorem rd4 (w1 w2 w3 w5:ByteArray):rdNums [w1,w2,w3,w5]=none∨∃ a b c d,rdNums [w1,w2,w3,w5]=some [a,b,c,d]:=by
  cases h:rdNums [w1,w2,w3,w5] with
  | none=>exact .inl rfl
  | some l =>
    have:=rdNums_len h;match l,this with
    | [a,b,c,d],_=>exact .inr ⟨a,b,c,d,rfl⟩
theorem rmHead_not {m:Machine} {w:List ByteArray} (h:w.length≠3):rmHead m w=none:=by
  unfold rmHead;split
  · simp at h
  · rfl
theorem rmMove_not {m:Machine} {w:List ByteArray} (h:w.length≠6):rmMove m w=none:=by
  unfold rmMove;split
  · simp at h
  · rfl
def code_spec_l17Line:VCode:=(.seq (.ops [
  ⟨(some 6),none,(.asg (.const (.bool false)))⟩]) (.seq (.seq (.ops [
  ⟨(some 12),none,(.mv (.tmp 2))⟩]) (.cond (.tmp 12) (.seq (.seq (.ops [
  ⟨(some 13),none,(.mv (.tmp 1))⟩,
  ⟨(some 14),none,(.len (.tmp 13))⟩,
  ⟨(some 15),none,(.bin .neq (.tmp 14) (.const (.int .i64 3)))⟩,
  ⟨(some 16),none,(.mv (.tmp 15))⟩,
  ⟨(some 17),(some (16,false)),(.mv (.tmp 1))⟩,
  ⟨(some 18),(some (16,false)),(.ia 1 (.tmp 17) (.const (.int .i64 0)))⟩,
  ⟨(some 19),(some (16,false)),(.load 1 false (.tmp 18))⟩,
  ⟨(some 20),(some (16,false)),(.bin .neq (.tmp 19) (.const (.string ⟨⟨[109,97,99,104,105,110,101]⟩⟩)))⟩,
  ⟨(some 21),none,(.pick (.tmp 16) (.const (.bool true)) (.tmp 20))⟩]) (.cond (.tmp 21) (.seq (.ops [
  ⟨(some 6),none,(.asg (.const (.bool false)))⟩]) .ret) .skip)) (.seq (.ops [
  ⟨(some 23),none,(.mv (.tmp 1))⟩,
  ⟨(some 24),none,(.slc 1 (.tmp 23) (some (.const (.int .i64 1))) none none)⟩,
  ⟨(some 25),none,(.callX 54 [(.tmp 24)])⟩,
  ⟨(some 22),none,(.mv (.tmp 25))⟩,
  ⟨(some 26),none,(.ext (.tmp 22) 0)⟩,
  ⟨(some 27),none,(.ext (.tmp 22) 1)⟩,
  ⟨(some 7),none,(.asg (.tmp 26))⟩,
  ⟨(some 8),none,(.asg (.tmp 27))⟩]) (.seq (.seq (.ops [
  ⟨(some 28),none,(.mv (.tmp 8))⟩,
  ⟨(some 29),none,(.un .not (.tmp 28))⟩]) (.cond (.tmp 29) (.seq (.ops [
  ⟨(some 6),none,(.asg (.const (.bool false)))⟩]) .ret) .skip)) (.seq (.ops [
  ⟨(some 30),none,(.mv (.tmp 0))⟩,
  ⟨(some 31),none,(.mv (.tmp 7))⟩,
  ⟨(some 32),none,(.ia 1 (.tmp 31) (.const (.int .i64 0)))⟩,
  ⟨(some 33),none,(.load 1 false (.tmp 32))⟩,
  ⟨(some 34),none,(.nilc (.tmp 30))⟩,
  ⟨(some 35),none,(.fa 0 (.tmp 34))⟩,
  ⟨none,none,(.store 1 (.tmp 35) (.tmp 33))⟩]) (.seq (.ops [
  ⟨(some 36),none,(.mv (.tmp 0))⟩,
  ⟨(some 37),none,(.mv (.tmp 7))⟩,
  ⟨(some 38),none,(.ia 1 (.tmp 37) (.const (.int .i64 1)))⟩,
  ⟨(some 39),none,(.load 1 false (.tmp 38))⟩,
  ⟨(some 40),none,(.nilc (.tmp 36))⟩,
  ⟨(some 41),none,(.fa 1 (.tmp 40))⟩,
  ⟨none,none,(.store 1 (.tmp 41) (.tmp 39))⟩]) (.seq (.ops [
  ⟨(some 6),none,(.asg (.const (.bool true)))⟩]) .ret)))))) .skip)) (.seq (.seq (.ops [
  ⟨(some 42),none,(.mv (.tmp 1))⟩,
  ⟨(some 43),none,(.len (.tmp 42))⟩,
  ⟨(some 44),none,(.bin .neq (.tmp 43) (.const (.int .i64 6)))⟩,
  ⟨(some 45),none,(.mv (.tmp 44))⟩,
  ⟨(some 46),(some (45,false)),(.mv (.tmp 1))⟩,
  ⟨(some 47),(some (45,false)),(.ia 1 (.tmp 46) (.const (.int .i64 0)))⟩,
  ⟨(some 48),(some (45,false)),(.load 1 false (.tmp 47))⟩,
  ⟨(some 49),(some (45,false)),(.bin .neq (.tmp 48) (.const (.string ⟨⟨[109,111,118,101]⟩⟩)))⟩,
  ⟨(some 50),none,(.pick (.tmp 45) (.const (.bool true)) (.tmp 49))⟩,
  ⟨(some 51),none,(.mv (.tmp 50))⟩,
  ⟨(some 52),(some (51,false)),(.mv (.tmp 1))⟩,
  ⟨(some 53),(some (51,false)),(.ia 1 (.tmp 52) (.const (.int .i64 4)))⟩,
  ⟨(some 54),(some (51,false)),(.load 1 false (.tmp 53))⟩,
  ⟨(some 55),(some (51,false)),(.bin .neq (.tmp 54) (.const (.string ⟨⟨[101,97,115,116]⟩⟩)))⟩,
  ⟨(some 56),(some (51,false)),(.mv (.tmp 55))⟩,
  ⟨(some 57),(some (56,true)),(.mv (.tmp 1))⟩,
  ⟨(some 58),(some (56,true)),(.ia 1 (.tmp 57) (.const (.int .i64 4)))⟩,
  ⟨(some 59),(some (56,true)),(.load 1 false (.tmp 58))⟩,
  ⟨(some 60),(some (56,true)),(.bin .neq (.tmp 59) (.const (.string ⟨⟨[119,101,115,116]⟩⟩)))⟩,
  ⟨(some 61),(some (51,false)),(.pick (.tmp 56) (.tmp 60) (.const (.bool false)))⟩,
  ⟨(some 62),none,(.pick (.tmp 51) (.const (.bool true)) (.tmp 61))⟩]) (.cond (.tmp 62) (.seq (.ops [
  ⟨(some 6),none,(.asg (.const (.bool false)))⟩]) .ret) .skip)) (.seq (.draw (mB 80 1208916596242592319930880) (mB 79 345396836036137644457984) [⟨0,(mB 80 1208916596242592319930880),[],⟨(some 64),none,(.mv (.tmp 1))⟩⟩,⟨1,(mB 80 1208898149498518610379264),[],⟨(some 65),none,(.ia 1 (.tmp 64) (.const (.int .i64 1)))⟩⟩,⟨2,(mB 80 1208861256010371191276032),[],⟨(some 66),none,(.load 1 false (.tmp 65))⟩⟩,⟨3,(mB 80 1208916596242592319930880),[],⟨(some 67),none,(.mv (.tmp 1))⟩⟩,⟨4,(mB 80 1208769022290002643517952),[],⟨(some 68),none,(.ia 1 (.tmp 67) (.const (.int .i64 2)))⟩⟩,⟨5,(mB 80 1208473874384823290692096),[],⟨(some 69),none,(.load 1 false (.tmp 68))⟩⟩,⟨6,(mB 80 1208916596242592319930880),[],⟨(some 70),none,(.mv (.tmp 1))⟩⟩,⟨7,(mB 80 1207736004621874908627456),[],⟨(some 71),none,(.ia 1 (.tmp 70) (.const (.int .i64 3)))⟩⟩,⟨8,(mB 80 1205374821380440086020608),[],⟨(some 72),none,(.load 1 false (.tmp 71))⟩⟩,⟨9,(mB 80 1208916596242592319930880),[],⟨(some 73),none,(.mv (.tmp 1))⟩⟩,⟨10,(mB 80 1199471863276853029503488),[],⟨(some 74),none,(.ia 1 (.tmp 73) (.const (.int .i64 5)))⟩⟩,⟨11,(mB 80 1180582397345374448648704),[],⟨(some 75),none,(.load 1 false (.tmp 74))⟩⟩,⟨12,(mB 80 1133377179260751706063360),(mB 76 43165381132480350781440),⟨(some 76),none,(.bslN 1 [(.tmp 66),(.tmp 69),(.tmp 72),(.tmp 75)])⟩⟩,⟨13,(mB 80 1100984696667317733425664),[],⟨(some 77),none,(.call 54 [(.tmp 76)])⟩⟩,⟨14,(mB 80 949868969215489086587392),[],⟨(some 63),none,(.mv (.tmp 77))⟩⟩,⟨15,(mB 80 949859745843452231811584),[],⟨(some 78),none,(.extN (.tmp 63) 0)⟩⟩,⟨16,(mB 80 949859745843452231811584),[],⟨(some 79),none,(.extN (.tmp 63) 1)⟩⟩,⟨17,(mB 80 647628290939794938135040),(mB 79 302231454903657293676544),⟨(some 9),none,(.asg (.tmp 78))⟩⟩] [⟨(some 10),none,(.asg (.tmp 79))⟩]) (.seq (.seq (.ops [
  ⟨(some 80),none,(.mv (.tmp 10))⟩,
  ⟨(some 81),none,(.un .not (.tmp 80))⟩]) (.cond (.tmp 81) (.seq (.ops [
  ⟨(some 6),none,(.asg (.const (.bool false)))⟩]) .ret) .skip)) (.seq (.ops [
  ⟨(some 11),none,(.asg (.const (.int .i64 3)))⟩]) (.seq (.seq (.ops [
  ⟨(some 82),none,(.mv (.tmp 1))⟩,
  ⟨(some 83),none,(.ia 1 (.tmp 82) (.const (.int .i64 4)))⟩,
  ⟨(some 84),none,(.load 1 false (.tmp 83))⟩,
  ⟨(some 85),none,(.bin .eql (.tmp 84) (.const (.string ⟨⟨[101,97,115,116]⟩⟩)))⟩]) (.cond (.tmp 85) (.ops [
  ⟨(some 11),none,(.asg (.const (.int .i64 1)))⟩]) .skip)) (.seq (.drawW (mB 107 162259199457960908055310829092864) (mB 106 72980279135991023346128070377472) [⟨1,(mB 107 162259199457960908055310829092864),[],⟨(some 87),none,(.mv (.tmp 0))⟩⟩,⟨2,(mB 107 162259044715455997382776466702336),[],⟨(some 88),none,(.nilc (.tmp 87))⟩⟩,⟨3,(mB 107 162258735230446176037707741921280),[],⟨(some 89),none,(.fa 2 (.tmp 88))⟩⟩,⟨4,(mB 107 162258116260426533347570292359168),[],⟨(some 90),none,(.load 1 false (.tmp 89))⟩⟩,⟨5,(mB 107 162259199457960908055310829092864),[],⟨(some 91),none,(.mv (.tmp 9))⟩⟩,⟨6,(mB 107 162256723577882337294761030844416),[],⟨(some 92),none,(.ia 1 (.tmp 91) (.const (.int .i64 0)))⟩⟩,⟨7,(mB 107 162251771817725195773661434347520),[],⟨(some 93),none,(.load 1 false (.tmp 92))⟩⟩,⟨8,(mB 107 162259199457960908055310829092864),[],⟨(some 94),none,(.mv (.tmp 9))⟩⟩,⟨9,(mB 107 162239392417332341970912443105280),[],⟨(some 95),none,(.ia 1 (.tmp 94) (.const (.int .i64 1)))⟩⟩,⟨10,(mB 107 162199778336075209802115671130112),[],⟨(some 96),none,(.load 1 false (.tmp 95))⟩⟩,⟨11,(mB 107 162259199457960908055310829092864),[],⟨(some 97),none,(.mv (.tmp 9))⟩⟩,⟨12,(mB 107 162100743132932379380123741192192),[],⟨(some 98),none,(.ia 1 (.tmp 97) (.const (.int .i64 2)))⟩⟩,⟨13,(mB 107 161783830482875322029749565390848),[],⟨(some 99),none,(.load 1 false (.tmp 98))⟩⟩,⟨14,(mB 107 162259199457960908055310829092864),[],⟨(some 100),none,(.mv (.tmp 11))⟩⟩,⟨15,(mB 107 162259199457960908055310829092864),[],⟨(some 101),none,(.mv (.tmp 9))⟩⟩,⟨16,(mB 107 159723898257504449252317422682112),[],⟨(some 102),none,(.ia 1 (.tmp 101) (.const (.int .i64 3)))⟩⟩,⟨17,(mB 107 154653295856591531646330609860608),[],⟨(some 103),none,(.load 1 false (.tmp 102))⟩⟩,⟨18,(mB 107 141979265734387808391913376055296),(mB 104 12131812384996726694011417395200),⟨(some 104),none,(.build [(.int .i64 0),(.int .i64 0),(.int .i64 0),(.int .i64 0),(.int .i64 0)] [(0,1,(.tmp 93)),(1,1,(.tmp 96)),(2,1,(.tmp 99)),(3,1,(.tmp 100)),(4,1,(.tmp 103))])⟩⟩,⟨19,(mB 107 133828668515732864661977542164480),(mB 105 20282409603651670423947251286016),⟨(some 105),none,(.bslN 5 [(.tmp 104)])⟩⟩] ⟨20,(mB 107 113543937774507534150014855020544),(mB 106 40566057147342626228169401696256),⟨(some 106),none,(.app 5 40 (.tmp 90) (.tmp 105))⟩⟩ [⟨0,(mB 107 162259199457960908055310829092864),[],⟨(some 86),none,(.mv (.tmp 0))⟩⟩] [⟨(some 107),none,(.nilc (.tmp 86))⟩,⟨(some 108),none,(.fa 2 (.tmp 107))⟩,⟨none,none,(.store 1 (.tmp 108) (.tmp 106))⟩]) (.seq (.ops [
  ⟨(some 6),none,(.asg (.const (.bool true)))⟩]) .ret)))))))))
theorem law_spec_l17Line {a0 a1 a2 d:D} {cells cells':List D} (h:∀ b,code_spec_l17Line.wp (CT Tryz.prog TabG) (endX [(.t 6)] d 0 b cells') [.box (some b) cells,a1,a2,.undef,.undef,.undef,.undef,.undef,.undef,.undef,.undef,.undef,.undef,.undef,.undef,.undef,.undef,.undef,.undef,.undef,.undef,.undef,.undef,.undef,.undef,.undef,.undef,.undef,.undef,.undef,.undef,.undef,.undef,.undef,.undef,.undef,.undef,.undef,.undef,.undef,.undef,.undef,.undef,.undef,.undef,.undef,.undef,.undef,.undef,.undef,.undef,.undef,.undef,.undef,.undef,.undef,.undef,.undef,.undef,.undef,.undef,.undef,.undef,.undef,.undef,.undef,.undef,.undef,.undef,.undef,.undef,.undef,.undef,.undef,.undef,.undef,.undef,.undef,.undef,.undef,.undef,.undef,.undef,.undef,.undef,.undef,.undef,.undef,.undef,.undef,.undef,.undef,.undef,.undef,.undef,.undef,.undef,.undef,.undef,.undef,.undef,.undef,.undef,.undef,.undef,.undef,.undef,.undef,.undef]):ContractX Tryz.prog TabG 22 0 [a0,a1,a2] cells d cells' :=
  contract_ofX (pt:=0) tabG Tryz.func22 (fun us W=>by kernel_rfl) (c:=Tryz.f22.body.getD .skip) (ms:=[]) (ms':=[]) (by kernel_rfl) (by kernel_rfl) (by kernel_rfl) (by simp) h
set_option maxHeartbeats 4000000 in
theorem v_l17Head (m:Machine) (w:List ByteArray) (hw:∀ x,x∈w→x.size≤1048576) (hl:w.length≤1048577) (hm:m.Moves.length≤1048577) :
    ContractX Tryz.prog TabG 22 0 [.undef,.sl false 1 (w.map rS),.v (.bool true)] (Machine.td.d true m) (.v (.bool (rmHead m w).isSome)) (Machine.td.d true ((rmHead m w).getD m)):=by
  rw [Machine.td_d,Machine.td_d];refine law_spec_l17Line ?_;intro bb;unfold code_spec_l17Line;have n3:decide ((3:Int)=3)=true:=rfl;have n6:decide ((6:Int)=6)=true:=rfl;by_cases h3:w.length=3
  · obtain ⟨w0,w1,w2,rfl⟩:=len3 h3;obtain ⟨L,hwd,hLe⟩:∃ L,Wd L [w0,w1,w2]∧[w0,w1,w2].map rS=L:=⟨_,wd_map _,rfl⟩
    have drp:List.drop (Int.toNat 1) L=[w1,w2].map rS:=(by rw [← hLe];rfl);rw [hLe];have lw:(L.length:Int)=3:=(by rw [hwd.len];rfl);have e0:L[Int.toNat 0]?=some [.v (.string w0)]:=hwd.at' 0 (by simp);have e1:L[Int.toNat 1]?=some [.v (.string w1)]:=hwd.at' 1 (by simp);have e2:L[Int.toNat 2]?=some [.v (.string w2)]:=hwd.at' 2 (by simp);by_cases hc:w0=sMachine
    · have hc1:decide (w0=(⟨⟨[109,97,99,104,105,110,101]⟩⟩:ByteArray))=true:=decide_eq_true hc;have hv:=v_l17Numbers [w1,w2] (fun x hx=>hw x (List.mem_cons_of_mem _ hx)) (by simp);rcases rd2 w1 w2 with h2 | ⟨a,b,h2⟩
      · have hN:rmHead m [w0,w1,w2]=none:=(by unfold rmHead;simp only [h2];split <;> rfl);rw [hN];rw [h2] at hv;simp -implicitDefEqProofs (disch:=omega) only [go_sem,↓reduceIte ,lw,n3,e0,Int.le_refl,Int.reduceLE,Int.reduceLT,drp,hc1];refine call_B (hv) (by simp -implicitDefEqProofs (disch:=omega) only [go_sem,↓reduceIte,deep,TD.rows,immLL_rI,immLL_rB8,immLL_rS,immLL_rBo,immLL_rII,immLL_rIIt];exact rfl) ?_;simp -implicitDefEqProofs (disch:=omega) only [go_sem,↓reduceIte];exact ⟨rfl,rfl,rfl⟩
      · have hN:rmHead m [w0,w1,w2]=some { m with States:=a,Symbols:=b }:=(by unfold rmHead;simp only [h2];rw [if_pos hc]);rw [hN];rw [h2] at hv;simp only [Option.getD_some,Option.isSome_some] at hv;simp -implicitDefEqProofs (disch:=omega) only [go_sem,↓reduceIte ,lw,n3,e0,Int.le_refl,Int.reduceLE,Int.reduceLT,drp,hc1];refine call_B (hv) (by simp -implicitDefEqProofs (disch:=omega) only [go_sem,↓reduceIte,deep,TD.rows,immLL_rI,immLL_rB8,immLL_rS,immLL_rBo,immLL_rII,immLL_rIIt,rI,Int.cast_ofNat_Int,Int.reduceToNat,Int.le_refl,Int.reduceLE,Int.reduceLT];exact rfl) ?_;simp -implicitDefEqProofs (disch:=omega) only [go_sem,↓reduceIte ,rI,Int.cast_ofNat_Int,Int.reduceToNat,Int.le_refl,Int.reduceLE,Int.reduceLT];exact ⟨rfl,rfl,rfl⟩
    · have hc1:decide (w0=(⟨⟨[109,97,99,104,105,110,101]⟩⟩:ByteArray))=false:=decide_eq_false hc;have hN:rmHead m [w0,w1,w2]=none:=(by unfold rmHead;simp only;rw [if_neg hc]);rw [hN];simp -implicitDefEqProofs (disch:=omega) only [go_sem,↓reduceIte ,lw,n3,e0,Int.le_refl,Int.reduceLE,Int.reduceLT,drp,hc1];exact ⟨rfl,rfl,rfl⟩
  · have d1:decide ((w.length:Int)=3)=false:=decide_eq_false (by omega);rw [rmHead_not h3];simp -implicitDefEqProofs (disch:=omega) only [go_sem,↓reduceIte ,List.length_map,d1];exact ⟨rfl,rfl,rfl⟩
set_option maxHeartbeats 40000000 in
theorem v_l17Move_a (m:Machine) (w0 w1 w2 w3 w4 w5:ByteArray) (hw:∀ x,x∈[w0,w1,w2,w3,w4,w5]→x.size≤1048576) (hm:m.Moves.length≤1048577) (hc1:decide (w0=sMove)=false) :
    ContractX Tryz.prog TabG 22 0 [.undef,.sl false 1 ([w0,w1,w2,w3,w4,w5].map rS),.v (.bool false)] (Machine.td.d true m) (.v (.bool false)) (Machine.td.d true m):=by
  rw [Machine.td_d];refine law_spec_l17Line ?_;intro bb;unfold code_spec_l17Line;have n6:decide ((6:Int)=6)=true:=rfl;obtain ⟨L,hwd,hLe⟩:∃ L,Wd L [w0,w1,w2,w3,w4,w5]∧[w0,w1,w2,w3,w4,w5].map rS=L:=⟨_,wd_map _,rfl⟩
  rw [hLe];have lw:(L.length:Int)=6:=by rw [hwd.len];rfl
  have e0:L[Int.toNat 0]?=some [.v (.string w0)]:=hwd.at' 0 (by simp);have e1:L[Int.toNat 1]?=some [.v (.string w1)]:=hwd.at' 1 (by simp);have e2:L[Int.toNat 2]?=some [.v (.string w2)]:=hwd.at' 2 (by simp);have e3:L[Int.toNat 3]?=some [.v (.string w3)]:=hwd.at' 3 (by simp);have e4:L[Int.toNat 4]?=some [.v (.string w4)]:=hwd.at' 4 (by simp);have e5:L[Int.toNat 5]?=some [.v (.string w5)]:=hwd.at' 5 (by simp);have hc1:decide (w0=(⟨⟨[109,111,118,101]⟩⟩:ByteArray))=false:=hc1;simp -implicitDefEqProofs (disch:=omega) only [go_sem,↓reduceIte ,lw,n6,e0,e1,e2,e3,e4,e5,Int.le_refl,Int.reduceLE,Int.reduceLT,hc1]
set_option maxHeartbeats 40000000 in
theorem v_l17Move_b (m:Machine) (w0 w1 w2 w3 w4 w5:ByteArray) (hw:∀ x,x∈[w0,w1,w2,w3,w4,w5]→x.size≤1048576) (hm:m.Moves.length≤1048577) (hc1:decide (w0=sMove)=true) (he1:decide (w4=sEast)=false) (hs1:decide (w4=sWest)=false) :
    ContractX Tryz.prog TabG 22 0 [.undef,.sl false 1 ([w0,w1,w2,w3,w4,w5].map rS),.v (.bool false)] (Machine.td.d true m) (.v (.bool false)) (Machine.td.d true m):=by
  rw [Machine.td_d];refine law_spec_l17Line ?_;intro bb;unfold code_spec_l17Line;have n6:decide ((6:Int)=6)=true:=rfl;obtain ⟨L,hwd,hLe⟩:∃ L,Wd L [w0,w1,w2,w3,w4,w5]∧[w0,w1,w2,w3,w4,w5].map rS=L:=⟨_,wd_map _,rfl⟩
  rw [hLe];have lw:(L.length:Int)=6:=by rw [hwd.len];rfl
  have e0:L[Int.toNat 0]?=some [.v (.string w0)]:=hwd.at' 0 (by simp);have e1:L[Int.toNat 1]?=some [.v (.string w1)]:=hwd.at' 1 (by simp);have e2:L[Int.toNat 2]?=some [.v (.string w2)]:=hwd.at' 2 (by simp);have e3:L[Int.toNat 3]?=some [.v (.string w3)]:=hwd.at' 3 (by simp);have e4:L[Int.toNat 4]?=some [.v (.string w4)]:=hwd.at' 4 (by simp);have e5:L[Int.toNat 5]?=some [.v (.string w5)]:=hwd.at' 5 (by simp);have hc1:decide (w0=(⟨⟨[109,111,118,101]⟩⟩:ByteArray))=true:=hc1;have he1:decide (w4=(⟨⟨[101,97,115,116]⟩⟩:ByteArray))=false:=he1;have hs1:decide (w4=(⟨⟨[119,101,115,116]⟩⟩:ByteArray))=false:=hs1;simp -implicitDefEqProofs (disch:=omega) only [go_sem,↓reduceIte ,lw,n6,e0,e1,e2,e3,e4,e5,Int.le_refl,Int.reduceLE,Int.reduceLT,hc1,he1,hs1]
set_option maxHeartbeats 40000000 in
theorem v_l17Move_east_no (m:Machine) (w0 w1 w2 w3 w4 w5:ByteArray) (hw:∀ x,x∈[w0,w1,w2,w3,w4,w5]→x.size≤1048576) (hm:m.Moves.length≤1048577) (hc1:decide (w0=sMove)=true) (he1:decide (w4=sEast)=true) (h2:rdNums [w1,w2,w3,w5]=none) :
    ContractX Tryz.prog TabG 22 0 [.undef,.sl false 1 ([w0,w1,w2,w3,w4,w5].map rS),.v (.bool false)] (Machine.td.d true m) (.v (.bool false)) (Machine.td.d true m):=by
  rw [Machine.td_d];refine law_spec_l17Line ?_;intro bb;unfold code_spec_l17Line;have n6:decide ((6:Int)=6)=true:=rfl;obtain ⟨L,hwd,hLe⟩:∃ L,Wd L [w0,w1,w2,w3,w4,w5]∧[w0,w1,w2,w3,w4,w5].map rS=L:=⟨_,wd_map _,rfl⟩
  rw [hLe];have lw:(L.length:Int)=6:=by rw [hwd.len];rfl
  have e0:L[Int.toNat 0]?=some [.v (.string w0)]:=hwd.at' 0 (by simp);have e1:L[Int.toNat 1]?=some [.v (.string w1)]:=hwd.at' 1 (by simp);have e2:L[Int.toNat 2]?=some [.v (.string w2)]:=hwd.at' 2 (by simp);have e3:L[Int.toNat 3]?=some [.v (.string w3)]:=hwd.at' 3 (by simp);have e4:L[Int.toNat 4]?=some [.v (.string w4)]:=hwd.at' 4 (by simp);have e5:L[Int.toNat 5]?=some [.v (.string w5)]:=hwd.at' 5 (by simp);have hc1:decide (w0=(⟨⟨[109,111,118,101]⟩⟩:ByteArray))=true:=hc1;have he1:decide (w4=(⟨⟨[101,97,115,116]⟩⟩:ByteArray))=true:=he1;have hv:=v_l17Numbers [w1,w2,w3,w5] (fun x hx=>hw x (by simp only [List.mem_cons,List.not_mem_nil,or_false] at hx ⊢;rcases hx with h | h | h | h <;> simp [h])) (by simp);rw [h2] at hv;simp -implicitDefEqProofs (disch:=omega) only [go_sem,↓reduceIte ,lw,n6,e0,e1,e2,e3,e4,e5,Int.le_refl,Int.reduceLE,Int.reduceLT,hc1,he1];refine call_IB (hv) (by simp -implicitDefEqProofs (disch:=omega) only [go_sem,↓reduceIte,deep,TD.rows,immLL_rI,immLL_rB8,immLL_rS,immLL_rBo,immLL_rII,immLL_rIIt];exact rfl) ?_;simp -implicitDefEqProofs (disch:=omega) only [go_sem,↓reduceIte ,D.imm,immL,immLL]
set_option maxHeartbeats 40000000 in
theorem v_l17Move_west_no (m:Machine) (w0 w1 w2 w3 w4 w5:ByteArray) (hw:∀ x,x∈[w0,w1,w2,w3,w4,w5]→x.size≤1048576) (hm:m.Moves.length≤1048577) (hc1:decide (w0=sMove)=true) (he1:decide (w4=sEast)=false) (hs1:decide (w4=sWest)=true) (h2:rdNums [w1,w2,w3,w5]=none) :
    ContractX Tryz.prog TabG 22 0 [.undef,.sl false 1 ([w0,w1,w2,w3,w4,w5].map rS),.v (.bool false)] (Machine.td.d true m) (.v (.bool false)) (Machine.td.d true m):=by
  rw [Machine.td_d];refine law_spec_l17Line ?_;intro bb;unfold code_spec_l17Line;have n6:decide ((6:Int)=6)=true:=rfl;obtain ⟨L,hwd,hLe⟩:∃ L,Wd L [w0,w1,w2,w3,w4,w5]∧[w0,w1,w2,w3,w4,w5].map rS=L:=⟨_,wd_map _,rfl⟩
  rw [hLe];have lw:(L.length:Int)=6:=by rw [hwd.len];rfl
  have e0:L[Int.toNat 0]?=some [.v (.string w0)]:=hwd.at' 0 (by simp);have e1:L[Int.toNat 1]?=some [.v (.string w1)]:=hwd.at' 1 (by simp);have e2:L[Int.toNat 2]?=some [.v (.string w2)]:=hwd.at' 2 (by simp);have e3:L[Int.toNat 3]?=some [.v (.string w3)]:=hwd.at' 3 (by simp);have e4:L[Int.toNat 4]?=some [.v (.string w4)]:=hwd.at' 4 (by simp);have e5:L[Int.toNat 5]?=some [.v (.string w5)]:=hwd.at' 5 (by simp);have hc1:decide (w0=(⟨⟨[109,111,118,101]⟩⟩:ByteArray))=true:=hc1;have he1:decide (w4=(⟨⟨[101,97,115,116]⟩⟩:ByteArray))=false:=he1;have hs1:decide (w4=(⟨⟨[119,101,115,116]⟩⟩:ByteArray))=true:=hs1;have hv:=v_l17Numbers [w1,w2,w3,w5] (fun x hx=>hw x (by simp only [List.mem_cons,List.not_mem_nil,or_false] at hx ⊢;rcases hx with h | h | h | h <;> simp [h])) (by simp);rw [h2] at hv;simp -implicitDefEqProofs (disch:=omega) only [go_sem,↓reduceIte ,lw,n6,e0,e1,e2,e3,e4,e5,Int.le_refl,Int.reduceLE,Int.reduceLT,hc1,he1,hs1];refine call_IB (hv) (by simp -implicitDefEqProofs (disch:=omega) only [go_sem,↓reduceIte,deep,TD.rows,immLL_rI,immLL_rB8,immLL_rS,immLL_rBo,immLL_rII,immLL_rIIt];exact rfl) ?_;simp -implicitDefEqProofs (disch:=omega) only [go_sem,↓reduceIte ,D.imm,immL,immLL]
set_option maxHeartbeats 40000000 in
theorem v_l17Move_east (m:Machine) (w0 w1 w2 w3 w4 w5:ByteArray) (hw:∀ x,x∈[w0,w1,w2,w3,w4,w5]→x.size≤1048576) (hm:m.Moves.length≤1048577) (hc1:decide (w0=sMove)=true) (he1:decide (w4=sEast)=true) (a b c d:Int) (h2:rdNums [w1,w2,w3,w5]=some [a,b,c,d]) :
    ContractX Tryz.prog TabG 22 0 [.undef,.sl false 1 ([w0,w1,w2,w3,w4,w5].map rS),.v (.bool false)] (Machine.td.d true m) (.v (.bool true)) (Machine.td.d true { m with Moves:=m.Moves++[⟨a,b,c,1,d⟩] }):=by
  rw [Machine.td_d,Machine.td_d];refine law_spec_l17Line ?_;intro bb;unfold code_spec_l17Line;have n6:decide ((6:Int)=6)=true:=rfl;obtain ⟨L,hwd,hLe⟩:∃ L,Wd L [w0,w1,w2,w3,w4,w5]∧[w0,w1,w2,w3,w4,w5].map rS=L:=⟨_,wd_map _,rfl⟩
  rw [hLe];have lw:(L.length:Int)=6:=by rw [hwd.len];rfl
  have e0:L[Int.toNat 0]?=some [.v (.string w0)]:=hwd.at' 0 (by simp);have e1:L[Int.toNat 1]?=some [.v (.string w1)]:=hwd.at' 1 (by simp);have e2:L[Int.toNat 2]?=some [.v (.string w2)]:=hwd.at' 2 (by simp);have e3:L[Int.toNat 3]?=some [.v (.string w3)]:=hwd.at' 3 (by simp);have e4:L[Int.toNat 4]?=some [.v (.string w4)]:=hwd.at' 4 (by simp);have e5:L[Int.toNat 5]?=some [.v (.string w5)]:=hwd.at' 5 (by simp);have hc1:decide (w0=(⟨⟨[109,111,118,101]⟩⟩:ByteArray))=true:=hc1;have he1:decide (w4=(⟨⟨[101,97,115,116]⟩⟩:ByteArray))=true:=he1;have hv:=v_l17Numbers [w1,w2,w3,w5] (fun x hx=>hw x (by simp only [List.mem_cons,List.not_mem_nil,or_false] at hx ⊢;rcases hx with h | h | h | h <;> simp [h])) (by simp);rw [h2] at hv;simp only [Option.getD_some,Option.isSome_some] at hv;have e4q:L[4]?=some [.v (.string w4)]:=e4;have hsm:((m.Moves.map (Move.td.d true)).length+1)*(40+1)≤2 ^ 40:=(by rw [List.length_map];omega);simp -implicitDefEqProofs (disch:=omega) only [go_sem,↓reduceIte ,lw,n6,e0,e1,e2,e3,e4,e5,Int.le_refl,Int.reduceLE,Int.reduceLT,hc1,he1];refine call_IB (hv) (by simp -implicitDefEqProofs (disch:=omega) only [go_sem,↓reduceIte,deep,TD.rows,immLL_rI,immLL_rB8,immLL_rS,immLL_rBo,immLL_rII,immLL_rIIt];exact rfl) ?_;simp -implicitDefEqProofs (disch:=omega) only [go_sem,↓reduceIte ,D.imm,immL,immLL];simp (maxSteps:=4000000) -implicitDefEqProofs (disch:=omega) only [go_sem,↓reduceIte ,rI,Int.cast_ofNat_Int,Int.reduceToNat,Int.le_refl,Int.reduceLE,Int.reduceLT,lw,e4q,he1];exact ⟨by rw [List.length_map];omega,by rw [List.map_append];rfl⟩
set_option maxHeartbeats 40000000 in
theorem v_l17Move_west (m:Machine) (w0 w1 w2 w3 w4 w5:ByteArray) (hw:∀ x,x∈[w0,w1,w2,w3,w4,w5]→x.size≤1048576) (hm:m.Moves.length≤1048577) (hc1:decide (w0=sMove)=true) (he1:decide (w4=sEast)=false) (hs1:decide (w4=sWest)=true) (a b c d:Int) (h2:rdNums [w1,w2,w3,w5]=some [a,b,c,d]) :
    ContractX Tryz.prog TabG 22 0 [.undef,.sl false 1 ([w0,w1,w2,w3,w4,w5].map rS),.v (.bool false)] (Machine.td.d true m) (.v (.bool true)) (Machine.td.d true { m with Moves:=m.Moves++[⟨a,b,c,3,d⟩] }):=by
  rw [Machine.td_d,Machine.td_d];refine law_spec_l17Line ?_;intro bb;unfold code_spec_l17Line;have n6:decide ((6:Int)=6)=true:=rfl;obtain ⟨L,hwd,hLe⟩:∃ L,Wd L [w0,w1,w2,w3,w4,w5]∧[w0,w1,w2,w3,w4,w5].map rS=L:=⟨_,wd_map _,rfl⟩
  rw [hLe];have lw:(L.length:Int)=6:=by rw [hwd.len];rfl
  have e0:L[Int.toNat 0]?=some [.v (.string w0)]:=hwd.at' 0 (by simp);have e1:L[Int.toNat 1]?=some [.v (.string w1)]:=hwd.at' 1 (by simp);have e2:L[Int.toNat 2]?=some [.v (.string w2)]:=hwd.at' 2 (by simp);have e3:L[Int.toNat 3]?=some [.v (.string w3)]:=hwd.at' 3 (by simp);have e4:L[Int.toNat 4]?=some [.v (.string w4)]:=hwd.at' 4 (by simp);have e5:L[Int.toNat 5]?=some [.v (.string w5)]:=hwd.at' 5 (by simp);have hc1:decide (w0=(⟨⟨[109,111,118,101]⟩⟩:ByteArray))=true:=hc1;have he1:decide (w4=(⟨⟨[101,97,115,116]⟩⟩:ByteArray))=false:=he1;have hs1:decide (w4=(⟨⟨[119,101,115,116]⟩⟩:ByteArray))=true:=hs1;have hv:=v_l17Numbers [w1,w2,w3,w5] (fun x hx=>hw x (by simp only [List.mem_cons,List.not_mem_nil,or_false] at hx ⊢;rcases hx with h | h | h | h <;> simp [h])) (by simp);rw [h2] at hv;simp only [Option.getD_some,Option.isSome_some] at hv;have e4q:L[4]?=some [.v (.string w4)]:=e4;have hsm:((m.Moves.map (Move.td.d true)).length+1)*(40+1)≤2 ^ 40:=(by rw [List.length_map];omega);simp -implicitDefEqProofs (disch:=omega) only [go_sem,↓reduceIte ,lw,n6,e0,e1,e2,e3,e4,e5,Int.le_refl,Int.reduceLE,Int.reduceLT,hc1,he1,hs1];refine call_IB (hv) (by simp -implicitDefEqProofs (disch:=omega) only [go_sem,↓reduceIte,deep,TD.rows,immLL_rI,immLL_rB8,immLL_rS,immLL_rBo,immLL_rII,immLL_rIIt];exact rfl) ?_;simp -implicitDefEqProofs (disch:=omega) only [go_sem,↓reduceIte ,D.imm,immL,immLL];simp (maxSteps:=4000000) -implicitDefEqProofs (disch:=omega) only [go_sem,↓reduceIte ,rI,Int.cast_ofNat_Int,Int.reduceToNat,Int.le_refl,Int.reduceLE,Int.reduceLT,lw,e4q,he1,hs1];exact ⟨by rw [List.length_map];omega,by rw [List.map_append];rfl⟩
theorem v_l17Line (m:Machine) (w:List ByteArray) (first:Bool) (hw:∀ x,x∈w→x.size≤1048576) (hl:w.length≤1048577) (hm:m.Moves.length≤1048577) :
    ContractX Tryz.prog TabG 22 0 [.undef,.sl false 1 (w.map rS),.v (.bool first)] (Machine.td.d true m) (.v (.bool (rmLine first m w).isSome)) (Machine.td.d true ((rmLine first m w).getD m)):=by
  cases first with
  | true=>exact v_l17Head m w hw hl hm
  | false =>
    show ContractX Tryz.prog TabG 22 0 [.undef,.sl false 1 (w.map rS),.v (.bool false)] (Machine.td.d true m) (.v (.bool (rmMove m w).isSome)) (Machine.td.d true ((rmMove m w).getD m));by_cases h6:w.length=6
    · obtain ⟨w0,w1,w2,w3,w4,w5,rfl⟩:=len6 h6;cases hc:decide (w0=sMove) with
      | false=>have hN:rmMove m [w0,w1,w2,w3,w4,w5]=none:=(by unfold rmMove;simp only;rw [if_neg (fun h=>of_decide_eq_false hc h.1)]);rw [hN];exact v_l17Move_a m w0 w1 w2 w3 w4 w5 hw hm hc
      | true =>
        have hc':=of_decide_eq_true hc;cases he:decide (w4=sEast) with
        | true =>
          have he':=of_decide_eq_true he;rcases rd4 w1 w2 w3 w5 with h2 | ⟨a,b,c,d,h2⟩
          · have hN:rmMove m [w0,w1,w2,w3,w4,w5]=none:=(by unfold rmMove;simp only [h2];split <;> rfl);rw [hN];exact v_l17Move_east_no m w0 w1 w2 w3 w4 w5 hw hm hc he h2
          · have hN:rmMove m [w0,w1,w2,w3,w4,w5]=some { m with Moves:=m.Moves++[⟨a,b,c,1,d⟩] }:=(by unfold rmMove;simp only [h2];rw [if_pos ⟨hc',.inl he'⟩,if_pos he']);rw [hN];exact v_l17Move_east m w0 w1 w2 w3 w4 w5 hw hm hc he a b c d h2
        | false =>
          have he':=of_decide_eq_false he;cases hs:decide (w4=sWest) with
          | true =>
            have hs':=of_decide_eq_true hs;rcases rd4 w1 w2 w3 w5 with h2 | ⟨a,b,c,d,h2⟩
            · have hN:rmMove m [w0,w1,w2,w3,w4,w5]=none:=(by unfold rmMove;simp only [h2];split <;> rfl);rw [hN];exact v_l17Move_west_no m w0 w1 w2 w3 w4 w5 hw hm hc he hs h2
            · have hN:rmMove m [w0,w1,w2,w3,w4,w5]=some { m with Moves:=m.Moves++[⟨a,b,c,3,d⟩] }:=(by unfold rmMove;simp only [h2];rw [if_pos ⟨hc',.inr hs'⟩,if_neg he']);rw [hN];exact v_l17Move_west m w0 w1 w2 w3 w4 w5 hw hm hc he hs a b c d h2
          | false=>have hs':=of_decide_eq_false hs;have hN:rmMove m [w0,w1,w2,w3,w4,w5]=none:=(by unfold rmMove;simp only;rw [if_neg (fun h=>h.2.elim he' hs')]);rw [hN];exact v_l17Move_b m w0 w1 w2 w3 w4 w5 hw hm hc he hs
    · rw [rmMove_not h6];show ContractX Tryz.prog TabG 22 0 [.undef,.sl false 1 (w.map rS),.v (.bool false)] (Machine.td.d true m) (.v (.bool false)) (Machine.td.d true m);rw [Machine.td_d];refine law_spec_l17Line ?_;intro bb;unfold code_spec_l17Line;have d1:decide ((w.length:Int)=6)=false:=decide_eq_false (by omega);simp -implicitDefEqProofs (disch:=omega) only [go_sem,↓reduceIte ,List.length_map,d1]
def mc0:Machine:=⟨0,0,[]⟩
def rmSt (i:Nat) (m:Machine) (l:ByteArray):Except Int Machine:=match rmLine (decide (i=0)) m (wordsB l) with
  | some m'=>.ok m'
  | none=>.error 6
def ReadMachineR (b:ByteArray):Machine × Int × Int:=if 20000 < b.size then (mc0,0,2) else match rdFold rmSt (linesB b) 0 mc0 with
  | .error (k,c)=>(mc0,(k:Int),c)
  | .ok m=>if okMach m then (m,0,0) else (mc0,0,1)
theorem rmLine_len {f:Bool} {m m':Machine} {w:List ByteArray} (h:rmLine f m w=some m'):m'.Moves.length≤m.Moves.length+1:=by
  unfold rmLine at h;split at h
  · unfold rmHead at h;split at h
    · split at h
      · split at h
        · cases h;exact Nat.le_succ _
        · cases h
      · cases h
    · cases h
  · unfold rmMove at h;split at h
    · split at h
      · split at h
        · cases h;simp
        · cases h
      · cases h
    · cases h
def code_spec_ReadMachine:VCode:=(.seq (.ops [
  ⟨(some 2),none,(.alloc [(.int .i64 0),(.int .i64 0),(.slice none 0 0)])⟩,
  ⟨(some 3),none,(.asg (.const (.int .i64 0)))⟩,
  ⟨(some 4),none,(.asg (.const (.int .i64 0)))⟩]) (.seq (.seq (.ops [
  ⟨(some 8),none,(.mv (.tmp 0))⟩,
  ⟨(some 9),none,(.lenS (.tmp 8))⟩,
  ⟨(some 10),none,(.bin .gtr (.tmp 9) (.const (.int .i64 20000)))⟩]) (.cond (.tmp 10) (.seq (.ops [
  ⟨(some 11),none,(.build [(.int .i64 0),(.int .i64 0),(.slice none 0 0)] [])⟩,
  ⟨none,none,(.store 3 (.tmp 2) (.tmp 11))⟩,
  ⟨(some 3),none,(.asg (.const (.int .i64 0)))⟩,
  ⟨(some 4),none,(.asg (.const (.int .i64 2)))⟩]) .ret) .skip)) (.seq (.ops [
  ⟨(some 12),none,(.build [(.int .i64 0),(.int .i64 0),(.slice none 0 0)] [])⟩,
  ⟨(some 5),none,(.alloc [(.int .i64 0),(.int .i64 0),(.slice none 0 0)])⟩,
  ⟨none,none,(.store 3 (.tmp 5) (.tmp 12))⟩]) (.seq (.ops [
  ⟨(some 13),none,(.mv (.tmp 0))⟩,
  ⟨(some 14),none,(.callX 21 [(.tmp 13)])⟩,
  ⟨(some 6),none,(.asg (.tmp 14))⟩]) (.seq (.seq (.ops [
  ⟨(some 7),none,(.asg (.const (.int .i64 0)))⟩]) (.block 0 (.loop (mB 37 137438936859) (.seq (.seq (.ops [
  ⟨(some 15),none,(.mv (.tmp 7))⟩,
  ⟨(some 16),none,(.mv (.tmp 6))⟩,
  ⟨(some 17),none,(.len (.tmp 16))⟩,
  ⟨(some 18),none,(.bin .lss (.tmp 15) (.tmp 17))⟩]) (.cond (.tmp 18) .skip (.exit 0))) (.seq (.block 1 (.seq (.ops [
  ⟨(some 21),none,(.mv (.tmp 6))⟩,
  ⟨(some 22),none,(.mv (.tmp 7))⟩,
  ⟨(some 23),none,(.ia 1 (.tmp 21) (.tmp 22))⟩,
  ⟨(some 24),none,(.load 1 false (.tmp 23))⟩,
  ⟨(some 25),none,(.callX 23 [(.tmp 24)])⟩,
  ⟨(some 26),none,(.mv (.tmp 7))⟩,
  ⟨(some 27),none,(.bin .eql (.tmp 26) (.const (.int .i64 0)))⟩,
  ⟨(some 28),none,(.callX 22 [(.tmp 5),(.tmp 25),(.tmp 27)])⟩,
  ⟨(some 29),none,(.un .not (.tmp 28))⟩]) (.cond (.tmp 29) (.seq (.ops [
  ⟨(some 30),none,(.build [(.int .i64 0),(.int .i64 0),(.slice none 0 0)] [])⟩,
  ⟨(some 31),none,(.mv (.tmp 7))⟩,
  ⟨(some 32),none,(.bin .add (.tmp 31) (.const (.int .i64 1)))⟩,
  ⟨none,none,(.store 3 (.tmp 2) (.tmp 30))⟩,
  ⟨(some 3),none,(.asg (.tmp 32))⟩,
  ⟨(some 4),none,(.asg (.const (.int .i64 6)))⟩]) .ret) .skip))) (.ops [
  ⟨(some 19),none,(.mv (.tmp 7))⟩,
  ⟨(some 20),none,(.bin .add (.tmp 19) (.const (.int .i64 1)))⟩,
  ⟨(some 7),none,(.asg (.tmp 20))⟩])))))) (.seq (.seq (.ops [
  ⟨(some 33),none,(.callX 24 [(.tmp 5)])⟩,
  ⟨(some 34),none,(.un .not (.tmp 33))⟩]) (.cond (.tmp 34) (.seq (.ops [
  ⟨(some 35),none,(.build [(.int .i64 0),(.int .i64 0),(.slice none 0 0)] [])⟩,
  ⟨none,none,(.store 3 (.tmp 2) (.tmp 35))⟩,
  ⟨(some 3),none,(.asg (.const (.int .i64 0)))⟩,
  ⟨(some 4),none,(.asg (.const (.int .i64 1)))⟩]) .ret) .skip)) (.seq (.ops [
  ⟨(some 36),none,(.load 3 true (.tmp 5))⟩,
  ⟨none,none,(.store 3 (.tmp 2) (.tmp 36))⟩,
  ⟨(some 3),none,(.asg (.const (.int .i64 0)))⟩,
  ⟨(some 4),none,(.asg (.const (.int .i64 0)))⟩]) .ret)))))))
theorem law_spec_ReadMachine {a0 d:D} (h:code_spec_ReadMachine.wp (CT Tryz.prog TabG) (endQ [(.c 2 3 true),(.t 3),(.t 4)] d) [a0,.undef,.undef,.undef,.undef,.undef,.undef,.undef,.undef,.undef,.undef,.undef,.undef,.undef,.undef,.undef,.undef,.undef,.undef,.undef,.undef,.undef,.undef,.undef,.undef,.undef,.undef,.undef,.undef,.undef,.undef,.undef,.undef,.undef,.undef,.undef,.undef]):Contract Tryz.prog TabG 6 [a0] d :=
  contract_of (pt:=0) tabG Tryz.func6 (fun us W=>by kernel_rfl) (c:=Tryz.f6.body.getD .skip) (ms:=[(mB 37 137438936859)]) (ms':=[]) (by kernel_rfl) (by kernel_rfl) (by kernel_rfl) h
set_option maxHeartbeats 4000000 in
theorem vReadMachine_specR (q_aText:ByteArray) (q_aText_n:q_aText.size≤1048576):Contract Tryz.prog TabG 6 [.v (.string q_aText)] (.tup [.agg (Machine.td.d true (ReadMachineR q_aText).1),.v (.int .i64 (ReadMachineR q_aText).2.1),.v (.int .i64 (ReadMachineR q_aText).2.2)]):=by
  rw [Machine.td_d];refine law_spec_ReadMachine ?_;unfold code_spec_ReadMachine;by_cases hbig:20000 < q_aText.size
  · have d1:decide ((q_aText.size:Int) > 20000)=true:=decide_eq_true (by omega);have hR:ReadMachineR q_aText=(mc0,0,2):=(by unfold ReadMachineR;rw [if_pos hbig]);rw [hR];simp -implicitDefEqProofs (disch:=omega) only [go_sem,↓reduceIte ,d1];exact ⟨rfl,rfl,rfl⟩
  · have d1:decide ((q_aText.size:Int) > 20000)=false:=decide_eq_false (by omega);have hL:=v_l05Lines q_aText q_aText_n;have hll:=linesB_len q_aText;simp -implicitDefEqProofs (disch:=omega) only [go_sem,↓reduceIte ,d1];refine call_B (hL) (by simp -implicitDefEqProofs (disch:=omega) only [go_sem,↓reduceIte,deep,TD.rows,immLL_rI,immLL_rB8,immLL_rS,immLL_rBo,immLL_rII,immLL_rIIt];exact rfl) ?_;simp -implicitDefEqProofs (disch:=omega) only [go_sem,↓reduceIte];refine loop_ov (by simp -implicitDefEqProofs (disch:=omega) only [go_sem,↓reduceIte];exact rfl) (fun q:Nat × Machine=>[(5,.box none (Machine.td.d true q.2)),(7,.v (.int .i64 (q.1:Nat)))]) (fun _=>by simp only [ovr_nil,ovr_cons,List.set_cons_zero,List.set_cons_succ];exact rfl) (fun q:Nat × Machine=>q.1≤(linesB q_aText).length∧rdFold rmSt ((linesB q_aText).take q.1) 0 mc0=.ok q.2∧q.2.Moves.length≤q.1) (fun q:Nat × Machine=>(linesB q_aText).length - q.1) ((0,mc0)) (nleA) (?_) ?_
    · exact ⟨Nat.zero_le _,rfl,Nat.le_refl _⟩
    rintro ⟨i,m⟩ ⟨hi,hf,hml⟩;simp only at hi hf hml ⊢;rw [Machine.td_d];simp -implicitDefEqProofs (disch:=omega) only [go_sem,↓reduceIte];refine cond_split ?_ ?_ <;> intro hlt
    · have hlt:i < (linesB q_aText).length:=(by simpa using hlt);have hltM:i < ((linesB q_aText).map rS).length:=(by rw [List.length_map];exact hlt);have e1:((linesB q_aText).map rS)[i]?=some [D.v (.string (linesB q_aText)[i])]:=(by rw [List.getElem?_map,List.getElem?_eq_getElem hlt];rfl);have hsz:=linesB_size (List.getElem_mem hlt);have hW:=v_l05Words (linesB q_aText)[i] (by omega);have hwl:=wordsB_len (linesB q_aText)[i];have hLn:=v_l17Line m (wordsB (linesB q_aText)[i]) (decide (i=0)) (fun x hx=>by have:=wordsB_size hx;omega) (by omega) (by omega);have d0:decide ((i:Int)=0)=decide (i=0):=(by rw [decide_eq_decide];omega);have hSt:rmSt i m (linesB q_aText)[i]=(match rmLine (decide (i=0)) m (wordsB (linesB q_aText)[i]) with
        | some m'=>.ok m'
        | none=>.error 6):=rfl
      cases hr:rmLine (decide (i=0)) m (wordsB (linesB q_aText)[i]) with
      | none =>
        rw [hr] at hLn hSt;have hR:ReadMachineR q_aText=(mc0,((i+1:Nat):Int),6):=by unfold ReadMachineR;rw [if_neg hbig,rdFold_err hlt hf hSt]
        rw [hR];rw [Machine.td_d,Machine.td_d] at hLn;simp -implicitDefEqProofs (disch:=omega) only [go_sem,↓reduceIte ,e1,Int.toNat_natCast,Int.natCast_nonneg];refine ⟨by omega,?_⟩;refine call_B (hW) (by simp -implicitDefEqProofs (disch:=omega) only [go_sem,↓reduceIte,deep,TD.rows,immLL_rI,immLL_rB8,immLL_rS,immLL_rBo,immLL_rII,immLL_rIIt,d0];exact rfl) ?_;simp -implicitDefEqProofs (disch:=omega) only [go_sem,↓reduceIte ,d0];refine call_ioA (i:=0) (r:=5) (hLn) rfl rfl (by simp -implicitDefEqProofs (disch:=omega) only [go_sem,↓reduceIte,deep,TD.rows,immLL_rI,immLL_rB8,immLL_rS,immLL_rBo,immLL_rII,immLL_rIIt,wrN];exact rfl) (by repeat (first | exact leL_nil | refine leL_cons ?_ ?_ | exact le_of_eq rfl | exact le_iptrN (leL_of_eq rfl) | refine le_agg ?_ | exact le_slf rfl (TD.rows ..) | refine le_iptr ?_ | refine le_fn ?_ ?_ | exact le_nilsl_)) (by repeat (first | exact leL_nil | refine leL_cons ?_ ?_ | exact le_of_eq rfl | exact le_iptrN (leL_of_eq rfl) | refine le_agg ?_ | exact le_slf rfl (TD.rows ..) | refine le_iptr ?_ | refine le_fn ?_ ?_ | exact le_nilsl_)) (by first | exact .inr rfl | exact .inl ⟨rfl,rfl⟩ | exact .inl ⟨by simp only [D.noImm,noImmL,go_sem,TD.nims,TD.nim,nim_rI,nim_rB8,nim_rBo,nim_rS],by simp only [D.noImm,noImmL,go_sem,TD.nims,TD.nim,nim_rI,nim_rB8,nim_rBo,nim_rS]⟩) ?_;simp -implicitDefEqProofs (disch:=omega) only [go_sem,↓reduceIte ,wrN];exact ⟨rfl,rfl,rfl⟩
      | some m'=>rw [hr] at hLn hSt;have hnx:=rdFold_ok hlt hf hSt;have hml':=rmLine_len hr;simp only [Option.getD_some,Option.isSome_some] at hLn;rw [Machine.td_d,Machine.td_d] at hLn;simp -implicitDefEqProofs (disch:=omega) only [go_sem,↓reduceIte ,e1,Int.toNat_natCast,Int.natCast_nonneg];refine ⟨by omega,?_⟩;refine call_B (hW) (by simp -implicitDefEqProofs (disch:=omega) only [go_sem,↓reduceIte,deep,TD.rows,immLL_rI,immLL_rB8,immLL_rS,immLL_rBo,immLL_rII,immLL_rIIt,d0];exact rfl) ?_;simp -implicitDefEqProofs (disch:=omega) only [go_sem,↓reduceIte ,d0];refine call_ioA (i:=0) (r:=5) (hLn) rfl rfl (by simp -implicitDefEqProofs (disch:=omega) only [go_sem,↓reduceIte,deep,TD.rows,immLL_rI,immLL_rB8,immLL_rS,immLL_rBo,immLL_rII,immLL_rIIt,wrN];exact rfl) (by repeat (first | exact leL_nil | refine leL_cons ?_ ?_ | exact le_of_eq rfl | exact le_iptrN (leL_of_eq rfl) | refine le_agg ?_ | exact le_slf rfl (TD.rows ..) | refine le_iptr ?_ | refine le_fn ?_ ?_ | exact le_nilsl_)) (by repeat (first | exact leL_nil | refine leL_cons ?_ ?_ | exact le_of_eq rfl | exact le_iptrN (leL_of_eq rfl) | refine le_agg ?_ | exact le_slf rfl (TD.rows ..) | refine le_iptr ?_ | refine le_fn ?_ ?_ | exact le_nilsl_)) (by first | exact .inr rfl | exact .inl ⟨rfl,rfl⟩ | exact .inl ⟨by simp only [D.noImm,noImmL,go_sem,TD.nims,TD.nim,nim_rI,nim_rB8,nim_rBo,nim_rS],by simp only [D.noImm,noImmL,go_sem,TD.nims,TD.nim,nim_rI,nim_rB8,nim_rBo,nim_rS]⟩) ?_;simp -implicitDefEqProofs (disch:=omega) only [go_sem,↓reduceIte ,wrN];exact ⟨(i+1,m'),by show _ - (i+1) < _ - i;omega,⟨hlt,hnx,by simp only;omega⟩,nleA⟩
    · have hie:i=(linesB q_aText).length:=(by have:¬ i < (linesB q_aText).length:=(by simpa using hlt);omega);rw [hie,List.take_length] at hf;have hM:=v_l17Ok m (by omega);cases hok:okMach m with
      | false=>have hR:ReadMachineR q_aText=(mc0,0,1):=(by unfold ReadMachineR;rw [if_neg hbig,hf];simp only [hok];rfl);rw [hR];rw [hok,Machine.td_d] at hM;simp -implicitDefEqProofs (disch:=omega) only [go_sem,↓reduceIte];refine call_B (hM) (by simp -implicitDefEqProofs (disch:=omega) only [go_sem,↓reduceIte,deep,TD.rows,immLL_rI,immLL_rB8,immLL_rS,immLL_rBo,immLL_rII,immLL_rIIt];exact rfl) ?_;simp -implicitDefEqProofs (disch:=omega) only [go_sem,↓reduceIte];exact ⟨rfl,rfl,rfl⟩
      | true=>have hR:ReadMachineR q_aText=(m,0,0):=(by unfold ReadMachineR;rw [if_neg hbig,hf];simp only [hok];rfl);rw [hR];rw [hok,Machine.td_d] at hM;simp -implicitDefEqProofs (disch:=omega) only [go_sem,↓reduceIte];refine call_B (hM) (by simp -implicitDefEqProofs (disch:=omega) only [go_sem,↓reduceIte,deep,TD.rows,immLL_rI,immLL_rB8,immLL_rS,immLL_rBo,immLL_rII,immLL_rIIt];exact rfl) ?_;simp -implicitDefEqProofs (disch:=omega) only [go_sem,↓reduceIte]
def code_impl_readNumbers:VCode:=(.seq (.ops [
  ⟨(some 2),none,(.asg (.const (.slice none 0 0)))⟩,
  ⟨(some 3),none,(.asg (.const (.bool false)))⟩]) (.seq (.ops [
  ⟨(some 4),none,(.asg (.const (.slice none 0 0)))⟩]) (.seq (.seq (.ops [
  ⟨(some 9),none,(.mv (.tmp 0))⟩,
  ⟨(some 10),none,(.len (.tmp 9))⟩,
  ⟨(some 11),none,(.mv (.const (.int .i64 0)))⟩]) (.block 0 (.loop (mB 28 213905903) (.seq (.ops [
  ⟨(some 12),none,(.bin .lss (.tmp 11) (.tmp 10))⟩]) (.seq (.cond (.tmp 12) .skip (.exit 0)) (.seq (.block 1 (.seq (.ops [
  ⟨(some 13),none,(.ia 1 (.tmp 9) (.tmp 11))⟩,
  ⟨(some 14),none,(.load 1 false (.tmp 13))⟩,
  ⟨(some 6),none,(.asg (.tmp 14))⟩]) (.seq (.ops [
  ⟨(some 16),none,(.mv (.tmp 6))⟩,
  ⟨(some 17),none,(.callX 75 [(.tmp 16)])⟩,
  ⟨(some 15),none,(.mv (.tmp 17))⟩,
  ⟨(some 18),none,(.ext (.tmp 15) 0)⟩,
  ⟨(some 19),none,(.ext (.tmp 15) 1)⟩,
  ⟨(some 7),none,(.asg (.tmp 18))⟩,
  ⟨(some 8),none,(.asg (.tmp 19))⟩]) (.seq (.seq (.ops [
  ⟨(some 20),none,(.mv (.tmp 8))⟩,
  ⟨(some 21),none,(.un .not (.tmp 20))⟩]) (.cond (.tmp 21) (.seq (.ops [
  ⟨(some 2),none,(.asg (.const (.slice none 0 0)))⟩,
  ⟨(some 3),none,(.asg (.const (.bool false)))⟩]) .ret) .skip)) (.ops [
  ⟨(some 22),none,(.mv (.tmp 4))⟩,
  ⟨(some 23),none,(.mv (.tmp 7))⟩,
  ⟨(some 24),none,(.bsl 1 [(.tmp 23)])⟩,
  ⟨(some 25),none,(.app 1 8 (.tmp 22) (.tmp 24))⟩,
  ⟨(some 4),none,(.asg (.tmp 25))⟩]))))) (.ops [
  ⟨(some 26),none,(.bin .add (.tmp 11) (.const (.int .i64 1)))⟩,
  ⟨(some 11),none,(.mv (.tmp 26))⟩]))))))) (.seq (.ops [
  ⟨(some 27),none,(.mv (.tmp 4))⟩,
  ⟨(some 2),none,(.asg (.tmp 27))⟩,
  ⟨(some 3),none,(.asg (.const (.bool true)))⟩]) .ret))))
theorem law_impl_readNumbers {a0 d:D} (h:code_impl_readNumbers.wp (CT Tryz.prog TabG) (endQ [(.t 2),(.t 3)] d) [a0,.undef,.undef,.undef,.undef,.undef,.undef,.undef,.undef,.undef,.undef,.undef,.undef,.undef,.undef,.undef,.undef,.undef,.undef,.undef,.undef,.undef,.undef,.undef,.undef,.undef,.undef,.undef]):Contract Tryz.prog TabG 59 [a0] d :=
  contract_of (pt:=0) tabG Tryz.func59 (fun us W=>by kernel_rfl) (c:=Tryz.f59.body.getD .skip) (ms:=[(mB 28 213905903)]) (ms':=[]) (by kernel_rfl) (by kernel_rfl) (by kernel_rfl) h
set_option maxHeartbeats 2000000 in
theorem v_readNumbers (ws:List ByteArray) (hws:∀ w,w∈ws→w.size≤1048576) (hn:ws.length≤1048577):Contract Tryz.prog TabG 59 [.sl false 1 (ws.map rS)] (.tup [.sl true 1 (((rdNums ws).getD []).map rI),.v (.bool (rdNums ws).isSome)]):=by
  refine law_impl_readNumbers ?_;unfold code_impl_readNumbers;simp -implicitDefEqProofs (disch:=omega) only [go_sem,↓reduceIte];refine loop_ov (by simp -implicitDefEqProofs (disch:=omega) only [go_sem,↓reduceIte];exact rfl) (fun q:Nat × List Int=>[(4,.sl true 1 (q.2.map rI)),(11,.v (.int .i64 (q.1:Nat)))]) (fun _=>by simp only [ovr_nil,ovr_cons,List.set_cons_zero,List.set_cons_succ];exact rfl) (fun q:Nat × List Int=>q.1≤ws.length∧rdNums (ws.take q.1)=some q.2) (fun q:Nat × List Int=>ws.length - q.1) ((0,[])) (nleA) (?_) ?_
  · exact ⟨Nat.zero_le _,rfl⟩
  rintro ⟨i,o⟩ ⟨hi,ho⟩;simp only at hi ho ⊢;have hol:o.length≤1048577:=by have:=rdNums_len ho;rw [List.length_take] at this;omega
  simp -implicitDefEqProofs (disch:=omega) only [go_sem,↓reduceIte];refine cond_split ?_ ?_ <;> intro hlt
  · have hlt:i < ws.length:=(by simpa using hlt);have hltM:i < (ws.map rS).length:=(by rw [List.length_map];exact hlt);have e1:(ws.map rS)[i]?=some [D.v (.string ws[i])]:=(by rw [List.getElem?_map,List.getElem?_eq_getElem hlt];rfl);have ht:=rdNums_take hlt;rw [ho] at ht;cases hr:readD ws[i] with
    | none =>
      have hv:=v_ReadDecimal_impl ws[i] (hws _ (List.getElem_mem hlt));rw [hr] at hv;rw [rdNums_none hlt hr];simp -implicitDefEqProofs (disch:=omega) only [go_sem,↓reduceIte ,e1,Int.toNat_natCast,Int.natCast_nonneg];refine ⟨by omega,?_⟩;refine call_B (hv) (by simp -implicitDefEqProofs (disch:=omega) only [go_sem,↓reduceIte,deep,TD.rows,immLL_rI,immLL_rB8,immLL_rS,immLL_rBo,immLL_rII,immLL_rIIt,e1,Int.toNat_natCast,Int.natCast_nonneg,rdR];exact rfl) ?_;simp -implicitDefEqProofs (disch:=omega) only [go_sem,↓reduceIte ,e1,Int.toNat_natCast,Int.natCast_nonneg,rdR]
      first | done | rfl
    | some n=>have hv:=v_ReadDecimal_impl ws[i] (hws _ (List.getElem_mem hlt));rw [hr] at hv;rw [hr] at ht;simp -implicitDefEqProofs (disch:=omega) only [go_sem,↓reduceIte ,e1,Int.toNat_natCast,Int.natCast_nonneg];refine ⟨by omega,?_⟩;refine call_B (hv) (by simp -implicitDefEqProofs (disch:=omega) only [go_sem,↓reduceIte,deep,TD.rows,immLL_rI,immLL_rB8,immLL_rS,immLL_rBo,immLL_rII,immLL_rIIt,e1,Int.toNat_natCast,Int.natCast_nonneg,rdR,wrN];exact rfl) ?_;simp -implicitDefEqProofs (disch:=omega) only [go_sem,↓reduceIte ,e1,Int.toNat_natCast,Int.natCast_nonneg,rdR,wrN];refine ⟨by rw [List.length_map];omega,(i+1,o++[n]),by show ws.length - (i+1) < ws.length - i;omega,⟨hlt,ht⟩,?_⟩;rw [List.map_append];exact nleA
  · have hie:i=ws.length:=(by have:¬ i < ws.length:=(by simpa using hlt);omega);subst hie;rw [List.take_length] at ho;rw [ho];simp -implicitDefEqProofs (disch:=omega) only [go_sem,↓reduceIte]
    first | done | rfl
end Go.Proofs.YtjkbngjiagknkaaGreatDoor
