/- Laws that the proof stands on. -/
import Derived.Test.YtjkbngjiagknkaaGreatDoorZg20
import Derived.Test.YtjkbngjiagknkaaGreatDoorZVTab
import Derived.Test.YtjkbngjiagknkaaGreatDoorZg13
set_option linter.all false
namespace Go.Proofs.YtjkbngjiagknkaaGreatDoor
open Go.RowKit Go.V
attribute [local go_sem] List.getElem?_cons_succ List.getElem?_cons_zero List.set_cons_succ List.set_cons_zero List.map_cons List.map_nil List.length_cons List.length_nil List.all_cons List.all_nil List.drop_succ_cons List.drop_zero List.take_succ_cons List.take_zero List.flatMap_cons List.flatMap_nil List.cons_append List.nil_append List.append_nil List.headD_cons Value.oneCell' Bool.and_true Bool.true_and Bool.or_false Bool.false_or Bool.and_self Bool.not_true Bool.not_false and_true true_and beq_self_eq_true Bool.false_eq_true if_true if_false Nat.zero_add Nat.reduceAdd Nat.reduceMul Nat.reduceLeDiff Nat.le_refl Option.isSome_some Option.isSome_none not_true_eq_false not_false_eq_true ne_eq reduceCtorEq List.reverse_nil bne_self_eq_false Nat.reduceEqDiff List.isPrefixOf Bool.not_eq_true Bool.and_false Bool.false_and Bool.true_or Bool.or_true decide_true decide_false Nat.reduceBEq Nat.reduceBNe List.replicate_succ List.replicate_zero exists_eq_left' exists_eq_left Option.some.injEq or_false or_true true_or false_or Option.map_some Option.map_none mB Nat.reduceMod Nat.reduceDiv
set_option maxRecDepth 100000
theorem v_l17Line (m:Machine) (w:List ByteArray) (first:Bool) (hw:∀ x,x∈w→x.size≤1048576) (hl:w.length≤1048577) (hm:m.Moves.length≤1048577) :
    ContractX Tryz.prog TabG 22 0 [.undef,.sl false 1 (w.map rS),.v (.bool first)] (Machine.td.d true m) (.v (.bool (rmLine first m w).isSome)) (Machine.td.d true ((rmLine first m w).getD m)):=by
  cases first with
  | true=>exact v_l17Head m w hw hl hm
  | false =>
    show ContractX Tryz.prog TabG 22 0 [.undef,.sl false 1 (w.map rS),.v (.bool false)] (Machine.td.d true m) (.v (.bool (rmMove m w).isSome)) (Machine.td.d true ((rmMove m w).getD m));by_cases h6:w.length=6
    · obtain ⟨w0,w1,w2,w3,w4,w5,rfl⟩:=len6 h6;cases hc:decide (w0=sMove) with
      | false=>have hN:rmMove m [w0,w1,w2,w3,w4,w5]=none:=(by unfold rmMove;simp only;rw [if_neg (fun h=>of_decide_eq_false hc h.1)]);rw [hN];exact v_l17Move_a m w0 w1 w2 w3 w4 w5 hw hm hc
      | true =>
        have hc':=of_decide_eq_true hc;cases he:decide (w4=sEast) with
        | true =>
          have he':=of_decide_eq_true he;rcases rd4 w1 w2 w3 w5 with h2 | ⟨a,b,c,d,h2⟩
          · have hN:rmMove m [w0,w1,w2,w3,w4,w5]=none:=(by unfold rmMove;simp only [h2];split <;> rfl);rw [hN];exact v_l17Move_east_no m w0 w1 w2 w3 w4 w5 hw hm hc he h2
          · have hN:rmMove m [w0,w1,w2,w3,w4,w5]=some { m with Moves:=m.Moves++[⟨a,b,c,1,d⟩] }:=(by unfold rmMove;simp only [h2];rw [if_pos ⟨hc',.inl he'⟩,if_pos he']);rw [hN];exact v_l17Move_east m w0 w1 w2 w3 w4 w5 hw hm hc he a b c d h2
        | false =>
          have he':=of_decide_eq_false he;cases hs:decide (w4=sWest) with
          | true =>
            have hs':=of_decide_eq_true hs;rcases rd4 w1 w2 w3 w5 with h2 | ⟨a,b,c,d,h2⟩
            · have hN:rmMove m [w0,w1,w2,w3,w4,w5]=none:=(by unfold rmMove;simp only [h2];split <;> rfl);rw [hN];exact v_l17Move_west_no m w0 w1 w2 w3 w4 w5 hw hm hc he hs h2
            · have hN:rmMove m [w0,w1,w2,w3,w4,w5]=some { m with Moves:=m.Moves++[⟨a,b,c,3,d⟩] }:=(by unfold rmMove;simp only [h2];rw [if_pos ⟨hc',.inr hs'⟩,if_neg he']);rw [hN];exact v_l17Move_west m w0 w1 w2 w3 w4 w5 hw hm hc he hs a b c d h2
          | false=>have hs':=of_decide_eq_false hs;have hN:rmMove m [w0,w1,w2,w3,w4,w5]=none:=(by unfold rmMove;simp only;rw [if_neg (fun h=>h.2.elim he' hs')]);rw [hN];exact v_l17Move_b m w0 w1 w2 w3 w4 w5 hw hm hc he hs
    · rw [rmMove_not h6];show ContractX Tryz.prog TabG 22 0 [.undef,.sl false 1 (w.map rS),.v (.bool false)] (Machine.td.d true m) (.v (.bool false)) (Machine.td.d true m);rw [Machine.td_d];refine law_spec_l17Line ?_;intro bb;unfold code_spec_l17Line;have d1:decide ((w.length:Int)=6)=false:=decide_eq_false (by omega);simp -implicitDefEqProofs (disch:=omega) only [go_sem,↓reduceIte ,List.length_map,d1]
def mc0:Machine:=⟨0,0,[]⟩
def rmSt (i:Nat) (m:Machine) (l:ByteArray):Except Int Machine:=match rmLine (decide (i=0)) m (wordsB l) with
  | some m'=>.ok m'
  | none=>.error 6
def ReadMachineR (b:ByteArray):Machine × Int × Int:=if 20000 < b.size then (mc0,0,2) else match rdFold rmSt (linesB b) 0 mc0 with
  | .error (k,c)=>(mc0,(k:Int),c)
  | .ok m=>if okMach m then (m,0,0) else (mc0,0,1)
theorem rmLine_len {f:Bool} {m m':Machine} {w:List ByteArray} (h:rmLine f m w=some m'):m'.Moves.length≤m.Moves.length+1:=by
  unfold rmLine at h;split at h
  · unfold rmHead at h;split at h
    · split at h
      · split at h
        · cases h;exact Nat.le_succ _
        · cases h
      · cases h
    · cases h
  · unfold rmMove at h;split at h
    · split at h
      · split at h
        · cases h;simp
        · cases h
      · cases h
    · cases h
def code_spec_ReadMachine:VCode:=(.seq (.ops [
  ⟨(some 2),none,(.alloc [(.int .i64 0),(.int .i64 0),(.slice none 0 0)])⟩,
  ⟨(some 3),none,(.asg (.const (.int .i64 0)))⟩,
  ⟨(some 4),none,(.asg (.const (.int .i64 0)))⟩]) (.seq (.seq (.ops [
  ⟨(some 8),none,(.mv (.tmp 0))⟩,
  ⟨(some 9),none,(.lenS (.tmp 8))⟩,
  ⟨(some 10),none,(.bin .gtr (.tmp 9) (.const (.int .i64 20000)))⟩]) (.cond (.tmp 10) (.seq (.ops [
  ⟨(some 11),none,(.build [(.int .i64 0),(.int .i64 0),(.slice none 0 0)] [])⟩,
  ⟨none,none,(.store 3 (.tmp 2) (.tmp 11))⟩,
  ⟨(some 3),none,(.asg (.const (.int .i64 0)))⟩,
  ⟨(some 4),none,(.asg (.const (.int .i64 2)))⟩]) .ret) .skip)) (.seq (.ops [
  ⟨(some 12),none,(.build [(.int .i64 0),(.int .i64 0),(.slice none 0 0)] [])⟩,
  ⟨(some 5),none,(.alloc [(.int .i64 0),(.int .i64 0),(.slice none 0 0)])⟩,
  ⟨none,none,(.store 3 (.tmp 5) (.tmp 12))⟩]) (.seq (.ops [
  ⟨(some 13),none,(.mv (.tmp 0))⟩,
  ⟨(some 14),none,(.callX 21 [(.tmp 13)])⟩,
  ⟨(some 6),none,(.asg (.tmp 14))⟩]) (.seq (.seq (.ops [
  ⟨(some 7),none,(.asg (.const (.int .i64 0)))⟩]) (.block 0 (.loop (mB 37 137438936859) (.seq (.seq (.ops [
  ⟨(some 15),none,(.mv (.tmp 7))⟩,
  ⟨(some 16),none,(.mv (.tmp 6))⟩,
  ⟨(some 17),none,(.len (.tmp 16))⟩,
  ⟨(some 18),none,(.bin .lss (.tmp 15) (.tmp 17))⟩]) (.cond (.tmp 18) .skip (.exit 0))) (.seq (.block 1 (.seq (.ops [
  ⟨(some 21),none,(.mv (.tmp 6))⟩,
  ⟨(some 22),none,(.mv (.tmp 7))⟩,
  ⟨(some 23),none,(.ia 1 (.tmp 21) (.tmp 22))⟩,
  ⟨(some 24),none,(.load 1 false (.tmp 23))⟩,
  ⟨(some 25),none,(.callX 23 [(.tmp 24)])⟩,
  ⟨(some 26),none,(.mv (.tmp 7))⟩,
  ⟨(some 27),none,(.bin .eql (.tmp 26) (.const (.int .i64 0)))⟩,
  ⟨(some 28),none,(.callX 22 [(.tmp 5),(.tmp 25),(.tmp 27)])⟩,
  ⟨(some 29),none,(.un .not (.tmp 28))⟩]) (.cond (.tmp 29) (.seq (.ops [
  ⟨(some 30),none,(.build [(.int .i64 0),(.int .i64 0),(.slice none 0 0)] [])⟩,
  ⟨(some 31),none,(.mv (.tmp 7))⟩,
  ⟨(some 32),none,(.bin .add (.tmp 31) (.const (.int .i64 1)))⟩,
  ⟨none,none,(.store 3 (.tmp 2) (.tmp 30))⟩,
  ⟨(some 3),none,(.asg (.tmp 32))⟩,
  ⟨(some 4),none,(.asg (.const (.int .i64 6)))⟩]) .ret) .skip))) (.ops [
  ⟨(some 19),none,(.mv (.tmp 7))⟩,
  ⟨(some 20),none,(.bin .add (.tmp 19) (.const (.int .i64 1)))⟩,
  ⟨(some 7),none,(.asg (.tmp 20))⟩])))))) (.seq (.seq (.ops [
  ⟨(some 33),none,(.callX 24 [(.tmp 5)])⟩,
  ⟨(some 34),none,(.un .not (.tmp 33))⟩]) (.cond (.tmp 34) (.seq (.ops [
  ⟨(some 35),none,(.build [(.int .i64 0),(.int .i64 0),(.slice none 0 0)] [])⟩,
  ⟨none,none,(.store 3 (.tmp 2) (.tmp 35))⟩,
  ⟨(some 3),none,(.asg (.const (.int .i64 0)))⟩,
  ⟨(some 4),none,(.asg (.const (.int .i64 1)))⟩]) .ret) .skip)) (.seq (.ops [
  ⟨(some 36),none,(.load 3 true (.tmp 5))⟩,
  ⟨none,none,(.store 3 (.tmp 2) (.tmp 36))⟩,
  ⟨(some 3),none,(.asg (.const (.int .i64 0)))⟩,
  ⟨(some 4),none,(.asg (.const (.int .i64 0)))⟩]) .ret)))))))
theorem law_spec_ReadMachine {a0 d:D} (h:code_spec_ReadMachine.wp (CT Tryz.prog TabG) (endQ [(.c 2 3 true),(.t 3),(.t 4)] d) [a0,.undef,.undef,.undef,.undef,.undef,.undef,.undef,.undef,.undef,.undef,.undef,.undef,.undef,.undef,.undef,.undef,.undef,.undef,.undef,.undef,.undef,.undef,.undef,.undef,.undef,.undef,.undef,.undef,.undef,.undef,.undef,.undef,.undef,.undef,.undef,.undef]):Contract Tryz.prog TabG 6 [a0] d :=
  contract_of (pt:=0) tabG Tryz.func6 (fun us W=>by kernel_rfl) (c:=Tryz.f6.body.getD .skip) (ms:=[(mB 37 137438936859)]) (ms':=[]) (by kernel_rfl) (by kernel_rfl) (by kernel_rfl) h
set_option maxHeartbeats 4000000 in
theorem vReadMachine_specR (q_aText:ByteArray) (q_aText_n:q_aText.size≤1048576):Contract Tryz.prog TabG 6 [.v (.string q_aText)] (.tup [.agg (Machine.td.d true (ReadMachineR q_aText).1),.v (.int .i64 (ReadMachineR q_aText).2.1),.v (.int .i64 (ReadMachineR q_aText).2.2)]):=by
  rw [Machine.td_d];refine law_spec_ReadMachine ?_;unfold code_spec_ReadMachine;by_cases hbig:20000 < q_aText.size
  · have d1:decide ((q_aText.size:Int) > 20000)=true:=decide_eq_true (by omega);have hR:ReadMachineR q_aText=(mc0,0,2):=(by unfold ReadMachineR;rw [if_pos hbig]);rw [hR];simp -implicitDefEqProofs (disch:=omega) only [go_sem,↓reduceIte ,d1];exact ⟨rfl,rfl,rfl⟩
  · have d1:decide ((q_aText.size:Int) > 20000)=false:=decide_eq_false (by omega);have hL:=v_l05Lines q_aText q_aText_n;have hll:=linesB_len q_aText;simp -implicitDefEqProofs (disch:=omega) only [go_sem,↓reduceIte ,d1];refine call_B (hL) (by simp -implicitDefEqProofs (disch:=omega) only [go_sem,↓reduceIte,deep,TD.rows,immLL_rI,immLL_rB8,immLL_rS,immLL_rBo,immLL_rII,immLL_rIIt];exact rfl) ?_;simp -implicitDefEqProofs (disch:=omega) only [go_sem,↓reduceIte];refine loop_ov (by simp -implicitDefEqProofs (disch:=omega) only [go_sem,↓reduceIte];exact rfl) (fun q:Nat × Machine=>[(5,.box none (Machine.td.d true q.2)),(7,.v (.int .i64 (q.1:Nat)))]) (fun _=>by simp only [ovr_nil,ovr_cons,List.set_cons_zero,List.set_cons_succ];exact rfl) (fun q:Nat × Machine=>q.1≤(linesB q_aText).length∧rdFold rmSt ((linesB q_aText).take q.1) 0 mc0=.ok q.2∧q.2.Moves.length≤q.1) (fun q:Nat × Machine=>(linesB q_aText).length - q.1) ((0,mc0)) (nleA) (?_) ?_
    · exact ⟨Nat.zero_le _,rfl,Nat.le_refl _⟩
    rintro ⟨i,m⟩ ⟨hi,hf,hml⟩;simp only at hi hf hml ⊢;rw [Machine.td_d];simp -implicitDefEqProofs (disch:=omega) only [go_sem,↓reduceIte];refine cond_split ?_ ?_ <;> intro hlt
    · have hlt:i < (linesB q_aText).length:=(by simpa using hlt);have hltM:i < ((linesB q_aText).map rS).length:=(by rw [List.length_map];exact hlt);have e1:((linesB q_aText).map rS)[i]?=some [D.v (.string (linesB q_aText)[i])]:=(by rw [List.getElem?_map,List.getElem?_eq_getElem hlt];rfl);have hsz:=linesB_size (List.getElem_mem hlt);have hW:=v_l05Words (linesB q_aText)[i] (by omega);have hwl:=wordsB_len (linesB q_aText)[i];have hLn:=v_l17Line m (wordsB (linesB q_aText)[i]) (decide (i=0)) (fun x hx=>by have:=wordsB_size hx;omega) (by omega) (by omega);have d0:decide ((i:Int)=0)=decide (i=0):=(by rw [decide_eq_decide];omega);have hSt:rmSt i m (linesB q_aText)[i]=(match rmLine (decide (i=0)) m (wordsB (linesB q_aText)[i]) with
        | some m'=>.ok m'
        | none=>.error 6):=rfl
      cases hr:rmLine (decide (i=0)) m (wordsB (linesB q_aText)[i]) with
      | none =>
        rw [hr] at hLn hSt;have hR:ReadMachineR q_aText=(mc0,((i+1:Nat):Int),6):=by unfold ReadMachineR;rw [if_neg hbig,rdFold_err hlt hf hSt]
        rw [hR];rw [Machine.td_d,Machine.td_d] at hLn;simp -implicitDefEqProofs (disch:=omega) only [go_sem,↓reduceIte ,e1,Int.toNat_natCast,Int.natCast_nonneg];refine ⟨by omega,?_⟩;refine call_B (hW) (by simp -implicitDefEqProofs (disch:=omega) only [go_sem,↓reduceIte,deep,TD.rows,immLL_rI,immLL_rB8,immLL_rS,immLL_rBo,immLL_rII,immLL_rIIt,d0];exact rfl) ?_;simp -implicitDefEqProofs (disch:=omega) only [go_sem,↓reduceIte ,d0];refine call_ioA (i:=0) (r:=5) (hLn) rfl rfl (by simp -implicitDefEqProofs (disch:=omega) only [go_sem,↓reduceIte,deep,TD.rows,immLL_rI,immLL_rB8,immLL_rS,immLL_rBo,immLL_rII,immLL_rIIt,wrN];exact rfl) (by repeat (first | exact leL_nil | refine leL_cons ?_ ?_ | exact le_of_eq rfl | exact le_iptrN (leL_of_eq rfl) | refine le_agg ?_ | exact le_slf rfl (TD.rows ..) | refine le_iptr ?_ | refine le_fn ?_ ?_ | exact le_nilsl_)) (by repeat (first | exact leL_nil | refine leL_cons ?_ ?_ | exact le_of_eq rfl | exact le_iptrN (leL_of_eq rfl) | refine le_agg ?_ | exact le_slf rfl (TD.rows ..) | refine le_iptr ?_ | refine le_fn ?_ ?_ | exact le_nilsl_)) (by first | exact .inr rfl | exact .inl ⟨rfl,rfl⟩ | exact .inl ⟨by simp only [D.noImm,noImmL,go_sem,TD.nims,TD.nim,nim_rI,nim_rB8,nim_rBo,nim_rS],by simp only [D.noImm,noImmL,go_sem,TD.nims,TD.nim,nim_rI,nim_rB8,nim_rBo,nim_rS]⟩) ?_;simp -implicitDefEqProofs (disch:=omega) only [go_sem,↓reduceIte ,wrN];exact ⟨rfl,rfl,rfl⟩
      | some m'=>rw [hr] at hLn hSt;have hnx:=rdFold_ok hlt hf hSt;have hml':=rmLine_len hr;simp only [Option.getD_some,Option.isSome_some] at hLn;rw [Machine.td_d,Machine.td_d] at hLn;simp -implicitDefEqProofs (disch:=omega) only [go_sem,↓reduceIte ,e1,Int.toNat_natCast,Int.natCast_nonneg];refine ⟨by omega,?_⟩;refine call_B (hW) (by simp -implicitDefEqProofs (disch:=omega) only [go_sem,↓reduceIte,deep,TD.rows,immLL_rI,immLL_rB8,immLL_rS,immLL_rBo,immLL_rII,immLL_rIIt,d0];exact rfl) ?_;simp -implicitDefEqProofs (disch:=omega) only [go_sem,↓reduceIte ,d0];refine call_ioA (i:=0) (r:=5) (hLn) rfl rfl (by simp -implicitDefEqProofs (disch:=omega) only [go_sem,↓reduceIte,deep,TD.rows,immLL_rI,immLL_rB8,immLL_rS,immLL_rBo,immLL_rII,immLL_rIIt,wrN];exact rfl) (by repeat (first | exact leL_nil | refine leL_cons ?_ ?_ | exact le_of_eq rfl | exact le_iptrN (leL_of_eq rfl) | refine le_agg ?_ | exact le_slf rfl (TD.rows ..) | refine le_iptr ?_ | refine le_fn ?_ ?_ | exact le_nilsl_)) (by repeat (first | exact leL_nil | refine leL_cons ?_ ?_ | exact le_of_eq rfl | exact le_iptrN (leL_of_eq rfl) | refine le_agg ?_ | exact le_slf rfl (TD.rows ..) | refine le_iptr ?_ | refine le_fn ?_ ?_ | exact le_nilsl_)) (by first | exact .inr rfl | exact .inl ⟨rfl,rfl⟩ | exact .inl ⟨by simp only [D.noImm,noImmL,go_sem,TD.nims,TD.nim,nim_rI,nim_rB8,nim_rBo,nim_rS],by simp only [D.noImm,noImmL,go_sem,TD.nims,TD.nim,nim_rI,nim_rB8,nim_rBo,nim_rS]⟩) ?_;simp -implicitDefEqProofs (disch:=omega) only [go_sem,↓reduceIte ,wrN];exact ⟨(i+1,m'),by show _ - (i+1) < _ - i;omega,⟨hlt,hnx,by simp only;omega⟩,nleA⟩
    · have hie:i=(linesB q_aText).length:=(by have:¬ i < (linesB q_aText).length:=(by simpa using hlt);omega);rw [hie,List.take_length] at hf;have hM:=v_l17Ok m (by omega);cases hok:okMach m with
      | false=>have hR:ReadMachineR q_aText=(mc0,0,1):=(by unfold ReadMachineR;rw [if_neg hbig,hf];simp only [hok];rfl);rw [hR];rw [hok,Machine.td_d] at hM;simp -implicitDefEqProofs (disch:=omega) only [go_sem,↓reduceIte];refine call_B (hM) (by simp -implicitDefEqProofs (disch:=omega) only [go_sem,↓reduceIte,deep,TD.rows,immLL_rI,immLL_rB8,immLL_rS,immLL_rBo,immLL_rII,immLL_rIIt];exact rfl) ?_;simp -implicitDefEqProofs (disch:=omega) only [go_sem,↓reduceIte];exact ⟨rfl,rfl,rfl⟩
      | true=>have hR:ReadMachineR q_aText=(m,0,0):=(by unfold ReadMachineR;rw [if_neg hbig,hf];simp only [hok];rfl);rw [hR];rw [hok,Machine.td_d] at hM;simp -implicitDefEqProofs (disch:=omega) only [go_sem,↓reduceIte];refine call_B (hM) (by simp -implicitDefEqProofs (disch:=omega) only [go_sem,↓reduceIte,deep,TD.rows,immLL_rI,immLL_rB8,immLL_rS,immLL_rBo,immLL_rII,immLL_rIIt];exact rfl) ?_;simp -implicitDefEqProofs (disch:=omega) only [go_sem,↓reduceIte]
end Go.Proofs.YtjkbngjiagknkaaGreatDoor
