/- Laws that the proof stands on. -/
import Derived.Test.YtjkbngjiagknkaaGreatDoorZVRpT
import Derived.Test.YtjkbngjiagknkaaGreatDoorZg26
import Derived.Test.YtjkbngjiagknkaaGreatDoorZVRdB
import Derived.Test.YtjkbngjiagknkaaGreatDoorZVTab
set_option linter.all false
namespace Go.Proofs.YtjkbngjiagknkaaGreatDoor
open Go.RowKit Go.V
attribute [local go_sem] List.getElem?_cons_succ List.getElem?_cons_zero List.set_cons_succ List.set_cons_zero List.map_cons List.map_nil List.length_cons List.length_nil List.all_cons List.all_nil List.drop_succ_cons List.drop_zero List.take_succ_cons List.take_zero List.flatMap_cons List.flatMap_nil List.cons_append List.nil_append List.append_nil List.headD_cons Value.oneCell' Bool.and_true Bool.true_and Bool.or_false Bool.false_or Bool.and_self Bool.not_true Bool.not_false and_true true_and beq_self_eq_true Bool.false_eq_true if_true if_false Nat.zero_add Nat.reduceAdd Nat.reduceMul Nat.reduceLeDiff Nat.le_refl Option.isSome_some Option.isSome_none not_true_eq_false not_false_eq_true ne_eq reduceCtorEq List.reverse_nil bne_self_eq_false Nat.reduceEqDiff List.isPrefixOf Bool.not_eq_true Bool.and_false Bool.false_and Bool.true_or Bool.or_true decide_true decide_false Nat.reduceBEq Nat.reduceBNe List.replicate_succ List.replicate_zero exists_eq_left' exists_eq_left Option.some.injEq or_false or_true true_or false_or Option.map_some Option.map_none mB Nat.reduceMod Nat.reduceDiv
set_option maxRecDepth 100000
attribute [local go_sem] nf
set_option maxHeartbeats 4000000 in
theorem vReadProof_specR (q_aText:ByteArray) (q_aText_n:q_aText.size≤1048576):Contract Tryz.prog TabG 11 [.v (.string q_aText)] (.tup [.agg (Proof.td.d true (ReadProofR q_aText).1),.v (.int .i64 (ReadProofR q_aText).2.1),.v (.int .i64 (ReadProofR q_aText).2.2)]):=by
  have hP:=v_l35ReadProof (linesB q_aText) (fun l hl=>by have:=linesB_size hl;omega) (by have:=linesB_len q_aText;omega);rw [Proof.td_d] at hP ⊢;refine law_spec_ReadProof ?_;unfold code_spec_ReadProof;rw [readProof_eq];by_cases hbig:20000 < q_aText.size
  · have d1:decide ((q_aText.size:Int) > 20000)=true:=decide_eq_true (by omega);rw [if_pos hbig];simp -implicitDefEqProofs (disch:=omega) only [go_sem,↓reduceIte ,d1];exact ⟨rfl,rfl,rfl,rfl,rfl⟩
  · have d1:decide ((q_aText.size:Int) > 20000)=false:=decide_eq_false (by omega);have hL:=v_l05Lines q_aText q_aText_n;rw [if_neg hbig];simp -implicitDefEqProofs (disch:=omega) only [go_sem,↓reduceIte ,d1];refine call_B (hL) (by simp -implicitDefEqProofs (disch:=omega) only [go_sem,↓reduceIte,deep,TD.rows,immLL_rI,immLL_rB8,immLL_rS,immLL_rBo,immLL_rII,immLL_rIIt];exact rfl) ?_;simp -implicitDefEqProofs (disch:=omega) only [go_sem,↓reduceIte];refine call_B (hP) (by simp -implicitDefEqProofs (disch:=omega) only [go_sem,↓reduceIte,deep,TD.rows,immLL_rI,immLL_rB8,immLL_rS,immLL_rBo,immLL_rII,immLL_rIIt];exact rfl) ?_;simp -implicitDefEqProofs (disch:=omega) only [go_sem,↓reduceIte]
    first | done | exact ⟨rfl,rfl,rfl,rfl,rfl⟩
theorem v_prl (p:Proof) (st:Int) (l:ByteArray) (hl:l.size≤1048576) (hk0:p.Kind≠0) (hI:PfI p st) (hs:p.Sequence.length+p.Other.length+p.Flows.length≤1048577):(match pfLine p st (wordsB l) with
    | some y=>ContractX Tryz.prog TabG 68 0 [.undef,.v (.string l)] (prD p st) (.v (.int .i64 0)) (prD y.1 y.2)
    | none=>∃ p' st',ContractX Tryz.prog TabG 68 0 [.undef,.v (.string l)] (prD p st) (.v (.int .i64 6)) (prD p' st')):=by
  obtain ⟨h0,h3,h2,h1⟩:=hI;cases hw:wordsB l with
  | nil=>exact ⟨p,st,v_prl_nil p st l hl hw hk0⟩
  | cons w0 ws =>
    cases hr:rdNums ws with
    | none=>rw [pfLine_none hr];exact ⟨p,st,v_prl_none p st l hl w0 ws hw hk0 hr⟩
    | some n =>
      by_cases hlt:placeW w0 < st
      · rw [pfLine_lt hr hlt];exact ⟨p,st,v_prl_lt p st l hl w0 ws hw hk0 n hr hlt⟩
      · rw [pfLine_add hr hlt];have hp:=placeW_rng w0;have hk4:placeW w0=0∨placeW w0=1∨placeW w0=2∨placeW w0=3:=by omega
        rcases hk4 with hk | hk | hk | hk
        · rw [hk];by_cases hn:n.length=3
          · obtain ⟨a,b,c,rfl⟩:=len3' hn;rw [add_0];exact v_prl_0 p st l hl w0 ws hw hk0 a b c hr hk (by omega) (by omega)
          · rw [add_01n (.inl rfl) hn];exact ⟨p,0,v_prl_0bad p st l hl w0 ws hw hk0 n hr hk (by omega) hn⟩
        · rw [hk];by_cases hn:n.length=3
          · obtain ⟨a,b,c,rfl⟩:=len3' hn;rw [add_1];exact v_prl_1 p st l hl w0 ws hw hk0 a b c hr hk (by omega) (by omega)
          · rw [add_01n (.inr rfl) hn];exact ⟨p,1,v_prl_1bad p st l hl w0 ws hw hk0 n hr hk (by omega) hn⟩
        · rw [hk];by_cases hn:n=[]
          · rw [add_2n (fun h=>h.1 hn)];exact ⟨p,2,v_prl_2bad1 p st l hl w0 ws hw hk0 n hr hk (by omega) hn⟩
          · by_cases hpp:p.Part=[]
            · rw [add_2 ⟨hn,hpp⟩];exact v_prl_2 p st l hl w0 ws hw hk0 n hr hk (by omega) hn hpp
            · rw [add_2n (fun h=>hpp h.2)];exact ⟨p,2,v_prl_2bad2 p st l hl w0 ws hw hk0 n hr hk (by omega) hn hpp⟩
        · rw [hk,add_3];exact v_prl_3 p st l hl w0 ws hw hk0 n hr hk (by omega) (by omega)
def proofsE (ls:List ByteArray):Proof × _root_.Option (Nat × Int):=match rdFold pfSt ls 0 (pf0,0) with
  | .error (k,c)=>(pf0,some (k,c))
  | .ok x=>if x.1.Kind=0 then (pf0,some (1,6)) else (x.1,none)
theorem pf_six (ls:List ByteArray):∀ (i:Nat) (x:Proof × Int) (k:Nat) (c:Int),rdFold pfSt ls i x=.error (k,c)→c=6:=by
  induction ls with
  | nil=>intro i x k c h;cases h
  | cons l ls ih =>
    intro i x k c h;simp only [rdFold] at h;cases hr:pfSt i x l with
    | ok x'=>rw [hr] at h;exact ih _ _ _ _ h
    | error c' =>
      rw [hr] at h;simp only [Except.error.injEq,Prod.mk.injEq] at h;unfold pfSt at hr;split at hr
      · cases hr
      · cases hr;exact h.2.symm
def code_impl_readProofLines:VCode:=(.seq (.ops [
  ⟨(some 4),none,(.alloc [(.int .i64 0),(.slice none 0 0),(.slice none 0 0),(.slice none 0 0),(.slice none 0 0)])⟩,
  ⟨(some 5),none,(.asg (.const .nilIface))⟩]) (.seq (.ops [
  ⟨(some 10),none,(.build [(.int .i64 0),(.slice none 0 0),(.slice none 0 0),(.slice none 0 0),(.slice none 0 0),(.int .i64 0)] [])⟩,
  ⟨(some 11),none,(.box (.tmp 10))⟩,
  ⟨(some 6),none,(.asg (.tmp 11))⟩]) (.seq (.seq (.ops [
  ⟨(some 12),none,(.mv (.tmp 0))⟩,
  ⟨(some 13),none,(.len (.tmp 12))⟩,
  ⟨(some 14),none,(.mv (.const (.int .i64 0)))⟩]) (.block 0 (.loop (mB 50 1125899906810797) (.seq (.ops [
  ⟨(some 15),none,(.bin .lss (.tmp 14) (.tmp 13))⟩]) (.seq (.cond (.tmp 15) .skip (.exit 0)) (.seq (.block 1 (.seq (.ops [
  ⟨(some 16),none,(.mv (.tmp 14))⟩,
  ⟨(some 17),none,(.ia 1 (.tmp 12) (.tmp 14))⟩,
  ⟨(some 18),none,(.load 1 false (.tmp 17))⟩,
  ⟨(some 7),none,(.asg (.tmp 16))⟩,
  ⟨(some 8),none,(.asg (.tmp 18))⟩]) (.seq (.ops [
  ⟨(some 19),none,(.mv (.tmp 6))⟩,
  ⟨(some 20),none,(.mv (.tmp 8))⟩,
  ⟨(some 21),none,(.callX 68 [(.tmp 19),(.tmp 20)])⟩,
  ⟨(some 9),none,(.asg (.tmp 21))⟩]) (.seq (.ops [
  ⟨(some 22),none,(.mv (.tmp 9))⟩,
  ⟨(some 23),none,(.bin .neq (.tmp 22) (.const (.int .i64 0)))⟩]) (.cond (.tmp 23) (.seq (.ops [
  ⟨(some 24),none,(.build [(.int .i64 0),(.slice none 0 0),(.slice none 0 0),(.slice none 0 0),(.slice none 0 0)] [])⟩,
  ⟨(some 25),none,(.mv (.tmp 1))⟩,
  ⟨(some 26),none,(.mv (.tmp 7))⟩,
  ⟨(some 27),none,(.bin .add (.tmp 25) (.tmp 26))⟩,
  ⟨(some 28),none,(.bin .add (.tmp 27) (.const (.int .i64 1)))⟩,
  ⟨(some 29),none,(.mv (.tmp 9))⟩,
  ⟨(some 30),none,(.build [(.int .i64 0),(.int .i64 0)] [(0,1,(.tmp 28)),(1,1,(.tmp 29))])⟩,
  ⟨(some 31),none,(.box (.tmp 30))⟩,
  ⟨(some 32),none,(.mkif 89 (.tmp 31))⟩,
  ⟨none,none,(.store 5 (.tmp 4) (.tmp 24))⟩,
  ⟨(some 5),none,(.asg (.tmp 32))⟩]) .ret) .skip))))) (.ops [
  ⟨(some 33),none,(.bin .add (.tmp 14) (.const (.int .i64 1)))⟩,
  ⟨(some 14),none,(.mv (.tmp 33))⟩]))))))) (.seq (.seq (.ops [
  ⟨(some 34),none,(.mv (.tmp 6))⟩,
  ⟨(some 35),none,(.nilc (.tmp 34))⟩,
  ⟨(some 36),none,(.fa 0 (.tmp 35))⟩,
  ⟨(some 37),none,(.fa 0 (.tmp 36))⟩,
  ⟨(some 38),none,(.load 1 false (.tmp 37))⟩,
  ⟨(some 39),none,(.bin .eql (.tmp 38) (.const (.int .i64 0)))⟩]) (.cond (.tmp 39) (.seq (.ops [
  ⟨(some 40),none,(.build [(.int .i64 0),(.slice none 0 0),(.slice none 0 0),(.slice none 0 0),(.slice none 0 0)] [])⟩,
  ⟨(some 41),none,(.mv (.tmp 1))⟩,
  ⟨(some 42),none,(.bin .add (.tmp 41) (.const (.int .i64 1)))⟩,
  ⟨(some 43),none,(.build [(.int .i64 0),(.int .i64 0)] [(0,1,(.tmp 42)),(1,1,(.const (.int .i64 6)))])⟩,
  ⟨(some 44),none,(.box (.tmp 43))⟩,
  ⟨(some 45),none,(.mkif 89 (.tmp 44))⟩,
  ⟨none,none,(.store 5 (.tmp 4) (.tmp 40))⟩,
  ⟨(some 5),none,(.asg (.tmp 45))⟩]) .ret) .skip)) (.seq (.ops [
  ⟨(some 46),none,(.mv (.tmp 6))⟩,
  ⟨(some 47),none,(.nilc (.tmp 46))⟩,
  ⟨(some 48),none,(.fa 0 (.tmp 47))⟩,
  ⟨(some 49),none,(.load 5 true (.tmp 48))⟩,
  ⟨none,none,(.store 5 (.tmp 4) (.tmp 49))⟩,
  ⟨(some 5),none,(.asg (.const .nilIface))⟩]) .ret)))))
theorem law_impl_readProofLines {a0 a1 d:D} (h:code_impl_readProofLines.wp (CT Tryz.prog TabG) (endQ [(.c 4 5 true),(.t 5)] d) [a0,a1,.undef,.undef,.undef,.undef,.undef,.undef,.undef,.undef,.undef,.undef,.undef,.undef,.undef,.undef,.undef,.undef,.undef,.undef,.undef,.undef,.undef,.undef,.undef,.undef,.undef,.undef,.undef,.undef,.undef,.undef,.undef,.undef,.undef,.undef,.undef,.undef,.undef,.undef,.undef,.undef,.undef,.undef,.undef,.undef,.undef,.undef,.undef,.undef]):Contract Tryz.prog TabG 33 [a0,a1] d :=
  contract_of (pt:=0) tabG Tryz.func33 (fun us W=>by kernel_rfl) (c:=Tryz.f33.body.getD .skip) (ms:=[(mB 50 1125899906810797)]) (ms':=[]) (by kernel_rfl) (by kernel_rfl) (by kernel_rfl) h
def code_impl_ReadProof:VCode:=(.seq (.ops [
  ⟨(some 2),none,(.alloc [(.int .i64 0),(.slice none 0 0),(.slice none 0 0),(.slice none 0 0),(.slice none 0 0)])⟩,
  ⟨(some 3),none,(.asg (.const (.int .i64 0)))⟩,
  ⟨(some 4),none,(.asg (.const (.int .i64 0)))⟩]) (.seq (.seq (.ops [
  ⟨(some 9),none,(.mv (.tmp 0))⟩,
  ⟨(some 10),none,(.lenS (.tmp 9))⟩,
  ⟨(some 11),none,(.bin .gtr (.tmp 10) (.const (.int .i64 20000)))⟩]) (.cond (.tmp 11) (.seq (.ops [
  ⟨(some 12),none,(.build [(.int .i64 0),(.slice none 0 0),(.slice none 0 0),(.slice none 0 0),(.slice none 0 0)] [])⟩,
  ⟨none,none,(.store 5 (.tmp 2) (.tmp 12))⟩,
  ⟨(some 3),none,(.asg (.const (.int .i64 0)))⟩,
  ⟨(some 4),none,(.asg (.const (.int .i64 2)))⟩]) .ret) .skip)) (.seq (.ops [
  ⟨(some 14),none,(.mv (.tmp 0))⟩,
  ⟨(some 15),none,(.callX 34 [(.tmp 14)])⟩,
  ⟨(some 16),none,(.callX 33 [(.tmp 15),(.const (.int .i64 0))])⟩,
  ⟨(some 13),none,(.mv (.tmp 16))⟩,
  ⟨(some 17),none,(.ext (.tmp 13) 0)⟩,
  ⟨(some 18),none,(.ext (.tmp 13) 1)⟩,
  ⟨(some 5),none,(.alloc [(.int .i64 0),(.slice none 0 0),(.slice none 0 0),(.slice none 0 0),(.slice none 0 0)])⟩,
  ⟨none,none,(.store 5 (.tmp 5) (.tmp 17))⟩,
  ⟨(some 6),none,(.asg (.tmp 18))⟩]) (.seq (.seq (.ops [
  ⟨(some 20),none,(.mv (.tmp 6))⟩,
  ⟨(some 21),none,(.callX 25 [(.tmp 20)])⟩,
  ⟨(some 19),none,(.mv (.tmp 21))⟩,
  ⟨(some 22),none,(.ext (.tmp 19) 0)⟩,
  ⟨(some 23),none,(.ext (.tmp 19) 1)⟩,
  ⟨(some 7),none,(.asg (.tmp 22))⟩,
  ⟨(some 8),none,(.asg (.tmp 23))⟩]) (.seq (.ops [
  ⟨(some 24),none,(.mv (.tmp 8))⟩,
  ⟨(some 25),none,(.bin .neq (.tmp 24) (.const (.int .i64 0)))⟩]) (.cond (.tmp 25) (.seq (.ops [
  ⟨(some 26),none,(.build [(.int .i64 0),(.slice none 0 0),(.slice none 0 0),(.slice none 0 0),(.slice none 0 0)] [])⟩,
  ⟨(some 27),none,(.mv (.tmp 7))⟩,
  ⟨(some 28),none,(.mv (.tmp 8))⟩,
  ⟨none,none,(.store 5 (.tmp 2) (.tmp 26))⟩,
  ⟨(some 3),none,(.asg (.tmp 27))⟩,
  ⟨(some 4),none,(.asg (.tmp 28))⟩]) .ret) .skip))) (.seq (.ops [
  ⟨(some 29),none,(.load 5 true (.tmp 5))⟩,
  ⟨none,none,(.store 5 (.tmp 2) (.tmp 29))⟩,
  ⟨(some 3),none,(.asg (.const (.int .i64 0)))⟩,
  ⟨(some 4),none,(.asg (.const (.int .i64 0)))⟩]) .ret)))))
theorem law_impl_ReadProof {a0 d:D} (h:code_impl_ReadProof.wp (CT Tryz.prog TabG) (endQ [(.c 2 5 true),(.t 3),(.t 4)] d) [a0,.undef,.undef,.undef,.undef,.undef,.undef,.undef,.undef,.undef,.undef,.undef,.undef,.undef,.undef,.undef,.undef,.undef,.undef,.undef,.undef,.undef,.undef,.undef,.undef,.undef,.undef,.undef,.undef,.undef]):Contract Tryz.prog TabG 12 [a0] d :=
  contract_of (pt:=0) tabG Tryz.func12 (fun us W=>by kernel_rfl) (c:=Tryz.f12.body.getD .skip) (ms:=[]) (ms':=[]) (by kernel_rfl) (by kernel_rfl) (by kernel_rfl) h
set_option maxHeartbeats 40000000 in
theorem v_readProofLines (ls:List ByteArray) (hls:∀ l,l∈ls→l.size≤1048576) (hn:ls.length≤1048577):Contract Tryz.prog TabG 33 [.sl false 1 (ls.map rS),.v (.int .i64 0)] (.tup [.agg (Proof.td.d true (proofsE ls).1),rdE 89 (proofsE ls).2]):=by
  rw [Proof.td_d];refine law_impl_readProofLines ?_;unfold code_impl_readProofLines;simp -implicitDefEqProofs (disch:=omega) only [go_sem,↓reduceIte];refine loop_ov (by simp -implicitDefEqProofs (disch:=omega) only [go_sem,↓reduceIte];exact rfl) (fun q:Nat × (Proof × Int)=>[(11,.box none (prD q.2.1 q.2.2)),(14,.v (.int .i64 (q.1:Nat)))]) (fun _=>by simp only [ovr_nil,ovr_cons,List.set_cons_zero,List.set_cons_succ];exact rfl) (fun q:Nat × (Proof × Int)=>q.1≤ls.length∧rdFold pfSt (ls.take q.1) 0 (pf0,0)=.ok q.2) (fun q:Nat × (Proof × Int)=>ls.length - q.1) ((0,(pf0,0))) (nleA) (?_) ?_
  · exact ⟨Nat.zero_le _,rfl⟩
  rintro ⟨i,p,st⟩ ⟨hi,hf⟩;simp only at hi hf ⊢;obtain ⟨hB,hI,hK⟩:=pfFold_ok (M:=1048576) (ls.take i) 0 (pf0,0) (p,st) (fun l hl=>hls l (List.mem_of_mem_take hl)) (pf0_B _) pf0_I (fun h=>absurd rfl h) hf;rw [List.length_take,show 0+min i ls.length=i by omega] at hB hK;simp only at hB hI hK;simp -implicitDefEqProofs (disch:=omega) only [go_sem,↓reduceIte];refine cond_split ?_ ?_ <;> intro hlt
  · have hlt:i < ls.length:=(by simpa using hlt);have hltM:i < (ls.map rS).length:=(by rw [List.length_map];exact hlt);have e1:(ls.map rS)[i]?=some [D.v (.string ls[i])]:=(by rw [List.getElem?_map,List.getElem?_eq_getElem hlt];rfl);have hsz:=hls _ (List.getElem_mem hlt);have d6:decide ((6:Int)=0)=false:=rfl;have hz:IntKind.i64.wrap (0+(i:Int))=(i:Int):=(by rw [Int.zero_add];exact wrI (by omega) (by omega));have hz1:IntKind.i64.wrap ((i:Int)+1)=((i+1:Nat):Int):=wrI (by omega) (by omega);by_cases h0:i=0
    · have hp0:p=pf0∧st=0:=(by rw [h0] at hf;cases hf;exact ⟨rfl,rfl⟩);have hk0:p.Kind=0:=(by rw [hp0.1];rfl);have hC:=v_prl_first p st ls[i] hsz hk0;have hSt:pfSt i (p,st) ls[i]=match pfHead p (wordsB ls[i]) with | some p'=>.ok (p',st) | none=>.error 6:=by have:=pfSt_0 (p,st) ls[i];rw [← h0] at this;exact this
      cases hh:pfHead p (wordsB ls[i]) with
      | none =>
        rw [hh] at hC hSt;simp only [_root_.Option.getD_none] at hC;have hR:proofsE ls=(pf0,some (i+1,6)):=by unfold proofsE;rw [rdFold_err hlt hf hSt]
        rw [hR];unfold prD at hC ⊢;simp -implicitDefEqProofs (disch:=omega) only [go_sem,↓reduceIte ,e1,Int.toNat_natCast,Int.natCast_nonneg];refine ⟨by omega,?_⟩;refine call_ioA (i:=0) (r:=11) (hC) rfl rfl (by simp -implicitDefEqProofs (disch:=omega) only [go_sem,↓reduceIte,deep,TD.rows,immLL_rI,immLL_rB8,immLL_rS,immLL_rBo,immLL_rII,immLL_rIIt,d6,hz,hz1];exact rfl) (by repeat (first | exact leL_nil | refine leL_cons ?_ ?_ | exact le_of_eq rfl | exact le_iptrN (leL_of_eq rfl) | refine le_agg ?_ | exact le_slf rfl (TD.rows ..) | refine le_iptr ?_ | refine le_fn ?_ ?_ | exact le_nilsl_)) (by repeat (first | exact leL_nil | refine leL_cons ?_ ?_ | exact le_of_eq rfl | exact le_iptrN (leL_of_eq rfl) | refine le_agg ?_ | exact le_slf rfl (TD.rows ..) | refine le_iptr ?_ | refine le_fn ?_ ?_ | exact le_nilsl_)) (by first | exact .inr rfl | exact .inl ⟨rfl,rfl⟩ | exact .inl ⟨by simp only [D.noImm,noImmL,go_sem,TD.nims,TD.nim,nim_rI,nim_rB8,nim_rBo,nim_rS],by simp only [D.noImm,noImmL,go_sem,TD.nims,TD.nim,nim_rI,nim_rB8,nim_rBo,nim_rS]⟩) ?_;simp -implicitDefEqProofs (disch:=omega) only [go_sem,↓reduceIte ,d6,hz,hz1];exact ⟨⟨rfl,rfl,rfl,rfl,rfl⟩,le_of_eq rfl⟩
      | some p'=>rw [hh] at hC hSt;simp only [_root_.Option.getD_some] at hC;have hnx:=rdFold_ok hlt hf hSt;unfold prD at hC ⊢;simp -implicitDefEqProofs (disch:=omega) only [go_sem,↓reduceIte ,e1,Int.toNat_natCast,Int.natCast_nonneg];refine ⟨by omega,?_⟩;refine call_ioA (i:=0) (r:=11) (hC) rfl rfl (by simp -implicitDefEqProofs (disch:=omega) only [go_sem,↓reduceIte,deep,TD.rows,immLL_rI,immLL_rB8,immLL_rS,immLL_rBo,immLL_rII,immLL_rIIt,wrN];exact rfl) (by repeat (first | exact leL_nil | refine leL_cons ?_ ?_ | exact le_of_eq rfl | exact le_iptrN (leL_of_eq rfl) | refine le_agg ?_ | exact le_slf rfl (TD.rows ..) | refine le_iptr ?_ | refine le_fn ?_ ?_ | exact le_nilsl_)) (by repeat (first | exact leL_nil | refine leL_cons ?_ ?_ | exact le_of_eq rfl | exact le_iptrN (leL_of_eq rfl) | refine le_agg ?_ | exact le_slf rfl (TD.rows ..) | refine le_iptr ?_ | refine le_fn ?_ ?_ | exact le_nilsl_)) (by first | exact .inr rfl | exact .inl ⟨rfl,rfl⟩ | exact .inl ⟨by simp only [D.noImm,noImmL,go_sem,TD.nims,TD.nim,nim_rI,nim_rB8,nim_rBo,nim_rS],by simp only [D.noImm,noImmL,go_sem,TD.nims,TD.nim,nim_rI,nim_rB8,nim_rBo,nim_rS]⟩) ?_;simp -implicitDefEqProofs (disch:=omega) only [go_sem,↓reduceIte ,wrN];exact ⟨(i+1,(p',st)),by show _ - (i+1) < _ - i;omega,⟨hlt,hnx⟩,nleA⟩
    · have hC:=v_prl p st ls[i] hsz (hK h0) hI (by have:=hB.len;omega);have hSt:=pfSt_n h0 (p,st) ls[i];simp only at hSt;cases hh:pfLine p st (wordsB ls[i]) with
      | none =>
        rw [hh] at hC hSt;obtain ⟨p',st',hC⟩:=hC;have hR:proofsE ls=(pf0,some (i+1,6)):=by unfold proofsE;rw [rdFold_err hlt hf hSt]
        rw [hR];unfold prD at hC ⊢;simp -implicitDefEqProofs (disch:=omega) only [go_sem,↓reduceIte ,e1,Int.toNat_natCast,Int.natCast_nonneg];refine ⟨by omega,?_⟩;refine call_ioA (i:=0) (r:=11) (hC) rfl rfl (by simp -implicitDefEqProofs (disch:=omega) only [go_sem,↓reduceIte,deep,TD.rows,immLL_rI,immLL_rB8,immLL_rS,immLL_rBo,immLL_rII,immLL_rIIt,d6,hz,hz1];exact rfl) (by repeat (first | exact leL_nil | refine leL_cons ?_ ?_ | exact le_of_eq rfl | exact le_iptrN (leL_of_eq rfl) | refine le_agg ?_ | exact le_slf rfl (TD.rows ..) | refine le_iptr ?_ | refine le_fn ?_ ?_ | exact le_nilsl_)) (by repeat (first | exact leL_nil | refine leL_cons ?_ ?_ | exact le_of_eq rfl | exact le_iptrN (leL_of_eq rfl) | refine le_agg ?_ | exact le_slf rfl (TD.rows ..) | refine le_iptr ?_ | refine le_fn ?_ ?_ | exact le_nilsl_)) (by first | exact .inr rfl | exact .inl ⟨rfl,rfl⟩ | exact .inl ⟨by simp only [D.noImm,noImmL,go_sem,TD.nims,TD.nim,nim_rI,nim_rB8,nim_rBo,nim_rS],by simp only [D.noImm,noImmL,go_sem,TD.nims,TD.nim,nim_rI,nim_rB8,nim_rBo,nim_rS]⟩) ?_;simp -implicitDefEqProofs (disch:=omega) only [go_sem,↓reduceIte ,d6,hz,hz1];exact ⟨⟨rfl,rfl,rfl,rfl,rfl⟩,le_of_eq rfl⟩
      | some y=>obtain ⟨p',st'⟩:=y;rw [hh] at hC hSt;simp only at hC;have hnx:=rdFold_ok hlt hf hSt;unfold prD at hC ⊢;simp -implicitDefEqProofs (disch:=omega) only [go_sem,↓reduceIte ,e1,Int.toNat_natCast,Int.natCast_nonneg];refine ⟨by omega,?_⟩;refine call_ioA (i:=0) (r:=11) (hC) rfl rfl (by simp -implicitDefEqProofs (disch:=omega) only [go_sem,↓reduceIte,deep,TD.rows,immLL_rI,immLL_rB8,immLL_rS,immLL_rBo,immLL_rII,immLL_rIIt,wrN];exact rfl) (by repeat (first | exact leL_nil | refine leL_cons ?_ ?_ | exact le_of_eq rfl | exact le_iptrN (leL_of_eq rfl) | refine le_agg ?_ | exact le_slf rfl (TD.rows ..) | refine le_iptr ?_ | refine le_fn ?_ ?_ | exact le_nilsl_)) (by repeat (first | exact leL_nil | refine leL_cons ?_ ?_ | exact le_of_eq rfl | exact le_iptrN (leL_of_eq rfl) | refine le_agg ?_ | exact le_slf rfl (TD.rows ..) | refine le_iptr ?_ | refine le_fn ?_ ?_ | exact le_nilsl_)) (by first | exact .inr rfl | exact .inl ⟨rfl,rfl⟩ | exact .inl ⟨by simp only [D.noImm,noImmL,go_sem,TD.nims,TD.nim,nim_rI,nim_rB8,nim_rBo,nim_rS],by simp only [D.noImm,noImmL,go_sem,TD.nims,TD.nim,nim_rI,nim_rB8,nim_rBo,nim_rS]⟩) ?_;simp -implicitDefEqProofs (disch:=omega) only [go_sem,↓reduceIte ,wrN];exact ⟨(i+1,(p',st')),by show _ - (i+1) < _ - i;omega,⟨hlt,hnx⟩,nleA⟩
  · have hie:i=ls.length:=(by have:¬ i < ls.length:=(by simpa using hlt);omega);rw [hie,List.take_length] at hf;unfold prD;by_cases hk:p.Kind=0
    · have hR:proofsE ls=(pf0,some (1,6)):=(by unfold proofsE;rw [hf];simp only;rw [if_pos hk]);rw [hR];have dk:decide (p.Kind=0)=true:=decide_eq_true hk;simp -implicitDefEqProofs (disch:=omega) only [go_sem,↓reduceIte ,dk];exact ⟨⟨rfl,rfl,rfl,rfl,rfl⟩,le_of_eq rfl⟩
    · have hR:proofsE ls=(p,none):=(by unfold proofsE;rw [hf];simp only;rw [if_neg hk]);rw [hR];have dk:decide (p.Kind=0)=false:=decide_eq_false hk;simp -implicitDefEqProofs (disch:=omega) only [go_sem,↓reduceIte ,dk];exact le_of_eq rfl
theorem proofs_eq (ls:List ByteArray):proofsR ls=match (proofsE ls).2 with
    | some (k,c)=>(pf0,(k:Int),c)
    | none=>((proofsE ls).1,0,0):=by
  unfold proofsR proofsE;cases rdFold pfSt ls 0 (pf0,0) with
  | error e=>rfl
  | ok x=>simp only;split <;> rfl
theorem proofsE_err {ls:List ByteArray} {k:Nat} {c:Int} (h:(proofsE ls).2=some (k,c)):(proofsE ls).1=pf0∧c=6:=by
  unfold proofsE at h ⊢;split at h
  · rename_i hf;simp only [_root_.Option.some.injEq,Prod.mk.injEq] at h;have:=pf_six _ _ _ _ _ hf;exact ⟨rfl,by omega⟩
  · split at h
    · simp only [_root_.Option.some.injEq,Prod.mk.injEq] at h;rename_i hk;rw [if_pos hk];exact ⟨rfl,h.2.symm⟩
    · cases h
set_option maxHeartbeats 4000000 in
theorem vReadProof_implR (q_aText:ByteArray) (q_aText_n:q_aText.size≤1048576):Contract Tryz.prog TabG 12 [.v (.string q_aText)] (.tup [.agg (Proof.td.d true (ReadProofR q_aText).1),.v (.int .i64 (ReadProofR q_aText).2.1),.v (.int .i64 (ReadProofR q_aText).2.2)]):=by
  have hP:=v_readProofLines (linesB q_aText) (fun l hl=>by have:=linesB_size hl;omega) (by have:=linesB_len q_aText;omega);rw [readProof_eq,proofs_eq];by_cases hbig:20000 < q_aText.size
  · have d1:decide ((q_aText.size:Int) > 20000)=true:=decide_eq_true (by omega);rw [if_pos hbig,Proof.td_d];refine law_impl_ReadProof ?_;unfold code_impl_ReadProof;simp -implicitDefEqProofs (disch:=omega) only [go_sem,↓reduceIte ,d1];exact ⟨rfl,rfl,rfl,rfl,rfl⟩
  · have d1:decide ((q_aText.size:Int) > 20000)=false:=decide_eq_false (by omega);have hL:=v_SplitLines q_aText q_aText_n;rw [if_neg hbig];cases he:(proofsE (linesB q_aText)).2 with
    | some kc=>obtain ⟨k,c⟩:=kc;obtain ⟨hp0,rfl⟩:=proofsE_err he;rw [he,hp0] at hP;simp only [rdE] at hP;have hE:=v_lineOf_err (k:Int) 6;have c6:decide ((6:Int)=0)=false:=rfl;rw [Proof.td_d] at hP ⊢;refine law_impl_ReadProof ?_;unfold code_impl_ReadProof;simp -implicitDefEqProofs (disch:=omega) only [go_sem,↓reduceIte ,d1];refine call_B (hL) (by simp -implicitDefEqProofs (disch:=omega) only [go_sem,↓reduceIte,deep,TD.rows,immLL_rI,immLL_rB8,immLL_rS,immLL_rBo,immLL_rII,immLL_rIIt];exact rfl) ?_;simp -implicitDefEqProofs (disch:=omega) only [go_sem,↓reduceIte];refine call_B (hP) (by simp -implicitDefEqProofs (disch:=omega) only [go_sem,↓reduceIte,deep,TD.rows,immLL_rI,immLL_rB8,immLL_rS,immLL_rBo,immLL_rII,immLL_rIIt,rdE];exact rfl) ?_;simp -implicitDefEqProofs (disch:=omega) only [go_sem,↓reduceIte ,rdE];refine call_B (hE) (by simp -implicitDefEqProofs (disch:=omega) only [go_sem,↓reduceIte,deep,TD.rows,immLL_rI,immLL_rB8,immLL_rS,immLL_rBo,immLL_rII,immLL_rIIt,c6];exact rfl) ?_;simp -implicitDefEqProofs (disch:=omega) only [go_sem,↓reduceIte ,c6];exact ⟨rfl,rfl,rfl,rfl,rfl⟩
    | none=>rw [he] at hP;simp only [rdE] at hP;generalize (proofsE (linesB q_aText)).1=p at hP ⊢;have c6:decide ((0:Int)=0)=true:=rfl;rw [Proof.td_d] at hP ⊢;refine law_impl_ReadProof ?_;unfold code_impl_ReadProof;simp -implicitDefEqProofs (disch:=omega) only [go_sem,↓reduceIte ,d1];refine call_B (hL) (by simp -implicitDefEqProofs (disch:=omega) only [go_sem,↓reduceIte,deep,TD.rows,immLL_rI,immLL_rB8,immLL_rS,immLL_rBo,immLL_rII,immLL_rIIt];exact rfl) ?_;simp -implicitDefEqProofs (disch:=omega) only [go_sem,↓reduceIte];refine call_B (hP) (by simp -implicitDefEqProofs (disch:=omega) only [go_sem,↓reduceIte,deep,TD.rows,immLL_rI,immLL_rB8,immLL_rS,immLL_rBo,immLL_rII,immLL_rIIt,rdE];exact rfl) ?_;simp -implicitDefEqProofs (disch:=omega) only [go_sem,↓reduceIte ,rdE];refine call_B (v_lineOf_nil) (by simp -implicitDefEqProofs (disch:=omega) only [go_sem,↓reduceIte,deep,TD.rows,immLL_rI,immLL_rB8,immLL_rS,immLL_rBo,immLL_rII,immLL_rIIt,c6];exact rfl) ?_;simp -implicitDefEqProofs (disch:=omega) only [go_sem,↓reduceIte ,c6]
end Go.Proofs.YtjkbngjiagknkaaGreatDoor
