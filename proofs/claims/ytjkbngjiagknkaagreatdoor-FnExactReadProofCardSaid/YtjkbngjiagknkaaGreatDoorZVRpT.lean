/- Laws that the proof stands on. -/
import Derived.Test.YtjkbngjiagknkaaGreatDoorZg20
import Derived.Test.YtjkbngjiagknkaaGreatDoorZg12
import Derived.Test.YtjkbngjiagknkaaGreatDoorZVTab
set_option linter.all false
namespace Go.Proofs.YtjkbngjiagknkaaGreatDoor
open Go.RowKit Go.V
attribute [local go_sem] List.getElem?_cons_succ List.getElem?_cons_zero List.set_cons_succ List.set_cons_zero List.map_cons List.map_nil List.length_cons List.length_nil List.all_cons List.all_nil List.drop_succ_cons List.drop_zero List.take_succ_cons List.take_zero List.flatMap_cons List.flatMap_nil List.cons_append List.nil_append List.append_nil List.headD_cons Value.oneCell' Bool.and_true Bool.true_and Bool.or_false Bool.false_or Bool.and_self Bool.not_true Bool.not_false and_true true_and beq_self_eq_true Bool.false_eq_true if_true if_false Nat.zero_add Nat.reduceAdd Nat.reduceMul Nat.reduceLeDiff Nat.le_refl Option.isSome_some Option.isSome_none not_true_eq_false not_false_eq_true ne_eq reduceCtorEq List.reverse_nil bne_self_eq_false Nat.reduceEqDiff List.isPrefixOf Bool.not_eq_true Bool.and_false Bool.false_and Bool.true_or Bool.or_true decide_true decide_false Nat.reduceBEq Nat.reduceBNe List.replicate_succ List.replicate_zero exists_eq_left' exists_eq_left Option.some.injEq or_false or_true true_or false_or Option.map_some Option.map_none mB Nat.reduceMod Nat.reduceDiv
set_option maxRecDepth 100000
attribute [local go_sem] nf
theorem len3' {n:List Int} (h:n.length=3):∃ a b c,n=[a,b,c]:=by
  match n,h with
  | [a,b,c],_=>exact ⟨a,b,c,rfl⟩
theorem pfLine_none {p:Proof} {st:Int} {w0:ByteArray} {ws:List ByteArray} (h:rdNums ws=none):pfLine p st (w0::ws)=none:=by unfold pfLine;simp only [h]
theorem pfLine_lt {p:Proof} {st:Int} {w0:ByteArray} {ws:List ByteArray} {n:List Int} (h:rdNums ws=some n) (hl:placeW w0 < st):pfLine p st (w0::ws)=none:=by unfold pfLine;simp only [h];rw [if_pos hl]
theorem pfLine_add {p:Proof} {st:Int} {w0:ByteArray} {ws:List ByteArray} {n:List Int} (h:rdNums ws=some n) (hl:¬ placeW w0 < st):pfLine p st (w0::ws)=(match pfAdd p (placeW w0) n with | none=>none | some p'=>some (p',placeW w0)):=by unfold pfLine;simp only [h];rw [if_neg hl];rfl
theorem add_3 {p:Proof} {n:List Int}:pfAdd p 3 n=some { p with Flows:=p.Flows++[n] }:=by unfold pfAdd;rw [if_pos rfl]
theorem add_2 {p:Proof} {n:List Int} (h:n≠[]∧p.Part=[]):pfAdd p 2 n=some { p with Part:=n }:=by unfold pfAdd;rw [if_neg (by decide),if_pos rfl,if_pos h]
theorem add_2n {p:Proof} {n:List Int} (h:¬ (n≠[]∧p.Part=[])):pfAdd p 2 n=none:=by unfold pfAdd;rw [if_neg (by decide),if_pos rfl,if_neg h]
theorem add_0 {p:Proof} {a b c:Int}:pfAdd p 0 [a,b,c]=some { p with Sequence:=p.Sequence++[⟨⟨a,b⟩,c⟩] }:=by unfold pfAdd;simp
theorem add_1 {p:Proof} {a b c:Int}:pfAdd p 1 [a,b,c]=some { p with Other:=p.Other++[⟨⟨a,b⟩,c⟩] }:=by unfold pfAdd;simp
theorem add_01n {p:Proof} {k:Int} {n:List Int} (hk:k=0∨k=1) (h:n.length≠3):pfAdd p k n=none:=by
  unfold pfAdd;rw [if_neg (by omega),if_neg (by omega)];split
  · simp at h
  · rfl
theorem v_pl (p:Proof) (st:Int) (w0:ByteArray) (ws:List ByteArray) (hw:∀ x,x∈ws→x.size≤1048576) (hl:ws.length≤1048577) (hI:PfI p st) (hs:p.Sequence.length+p.Other.length+p.Flows.length≤1048577) :
    ContractX Tryz.prog TabG 67 0 [.undef,.sl false 1 ((w0::ws).map rS),.v (.int .i64 (st+1))] (Proof.td.d true p) (.tup [.v (.int .i64 (match pfLine p st (w0::ws) with | some y=>y.2+1 | none=>0)),.v (.bool (pfLine p st (w0::ws)).isSome)]) (Proof.td.d true (match pfLine p st (w0::ws) with | some y=>y.1 | none=>p)):=by
  obtain ⟨h0,h3,h2,h1⟩:=hI;cases hr:rdNums ws with
  | none=>rw [pfLine_none hr];exact v_pl_none p st w0 ws hw hl hr
  | some n =>
    by_cases hlt:placeW w0 < st
    · rw [pfLine_lt hr hlt];exact v_pl_lt p st w0 ws hw hl n hr h0 h3 hlt
    · rw [pfLine_add hr hlt];have hp:=placeW_rng w0;have hk4:placeW w0=0∨placeW w0=1∨placeW w0=2∨placeW w0=3:=by omega
      rcases hk4 with hk | hk | hk | hk
      · rw [hk];by_cases hn:n.length=3
        · obtain ⟨a,b,c,rfl⟩:=len3' hn;rw [add_0];exact v_pl_0 p st w0 ws hw hl a b c hr h0 h3 hk (by omega) (by omega)
        · rw [add_01n (.inl rfl) hn];exact v_pl_0bad p st w0 ws hw hl n hr h0 h3 hk (by omega) hn
      · rw [hk];by_cases hn:n.length=3
        · obtain ⟨a,b,c,rfl⟩:=len3' hn;rw [add_1];exact v_pl_1 p st w0 ws hw hl a b c hr h0 h3 hk (by omega) (by omega)
        · rw [add_01n (.inr rfl) hn];exact v_pl_1bad p st w0 ws hw hl n hr h0 h3 hk (by omega) hn
      · rw [hk];by_cases h22:st=2
        · rw [add_2n (fun h=>h2 h22 h.2)];exact v_pl_2bad1 p st w0 ws hw hl n hr h0 h3 hk h22
        · by_cases hn:n=[]
          · rw [add_2n (fun h=>h.1 hn)];exact v_pl_2bad2 p st w0 ws hw hl n hr h0 h3 hk (by omega) hn
          · rw [add_2 ⟨hn,h1 (by omega)⟩];exact v_pl_2 p st w0 ws hw hl n hr h0 h3 hk (by omega) hn
      · rw [hk,add_3];exact v_pl_3 p st w0 ws hw hl n hr h0 h3 hk (by omega)
def proofsR (ls:List ByteArray):Proof × Int × Int:=match rdFold pfSt ls 0 (pf0,0) with
  | .error (k,c)=>(pf0,(k:Int),c)
  | .ok x=>if x.1.Kind=0 then (pf0,1,6) else (x.1,0,0)
theorem readProof_eq (b:ByteArray):ReadProofR b=if 20000 < b.size then (pf0,0,2) else proofsR (linesB b):=rfl
theorem pfSt_0 (x:Proof × Int) (l:ByteArray):pfSt 0 x l=match pfHead x.1 (wordsB l) with | some p'=>.ok (p',x.2) | none=>.error 6:=by unfold pfSt;rw [if_pos rfl];cases pfHead x.1 (wordsB l) <;> rfl
theorem pfSt_n {i:Nat} (h:i≠0) (x:Proof × Int) (l:ByteArray):pfSt i x l=match pfLine x.1 x.2 (wordsB l) with | some y=>.ok y | none=>.error 6:=by unfold pfSt;rw [if_neg h];cases pfLine x.1 x.2 (wordsB l) <;> rfl
theorem pf0_I:PfI pf0 0:=⟨by decide,by decide,fun h=>absurd h (by decide),fun _=>rfl⟩
def code_spec_l35ReadProof:VCode:=(.seq (.ops [
  ⟨(some 2),none,(.alloc [(.int .i64 0),(.slice none 0 0),(.slice none 0 0),(.slice none 0 0),(.slice none 0 0)])⟩,
  ⟨(some 3),none,(.asg (.const (.int .i64 0)))⟩,
  ⟨(some 4),none,(.asg (.const (.int .i64 0)))⟩]) (.seq (.ops [
  ⟨(some 10),none,(.build [(.int .i64 0),(.slice none 0 0),(.slice none 0 0),(.slice none 0 0),(.slice none 0 0)] [])⟩,
  ⟨(some 5),none,(.alloc [(.int .i64 0),(.slice none 0 0),(.slice none 0 0),(.slice none 0 0),(.slice none 0 0)])⟩,
  ⟨none,none,(.store 5 (.tmp 5) (.tmp 10))⟩]) (.seq (.ops [
  ⟨(some 6),none,(.asg (.const (.int .i64 1)))⟩]) (.seq (.seq (.ops [
  ⟨(some 7),none,(.asg (.const (.int .i64 0)))⟩]) (.block 0 (.loop (mB 66 73786976294838206234) (.seq (.seq (.ops [
  ⟨(some 11),none,(.mv (.tmp 7))⟩,
  ⟨(some 12),none,(.mv (.tmp 0))⟩,
  ⟨(some 13),none,(.len (.tmp 12))⟩,
  ⟨(some 14),none,(.bin .lss (.tmp 11) (.tmp 13))⟩]) (.cond (.tmp 14) .skip (.exit 0))) (.seq (.block 1 (.seq (.ops [
  ⟨(some 17),none,(.mv (.tmp 0))⟩,
  ⟨(some 18),none,(.mv (.tmp 7))⟩,
  ⟨(some 19),none,(.ia 1 (.tmp 17) (.tmp 18))⟩,
  ⟨(some 20),none,(.load 1 false (.tmp 19))⟩,
  ⟨(some 21),none,(.callX 23 [(.tmp 20)])⟩,
  ⟨(some 8),none,(.asg (.tmp 21))⟩]) (.seq (.ops [
  ⟨(some 22),none,(.mv (.tmp 8))⟩,
  ⟨(some 23),none,(.len (.tmp 22))⟩,
  ⟨(some 24),none,(.bin .gtr (.tmp 23) (.const (.int .i64 0)))⟩,
  ⟨(some 9),none,(.asg (.tmp 24))⟩]) (.seq (.seq (.ops [
  ⟨(some 25),none,(.mv (.tmp 7))⟩,
  ⟨(some 26),none,(.bin .eql (.tmp 25) (.const (.int .i64 0)))⟩]) (.cond (.tmp 26) (.seq (.ops [
  ⟨(some 27),none,(.mv (.tmp 8))⟩,
  ⟨(some 28),none,(.len (.tmp 27))⟩,
  ⟨(some 29),none,(.bin .eql (.tmp 28) (.const (.int .i64 2)))⟩,
  ⟨(some 30),none,(.mv (.tmp 29))⟩,
  ⟨(some 31),(some (30,true)),(.mv (.tmp 8))⟩,
  ⟨(some 32),(some (30,true)),(.ia 1 (.tmp 31) (.const (.int .i64 0)))⟩,
  ⟨(some 33),(some (30,true)),(.load 1 false (.tmp 32))⟩,
  ⟨(some 34),(some (30,true)),(.bin .eql (.tmp 33) (.const (.string ⟨⟨[112,114,111,111,102]⟩⟩)))⟩,
  ⟨(some 35),none,(.pick (.tmp 30) (.tmp 34) (.const (.bool false)))⟩,
  ⟨(some 36),none,(.mv (.tmp 35))⟩,
  ⟨(some 37),(some (36,true)),(.mv (.tmp 8))⟩,
  ⟨(some 38),(some (36,true)),(.ia 1 (.tmp 37) (.const (.int .i64 1)))⟩,
  ⟨(some 39),(some (36,true)),(.load 1 false (.tmp 38))⟩,
  ⟨(some 40),(some (36,true)),(.callX 66 [(.tmp 39)])⟩,
  ⟨(some 41),(some (36,true)),(.bin .gtr (.tmp 40) (.const (.int .i64 0)))⟩,
  ⟨(some 42),none,(.pick (.tmp 36) (.tmp 41) (.const (.bool false)))⟩,
  ⟨(some 9),none,(.asg (.tmp 42))⟩]) (.seq (.ops [
  ⟨(some 43),none,(.mv (.tmp 9))⟩]) (.cond (.tmp 43) (.ops [
  ⟨(some 44),none,(.mv (.tmp 8))⟩,
  ⟨(some 45),none,(.ia 1 (.tmp 44) (.const (.int .i64 1)))⟩,
  ⟨(some 46),none,(.load 1 false (.tmp 45))⟩,
  ⟨(some 47),none,(.callX 66 [(.tmp 46)])⟩,
  ⟨(some 48),none,(.fa 0 (.tmp 5))⟩,
  ⟨none,none,(.store 1 (.tmp 48) (.tmp 47))⟩]) .skip))) (.seq (.ops [
  ⟨(some 49),none,(.mv (.tmp 9))⟩]) (.cond (.tmp 49) (.ops [
  ⟨(some 51),none,(.mv (.tmp 8))⟩,
  ⟨(some 52),none,(.mv (.tmp 6))⟩,
  ⟨(some 53),none,(.callX 67 [(.tmp 5),(.tmp 51),(.tmp 52)])⟩,
  ⟨(some 50),none,(.mv (.tmp 53))⟩,
  ⟨(some 54),none,(.ext (.tmp 50) 0)⟩,
  ⟨(some 55),none,(.ext (.tmp 50) 1)⟩,
  ⟨(some 6),none,(.asg (.tmp 54))⟩,
  ⟨(some 9),none,(.asg (.tmp 55))⟩]) .skip)))) (.seq (.ops [
  ⟨(some 56),none,(.mv (.tmp 9))⟩,
  ⟨(some 57),none,(.un .not (.tmp 56))⟩]) (.cond (.tmp 57) (.seq (.ops [
  ⟨(some 58),none,(.build [(.int .i64 0),(.slice none 0 0),(.slice none 0 0),(.slice none 0 0),(.slice none 0 0)] [])⟩,
  ⟨(some 59),none,(.mv (.tmp 7))⟩,
  ⟨(some 60),none,(.bin .add (.tmp 59) (.const (.int .i64 1)))⟩,
  ⟨none,none,(.store 5 (.tmp 2) (.tmp 58))⟩,
  ⟨(some 3),none,(.asg (.tmp 60))⟩,
  ⟨(some 4),none,(.asg (.const (.int .i64 6)))⟩]) .ret) .skip)))))) (.ops [
  ⟨(some 15),none,(.mv (.tmp 7))⟩,
  ⟨(some 16),none,(.bin .add (.tmp 15) (.const (.int .i64 1)))⟩,
  ⟨(some 7),none,(.asg (.tmp 16))⟩])))))) (.seq (.seq (.ops [
  ⟨(some 61),none,(.fa 0 (.tmp 5))⟩,
  ⟨(some 62),none,(.load 1 false (.tmp 61))⟩,
  ⟨(some 63),none,(.bin .eql (.tmp 62) (.const (.int .i64 0)))⟩]) (.cond (.tmp 63) (.seq (.ops [
  ⟨(some 64),none,(.build [(.int .i64 0),(.slice none 0 0),(.slice none 0 0),(.slice none 0 0),(.slice none 0 0)] [])⟩,
  ⟨none,none,(.store 5 (.tmp 2) (.tmp 64))⟩,
  ⟨(some 3),none,(.asg (.const (.int .i64 1)))⟩,
  ⟨(some 4),none,(.asg (.const (.int .i64 6)))⟩]) .ret) .skip)) (.seq (.ops [
  ⟨(some 65),none,(.load 5 true (.tmp 5))⟩,
  ⟨none,none,(.store 5 (.tmp 2) (.tmp 65))⟩,
  ⟨(some 3),none,(.asg (.const (.int .i64 0)))⟩,
  ⟨(some 4),none,(.asg (.const (.int .i64 0)))⟩]) .ret))))))
theorem law_spec_l35ReadProof {a0 d:D} (h:code_spec_l35ReadProof.wp (CT Tryz.prog TabG) (endQ [(.c 2 5 true),(.t 3),(.t 4)] d) [a0,.undef,.undef,.undef,.undef,.undef,.undef,.undef,.undef,.undef,.undef,.undef,.undef,.undef,.undef,.undef,.undef,.undef,.undef,.undef,.undef,.undef,.undef,.undef,.undef,.undef,.undef,.undef,.undef,.undef,.undef,.undef,.undef,.undef,.undef,.undef,.undef,.undef,.undef,.undef,.undef,.undef,.undef,.undef,.undef,.undef,.undef,.undef,.undef,.undef,.undef,.undef,.undef,.undef,.undef,.undef,.undef,.undef,.undef,.undef,.undef,.undef,.undef,.undef,.undef,.undef]):Contract Tryz.prog TabG 32 [a0] d :=
  contract_of (pt:=0) tabG Tryz.func32 (fun us W=>by kernel_rfl) (c:=Tryz.f32.body.getD .skip) (ms:=[(mB 66 73786976294838206234)]) (ms':=[]) (by kernel_rfl) (by kernel_rfl) (by kernel_rfl) h
def code_spec_ReadProof:VCode:=(.seq (.ops [
  ⟨(some 2),none,(.alloc [(.int .i64 0),(.slice none 0 0),(.slice none 0 0),(.slice none 0 0),(.slice none 0 0)])⟩,
  ⟨(some 3),none,(.asg (.const (.int .i64 0)))⟩,
  ⟨(some 4),none,(.asg (.const (.int .i64 0)))⟩]) (.seq (.seq (.ops [
  ⟨(some 5),none,(.mv (.tmp 0))⟩,
  ⟨(some 6),none,(.lenS (.tmp 5))⟩,
  ⟨(some 7),none,(.bin .gtr (.tmp 6) (.const (.int .i64 20000)))⟩]) (.cond (.tmp 7) (.seq (.ops [
  ⟨(some 8),none,(.build [(.int .i64 0),(.slice none 0 0),(.slice none 0 0),(.slice none 0 0),(.slice none 0 0)] [])⟩,
  ⟨none,none,(.store 5 (.tmp 2) (.tmp 8))⟩,
  ⟨(some 3),none,(.asg (.const (.int .i64 0)))⟩,
  ⟨(some 4),none,(.asg (.const (.int .i64 2)))⟩]) .ret) .skip)) (.seq (.ops [
  ⟨(some 9),none,(.mv (.tmp 0))⟩,
  ⟨(some 10),none,(.callX 21 [(.tmp 9)])⟩,
  ⟨(some 11),none,(.callX 32 [(.tmp 10)])⟩,
  ⟨(some 12),none,(.ext (.tmp 11) 0)⟩,
  ⟨(some 13),none,(.ext (.tmp 11) 1)⟩,
  ⟨(some 14),none,(.ext (.tmp 11) 2)⟩,
  ⟨none,none,(.store 5 (.tmp 2) (.tmp 12))⟩,
  ⟨(some 3),none,(.asg (.tmp 13))⟩,
  ⟨(some 4),none,(.asg (.tmp 14))⟩]) .ret)))
theorem law_spec_ReadProof {a0 d:D} (h:code_spec_ReadProof.wp (CT Tryz.prog TabG) (endQ [(.c 2 5 true),(.t 3),(.t 4)] d) [a0,.undef,.undef,.undef,.undef,.undef,.undef,.undef,.undef,.undef,.undef,.undef,.undef,.undef,.undef]):Contract Tryz.prog TabG 11 [a0] d :=
  contract_of (pt:=0) tabG Tryz.func11 (fun us W=>by kernel_rfl) (c:=Tryz.f11.body.getD .skip) (ms:=[]) (ms':=[]) (by kernel_rfl) (by kernel_rfl) (by kernel_rfl) h
set_option maxHeartbeats 40000000 in
theorem v_l35ReadProof (ls:List ByteArray) (hls:∀ l,l∈ls→l.size≤1048576) (hn:ls.length≤1048577):Contract Tryz.prog TabG 32 [.sl false 1 (ls.map rS)] (.tup [.agg (Proof.td.d true (proofsR ls).1),.v (.int .i64 (proofsR ls).2.1),.v (.int .i64 (proofsR ls).2.2)]):=by
  rw [Proof.td_d];refine law_spec_l35ReadProof ?_;unfold code_spec_l35ReadProof;simp -implicitDefEqProofs (disch:=omega) only [go_sem,↓reduceIte];refine loop_ov (by simp -implicitDefEqProofs (disch:=omega) only [go_sem,↓reduceIte];exact rfl) (fun q:Nat × (Proof × Int)=>[(5,.box none (Proof.td.d true q.2.1)),(6,.v (.int .i64 (q.2.2+1))),(7,.v (.int .i64 (q.1:Nat)))]) (fun _=>by simp only [ovr_nil,ovr_cons,List.set_cons_zero,List.set_cons_succ];exact rfl) (fun q:Nat × (Proof × Int)=>q.1≤ls.length∧rdFold pfSt (ls.take q.1) 0 (pf0,0)=.ok q.2) (fun q:Nat × (Proof × Int)=>ls.length - q.1) ((0,(pf0,0))) (nleA) (?_) ?_
  · exact ⟨Nat.zero_le _,rfl⟩
  rintro ⟨i,p,st⟩ ⟨hi,hf⟩;simp only at hi hf ⊢;obtain ⟨hB,hI,hK⟩:=pfFold_ok (M:=1048576) (ls.take i) 0 (pf0,0) (p,st) (fun l hl=>hls l (List.mem_of_mem_take hl)) (pf0_B _) pf0_I (fun h=>absurd rfl h) hf;rw [List.length_take,show 0+min i ls.length=i by omega] at hB hK;simp only at hB hI hK;rw [Proof.td_d];simp -implicitDefEqProofs (disch:=omega) only [go_sem,↓reduceIte];refine cond_split ?_ ?_ <;> intro hlt
  · have hlt:i < ls.length:=(by simpa using hlt);have hltM:i < (ls.map rS).length:=(by rw [List.length_map];exact hlt);have e1:(ls.map rS)[i]?=some [D.v (.string ls[i])]:=(by rw [List.getElem?_map,List.getElem?_eq_getElem hlt];rfl);have hsz:=hls _ (List.getElem_mem hlt);have hW:=v_l05Words ls[i] hsz;have hwl:=wordsB_len ls[i];have hwz:∀ x,x∈wordsB ls[i]→x.size≤1048576:=fun x hx=>by have:=wordsB_size hx;omega
    by_cases h0:i=0
    · have d0:decide ((i:Int)=0)=true:=decide_eq_true (by omega);have hps:p=pf0∧st=0:=(by rw [h0] at hf;cases hf;exact ⟨rfl,rfl⟩);have hSt:pfSt i (p,st) ls[i]=match pfHead p (wordsB ls[i]) with | some p'=>.ok (p',st) | none=>.error 6:=by have:=pfSt_0 (p,st) ls[i];rw [← h0] at this;exact this
      by_cases h2:(wordsB ls[i]).length=2
      · obtain ⟨w0,w1,hw⟩:∃ a b,wordsB ls[i]=[a,b]:=by
          match hq:wordsB ls[i],h2 with
          | [a,b],_=>exact ⟨a,b,rfl⟩
        rw [hw] at hW hSt;obtain ⟨L,hwd,hLe⟩:∃ L,Wd L [w0,w1]∧[w0,w1].map rS=L:=⟨_,wd_map _,rfl⟩
        rw [hLe] at hW;have lw:(L.length:Int)=2:=by rw [hwd.len];rfl
        have e0:L[Int.toNat 0]?=some [.v (.string w0)]:=hwd.at' 0 (by simp);have e2:L[Int.toNat 1]?=some [.v (.string w1)]:=hwd.at' 1 (by simp);have n2:decide ((2:Int)=2)=true:=rfl;have n3:decide ((2:Int) > 0)=true:=rfl;cases hc:decide (w0=wProof) with
        | false=>have hN:pfHead p [w0,w1]=none:=(by unfold pfHead;simp only;rw [if_neg (fun h=>of_decide_eq_false hc h.1)]);rw [hN] at hSt;have hR:proofsR ls=(pf0,((i+1:Nat):Int),6):=(by unfold proofsR;rw [rdFold_err hlt hf hSt]);rw [hR];have hc1:decide (w0=(⟨⟨[112,114,111,111,102]⟩⟩:ByteArray))=false:=hc;simp -implicitDefEqProofs (disch:=omega) only [go_sem,↓reduceIte ,e1,Int.toNat_natCast,Int.natCast_nonneg];refine ⟨by omega,?_⟩;refine call_B (hW) (by simp -implicitDefEqProofs (disch:=omega) only [go_sem,↓reduceIte,deep,TD.rows,immLL_rI,immLL_rB8,immLL_rS,immLL_rBo,immLL_rII,immLL_rIIt,d0,lw,e0,e2,n2,n3,hc1,Int.le_refl,Int.reduceLE,Int.reduceLT,wrN];exact rfl) ?_;simp -implicitDefEqProofs (disch:=omega) only [go_sem,↓reduceIte ,d0,lw,e0,e2,n2,n3,hc1,Int.le_refl,Int.reduceLE,Int.reduceLT,wrN];exact ⟨rfl,rfl,rfl,rfl,rfl⟩
        | true =>
          have hc1:decide (w0=(⟨⟨[112,114,111,111,102]⟩⟩:ByteArray))=true:=hc;by_cases hk:kindN w1=0
          · have hN:pfHead p [w0,w1]=none:=(by unfold pfHead;simp only;rw [if_neg (fun h=>h.2 hk)]);rw [hN] at hSt;have hR:proofsR ls=(pf0,((i+1:Nat):Int),6):=(by unfold proofsR;rw [rdFold_err hlt hf hSt]);rw [hR];have dk:decide (kindN w1 > 0)=false:=(by rw [hk];rfl);simp -implicitDefEqProofs (disch:=omega) only [go_sem,↓reduceIte ,e1,Int.toNat_natCast,Int.natCast_nonneg];refine ⟨by omega,?_⟩;refine call_B (hW) (by simp -implicitDefEqProofs (disch:=omega) only [go_sem,↓reduceIte,deep,TD.rows,immLL_rI,immLL_rB8,immLL_rS,immLL_rBo,immLL_rII,immLL_rIIt,d0,lw,e0,e2,n2,n3,hc1,Int.le_refl,Int.reduceLE,Int.reduceLT];exact rfl) ?_;simp -implicitDefEqProofs (disch:=omega) only [go_sem,↓reduceIte ,d0,lw,e0,e2,n2,n3,hc1,Int.le_refl,Int.reduceLE,Int.reduceLT];refine call_B (v_l35Kind w1) (by simp -implicitDefEqProofs (disch:=omega) only [go_sem,↓reduceIte,deep,TD.rows,immLL_rI,immLL_rB8,immLL_rS,immLL_rBo,immLL_rII,immLL_rIIt,dk,wrN];exact rfl) ?_;simp -implicitDefEqProofs (disch:=omega) only [go_sem,↓reduceIte ,dk,wrN];exact ⟨rfl,rfl,rfl,rfl,rfl⟩
          · have hN:pfHead p [w0,w1]=some { p with Kind:=kindN w1 }:=(by unfold pfHead;simp only;rw [if_pos ⟨of_decide_eq_true hc,hk⟩]);rw [hN] at hSt;have hnx:=rdFold_ok hlt hf hSt;have hkr:=kindN_rng w1;have dk:decide (kindN w1 > 0)=true:=decide_eq_true (by omega);simp -implicitDefEqProofs (disch:=omega) only [go_sem,↓reduceIte ,e1,Int.toNat_natCast,Int.natCast_nonneg];refine ⟨by omega,?_⟩;refine call_B (hW) (by simp -implicitDefEqProofs (disch:=omega) only [go_sem,↓reduceIte,deep,TD.rows,immLL_rI,immLL_rB8,immLL_rS,immLL_rBo,immLL_rII,immLL_rIIt,d0,lw,e0,e2,n2,n3,hc1,Int.le_refl,Int.reduceLE,Int.reduceLT];exact rfl) ?_;simp -implicitDefEqProofs (disch:=omega) only [go_sem,↓reduceIte ,d0,lw,e0,e2,n2,n3,hc1,Int.le_refl,Int.reduceLE,Int.reduceLT];refine call_B (v_l35Kind w1) (by simp -implicitDefEqProofs (disch:=omega) only [go_sem,↓reduceIte,deep,TD.rows,immLL_rI,immLL_rB8,immLL_rS,immLL_rBo,immLL_rII,immLL_rIIt,dk,lw,e2,Int.le_refl,Int.reduceLE,Int.reduceLT];exact rfl) ?_;simp -implicitDefEqProofs (disch:=omega) only [go_sem,↓reduceIte ,dk,lw,e2,Int.le_refl,Int.reduceLE,Int.reduceLT];refine call_B (v_l35Kind w1) (by simp -implicitDefEqProofs (disch:=omega) only [go_sem,↓reduceIte,deep,TD.rows,immLL_rI,immLL_rB8,immLL_rS,immLL_rBo,immLL_rII,immLL_rIIt,wrN];exact rfl) ?_;simp -implicitDefEqProofs (disch:=omega) only [go_sem,↓reduceIte ,wrN];exact ⟨(i+1,({ p with Kind:=kindN w1 },st)),by show _ - (i+1) < _ - i;omega,⟨hlt,hnx⟩,nleA⟩
      · have hN:pfHead p (wordsB ls[i])=none:=by
          unfold pfHead;split
          · rename_i hq;rw [hq] at h2;simp at h2
          · rfl
        rw [hN] at hSt;have hR:proofsR ls=(pf0,((i+1:Nat):Int),6):=by unfold proofsR;rw [rdFold_err hlt hf hSt]
        rw [hR];have d2:decide (((wordsB ls[i]).length:Int)=2)=false:=decide_eq_false (by omega);simp -implicitDefEqProofs (disch:=omega) only [go_sem,↓reduceIte ,e1,Int.toNat_natCast,Int.natCast_nonneg];refine ⟨by omega,?_⟩;refine call_B (hW) (by simp -implicitDefEqProofs (disch:=omega) only [go_sem,↓reduceIte,deep,TD.rows,immLL_rI,immLL_rB8,immLL_rS,immLL_rBo,immLL_rII,immLL_rIIt,d0,d2,List.length_map,wrN];exact rfl) ?_;simp -implicitDefEqProofs (disch:=omega) only [go_sem,↓reduceIte ,d0,d2,List.length_map,wrN];exact ⟨rfl,rfl,rfl,rfl,rfl⟩
    · have d0:decide ((i:Int)=0)=false:=decide_eq_false (by omega);have hSt:=pfSt_n h0 (p,st) ls[i];simp only at hSt;cases hw:wordsB ls[i] with
      | nil =>
        rw [hw] at hW hSt;have hR:proofsR ls=(pf0,((i+1:Nat):Int),6):=by unfold proofsR;rw [rdFold_err hlt hf (c:=6) (by rw [hSt];rfl)]
        rw [hR];have ll:decide (((0:Nat):Int) > 0)=false:=rfl;simp -implicitDefEqProofs (disch:=omega) only [go_sem,↓reduceIte ,e1,Int.toNat_natCast,Int.natCast_nonneg];refine ⟨by omega,?_⟩;refine call_B (hW) (by simp -implicitDefEqProofs (disch:=omega) only [go_sem,↓reduceIte,deep,TD.rows,immLL_rI,immLL_rB8,immLL_rS,immLL_rBo,immLL_rII,immLL_rIIt,d0,ll,List.map_nil,List.length_nil,wrN];exact rfl) ?_;simp -implicitDefEqProofs (disch:=omega) only [go_sem,↓reduceIte ,d0,ll,List.map_nil,List.length_nil,wrN];exact ⟨rfl,rfl,rfl,rfl,rfl⟩
      | cons w0 ws =>
        rw [hw] at hW hSt hwz hwl;rw [List.length_cons] at hwl;have hLn:=v_pl p st w0 ws (fun x hx=>hwz x (List.mem_cons_of_mem _ hx)) (by omega) hI (by have:=hB.len;omega);have ll:decide (((ws.length+1:Nat):Int) > 0)=true:=decide_eq_true (by omega);obtain ⟨L,hwd,hLe⟩:∃ L,WdL L w0 ws∧(w0::ws).map rS=L:=⟨_,wdl_map _ _,rfl⟩
        have lw:=hwd.len;rw [hLe] at hW hLn;have iL:immLL L=L:=(by rw [← hLe];exact immLL_rS _);cases hr:pfLine p st (w0::ws) with
        | none =>
          rw [hr] at hSt hLn;have hR:proofsR ls=(pf0,((i+1:Nat):Int),6):=by unfold proofsR;rw [rdFold_err hlt hf hSt]
          rw [hR];simp only [Proof.td_d,_root_.Option.isSome_none] at hLn;simp -implicitDefEqProofs (disch:=omega) only [go_sem,↓reduceIte ,e1,Int.toNat_natCast,Int.natCast_nonneg];refine ⟨by omega,?_⟩;refine call_B (hW) (by simp -implicitDefEqProofs (disch:=omega) only [go_sem,↓reduceIte,deep,TD.rows,immLL_rI,immLL_rB8,immLL_rS,immLL_rBo,immLL_rII,immLL_rIIt,d0,lw,ll];exact rfl) ?_;simp -implicitDefEqProofs (disch:=omega) only [go_sem,↓reduceIte ,d0,lw,ll];refine call_ioA (i:=0) (r:=5) (hLn) rfl rfl (by simp -implicitDefEqProofs (disch:=omega) only [go_sem,↓reduceIte,deep,TD.rows,immLL_rI,immLL_rB8,immLL_rS,immLL_rBo,immLL_rII,immLL_rIIt,iL,wrN];exact rfl) (by repeat (first | exact leL_nil | refine leL_cons ?_ ?_ | exact le_of_eq rfl | exact le_iptrN (leL_of_eq rfl) | refine le_agg ?_ | exact le_slf rfl (TD.rows ..) | refine le_iptr ?_ | refine le_fn ?_ ?_ | exact le_nilsl_)) (by repeat (first | exact leL_nil | refine leL_cons ?_ ?_ | exact le_of_eq rfl | exact le_iptrN (leL_of_eq rfl) | refine le_agg ?_ | exact le_slf rfl (TD.rows ..) | refine le_iptr ?_ | refine le_fn ?_ ?_ | exact le_nilsl_)) (by first | exact .inr rfl | exact .inl ⟨rfl,rfl⟩ | exact .inl ⟨by simp only [D.noImm,noImmL,go_sem,TD.nims,TD.nim,nim_rI,nim_rB8,nim_rBo,nim_rS],by simp only [D.noImm,noImmL,go_sem,TD.nims,TD.nim,nim_rI,nim_rB8,nim_rBo,nim_rS]⟩) ?_;simp -implicitDefEqProofs (disch:=omega) only [go_sem,↓reduceIte ,iL,wrN];exact ⟨rfl,rfl,rfl,rfl,rfl⟩
        | some y=>obtain ⟨p',st'⟩:=y;rw [hr] at hSt hLn;have hnx:=rdFold_ok hlt hf hSt;simp only [Proof.td_d,_root_.Option.isSome_some] at hLn;simp -implicitDefEqProofs (disch:=omega) only [go_sem,↓reduceIte ,e1,Int.toNat_natCast,Int.natCast_nonneg];refine ⟨by omega,?_⟩;refine call_B (hW) (by simp -implicitDefEqProofs (disch:=omega) only [go_sem,↓reduceIte,deep,TD.rows,immLL_rI,immLL_rB8,immLL_rS,immLL_rBo,immLL_rII,immLL_rIIt,d0,lw,ll];exact rfl) ?_;simp -implicitDefEqProofs (disch:=omega) only [go_sem,↓reduceIte ,d0,lw,ll];refine call_ioA (i:=0) (r:=5) (hLn) rfl rfl (by simp -implicitDefEqProofs (disch:=omega) only [go_sem,↓reduceIte,deep,TD.rows,immLL_rI,immLL_rB8,immLL_rS,immLL_rBo,immLL_rII,immLL_rIIt,iL,wrN];exact rfl) (by repeat (first | exact leL_nil | refine leL_cons ?_ ?_ | exact le_of_eq rfl | exact le_iptrN (leL_of_eq rfl) | refine le_agg ?_ | exact le_slf rfl (TD.rows ..) | refine le_iptr ?_ | refine le_fn ?_ ?_ | exact le_nilsl_)) (by repeat (first | exact leL_nil | refine leL_cons ?_ ?_ | exact le_of_eq rfl | exact le_iptrN (leL_of_eq rfl) | refine le_agg ?_ | exact le_slf rfl (TD.rows ..) | refine le_iptr ?_ | refine le_fn ?_ ?_ | exact le_nilsl_)) (by first | exact .inr rfl | exact .inl ⟨rfl,rfl⟩ | exact .inl ⟨by simp only [D.noImm,noImmL,go_sem,TD.nims,TD.nim,nim_rI,nim_rB8,nim_rBo,nim_rS],by simp only [D.noImm,noImmL,go_sem,TD.nims,TD.nim,nim_rI,nim_rB8,nim_rBo,nim_rS]⟩) ?_;simp -implicitDefEqProofs (disch:=omega) only [go_sem,↓reduceIte ,iL,wrN];exact ⟨(i+1,(p',st')),by show _ - (i+1) < _ - i;omega,⟨hlt,hnx⟩,nleA⟩
  · have hie:i=ls.length:=(by have:¬ i < ls.length:=(by simpa using hlt);omega);rw [hie,List.take_length] at hf;by_cases hk:p.Kind=0
    · have hR:proofsR ls=(pf0,1,6):=(by unfold proofsR;rw [hf];simp only;rw [if_pos hk]);rw [hR];have dk:decide (p.Kind=0)=true:=decide_eq_true hk;simp -implicitDefEqProofs (disch:=omega) only [go_sem,↓reduceIte ,dk];exact ⟨rfl,rfl,rfl,rfl,rfl⟩
    · have hR:proofsR ls=(p,0,0):=(by unfold proofsR;rw [hf];simp only;rw [if_neg hk]);rw [hR];have dk:decide (p.Kind=0)=false:=decide_eq_false hk;simp -implicitDefEqProofs (disch:=omega) only [go_sem,↓reduceIte ,dk]
      first | done | exact ⟨rfl,rfl,rfl,rfl,rfl⟩
end Go.Proofs.YtjkbngjiagknkaaGreatDoor
