/- Laws that the proof stands on. -/
import Derived.Test.YtjkbngjiagknkaaGreatDoorZg24
import Derived.Test.YtjkbngjiagknkaaGreatDoorZg15
import Derived.Test.YtjkbngjiagknkaaGreatDoorZVTab
set_option linter.all false
namespace Go.Proofs.YtjkbngjiagknkaaGreatDoor
open Go.RowKit Go.V
attribute [local go_sem] List.getElem?_cons_succ List.getElem?_cons_zero List.set_cons_succ List.set_cons_zero List.map_cons List.map_nil List.length_cons List.length_nil List.all_cons List.all_nil List.drop_succ_cons List.drop_zero List.take_succ_cons List.take_zero List.flatMap_cons List.flatMap_nil List.cons_append List.nil_append List.append_nil List.headD_cons Value.oneCell' Bool.and_true Bool.true_and Bool.or_false Bool.false_or Bool.and_self Bool.not_true Bool.not_false and_true true_and beq_self_eq_true Bool.false_eq_true if_true if_false Nat.zero_add Nat.reduceAdd Nat.reduceMul Nat.reduceLeDiff Nat.le_refl Option.isSome_some Option.isSome_none not_true_eq_false not_false_eq_true ne_eq reduceCtorEq List.reverse_nil bne_self_eq_false Nat.reduceEqDiff List.isPrefixOf Bool.not_eq_true Bool.and_false Bool.false_and Bool.true_or Bool.or_true decide_true decide_false Nat.reduceBEq Nat.reduceBNe List.replicate_succ List.replicate_zero exists_eq_left' exists_eq_left Option.some.injEq or_false or_true true_or false_or Option.map_some Option.map_none mB Nat.reduceMod Nat.reduceDiv
set_option maxRecDepth 100000
theorem rm_six (ls:List ByteArray):∀ (i:Nat) (m:Machine) (k:Nat) (c:Int),rdFold rmSt ls i m=.error (k,c)→c=6:=by
  induction ls with
  | nil=>intro i m k c h;cases h
  | cons l ls ih =>
    intro i m k c h;simp only [rdFold] at h;cases hr:rmSt i m l with
    | ok m'=>rw [hr] at h;exact ih _ _ _ _ h
    | error c' =>
      rw [hr] at h;simp only [Except.error.injEq,Prod.mk.injEq] at h;unfold rmSt at hr;split at hr
      · cases hr
      · cases hr;exact h.2.symm
theorem rm_len (ls:List ByteArray):∀ (i:Nat) (m m':Machine),rdFold rmSt ls i m=.ok m'→m'.Moves.length≤m.Moves.length+ls.length:=by
  induction ls with
  | nil=>intro i m m' h;cases h;exact Nat.le_add_right _ _
  | cons l ls ih =>
    intro i m m' h;simp only [rdFold] at h;cases hr:rmSt i m l with
    | error c=>rw [hr] at h;cases h
    | ok m2 =>
      rw [hr] at h;have h1:=ih _ _ _ h;unfold rmSt at hr;split at hr
      · cases hr;rename_i h2;have:=rmLine_len h2;rw [List.length_cons];omega
      · cases hr
def code_impl_ReadMachine:VCode:=(.seq (.ops [
  ⟨(some 2),none,(.alloc [(.int .i64 0),(.int .i64 0),(.slice none 0 0)])⟩,
  ⟨(some 3),none,(.asg (.const (.int .i64 0)))⟩,
  ⟨(some 4),none,(.asg (.const (.int .i64 0)))⟩]) (.seq (.seq (.ops [
  ⟨(some 8),none,(.mv (.tmp 0))⟩,
  ⟨(some 9),none,(.lenS (.tmp 8))⟩,
  ⟨(some 10),none,(.bin .gtr (.tmp 9) (.const (.int .i64 20000)))⟩]) (.cond (.tmp 10) (.seq (.ops [
  ⟨(some 11),none,(.build [(.int .i64 0),(.int .i64 0),(.slice none 0 0)] [])⟩,
  ⟨none,none,(.store 3 (.tmp 2) (.tmp 11))⟩,
  ⟨(some 3),none,(.asg (.const (.int .i64 0)))⟩,
  ⟨(some 4),none,(.asg (.const (.int .i64 2)))⟩]) .ret) .skip)) (.seq (.ops [
  ⟨(some 12),none,(.build [(.int .i64 0),(.int .i64 0),(.slice none 0 0),(.bool false)] [])⟩,
  ⟨(some 13),none,(.box (.tmp 12))⟩,
  ⟨(some 5),none,(.asg (.tmp 13))⟩]) (.seq (.seq (.ops [
  ⟨(some 15),none,(.mv (.tmp 0))⟩,
  ⟨(some 16),none,(.mv (.tmp 5))⟩,
  ⟨(some 17),none,(.mkf 27 [(.tmp 16)] [])⟩,
  ⟨(some 18),none,(.callX 26 [(.tmp 15),(.tmp 17)])⟩,
  ⟨(some 19),none,(.callX 25 [(.tmp 18)])⟩,
  ⟨(some 14),none,(.mv (.tmp 19))⟩,
  ⟨(some 20),none,(.ext (.tmp 14) 0)⟩,
  ⟨(some 21),none,(.ext (.tmp 14) 1)⟩,
  ⟨(some 6),none,(.asg (.tmp 20))⟩,
  ⟨(some 7),none,(.asg (.tmp 21))⟩]) (.seq (.ops [
  ⟨(some 22),none,(.mv (.tmp 7))⟩,
  ⟨(some 23),none,(.bin .neq (.tmp 22) (.const (.int .i64 0)))⟩]) (.cond (.tmp 23) (.seq (.ops [
  ⟨(some 24),none,(.build [(.int .i64 0),(.int .i64 0),(.slice none 0 0)] [])⟩,
  ⟨(some 25),none,(.mv (.tmp 6))⟩,
  ⟨(some 26),none,(.mv (.tmp 7))⟩,
  ⟨none,none,(.store 3 (.tmp 2) (.tmp 24))⟩,
  ⟨(some 3),none,(.asg (.tmp 25))⟩,
  ⟨(some 4),none,(.asg (.tmp 26))⟩]) .ret) .skip))) (.seq (.seq (.ops [
  ⟨(some 27),none,(.mv (.tmp 5))⟩,
  ⟨(some 28),none,(.nilc (.tmp 27))⟩,
  ⟨(some 29),none,(.fa 0 (.tmp 28))⟩,
  ⟨(some 30),none,(.load 3 true (.tmp 29))⟩,
  ⟨(some 31),none,(.callX 28 [(.tmp 30)])⟩,
  ⟨(some 32),none,(.un .not (.tmp 31))⟩]) (.cond (.tmp 32) (.seq (.ops [
  ⟨(some 33),none,(.build [(.int .i64 0),(.int .i64 0),(.slice none 0 0)] [])⟩,
  ⟨none,none,(.store 3 (.tmp 2) (.tmp 33))⟩,
  ⟨(some 3),none,(.asg (.const (.int .i64 0)))⟩,
  ⟨(some 4),none,(.asg (.const (.int .i64 1)))⟩]) .ret) .skip)) (.seq (.ops [
  ⟨(some 34),none,(.mv (.tmp 5))⟩,
  ⟨(some 35),none,(.nilc (.tmp 34))⟩,
  ⟨(some 36),none,(.fa 0 (.tmp 35))⟩,
  ⟨(some 37),none,(.load 3 true (.tmp 36))⟩,
  ⟨none,none,(.store 3 (.tmp 2) (.tmp 37))⟩,
  ⟨(some 3),none,(.asg (.const (.int .i64 0)))⟩,
  ⟨(some 4),none,(.asg (.const (.int .i64 0)))⟩]) .ret))))))
theorem law_impl_ReadMachine {a0 d:D} (h:code_impl_ReadMachine.wp (CT Tryz.prog TabG) (endQ [(.c 2 3 true),(.t 3),(.t 4)] d) [a0,.undef,.undef,.undef,.undef,.undef,.undef,.undef,.undef,.undef,.undef,.undef,.undef,.undef,.undef,.undef,.undef,.undef,.undef,.undef,.undef,.undef,.undef,.undef,.undef,.undef,.undef,.undef,.undef,.undef,.undef,.undef,.undef,.undef,.undef,.undef,.undef,.undef]):Contract Tryz.prog TabG 7 [a0] d :=
  contract_of (pt:=0) tabG Tryz.func7 (fun us W=>by kernel_rfl) (c:=Tryz.f7.body.getD .skip) (ms:=[]) (ms':=[]) (by kernel_rfl) (by kernel_rfl) (by kernel_rfl) h
set_option maxHeartbeats 4000000 in
theorem vReadMachine_implR (q_aText:ByteArray) (q_aText_n:q_aText.size≤1048576):Contract Tryz.prog TabG 7 [.v (.string q_aText)] (.tup [.agg (Machine.td.d true (ReadMachineR q_aText).1),.v (.int .i64 (ReadMachineR q_aText).2.1),.v (.int .i64 (ReadMachineR q_aText).2.2)]):=by
  rw [Machine.td_d];refine law_impl_ReadMachine ?_;unfold code_impl_ReadMachine;by_cases hbig:20000 < q_aText.size
  · have d1:decide ((q_aText.size:Int) > 20000)=true:=decide_eq_true (by omega);have hR:ReadMachineR q_aText=(mc0,0,2):=(by unfold ReadMachineR;rw [if_pos hbig]);rw [hR];simp -implicitDefEqProofs (disch:=omega) only [go_sem,↓reduceIte ,d1];exact ⟨rfl,rfl,rfl⟩
  · have d1:decide ((q_aText.size:Int) > 20000)=false:=decide_eq_false (by omega);have hL:=v_readLines mrdR q_aText q_aText_n (mc0,false) (Nat.le_refl _);have hG:=mr_go (linesB q_aText) 0 mc0 false (by simp);simp -implicitDefEqProofs (disch:=omega) only [go_sem,↓reduceIte ,d1];have hL2:ContractL Tryz.prog TabG 26 1 [.v (.string q_aText),.undef] (.fn mrdR.F [.box none [.v (.int .i64 0),.v (.int .i64 0),.nils,.v (.bool false)]] []) (rdE 89 (mrdR.go (linesB q_aText) 0 (mc0,false)).1) (.fn mrdR.F [.box none (mrdR.cel (mrdR.go (linesB q_aText) 0 (mc0,false)).2)] []) :=
      ⟨hL.1,fun w I us u X hG hI hu hV hT hn hX=>hL.2 w I us u X hG hI hu hV (T.nle _ _ hT (by
        show Go.V.nle (.fn mrdR.F [.box none [.v (.int .i64 0),.v (.int .i64 0),.nils,.v (.bool false)]] []) (.fn mrdR.F [.box none (mrD mc0 false)] []);simp only [Go.V.nle];exact ⟨_,rfl,nleL_cons (nle_box (nleL_cons (nle_of_eq rfl) (nleL_cons (nle_of_eq rfl) (nleL_cons nle_nil (nleL_cons (nle_of_eq rfl) nleL_nil))))) nleL_nil⟩)) hn hX⟩
    refine call_gripF (i:=1) (r:=13) hL2 rfl rfl rfl rfl rfl (leL_of_eq rfl) ⟨?_,mrdR.ni _⟩ ?_
    · cases (mrdR.go (linesB q_aText) 0 (mc0,false)).1 <;> rfl
    generalize hgo:mrdR.go (linesB q_aText) 0 (mc0,false)=z at hG ⊢;obtain ⟨e,m,g⟩:=z;cases hf:rdFold rmSt (linesB q_aText) 0 mc0 with
    | error kc=>obtain ⟨k,c⟩:=kc;rw [hf] at hG;simp only at hG;subst hG;have hR:ReadMachineR q_aText=(mc0,(k:Int),c):=(by unfold ReadMachineR;rw [if_neg hbig,hf]);rw [hR];have hE:=v_lineOf_err (k:Int) c;have c6:decide (c=0)=false:=(by rw [rm_six _ _ _ _ _ hf];rfl);simp -implicitDefEqProofs (disch:=omega) only [go_sem,↓reduceIte ,rdE];refine call_B (hE) (by simp -implicitDefEqProofs (disch:=omega) only [go_sem,↓reduceIte,deep,TD.rows,immLL_rI,immLL_rB8,immLL_rS,immLL_rBo,immLL_rII,immLL_rIIt,c6];exact rfl) ?_;simp -implicitDefEqProofs (disch:=omega) only [go_sem,↓reduceIte ,c6];exact ⟨rfl,rfl,rfl⟩
    | ok m' =>
      rw [hf] at hG;simp only at hG;obtain ⟨rfl,rfl⟩:=hG;have hlen:m.Moves.length≤1048576:=by have h1:=rm_len _ _ _ _ hf;have h2:=linesB_len q_aText;have h3:mc0.Moves.length=0:=rfl;omega
      have hM:=v_ValidMachine m hlen;rw [Machine.td_d] at hM;have hcl:mrdR.cel (m,g)=[.v (.int .i64 m.States),.v (.int .i64 m.Symbols),.sl true 5 (m.Moves.map (Move.td.d true)),.v (.bool g)]:=rfl;rw [hcl];cases hok:okMach m with
      | false=>have hR:ReadMachineR q_aText=(mc0,0,1):=(by unfold ReadMachineR;rw [if_neg hbig,hf];simp only [hok];rfl);rw [hR];rw [hok] at hM;simp -implicitDefEqProofs (disch:=omega) only [go_sem,↓reduceIte ,rdE];refine call_B (v_lineOf_nil) (by simp -implicitDefEqProofs (disch:=omega) only [go_sem,↓reduceIte,deep,TD.rows,immLL_rI,immLL_rB8,immLL_rS,immLL_rBo,immLL_rII,immLL_rIIt];exact rfl) ?_;simp -implicitDefEqProofs (disch:=omega) only [go_sem,↓reduceIte];refine call_B (hM) (by simp -implicitDefEqProofs (disch:=omega) only [go_sem,↓reduceIte,deep,TD.rows,immLL_rI,immLL_rB8,immLL_rS,immLL_rBo,immLL_rII,immLL_rIIt];exact rfl) ?_;simp -implicitDefEqProofs (disch:=omega) only [go_sem,↓reduceIte];exact ⟨rfl,rfl,rfl⟩
      | true=>have hR:ReadMachineR q_aText=(m,0,0):=(by unfold ReadMachineR;rw [if_neg hbig,hf];simp only [hok];rfl);rw [hR];rw [hok] at hM;simp -implicitDefEqProofs (disch:=omega) only [go_sem,↓reduceIte ,rdE];refine call_B (v_lineOf_nil) (by simp -implicitDefEqProofs (disch:=omega) only [go_sem,↓reduceIte,deep,TD.rows,immLL_rI,immLL_rB8,immLL_rS,immLL_rBo,immLL_rII,immLL_rIIt];exact rfl) ?_;simp -implicitDefEqProofs (disch:=omega) only [go_sem,↓reduceIte];refine call_B (hM) (by simp -implicitDefEqProofs (disch:=omega) only [go_sem,↓reduceIte,deep,TD.rows,immLL_rI,immLL_rB8,immLL_rS,immLL_rBo,immLL_rII,immLL_rIIt];exact rfl) ?_;simp -implicitDefEqProofs (disch:=omega) only [go_sem,↓reduceIte]
end Go.Proofs.YtjkbngjiagknkaaGreatDoor
