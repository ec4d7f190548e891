/- Laws that the proof stands on. -/
import Derived.Test.YtjkbngjiagknkaaGreatDoorZg22
import Derived.Test.YtjkbngjiagknkaaGreatDoorZVRdB
import Derived.Test.YtjkbngjiagknkaaGreatDoorZVTab
set_option linter.all false
namespace Go.Proofs.YtjkbngjiagknkaaGreatDoor
open Go.RowKit Go.V
attribute [local go_sem] List.getElem?_cons_succ List.getElem?_cons_zero List.set_cons_succ List.set_cons_zero List.map_cons List.map_nil List.length_cons List.length_nil List.all_cons List.all_nil List.drop_succ_cons List.drop_zero List.take_succ_cons List.take_zero List.flatMap_cons List.flatMap_nil List.cons_append List.nil_append List.append_nil List.headD_cons Value.oneCell' Bool.and_true Bool.true_and Bool.or_false Bool.false_or Bool.and_self Bool.not_true Bool.not_false and_true true_and beq_self_eq_true Bool.false_eq_true if_true if_false Nat.zero_add Nat.reduceAdd Nat.reduceMul Nat.reduceLeDiff Nat.le_refl Option.isSome_some Option.isSome_none not_true_eq_false not_false_eq_true ne_eq reduceCtorEq List.reverse_nil bne_self_eq_false Nat.reduceEqDiff List.isPrefixOf Bool.not_eq_true Bool.and_false Bool.false_and Bool.true_or Bool.or_true decide_true decide_false Nat.reduceBEq Nat.reduceBNe List.replicate_succ List.replicate_zero exists_eq_left' exists_eq_left Option.some.injEq or_false or_true true_or false_or Option.map_some Option.map_none mB Nat.reduceMod Nat.reduceDiv
set_option maxRecDepth 100000
def rsdR:Rdr TileSet where
  F:=45
  cel:=rsD
  st:=fun s l=>exS s (rsLine true s (wordsB l))
  J:=fun i s=>s.Glues.length+s.Tiles.length≤i
  pr:=fun q s=>rfl
  ni:=fun s=>by show (true&&noImmLL (s.Glues.map (Glue.td.d true))&&((true&&noImmLL (s.Tiles.map (Tile.td.d true)))&&true))=true;rw [TD.nims,TD.nims];rfl
  law:=fun i s l hi hJ hl=>v_srl s l hl (by omega) (by omega)
  next := fun i s l hJ h0=>by
    cases hr:rsLine true s (wordsB l) with
    | error c=>rw [hr] at h0;have h0:c=0:=h0;rcases rsLine_err hr with h | h <;> omega
    | ok s' =>
      simp only [exS];unfold rsLine at hr;split at hr
      · cases hr
      · split at hr
        · unfold rsGlue at hr
          repeat' split at hr
          all_goals first | (cases hr;simp only [List.length_append,List.length_cons,List.length_nil];omega) | cases hr
        · split at hr
          · unfold rsTile at hr
            repeat' split at hr
            all_goals first | (cases hr;simp only [List.length_append,List.length_cons,List.length_nil];omega) | cases hr
          · cases hr
theorem rs_go (ls:List ByteArray):∀ (i:Nat) (s:TileSet),(match rdFold (rsSt true) ls i s with
    | .ok s'=>(rsdR.go ls i s).1=none∧(rsdR.go ls i s).2=s'
    | .error (k,c)=>(rsdR.go ls i s).1=some (k,c)):=by
  induction ls with
  | nil=>intro i s;exact ⟨rfl,rfl⟩
  | cons l ls ih =>
    intro i s;have e3:rsdR.go (l::ls) i s=if (exS s (rsLine true s (wordsB l))).1=0 then rsdR.go ls (i+1) (exS s (rsLine true s (wordsB l))).2 else (some (i+1,(exS s (rsLine true s (wordsB l))).1),(exS s (rsLine true s (wordsB l))).2):=rfl
    simp only [rdFold,rsSt];cases hr:rsLine true s (wordsB l) with
    | error c =>
      have hc:¬ c=0:=by rcases rsLine_err hr with h | h <;> rw [h] <;> decide
      have e4:rsdR.go (l::ls) i s=(some (i+1,c),s):=(by rw [e3,if_neg (by rw [hr];exact hc),hr];rfl);simp only;rw [e4]
    | ok s'=>have e4:rsdR.go (l::ls) i s=rsdR.go ls (i+1) s':=(by rw [e3,if_pos (by rw [hr];rfl),hr];rfl);rw [e4];exact ih (i+1) s'
theorem rs_code (ls:List ByteArray):∀ (i:Nat) (s:TileSet) (k:Nat) (c:Int),rdFold (rsSt true) ls i s=.error (k,c)→c=6∨c=3:=by
  induction ls with
  | nil=>intro i s k c h;cases h
  | cons l ls ih =>
    intro i s k c h;simp only [rdFold,rsSt] at h;cases hr:rsLine true s (wordsB l) with
    | ok s'=>rw [hr] at h;exact ih _ _ _ _ h
    | error c'=>rw [hr] at h;simp only [Except.error.injEq,Prod.mk.injEq] at h;rw [← h.2];exact rsLine_err hr
def code_impl_ReadSet:VCode:=(.seq (.ops [
  ⟨(some 2),none,(.alloc [(.slice none 0 0),(.slice none 0 0)])⟩,
  ⟨(some 3),none,(.asg (.const (.int .i64 0)))⟩,
  ⟨(some 4),none,(.asg (.const (.int .i64 0)))⟩]) (.seq (.seq (.ops [
  ⟨(some 8),none,(.mv (.tmp 0))⟩,
  ⟨(some 9),none,(.lenS (.tmp 8))⟩,
  ⟨(some 10),none,(.bin .gtr (.tmp 9) (.const (.int .i64 20000)))⟩]) (.cond (.tmp 10) (.seq (.ops [
  ⟨(some 11),none,(.build [(.slice none 0 0),(.slice none 0 0)] [])⟩,
  ⟨none,none,(.store 2 (.tmp 2) (.tmp 11))⟩,
  ⟨(some 3),none,(.asg (.const (.int .i64 0)))⟩,
  ⟨(some 4),none,(.asg (.const (.int .i64 2)))⟩]) .ret) .skip)) (.seq (.ops [
  ⟨(some 12),none,(.build [(.slice none 0 0),(.slice none 0 0)] [])⟩,
  ⟨(some 13),none,(.box (.tmp 12))⟩,
  ⟨(some 5),none,(.asg (.tmp 13))⟩]) (.seq (.seq (.ops [
  ⟨(some 15),none,(.mv (.tmp 0))⟩,
  ⟨(some 16),none,(.mv (.tmp 5))⟩,
  ⟨(some 17),none,(.mkf 45 [(.tmp 16)] [])⟩,
  ⟨(some 18),none,(.callX 26 [(.tmp 15),(.tmp 17)])⟩,
  ⟨(some 19),none,(.callX 25 [(.tmp 18)])⟩,
  ⟨(some 14),none,(.mv (.tmp 19))⟩,
  ⟨(some 20),none,(.ext (.tmp 14) 0)⟩,
  ⟨(some 21),none,(.ext (.tmp 14) 1)⟩,
  ⟨(some 6),none,(.asg (.tmp 20))⟩,
  ⟨(some 7),none,(.asg (.tmp 21))⟩]) (.seq (.ops [
  ⟨(some 22),none,(.mv (.tmp 7))⟩,
  ⟨(some 23),none,(.bin .neq (.tmp 22) (.const (.int .i64 0)))⟩]) (.cond (.tmp 23) (.seq (.ops [
  ⟨(some 24),none,(.build [(.slice none 0 0),(.slice none 0 0)] [])⟩,
  ⟨(some 25),none,(.mv (.tmp 6))⟩,
  ⟨(some 26),none,(.mv (.tmp 7))⟩,
  ⟨none,none,(.store 2 (.tmp 2) (.tmp 24))⟩,
  ⟨(some 3),none,(.asg (.tmp 25))⟩,
  ⟨(some 4),none,(.asg (.tmp 26))⟩]) .ret) .skip))) (.seq (.seq (.ops [
  ⟨(some 27),none,(.mv (.tmp 5))⟩,
  ⟨(some 28),none,(.nilc (.tmp 27))⟩,
  ⟨(some 29),none,(.fa 0 (.tmp 28))⟩,
  ⟨(some 30),none,(.load 2 true (.tmp 29))⟩,
  ⟨(some 31),none,(.callX 46 [(.tmp 30)])⟩,
  ⟨(some 32),none,(.un .not (.tmp 31))⟩]) (.cond (.tmp 32) (.seq (.ops [
  ⟨(some 33),none,(.build [(.slice none 0 0),(.slice none 0 0)] [])⟩,
  ⟨none,none,(.store 2 (.tmp 2) (.tmp 33))⟩,
  ⟨(some 3),none,(.asg (.const (.int .i64 0)))⟩,
  ⟨(some 4),none,(.asg (.const (.int .i64 1)))⟩]) .ret) .skip)) (.seq (.ops [
  ⟨(some 34),none,(.mv (.tmp 5))⟩,
  ⟨(some 35),none,(.nilc (.tmp 34))⟩,
  ⟨(some 36),none,(.fa 0 (.tmp 35))⟩,
  ⟨(some 37),none,(.load 2 true (.tmp 36))⟩,
  ⟨none,none,(.store 2 (.tmp 2) (.tmp 37))⟩,
  ⟨(some 3),none,(.asg (.const (.int .i64 0)))⟩,
  ⟨(some 4),none,(.asg (.const (.int .i64 0)))⟩]) .ret))))))
theorem law_impl_ReadSet {a0 d:D} (h:code_impl_ReadSet.wp (CT Tryz.prog TabG) (endQ [(.c 2 2 true),(.t 3),(.t 4)] d) [a0,.undef,.undef,.undef,.undef,.undef,.undef,.undef,.undef,.undef,.undef,.undef,.undef,.undef,.undef,.undef,.undef,.undef,.undef,.undef,.undef,.undef,.undef,.undef,.undef,.undef,.undef,.undef,.undef,.undef,.undef,.undef,.undef,.undef,.undef,.undef,.undef,.undef]):Contract Tryz.prog TabG 17 [a0] d :=
  contract_of (pt:=0) tabG Tryz.func17 (fun us W=>by kernel_rfl) (c:=Tryz.f17.body.getD .skip) (ms:=[]) (ms':=[]) (by kernel_rfl) (by kernel_rfl) (by kernel_rfl) h
set_option maxHeartbeats 4000000 in
theorem vReadSet_implR (q_aText:ByteArray) (q_aText_n:q_aText.size≤1048576):Contract Tryz.prog TabG 17 [.v (.string q_aText)] (.tup [.agg (TileSet.td.d true (ReadSetR q_aText).1),.v (.int .i64 (ReadSetR q_aText).2.1),.v (.int .i64 (ReadSetR q_aText).2.2)]):=by
  unfold ReadSetR;rw [TileSet.td_d];refine law_impl_ReadSet ?_;unfold code_impl_ReadSet;by_cases hbig:20000 < q_aText.size
  · have d1:decide ((q_aText.size:Int) > 20000)=true:=decide_eq_true (by omega);have hR:ReadSetB true q_aText=(set0,0,2):=(by unfold ReadSetB;rw [if_pos hbig]);rw [hR];simp -implicitDefEqProofs (disch:=omega) only [go_sem,↓reduceIte ,d1];exact ⟨rfl,rfl⟩
  · have d1:decide ((q_aText.size:Int) > 20000)=false:=decide_eq_false (by omega);have hL:=v_readLines rsdR q_aText q_aText_n set0 (Nat.le_refl _);have hG:=rs_go (linesB q_aText) 0 set0;simp -implicitDefEqProofs (disch:=omega) only [go_sem,↓reduceIte ,d1];have hL2:ContractL Tryz.prog TabG 26 1 [.v (.string q_aText),.undef] (.fn rsdR.F [.box none [.nils,.nils]] []) (rdE 89 (rsdR.go (linesB q_aText) 0 set0).1) (.fn rsdR.F [.box none (rsdR.cel (rsdR.go (linesB q_aText) 0 set0).2)] []) :=
      ⟨hL.1,fun w I us u X hG hI hu hV hT hn hX=>hL.2 w I us u X hG hI hu hV (T.nle _ _ hT (by
        show Go.V.nle (.fn rsdR.F [.box none [.nils,.nils]] []) (.fn rsdR.F [.box none (rsD set0)] []);simp only [Go.V.nle];exact ⟨_,rfl,nleL_cons (nle_box (nleL_cons nle_nil (nleL_cons nle_nil nleL_nil))) nleL_nil⟩)) hn hX⟩
    refine call_gripF (i:=1) (r:=13) hL2 rfl rfl rfl rfl rfl (leL_of_eq rfl) ⟨?_,rsdR.ni _⟩ ?_
    · cases (rsdR.go (linesB q_aText) 0 set0).1 <;> rfl
    generalize hgo:rsdR.go (linesB q_aText) 0 set0=z at hG ⊢;obtain ⟨e,s⟩:=z;cases hf:rdFold (rsSt true) (linesB q_aText) 0 set0 with
    | error kc=>obtain ⟨k,c⟩:=kc;rw [hf] at hG;simp only at hG;subst hG;have hR:ReadSetB true q_aText=(set0,(k:Int),c):=(by unfold ReadSetB;rw [if_neg hbig,hf]);rw [hR];have hE:=v_lineOf_err (k:Int) c;have c6:decide (c=0)=false:=decide_eq_false (by rcases rs_code _ _ _ _ _ hf with h | h <;> rw [h] <;> decide);simp -implicitDefEqProofs (disch:=omega) only [go_sem,↓reduceIte ,rdE];refine call_B (hE) (by simp -implicitDefEqProofs (disch:=omega) only [go_sem,↓reduceIte,deep,TD.rows,immLL_rI,immLL_rB8,immLL_rS,immLL_rBo,immLL_rII,immLL_rIIt,c6];exact rfl) ?_;simp -implicitDefEqProofs (disch:=omega) only [go_sem,↓reduceIte ,c6];exact ⟨rfl,rfl⟩
    | ok s' =>
      rw [hf] at hG;simp only at hG;obtain ⟨rfl,rfl⟩:=hG;have hB:=rsFold_B (M:=20000) (linesB q_aText) 0 set0 s (fun l hl=>by have:=linesB_size hl;omega) (set0_B _) hf;have hM:=v_ValidSet s (hB.setB (by omega) (by have:=linesB_len q_aText;omega));rw [TileSet.td_d] at hM;have hcl:rsdR.cel s=[.sl true 2 (s.Glues.map (Glue.td.d true)),.sl true 2 (s.Tiles.map (Tile.td.d true))]:=rfl;rw [hcl];cases hok:okSet s with
      | false=>have hR:ReadSetB true q_aText=(set0,0,1):=(by unfold ReadSetB;rw [if_neg hbig,hf];simp only [hok];rfl);rw [hR];rw [hok] at hM;simp -implicitDefEqProofs (disch:=omega) only [go_sem,↓reduceIte ,rdE];refine call_B (v_lineOf_nil) (by simp -implicitDefEqProofs (disch:=omega) only [go_sem,↓reduceIte,deep,TD.rows,immLL_rI,immLL_rB8,immLL_rS,immLL_rBo,immLL_rII,immLL_rIIt];exact rfl) ?_;simp -implicitDefEqProofs (disch:=omega) only [go_sem,↓reduceIte];refine call_B (hM) (by simp -implicitDefEqProofs (disch:=omega) only [go_sem,↓reduceIte,deep,TD.rows,immLL_rI,immLL_rB8,immLL_rS,immLL_rBo,immLL_rII,immLL_rIIt];exact rfl) ?_;simp -implicitDefEqProofs (disch:=omega) only [go_sem,↓reduceIte];exact ⟨rfl,rfl⟩
      | true=>have hR:ReadSetB true q_aText=(s,0,0):=(by unfold ReadSetB;rw [if_neg hbig,hf];simp only [hok];rfl);rw [hR];rw [hok] at hM;simp -implicitDefEqProofs (disch:=omega) only [go_sem,↓reduceIte ,rdE];refine call_B (v_lineOf_nil) (by simp -implicitDefEqProofs (disch:=omega) only [go_sem,↓reduceIte,deep,TD.rows,immLL_rI,immLL_rB8,immLL_rS,immLL_rBo,immLL_rII,immLL_rIIt];exact rfl) ?_;simp -implicitDefEqProofs (disch:=omega) only [go_sem,↓reduceIte];refine call_B (hM) (by simp -implicitDefEqProofs (disch:=omega) only [go_sem,↓reduceIte,deep,TD.rows,immLL_rI,immLL_rB8,immLL_rS,immLL_rBo,immLL_rII,immLL_rIIt];exact rfl) ?_;simp -implicitDefEqProofs (disch:=omega) only [go_sem,↓reduceIte]
end Go.Proofs.YtjkbngjiagknkaaGreatDoor
