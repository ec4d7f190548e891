/- Laws that the proof stands on. -/
import Derived.Test.YtaleehohmpohoaaZg13
import Derived.Test.YtaleehohmpohoaaZg11
import Derived.Test.YtaleehohmpohoaaZVSrP
import Derived.Test.YtaleehohmpohoaaProg
import Derived.Test.YtaleehohmpohoaaZVB
import Derived.Test.YtaleehohmpohoaaZg12
set_option linter.all false
namespace Go.Proofs.Ytaleehohmpohoaa
open Go.RowKit Go.V
attribute [local go_sem] List.getElem?_cons_succ List.getElem?_cons_zero List.set_cons_succ List.set_cons_zero List.map_cons List.map_nil List.length_cons List.length_nil List.all_cons List.all_nil List.drop_succ_cons List.drop_zero List.take_succ_cons List.take_zero List.flatMap_cons List.flatMap_nil List.cons_append List.nil_append List.append_nil List.headD_cons Value.oneCell' Bool.and_true Bool.true_and Bool.or_false Bool.false_or Bool.and_self Bool.not_true Bool.not_false and_true true_and beq_self_eq_true Bool.false_eq_true if_true if_false Nat.zero_add Nat.reduceAdd Nat.reduceMul Nat.reduceLeDiff Nat.le_refl Option.isSome_some Option.isSome_none not_true_eq_false not_false_eq_true ne_eq reduceCtorEq List.reverse_nil bne_self_eq_false Nat.reduceEqDiff List.isPrefixOf Bool.not_eq_true Bool.and_false Bool.false_and Bool.true_or Bool.or_true decide_true decide_false Nat.reduceBEq Nat.reduceBNe List.replicate_succ List.replicate_zero exists_eq_left' exists_eq_left Option.some.injEq or_false or_true true_or false_or Option.map_some Option.map_none mB Nat.reduceMod Nat.reduceDiv
set_option maxRecDepth 100000
def okPattern (q:Pattern):Bool:=inR 1 10 q.Width&&(inR 1 10 q.Height&&(decide ((q.Cells.length:Int)=q.Width*q.Height)&&q.Cells.all (inR 0 5)))
def code_spec_l24Ok:VCode:=(.seq (.ops [
  ⟨some 2,none,.asg (.const (.bool false))⟩]) (.seq (.seq (.draw (mB 33 8589934576) [] [⟨0,mB 33 8589934576,[],⟨some 4,none,.mv (.tmp 0)⟩⟩,⟨1,mB 33 8589934560,[],⟨some 5,none,.nilc (.tmp 4)⟩⟩,⟨2,mB 33 8589934528,[],⟨some 6,none,.fa 0 (.tmp 5)⟩⟩,⟨3,mB 33 8589934464,[],⟨some 7,none,.load 1 false (.tmp 6)⟩⟩,⟨4,mB 33 8589934336,[],⟨some 8,none,.call 45 [(.tmp 7),(.const (.int .i64 1)),(.const (.int .i64 10))]⟩⟩,⟨5,mB 33 8589934080,[],⟨some 9,none,.un .not (.tmp 8)⟩⟩,⟨6,mB 33 8589933568,[],⟨some 10,none,.mv (.tmp 9)⟩⟩,⟨7,mB 33 8589932544,[],⟨some 11,some (10,false),.mv (.tmp 0)⟩⟩,⟨8,mB 33 8589930496,[],⟨some 12,some (10,false),.nilc (.tmp 11)⟩⟩,⟨9,mB 33 8589926400,[],⟨some 13,some (10,false),.fa 1 (.tmp 12)⟩⟩,⟨10,mB 33 8589918208,[],⟨some 14,some (10,false),.load 1 false (.tmp 13)⟩⟩,⟨11,mB 33 8589901824,[],⟨some 15,some (10,false),.call 45 [(.tmp 14),(.const (.int .i64 1)),(.const (.int .i64 10))]⟩⟩,⟨12,mB 33 8589869056,[],⟨some 16,some (10,false),.un .not (.tmp 15)⟩⟩,⟨13,mB 33 8589803520,[],⟨some 17,none,.pick (.tmp 10) (.const (.bool true)) (.tmp 16)⟩⟩,⟨14,mB 33 8589672448,[],⟨some 18,none,.mv (.tmp 17)⟩⟩,⟨15,mB 33 8589410304,[],⟨some 19,some (18,false),.mv (.tmp 0)⟩⟩,⟨16,mB 33 8588886016,[],⟨some 20,some (18,false),.nilc (.tmp 19)⟩⟩,⟨17,mB 33 8587837440,[],⟨some 21,some (18,false),.fa 2 (.tmp 20)⟩⟩,⟨18,mB 33 8585740288,[],⟨some 22,some (18,false),.load 1 false (.tmp 21)⟩⟩,⟨19,mB 33 8581545984,[],⟨some 23,some (18,false),.len (.tmp 22)⟩⟩,⟨20,mB 33 8589410304,[],⟨some 24,some (18,false),.mv (.tmp 0)⟩⟩,⟨21,mB 33 8572633088,[],⟨some 25,some (18,false),.nilc (.tmp 24)⟩⟩,⟨22,mB 33 8539078656,[],⟨some 26,some (18,false),.fa 0 (.tmp 25)⟩⟩,⟨23,mB 33 8471969792,[],⟨some 27,some (18,false),.load 1 false (.tmp 26)⟩⟩,⟨24,mB 33 8589410304,[],⟨some 28,some (18,false),.mv (.tmp 0)⟩⟩,⟨25,mB 33 8320974848,[],⟨some 29,some (18,false),.nilc (.tmp 28)⟩⟩,⟨26,mB 33 7784103936,[],⟨some 30,some (18,false),.fa 1 (.tmp 29)⟩⟩,⟨27,mB 33 6710362112,[],⟨some 31,some (18,false),.load 1 false (.tmp 30)⟩⟩,⟨28,mB 33 4311220224,[],⟨some 32,some (18,false),.bin .mul (.tmp 27) (.tmp 31)⟩⟩] [⟨some 33,some (18,false),.bin .neq (.tmp 23) (.tmp 32)⟩,⟨some 34,none,.pick (.tmp 18) (.const (.bool true)) (.tmp 33)⟩]) (.cond (.tmp 34) (.seq (.ops [
  ⟨some 2,none,.asg (.const (.bool false))⟩]) .ret) .skip)) (.seq (.seq (.ops [
  ⟨some 3,none,.asg (.const (.int .i64 0))⟩]) (.block 0 (.loop (mB 53 0x1ffffffffffff6) (.seq (.seq (.ops [
  ⟨some 35,none,.mv (.tmp 3)⟩,
  ⟨some 36,none,.mv (.tmp 0)⟩,
  ⟨some 37,none,.nilc (.tmp 36)⟩,
  ⟨some 38,none,.fa 2 (.tmp 37)⟩,
  ⟨some 39,none,.load 1 false (.tmp 38)⟩,
  ⟨some 40,none,.len (.tmp 39)⟩,
  ⟨some 41,none,.bin .lss (.tmp 35) (.tmp 40)⟩]) (.cond (.tmp 41) .skip (.exit 0))) (.seq (.block 1 (.seq (.ops [
  ⟨some 44,none,.mv (.tmp 0)⟩,
  ⟨some 45,none,.nilc (.tmp 44)⟩,
  ⟨some 46,none,.fa 2 (.tmp 45)⟩,
  ⟨some 47,none,.load 1 false (.tmp 46)⟩,
  ⟨some 48,none,.mv (.tmp 3)⟩,
  ⟨some 49,none,.ia 1 (.tmp 47) (.tmp 48)⟩,
  ⟨some 50,none,.load 1 false (.tmp 49)⟩,
  ⟨some 51,none,.callX 45 [(.tmp 50),(.const (.int .i64 0)),(.const (.int .i64 5))]⟩,
  ⟨some 52,none,.un .not (.tmp 51)⟩]) (.cond (.tmp 52) (.seq (.ops [
  ⟨some 2,none,.asg (.const (.bool false))⟩]) .ret) .skip))) (.ops [
  ⟨some 42,none,.mv (.tmp 3)⟩,
  ⟨some 43,none,.bin .add (.tmp 42) (.const (.int .i64 1))⟩,
  ⟨some 3,none,.asg (.tmp 43)⟩])))))) (.seq (.ops [
  ⟨some 2,none,.asg (.const (.bool true))⟩]) .ret))))
theorem law_spec_l24Ok {a0 d:D}(h:code_spec_l24Ok.wp (CT Try.prog NoG) (endQ [(.t 2)] d) [a0,.undef,.undef,.undef,.undef,.undef,.undef,.undef,.undef,.undef,.undef,.undef,.undef,.undef,.undef,.undef,.undef,.undef,.undef,.undef,.undef,.undef,.undef,.undef,.undef,.undef,.undef,.undef,.undef,.undef,.undef,.undef,.undef,.undef,.undef,.undef,.undef,.undef,.undef,.undef,.undef,.undef,.undef,.undef,.undef,.undef,.undef,.undef,.undef,.undef,.undef,.undef,.undef]):Contract Try.prog NoG 71 [a0] d :=
  contract_of (pt:=0) noG Try.func71 (fun us W=>by kernel_rfl) (c:=Try.f71.body.getD .skip) (ms:=[(mB 53 0x1ffffffffffff6)]) (ms':=[]) (by kernel_rfl) (by kernel_rfl) (by kernel_rfl) h
theorem v_l24Ok (q:Pattern)(hn:q.Cells.length≤1048576):Contract Try.prog NoG 71 [.iptr (Pattern.td.d false q) 0] (.v (.bool (okPattern q))):=by
  rw [Pattern.td_d];unfold okPattern;refine law_spec_l24Ok ?_;unfold code_spec_l24Ok;simp -implicitDefEqProofs (disch:=omega) only [go_sem,↓reduceIte];cases h1:inR 1 10 q.Width with
  | false=>refine call_NB (v_l00In _ _ _) (by simp -implicitDefEqProofs (disch:=omega) only [go_sem,↓reduceIte,deep,TD.rows,immLL_rI,immLL_rB8,immLL_rS,immLL_rBo,immLL_rII,immLL_rIIt,h1,Bool.not_false,Bool.false_and];exact rfl) ?_;simp -implicitDefEqProofs (disch:=omega) only [go_sem,↓reduceIte ,h1,Bool.not_false,Bool.false_and]
  | true =>
  cases h2:inR 1 10 q.Height with
  | false=>refine call_NB (v_l00In _ _ _) (by simp -implicitDefEqProofs (disch:=omega) only [go_sem,↓reduceIte,deep,TD.rows,immLL_rI,immLL_rB8,immLL_rS,immLL_rBo,immLL_rII,immLL_rIIt,h1,Bool.not_true];exact rfl) ?_;simp -implicitDefEqProofs (disch:=omega) only [go_sem,↓reduceIte ,h1,Bool.not_true];refine call_NB (v_l00In _ _ _) (by simp -implicitDefEqProofs (disch:=omega) only [go_sem,↓reduceIte,deep,TD.rows,immLL_rI,immLL_rB8,immLL_rS,immLL_rBo,immLL_rII,immLL_rIIt,h2,Bool.not_false,Bool.false_and,Bool.and_false];exact rfl) ?_;simp -implicitDefEqProofs (disch:=omega) only [go_sem,↓reduceIte ,h2,Bool.not_false,Bool.false_and,Bool.and_false]
  | true =>
  have hw:=inR_iff.1 h1;have hh:=inR_iff.1 h2;have hm:IntKind.i64.wrap (q.Width*q.Height)=q.Width*q.Height:=(by have h3:q.Width*q.Height≤10*10:=Int.mul_le_mul hw.2 hh.2 (by omega) (by omega);have h4:0≤q.Width*q.Height:=Int.mul_nonneg (by omega) (by omega);exact wrI (by omega) (by omega));cases h3:decide ((q.Cells.length:Int)=q.Width*q.Height) with
  | false=>refine call_NB (v_l00In _ _ _) (by simp -implicitDefEqProofs (disch:=omega) only [go_sem,↓reduceIte,deep,TD.rows,immLL_rI,immLL_rB8,immLL_rS,immLL_rBo,immLL_rII,immLL_rIIt,h1,Bool.not_true];exact rfl) ?_;simp -implicitDefEqProofs (disch:=omega) only [go_sem,↓reduceIte ,h1,Bool.not_true];refine call_NB (v_l00In _ _ _) (by simp -implicitDefEqProofs (disch:=omega) only [go_sem,↓reduceIte,deep,TD.rows,immLL_rI,immLL_rB8,immLL_rS,immLL_rBo,immLL_rII,immLL_rIIt,h2,Bool.not_true,List.length_map,hm,h3,Bool.not_false,Bool.false_and,Bool.and_false];exact rfl) ?_;simp -implicitDefEqProofs (disch:=omega) only [go_sem,↓reduceIte ,h2,Bool.not_true,List.length_map,hm,h3,Bool.not_false,Bool.false_and,Bool.and_false]
  | true =>
    refine call_NB (v_l00In _ _ _) (by simp -implicitDefEqProofs (disch:=omega) only [go_sem,↓reduceIte,deep,TD.rows,immLL_rI,immLL_rB8,immLL_rS,immLL_rBo,immLL_rII,immLL_rIIt,h1,Bool.not_true];exact rfl) ?_;simp -implicitDefEqProofs (disch:=omega) only [go_sem,↓reduceIte ,h1,Bool.not_true];refine call_NB (v_l00In _ _ _) (by simp -implicitDefEqProofs (disch:=omega) only [go_sem,↓reduceIte,deep,TD.rows,immLL_rI,immLL_rB8,immLL_rS,immLL_rBo,immLL_rII,immLL_rIIt,h2,Bool.not_true,List.length_map,hm,h3,Bool.true_and];exact rfl) ?_;simp -implicitDefEqProofs (disch:=omega) only [go_sem,↓reduceIte ,h2,Bool.not_true,List.length_map,hm,h3,Bool.true_and];refine loop_ov (by simp -implicitDefEqProofs (disch:=omega) only [go_sem,↓reduceIte];exact rfl) (fun i:Nat=>[(3,.v (.int .i64 (i:Nat)))]) (fun _=>by simp only [ovr_nil,ovr_cons,List.set_cons_zero,List.set_cons_succ];exact rfl) (fun i:Nat=>i≤q.Cells.length∧(q.Cells.take i).all (inR 0 5)=true) (fun i:Nat=>q.Cells.length-i) (0) (nleA) (?_) ?_
    · exact ⟨Nat.zero_le _,rfl⟩
    rintro i ⟨hi,hok⟩;simp -implicitDefEqProofs (disch:=omega) only [go_sem,↓reduceIte ,List.length_map,Int.toNat_natCast,Int.ofNat_lt,Int.natCast_nonneg,List.getElem?_map,Option.map_some];refine cond_split ?_ ?_<;>intro hlt
    · have hlt:i<q.Cells.length:=(by simpa using hlt);have e1:=List.getElem?_eq_getElem hlt;cases hx:inR 0 5 q.Cells[i] with
      | false=>have hno:q.Cells.all (inR 0 5)=false:=(by rw [List.all_eq_false];exact ⟨_,List.getElem_mem hlt,by simp [hx]⟩);simp -implicitDefEqProofs (disch:=omega) only [go_sem,↓reduceIte ,List.length_map,Int.toNat_natCast,Int.ofNat_lt,Int.natCast_nonneg,List.getElem?_map,Option.map_some,hlt,e1,rI];refine call_B (v_l00In _ _ _) (by simp -implicitDefEqProofs (disch:=omega) only [go_sem,↓reduceIte,deep,TD.rows,immLL_rI,immLL_rB8,immLL_rS,immLL_rBo,immLL_rII,immLL_rIIt,hx,hno];exact rfl) ?_;simp -implicitDefEqProofs (disch:=omega) only [go_sem,↓reduceIte ,hx,hno]
      | true=>have hnx:(q.Cells.take (i+1)).all (inR 0 5)=true:=(by rw [List.take_succ_eq_append_getElem hlt,List.all_append,hok,List.all_cons,hx];rfl);simp -implicitDefEqProofs (disch:=omega) only [go_sem,↓reduceIte ,List.length_map,Int.toNat_natCast,Int.ofNat_lt,Int.natCast_nonneg,List.getElem?_map,Option.map_some,hlt,e1,rI];refine call_B (v_l00In _ _ _) (by simp -implicitDefEqProofs (disch:=omega) only [go_sem,↓reduceIte,deep,TD.rows,immLL_rI,immLL_rB8,immLL_rS,immLL_rBo,immLL_rII,immLL_rIIt,hx,wrN];exact rfl) ?_;simp -implicitDefEqProofs (disch:=omega) only [go_sem,↓reduceIte ,hx,wrN];exact ⟨i+1,by omega,⟨hlt,hnx⟩,nleA⟩
    · obtain rfl:i=q.Cells.length:=(by have:¬ i<q.Cells.length:=(by simpa using hlt);omega);rw [List.take_length] at hok;rw [hok];simp -implicitDefEqProofs (disch:=omega) only [go_sem,↓reduceIte]
def code_impl_ValidPattern:VCode:=(.seq (.ops [
  ⟨some 1,none,.box (.tmp 0)⟩,
  ⟨some 2,none,.asg (.const (.bool false))⟩]) (.seq (.ops [
  ⟨some 3,none,.fa 0 (.tmp 1)⟩,
  ⟨some 4,none,.load 1 false (.tmp 3)⟩,
  ⟨some 5,none,.callX 48 [(.tmp 4),(.const (.int .i64 1)),(.const (.int .i64 10))]⟩,
  ⟨some 6,none,.mv (.tmp 5)⟩,
  ⟨some 7,some (6,true),.fa 1 (.tmp 1)⟩,
  ⟨some 8,some (6,true),.load 1 false (.tmp 7)⟩,
  ⟨some 9,some (6,true),.callX 48 [(.tmp 8),(.const (.int .i64 1)),(.const (.int .i64 10))]⟩,
  ⟨some 10,none,.pick (.tmp 6) (.tmp 9) (.const (.bool false))⟩,
  ⟨some 11,none,.mv (.tmp 10)⟩,
  ⟨some 12,some (11,true),.fa 2 (.tmp 1)⟩,
  ⟨some 13,some (11,true),.load 1 false (.tmp 12)⟩,
  ⟨some 14,some (11,true),.len (.tmp 13)⟩,
  ⟨some 15,some (11,true),.fa 0 (.tmp 1)⟩,
  ⟨some 16,some (11,true),.load 1 false (.tmp 15)⟩,
  ⟨some 17,some (11,true),.fa 1 (.tmp 1)⟩,
  ⟨some 18,some (11,true),.load 1 false (.tmp 17)⟩,
  ⟨some 19,some (11,true),.bin .mul (.tmp 16) (.tmp 18)⟩,
  ⟨some 20,some (11,true),.bin .eql (.tmp 14) (.tmp 19)⟩,
  ⟨some 21,none,.pick (.tmp 11) (.tmp 20) (.const (.bool false))⟩,
  ⟨some 22,none,.mv (.tmp 21)⟩,
  ⟨some 23,some (22,true),.fa 2 (.tmp 1)⟩,
  ⟨some 24,some (22,true),.load 1 false (.tmp 23)⟩,
  ⟨some 25,some (22,true),.callX 86 [(.tmp 24),(.const (.int .i64 6))]⟩,
  ⟨some 26,none,.pick (.tmp 22) (.tmp 25) (.const (.bool false))⟩,
  ⟨some 2,none,.asg (.tmp 26)⟩]) .ret))
theorem law_impl_ValidPattern {a0 d:D}(h:code_impl_ValidPattern.wp (CT Try.prog NoG) (endQ [(.t 2)] d) [a0,.undef,.undef,.undef,.undef,.undef,.undef,.undef,.undef,.undef,.undef,.undef,.undef,.undef,.undef,.undef,.undef,.undef,.undef,.undef,.undef,.undef,.undef,.undef,.undef,.undef,.undef]):Contract Try.prog NoG 60 [a0] d :=
  contract_of (pt:=0) noG Try.func60 (fun us W=>by kernel_rfl) (c:=Try.f60.body.getD .skip) (ms:=[]) (ms':=[]) (by kernel_rfl) (by kernel_rfl) (by kernel_rfl) h
theorem v_ValidPattern (q:Pattern)(hn:q.Cells.length≤1048576):Contract Try.prog NoG 60 [.agg (Pattern.td.d false q)] (.v (.bool (okPattern q))):=by
  rw [Pattern.td_d];unfold okPattern;refine law_impl_ValidPattern ?_;unfold code_impl_ValidPattern;simp -implicitDefEqProofs (disch:=omega) only [go_sem,↓reduceIte];refine call_B (v_within _ _ _) (by simp -implicitDefEqProofs (disch:=omega) only [go_sem,↓reduceIte,deep,TD.rows,immLL_rI,immLL_rB8,immLL_rS,immLL_rBo,immLL_rII,immLL_rIIt];exact rfl) ?_;simp -implicitDefEqProofs (disch:=omega) only [go_sem,↓reduceIte];refine guard_split ?_ ?_<;>intro h1
  · simp -implicitDefEqProofs (disch:=omega) only [go_sem,↓reduceIte ,h1];refine call_B (v_within _ _ _) (by simp -implicitDefEqProofs (disch:=omega) only [go_sem,↓reduceIte,deep,TD.rows,immLL_rI,immLL_rB8,immLL_rS,immLL_rBo,immLL_rII,immLL_rIIt];exact rfl) ?_;simp -implicitDefEqProofs (disch:=omega) only [go_sem,↓reduceIte];refine guard_split ?_ ?_<;>intro h2
    · have hw:=inR_iff.1 h1;have hh:=inR_iff.1 h2;have hm:IntKind.i64.wrap (q.Width*q.Height)=q.Width*q.Height:=(by have h3:q.Width*q.Height≤10*10:=Int.mul_le_mul hw.2 hh.2 (by omega) (by omega);have h4:0≤q.Width*q.Height:=Int.mul_nonneg (by omega) (by omega);exact wrI (by omega) (by omega));simp -implicitDefEqProofs (disch:=omega) only [go_sem,↓reduceIte ,h1,h2,hm,List.length_map];refine guard_split ?_ ?_<;>intro h3
      · simp -implicitDefEqProofs (disch:=omega) only [go_sem,↓reduceIte ,h1,h2,h3];refine call_B (v_below q.Cells 6 (by omega) (by omega) (by omega)) (by simp -implicitDefEqProofs (disch:=omega) only [go_sem,↓reduceIte,deep,TD.rows,immLL_rI,immLL_rB8,immLL_rS,immLL_rBo,immLL_rII,immLL_rIIt];exact rfl) ?_;simp -implicitDefEqProofs (disch:=omega) only [go_sem,↓reduceIte];rfl
      · simp -implicitDefEqProofs (disch:=omega) only [go_sem,↓reduceIte ,h1,h2,h3]
    · simp -implicitDefEqProofs (disch:=omega) only [go_sem,↓reduceIte ,h1,h2]
  · simp -implicitDefEqProofs (disch:=omega) only [go_sem,↓reduceIte ,h1]
abbrev srD (o:Bool) (K:SK) (s:SI):List D:=[.v (.int .i64 (K.W:Int)),.v (.int .i64 (K.H:Int)),.sl false 1 (K.Cells.map rI),.v (.int .i64 K.most),.v (.int .i64 K.budget),.v (.int .i64 s.steps),.v (.bool s.broke),.v (.int .i64 s.rows),.v (.int .i64 s.cols),.sl o 1 (s.bottom.map rI),.sl o 1 (s.left.map rI),.sl o 5 (s.pieces.map (Piece.td.d o)),.sl o 1 (s.north.map rI),.sl o 1 (s.east.map rI)]
theorem getD_at {xs:List Int}{i:Nat}(h:i<xs.length):xs[i]?=some (xs.getD i 0):=by rw [List.getD_eq_getElem?_getD,List.getElem?_eq_getElem h];rfl
theorem OkK.nle {K:SK}(h:OkK K):K.Cells.length≤100:=by rw [h.n];have:=Nat.mul_le_mul h.h.2 h.w.2;omega
def code_impl_designSearch_south:VCode:=(.seq (.ops [
  ⟨some 4,none,.asg (.const (.int .i64 0))⟩]) (.seq (.seq (.ops [
  ⟨some 5,none,.mv (.tmp 1)⟩,
  ⟨some 6,none,.mv (.tmp 0)⟩,
  ⟨some 7,none,.nilc (.tmp 6)⟩,
  ⟨some 8,none,.fa 0 (.tmp 7)⟩,
  ⟨some 9,none,.fa 0 (.tmp 8)⟩,
  ⟨some 10,none,.load 1 false (.tmp 9)⟩,
  ⟨some 11,none,.bin .lss (.tmp 5) (.tmp 10)⟩]) (.cond (.tmp 11) (.seq (.ops [
  ⟨some 12,none,.mv (.tmp 0)⟩,
  ⟨some 13,none,.nilc (.tmp 12)⟩,
  ⟨some 14,none,.fa 9 (.tmp 13)⟩,
  ⟨some 15,none,.fa 0 (.tmp 14)⟩,
  ⟨some 16,none,.load 1 false (.tmp 15)⟩,
  ⟨some 17,none,.mv (.tmp 1)⟩,
  ⟨some 18,none,.ia 1 (.tmp 16) (.tmp 17)⟩,
  ⟨some 19,none,.load 1 false (.tmp 18)⟩,
  ⟨some 4,none,.asg (.tmp 19)⟩]) .ret) .skip)) (.seq (.draw (mB 31 2146435072) [] [⟨0,mB 31 2146435072,[],⟨some 20,none,.mv (.tmp 0)⟩⟩,⟨1,mB 31 2145386496,[],⟨some 21,none,.nilc (.tmp 20)⟩⟩,⟨2,mB 31 2143289344,[],⟨some 22,none,.fa 12 (.tmp 21)⟩⟩,⟨3,mB 31 2139095040,[],⟨some 23,none,.load 1 false (.tmp 22)⟩⟩,⟨4,mB 31 2146435072,[],⟨some 24,none,.mv (.tmp 1)⟩⟩,⟨5,mB 31 2146435072,[],⟨some 25,none,.mv (.tmp 0)⟩⟩,⟨6,mB 31 2112880640,[],⟨some 26,none,.nilc (.tmp 25)⟩⟩,⟨7,mB 31 2045771776,[],⟨some 27,none,.fa 0 (.tmp 26)⟩⟩,⟨8,mB 31 1911554048,[],⟨some 28,none,.fa 0 (.tmp 27)⟩⟩,⟨9,mB 31 1643118592,[],⟨some 29,none,.load 1 false (.tmp 28)⟩⟩,⟨10,mB 31 1089470464,[],⟨some 30,none,.bin .sub (.tmp 24) (.tmp 29)⟩⟩] [⟨some 31,none,.ia 1 (.tmp 23) (.tmp 30)⟩,⟨some 32,none,.load 1 false (.tmp 31)⟩,⟨some 4,none,.asg (.tmp 32)⟩]) .ret)))
theorem law_impl_designSearch_south {a0 a1 d:D}(h:code_impl_designSearch_south.wp (CT Try.prog NoG) (endQ [(.t 4)] d) [a0,a1,.undef,.undef,.undef,.undef,.undef,.undef,.undef,.undef,.undef,.undef,.undef,.undef,.undef,.undef,.undef,.undef,.undef,.undef,.undef,.undef,.undef,.undef,.undef,.undef,.undef,.undef,.undef,.undef,.undef,.undef,.undef]):Contract Try.prog NoG 119 [a0,a1] d :=
  contract_of (pt:=0) noG Try.func119 (fun us W=>by kernel_rfl) (c:=Try.f119.body.getD .skip) (ms:=[]) (ms':=[]) (by kernel_rfl) (by kernel_rfl) (by kernel_rfl) h
def code_impl_designSearch_west:VCode:=(.seq (.ops [
  ⟨some 4,none,.asg (.const (.int .i64 0))⟩]) (.seq (.seq (.ops [
  ⟨some 5,none,.mv (.tmp 1)⟩,
  ⟨some 6,none,.mv (.tmp 0)⟩,
  ⟨some 7,none,.nilc (.tmp 6)⟩,
  ⟨some 8,none,.fa 0 (.tmp 7)⟩,
  ⟨some 9,none,.fa 0 (.tmp 8)⟩,
  ⟨some 10,none,.load 1 false (.tmp 9)⟩,
  ⟨some 11,none,.bin .rem (.tmp 5) (.tmp 10)⟩,
  ⟨some 12,none,.bin .eql (.tmp 11) (.const (.int .i64 0))⟩]) (.cond (.tmp 12) (.seq (.draw (mB 25 33546240) [] [⟨0,mB 25 33546240,[],⟨some 13,none,.mv (.tmp 0)⟩⟩,⟨1,mB 25 33538048,[],⟨some 14,none,.nilc (.tmp 13)⟩⟩,⟨2,mB 25 33521664,[],⟨some 15,none,.fa 9 (.tmp 14)⟩⟩,⟨3,mB 25 33488896,[],⟨some 16,none,.fa 1 (.tmp 15)⟩⟩,⟨4,mB 25 33423360,[],⟨some 17,none,.load 1 false (.tmp 16)⟩⟩,⟨5,mB 25 33546240,[],⟨some 18,none,.mv (.tmp 1)⟩⟩,⟨6,mB 25 33546240,[],⟨some 19,none,.mv (.tmp 0)⟩⟩,⟨7,mB 25 33021952,[],⟨some 20,none,.nilc (.tmp 19)⟩⟩,⟨8,mB 25 31973376,[],⟨some 21,none,.fa 0 (.tmp 20)⟩⟩,⟨9,mB 25 29876224,[],⟨some 22,none,.fa 0 (.tmp 21)⟩⟩,⟨10,mB 25 25681920,[],⟨some 23,none,.load 1 false (.tmp 22)⟩⟩,⟨11,mB 25 17031168,[],⟨some 24,none,.bin .quo (.tmp 18) (.tmp 23)⟩⟩] [⟨some 25,none,.ia 1 (.tmp 17) (.tmp 24)⟩,⟨some 26,none,.load 1 false (.tmp 25)⟩,⟨some 4,none,.asg (.tmp 26)⟩]) .ret) .skip)) (.seq (.ops [
  ⟨some 27,none,.mv (.tmp 0)⟩,
  ⟨some 28,none,.nilc (.tmp 27)⟩,
  ⟨some 29,none,.fa 13 (.tmp 28)⟩,
  ⟨some 30,none,.load 1 false (.tmp 29)⟩,
  ⟨some 31,none,.mv (.tmp 1)⟩,
  ⟨some 32,none,.bin .sub (.tmp 31) (.const (.int .i64 1))⟩,
  ⟨some 33,none,.ia 1 (.tmp 30) (.tmp 32)⟩,
  ⟨some 34,none,.load 1 false (.tmp 33)⟩,
  ⟨some 4,none,.asg (.tmp 34)⟩]) .ret)))
theorem law_impl_designSearch_west {a0 a1 d:D}(h:code_impl_designSearch_west.wp (CT Try.prog NoG) (endQ [(.t 4)] d) [a0,a1,.undef,.undef,.undef,.undef,.undef,.undef,.undef,.undef,.undef,.undef,.undef,.undef,.undef,.undef,.undef,.undef,.undef,.undef,.undef,.undef,.undef,.undef,.undef,.undef,.undef,.undef,.undef,.undef,.undef,.undef,.undef,.undef,.undef]):Contract Try.prog NoG 120 [a0,a1] d :=
  contract_of (pt:=0) noG Try.func120 (fun us W=>by kernel_rfl) (c:=Try.f120.body.getD .skip) (ms:=[]) (ms':=[]) (by kernel_rfl) (by kernel_rfl) (by kernel_rfl) h
theorem v_srSouth {K:SK}{s:SI}(hK:OkK K)(h:OkI K s)(i:Nat)(hi:i<K.Cells.length):Contract Try.prog NoG 119 [.iptr (srD false K s) 0,.v (.int .i64 (i:Int))] (.v (.int .i64 (southI K i s))):=by
  have hN:=hK.nle;refine law_impl_designSearch_south ?_;unfold code_impl_designSearch_south southI;simp -implicitDefEqProofs (disch:=omega) only [go_sem,↓reduceIte];by_cases hw:i<K.W
  · have e1:=getD_at (xs:=s.bottom) (i:=i) (by rw [h.lb];exact hw)
    have hl:i<s.bottom.length:=(by rw [h.lb];exact hw);simp -implicitDefEqProofs (disch:=omega) only [go_sem,↓reduceIte ,hw,if_true,decide_true,List.length_map,Int.toNat_natCast,Int.ofNat_lt,Int.natCast_nonneg,List.getElem?_map,Option.map_some,e1,rI,hl]
  · have hl:i-K.W<s.north.length:=(by rw [h.ln];omega);have e1:=getD_at hl;have e2:IntKind.i64.wrap ((i:Int)-(K.W:Int))=((i-K.W:Nat):Int):=(by rw [wrI (by omega) (by omega)];omega);simp -implicitDefEqProofs (disch:=omega) only [go_sem,↓reduceIte ,hw,if_false,decide_false,List.length_map,Int.toNat_natCast,Int.ofNat_lt,Int.natCast_nonneg,List.getElem?_map,Option.map_some,e1,rI,hl,e2]
theorem tmodN (i W:Nat):(i:Int).tmod (W:Int)=((i % W:Nat):Int):=by rw [Int.tmod_eq_emod_of_nonneg (by omega)];rfl
theorem tdivN (i W:Nat)(h:i≤1000000):IntKind.i64.wrap ((i:Int).tdiv (W:Int))=((i / W:Nat):Int):=by rw [Int.tdiv_eq_ediv_of_nonneg (by omega),show (i:Int) / (W:Int)=((i / W:Nat):Int) from rfl];have:=Nat.div_le_self i W;generalize i / W=q at *;exact wrI (by omega) (by omega)
theorem v_srWest {K:SK}{s:SI}(hK:OkK K)(h:OkI K s)(i:Nat)(hi:i<K.Cells.length):Contract Try.prog NoG 120 [.iptr (srD false K s) 0,.v (.int .i64 (i:Int))] (.v (.int .i64 (westI K i s))):=by
  have hN:=hK.nle;have hW0:(K.W:Int)≠0:=(by have:=hK.w;omega);have hq:i / K.W<K.H:=(by rw [Nat.div_lt_iff_lt_mul hK.w.1,← hK.n];exact hi);refine law_impl_designSearch_west ?_;unfold code_impl_designSearch_west westI;simp -implicitDefEqProofs (disch:=omega) only [go_sem,↓reduceIte ,hW0,tmodN,ne_eq,not_false_eq_true];by_cases hw:i % K.W=0
  · have hl:i / K.W<s.left.length:=(by rw [h.ll];exact hq);have e1:=getD_at hl;have e2:=tdivN i K.W (by omega);simp -implicitDefEqProofs (disch:=omega) only [go_sem,↓reduceIte ,hw,if_true,decide_true,List.length_map,Int.toNat_natCast,Int.ofNat_lt,Int.natCast_nonneg,List.getElem?_map,Option.map_some,e1,rI,hl,e2,hW0,ne_eq,not_false_eq_true,Int.natCast_zero,Int.natCast_one,Int.cast_ofNat_Int,Int.ofNat_le,Int.toNat_zero,Nat.sub_zero,Int.le_refl,Int.reduceLT,Int.reduceLE,Int.reduceEq,Int.reduceAdd,Int.reduceSub,Int.reduceMul,Int.reduceToNat,Int.reduceNeg]
  · have hi0:i≠0:=fun e=>hw (by rw [e];exact Nat.zero_mod _);have hl:i-1<s.east.length:=(by rw [h.le];omega);have e1:=getD_at hl;have e2:IntKind.i64.wrap ((i:Int)-1)=((i-1:Nat):Int):=(by rw [wrI (by omega) (by omega)];omega);have e3:decide (((i % K.W:Nat):Int)=0)=false:=(by rw [decide_eq_false_iff_not];omega);simp -implicitDefEqProofs (disch:=omega) only [go_sem,↓reduceIte ,hw,if_false,e3,List.length_map,Int.toNat_natCast,Int.ofNat_lt,Int.natCast_nonneg,List.getElem?_map,Option.map_some,e1,rI,hl,e2]
def MethS (P:Program)(K:SK)(f:FuncId)(i:Nat)(go:SI→Bool×SI):Prop:=∀ s,OkI K s→ContractX P NoG f 0 [.undef,.v (.int .i64 (i:Int))] (srD true K s) (.v (.bool (go s).1)) (srD true K (go s).2)
theorem setI_map (xs:List Int)(i:Nat)(x:Int):(xs.map rI).set i [.v (.int .i64 x)]=(xs.set i x).map rI:=by rw [List.map_set]
set_option maxHeartbeats 4000000 in
theorem v_srTake {K:SK}(hK:OkK K){n:Nat}{i:Nat}(hi:i<K.Cells.length)(hc:MethS Try.prog K 73 (i+1) (cellI K n))(p:Piece)(hp:okPiece p)(s:SI)(h:OkI K s) :
    ContractX Try.prog NoG 121 0 [.undef,.v (.int .i64 (i:Int)),.agg (Piece.td.d false p)] (srD true K s) (.v (.bool (takeI (cellI K n) i p s).1)) (srD true K (takeI (cellI K n) i p s).2):=by
  have hN:=hK.nle;have hcc:=hc _ (h.take i hp);have hl1:i<s.north.length:=(by rw [h.ln];exact hi);have hl2:i<s.east.length:=(by rw [h.le];exact hi);have hx1:=getD_at hl1;have hx2:=getD_at hl2;have e1:(i:Int)+1=((i+1:Nat):Int):=(by omega);have e2:IntKind.i64.wrap ((i:Int)+1)=((i+1:Nat):Int):=(by rw [wrI (by omega) (by omega)];omega);rw [Piece.td_d];unfold takeI;generalize cellI K n { s with north:=s.north.set i p.North,east:=s.east.set i p.East }=o at *;refine law_impl_designSearch_take ?_;intro b;unfold code_impl_designSearch_take cd_impl_designSearch_take_1 cd_impl_designSearch_take_2;simp -implicitDefEqProofs (disch:=omega) only [go_sem,↓reduceIte];apply drawT_at
  case h =>
    intro K' hK';simp -implicitDefEqProofs (disch:=omega) only [go_sem,↓reduceIte ,List.length_map,Int.toNat_natCast,Int.ofNat_lt,Int.natCast_nonneg,List.getElem?_map,Option.map_some,Int.natCast_zero,Int.natCast_one,Int.cast_ofNat_Int,Int.ofNat_le,Int.toNat_zero,Nat.sub_zero,Int.le_refl,Int.reduceLT,Int.reduceLE,Int.reduceEq,Int.reduceAdd,Int.reduceSub,Int.reduceMul,Int.reduceToNat,Int.reduceNeg,hl1,hl2,hx1,hx2,rI]
    repeat' (first | with_reducible exact hK' | with_reducible refine And.intro ?_ ?_)
  simp -implicitDefEqProofs (disch:=omega) only [go_sem,↓reduceIte ,tail_app,List.length_map,Int.toNat_natCast,Int.ofNat_lt,Int.natCast_nonneg,List.getElem?_map,Option.map_some,Int.natCast_zero,Int.natCast_one,Int.cast_ofNat_Int,Int.ofNat_le,Int.toNat_zero,Nat.sub_zero,Int.le_refl,Int.reduceLT,Int.reduceLE,Int.reduceEq,Int.reduceAdd,Int.reduceSub,Int.reduceMul,Int.reduceToNat,Int.reduceNeg,List.length_set,hl1,hl2,hx1,hx2,setI_map];rw [e2];refine call_PB (i:=0) (r:=0) (hcc) rfl rfl (by simp -implicitDefEqProofs (disch:=omega) only [go_sem,↓reduceIte,deep,TD.rows,immLL_rI,immLL_rB8,immLL_rS,immLL_rBo,immLL_rII,immLL_rIIt];exact rfl) ?_;simp -implicitDefEqProofs (disch:=omega) only [go_sem,↓reduceIte]
def code_laws_toPattern:VCode:=(.seq (.ops [
  ⟨some 1,none,.box (.tmp 0)⟩,
  ⟨some 2,none,.alloc [(.int .i64 0),(.int .i64 0),(.slice none 0 0)]⟩]) (.seq (.ops [
  ⟨some 3,none,.alloc [(.int .i64 0),(.int .i64 0),(.slice none 0 0)]⟩]) (.seq (.ops [
  ⟨some 4,none,.fa 0 (.tmp 1)⟩,
  ⟨some 5,none,.load 1 false (.tmp 4)⟩,
  ⟨some 6,none,.fa 0 (.tmp 3)⟩,
  ⟨none,none,.store 1 (.tmp 6) (.tmp 5)⟩]) (.seq (.ops [
  ⟨some 7,none,.fa 1 (.tmp 1)⟩,
  ⟨some 8,none,.load 1 false (.tmp 7)⟩,
  ⟨some 9,none,.fa 1 (.tmp 3)⟩,
  ⟨none,none,.store 1 (.tmp 9) (.tmp 8)⟩]) (.seq (.ops [
  ⟨some 10,none,.fa 2 (.tmp 1)⟩,
  ⟨some 11,none,.load 1 false (.tmp 10)⟩,
  ⟨some 12,none,.callX 34 [(.tmp 11)]⟩,
  ⟨some 13,none,.fa 2 (.tmp 3)⟩,
  ⟨none,none,.store 1 (.tmp 13) (.tmp 12)⟩]) (.seq (.ops [
  ⟨some 14,none,.load 3 true (.tmp 3)⟩,
  ⟨none,none,.store 3 (.tmp 2) (.tmp 14)⟩]) .ret))))))
theorem law_laws_toPattern {a0 d:D}(h:code_laws_toPattern.wp (CT Try.prog NoG) (endQ [(.c 2 3 true)] d) [a0,.undef,.undef,.undef,.undef,.undef,.undef,.undef,.undef,.undef,.undef,.undef,.undef,.undef,.undef]):Contract Try.prog NoG 16 [a0] d :=
  contract_of (pt:=0) noG Try.func16 (fun us W=>by kernel_rfl) (c:=Try.f16.body.getD .skip) (ms:=[]) (ms':=[]) (by kernel_rfl) (by kernel_rfl) (by kernel_rfl) h
set_option maxHeartbeats 2000000 in
theorem v_toPattern (q:Pattern)(hn:Pattern.cnt q≤1048576):Contract Try.prog NoG 16 [.agg (Pattern.td.d false q)] (.agg (Pattern.td.d true q)):=by rw [Pattern.td_d,Pattern.td_d];refine law_laws_toPattern ?_;unfold code_laws_toPattern;have hn0:=hn;unfold Pattern.cnt at hn;simp -implicitDefEqProofs (disch:=omega) only [go_sem,↓reduceIte];refine call_B (v_toInt64S q.Cells (by omega)) (by simp -implicitDefEqProofs (disch:=omega) only [go_sem,↓reduceIte,deep,TD.rows,immLL_rI,immLL_rB8,immLL_rS,immLL_rBo,immLL_rII,immLL_rIIt];exact rfl) ?_;simp -implicitDefEqProofs (disch:=omega) only [go_sem,↓reduceIte]
end Go.Proofs.Ytaleehohmpohoaa
