/- Laws that the proof stands on. -/
import Derived.Test.YtaleehohmpohoaaZVFlat
import Derived.Test.YtaleehohmpohoaaZVDsnP
import Derived.Test.YtaleehohmpohoaaZg12
import Derived.Test.YtaleehohmpohoaaProg
import Derived.Test.YtaleehohmpohoaaZVB
import Derived.Test.YtaleehohmpohoaaZg11
import Derived.Test.YtaleehohmpohoaaZg10
set_option linter.all false
namespace Go.Proofs.Ytaleehohmpohoaa
open Go.RowKit Go.V
attribute [local go_sem] List.getElem?_cons_succ List.getElem?_cons_zero List.set_cons_succ List.set_cons_zero List.map_cons List.map_nil List.length_cons List.length_nil List.all_cons List.all_nil List.drop_succ_cons List.drop_zero List.take_succ_cons List.take_zero List.flatMap_cons List.flatMap_nil List.cons_append List.nil_append List.append_nil List.headD_cons Value.oneCell' Bool.and_true Bool.true_and Bool.or_false Bool.false_or Bool.and_self Bool.not_true Bool.not_false and_true true_and beq_self_eq_true Bool.false_eq_true if_true if_false Nat.zero_add Nat.reduceAdd Nat.reduceMul Nat.reduceLeDiff Nat.le_refl Option.isSome_some Option.isSome_none not_true_eq_false not_false_eq_true ne_eq reduceCtorEq List.reverse_nil bne_self_eq_false Nat.reduceEqDiff List.isPrefixOf Bool.not_eq_true Bool.and_false Bool.false_and Bool.true_or Bool.or_true decide_true decide_false Nat.reduceBEq Nat.reduceBNe List.replicate_succ List.replicate_zero exists_eq_left' exists_eq_left Option.some.injEq or_false or_true true_or false_or Option.map_some Option.map_none mB Nat.reduceMod Nat.reduceDiv
set_option maxRecDepth 100000
def metN (N:List Int)(k:Int):List Int:=if k∈N then N else N++[k]
def numN (N:List Int)(k:Int):Nat:=N.idxOf k
def tabN (N:List Int):List Int:=(List.range 120).map fun k=>if ((k:Nat):Int)∈N then ((numN N k:Nat):Int) else -1
theorem numN_lt {N:List Int}{k:Int}(h:k∈N):numN N k<N.length:=List.idxOf_lt_length_of_mem h
theorem metN_mem (N:List Int)(k:Int):k∈metN N k:=by unfold metN;split<;>simp_all
theorem metN_sub {N:List Int}{k j:Int}(h:j∈N):j∈metN N k:=by unfold metN;split<;>simp_all
theorem metN_nd {N:List Int}{k:Int}(h:N.Nodup):(metN N k).Nodup:=by
  unfold metN;split
  · exact h
  · rename_i hk;exact List.nodup_append.2 ⟨h,by simp,fun x hx y hy e=>by simp at hy;subst hy;subst e;exact hk hx⟩
theorem metN_num {N:List Int}{k j:Int}(h:j∈N):numN (metN N k) j=numN N j:=by
  unfold metN numN;split
  · rfl
  · rw [List.idxOf_append,if_pos h]
theorem metN_self {N:List Int}{k:Int}(h:k∈N):metN N k=N:=by unfold metN;rw [if_pos h]
theorem metN_new {N:List Int}{k:Int}(h:k∉N):metN N k=N++[k]:=by unfold metN;rw [if_neg h]
theorem numN_new {N:List Int}{k:Int}(h:k∉N):numN (N++[k]) k=N.length:=by unfold numN;rw [List.idxOf_append,if_neg h];simp
theorem metN_len (N:List Int)(k:Int):(metN N k).length≤N.length+1:=by unfold metN;split<;>simp
theorem tabN_len (N:List Int):(tabN N).length=120:=by simp [tabN]
theorem tabN_get {N:List Int}{k:Nat}(h:k<120):(tabN N)[k]?=some (if ((k:Nat):Int)∈N then ((numN N k:Nat):Int) else -1):=by unfold tabN;rw [List.getElem?_map,List.getElem?_range h];rfl
theorem tabN_set {N:List Int}{k:Nat}(h:k<120)(hk:(k:Int)∉N):(tabN N).set k ((N.length:Nat):Int)=tabN (N++[(k:Int)]):=by
  apply List.ext_getElem?;intro j;by_cases hj:j<120
  · rw [tabN_get hj];by_cases hjk:k=j
    · subst hjk;rw [List.getElem?_set_self (by rw [tabN_len];exact h),if_pos (by simp),numN_new hk]
    · rw [List.getElem?_set_ne hjk,tabN_get hj];have hne:¬ ((j:Nat):Int)=(k:Int):=by omega
      by_cases hm:((j:Nat):Int)∈N
      · rw [if_pos hm,if_pos (by simp [hm])];unfold numN;rw [List.idxOf_append,if_pos hm]
      · rw [if_neg hm,if_neg (by simp [hm,hne])]
  · rw [List.getElem?_eq_none (by rw [List.length_set,tabN_len];omega),List.getElem?_eq_none (by rw [tabN_len];omega)]
def keyN (p:Int×Nat):Value:=.int .i64 p.1
def valN (p:Int×Nat):Value:=.int .i64 (p.2:Nat)
def entN (N:List Int):List (Value×Value):=tbG keyN valN N.zipIdx
theorem keqN (k:Int)(b:Int×Nat):keq (.int .i64 k) (keyN b)=decide (b.1=k):=by simp only [keyN,keq,keqC];rw [Bool.beq_eq_decide_eq];exact decide_eq_decide.2 eq_comm
def code_spec_l33Name:VCode:=(.seq (.ops [
  ⟨(some 6),none,(.asg (.const (.int .i64 0)))⟩]) (.seq (.seq (.ops [
  ⟨(some 7),none,(.mv (.tmp 0))⟩,
  ⟨(some 8),none,(.mv (.tmp 1))⟩,
  ⟨(some 9),none,(.ia 1 (.tmp 7) (.tmp 8))⟩,
  ⟨(some 10),none,(.load 1 false (.tmp 9))⟩,
  ⟨(some 11),none,(.bin .lss (.tmp 10) (.const (.int .i64 0)))⟩]) (.cond (.tmp 11) (.seq (.ops [
  ⟨(some 12),none,(.mv (.tmp 0))⟩,
  ⟨(some 13),none,(.mv (.tmp 1))⟩,
  ⟨(some 14),none,(.mv (.tmp 2))⟩,
  ⟨(some 15),none,(.nilc (.tmp 14))⟩,
  ⟨(some 16),none,(.load 1 false (.tmp 15))⟩,
  ⟨(some 17),none,(.ia 1 (.tmp 12) (.tmp 13))⟩,
  ⟨none,none,(.store 1 (.tmp 17) (.tmp 16))⟩]) (.ops [
  ⟨(some 18),none,(.mv (.tmp 2))⟩,
  ⟨(some 19),none,(.nilc (.tmp 18))⟩,
  ⟨(some 20),none,(.load 1 false (.tmp 19))⟩,
  ⟨(some 21),none,(.bin .add (.tmp 20) (.const (.int .i64 1)))⟩,
  ⟨(some 22),none,(.nilc (.tmp 18))⟩,
  ⟨none,none,(.store 1 (.tmp 22) (.tmp 21))⟩])) .skip)) (.seq (.ops [
  ⟨(some 23),none,(.mv (.tmp 0))⟩,
  ⟨(some 24),none,(.mv (.tmp 1))⟩,
  ⟨(some 25),none,(.ia 1 (.tmp 23) (.tmp 24))⟩,
  ⟨(some 26),none,(.load 1 false (.tmp 25))⟩,
  ⟨(some 6),none,(.asg (.tmp 26))⟩]) .ret)))
theorem law_spec_l33Name {a1 d d1 d1':D}{cells cells':List D}(hx:d1'.exact=true)(h:∀ b,code_spec_l33Name.wp (CT Try.prog NoG) (endM [(.t 6)] d 0 d1' 2 b cells') [d1,a1,.box (some b) cells,.undef,.undef,.undef,.undef,.undef,.undef,.undef,.undef,.undef,.undef,.undef,.undef,.undef,.undef,.undef,.undef,.undef,.undef,.undef,.undef,.undef,.undef,.undef,.undef]):ContractM Try.prog NoG 33 0 2 [.undef,a1,.undef] [d1,.box none cells] d [d1',.box none cells'] :=
  contract_ofM (pt:=0) noG Try.func33 (fun us W=>by kernel_rfl) (c:=Try.f33.body.getD .skip) (ms:=[]) (ms':=[]) (by kernel_rfl) (by kernel_rfl) (by kernel_rfl) (by simp) (by simp) (by decide) (by kernel_rfl) hx h
theorem v_name (N:List Int)(k:Nat)(hk:k<120)(hN:N.length<1000):ContractM Try.prog NoG 33 0 2 [.undef,.v (.int .i64 (k:Nat)),.undef] [.sl true 1 ((tabN N).map rI),.box none [.v (.int .i64 (N.length:Nat))]] (.v (.int .i64 (numN (metN N k) k:Nat))) [.sl true 1 ((tabN (metN N k)).map rI),.box none [.v (.int .i64 ((metN N k).length:Nat))]]:=by
  refine law_spec_l33Name rfl fun b=>?_;unfold code_spec_l33Name;have hl:=tabN_len N;have hg:=tabN_get (N:=N) hk;have hn1:IntKind.i64.wrap ((N.length:Int)+1)=((N.length+1:Nat):Int):=wrI (by omega) (by omega);by_cases hm:((k:Nat):Int)∈N
  · rw [if_pos hm] at hg;rw [metN_self hm];have hlt:decide (((numN N k:Nat):Int)<0)=false:=by simp
    simp -implicitDefEqProofs (disch:=omega) only [go_sem,↓reduceIte ,List.length_map,Int.toNat_natCast,Int.ofNat_lt,Int.natCast_nonneg,List.getElem?_map,Option.map_some,hl,hg,hk,rI,hlt,endM_ret,leM_app,outX]
  · rw [if_neg hm] at hg;have hset:=tabN_set hk hm;have hset2:((tabN N).map rI).set k [.v (.int .i64 (N.length:Nat))]=(tabN (N++[(k:Int)])).map rI:=by rw [← hset,List.map_set]
    have hg2:=tabN_get (N:=N++[(k:Int)]) hk;rw [if_pos (by simp)] at hg2;have hl2:=tabN_len (N++[(k:Int)]);rw [metN_new hm];simp -implicitDefEqProofs (disch:=omega) only [go_sem,↓reduceIte ,List.length_map,Int.toNat_natCast,Int.ofNat_lt,Int.natCast_nonneg,List.getElem?_map,Option.map_some,hl,hg,hk,rI,hset2,hg2,hl2,hn1,endM_ret,leM_app,outX,show decide ((-1:Int)<0)=true from rfl,List.length_append]
    trace_state
def code_slices_IndexFunc_impl_Piece_impl_Piece:VCode:=(.seq (.ops [
  ⟨(some 4),none,(.asg (.const (.int .i64 0)))⟩]) (.seq (.seq (.ops [
  ⟨(some 6),none,(.mv (.tmp 0))⟩,
  ⟨(some 7),none,(.len (.tmp 6))⟩,
  ⟨(some 8),none,(.mv (.const (.int .i64 0)))⟩]) (.block 0 (.loop (mB 19 523900) (.seq (.ops [
  ⟨(some 9),none,(.bin .lss (.tmp 8) (.tmp 7))⟩]) (.seq (.cond (.tmp 9) .skip (.exit 0)) (.seq (.block 1 (.seq (.ops [
  ⟨(some 10),none,(.mv (.tmp 8))⟩,
  ⟨(some 5),none,(.asg (.tmp 10))⟩]) (.seq (.ops [
  ⟨(some 11),none,(.mv (.tmp 1))⟩,
  ⟨(some 12),none,(.mv (.tmp 0))⟩,
  ⟨(some 13),none,(.mv (.tmp 5))⟩,
  ⟨(some 14),none,(.ia 5 (.tmp 12) (.tmp 13))⟩,
  ⟨(some 15),none,(.load 5 true (.tmp 14))⟩,
  ⟨(some 16),none,(.callvX (.tmp 11) [(.tmp 15)])⟩]) (.cond (.tmp 16) (.seq (.ops [
  ⟨(some 17),none,(.mv (.tmp 5))⟩,
  ⟨(some 4),none,(.asg (.tmp 17))⟩]) .ret) .skip)))) (.ops [
  ⟨(some 18),none,(.bin .add (.tmp 8) (.const (.int .i64 1)))⟩,
  ⟨(some 8),none,(.mv (.tmp 18))⟩]))))))) (.seq (.ops [
  ⟨(some 4),none,(.asg (.const (.int .i64 (-1))))⟩]) .ret)))
theorem law_slices_IndexFunc_impl_Piece_impl_Piece {a0 a1 d:D}(h:code_slices_IndexFunc_impl_Piece_impl_Piece.wp (CT Try.prog NoG) (endQ [(.t 4)] d) [a0,a1,.undef,.undef,.undef,.undef,.undef,.undef,.undef,.undef,.undef,.undef,.undef,.undef,.undef,.undef,.undef,.undef,.undef]):Contract Try.prog NoG 92 [a0,a1] d :=
  contract_of (pt:=0) noG Try.func92 (fun us W=>by kernel_rfl) (c:=Try.f92.body.getD .skip) (ms:=[(mB 19 523900)]) (ms':=[]) (by kernel_rfl) (by kernel_rfl) (by kernel_rfl) h
theorem v_IndexFunc_Piece (f:FuncId)(caps:List D)(hd:CapsOK caps)(xs:List Piece)(p:Piece→Bool)(hc:∀ x,x∈xs→Contract Try.prog NoG f (.agg (Piece.td.d false x)::caps) (.v (.bool (p x))))(hn:xs.length≤1099511627776) :
    Contract Try.prog NoG 92 [.sl false 5 (xs.map (Piece.td.d false)),.fn f [] caps] (.v (.int .i64 (vIdx p xs))):=by
  refine law_slices_IndexFunc_impl_Piece_impl_Piece ?_;unfold code_slices_IndexFunc_impl_Piece_impl_Piece;simp -implicitDefEqProofs (disch:=omega) only [go_sem,↓reduceIte ,hd.owny,hd.pr];refine loop_st (fun i:Nat=>[.sl false 5 (xs.map (Piece.td.d false)),.fn f [] caps,.undef,.undef,.undef,.undef,.undef,.v (.int .i64 (xs.map (Piece.td.d false)).length),.v (.int .i64 i),.undef,.undef,.undef,.undef,.undef,.undef,.undef,.undef,.undef,.undef]) (fun i=>i≤xs.length∧∀ j (hj:j<xs.length),j<i→p xs[j]=false) (fun i=>xs.length-i) 0 ?_ ⟨Nat.zero_le _,fun j _ h=>absurd h (Nat.not_lt_zero _)⟩ ?_
  · simp -implicitDefEqProofs (disch:=omega) only [go_sem,↓reduceIte ,hd.owny,hd.pr]
    (try simp -implicitDefEqProofs only [nleL_cc,nleL_nn,nle_self,nle_boxs,nle_aggs,nle_nils,and_self,and_true,true_and])<;>repeat' (first | exact nle_of_eq rfl | exact nle_nil | apply And.intro | apply nle_sl | apply nleLL_cons | apply nleL_cons | exact nleL_nil | exact nleLL_nil | apply nle_box | apply nle_agg)
  rintro i ⟨hi,ha⟩;simp -implicitDefEqProofs (disch:=omega) only [go_sem,↓reduceIte ,List.length_map,Int.toNat_natCast,Int.ofNat_lt,Int.natCast_nonneg,List.getElem?_map,Option.map_some,hd.owny,hd.pr];refine cond_split ?_ ?_<;>intro hlt
  · have hlt:i<xs.length:=(by simpa using hlt);have hx:=List.getElem?_eq_getElem hlt;simp -implicitDefEqProofs (disch:=omega) only [go_sem,↓reduceIte ,List.length_map,Int.toNat_natCast,Int.ofNat_lt,Int.natCast_nonneg,List.getElem?_map,Option.map_some,hlt,hx,Piece.td_d,hd.owny,hd.pr];have hcx:=hc _ (List.getElem_mem hlt);rw [Piece.td_d] at hcx;refine callv_le (f:=f) (first:=[]) (caps:=caps) ?_ hcx ?_ (.inl rfl) ?_
    · simp -implicitDefEqProofs (disch:=omega) only [go_sem,↓reduceIte ,hd.owny]
    · refine leL_of_eq ?_;simp only [List.nil_append,List.cons_append,List.map_cons,List.map_nil,hd.d8,List.map_append];simp only [deep,raw,List.getElem?_cons_succ,List.getElem?_cons_zero,List.map_cons,List.map_nil,TD.rows,immLL_rI,immLL_rB8,immLL_rS,immLL_rBo]
    simp -implicitDefEqProofs (disch:=omega) only [go_sem,↓reduceIte ,hd.owny,hd.pr];refine cond_split ?_ ?_<;>intro hp
    · simp -implicitDefEqProofs (disch:=omega) only [go_sem,↓reduceIte ,hd.owny,hd.pr];rw [vIdx_hit p xs i hlt ha hp]
    · simp -implicitDefEqProofs (disch:=omega) only [go_sem,↓reduceIte ,wrN,hd.owny,hd.pr];refine ⟨i+1,by omega,⟨hlt,fun j hj h=>?_⟩,nleA⟩;rcases Nat.lt_or_ge j i with h' | h'
      · exact ha j hj h'
      · have:j=i:=(by omega);subst this;exact hp
  · have hlt:¬ i<xs.length:=(by simpa using hlt);simp -implicitDefEqProofs (disch:=omega) only [go_sem,↓reduceIte];rw [vIdx_miss p xs (fun j hj=>ha j hj (by omega))]
def code_slices_ContainsFunc_impl_Piece_impl_Piece:VCode:=(.seq (.ops [
  ⟨(some 4),none,(.asg (.const (.bool false)))⟩]) (.seq (.ops [
  ⟨(some 5),none,(.mv (.tmp 0))⟩,
  ⟨(some 6),none,(.mv (.tmp 1))⟩,
  ⟨(some 7),none,(.callX 92 [(.tmp 5),(.tmp 6)])⟩,
  ⟨(some 8),none,(.bin .geq (.tmp 7) (.const (.int .i64 0)))⟩,
  ⟨(some 4),none,(.asg (.tmp 8))⟩]) .ret))
theorem law_slices_ContainsFunc_impl_Piece_impl_Piece {a0 a1 d:D}(h:code_slices_ContainsFunc_impl_Piece_impl_Piece.wp (CT Try.prog NoG) (endQ [(.t 4)] d) [a0,a1,.undef,.undef,.undef,.undef,.undef,.undef,.undef]):Contract Try.prog NoG 65 [a0,a1] d :=
  contract_of (pt:=0) noG Try.func65 (fun us W=>by kernel_rfl) (c:=Try.f65.body.getD .skip) (ms:=[]) (ms':=[]) (by kernel_rfl) (by kernel_rfl) (by kernel_rfl) h
theorem v_ContainsFunc_Piece (f:FuncId)(caps:List D)(hd:CapsOK caps)(xs:List Piece)(p:Piece→Bool)(hc:∀ x,x∈xs→Contract Try.prog NoG f (.agg (Piece.td.d false x)::caps) (.v (.bool (p x))))(hn:xs.length≤1099511627776) :
    Contract Try.prog NoG 65 [.sl false 5 (xs.map (Piece.td.d false)),.fn f [] caps] (.v (.bool (xs.any p))):=by
  refine law_slices_ContainsFunc_impl_Piece_impl_Piece ?_;unfold code_slices_ContainsFunc_impl_Piece_impl_Piece;simp -implicitDefEqProofs (disch:=omega) only [go_sem,↓reduceIte ,hd.owny,hd.pr];refine call_le (v_IndexFunc_Piece f caps hd xs p hc hn) ?_ (.inl rfl) ?_
  · refine leL_of_eq ?_;simp only [List.map_cons,List.map_nil,deep,raw,List.getElem?_cons_succ,List.getElem?_cons_zero,TD.rows,immLL_rI,immLL_rB8,immLL_rS,immLL_rBo,hd.owny,hd.pr,hd.d7]
    try rfl
  simp -implicitDefEqProofs (disch:=omega) only [go_sem,↓reduceIte];exact congrArg Value.bool (vIdx_any p xs)
def code_laws_toPiece:VCode:=(.seq (.ops [
  ⟨(some 1),none,(.box (.tmp 0))⟩,
  ⟨(some 2),none,(.alloc [(.int .i64 0),(.int .i64 0),(.int .i64 0),(.int .i64 0),(.int .i64 0)])⟩]) (.seq (.ops [
  ⟨(some 3),none,(.alloc [(.int .i64 0),(.int .i64 0),(.int .i64 0),(.int .i64 0),(.int .i64 0)])⟩]) (.seq (.ops [
  ⟨(some 4),none,(.fa 0 (.tmp 1))⟩,
  ⟨(some 5),none,(.load 1 false (.tmp 4))⟩,
  ⟨(some 6),none,(.fa 0 (.tmp 3))⟩,
  ⟨none,none,(.store 1 (.tmp 6) (.tmp 5))⟩]) (.seq (.ops [
  ⟨(some 7),none,(.fa 1 (.tmp 1))⟩,
  ⟨(some 8),none,(.load 1 false (.tmp 7))⟩,
  ⟨(some 9),none,(.fa 1 (.tmp 3))⟩,
  ⟨none,none,(.store 1 (.tmp 9) (.tmp 8))⟩]) (.seq (.ops [
  ⟨(some 10),none,(.fa 2 (.tmp 1))⟩,
  ⟨(some 11),none,(.load 1 false (.tmp 10))⟩,
  ⟨(some 12),none,(.fa 2 (.tmp 3))⟩,
  ⟨none,none,(.store 1 (.tmp 12) (.tmp 11))⟩]) (.seq (.ops [
  ⟨(some 13),none,(.fa 3 (.tmp 1))⟩,
  ⟨(some 14),none,(.load 1 false (.tmp 13))⟩,
  ⟨(some 15),none,(.fa 3 (.tmp 3))⟩,
  ⟨none,none,(.store 1 (.tmp 15) (.tmp 14))⟩]) (.seq (.ops [
  ⟨(some 16),none,(.fa 4 (.tmp 1))⟩,
  ⟨(some 17),none,(.load 1 false (.tmp 16))⟩,
  ⟨(some 18),none,(.fa 4 (.tmp 3))⟩,
  ⟨none,none,(.store 1 (.tmp 18) (.tmp 17))⟩]) (.seq (.ops [
  ⟨(some 19),none,(.load 5 true (.tmp 3))⟩,
  ⟨none,none,(.store 5 (.tmp 2) (.tmp 19))⟩]) .ret))))))))
theorem law_laws_toPiece {a0 d:D}(h:code_laws_toPiece.wp (CT Try.prog NoG) (endQ [(.c 2 5 true)] d) [a0,.undef,.undef,.undef,.undef,.undef,.undef,.undef,.undef,.undef,.undef,.undef,.undef,.undef,.undef,.undef,.undef,.undef,.undef,.undef]):Contract Try.prog NoG 68 [a0] d :=
  contract_of (pt:=0) noG Try.func68 (fun us W=>by kernel_rfl) (c:=Try.f68.body.getD .skip) (ms:=[]) (ms':=[]) (by kernel_rfl) (by kernel_rfl) (by kernel_rfl) h
set_option maxHeartbeats 2000000 in
theorem v_toPiece (q:Piece):Contract Try.prog NoG 68 [.agg (Piece.td.d false q)] (.agg (Piece.td.d true q)):=by rw [Piece.td_d,Piece.td_d];refine law_laws_toPiece ?_;unfold code_laws_toPiece;simp -implicitDefEqProofs (disch:=omega) only [go_sem,↓reduceIte]
def code_laws_toPieceS:VCode:=(.seq (.ops [
  ⟨(some 2),none,(.asg (.const (.slice none 0 0)))⟩]) (.seq (.ops [
  ⟨(some 5),none,(.mv (.tmp 0))⟩,
  ⟨(some 6),none,(.len (.tmp 5))⟩,
  ⟨(some 7),none,(.mks 5 40 [(.int .i64 0),(.int .i64 0),(.int .i64 0),(.int .i64 0),(.int .i64 0)] (.tmp 6) (.tmp 6))⟩,
  ⟨(some 3),none,(.asg (.tmp 7))⟩]) (.seq (.seq (.ops [
  ⟨(some 4),none,(.asg (.const (.int .i64 0)))⟩]) (.block 0 (.loop (mB 23 8388454) (.seq (.seq (.ops [
  ⟨(some 8),none,(.mv (.tmp 4))⟩,
  ⟨(some 9),none,(.mv (.tmp 0))⟩,
  ⟨(some 10),none,(.len (.tmp 9))⟩,
  ⟨(some 11),none,(.bin .lss (.tmp 8) (.tmp 10))⟩]) (.cond (.tmp 11) .skip (.exit 0))) (.seq (.block 1 (.ops [
  ⟨(some 14),none,(.mv (.tmp 3))⟩,
  ⟨(some 15),none,(.mv (.tmp 4))⟩,
  ⟨(some 16),none,(.mv (.tmp 0))⟩,
  ⟨(some 17),none,(.mv (.tmp 4))⟩,
  ⟨(some 18),none,(.ia 5 (.tmp 16) (.tmp 17))⟩,
  ⟨(some 19),none,(.load 5 true (.tmp 18))⟩,
  ⟨(some 20),none,(.callX 68 [(.tmp 19)])⟩,
  ⟨(some 21),none,(.ia 5 (.tmp 14) (.tmp 15))⟩,
  ⟨none,none,(.store 5 (.tmp 21) (.tmp 20))⟩])) (.ops [
  ⟨(some 12),none,(.mv (.tmp 4))⟩,
  ⟨(some 13),none,(.bin .add (.tmp 12) (.const (.int .i64 1)))⟩,
  ⟨(some 4),none,(.asg (.tmp 13))⟩])))))) (.seq (.ops [
  ⟨(some 22),none,(.mv (.tmp 3))⟩,
  ⟨(some 2),none,(.asg (.tmp 22))⟩]) .ret))))
theorem law_laws_toPieceS {a0 d:D}(h:code_laws_toPieceS.wp (CT Try.prog NoG) (endQ [(.t 2)] d) [a0,.undef,.undef,.undef,.undef,.undef,.undef,.undef,.undef,.undef,.undef,.undef,.undef,.undef,.undef,.undef,.undef,.undef,.undef,.undef,.undef,.undef,.undef]):Contract Try.prog NoG 35 [a0] d :=
  contract_of (pt:=0) noG Try.func35 (fun us W=>by kernel_rfl) (c:=Try.f35.body.getD .skip) (ms:=[(mB 23 8388454)]) (ms':=[]) (by kernel_rfl) (by kernel_rfl) (by kernel_rfl) h
set_option maxHeartbeats 2000000 in
theorem v_toPieceS (xs:List Piece)(hn:xs.length≤1048576):Contract Try.prog NoG 35 [.sl false 5 (xs.map (Piece.td.d false))] (.sl true 5 (xs.map (Piece.td.d true))):=by
  have hl:xs.length≤1048576:=(by exact hn);refine law_laws_toPieceS ?_;unfold code_laws_toPieceS;simp -implicitDefEqProofs (disch:=omega) only [go_sem,↓reduceIte ,List.length_map,Int.toNat_natCast];refine ⟨by omega,by omega,by omega,?_⟩;refine loop_st (fun k:Nat=>[.sl false 5 (xs.map (Piece.td.d false)),.undef,.undef,.sl true 5 ((xs.take k).map (Piece.td.d true)++List.replicate (xs.length-k) [D.v (.int .i64 0),D.v (.int .i64 0),D.v (.int .i64 0),D.v (.int .i64 0),D.v (.int .i64 0)]),.v (.int .i64 k),.undef,.undef,.undef,.undef,.undef,.undef,.undef,.undef,.undef,.undef,.undef,.undef,.undef,.undef,.undef,.undef,.undef,.undef]) (fun k=>k≤xs.length) (fun k=>xs.length-k) 0 (nleA) (Nat.zero_le _) ?_;intro k hk;simp -implicitDefEqProofs (disch:=omega) only [go_sem,↓reduceIte ,List.length_map,Int.toNat_natCast,Int.ofNat_lt,Int.natCast_nonneg,List.getElem?_map,Option.map_some];refine cond_split ?_ ?_<;>intro hlt
  · have hlt:k<xs.length:=(by simpa using hlt);have e1:=List.getElem?_eq_getElem hlt;have g1:=fill_len xs (Piece.td.d true) [D.v (.int .i64 0),D.v (.int .i64 0),D.v (.int .i64 0),D.v (.int .i64 0),D.v (.int .i64 0)] k;have g2:=fill_at xs (Piece.td.d true) [D.v (.int .i64 0),D.v (.int .i64 0),D.v (.int .i64 0),D.v (.int .i64 0),D.v (.int .i64 0)] k hlt;have g3:=fill_next xs (Piece.td.d true) [D.v (.int .i64 0),D.v (.int .i64 0),D.v (.int .i64 0),D.v (.int .i64 0),D.v (.int .i64 0)] k hlt;have g4:k<((xs.take k).map (Piece.td.d true)++List.replicate (xs.length-k) [D.v (.int .i64 0),D.v (.int .i64 0),D.v (.int .i64 0),D.v (.int .i64 0),D.v (.int .i64 0)]).length:=(by rw [g1];exact hlt);simp -implicitDefEqProofs (disch:=omega) only [go_sem,↓reduceIte ,List.length_map,Int.toNat_natCast,Int.ofNat_lt,Int.natCast_nonneg,List.getElem?_map,Option.map_some,hlt,e1,g1,g2,List.set_set,List.getElem?_set_self g4,wrN,Piece.td_d];refine call_B (v_toPiece xs[k]) (by simp -implicitDefEqProofs (disch:=omega) only [go_sem,↓reduceIte,deep,TD.rows,immLL_rI,immLL_rB8,immLL_rS,immLL_rBo,immLL_rII,immLL_rIIt,List.length_map,Int.toNat_natCast,Int.ofNat_lt,Int.natCast_nonneg,List.getElem?_map,Option.map_some,hlt,e1,g1,g2,List.set_set,List.getElem?_set_self g4,wrN,Piece.td_d];exact rfl) ?_;simp -implicitDefEqProofs (disch:=omega) only [go_sem,↓reduceIte ,List.length_map,Int.toNat_natCast,Int.ofNat_lt,Int.natCast_nonneg,List.getElem?_map,Option.map_some,hlt,e1,g1,g2,List.set_set,List.getElem?_set_self g4,wrN,Piece.td_d];refine ⟨k+1,by omega,hlt,?_⟩;rw [← g3];rw [Piece.td_d]
    (try simp -implicitDefEqProofs only [nleL_cc,nleL_nn,nle_self,nle_boxs,nle_aggs,nle_nils,and_self,and_true,true_and])<;>repeat' (first | exact nle_of_eq rfl | exact nle_nil | apply And.intro | apply nle_sl | apply nleLL_cons | apply nleL_cons | exact nleL_nil | exact nleLL_nil | apply nle_box | apply nle_agg)
  · have hge:k=xs.length:=(by have:¬ k<xs.length:=(by simpa using hlt);omega);subst hge;simp -implicitDefEqProofs (disch:=omega) only [go_sem,↓reduceIte ,fill_end]
def code_laws_toDesign:VCode:=(.seq (.ops [
  ⟨(some 1),none,(.box (.tmp 0))⟩,
  ⟨(some 2),none,(.alloc [(.slice none 0 0),(.slice none 0 0),(.slice none 0 0)])⟩]) (.seq (.ops [
  ⟨(some 3),none,(.alloc [(.slice none 0 0),(.slice none 0 0),(.slice none 0 0)])⟩]) (.seq (.ops [
  ⟨(some 4),none,(.fa 0 (.tmp 1))⟩,
  ⟨(some 5),none,(.load 1 false (.tmp 4))⟩,
  ⟨(some 6),none,(.callX 34 [(.tmp 5)])⟩,
  ⟨(some 7),none,(.fa 0 (.tmp 3))⟩,
  ⟨none,none,(.store 1 (.tmp 7) (.tmp 6))⟩]) (.seq (.ops [
  ⟨(some 8),none,(.fa 1 (.tmp 1))⟩,
  ⟨(some 9),none,(.load 1 false (.tmp 8))⟩,
  ⟨(some 10),none,(.callX 34 [(.tmp 9)])⟩,
  ⟨(some 11),none,(.fa 1 (.tmp 3))⟩,
  ⟨none,none,(.store 1 (.tmp 11) (.tmp 10))⟩]) (.seq (.ops [
  ⟨(some 12),none,(.fa 2 (.tmp 1))⟩,
  ⟨(some 13),none,(.load 1 false (.tmp 12))⟩,
  ⟨(some 14),none,(.callX 35 [(.tmp 13)])⟩,
  ⟨(some 15),none,(.fa 2 (.tmp 3))⟩,
  ⟨none,none,(.store 1 (.tmp 15) (.tmp 14))⟩]) (.seq (.ops [
  ⟨(some 16),none,(.load 3 true (.tmp 3))⟩,
  ⟨none,none,(.store 3 (.tmp 2) (.tmp 16))⟩]) .ret))))))
theorem law_laws_toDesign {a0 d:D}(h:code_laws_toDesign.wp (CT Try.prog NoG) (endQ [(.c 2 3 true)] d) [a0,.undef,.undef,.undef,.undef,.undef,.undef,.undef,.undef,.undef,.undef,.undef,.undef,.undef,.undef,.undef,.undef]):Contract Try.prog NoG 9 [a0] d :=
  contract_of (pt:=0) noG Try.func9 (fun us W=>by kernel_rfl) (c:=Try.f9.body.getD .skip) (ms:=[]) (ms':=[]) (by kernel_rfl) (by kernel_rfl) (by kernel_rfl) h
set_option maxHeartbeats 2000000 in
theorem v_toDesign (q:Design)(hn:Design.cnt q≤1048576):Contract Try.prog NoG 9 [.agg (Design.td.d false q)] (.agg (Design.td.d true q)):=by rw [Design.td_d,Design.td_d];refine law_laws_toDesign ?_;unfold code_laws_toDesign;have hn0:=hn;unfold Design.cnt at hn;simp -implicitDefEqProofs (disch:=omega) only [go_sem,↓reduceIte];refine call_B (v_toInt64S q.Bottom (by omega)) (by simp -implicitDefEqProofs (disch:=omega) only [go_sem,↓reduceIte,deep,TD.rows,immLL_rI,immLL_rB8,immLL_rS,immLL_rBo,immLL_rII,immLL_rIIt];exact rfl) ?_;simp -implicitDefEqProofs (disch:=omega) only [go_sem,↓reduceIte];refine call_B (v_toInt64S q.Left (by omega)) (by simp -implicitDefEqProofs (disch:=omega) only [go_sem,↓reduceIte,deep,TD.rows,immLL_rI,immLL_rB8,immLL_rS,immLL_rBo,immLL_rII,immLL_rIIt];exact rfl) ?_;simp -implicitDefEqProofs (disch:=omega) only [go_sem,↓reduceIte];refine call_B (v_toPieceS q.Pieces (by omega)) (by simp -implicitDefEqProofs (disch:=omega) only [go_sem,↓reduceIte,deep,TD.rows,immLL_rI,immLL_rB8,immLL_rS,immLL_rBo,immLL_rII,immLL_rIIt];exact rfl) ?_;simp -implicitDefEqProofs (disch:=omega) only [go_sem,↓reduceIte]
end Go.Proofs.Ytaleehohmpohoaa
