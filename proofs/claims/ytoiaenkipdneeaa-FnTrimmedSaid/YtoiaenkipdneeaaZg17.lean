/- Laws that the proof stands on. -/
import Derived.Test.YtoiaenkipdneeaaZg16
import Derived.Test.YtoiaenkipdneeaaZg8
import Derived.Test.YtoiaenkipdneeaaZg10
import Derived.Test.YtoiaenkipdneeaaZg15
set_option linter.all false
namespace Go.Proofs.Ytoiaenkipdneeaa
open Go.RowKit Go.V
attribute [local go_sem] List.getElem?_cons_succ List.getElem?_cons_zero List.set_cons_succ List.set_cons_zero List.map_cons List.map_nil List.length_cons List.length_nil List.all_cons List.all_nil List.drop_succ_cons List.drop_zero List.take_succ_cons List.take_zero List.flatMap_cons List.flatMap_nil List.cons_append List.nil_append List.append_nil List.headD_cons Value.oneCell' Bool.and_true Bool.true_and Bool.or_false Bool.false_or Bool.and_self Bool.not_true Bool.not_false and_true true_and beq_self_eq_true Bool.false_eq_true if_true if_false Nat.zero_add Nat.reduceAdd Nat.reduceMul Nat.reduceLeDiff Nat.le_refl Option.isSome_some Option.isSome_none not_true_eq_false not_false_eq_true ne_eq reduceCtorEq List.reverse_nil bne_self_eq_false Nat.reduceEqDiff List.isPrefixOf Bool.not_eq_true Bool.and_false Bool.false_and Bool.true_or Bool.or_true decide_true decide_false Nat.reduceBEq Nat.reduceBNe List.replicate_succ List.replicate_zero exists_eq_left' exists_eq_left Option.some.injEq or_false or_true true_or false_or Option.map_some Option.map_none mB Nat.reduceMod Nat.reduceDiv
set_option maxRecDepth 100000
theorem trimTi_len {a : TileSet} (h : okSet a = true) {i : Nat} (hi : i ≤ a.Tiles.length) : (trimSt a i).1.length ≤ i ∧ (trimSt a i).2.length = i:=⟨(tr_inv h i hi).le,(tr_inv h i hi).len⟩
def code_impl_TrimSet_1 : VCode:=(.seq (.ops [
  ⟨(some 2),none,(.box (.tmp 0))⟩,
  ⟨(some 3),none,(.asg (.const (.bool false)))⟩]) (.seq (.ops [
  ⟨(some 4),none,(.fa 1 (.tmp 2))⟩,
  ⟨(some 5),none,(.load 1 false (.tmp 4))⟩,
  ⟨(some 6),none,(.load 1 false (.tmp 1))⟩,
  ⟨(some 7),none,(.bin .add (.tmp 6) (.const (.int .i64 1)))⟩,
  ⟨(some 8),none,(.callX 61 [(.tmp 5),(.tmp 7)])⟩,
  ⟨(some 3),none,(.asg (.tmp 8))⟩]) .ret))
theorem law_impl_TrimSet_1 {a0 a1 d : D} (h : code_impl_TrimSet_1.wp (CT Try.prog NoG) (endQ [(.t 3)] d) [a0,a1,.undef,.undef,.undef,.undef,.undef,.undef,.undef]) : Contract Try.prog NoG 60 [a0,a1] d :=
  contract_of (pt:=0) noG Try.func60 (fun us W => by kernel_rfl) (c:=Try.f60.body.getD .skip) (ms:=[]) (ms':=[]) (by kernel_rfl) (by kernel_rfl) (by kernel_rfl) h
def code_impl_TrimSet_2 : VCode:=(.seq (.ops [
  ⟨(some 2),none,(.box (.tmp 0))⟩,
  ⟨(some 3),none,(.asg (.const (.bool false)))⟩]) (.seq (.ops [
  ⟨(some 4),none,(.fa 1 (.tmp 2))⟩,
  ⟨(some 5),none,(.load 1 false (.tmp 4))⟩,
  ⟨(some 6),none,(.load 1 false (.tmp 1))⟩,
  ⟨(some 7),none,(.callX 65 [(.tmp 5),(.tmp 6)])⟩,
  ⟨(some 3),none,(.asg (.tmp 7))⟩]) .ret))
theorem law_impl_TrimSet_2 {a0 a1 d : D} (h : code_impl_TrimSet_2.wp (CT Try.prog NoG) (endQ [(.t 3)] d) [a0,a1,.undef,.undef,.undef,.undef,.undef,.undef]) : Contract Try.prog NoG 64 [a0,a1] d :=
  contract_of (pt:=0) noG Try.func64 (fun us W => by kernel_rfl) (c:=Try.f64.body.getD .skip) (ms:=[]) (ms':=[]) (by kernel_rfl) (by kernel_rfl) (by kernel_rfl) h
def code_impl_TrimSet : VCode:=(.seq (.ops [
  ⟨(some 1),none,(.box (.tmp 0))⟩,
  ⟨(some 2),none,(.alloc [(.slice none 0 0),(.slice none 0 0)])⟩,
  ⟨(some 3),none,(.asg (.const (.slice none 0 0)))⟩,
  ⟨(some 4),none,(.asg (.const (.int .i64 0)))⟩]) (.seq (.seq (.ops [
  ⟨(some 13),none,(.load 2 true (.tmp 1))⟩,
  ⟨(some 14),none,(.callX 31 [(.tmp 13)])⟩,
  ⟨(some 15),none,(.un .not (.tmp 14))⟩]) (.cond (.tmp 15) (.seq (.ops [
  ⟨(some 16),none,(.build [(.slice none 0 0),(.slice none 0 0)] [])⟩,
  ⟨none,none,(.store 2 (.tmp 2) (.tmp 16))⟩,
  ⟨(some 3),none,(.asg (.const (.slice none 0 0)))⟩,
  ⟨(some 4),none,(.asg (.const (.int .i64 1)))⟩]) .ret) .skip)) (.seq (.ops [
  ⟨(some 5),none,(.alloc [(.slice none 0 0),(.slice none 0 0)])⟩]) (.seq (.seq (.ops [
  ⟨(some 17),none,(.fa 0 (.tmp 1))⟩,
  ⟨(some 18),none,(.load 1 false (.tmp 17))⟩,
  ⟨(some 19),none,(.len (.tmp 18))⟩,
  ⟨(some 20),none,(.mv (.const (.int .i64 0)))⟩]) (.block 0 (.loop (mB 72 4722366482869643247577) (.seq (.ops [
  ⟨(some 21),none,(.bin .lss (.tmp 20) (.tmp 19))⟩]) (.seq (.cond (.tmp 21) .skip (.exit 0)) (.seq (.block 1 (.seq (.ops [
  ⟨(some 22),none,(.mv (.tmp 20))⟩,
  ⟨(some 23),none,(.ia 2 (.tmp 18) (.tmp 20))⟩,
  ⟨(some 24),none,(.load 2 true (.tmp 23))⟩,
  ⟨(some 6),none,(.alloc [(.int .i64 0)])⟩,
  ⟨(some 7),none,(.alloc [(.string ⟨⟨[]⟩⟩),(.int .i64 0)])⟩,
  ⟨none,none,(.store 1 (.tmp 6) (.tmp 22))⟩,
  ⟨none,none,(.store 2 (.tmp 7) (.tmp 24))⟩]) (.seq (.ops [
  ⟨(some 25),none,(.fa 1 (.tmp 1))⟩,
  ⟨(some 26),none,(.load 1 false (.tmp 25))⟩,
  ⟨(some 27),none,(.mkf 60 [] [(.tmp 6)])⟩,
  ⟨(some 28),none,(.callX 59 [(.tmp 26),(.tmp 27)])⟩]) (.cond (.tmp 28) (.ops [
  ⟨(some 29),none,(.fa 0 (.tmp 5))⟩,
  ⟨(some 30),none,(.load 1 false (.tmp 29))⟩,
  ⟨(some 31),none,(.load 2 true (.tmp 7))⟩,
  ⟨(some 32),none,(.bsl 2 [(.tmp 31)])⟩,
  ⟨(some 33),none,(.app 2 24 (.tmp 30) (.tmp 32))⟩,
  ⟨(some 34),none,(.fa 0 (.tmp 5))⟩,
  ⟨none,none,(.store 1 (.tmp 34) (.tmp 33))⟩]) .skip)))) (.ops [
  ⟨(some 35),none,(.bin .add (.tmp 20) (.const (.int .i64 1)))⟩,
  ⟨(some 20),none,(.mv (.tmp 35))⟩]))))))) (.seq (.ops [
  ⟨(some 8),none,(.asg (.const (.slice none 0 0)))⟩]) (.seq (.seq (.ops [
  ⟨(some 36),none,(.fa 1 (.tmp 1))⟩,
  ⟨(some 37),none,(.load 1 false (.tmp 36))⟩,
  ⟨(some 38),none,(.len (.tmp 37))⟩,
  ⟨(some 39),none,(.mv (.const (.int .i64 0)))⟩]) (.block 2 (.loop (mB 72 4242751135922404720345) (.seq (.ops [
  ⟨(some 40),none,(.bin .lss (.tmp 39) (.tmp 38))⟩]) (.seq (.cond (.tmp 40) .skip (.exit 2)) (.seq (.block 3 (.seq (.ops [
  ⟨(some 41),none,(.ia 2 (.tmp 37) (.tmp 39))⟩,
  ⟨(some 42),none,(.load 2 true (.tmp 41))⟩,
  ⟨(some 10),none,(.alloc [(.string ⟨⟨[]⟩⟩),(.slice none 0 0)])⟩,
  ⟨none,none,(.store 2 (.tmp 10) (.tmp 42))⟩]) (.seq (.ops [
  ⟨(some 43),none,(.load 2 true (.tmp 5))⟩,
  ⟨(some 44),none,(.load 2 true (.tmp 10))⟩,
  ⟨(some 45),none,(.load 2 true (.tmp 1))⟩,
  ⟨(some 46),none,(.callX 62 [(.tmp 43),(.tmp 44),(.tmp 45)])⟩,
  ⟨(some 11),none,(.alloc [(.slice none 0 0)])⟩,
  ⟨none,none,(.store 1 (.tmp 11) (.tmp 46))⟩]) (.seq (.ops [
  ⟨(some 47),none,(.fa 1 (.tmp 5))⟩,
  ⟨(some 48),none,(.load 1 false (.tmp 47))⟩,
  ⟨(some 49),none,(.mkf 64 [] [(.tmp 11)])⟩,
  ⟨(some 50),none,(.callX 63 [(.tmp 48),(.tmp 49)])⟩,
  ⟨(some 12),none,(.asg (.tmp 50))⟩]) (.seq (.seq (.ops [
  ⟨(some 51),none,(.mv (.tmp 12))⟩,
  ⟨(some 52),none,(.bin .lss (.tmp 51) (.const (.int .i64 0)))⟩]) (.cond (.tmp 52) (.seq (.ops [
  ⟨(some 53),none,(.fa 1 (.tmp 5))⟩,
  ⟨(some 54),none,(.load 1 false (.tmp 53))⟩,
  ⟨(some 55),none,(.len (.tmp 54))⟩,
  ⟨(some 12),none,(.asg (.tmp 55))⟩]) (.ops [
  ⟨(some 56),none,(.fa 1 (.tmp 5))⟩,
  ⟨(some 57),none,(.load 1 false (.tmp 56))⟩,
  ⟨(some 58),none,(.fa 0 (.tmp 10))⟩,
  ⟨(some 59),none,(.load 1 false (.tmp 58))⟩,
  ⟨(some 60),none,(.load 1 false (.tmp 11))⟩,
  ⟨(some 61),none,(.build [(.string ⟨⟨[]⟩⟩),(.slice none 0 0)] [(0,1,(.tmp 59)),(1,1,(.tmp 60))])⟩,
  ⟨(some 62),none,(.bsl 2 [(.tmp 61)])⟩,
  ⟨(some 63),none,(.app 2 40 (.tmp 57) (.tmp 62))⟩,
  ⟨(some 64),none,(.fa 1 (.tmp 5))⟩,
  ⟨none,none,(.store 1 (.tmp 64) (.tmp 63))⟩])) .skip)) (.ops [
  ⟨(some 65),none,(.mv (.tmp 8))⟩,
  ⟨(some 66),none,(.mv (.tmp 12))⟩,
  ⟨(some 67),none,(.bsl 1 [(.tmp 66)])⟩,
  ⟨(some 68),none,(.app 1 8 (.tmp 65) (.tmp 67))⟩,
  ⟨(some 8),none,(.asg (.tmp 68))⟩])))))) (.ops [
  ⟨(some 69),none,(.bin .add (.tmp 39) (.const (.int .i64 1)))⟩,
  ⟨(some 39),none,(.mv (.tmp 69))⟩]))))))) (.seq (.ops [
  ⟨(some 70),none,(.load 2 true (.tmp 5))⟩,
  ⟨(some 71),none,(.mv (.tmp 8))⟩,
  ⟨none,none,(.store 2 (.tmp 2) (.tmp 70))⟩,
  ⟨(some 3),none,(.asg (.tmp 71))⟩,
  ⟨(some 4),none,(.asg (.const (.int .i64 0)))⟩]) .ret)))))))
theorem law_impl_TrimSet {a0 d : D} (h : code_impl_TrimSet.wp (CT Try.prog NoG) (endQ [(.c 2 2 true),(.t 3),(.t 4)] d) [a0,.undef,.undef,.undef,.undef,.undef,.undef,.undef,.undef,.undef,.undef,.undef,.undef,.undef,.undef,.undef,.undef,.undef,.undef,.undef,.undef,.undef,.undef,.undef,.undef,.undef,.undef,.undef,.undef,.undef,.undef,.undef,.undef,.undef,.undef,.undef,.undef,.undef,.undef,.undef,.undef,.undef,.undef,.undef,.undef,.undef,.undef,.undef,.undef,.undef,.undef,.undef,.undef,.undef,.undef,.undef,.undef,.undef,.undef,.undef,.undef,.undef,.undef,.undef,.undef,.undef,.undef,.undef,.undef,.undef,.undef,.undef]) : Contract Try.prog NoG 24 [a0] d :=
  contract_of (pt:=0) noG Try.func24 (fun us W => by kernel_rfl) (c:=Try.f24.body.getD .skip) (ms:=[(mB 72 4722366482869643247577),(mB 72 4242751135922404720345)]) (ms':=[]) (by kernel_rfl) (by kernel_rfl) (by kernel_rfl) h
theorem v_TrimSet1 (t : Tile) (n : Nat) (h4 : t.Sides.length ≤ 1048576) (hn : n ≤ 1048576) : Contract Try.prog NoG 60 [.agg (Tile.td.d false t),.iptr [.v (.int .i64 (n : Nat))] 0] (.v (.bool (t.Sides.any (fun x => decide (x = (n : Int) + 1))))):=by
  rw [Tile.td_d];refine law_impl_TrimSet_1 ?_;unfold code_impl_TrimSet_1;have hw : IntKind.i64.wrap ((n : Int) + 1) = (n : Int) + 1:=wrI (by omega) (by omega);have he : (t.Sides.any (fun x => decide ((n : Int) + 1 = x))) = t.Sides.any (fun x => decide (x = (n : Int) + 1)):=by congr 1;funext x;rw [Bool.eq_iff_iff,decide_eq_true_eq,decide_eq_true_eq];exact eq_comm
  simp -implicitDefEqProofs (disch:=omega) only [go_sem,↓reduceIte ,hw];refine call_B (v_Contains_Int64 t.Sides ((n : Int) + 1) (by omega)) (by simp -implicitDefEqProofs (disch:=omega) only [go_sem,↓reduceIte,deep,TD.rows,immLL_rI,immLL_rB8,immLL_rS,immLL_rBo,immLL_rII,immLL_rIIt,he];exact rfl) ?_;simp -implicitDefEqProofs (disch:=omega) only [go_sem,↓reduceIte ,he]
theorem v_TrimSet2 (t : Tile) (sd : List Int) (h4 : t.Sides.length ≤ 1048576) : Contract Try.prog NoG 64 [.agg (Tile.td.d false t),.iptr [.sl false 1 (sd.map rI)] 0] (.v (.bool (decide (t.Sides = sd)))):=by rw [Tile.td_d];refine law_impl_TrimSet_2 ?_;unfold code_impl_TrimSet_2;simp -implicitDefEqProofs (disch:=omega) only [go_sem,↓reduceIte];refine call_B (v_Equal_Int64 t.Sides sd (by omega)) (by simp -implicitDefEqProofs (disch:=omega) only [go_sem,↓reduceIte,deep,TD.rows,immLL_rI,immLL_rB8,immLL_rS,immLL_rBo,immLL_rII,immLL_rIIt];exact rfl) ?_;simp -implicitDefEqProofs (disch:=omega) only [go_sem,↓reduceIte]
set_option maxHeartbeats 4000000 in
theorem vTrimSet_impl (a : TileSet) (hB : setB a) : Contract Try.prog NoG 24 [.agg (TileSet.td.d false a)] (.tup [.agg (TileSet.td.d true (trimR a)),.sl true 1 ((trimA a).map rI),.v (.int .i64 (trimC a))]):=by
  rw [TileSet.td_d,TileSet.td_d];refine law_impl_TrimSet ?_;unfold code_impl_TrimSet;simp -implicitDefEqProofs (disch:=omega) only [go_sem,↓reduceIte];cases h : okSet a with
  | false => refine call_B (v_ValidSet a hB) (by simp -implicitDefEqProofs (disch:=omega) only [go_sem,↓reduceIte,deep,TD.rows,immLL_rI,immLL_rB8,immLL_rS,immLL_rBo,immLL_rII,immLL_rIIt,h,trimR,trimA,trimC];exact rfl) ?_;simp -implicitDefEqProofs (disch:=omega) only [go_sem,↓reduceIte ,h,trimR,trimA,trimC]
  | true =>
  have l:=okSet_len h;have h4 : ∀ t,t ∈ a.Tiles → t.Sides.length = 4:=fun t ht => by obtain ⟨i,hi,rfl⟩:=List.mem_iff_getElem.1 ht;exact okSet_sides4 h hi
  refine call_B (v_ValidSet a hB) (by simp -implicitDefEqProofs (disch:=omega) only [go_sem,↓reduceIte,deep,TD.rows,immLL_rI,immLL_rB8,immLL_rS,immLL_rBo,immLL_rII,immLL_rIIt,h];exact rfl) ?_;simp -implicitDefEqProofs (disch:=omega) only [go_sem,↓reduceIte ,h];refine loop_ov (by simp -implicitDefEqProofs (disch:=omega) only [go_sem,↓reduceIte];exact rfl) (fun i : Nat => [(5,.box none [.sl true 2 ((trimGi a i).map (Glue.td.d true)),.sl true 2 (([] : List Tile).map (Tile.td.d true))]),(20,.v (.int .i64 (i : Nat)))]) (fun _ => by simp only [ovr_nil,ovr_cons,List.set_cons_zero,List.set_cons_succ];exact rfl) (fun i : Nat => i ≤ a.Glues.length) (fun i : Nat => a.Glues.length - i) (0) (by rw [show trimGi a 0 = [] from rfl];(try simp -implicitDefEqProofs only [nleL_cc,nleL_nn,nle_self,nle_boxs,nle_aggs,nle_nils,and_self,and_true,true_and]) <;> repeat' (first | exact nle_of_eq rfl | exact nle_nil | apply And.intro | apply nle_sl | apply nleLL_cons | apply nleL_cons | exact nleL_nil | exact nleLL_nil | apply nle_box | apply nle_agg)) (?_) ?_
  · exact Nat.zero_le _
  intro i hi;simp -implicitDefEqProofs (disch:=omega) only [go_sem,↓reduceIte ,List.length_map,Int.toNat_natCast,Int.ofNat_lt,Int.natCast_nonneg,List.getElem?_map,Option.map_some];refine cond_split ?_ ?_ <;> intro hlt
  · have hlt : i < a.Glues.length:=(by simpa using hlt);have e1:=List.getElem?_eq_getElem hlt;have hng:=trimGi_next hlt;have hgl:=trimGi_len a i;have hC1 : ∀ x,x ∈ a.Tiles → Contract Try.prog NoG 60 (.agg (Tile.td.d false x) :: [.iptr [.v (.int .i64 (i : Nat))] 0]) (.v (.bool (x.Sides.any (fun y => decide (y = (i : Int) + 1))))):=fun x hx => v_TrimSet1 x i (by rw [h4 x hx];omega) (by omega);simp -implicitDefEqProofs (disch:=omega) only [go_sem,↓reduceIte ,List.length_map,Int.toNat_natCast,Int.ofNat_lt,Int.natCast_nonneg,List.getElem?_map,Option.map_some,hlt,e1,Glue.td_d];cases hh : hasS a.Tiles ((i : Int) + 1) with
    | true =>
      rw [hh,if_pos rfl] at hng;have hh2 : a.Tiles.any (fun t => t.Sides.any (fun x => decide (x = (i : Int) + 1))) = true:=hh;refine call_B (v_ContainsFunc_Tile _ [.iptr [.v (.int .i64 (i : Nat))] 0] ⟨rfl,fun _ => rfl,fun _ => rfl,fun _ => rfl⟩ a.Tiles (fun t => t.Sides.any (fun x => decide (x = (i : Int) + 1))) hC1 (by omega)) (by simp -implicitDefEqProofs (disch:=omega) only [go_sem,↓reduceIte,deep,TD.rows,immLL_rI,immLL_rB8,immLL_rS,immLL_rBo,immLL_rII,immLL_rIIt,hh2,Glue.td_d,List.length_map,List.length_append,wrN];exact rfl) ?_;simp -implicitDefEqProofs (disch:=omega) only [go_sem,↓reduceIte ,hh2,Glue.td_d,List.length_map,List.length_append,wrN];refine ⟨by omega,i + 1,by omega,hlt,?_⟩;rw [hng,List.map_append (l₂:=[a.Glues[i]])]
      (try simp -implicitDefEqProofs only [nleL_cc,nleL_nn,nle_self,nle_boxs,nle_aggs,nle_nils,and_self,and_true,true_and]) <;> repeat' (first | exact nle_of_eq rfl | exact nle_nil | apply And.intro | apply nle_sl | apply nleLL_cons | apply nleL_cons | exact nleL_nil | exact nleLL_nil | apply nle_box | apply nle_agg)
    | false =>
      rw [hh,if_neg (by simp),List.append_nil] at hng;have hh2 : a.Tiles.any (fun t => t.Sides.any (fun x => decide (x = (i : Int) + 1))) = false:=hh;refine call_B (v_ContainsFunc_Tile _ [.iptr [.v (.int .i64 (i : Nat))] 0] ⟨rfl,fun _ => rfl,fun _ => rfl,fun _ => rfl⟩ a.Tiles (fun t => t.Sides.any (fun x => decide (x = (i : Int) + 1))) hC1 (by omega)) (by simp -implicitDefEqProofs (disch:=omega) only [go_sem,↓reduceIte,deep,TD.rows,immLL_rI,immLL_rB8,immLL_rS,immLL_rBo,immLL_rII,immLL_rIIt,hh2,wrN];exact rfl) ?_;simp -implicitDefEqProofs (disch:=omega) only [go_sem,↓reduceIte ,hh2,wrN];refine ⟨i + 1,by omega,hlt,?_⟩;rw [hng]
      (try simp -implicitDefEqProofs only [nleL_cc,nleL_nn,nle_self,nle_boxs,nle_aggs,nle_nils,and_self,and_true,true_and]) <;> repeat' (first | exact nle_of_eq rfl | exact nle_nil | apply And.intro | apply nle_sl | apply nleLL_cons | apply nleL_cons | exact nleL_nil | exact nleLL_nil | apply nle_box | apply nle_agg)
  obtain rfl : i = a.Glues.length:=by have : ¬ i < a.Glues.length:=by simpa using hlt
                                      omega
  have hgl:=trimGi_len a a.Glues.length;simp -implicitDefEqProofs (disch:=omega) only [go_sem,↓reduceIte];refine loop_ov (by simp -implicitDefEqProofs (disch:=omega) only [go_sem,↓reduceIte];exact rfl) (fun i : Nat => [(5,.box none [.sl true 2 ((trimGi a a.Glues.length).map (Glue.td.d true)),.sl true 2 ((trimSt a i).1.map (Tile.td.d true))]),(8,.sl true 1 ((trimSt a i).2.map rI)),(39,.v (.int .i64 (i : Nat)))]) (fun _ => by simp only [ovr_nil,ovr_cons,List.set_cons_zero,List.set_cons_succ];exact rfl) (fun i : Nat => i ≤ a.Tiles.length) (fun i : Nat => a.Tiles.length - i) (0) (by rw [show trimSt a 0 = ([],[]) from rfl];(try simp -implicitDefEqProofs only [nleL_cc,nleL_nn,nle_self,nle_boxs,nle_aggs,nle_nils,and_self,and_true,true_and]) <;> repeat' (first | exact nle_of_eq rfl | exact nle_nil | apply And.intro | apply nle_sl | apply nleLL_cons | apply nleL_cons | exact nleL_nil | exact nleLL_nil | apply nle_box | apply nle_agg)) (?_) ?_
  · exact Nat.zero_le _
  intro i hi;simp -implicitDefEqProofs (disch:=omega) only [go_sem,↓reduceIte ,List.length_map,Int.toNat_natCast,Int.ofNat_lt,Int.natCast_nonneg,List.getElem?_map,Option.map_some];refine cond_split ?_ ?_ <;> intro hlt
  · have hlt : i < a.Tiles.length:=(by simpa using hlt);have e1:=List.getElem?_eq_getElem hlt;have hsd:=okSet_side h hlt;have ht4:=okSet_sides4 h hlt;have hnx:=trimSt_next hlt;obtain ⟨hl1,hl2⟩:=trimTi_len h hi;have hI:=tr_inv h i hi;have hu4 : ∀ u,u ∈ (trimSt a i).1 → u.Sides.length ≤ 1048576:=fun u hu => by obtain ⟨m,hm,rfl⟩:=List.mem_iff_getElem.1 hu;obtain ⟨k,hk,_,he⟩:=hI.fr m hm;rw [he];show (trimSd a a.Tiles[k]).length ≤ _;rw [trimSd_len,okSet_sides4 h hk];omega
    have hT:=v_translated (trimGi a a.Glues.length) (trimSt a i).1 a.Tiles[i] a (by omega) ht4 hsd (by omega);rw [mgS_trim h hlt] at hT;generalize hp : trimSt a i = p at *;obtain ⟨ts,at'⟩:=p;simp only at hl1 hl2 hT hu4;simp -implicitDefEqProofs (disch:=omega) only [go_sem,↓reduceIte ,List.length_map,Int.toNat_natCast,Int.ofNat_lt,Int.natCast_nonneg,List.getElem?_map,Option.map_some,hlt,e1,Tile.td_d];refine call_le (hT) (leL_of_eq (by simp -implicitDefEqProofs (disch:=omega) only [go_sem,↓reduceIte,deep,TD.rows,immLL_rI,immLL_rB8,immLL_rS,immLL_rBo,TileSet.td_d,Tile.td_d])) (by first | exact .inl rfl | exact .inr rfl | exact .inl (by simp only [D.noImm,noImmL,go_sem,TD.nims,TD.nim,nim_rI,nim_rB8,nim_rBo,nim_rS])) ?_;simp -implicitDefEqProofs (disch:=omega) only [go_sem,↓reduceIte];have hF:=v_IndexFunc_Tile 64 [.iptr [.sl false 1 ((trimSd a a.Tiles[i]).map rI)] 0] ⟨rfl,fun _ => rfl,fun _ => rfl,fun _ => rfl⟩ ts (fun u => decide (u.Sides = trimSd a a.Tiles[i])) (fun x hx => v_TrimSet2 x (trimSd a a.Tiles[i]) (hu4 x hx)) (by omega);unfold trimStep at hnx;simp only at hnx;rcases likeI_cases ts (trimSd a a.Tiles[i]) with ⟨n,hn,k1,k2⟩ | ⟨k1,k2⟩
    · have k3 : vIdx (fun u : Tile => decide (u.Sides = trimSd a a.Tiles[i])) ts = (n : Int):=k1;rw [k3] at hF;rw [k1,if_pos (by omega)] at hnx;have d1 : decide ((n : Int) < 0) = false:=(by rw [decide_eq_false_iff_not];omega);refine call_B (hF) (by simp -implicitDefEqProofs (disch:=omega) only [go_sem,↓reduceIte,deep,TD.rows,immLL_rI,immLL_rB8,immLL_rS,immLL_rBo,immLL_rII,immLL_rIIt,d1,wrN,List.length_map];exact rfl) ?_;simp -implicitDefEqProofs (disch:=omega) only [go_sem,↓reduceIte ,d1,wrN,List.length_map];refine ⟨by omega,i + 1,by omega,hlt,?_⟩;rw [hnx];simp only;rw [List.map_append (l₁:=at')]
      (try simp -implicitDefEqProofs only [nleL_cc,nleL_nn,nle_self,nle_boxs,nle_aggs,nle_nils,and_self,and_true,true_and]) <;> repeat' (first | exact nle_of_eq rfl | exact nle_nil | apply And.intro | apply nle_sl | apply nleLL_cons | apply nleL_cons | exact nleL_nil | exact nleLL_nil | apply nle_box | apply nle_agg)
    · have k3 : vIdx (fun u : Tile => decide (u.Sides = trimSd a a.Tiles[i])) ts = -1:=k1;rw [k3] at hF;rw [k1,if_neg (by omega)] at hnx;have d1 : decide ((-1 : Int) < 0) = true:=rfl;refine call_B (hF) (by simp -implicitDefEqProofs (disch:=omega) only [go_sem,↓reduceIte,deep,TD.rows,immLL_rI,immLL_rB8,immLL_rS,immLL_rBo,immLL_rII,immLL_rIIt,d1,wrN,List.length_map];exact rfl) ?_;simp -implicitDefEqProofs (disch:=omega) only [go_sem,↓reduceIte ,d1,wrN,List.length_map];refine ⟨by omega,by omega,i + 1,by omega,hlt,?_⟩;rw [hnx];simp only;rw [List.map_append (l₁:=at'),List.map_append (l₁:=ts)]
      (try simp -implicitDefEqProofs only [nleL_cc,nleL_nn,nle_self,nle_boxs,nle_aggs,nle_nils,and_self,and_true,true_and]) <;> repeat' (first | exact nle_of_eq rfl | exact nle_nil | apply And.intro | apply nle_sl | apply nleLL_cons | apply nleL_cons | exact nleL_nil | exact nleLL_nil | apply nle_box | apply nle_agg)
  obtain rfl : i = a.Tiles.length:=by have : ¬ i < a.Tiles.length:=by simpa using hlt
                                      omega
  simp -implicitDefEqProofs (disch:=omega) only [go_sem,↓reduceIte ,trimR,trimA,trimC,h]
def useT (s : Int) (t : Tile) : Nat:=t.Sides.countP (fun x => decide (x = s))
def useN (ts : List Tile) (s : Int) (i : Nat) : Nat:=((ts.take i).map (useT s)).sum
theorem useN_next {ts : List Tile} {s : Int} {i : Nat} (h : i < ts.length) : useN ts s (i + 1) = useN ts s i + useT s ts[i]:=by unfold useN;rw [List.take_succ_eq_append_getElem h,List.map_append,List.sum_append];simp only [List.map_cons,List.map_nil,List.sum_cons,List.sum_nil,Nat.add_zero]
theorem useN_le {ts : List Tile} {s : Int} (h : ∀ t,t ∈ ts → t.Sides.length = 4) : ∀ i,i ≤ ts.length → useN ts s i ≤ 4 * i
  | 0,_ => by simp [useN]
  | i + 1,hi => by have h1:=useN_le (s:=s) h i (by omega);have h2:=h _ (List.getElem_mem (show i < ts.length by omega));have h3 : useT s ts[i] ≤ ts[i].Sides.length:=List.countP_le_length;rw [useN_next (by omega)];omega
theorem useN_has {ts : List Tile} {s : Int} : decide ((0 : Int) < (useN ts s ts.length : Int)) = hasS ts s:=by
  have h : ∀ ts : List Tile,0 < (ts.map (useT s)).sum ↔ hasS ts s = true:=fun ts => by
    induction ts with
    | nil => simp [hasS]
    | cons t ts ih => have hc : hasS (t :: ts) s = (t.Sides.any (fun x => decide (x = s)) || hasS ts s):=(by simp [hasS]);have hp : 0 < useT s t ↔ t.Sides.any (fun x => decide (x = s)) = true:=(by unfold useT;rw [List.countP_pos_iff,List.any_eq_true]);rw [hc,List.map_cons,List.sum_cons,Bool.or_eq_true,← ih,← hp];omega
  rw [Bool.eq_iff_iff,decide_eq_true_eq,← h ts];unfold useN;rw [List.take_length];omega
def code_spec_l02Uses : VCode:=(.seq (.ops [
  ⟨(some 4),none,(.asg (.const (.int .i64 0)))⟩]) (.seq (.ops [
  ⟨(some 5),none,(.asg (.const (.int .i64 0)))⟩]) (.seq (.seq (.ops [
  ⟨(some 6),none,(.asg (.const (.int .i64 0)))⟩]) (.block 0 (.loop (mB 37 137438953372) (.seq (.seq (.ops [
  ⟨(some 8),none,(.mv (.tmp 6))⟩,
  ⟨(some 9),none,(.mv (.tmp 0))⟩,
  ⟨(some 10),none,(.nilc (.tmp 9))⟩,
  ⟨(some 11),none,(.fa 1 (.tmp 10))⟩,
  ⟨(some 12),none,(.load 1 false (.tmp 11))⟩,
  ⟨(some 13),none,(.len (.tmp 12))⟩,
  ⟨(some 14),none,(.bin .lss (.tmp 8) (.tmp 13))⟩]) (.cond (.tmp 14) .skip (.exit 0))) (.seq (.block 1 (.seq (.ops [
  ⟨(some 7),none,(.asg (.const (.int .i64 0)))⟩]) (.block 2 (.loop (mB 37 137438953244) (.seq (.seq (.ops [
  ⟨(some 17),none,(.mv (.tmp 7))⟩,
  ⟨(some 18),none,(.bin .lss (.tmp 17) (.const (.int .i64 4)))⟩]) (.cond (.tmp 18) .skip (.exit 2))) (.seq (.block 3 (.seq (.ops [
  ⟨(some 21),none,(.mv (.tmp 0))⟩,
  ⟨(some 22),none,(.nilc (.tmp 21))⟩,
  ⟨(some 23),none,(.fa 1 (.tmp 22))⟩,
  ⟨(some 24),none,(.load 1 false (.tmp 23))⟩,
  ⟨(some 25),none,(.mv (.tmp 6))⟩,
  ⟨(some 26),none,(.ia 2 (.tmp 24) (.tmp 25))⟩,
  ⟨(some 27),none,(.fa 1 (.tmp 26))⟩,
  ⟨(some 28),none,(.load 1 false (.tmp 27))⟩,
  ⟨(some 29),none,(.mv (.tmp 7))⟩,
  ⟨(some 30),none,(.ia 1 (.tmp 28) (.tmp 29))⟩,
  ⟨(some 31),none,(.load 1 false (.tmp 30))⟩,
  ⟨(some 32),none,(.mv (.tmp 1))⟩,
  ⟨(some 33),none,(.bin .eql (.tmp 31) (.tmp 32))⟩]) (.cond (.tmp 33) (.ops [
  ⟨(some 34),none,(.mv (.tmp 5))⟩,
  ⟨(some 35),none,(.bin .add (.tmp 34) (.const (.int .i64 1)))⟩,
  ⟨(some 5),none,(.asg (.tmp 35))⟩]) .skip))) (.ops [
  ⟨(some 19),none,(.mv (.tmp 7))⟩,
  ⟨(some 20),none,(.bin .add (.tmp 19) (.const (.int .i64 1)))⟩,
  ⟨(some 7),none,(.asg (.tmp 20))⟩]))))))) (.ops [
  ⟨(some 15),none,(.mv (.tmp 6))⟩,
  ⟨(some 16),none,(.bin .add (.tmp 15) (.const (.int .i64 1)))⟩,
  ⟨(some 6),none,(.asg (.tmp 16))⟩])))))) (.seq (.ops [
  ⟨(some 36),none,(.mv (.tmp 5))⟩,
  ⟨(some 4),none,(.asg (.tmp 36))⟩]) .ret))))
theorem law_spec_l02Uses {a0 a1 d : D} (h : code_spec_l02Uses.wp (CT Try.prog NoG) (endQ [(.t 4)] d) [a0,a1,.undef,.undef,.undef,.undef,.undef,.undef,.undef,.undef,.undef,.undef,.undef,.undef,.undef,.undef,.undef,.undef,.undef,.undef,.undef,.undef,.undef,.undef,.undef,.undef,.undef,.undef,.undef,.undef,.undef,.undef,.undef,.undef,.undef,.undef,.undef]) : Contract Try.prog NoG 66 [a0,a1] d :=
  contract_of (pt:=0) noG Try.func66 (fun us W => by kernel_rfl) (c:=Try.f66.body.getD .skip) (ms:=[(mB 37 137438953372),(mB 37 137438953244)]) (ms':=[]) (by kernel_rfl) (by kernel_rfl) (by kernel_rfl) h
set_option maxHeartbeats 1000000 in
theorem v_l02Uses (a : TileSet) (s : Int) (h : okSet a = true) : Contract Try.prog NoG 66 [.iptr (TileSet.td.d false a) 0,.v (.int .i64 s)] (.v (.int .i64 (useN a.Tiles s a.Tiles.length : Nat))):=by
  have hbd:=okSet_bd h;have h4 : ∀ t,t ∈ a.Tiles → t.Sides.length = 4:=fun t ht => by obtain ⟨i,hi,rfl⟩:=List.mem_iff_getElem.1 ht;exact okSet_sides4 h hi
  rw [TileSet.td_d];refine law_spec_l02Uses ?_;unfold code_spec_l02Uses;simp -implicitDefEqProofs (disch:=omega) only [go_sem,↓reduceIte];refine loop_ov (by simp -implicitDefEqProofs (disch:=omega) only [go_sem,↓reduceIte];exact rfl) (fun i : Nat => [(5,.v (.int .i64 (useN a.Tiles s i : Nat))),(6,.v (.int .i64 (i : Nat)))]) (fun _ => by simp only [ovr_nil,ovr_cons,List.set_cons_zero,List.set_cons_succ];exact rfl) (fun i : Nat => i ≤ a.Tiles.length) (fun i : Nat => a.Tiles.length - i) (0) (nleA) (?_) ?_
  · exact Nat.zero_le _
  intro i hi;simp -implicitDefEqProofs (disch:=omega) only [go_sem,↓reduceIte ,List.length_map,Int.toNat_natCast,Int.ofNat_lt,Int.natCast_nonneg,List.getElem?_map,Option.map_some];refine cond_split ?_ ?_ <;> intro hlt
  · have hlt : i < a.Tiles.length:=(by simpa using hlt);have e1:=List.getElem?_eq_getElem hlt;have hl4:=h4 _ (List.getElem_mem hlt);have hu:=useN_le (s:=s) h4 i hi;simp -implicitDefEqProofs (disch:=omega) only [go_sem,↓reduceIte];refine loop_ov (by simp -implicitDefEqProofs (disch:=omega) only [go_sem,↓reduceIte];exact rfl) (fun k : Nat => [(5,.v (.int .i64 ((useN a.Tiles s i + (a.Tiles[i].Sides.take k).countP (fun x => decide (x = s)) : Nat) : Int))),(7,.v (.int .i64 (k : Nat)))]) (fun _ => by simp only [ovr_nil,ovr_cons,List.set_cons_zero,List.set_cons_succ];exact rfl) (fun k : Nat => k ≤ 4) (fun k : Nat => 4 - k) (0) (nleA) (?_) ?_
    · exact Nat.zero_le _
    intro k hk;simp -implicitDefEqProofs (disch:=omega) only [go_sem,↓reduceIte];refine cond_split ?_ ?_ <;> intro hlk
    · have hlk : k < 4:=(by have:=of_decide_eq_true hlk;omega);have hlk2 : k < a.Tiles[i].Sides.length:=(by omega);have e2:=List.getElem?_eq_getElem hlk2;have hc : (a.Tiles[i].Sides.take k).countP (fun x => decide (x = s)) ≤ 4:=Nat.le_trans List.countP_le_length (by rw [List.length_take];omega);have hnx : (a.Tiles[i].Sides.take (k + 1)).countP (fun x => decide (x = s)) = (a.Tiles[i].Sides.take k).countP (fun x => decide (x = s)) + if a.Tiles[i].Sides[k] = s then 1 else 0:=by rw [List.take_succ_eq_append_getElem hlk2,List.countP_append];simp [List.countP_cons]
      cases hq : decide (a.Tiles[i].Sides[k] = s) with
      | true => have hw : IntKind.i64.wrap (((useN a.Tiles s i + (a.Tiles[i].Sides.take k).countP (fun x => decide (x = s)) : Nat) : Int) + 1) = ((useN a.Tiles s i + (a.Tiles[i].Sides.take (k + 1)).countP (fun x => decide (x = s)) : Nat) : Int):=(by rw [hnx,if_pos (of_decide_eq_true hq),wrI (by omega) (by omega)];omega);simp -implicitDefEqProofs (disch:=omega) only [go_sem,↓reduceIte ,List.length_map,Int.toNat_natCast,Int.ofNat_lt,Int.natCast_nonneg,List.getElem?_map,Option.map_some,hlt,e1,Tile.td_d,hlk2,e2,rI,hq,hw,wrN];exact ⟨k + 1,by omega,hlk,nleA⟩
      | false =>
        rw [if_neg (of_decide_eq_false hq),Nat.add_zero] at hnx;simp -implicitDefEqProofs (disch:=omega) only [go_sem,↓reduceIte ,List.length_map,Int.toNat_natCast,Int.ofNat_lt,Int.natCast_nonneg,List.getElem?_map,Option.map_some,hlt,e1,Tile.td_d,hlk2,e2,rI,hq,wrN];refine ⟨k + 1,by omega,hlk,?_⟩;rw [hnx]
        (try simp -implicitDefEqProofs only [nleL_cc,nleL_nn,nle_self,nle_boxs,nle_aggs,nle_nils,and_self,and_true,true_and]) <;> repeat' (first | exact nle_of_eq rfl | exact nle_nil | apply And.intro | apply nle_sl | apply nleLL_cons | apply nleL_cons | exact nleL_nil | exact nleLL_nil | apply nle_box | apply nle_agg)
    · obtain rfl : k = 4:=(by have:=of_decide_eq_false hlk;omega);have hnx : useN a.Tiles s (i + 1) = useN a.Tiles s i + (a.Tiles[i].Sides.take 4).countP (fun x => decide (x = s)):=(by rw [useN_next hlt];unfold useT;rw [← hl4,List.take_length]);simp -implicitDefEqProofs (disch:=omega) only [go_sem,↓reduceIte ,wrN];refine ⟨i + 1,by omega,hlt,?_⟩;rw [hnx]
      (try simp -implicitDefEqProofs only [nleL_cc,nleL_nn,nle_self,nle_boxs,nle_aggs,nle_nils,and_self,and_true,true_and]) <;> repeat' (first | exact nle_of_eq rfl | exact nle_nil | apply And.intro | apply nle_sl | apply nleLL_cons | apply nleL_cons | exact nleL_nil | exact nleLL_nil | apply nle_box | apply nle_agg)
  · obtain rfl : i = a.Tiles.length:=(by have : ¬ i < a.Tiles.length:=(by simpa using hlt);omega);simp -implicitDefEqProofs (disch:=omega) only [go_sem,↓reduceIte]
theorem trimTi_len' {a : TileSet} (h : okSet a = true) {i : Nat} (hi : i ≤ a.Tiles.length) : (trimSt a i).1.length ≤ i ∧ (trimSt a i).2.length = i:=⟨(tr_inv h i hi).le,(tr_inv h i hi).len⟩
theorem nowT_atI (a : TileSet) {g : Int} (h0 : 0 ≤ g) (h1 : g ≤ a.Glues.length) : (nowT a a.Glues.length)[g.toNat]? = some (nowS a g):=by
  obtain ⟨n,rfl⟩ : ∃ n : Nat,g = (n : Int):=⟨g.toNat,by omega⟩
  rw [Int.toNat_natCast];exact nowT_at (by omega) (by omega)
theorem likeI_next {ts : List Tile} {sd : List Int} {k : Nat} (hk : k < ts.length) (h : likeI (ts.take k) sd < 0) : likeI (ts.take (k + 1)) sd = if ts[k].Sides = sd then (k : Int) else -1:=by
  rw [List.take_succ_eq_append_getElem hk];have h1:=vIdx_ge (fun u : Tile => decide (u.Sides = sd)) (ts.take k);split
  · rename_i hs;have:=vIdx_app_miss (fun u : Tile => decide (u.Sides = sd)) ts[k] [] (by simpa using hs) (ts.take k) h;unfold likeI;rw [this,List.length_take];omega
  · rename_i hs;rcases likeI_cases (ts.take k ++ [ts[k]]) sd with ⟨n,hn,e1,e2⟩ | ⟨e1,_⟩
    · exfalso;have hn2 : n < k ∨ n = k:=by simp only [List.length_append,List.length_take,List.length_cons,List.length_nil] at hn;omega
      rcases likeI_cases (ts.take k) sd with ⟨m,hm,f1,f2⟩ | ⟨f1,f2⟩
      · omega
      · rcases hn2 with h3 | rfl
        · have hl : n < (ts.take k).length:=(by rw [List.length_take];omega);rw [List.getElem_append_left hl] at e2;exact f2 _ (List.getElem_mem hl) e2
        · rw [List.getElem_append_right (by rw [List.length_take];omega)] at e2;simp only [List.getElem_singleton] at e2;exact hs e2
    · exact e1
theorem likeI_hit {ts : List Tile} {sd : List Int} {k : Nat} (h : 0 ≤ likeI (ts.take k) sd) : likeI (ts.take k) sd = likeI ts sd:=by have:=vIdx_app_hit (fun u : Tile => decide (u.Sides = sd)) (ts.drop k) (ts.take k) h;rw [List.take_append_drop] at this;exact this.symm
theorem trimSd_next (a : TileSet) {s : List Int} {k : Nat} (h : k < s.length) : (s.take (k + 1)).map (nowS a) = (s.take k).map (nowS a) ++ [nowS a s[k]]:=by rw [List.take_succ_eq_append_getElem h,List.map_append];rfl
def code_spec_TrimSet : VCode:=(.seq (.ops [
  ⟨(some 1),none,(.box (.tmp 0))⟩,
  ⟨(some 2),none,(.alloc [(.slice none 0 0),(.slice none 0 0)])⟩,
  ⟨(some 3),none,(.asg (.const (.slice none 0 0)))⟩,
  ⟨(some 4),none,(.asg (.const (.int .i64 0)))⟩]) (.seq (.seq (.ops [
  ⟨(some 14),none,(.callX 34 [(.tmp 1)])⟩,
  ⟨(some 15),none,(.un .not (.tmp 14))⟩]) (.cond (.tmp 15) (.seq (.ops [
  ⟨(some 16),none,(.build [(.slice none 0 0),(.slice none 0 0)] [])⟩,
  ⟨none,none,(.store 2 (.tmp 2) (.tmp 16))⟩,
  ⟨(some 3),none,(.asg (.const (.slice none 0 0)))⟩,
  ⟨(some 4),none,(.asg (.const (.int .i64 1)))⟩]) .ret) .skip)) (.seq (.ops [
  ⟨(some 17),none,(.build [(.slice none 0 0),(.slice none 0 0)] [])⟩,
  ⟨(some 5),none,(.alloc [(.slice none 0 0),(.slice none 0 0)])⟩,
  ⟨none,none,(.store 2 (.tmp 5) (.tmp 17))⟩]) (.seq (.ops [
  ⟨(some 18),none,(.fa 0 (.tmp 1))⟩,
  ⟨(some 19),none,(.load 1 false (.tmp 18))⟩,
  ⟨(some 20),none,(.len (.tmp 19))⟩,
  ⟨(some 21),none,(.bin .add (.tmp 20) (.const (.int .i64 1)))⟩,
  ⟨(some 22),none,(.mks 1 8 [(.int .i64 0)] (.tmp 21) (.tmp 21))⟩,
  ⟨(some 6),none,(.asg (.tmp 22))⟩]) (.seq (.seq (.ops [
  ⟨(some 7),none,(.asg (.const (.int .i64 0)))⟩]) (.block 0 (.loop (mB 123 10633823966279326983230456482238562073) (.seq (.seq (.ops [
  ⟨(some 23),none,(.mv (.tmp 7))⟩,
  ⟨(some 24),none,(.fa 0 (.tmp 1))⟩,
  ⟨(some 25),none,(.load 1 false (.tmp 24))⟩,
  ⟨(some 26),none,(.len (.tmp 25))⟩,
  ⟨(some 27),none,(.bin .lss (.tmp 23) (.tmp 26))⟩]) (.cond (.tmp 27) .skip (.exit 0))) (.seq (.block 1 (.seq (.ops [
  ⟨(some 30),none,(.mv (.tmp 7))⟩,
  ⟨(some 31),none,(.bin .add (.tmp 30) (.const (.int .i64 1)))⟩,
  ⟨(some 32),none,(.callX 66 [(.tmp 1),(.tmp 31)])⟩,
  ⟨(some 33),none,(.bin .gtr (.tmp 32) (.const (.int .i64 0)))⟩]) (.cond (.tmp 33) (.seq (.draw (mB 42 4380866641920) (mB 41 1099511627776) [⟨0,(mB 42 4380866641920),[],⟨(some 34),none,(.fa 0 (.tmp 5))⟩⟩,⟨1,(mB 42 4363686772736),[],⟨(some 35),none,(.load 1 false (.tmp 34))⟩⟩,⟨2,(mB 42 4380866641920),[],⟨(some 36),none,(.fa 0 (.tmp 1))⟩⟩,⟨3,(mB 42 4312147165184),[],⟨(some 37),none,(.load 1 false (.tmp 36))⟩⟩,⟨4,(mB 42 4380866641920),[],⟨(some 38),none,(.mv (.tmp 7))⟩⟩,⟨5,(mB 42 3899830304768),[],⟨(some 39),none,(.ia 2 (.tmp 37) (.tmp 38))⟩⟩,⟨6,(mB 42 3350074490880),[],⟨(some 40),none,(.load 2 true (.tmp 39))⟩⟩,⟨7,(mB 42 2250562863104),(mB 41 1099511627776),⟨(some 41),none,(.bslN 2 [(.tmp 40)])⟩⟩] [⟨(some 42),none,(.app 2 24 (.tmp 35) (.tmp 41))⟩,⟨(some 43),none,(.fa 0 (.tmp 5))⟩,⟨none,none,(.store 1 (.tmp 43) (.tmp 42))⟩]) (.ops [
  ⟨(some 44),none,(.mv (.tmp 6))⟩,
  ⟨(some 45),none,(.mv (.tmp 7))⟩,
  ⟨(some 46),none,(.bin .add (.tmp 45) (.const (.int .i64 1)))⟩,
  ⟨(some 47),none,(.fa 0 (.tmp 5))⟩,
  ⟨(some 48),none,(.load 1 false (.tmp 47))⟩,
  ⟨(some 49),none,(.len (.tmp 48))⟩,
  ⟨(some 50),none,(.ia 1 (.tmp 44) (.tmp 46))⟩,
  ⟨none,none,(.store 1 (.tmp 50) (.tmp 49))⟩])) .skip))) (.ops [
  ⟨(some 28),none,(.mv (.tmp 7))⟩,
  ⟨(some 29),none,(.bin .add (.tmp 28) (.const (.int .i64 1)))⟩,
  ⟨(some 7),none,(.asg (.tmp 29))⟩])))))) (.seq (.ops [
  ⟨(some 51),none,(.bsl 1 [])⟩,
  ⟨(some 8),none,(.asg (.tmp 51))⟩]) (.seq (.seq (.ops [
  ⟨(some 9),none,(.asg (.const (.int .i64 0)))⟩]) (.block 2 (.loop (mB 123 8473828473128838689759518209469316249) (.seq (.seq (.ops [
  ⟨(some 52),none,(.mv (.tmp 9))⟩,
  ⟨(some 53),none,(.fa 1 (.tmp 1))⟩,
  ⟨(some 54),none,(.load 1 false (.tmp 53))⟩,
  ⟨(some 55),none,(.len (.tmp 54))⟩,
  ⟨(some 56),none,(.bin .lss (.tmp 52) (.tmp 55))⟩]) (.cond (.tmp 56) .skip (.exit 2))) (.seq (.block 3 (.seq (.ops [
  ⟨(some 59),none,(.bsl 1 [])⟩,
  ⟨(some 10),none,(.asg (.tmp 59))⟩]) (.seq (.seq (.ops [
  ⟨(some 11),none,(.asg (.const (.int .i64 0)))⟩]) (.block 4 (.loop (mB 123 8473828473128385323553957897515823257) (.seq (.seq (.ops [
  ⟨(some 60),none,(.mv (.tmp 11))⟩,
  ⟨(some 61),none,(.bin .lss (.tmp 60) (.const (.int .i64 4)))⟩]) (.cond (.tmp 61) .skip (.exit 4))) (.seq (.block 5 (.ops [
  ⟨(some 64),none,(.mv (.tmp 10))⟩,
  ⟨(some 65),none,(.mv (.tmp 6))⟩,
  ⟨(some 66),none,(.fa 1 (.tmp 1))⟩,
  ⟨(some 67),none,(.load 1 false (.tmp 66))⟩,
  ⟨(some 68),none,(.mv (.tmp 9))⟩,
  ⟨(some 69),none,(.ia 2 (.tmp 67) (.tmp 68))⟩,
  ⟨(some 70),none,(.fa 1 (.tmp 69))⟩,
  ⟨(some 71),none,(.load 1 false (.tmp 70))⟩,
  ⟨(some 72),none,(.mv (.tmp 11))⟩,
  ⟨(some 73),none,(.ia 1 (.tmp 71) (.tmp 72))⟩,
  ⟨(some 74),none,(.load 1 false (.tmp 73))⟩,
  ⟨(some 75),none,(.ia 1 (.tmp 65) (.tmp 74))⟩,
  ⟨(some 76),none,(.load 1 false (.tmp 75))⟩,
  ⟨(some 77),none,(.bsl 1 [(.tmp 76)])⟩,
  ⟨(some 78),none,(.app 1 8 (.tmp 64) (.tmp 77))⟩,
  ⟨(some 10),none,(.asg (.tmp 78))⟩])) (.ops [
  ⟨(some 62),none,(.mv (.tmp 11))⟩,
  ⟨(some 63),none,(.bin .add (.tmp 62) (.const (.int .i64 1)))⟩,
  ⟨(some 11),none,(.asg (.tmp 63))⟩])))))) (.seq (.ops [
  ⟨(some 12),none,(.asg (.const (.int .i64 (-1))))⟩]) (.seq (.seq (.ops [
  ⟨(some 13),none,(.asg (.const (.int .i64 0)))⟩]) (.block 6 (.loop (mB 123 8473828473128385323553957897515813017) (.seq (.seq (.ops [
  ⟨(some 79),none,(.mv (.tmp 13))⟩,
  ⟨(some 80),none,(.fa 1 (.tmp 5))⟩,
  ⟨(some 81),none,(.load 1 false (.tmp 80))⟩,
  ⟨(some 82),none,(.len (.tmp 81))⟩,
  ⟨(some 83),none,(.bin .lss (.tmp 79) (.tmp 82))⟩,
  ⟨(some 84),none,(.mv (.tmp 83))⟩,
  ⟨(some 85),(some (84,true)),(.mv (.tmp 12))⟩,
  ⟨(some 86),(some (84,true)),(.bin .lss (.tmp 85) (.const (.int .i64 0)))⟩,
  ⟨(some 87),none,(.pick (.tmp 84) (.tmp 86) (.const (.bool false)))⟩]) (.cond (.tmp 87) .skip (.exit 6))) (.seq (.block 7 (.seq (.ops [
  ⟨(some 90),none,(.fa 1 (.tmp 5))⟩,
  ⟨(some 91),none,(.load 1 false (.tmp 90))⟩,
  ⟨(some 92),none,(.mv (.tmp 13))⟩,
  ⟨(some 93),none,(.ia 2 (.tmp 91) (.tmp 92))⟩,
  ⟨(some 94),none,(.fa 1 (.tmp 93))⟩,
  ⟨(some 95),none,(.load 1 false (.tmp 94))⟩,
  ⟨(some 96),none,(.mv (.tmp 10))⟩,
  ⟨(some 97),none,(.callX 67 [(.tmp 95),(.tmp 96)])⟩]) (.cond (.tmp 97) (.ops [
  ⟨(some 98),none,(.mv (.tmp 13))⟩,
  ⟨(some 12),none,(.asg (.tmp 98))⟩]) .skip))) (.ops [
  ⟨(some 88),none,(.mv (.tmp 13))⟩,
  ⟨(some 89),none,(.bin .add (.tmp 88) (.const (.int .i64 1)))⟩,
  ⟨(some 13),none,(.asg (.tmp 89))⟩])))))) (.seq (.seq (.ops [
  ⟨(some 99),none,(.mv (.tmp 12))⟩,
  ⟨(some 100),none,(.bin .lss (.tmp 99) (.const (.int .i64 0)))⟩]) (.cond (.tmp 100) (.seq (.ops [
  ⟨(some 101),none,(.fa 1 (.tmp 5))⟩,
  ⟨(some 102),none,(.load 1 false (.tmp 101))⟩,
  ⟨(some 103),none,(.len (.tmp 102))⟩,
  ⟨(some 12),none,(.asg (.tmp 103))⟩]) (.drawT (.h 0 ⟨(some 104),none,(.fa 1 (.tmp 5))⟩ (.h 2 ⟨(some 106),none,(.fa 1 (.tmp 1))⟩ (.h 4 ⟨(some 108),none,(.mv (.tmp 9))⟩ (.h 8 ⟨(some 112),none,(.mv (.tmp 10))⟩ (.br 1 ⟨(some 105),none,(.load 1 false (.tmp 104))⟩ (.br 3 ⟨(some 107),none,(.load 1 false (.tmp 106))⟩ (.h 5 ⟨(some 109),none,(.ia 2 (.tmp 107) (.tmp 108))⟩ (.h 6 ⟨(some 110),none,(.fa 0 (.tmp 109))⟩ (.br 7 ⟨(some 111),none,(.load 1 false (.tmp 110))⟩ (.br 9 ⟨(some 113),none,(.build [(.string ⟨⟨[]⟩⟩),(.slice none 0 0)] [(0,1,(.tmp 111)),(1,1,(.tmp 112))])⟩ (.br 10 ⟨(some 114),none,(.bsl 2 [(.tmp 113)])⟩ .done .nil) .nil) .nil))) .nil) (.br 3 ⟨(some 107),none,(.load 1 false (.tmp 106))⟩ (.h 5 ⟨(some 109),none,(.ia 2 (.tmp 107) (.tmp 108))⟩ (.h 6 ⟨(some 110),none,(.fa 0 (.tmp 109))⟩ (.br 1 ⟨(some 105),none,(.load 1 false (.tmp 104))⟩ (.br 7 ⟨(some 111),none,(.load 1 false (.tmp 110))⟩ (.br 9 ⟨(some 113),none,(.build [(.string ⟨⟨[]⟩⟩),(.slice none 0 0)] [(0,1,(.tmp 111)),(1,1,(.tmp 112))])⟩ (.br 10 ⟨(some 114),none,(.bsl 2 [(.tmp 113)])⟩ .done .nil) .nil) .nil) (.br 7 ⟨(some 111),none,(.load 1 false (.tmp 110))⟩ (.br 1 ⟨(some 105),none,(.load 1 false (.tmp 104))⟩ (.br 9 ⟨(some 113),none,(.build [(.string ⟨⟨[]⟩⟩),(.slice none 0 0)] [(0,1,(.tmp 111)),(1,1,(.tmp 112))])⟩ (.br 10 ⟨(some 114),none,(.bsl 2 [(.tmp 113)])⟩ .done .nil) .nil) (.br 9 ⟨(some 113),none,(.build [(.string ⟨⟨[]⟩⟩),(.slice none 0 0)] [(0,1,(.tmp 111)),(1,1,(.tmp 112))])⟩ (.br 1 ⟨(some 105),none,(.load 1 false (.tmp 104))⟩ (.br 10 ⟨(some 114),none,(.bsl 2 [(.tmp 113)])⟩ .done .nil) (.br 10 ⟨(some 114),none,(.bsl 2 [(.tmp 113)])⟩ (.br 1 ⟨(some 105),none,(.load 1 false (.tmp 104))⟩ .done .nil) .nil)) .nil)) .nil)))) .nil)))))) [⟨(some 115),none,(.app 2 40 (.tmp 105) (.tmp 114))⟩,⟨(some 116),none,(.fa 1 (.tmp 5))⟩,⟨none,none,(.store 1 (.tmp 116) (.tmp 115))⟩])) .skip)) (.ops [
  ⟨(some 117),none,(.mv (.tmp 8))⟩,
  ⟨(some 118),none,(.mv (.tmp 12))⟩,
  ⟨(some 119),none,(.bsl 1 [(.tmp 118)])⟩,
  ⟨(some 120),none,(.app 1 8 (.tmp 117) (.tmp 119))⟩,
  ⟨(some 8),none,(.asg (.tmp 120))⟩]))))))) (.ops [
  ⟨(some 57),none,(.mv (.tmp 9))⟩,
  ⟨(some 58),none,(.bin .add (.tmp 57) (.const (.int .i64 1)))⟩,
  ⟨(some 9),none,(.asg (.tmp 58))⟩])))))) (.seq (.ops [
  ⟨(some 121),none,(.load 2 true (.tmp 5))⟩,
  ⟨(some 122),none,(.mv (.tmp 8))⟩,
  ⟨none,none,(.store 2 (.tmp 2) (.tmp 121))⟩,
  ⟨(some 3),none,(.asg (.tmp 122))⟩,
  ⟨(some 4),none,(.asg (.const (.int .i64 0)))⟩]) .ret))))))))
theorem law_spec_TrimSet {a0 d : D} (h : code_spec_TrimSet.wp (CT Try.prog NoG) (endQ [(.c 2 2 true),(.t 3),(.t 4)] d) [a0,.undef,.undef,.undef,.undef,.undef,.undef,.undef,.undef,.undef,.undef,.undef,.undef,.undef,.undef,.undef,.undef,.undef,.undef,.undef,.undef,.undef,.undef,.undef,.undef,.undef,.undef,.undef,.undef,.undef,.undef,.undef,.undef,.undef,.undef,.undef,.undef,.undef,.undef,.undef,.undef,.undef,.undef,.undef,.undef,.undef,.undef,.undef,.undef,.undef,.undef,.undef,.undef,.undef,.undef,.undef,.undef,.undef,.undef,.undef,.undef,.undef,.undef,.undef,.undef,.undef,.undef,.undef,.undef,.undef,.undef,.undef,.undef,.undef,.undef,.undef,.undef,.undef,.undef,.undef,.undef,.undef,.undef,.undef,.undef,.undef,.undef,.undef,.undef,.undef,.undef,.undef,.undef,.undef,.undef,.undef,.undef,.undef,.undef,.undef,.undef,.undef,.undef,.undef,.undef,.undef,.undef,.undef,.undef,.undef,.undef,.undef,.undef,.undef,.undef,.undef,.undef,.undef,.undef,.undef,.undef,.undef,.undef]) : Contract Try.prog NoG 25 [a0] d :=
  contract_of (pt:=216172782113783808) noG Try.func25 (fun us W => by kernel_rfl) (c:=Try.f25.body.getD .skip) (ms:=[(mB 123 10633823966279326983230456482238562073),(mB 123 8473828473128838689759518209469316249),(mB 123 8473828473128385323553957897515823257),(mB 123 8473828473128385323553957897515813017)]) (ms':=[]) (by kernel_rfl) (by kernel_rfl) (by kernel_rfl) h
set_option maxHeartbeats 4000000 in
theorem vTrimSet_spec (a : TileSet) (hB : setB a) : Contract Try.prog NoG 25 [.agg (TileSet.td.d false a)] (.tup [.agg (TileSet.td.d true (trimR a)),.sl true 1 ((trimA a).map rI),.v (.int .i64 (trimC a))]):=by
  rw [TileSet.td_d,TileSet.td_d];refine law_spec_TrimSet ?_;unfold code_spec_TrimSet;simp -implicitDefEqProofs (disch:=omega) only [go_sem,↓reduceIte];cases h : okSet a with
  | false => refine call_B (v_l02Ok a hB) (by simp -implicitDefEqProofs (disch:=omega) only [go_sem,↓reduceIte,deep,TD.rows,immLL_rI,immLL_rB8,immLL_rS,immLL_rBo,immLL_rII,immLL_rIIt,h,trimR,trimA,trimC];exact rfl) ?_;simp -implicitDefEqProofs (disch:=omega) only [go_sem,↓reduceIte ,h,trimR,trimA,trimC]
  | true =>
  have l:=okSet_len h;have hw0 : IntKind.i64.wrap ((a.Glues.length : Int) + 1) = ((a.Glues.length + 1 : Nat) : Int):=(by rw [wrI (by omega) (by omega)];omega);refine call_B (v_l02Ok a hB) (by simp -implicitDefEqProofs (disch:=omega) only [go_sem,↓reduceIte,deep,TD.rows,immLL_rI,immLL_rB8,immLL_rS,immLL_rBo,immLL_rII,immLL_rIIt,h,hw0,List.length_map];exact rfl) ?_;simp -implicitDefEqProofs (disch:=omega) only [go_sem,↓reduceIte ,h,hw0,List.length_map]
  repeat (refine And.intro (by first | omega | decide) ?_)
  refine loop_ov (by simp -implicitDefEqProofs (disch:=omega) only [go_sem,↓reduceIte];exact rfl) (fun i : Nat => [(5,.box none [.sl true 2 ((trimGi a i).map (Glue.td.d true)),.sl true 2 (([] : List Tile).map (Tile.td.d true))]),(6,.sl true 1 ((nowT a i).map rI)),(7,.v (.int .i64 (i : Nat)))]) (fun _ => by simp only [ovr_nil,ovr_cons,List.set_cons_zero,List.set_cons_succ];exact rfl) (fun i : Nat => i ≤ a.Glues.length) (fun i : Nat => a.Glues.length - i) (0) (by rw [show trimGi a 0 = [] from rfl,nowT_zero,List.map_replicate];(try simp -implicitDefEqProofs only [nleL_cc,nleL_nn,nle_self,nle_boxs,nle_aggs,nle_nils,and_self,and_true,true_and]) <;> repeat' (first | exact nle_of_eq rfl | exact nle_nil | apply And.intro | apply nle_sl | apply nleLL_cons | apply nleL_cons | exact nleL_nil | exact nleLL_nil | apply nle_box | apply nle_agg)) (?_) ?_
  · exact Nat.zero_le _
  intro i hi;simp -implicitDefEqProofs (disch:=omega) only [go_sem,↓reduceIte ,List.length_map,Int.toNat_natCast,Int.ofNat_lt,Int.natCast_nonneg,List.getElem?_map,Option.map_some];refine cond_split ?_ ?_ <;> intro hlt
  · have hlt : i < a.Glues.length:=(by simpa using hlt);have e1:=List.getElem?_eq_getElem hlt;have hng:=trimGi_next hlt;have hgl:=trimGi_len a i;have hU:=v_l02Uses a ((i : Int) + 1) h;have hh0:=useN_has (ts:=a.Tiles) (s:=(i : Int) + 1);have hwi : IntKind.i64.wrap ((i : Int) + 1) = (i : Int) + 1:=wrI (by omega) (by omega);have e3:=List.getElem?_eq_getElem (l:=nowT a i) (i:=i + 1) (by rw [nowT_len];omega);generalize hun : useN a.Tiles ((i : Int) + 1) a.Tiles.length = un at hU hh0;simp -implicitDefEqProofs (disch:=omega) only [go_sem,↓reduceIte ,hwi];cases hh : hasS a.Tiles ((i : Int) + 1) with
    | true =>
      rw [hh] at hh0;rw [hh,if_pos rfl] at hng;have hset : ((nowT a i).map rI).set (i + 1) [.v (.int .i64 (((trimGi a i).length + 1 : Nat) : Int))] = (nowT a (i + 1)).map rI:=by rw [← nowT_set hlt,nowS_hit hlt hh,List.map_set]
      have hwj : IntKind.i64.wrap ((i : Int) + 1) = ((i + 1 : Nat) : Int):=(by rw [wrI (by omega) (by omega)];omega);have din : i + 1 < a.Glues.length + 1:=(by omega);refine call_B (hU) (by simp -implicitDefEqProofs (disch:=omega) only [go_sem,↓reduceIte,deep,TD.rows,immLL_rI,immLL_rB8,immLL_rS,immLL_rBo,immLL_rII,immLL_rIIt,hh0,List.length_map,Int.toNat_natCast,Int.ofNat_lt,Int.natCast_nonneg,List.getElem?_map,Option.map_some,hlt,e1,Glue.td_d,hwj,nowT_len,List.length_append,List.length_cons,List.length_nil,din,e3,hset];exact rfl) ?_;simp -implicitDefEqProofs (disch:=omega) only [go_sem,↓reduceIte ,hh0,List.length_map,Int.toNat_natCast,Int.ofNat_lt,Int.natCast_nonneg,List.getElem?_map,Option.map_some,hlt,e1,Glue.td_d,hwj,nowT_len,List.length_append,List.length_cons,List.length_nil,din,e3,hset];refine ⟨by omega,i + 1,by omega,hlt,?_⟩;rw [hng,List.map_append (l₂:=[a.Glues[i]])]
      (try simp -implicitDefEqProofs only [nleL_cc,nleL_nn,nle_self,nle_boxs,nle_aggs,nle_nils,and_self,and_true,true_and]) <;> repeat' (first | exact nle_of_eq rfl | exact nle_nil | apply And.intro | apply nle_sl | apply nleLL_cons | apply nleL_cons | exact nleL_nil | exact nleLL_nil | apply nle_box | apply nle_agg)
    | false =>
      rw [hh] at hh0;rw [hh,if_neg (by simp),List.append_nil] at hng;refine call_B (hU) (by simp -implicitDefEqProofs (disch:=omega) only [go_sem,↓reduceIte,deep,TD.rows,immLL_rI,immLL_rB8,immLL_rS,immLL_rBo,immLL_rII,immLL_rIIt,hh0,wrN];exact rfl) ?_;simp -implicitDefEqProofs (disch:=omega) only [go_sem,↓reduceIte ,hh0,wrN];refine ⟨i + 1,by omega,hlt,?_⟩;rw [hng,nowT_skip hh]
      (try simp -implicitDefEqProofs only [nleL_cc,nleL_nn,nle_self,nle_boxs,nle_aggs,nle_nils,and_self,and_true,true_and]) <;> repeat' (first | exact nle_of_eq rfl | exact nle_nil | apply And.intro | apply nle_sl | apply nleLL_cons | apply nleL_cons | exact nleL_nil | exact nleLL_nil | apply nle_box | apply nle_agg)
  obtain rfl : i = a.Glues.length:=by have : ¬ i < a.Glues.length:=by simpa using hlt
                                      omega
  have hgl:=trimGi_len a a.Glues.length;simp -implicitDefEqProofs (disch:=omega) only [go_sem,↓reduceIte];refine loop_ov (by simp -implicitDefEqProofs (disch:=omega) only [go_sem,↓reduceIte];exact rfl) (fun i : Nat => [(5,.box none [.sl true 2 ((trimGi a a.Glues.length).map (Glue.td.d true)),.sl true 2 ((trimSt a i).1.map (Tile.td.d true))]),(8,.sl true 1 ((trimSt a i).2.map rI)),(9,.v (.int .i64 (i : Nat)))]) (fun _ => by simp only [ovr_nil,ovr_cons,List.set_cons_zero,List.set_cons_succ];exact rfl) (fun i : Nat => i ≤ a.Tiles.length) (fun i : Nat => a.Tiles.length - i) (0) (by rw [show trimSt a 0 = ([],[]) from rfl];(try simp -implicitDefEqProofs only [nleL_cc,nleL_nn,nle_self,nle_boxs,nle_aggs,nle_nils,and_self,and_true,true_and]) <;> repeat' (first | exact nle_of_eq rfl | exact nle_nil | apply And.intro | apply nle_sl | apply nleLL_cons | apply nleL_cons | exact nleL_nil | exact nleLL_nil | apply nle_box | apply nle_agg)) (?_) ?_
  · exact Nat.zero_le _
  intro i hi;simp -implicitDefEqProofs (disch:=omega) only [go_sem,↓reduceIte ,List.length_map,Int.toNat_natCast,Int.ofNat_lt,Int.natCast_nonneg,List.getElem?_map,Option.map_some];refine cond_split ?_ ?_ <;> intro hlt
  · have hlt : i < a.Tiles.length:=(by simpa using hlt);have e1:=List.getElem?_eq_getElem hlt;have hsd:=okSet_side h hlt;have ht4:=okSet_sides4 h hlt;have hnx:=trimSt_next hlt;obtain ⟨hl1,hl2⟩:=trimTi_len' h hi;have hI:=tr_inv h i hi;have hu4 : ∀ u,u ∈ (trimSt a i).1 → u.Sides.length ≤ 1048576:=fun u hu => by obtain ⟨m,hm,rfl⟩:=List.mem_iff_getElem.1 hu;obtain ⟨k,hk,_,he⟩:=hI.fr m hm;rw [he];show (trimSd a a.Tiles[k]).length ≤ _;rw [trimSd_len,okSet_sides4 h hk];omega
    generalize hp : trimSt a i = p at *;obtain ⟨ts,at'⟩:=p;simp only at hl1 hl2 hu4;unfold trimStep at hnx;simp only at hnx;have hsd4 : (trimSd a a.Tiles[i]).length = 4:=by rw [trimSd_len,ht4]
    simp -implicitDefEqProofs (disch:=omega) only [go_sem,↓reduceIte];refine loop_ov (by simp -implicitDefEqProofs (disch:=omega) only [go_sem,↓reduceIte];exact rfl) (fun k : Nat => [(11,.v (.int .i64 (k : Nat))),(10,.sl true 1 (((a.Tiles[i].Sides.take k).map (nowS a)).map rI))]) (fun _ => by simp only [ovr_nil,ovr_cons,List.set_cons_zero,List.set_cons_succ];exact rfl) (fun k : Nat => k ≤ 4) (fun k : Nat => 4 - k) (0) (nleA) (Nat.zero_le _) ?_;intro k hk;simp -implicitDefEqProofs (disch:=omega) only [go_sem,↓reduceIte];refine cond_split ?_ ?_ <;> intro hlk
    · have hlk : k < 4:=(by have:=of_decide_eq_true hlk;omega);have hks : k < a.Tiles[i].Sides.length:=(by omega);have e2:=List.getElem?_eq_getElem hks;have hsk:=hsd _ (List.getElem_mem hks);have e3:=nowT_atI a hsk.1 hsk.2;have e4:=nowT_len a a.Glues.length;have e5:=trimSd_next a hks;have d0 : a.Tiles[i].Sides[k] < ((a.Glues.length + 1 : Nat) : Int):=(by omega);simp -implicitDefEqProofs (disch:=omega) only [go_sem,↓reduceIte ,List.length_map,Int.toNat_natCast,Int.ofNat_lt,Int.natCast_nonneg,List.getElem?_map,Option.map_some,hlt,e1,Tile.td_d,hks,e2,e3,e4,hsk.1,d0,List.length_take,wrN]
      repeat (refine And.intro (by omega) ?_)
      refine ⟨k + 1,by omega,hlk,?_⟩;rw [e5,List.map_append (l₂:=[_])]
      (try simp -implicitDefEqProofs only [nleL_cc,nleL_nn,nle_self,nle_boxs,nle_aggs,nle_nils,and_self,and_true,true_and]) <;> repeat' (first | exact nle_of_eq rfl | exact nle_nil | apply And.intro | apply nle_sl | apply nleLL_cons | apply nleL_cons | exact nleL_nil | exact nleLL_nil | apply nle_box | apply nle_agg)
    obtain rfl : k = 4:=by have:=of_decide_eq_false hlk
                           omega
    have hmS : (a.Tiles[i].Sides.take 4).map (nowS a) = trimSd a a.Tiles[i]:=(by rw [List.take_of_length_le (by omega)];rfl);simp -implicitDefEqProofs (disch:=omega) only [go_sem,↓reduceIte ,hmS];refine loop_ov (by simp -implicitDefEqProofs (disch:=omega) only [go_sem,↓reduceIte];exact rfl) (fun k : Nat => [(12,.v (.int .i64 (likeI (ts.take k) (trimSd a a.Tiles[i])))),(13,.v (.int .i64 (k : Nat)))]) (fun _ => by simp only [ovr_nil,ovr_cons,List.set_cons_zero,List.set_cons_succ];exact rfl) (fun k : Nat => k ≤ ts.length) (fun k : Nat => ts.length - k) (0) (nleA) (?_) ?_
    · exact Nat.zero_le _
    intro k hk;have hlge:=vIdx_ge (fun u : Tile => decide (u.Sides = trimSd a a.Tiles[i])) (ts.take k);simp -implicitDefEqProofs (disch:=omega) only [go_sem,↓reduceIte ,List.length_map,Int.toNat_natCast,Int.ofNat_lt,Int.natCast_nonneg,List.getElem?_map,Option.map_some];by_cases hlk : k < ts.length ∧ likeI (ts.take k) (trimSd a a.Tiles[i]) < 0
    · have d1 : decide (k < ts.length) = true:=decide_eq_true hlk.1;have d2 : decide (likeI (ts.take k) (trimSd a a.Tiles[i]) < 0) = true:=decide_eq_true hlk.2;have hlk1:=hlk.1;have e4:=List.getElem?_eq_getElem hlk.1;have hln:=likeI_next hlk.1 hlk.2;have hl1' : likeI (ts.take k) (trimSd a a.Tiles[i]) = -1:=(by have h1:=hlk.2;unfold likeI at h1 ⊢;omega);have hu:=hu4 _ (List.getElem_mem hlk.1);simp -implicitDefEqProofs (disch:=omega) only [go_sem,↓reduceIte ,d1,d2,List.length_map,Int.toNat_natCast,Int.ofNat_lt,Int.natCast_nonneg,List.getElem?_map,Option.map_some,hlk1,e4,Tile.td_d];cases hs : decide (ts[k].Sides = trimSd a a.Tiles[i]) with
      | true =>
        rw [if_pos (of_decide_eq_true hs)] at hln;refine call_B (v_l00Same ts[k].Sides (trimSd a a.Tiles[i]) hu) (by simp -implicitDefEqProofs (disch:=omega) only [go_sem,↓reduceIte,deep,TD.rows,immLL_rI,immLL_rB8,immLL_rS,immLL_rBo,immLL_rII,immLL_rIIt,hs,List.length_map,Int.toNat_natCast,Int.ofNat_lt,Int.natCast_nonneg,List.getElem?_map,Option.map_some,hlk1,e4,Tile.td_d,wrN];exact rfl) ?_;simp -implicitDefEqProofs (disch:=omega) only [go_sem,↓reduceIte ,hs,List.length_map,Int.toNat_natCast,Int.ofNat_lt,Int.natCast_nonneg,List.getElem?_map,Option.map_some,hlk1,e4,Tile.td_d,wrN];refine ⟨k + 1,by omega,hlk1,?_⟩;rw [hln]
        (try simp -implicitDefEqProofs only [nleL_cc,nleL_nn,nle_self,nle_boxs,nle_aggs,nle_nils,and_self,and_true,true_and]) <;> repeat' (first | exact nle_of_eq rfl | exact nle_nil | apply And.intro | apply nle_sl | apply nleLL_cons | apply nleL_cons | exact nleL_nil | exact nleLL_nil | apply nle_box | apply nle_agg)
      | false =>
        rw [if_neg (of_decide_eq_false hs)] at hln;rw [hl1'];refine call_B (v_l00Same ts[k].Sides (trimSd a a.Tiles[i]) hu) (by simp -implicitDefEqProofs (disch:=omega) only [go_sem,↓reduceIte,deep,TD.rows,immLL_rI,immLL_rB8,immLL_rS,immLL_rBo,immLL_rII,immLL_rIIt,hs,List.length_map,Int.toNat_natCast,Int.ofNat_lt,Int.natCast_nonneg,List.getElem?_map,Option.map_some,hlk1,e4,Tile.td_d,wrN];exact rfl) ?_;simp -implicitDefEqProofs (disch:=omega) only [go_sem,↓reduceIte ,hs,List.length_map,Int.toNat_natCast,Int.ofNat_lt,Int.natCast_nonneg,List.getElem?_map,Option.map_some,hlk1,e4,Tile.td_d,wrN];refine ⟨k + 1,by omega,hlk1,?_⟩;rw [hln]
        (try simp -implicitDefEqProofs only [nleL_cc,nleL_nn,nle_self,nle_boxs,nle_aggs,nle_nils,and_self,and_true,true_and]) <;> repeat' (first | exact nle_of_eq rfl | exact nle_nil | apply And.intro | apply nle_sl | apply nleLL_cons | apply nleL_cons | exact nleL_nil | exact nleLL_nil | apply nle_box | apply nle_agg)
    · have hL : likeI (ts.take k) (trimSd a a.Tiles[i]) = likeI ts (trimSd a a.Tiles[i]):=by
        by_cases h0 : likeI (ts.take k) (trimSd a a.Tiles[i]) < 0
        · have : ¬ k < ts.length:=fun h1 => hlk ⟨h1,h0⟩;rw [List.take_of_length_le (by omega)]
        · exact likeI_hit (by omega)
      have hrun : (decide (k < ts.length) = true ∧ decide (likeI ts (trimSd a a.Tiles[i]) < 0) = false) ∨ decide (k < ts.length) = false:=by
        by_cases h1 : k < ts.length
        · exact .inl ⟨decide_eq_true h1,decide_eq_false (fun h0 => hlk ⟨h1,by rw [hL];exact h0⟩)⟩
        · exact .inr (decide_eq_false h1)
      rw [hL];rcases hrun with ⟨d1,d2⟩ | d1
      · simp -implicitDefEqProofs (disch:=omega) only [go_sem,↓reduceIte ,d1,d2];rcases likeI_cases ts (trimSd a a.Tiles[i]) with ⟨n,hn,k1,k2⟩ | ⟨k1,k2⟩
        · rw [k1,if_pos (by omega)] at hnx;rw [k1];have d3 : decide ((n : Int) < 0) = false:=by rw [decide_eq_false_iff_not];omega
          simp -implicitDefEqProofs (disch:=omega) only [go_sem,↓reduceIte ,d3,wrN,List.length_map];refine ⟨by omega,i + 1,by omega,hlt,?_⟩;rw [hnx];simp only;rw [List.map_append (l₁:=at')]
          (try simp -implicitDefEqProofs only [nleL_cc,nleL_nn,nle_self,nle_boxs,nle_aggs,nle_nils,and_self,and_true,true_and]) <;> repeat' (first | exact nle_of_eq rfl | exact nle_nil | apply And.intro | apply nle_sl | apply nleLL_cons | apply nleL_cons | exact nleL_nil | exact nleLL_nil | apply nle_box | apply nle_agg)
        · exact absurd d2 (by rw [k1];decide)
      · simp -implicitDefEqProofs (disch:=omega) only [go_sem,↓reduceIte ,d1];rcases likeI_cases ts (trimSd a a.Tiles[i]) with ⟨n,hn,k1,k2⟩ | ⟨k1,k2⟩
        · rw [k1,if_pos (by omega)] at hnx;rw [k1];have d3 : decide ((n : Int) < 0) = false:=by rw [decide_eq_false_iff_not];omega
          simp -implicitDefEqProofs (disch:=omega) only [go_sem,↓reduceIte ,d3,wrN,List.length_map];refine ⟨by omega,i + 1,by omega,hlt,?_⟩;rw [hnx];simp only;rw [List.map_append (l₁:=at')]
          (try simp -implicitDefEqProofs only [nleL_cc,nleL_nn,nle_self,nle_boxs,nle_aggs,nle_nils,and_self,and_true,true_and]) <;> repeat' (first | exact nle_of_eq rfl | exact nle_nil | apply And.intro | apply nle_sl | apply nleLL_cons | apply nleL_cons | exact nleL_nil | exact nleLL_nil | apply nle_box | apply nle_agg)
        · rw [k1,if_neg (by omega)] at hnx;rw [k1];have d3 : decide ((-1 : Int) < 0) = true:=rfl;simp -implicitDefEqProofs (disch:=omega) only [go_sem,↓reduceIte ,d3,List.length_map,Int.toNat_natCast,Int.ofNat_lt,Int.natCast_nonneg,List.getElem?_map,Option.map_some,hlt,e1,Tile.td_d,List.length_map,wrN];apply drawT_at
          intro K hK;simp -implicitDefEqProofs (disch:=omega) only [go_sem,↓reduceIte ,List.length_map,Int.toNat_natCast,Int.ofNat_lt,Int.natCast_nonneg,List.getElem?_map,Option.map_some,hlt,e1,Tile.td_d]
          repeat' (first | with_reducible exact hK | with_reducible refine And.intro ?_ ?_ | omega)
          simp -implicitDefEqProofs (disch:=omega) only [go_sem,↓reduceIte ,tail_app,List.length_map,wrN]
          repeat (refine And.intro (by omega) ?_)
          refine ⟨i + 1,by omega,hlt,?_⟩;rw [hnx];simp only;rw [List.map_append (l₁:=at'),List.map_append (l₁:=ts)]
          (try simp -implicitDefEqProofs only [nleL_cc,nleL_nn,nle_self,nle_boxs,nle_aggs,nle_nils,and_self,and_true,true_and]) <;> repeat' (first | exact nle_of_eq rfl | exact nle_nil | apply And.intro | apply nle_sl | apply nleLL_cons | apply nleL_cons | exact nleL_nil | exact nleLL_nil | apply nle_box | apply nle_agg)
  obtain rfl : i = a.Tiles.length:=by have : ¬ i < a.Tiles.length:=by simpa using hlt
                                      omega
  simp -implicitDefEqProofs (disch:=omega) only [go_sem,↓reduceIte ,trimR,trimA,trimC,h]
def code_laws_f6big : VCode:=(.seq (.ops [
  ⟨(some 2),none,(.asg (.const (.bool false)))⟩]) (.seq (.ops [
  ⟨(some 3),none,(.mv (.tmp 0))⟩,
  ⟨(some 4),none,(.len (.tmp 3))⟩,
  ⟨(some 5),none,(.bin .gtr (.tmp 4) (.const (.int .i64 4096)))⟩,
  ⟨(some 2),none,(.asg (.tmp 5))⟩]) .ret))
theorem law_laws_f6big {a0 d : D} (h : code_laws_f6big.wp (CT Try.prog NoG) (endQ [(.t 2)] d) [a0,.undef,.undef,.undef,.undef,.undef]) : Contract Try.prog NoG 6 [a0] d :=
  contract_of (pt:=0) noG Try.func6 (fun us W => by kernel_rfl) (c:=Try.f6.body.getD .skip) (ms:=[]) (ms':=[]) (by kernel_rfl) (by kernel_rfl) (by kernel_rfl) h
def code_laws_f6ints : VCode:=(.seq (.ops [
  ⟨(some 4),none,(.asg (.const (.bool false)))⟩]) (.seq (.seq (.ops [
  ⟨(some 6),none,(.mv (.tmp 0))⟩,
  ⟨(some 7),none,(.len (.tmp 6))⟩,
  ⟨(some 8),none,(.mv (.tmp 1))⟩,
  ⟨(some 9),none,(.len (.tmp 8))⟩,
  ⟨(some 10),none,(.bin .neq (.tmp 7) (.tmp 9))⟩]) (.cond (.tmp 10) (.seq (.ops [
  ⟨(some 4),none,(.asg (.const (.bool false)))⟩]) .ret) .skip)) (.seq (.seq (.ops [
  ⟨(some 5),none,(.asg (.const (.int .i64 0)))⟩]) (.block 0 (.loop (mB 26 67108828) (.seq (.seq (.ops [
  ⟨(some 11),none,(.mv (.tmp 5))⟩,
  ⟨(some 12),none,(.mv (.tmp 0))⟩,
  ⟨(some 13),none,(.len (.tmp 12))⟩,
  ⟨(some 14),none,(.bin .lss (.tmp 11) (.tmp 13))⟩]) (.cond (.tmp 14) .skip (.exit 0))) (.seq (.block 1 (.seq (.draw (mB 25 33423360) [] [⟨0,(mB 25 33423360),[],⟨(some 17),none,(.mv (.tmp 0))⟩⟩,⟨1,(mB 25 33423360),[],⟨(some 18),none,(.mv (.tmp 5))⟩⟩,⟨2,(mB 25 33030144),[],⟨(some 19),none,(.ia 1 (.tmp 17) (.tmp 18))⟩⟩,⟨3,(mB 25 32505856),[],⟨(some 20),none,(.load 1 false (.tmp 19))⟩⟩,⟨4,(mB 25 33423360),[],⟨(some 21),none,(.mv (.tmp 1))⟩⟩,⟨5,(mB 25 33423360),[],⟨(some 22),none,(.mv (.tmp 5))⟩⟩,⟨6,(mB 25 27131904),[],⟨(some 23),none,(.ia 1 (.tmp 21) (.tmp 22))⟩⟩,⟨7,(mB 25 18743296),[],⟨(some 24),none,(.load 1 false (.tmp 23))⟩⟩] [⟨(some 25),none,(.bin .neq (.tmp 20) (.tmp 24))⟩]) (.cond (.tmp 25) (.seq (.ops [
  ⟨(some 4),none,(.asg (.const (.bool false)))⟩]) .ret) .skip))) (.ops [
  ⟨(some 15),none,(.mv (.tmp 5))⟩,
  ⟨(some 16),none,(.bin .add (.tmp 15) (.const (.int .i64 1)))⟩,
  ⟨(some 5),none,(.asg (.tmp 16))⟩])))))) (.seq (.ops [
  ⟨(some 4),none,(.asg (.const (.bool true)))⟩]) .ret))))
theorem law_laws_f6ints {a0 a1 d : D} (h : code_laws_f6ints.wp (CT Try.prog NoG) (endQ [(.t 4)] d) [a0,a1,.undef,.undef,.undef,.undef,.undef,.undef,.undef,.undef,.undef,.undef,.undef,.undef,.undef,.undef,.undef,.undef,.undef,.undef,.undef,.undef,.undef,.undef,.undef,.undef]) : Contract Try.prog NoG 26 [a0,a1] d :=
  contract_of (pt:=0) noG Try.func26 (fun us W => by kernel_rfl) (c:=Try.f26.body.getD .skip) (ms:=[(mB 26 67108828)]) (ms':=[]) (by kernel_rfl) (by kernel_rfl) (by kernel_rfl) h
def code_spec_SameSet : VCode:=(.seq (.ops [
  ⟨(some 2),none,(.box (.tmp 0))⟩,
  ⟨(some 3),none,(.box (.tmp 1))⟩,
  ⟨(some 4),none,(.asg (.const (.bool false)))⟩]) (.seq (.ops [
  ⟨(some 5),none,(.callX 37 [(.tmp 2),(.tmp 3)])⟩,
  ⟨(some 4),none,(.asg (.tmp 5))⟩]) .ret))
theorem law_spec_SameSet {a0 a1 d : D} (h : code_spec_SameSet.wp (CT Try.prog NoG) (endQ [(.t 4)] d) [a0,a1,.undef,.undef,.undef,.undef]) : Contract Try.prog NoG 12 [a0,a1] d :=
  contract_of (pt:=0) noG Try.func12 (fun us W => by kernel_rfl) (c:=Try.f12.body.getD .skip) (ms:=[]) (ms':=[]) (by kernel_rfl) (by kernel_rfl) (by kernel_rfl) h
def code_laws_FnTrimmed : VCode:=(.seq (.ops [
  ⟨(some 2),none,(.asg (.const (.bool false)))⟩]) (.seq (.seq (.ops [
  ⟨(some 23),none,(.mv (.tmp 0))⟩,
  ⟨(some 24),none,(.callX 6 [(.tmp 23)])⟩]) (.cond (.tmp 24) (.seq (.ops [
  ⟨(some 2),none,(.asg (.const (.bool true)))⟩]) .ret) .skip)) (.seq (.ops [
  ⟨(some 25),none,(.mv (.tmp 0))⟩,
  ⟨(some 26),none,(.callX 23 [(.tmp 25)])⟩,
  ⟨(some 3),none,(.alloc [(.slice none 0 0),(.slice none 0 0)])⟩,
  ⟨none,none,(.store 2 (.tmp 3) (.tmp 26))⟩]) (.seq (.ops [
  ⟨(some 28),none,(.load 2 true (.tmp 3))⟩,
  ⟨(some 29),none,(.callX 24 [(.tmp 28)])⟩,
  ⟨(some 27),none,(.mv (.tmp 29))⟩,
  ⟨(some 30),none,(.ext (.tmp 27) 0)⟩,
  ⟨(some 31),none,(.ext (.tmp 27) 1)⟩,
  ⟨(some 32),none,(.ext (.tmp 27) 2)⟩,
  ⟨(some 4),none,(.alloc [(.slice none 0 0),(.slice none 0 0)])⟩,
  ⟨none,none,(.store 2 (.tmp 4) (.tmp 30))⟩,
  ⟨(some 5),none,(.asg (.tmp 31))⟩,
  ⟨(some 6),none,(.asg (.tmp 32))⟩]) (.seq (.ops [
  ⟨(some 34),none,(.load 2 true (.tmp 3))⟩,
  ⟨(some 35),none,(.callX 25 [(.tmp 34)])⟩,
  ⟨(some 33),none,(.mv (.tmp 35))⟩,
  ⟨(some 36),none,(.ext (.tmp 33) 0)⟩,
  ⟨(some 37),none,(.ext (.tmp 33) 1)⟩,
  ⟨(some 38),none,(.ext (.tmp 33) 2)⟩,
  ⟨(some 7),none,(.alloc [(.slice none 0 0),(.slice none 0 0)])⟩,
  ⟨none,none,(.store 2 (.tmp 7) (.tmp 36))⟩,
  ⟨(some 8),none,(.asg (.tmp 37))⟩,
  ⟨(some 9),none,(.asg (.tmp 38))⟩]) (.seq (.seq (.ops [
  ⟨(some 39),none,(.mv (.tmp 6))⟩,
  ⟨(some 40),none,(.mv (.tmp 9))⟩,
  ⟨(some 41),none,(.bin .neq (.tmp 39) (.tmp 40))⟩,
  ⟨(some 42),none,(.mv (.tmp 41))⟩,
  ⟨(some 43),(some (42,false)),(.load 2 true (.tmp 4))⟩,
  ⟨(some 44),(some (42,false)),(.load 2 true (.tmp 7))⟩,
  ⟨(some 45),(some (42,false)),(.callX 12 [(.tmp 43),(.tmp 44)])⟩,
  ⟨(some 46),(some (42,false)),(.un .not (.tmp 45))⟩,
  ⟨(some 47),none,(.pick (.tmp 42) (.const (.bool true)) (.tmp 46))⟩,
  ⟨(some 48),none,(.mv (.tmp 47))⟩,
  ⟨(some 49),(some (48,false)),(.mv (.tmp 5))⟩,
  ⟨(some 50),(some (48,false)),(.mv (.tmp 8))⟩,
  ⟨(some 51),(some (48,false)),(.callX 26 [(.tmp 49),(.tmp 50)])⟩,
  ⟨(some 52),(some (48,false)),(.un .not (.tmp 51))⟩,
  ⟨(some 53),none,(.pick (.tmp 48) (.const (.bool true)) (.tmp 52))⟩]) (.cond (.tmp 53) (.seq (.ops [
  ⟨(some 2),none,(.asg (.const (.bool false)))⟩]) .ret) .skip)) (.seq (.seq (.ops [
  ⟨(some 54),none,(.mv (.tmp 6))⟩,
  ⟨(some 55),none,(.bin .neq (.tmp 54) (.const (.int .i64 0)))⟩]) (.cond (.tmp 55) (.seq (.ops [
  ⟨(some 2),none,(.asg (.const (.bool true)))⟩]) .ret) .skip)) (.seq (.ops [
  ⟨(some 57),none,(.load 2 true (.tmp 7))⟩,
  ⟨(some 58),none,(.callX 24 [(.tmp 57)])⟩,
  ⟨(some 56),none,(.mv (.tmp 58))⟩,
  ⟨(some 59),none,(.ext (.tmp 56) 0)⟩,
  ⟨(some 60),none,(.ext (.tmp 56) 1)⟩,
  ⟨(some 61),none,(.ext (.tmp 56) 2)⟩,
  ⟨(some 10),none,(.alloc [(.slice none 0 0),(.slice none 0 0)])⟩,
  ⟨none,none,(.store 2 (.tmp 10) (.tmp 59))⟩,
  ⟨(some 11),none,(.asg (.tmp 60))⟩,
  ⟨(some 12),none,(.asg (.tmp 61))⟩]) (.seq (.ops [
  ⟨(some 63),none,(.load 2 true (.tmp 3))⟩,
  ⟨(some 64),none,(.load 2 true (.tmp 3))⟩,
  ⟨(some 65),none,(.callX 27 [(.tmp 63),(.tmp 64)])⟩,
  ⟨(some 62),none,(.mv (.tmp 65))⟩,
  ⟨(some 66),none,(.ext (.tmp 62) 0)⟩,
  ⟨(some 67),none,(.ext (.tmp 62) 1)⟩,
  ⟨(some 13),none,(.alloc [(.slice none 0 0),(.slice none 0 0)])⟩,
  ⟨none,none,(.store 2 (.tmp 13) (.tmp 66))⟩,
  ⟨(some 14),none,(.asg (.tmp 67))⟩]) (.seq (.seq (.ops [
  ⟨(some 68),none,(.mv (.tmp 12))⟩,
  ⟨(some 69),none,(.bin .neq (.tmp 68) (.const (.int .i64 0)))⟩,
  ⟨(some 70),none,(.mv (.tmp 69))⟩,
  ⟨(some 71),(some (70,false)),(.load 2 true (.tmp 10))⟩,
  ⟨(some 72),(some (70,false)),(.load 2 true (.tmp 7))⟩,
  ⟨(some 73),(some (70,false)),(.callX 12 [(.tmp 71),(.tmp 72)])⟩,
  ⟨(some 74),(some (70,false)),(.un .not (.tmp 73))⟩,
  ⟨(some 75),none,(.pick (.tmp 70) (.const (.bool true)) (.tmp 74))⟩,
  ⟨(some 76),none,(.mv (.tmp 75))⟩,
  ⟨(some 77),(some (76,false)),(.mv (.tmp 14))⟩,
  ⟨(some 78),(some (76,false)),(.bin .neq (.tmp 77) (.const (.int .i64 0)))⟩,
  ⟨(some 79),none,(.pick (.tmp 76) (.const (.bool true)) (.tmp 78))⟩,
  ⟨(some 80),none,(.mv (.tmp 79))⟩,
  ⟨(some 81),(some (80,false)),(.load 2 true (.tmp 13))⟩,
  ⟨(some 82),(some (80,false)),(.load 2 true (.tmp 3))⟩,
  ⟨(some 83),(some (80,false)),(.callX 12 [(.tmp 81),(.tmp 82)])⟩,
  ⟨(some 84),(some (80,false)),(.un .not (.tmp 83))⟩,
  ⟨(some 85),none,(.pick (.tmp 80) (.const (.bool true)) (.tmp 84))⟩]) (.cond (.tmp 85) (.seq (.ops [
  ⟨(some 2),none,(.asg (.const (.bool false)))⟩]) .ret) .skip)) (.seq (.ops [
  ⟨(some 86),none,(.fa 1 (.tmp 3))⟩,
  ⟨(some 87),none,(.load 1 false (.tmp 86))⟩,
  ⟨(some 88),none,(.len (.tmp 87))⟩,
  ⟨(some 89),none,(.mm false [(.tmp 88),(.const (.int .i64 12))])⟩,
  ⟨(some 15),none,(.asg (.tmp 89))⟩]) (.seq (.seq (.ops [
  ⟨(some 16),none,(.asg (.const (.int .i64 0)))⟩]) (.block 0 (.loop (mB 137 174224571863520493293247799004867755671159) (.seq (.seq (.ops [
  ⟨(some 90),none,(.mv (.tmp 16))⟩,
  ⟨(some 91),none,(.mv (.tmp 15))⟩,
  ⟨(some 92),none,(.bin .lss (.tmp 90) (.tmp 91))⟩]) (.cond (.tmp 92) .skip (.exit 0))) (.seq (.block 1 (.seq (.ops [
  ⟨(some 17),none,(.asg (.const (.int .i64 0)))⟩]) (.block 2 (.loop (mB 137 174224571863520493293247799004867755540087) (.seq (.seq (.ops [
  ⟨(some 95),none,(.mv (.tmp 17))⟩,
  ⟨(some 96),none,(.mv (.tmp 15))⟩,
  ⟨(some 97),none,(.bin .lss (.tmp 95) (.tmp 96))⟩]) (.cond (.tmp 97) .skip (.exit 2))) (.seq (.block 3 (.seq (.ops [
  ⟨(some 18),none,(.asg (.const (.int .i64 0)))⟩]) (.block 4 (.loop (mB 137 174224571863520493293247799004867755277943) (.seq (.seq (.ops [
  ⟨(some 100),none,(.mv (.tmp 18))⟩,
  ⟨(some 101),none,(.bin .lss (.tmp 100) (.const (.int .i64 4)))⟩]) (.cond (.tmp 101) .skip (.exit 4))) (.seq (.block 5 (.seq (.ops [
  ⟨(some 105),none,(.load 2 true (.tmp 3))⟩,
  ⟨(some 106),none,(.mv (.tmp 16))⟩,
  ⟨(some 107),none,(.mv (.tmp 18))⟩,
  ⟨(some 108),none,(.mv (.tmp 17))⟩,
  ⟨(some 109),none,(.callX 14 [(.tmp 105),(.tmp 106),(.tmp 107),(.tmp 108)])⟩,
  ⟨(some 104),none,(.mv (.tmp 109))⟩,
  ⟨(some 110),none,(.ext (.tmp 104) 0)⟩,
  ⟨(some 111),none,(.ext (.tmp 104) 1)⟩,
  ⟨(some 19),none,(.asg (.tmp 110))⟩,
  ⟨(some 20),none,(.asg (.tmp 111))⟩]) (.seq (.draw (mB 126 85065399433376081038215121361614929920) (mB 125 21267647932558653966460912964485513216) [⟨0,(mB 126 85065399433376081038215121361614929920),[],⟨(some 113),none,(.load 2 true (.tmp 7))⟩⟩,⟨1,(mB 126 85065399433376081038215121361614929920),[],⟨(some 114),none,(.mv (.tmp 8))⟩⟩,⟨2,(mB 126 85065399433376081038215121361614929920),[],⟨(some 115),none,(.mv (.tmp 16))⟩⟩,⟨3,(mB 126 85003091871073663106672755405664288768),[],⟨(some 116),none,(.ia 1 (.tmp 114) (.tmp 115))⟩⟩,⟨4,(mB 126 84920015121337105864616267464396767232),[],⟨(some 117),none,(.load 1 false (.tmp 116))⟩⟩,⟨5,(mB 126 85065399433376081038215121361614929920),[],⟨(some 118),none,(.mv (.tmp 18))⟩⟩,⟨6,(mB 126 85065399433376081038215121361614929920),[],⟨(some 119),none,(.mv (.tmp 8))⟩⟩,⟨7,(mB 126 85065399433376081038215121361614929920),[],⟨(some 120),none,(.mv (.tmp 17))⟩⟩,⟨8,(mB 126 83071557439698707228859410771194413056),[],⟨(some 121),none,(.ia 1 (.tmp 119) (.tmp 120))⟩⟩,⟨9,(mB 126 80413101448128875483051796650633723904),[],⟨(some 122),none,(.load 1 false (.tmp 121))⟩⟩,⟨10,(mB 126 74441960060813823710241725872030613504),[],⟨(some 123),none,(.call 15 [(.tmp 113),(.tmp 117),(.tmp 118),(.tmp 122)])⟩⟩,⟨11,(mB 126 63808136094534496727011269389787856896),[],⟨(some 112),none,(.mv (.tmp 123))⟩⟩,⟨12,(mB 126 63802943797675961899382738893458636800),[],⟨(some 124),none,(.extN (.tmp 112) 0)⟩⟩,⟨13,(mB 126 63802943797675961899382738893458636800),[],⟨(some 125),none,(.extN (.tmp 112) 1)⟩⟩,⟨14,(mB 126 42535295865117307932921825928973123584),(mB 125 21267647932558653966460912964485513216),⟨(some 21),none,(.asg (.tmp 124))⟩⟩] [⟨(some 22),none,(.asg (.tmp 125))⟩]) (.seq (.ops [
  ⟨(some 126),none,(.mv (.tmp 20))⟩,
  ⟨(some 127),none,(.bin .neq (.tmp 126) (.const (.int .i64 0)))⟩,
  ⟨(some 128),none,(.mv (.tmp 127))⟩,
  ⟨(some 129),(some (128,false)),(.mv (.tmp 22))⟩,
  ⟨(some 130),(some (128,false)),(.bin .neq (.tmp 129) (.const (.int .i64 0)))⟩,
  ⟨(some 131),none,(.pick (.tmp 128) (.const (.bool true)) (.tmp 130))⟩,
  ⟨(some 132),none,(.mv (.tmp 131))⟩,
  ⟨(some 133),(some (132,false)),(.mv (.tmp 19))⟩,
  ⟨(some 134),(some (132,false)),(.mv (.tmp 21))⟩,
  ⟨(some 135),(some (132,false)),(.bin .neq (.tmp 133) (.tmp 134))⟩,
  ⟨(some 136),none,(.pick (.tmp 132) (.const (.bool true)) (.tmp 135))⟩]) (.cond (.tmp 136) (.seq (.ops [
  ⟨(some 2),none,(.asg (.const (.bool false)))⟩]) .ret) .skip))))) (.ops [
  ⟨(some 102),none,(.mv (.tmp 18))⟩,
  ⟨(some 103),none,(.bin .add (.tmp 102) (.const (.int .i64 1)))⟩,
  ⟨(some 18),none,(.asg (.tmp 103))⟩]))))))) (.ops [
  ⟨(some 98),none,(.mv (.tmp 17))⟩,
  ⟨(some 99),none,(.bin .add (.tmp 98) (.const (.int .i64 1)))⟩,
  ⟨(some 17),none,(.asg (.tmp 99))⟩]))))))) (.ops [
  ⟨(some 93),none,(.mv (.tmp 16))⟩,
  ⟨(some 94),none,(.bin .add (.tmp 93) (.const (.int .i64 1)))⟩,
  ⟨(some 16),none,(.asg (.tmp 94))⟩])))))) (.seq (.ops [
  ⟨(some 2),none,(.asg (.const (.bool true)))⟩]) .ret)))))))))))))
theorem law_laws_FnTrimmed {a0 d : D} (h : code_laws_FnTrimmed.wp (CT Try.prog NoG) (endQ [(.t 2)] d) [a0,.undef,.undef,.undef,.undef,.undef,.undef,.undef,.undef,.undef,.undef,.undef,.undef,.undef,.undef,.undef,.undef,.undef,.undef,.undef,.undef,.undef,.undef,.undef,.undef,.undef,.undef,.undef,.undef,.undef,.undef,.undef,.undef,.undef,.undef,.undef,.undef,.undef,.undef,.undef,.undef,.undef,.undef,.undef,.undef,.undef,.undef,.undef,.undef,.undef,.undef,.undef,.undef,.undef,.undef,.undef,.undef,.undef,.undef,.undef,.undef,.undef,.undef,.undef,.undef,.undef,.undef,.undef,.undef,.undef,.undef,.undef,.undef,.undef,.undef,.undef,.undef,.undef,.undef,.undef,.undef,.undef,.undef,.undef,.undef,.undef,.undef,.undef,.undef,.undef,.undef,.undef,.undef,.undef,.undef,.undef,.undef,.undef,.undef,.undef,.undef,.undef,.undef,.undef,.undef,.undef,.undef,.undef,.undef,.undef,.undef,.undef,.undef,.undef,.undef,.undef,.undef,.undef,.undef,.undef,.undef,.undef,.undef,.undef,.undef,.undef,.undef,.undef,.undef,.undef,.undef,.undef,.undef,.undef,.undef,.undef,.undef]) : Contract Try.prog NoG 5 [a0] d :=
  contract_of (pt:=0) noG Try.func5 (fun us W => by kernel_rfl) (c:=Try.f5.body.getD .skip) (ms:=[(mB 137 174224571863520493293247799004867755671159),(mB 137 174224571863520493293247799004867755540087),(mB 137 174224571863520493293247799004867755277943)]) (ms':=[]) (by kernel_rfl) (by kernel_rfl) (by kernel_rfl) h
theorem v_f6big (a : List Int) : Contract Try.prog NoG 6 [.sl false 1 (a.map rB8)] (.v (.bool (decide (4096 < (a.length : Int))))):=by refine law_laws_f6big ?_;unfold code_laws_f6big;simp -implicitDefEqProofs (disch:=omega) only [go_sem,↓reduceIte ,List.length_map]
theorem v_f6ints (xs ys : List Int) (hl : xs.length ≤ 1048576) : Contract Try.prog NoG 26 [.sl false 1 (xs.map rI),.sl false 1 (ys.map rI)] (.v (.bool (decide (xs = ys)))):=by
  refine law_laws_f6ints ?_;unfold code_laws_f6ints;simp -implicitDefEqProofs (disch:=omega) only [go_sem,↓reduceIte ,List.length_map];refine cond_split ?_ ?_ <;> intro h1
  · have : xs ≠ ys:=fun e => by simp [e] at h1
    simp -implicitDefEqProofs (disch:=omega) only [go_sem,↓reduceIte ,decide_eq_false this]
  · have hl1 : xs.length = ys.length:=(by simp at h1;omega);simp -implicitDefEqProofs (disch:=omega) only [go_sem,↓reduceIte];refine loop_ov (by simp -implicitDefEqProofs (disch:=omega) only [go_sem,↓reduceIte];exact rfl) (fun i : Nat => [(5,.v (.int .i64 (i : Nat)))]) (fun _ => by simp only [ovr_nil,ovr_cons,List.set_cons_zero,List.set_cons_succ];exact rfl) (fun i : Nat => i ≤ xs.length ∧ xs.take i = ys.take i) (fun i : Nat => xs.length - i) (0) (nleA) (?_) ?_
    · exact ⟨Nat.zero_le _,by simp⟩
    rintro i ⟨hi,ht⟩;simp -implicitDefEqProofs (disch:=omega) only [go_sem,↓reduceIte ,List.length_map,Int.toNat_natCast,Int.ofNat_lt,Int.natCast_nonneg,List.getElem?_map,Option.map_some];refine cond_split ?_ ?_ <;> intro hlt
    · have hlt : i < xs.length:=(by simpa using hlt);have h3 : i < ys.length:=(by omega);have e1:=List.getElem?_eq_getElem hlt;have e2:=List.getElem?_eq_getElem h3;cases hp : decide (xs[i] = ys[i]) with
      | true => simp -implicitDefEqProofs (disch:=omega) only [go_sem,↓reduceIte ,List.length_map,Int.toNat_natCast,Int.ofNat_lt,Int.natCast_nonneg,List.getElem?_map,Option.map_some,hlt,h3,e1,e2,rI,hp,wrN];refine ⟨i + 1,by omega,⟨hlt,?_⟩,nleA⟩;rw [List.take_succ_eq_append_getElem hlt,List.take_succ_eq_append_getElem h3,ht,of_decide_eq_true hp]
      | false => have : xs ≠ ys:=fun e => of_decide_eq_false hp (by simp [e]);simp -implicitDefEqProofs (disch:=omega) only [go_sem,↓reduceIte ,List.length_map,Int.toNat_natCast,Int.ofNat_lt,Int.natCast_nonneg,List.getElem?_map,Option.map_some,hlt,h3,e1,e2,rI,hp,decide_eq_false this]
    · obtain rfl : i = xs.length:=(by have : ¬ i < xs.length:=(by simpa using hlt);omega);have : xs = ys:=(by rw [List.take_of_length_le (by omega),List.take_of_length_le (by omega)] at ht;exact ht);simp -implicitDefEqProofs (disch:=omega) only [go_sem,↓reduceIte ,decide_eq_true this]
theorem v_SameSet (a b : TileSet) (ha : setLen a) : Contract Try.prog NoG 12 [.agg [.sl false 2 (a.Glues.map (Glue.td.d false)),.sl false 2 (a.Tiles.map (Tile.td.d false))],.agg [.sl false 2 (b.Glues.map (Glue.td.d false)),.sl false 2 (b.Tiles.map (Tile.td.d false))]] (.v (.bool (decide (a = b)))):=by refine law_spec_SameSet ?_;unfold code_spec_SameSet;simp -implicitDefEqProofs (disch:=omega) only [go_sem,↓reduceIte];refine call_B (v_l02Same a b ha) (by simp -implicitDefEqProofs (disch:=omega) only [go_sem,↓reduceIte,deep,TD.rows,immLL_rI,immLL_rB8,immLL_rS,immLL_rBo,immLL_rII,immLL_rIIt];exact rfl) ?_;simp -implicitDefEqProofs (disch:=omega) only [go_sem,↓reduceIte]
theorem setB_trim {a : TileSet} (h : okSet a = true) (hB : setB a) : setB (trimR a):=by
  have hk:=trim_ok h;have hl:=okSet_len hk;have I:=tr_inv h a.Tiles.length (Nat.le_refl _);refine ⟨by omega,by omega,fun x hx => ?_,fun x hx => ?_,fun x hx => ?_⟩
  · rw [trimR_of h] at hx;obtain ⟨m,hm,rfl⟩:=List.getElem_of_mem hx;obtain ⟨k,hk,_,_,_,e⟩:=trimG_inv a.Glues.length (Nat.le_refl _) m hm;rw [List.getElem?_eq_getElem hm] at e;rw [Option.some.inj e];exact hB.gn _ (List.getElem_mem hk)
  · rw [trimR_of h] at hx;obtain ⟨m,hm,rfl⟩:=List.getElem_of_mem hx;obtain ⟨k,hk,_,e⟩:=I.fr m hm;rw [e];show a.Tiles[k].Name.size ≤ _;exact hB.tn _ (List.getElem_mem hk)
  · obtain ⟨j,hj,rfl⟩:=List.getElem_of_mem hx;rw [okSet_sides4 hk hj];omega
theorem setLen_B {a : TileSet} (h : setB a) : setLen a:=⟨h.g,h.t,h.ts⟩
set_option maxHeartbeats 8000000 in
theorem vlawTrimmed (q_code : List Int) (hc : ∀ x,x ∈ q_code → InK .u8 x) : Contract Try.prog NoG 5 [.sl false 1 (q_code.map rB8)] (.v (.bool true)):=by
  refine law_laws_FnTrimmed ?_;unfold code_laws_FnTrimmed;simp -implicitDefEqProofs (disch:=omega) only [go_sem,↓reduceIte];by_cases hl : (4096 : Int) < (q_code.length : Int)
  · have d0:=decide_eq_true hl;refine call_B (v_f6big q_code) (by simp -implicitDefEqProofs (disch:=omega) only [go_sem,↓reduceIte,deep,TD.rows,immLL_rI,immLL_rB8,immLL_rS,immLL_rBo,immLL_rII,immLL_rIIt,d0];exact rfl) ?_;simp -implicitDefEqProofs (disch:=omega) only [go_sem,↓reduceIte ,d0]
  · have d0:=decide_eq_false hl;refine call_B (v_f6big q_code) (by simp -implicitDefEqProofs (disch:=omega) only [go_sem,↓reduceIte,deep,TD.rows,immLL_rI,immLL_rB8,immLL_rS,immLL_rBo,immLL_rII,immLL_rIIt,d0];exact rfl) ?_;simp -implicitDefEqProofs (disch:=omega) only [go_sem,↓reduceIte ,d0];obtain ⟨a,hg,hD⟩:=v_DrawTrimSet q_code (fun x hx => by have:=hc x hx;unfold InK at this;omega) (by omega);have hok:=good_ok hg;have hcn:=good_cnt hg;have hB:=setB_of hcn;have hI:=vTrimSet_impl a hB;have hS:=vTrimSet_spec a hB;cases h : okSet a with
    | false => have t1 : trimR a = ⟨[],[]⟩:=(by unfold trimR;rw [h];rfl);have t2 : trimA a = []:=(by unfold trimA;rw [h];rfl);have t3 : trimC a = 1:=(by unfold trimC;rw [h];rfl);rw [t1,t2,t3] at hI hS;have hE:=v_SameSet ⟨[],[]⟩ ⟨[],[]⟩ ⟨by decide,by decide,fun t ht => by cases ht⟩;have hE1 : decide ((⟨[],[]⟩ : TileSet) = ⟨[],[]⟩) = true:=(by simp);have hF:=v_f6ints [] [] (by decide);rw [hE1] at hE;have hF1 : decide (([] : List Int) = []) = true:=(by simp);rw [hF1] at hF;simp only [TileSet.td_d,List.map_nil] at hI hS hD hE hF;refine call_B (hD) (by simp -implicitDefEqProofs (disch:=omega) only [go_sem,↓reduceIte,deep,TD.rows,immLL_rI,immLL_rB8,immLL_rS,immLL_rBo,immLL_rII,immLL_rIIt];exact rfl) ?_;simp -implicitDefEqProofs (disch:=omega) only [go_sem,↓reduceIte];refine call_B (hI) (by simp -implicitDefEqProofs (disch:=omega) only [go_sem,↓reduceIte,deep,TD.rows,immLL_rI,immLL_rB8,immLL_rS,immLL_rBo,immLL_rII,immLL_rIIt,List.map_nil];exact rfl) ?_;simp -implicitDefEqProofs (disch:=omega) only [go_sem,↓reduceIte ,List.map_nil];refine call_B (hS) (by simp -implicitDefEqProofs (disch:=omega) only [go_sem,↓reduceIte,deep,TD.rows,immLL_rI,immLL_rB8,immLL_rS,immLL_rBo,immLL_rII,immLL_rIIt,List.map_nil,Int.reduceEq,decide_true,decide_false];exact rfl) ?_;simp -implicitDefEqProofs (disch:=omega) only [go_sem,↓reduceIte ,List.map_nil,Int.reduceEq,decide_true,decide_false];refine call_B (hE) (by simp -implicitDefEqProofs (disch:=omega) only [go_sem,↓reduceIte,deep,TD.rows,immLL_rI,immLL_rB8,immLL_rS,immLL_rBo,immLL_rII,immLL_rIIt,List.map_nil];exact rfl) ?_;simp -implicitDefEqProofs (disch:=omega) only [go_sem,↓reduceIte ,List.map_nil];refine call_B (hF) (by simp -implicitDefEqProofs (disch:=omega) only [go_sem,↓reduceIte,deep,TD.rows,immLL_rI,immLL_rB8,immLL_rS,immLL_rBo,immLL_rII,immLL_rIIt,List.map_nil,Int.reduceEq,decide_true,decide_false];exact rfl) ?_;simp -implicitDefEqProofs (disch:=omega) only [go_sem,↓reduceIte ,List.map_nil,Int.reduceEq,decide_true,decide_false]
    | true =>
      have t3 : trimC a = 0:=(by unfold trimC;rw [h];rfl);have hk:=trim_ok h;have hBm:=setB_trim h hB;have hT2:=vTrimSet_impl (trimR a) hBm;have t4 : trimC (trimR a) = 0:=(by unfold trimC;rw [hk];rfl);rw [trim_trim h,t4] at hT2;rw [t3] at hI hS;have hM:=vMergeSets_impl a hok hcn a hok hcn;rw [(merge_self h).1,(merge_self h).2] at hM;have hdue : ∀ i,i < a.Tiles.length → ∃ m : Nat,m < (trimR a).Tiles.length ∧ (trimA a)[i]? = some (m : Int) ∧ ∀ d,d < 4 → sideN (trimR a) m d = nowS a (sideN a i d):=fun i hi => trim_due h hi;have hbond : ∀ {i j d : Nat},i < a.Tiles.length → j < a.Tiles.length → d < 4 → ∀ {m n : Nat},(∀ d,d < 4 → sideN (trimR a) m d = nowS a (sideN a i d)) → (∀ d,d < 4 → sideN (trimR a) n d = nowS a (sideN a j d)) → bondN (trimR a) m d n = bondN a i d j:=fun hi hj hd _ _ h1 h2 => trim_bond h hi hj hd h1 h2;have hal : (trimA a).length = a.Tiles.length:=(by rw [trimA_of h];exact (tr_inv h _ (Nat.le_refl _)).len);generalize trimA (trimR a) = due2 at *;generalize trimR a = m at *;generalize trimA a = due at *;have hlen:=okSet_len h;have hE:=v_SameSet m m (setLen_B hBm);have hE1 : decide (m = m) = true:=(by simp);rw [hE1] at hE;have hE2:=v_SameSet a a (setLen_B hB);have hE3 : decide (a = a) = true:=(by simp);rw [hE3] at hE2;have hF:=v_f6ints due due (by omega);have hF1 : decide (due = due) = true:=(by simp);rw [hF1] at hF;have hB1:=fun (i d j : Nat) (hi : i < a.Tiles.length) (hd : d < 4) (hj : j < a.Tiles.length) => v_BondOf_spec a hB h i d j hi hd hj;have hB2:=fun (i d j : Nat) (hi : i < m.Tiles.length) (hd : d < 4) (hj : j < m.Tiles.length) => v_BondOf_impl m hBm hk i d j hi hd hj;simp only [TileSet.td_d] at hI hS hD hT2 hM hB1 hB2;refine call_B (hD) (by simp -implicitDefEqProofs (disch:=omega) only [go_sem,↓reduceIte,deep,TD.rows,immLL_rI,immLL_rB8,immLL_rS,immLL_rBo,immLL_rII,immLL_rIIt];exact rfl) ?_;simp -implicitDefEqProofs (disch:=omega) only [go_sem,↓reduceIte];refine call_B (hI) (by simp -implicitDefEqProofs (disch:=omega) only [go_sem,↓reduceIte,deep,TD.rows,immLL_rI,immLL_rB8,immLL_rS,immLL_rBo,immLL_rII,immLL_rIIt];exact rfl) ?_;simp -implicitDefEqProofs (disch:=omega) only [go_sem,↓reduceIte];refine call_B (hS) (by simp -implicitDefEqProofs (disch:=omega) only [go_sem,↓reduceIte,deep,TD.rows,immLL_rI,immLL_rB8,immLL_rS,immLL_rBo,immLL_rII,immLL_rIIt,Int.reduceEq,decide_true,decide_false];exact rfl) ?_;simp -implicitDefEqProofs (disch:=omega) only [go_sem,↓reduceIte ,Int.reduceEq,decide_true,decide_false];refine call_B (hE) (by simp -implicitDefEqProofs (disch:=omega) only [go_sem,↓reduceIte,deep,TD.rows,immLL_rI,immLL_rB8,immLL_rS,immLL_rBo,immLL_rII,immLL_rIIt];exact rfl) ?_;simp -implicitDefEqProofs (disch:=omega) only [go_sem,↓reduceIte];refine call_B (hF) (by simp -implicitDefEqProofs (disch:=omega) only [go_sem,↓reduceIte,deep,TD.rows,immLL_rI,immLL_rB8,immLL_rS,immLL_rBo,immLL_rII,immLL_rIIt,Int.reduceEq,decide_true,decide_false];exact rfl) ?_;simp -implicitDefEqProofs (disch:=omega) only [go_sem,↓reduceIte ,Int.reduceEq,decide_true,decide_false];refine call_B (hT2) (by simp -implicitDefEqProofs (disch:=omega) only [go_sem,↓reduceIte,deep,TD.rows,immLL_rI,immLL_rB8,immLL_rS,immLL_rBo,immLL_rII,immLL_rIIt];exact rfl) ?_;simp -implicitDefEqProofs (disch:=omega) only [go_sem,↓reduceIte];refine call_B (hM) (by simp -implicitDefEqProofs (disch:=omega) only [go_sem,↓reduceIte,deep,TD.rows,immLL_rI,immLL_rB8,immLL_rS,immLL_rBo,immLL_rII,immLL_rIIt,Int.reduceEq,decide_true,decide_false];exact rfl) ?_;simp -implicitDefEqProofs (disch:=omega) only [go_sem,↓reduceIte ,Int.reduceEq,decide_true,decide_false];refine call_B (hE) (by simp -implicitDefEqProofs (disch:=omega) only [go_sem,↓reduceIte,deep,TD.rows,immLL_rI,immLL_rB8,immLL_rS,immLL_rBo,immLL_rII,immLL_rIIt,Int.reduceEq,decide_true,decide_false];exact rfl) ?_;simp -implicitDefEqProofs (disch:=omega) only [go_sem,↓reduceIte ,Int.reduceEq,decide_true,decide_false];obtain ⟨n,hn,hn1⟩ : ∃ n : Nat,(if (12 : Int) < (a.Tiles.length : Int) then 12 else (a.Tiles.length : Int)) = (n : Int) ∧ n ≤ a.Tiles.length:=by
        split
        · exact ⟨12,rfl,by omega⟩
        · exact ⟨_,rfl,Nat.le_refl _⟩
      refine call_B (hE2) (by simp -implicitDefEqProofs (disch:=omega) only [go_sem,↓reduceIte,deep,TD.rows,immLL_rI,immLL_rB8,immLL_rS,immLL_rBo,immLL_rII,immLL_rIIt,Int.reduceEq,decide_true,decide_false,List.length_map,hn];exact rfl) ?_;simp -implicitDefEqProofs (disch:=omega) only [go_sem,↓reduceIte ,Int.reduceEq,decide_true,decide_false,List.length_map,hn];refine loop_ov (by simp -implicitDefEqProofs (disch:=omega) only [go_sem,↓reduceIte];exact rfl) (fun i : Nat => [(16,.v (.int .i64 (i : Nat)))]) (fun _ => by simp only [ovr_nil,ovr_cons,List.set_cons_zero,List.set_cons_succ];exact rfl) (fun i : Nat => i ≤ n) (fun i : Nat => n - i) (0) (nleA) (?_) ?_
      · exact Nat.zero_le _
      intro i hi;simp -implicitDefEqProofs (disch:=omega) only [go_sem,↓reduceIte];refine cond_split ?_ ?_ <;> intro hlt
      · have hlt : i < n:=(by simpa using hlt);simp -implicitDefEqProofs (disch:=omega) only [go_sem,↓reduceIte];refine loop_ov (by simp -implicitDefEqProofs (disch:=omega) only [go_sem,↓reduceIte];exact rfl) (fun j : Nat => [(17,.v (.int .i64 (j : Nat)))]) (fun _ => by simp only [ovr_nil,ovr_cons,List.set_cons_zero,List.set_cons_succ];exact rfl) (fun j : Nat => j ≤ n) (fun j : Nat => n - j) (0) (nleA) (?_) ?_
        · exact Nat.zero_le _
        intro j hj;simp -implicitDefEqProofs (disch:=omega) only [go_sem,↓reduceIte];refine cond_split ?_ ?_ <;> intro hltj
        · have hltj : j < n:=(by simpa using hltj);simp -implicitDefEqProofs (disch:=omega) only [go_sem,↓reduceIte];refine loop_ov (by simp -implicitDefEqProofs (disch:=omega) only [go_sem,↓reduceIte];exact rfl) (fun d : Nat => [(18,.v (.int .i64 (d : Nat)))]) (fun _ => by simp only [ovr_nil,ovr_cons,List.set_cons_zero,List.set_cons_succ];exact rfl) (fun d : Nat => d ≤ 4) (fun d : Nat => 4 - d) (0) (nleA) (?_) ?_
          · exact Nat.zero_le _
          intro d hd;simp -implicitDefEqProofs (disch:=omega) only [go_sem,↓reduceIte];refine cond_split ?_ ?_ <;> intro hltd
          · have hltd : d < 4:=(by have:=of_decide_eq_true hltd;omega);obtain ⟨p,hp1,hp2,hp3⟩:=hdue i (by omega);obtain ⟨q,hq1,hq2,hq3⟩:=hdue j (by omega);have hX:=hB2 p d q hp1 hltd hq1;rw [hbond (by omega) (by omega) hltd hp3 hq3] at hX;have hY:=hB1 i d j (by omega) hltd (by omega);have hpl : i < due.length:=(by omega);have hql : j < due.length:=(by omega);have hself : decide (bondN a i d j = bondN a i d j) = true:=(by simp);simp -implicitDefEqProofs (disch:=omega) only [go_sem,↓reduceIte];refine call_B (hY) (by simp -implicitDefEqProofs (disch:=omega) only [go_sem,↓reduceIte,deep,TD.rows,immLL_rI,immLL_rB8,immLL_rS,immLL_rBo,immLL_rII,immLL_rIIt,List.length_map,Int.toNat_natCast,Int.ofNat_lt,Int.natCast_nonneg,List.getElem?_map,Option.map_some,hpl,hql,hp2,hq2,rI];exact rfl) ?_;simp -implicitDefEqProofs (disch:=omega) only [go_sem,↓reduceIte ,List.length_map,Int.toNat_natCast,Int.ofNat_lt,Int.natCast_nonneg,List.getElem?_map,Option.map_some,hpl,hql,hp2,hq2,rI];refine call_NB (hX) (by simp -implicitDefEqProofs (disch:=omega) only [go_sem,↓reduceIte,deep,TD.rows,immLL_rI,immLL_rB8,immLL_rS,immLL_rBo,immLL_rII,immLL_rIIt,Int.reduceEq,decide_true,decide_false,hself,wrN];exact rfl) ?_;simp -implicitDefEqProofs (disch:=omega) only [go_sem,↓reduceIte ,Int.reduceEq,decide_true,decide_false,hself,wrN];exact ⟨d + 1,by omega,hltd,nleA⟩
          · simp -implicitDefEqProofs (disch:=omega) only [go_sem,↓reduceIte ,wrN];exact ⟨j + 1,by omega,hltj,nleA⟩
        · simp -implicitDefEqProofs (disch:=omega) only [go_sem,↓reduceIte ,wrN];exact ⟨i + 1,by omega,hlt,nleA⟩
      · simp -implicitDefEqProofs (disch:=omega) only [go_sem,↓reduceIte]
theorem walk_fnTrimmed (q_code_v : Value) (q_code : List Int) (w : World) (q_code_h : (Ty.slice 5 (Ty.int .u8)).rep w w.heap.size [q_code_v] q_code) : Calls Try.prog 5 #[q_code_v] w fun e w' => e = .returned (.bool true) ∧ Below w.heap.size w w':=by refine (Contract.at (vlawTrimmed q_code ((TD.slice 5 (TD.int .u8)).rep_ok q_code_h)) gI (Nat.le_refl _) (vals_cons (TD.arg_slice (TD.int .u8) q_code_h) vals_nil)).mono ?_;rintro e w' ⟨⟨v,I,F,rfl,hT,hn,hF⟩,hb⟩;obtain rfl:=T_v hT;exact ⟨rfl,hb⟩
end Go.Proofs.Ytoiaenkipdneeaa
