/- Laws that the proof stands on. -/
import Derived.Test.YtoiaenkipdneeaaZg14
import Derived.Test.YtoiaenkipdneeaaZg10
set_option linter.all false
namespace Go.Proofs.Ytoiaenkipdneeaa
open Go.RowKit Go.V
attribute [local go_sem] List.getElem?_cons_succ List.getElem?_cons_zero List.set_cons_succ List.set_cons_zero List.map_cons List.map_nil List.length_cons List.length_nil List.all_cons List.all_nil List.drop_succ_cons List.drop_zero List.take_succ_cons List.take_zero List.flatMap_cons List.flatMap_nil List.cons_append List.nil_append List.append_nil List.headD_cons Value.oneCell' Bool.and_true Bool.true_and Bool.or_false Bool.false_or Bool.and_self Bool.not_true Bool.not_false and_true true_and beq_self_eq_true Bool.false_eq_true if_true if_false Nat.zero_add Nat.reduceAdd Nat.reduceMul Nat.reduceLeDiff Nat.le_refl Option.isSome_some Option.isSome_none not_true_eq_false not_false_eq_true ne_eq reduceCtorEq List.reverse_nil bne_self_eq_false Nat.reduceEqDiff List.isPrefixOf Bool.not_eq_true Bool.and_false Bool.false_and Bool.true_or Bool.or_true decide_true decide_false Nat.reduceBEq Nat.reduceBNe List.replicate_succ List.replicate_zero exists_eq_left' exists_eq_left Option.some.injEq or_false or_true true_or false_or Option.map_some Option.map_none mB Nat.reduceMod Nat.reduceDiv
set_option maxRecDepth 100000
def code_impl_TileSet_glueNamed_1 : VCode:=(.seq (.ops [
  ⟨(some 2),none,(.box (.tmp 0))⟩,
  ⟨(some 3),none,(.asg (.const (.bool false)))⟩]) (.seq (.ops [
  ⟨(some 4),none,(.fa 0 (.tmp 2))⟩,
  ⟨(some 5),none,(.load 1 false (.tmp 4))⟩,
  ⟨(some 6),none,(.load 1 false (.tmp 1))⟩,
  ⟨(some 7),none,(.bin .eql (.tmp 5) (.tmp 6))⟩,
  ⟨(some 3),none,(.asg (.tmp 7))⟩]) .ret))
theorem law_impl_TileSet_glueNamed_1 {a0 a1 d : D} (h : code_impl_TileSet_glueNamed_1.wp (CT Try.prog NoG) (endQ [(.t 3)] d) [a0,a1,.undef,.undef,.undef,.undef,.undef,.undef]) : Contract Try.prog NoG 97 [a0,a1] d :=
  contract_of (pt:=0) noG Try.func97 (fun us W => by kernel_rfl) (c:=Try.f97.body.getD .skip) (ms:=[]) (ms':=[]) (by kernel_rfl) (by kernel_rfl) (by kernel_rfl) h
def code_impl_TileSet_glueNamed : VCode:=(.seq (.ops [
  ⟨(some 2),none,(.box (.tmp 0))⟩,
  ⟨(some 3),none,(.box (.tmp 1))⟩,
  ⟨(some 4),none,(.asg (.const (.int .i64 0)))⟩]) (.seq (.ops [
  ⟨(some 5),none,(.fa 0 (.tmp 2))⟩,
  ⟨(some 6),none,(.load 1 false (.tmp 5))⟩,
  ⟨(some 7),none,(.mkf 97 [] [(.tmp 3)])⟩,
  ⟨(some 8),none,(.callX 96 [(.tmp 6),(.tmp 7)])⟩,
  ⟨(some 9),none,(.bin .add (.tmp 8) (.const (.int .i64 1)))⟩,
  ⟨(some 4),none,(.asg (.tmp 9))⟩]) .ret))
theorem law_impl_TileSet_glueNamed {a0 a1 d : D} (h : code_impl_TileSet_glueNamed.wp (CT Try.prog NoG) (endQ [(.t 4)] d) [a0,a1,.undef,.undef,.undef,.undef,.undef,.undef,.undef,.undef]) : Contract Try.prog NoG 68 [a0,a1] d :=
  contract_of (pt:=0) noG Try.func68 (fun us W => by kernel_rfl) (c:=Try.f68.body.getD .skip) (ms:=[]) (ms':=[]) (by kernel_rfl) (by kernel_rfl) (by kernel_rfl) h
theorem v_glueNamed1 (g : Glue) (n : ByteArray) : Contract Try.prog NoG 97 [.agg (Glue.td.d false g),.iptr [.v (.string n)] 0] (.v (.bool (decide (g.Name = n)))):=by rw [Glue.td_d];refine law_impl_TileSet_glueNamed_1 ?_;unfold code_impl_TileSet_glueNamed_1;simp -implicitDefEqProofs (disch:=omega) only [go_sem,↓reduceIte]
theorem v_glueNamed (gs : List Glue) (ts : List Tile) (n : ByteArray) (hg : gs.length ≤ 1048576) : Contract Try.prog NoG 68 [.agg [.sl false 2 (gs.map (Glue.td.d false)),.sl false 2 (ts.map (Tile.td.d false))],.v (.string n)] (.v (.int .i64 (gIdx gs n + 1))):=by refine law_impl_TileSet_glueNamed ?_;unfold code_impl_TileSet_glueNamed;simp -implicitDefEqProofs (disch:=omega) only [go_sem,↓reduceIte];refine call_B (v_IndexFunc_Glue _ [.iptr [.v (.string n)] 0] ⟨rfl,fun _ => rfl,fun _ => rfl,fun _ => rfl⟩ gs (fun g => decide (g.Name = n)) (fun x _ => v_glueNamed1 x n) (by omega)) (by simp -implicitDefEqProofs (disch:=omega) only [go_sem,↓reduceIte,deep,TD.rows,immLL_rI,immLL_rB8,immLL_rS,immLL_rBo,immLL_rII,immLL_rIIt];exact rfl) ?_;simp -implicitDefEqProofs (disch:=omega) only [go_sem,↓reduceIte];have h1:=vIdx_ge (fun x : Glue => decide (x.Name = n)) gs;have h2:=vIdx_lt (fun x : Glue => decide (x.Name = n)) gs;simp -implicitDefEqProofs (disch:=omega) only [go_sem,↓reduceIte ,wrI];rfl
def code_impl_TileSet_tileNamed_1 : VCode:=(.seq (.ops [
  ⟨(some 2),none,(.box (.tmp 0))⟩,
  ⟨(some 3),none,(.asg (.const (.bool false)))⟩]) (.seq (.ops [
  ⟨(some 4),none,(.fa 0 (.tmp 2))⟩,
  ⟨(some 5),none,(.load 1 false (.tmp 4))⟩,
  ⟨(some 6),none,(.load 1 false (.tmp 1))⟩,
  ⟨(some 7),none,(.bin .eql (.tmp 5) (.tmp 6))⟩,
  ⟨(some 3),none,(.asg (.tmp 7))⟩]) .ret))
theorem law_impl_TileSet_tileNamed_1 {a0 a1 d : D} (h : code_impl_TileSet_tileNamed_1.wp (CT Try.prog NoG) (endQ [(.t 3)] d) [a0,a1,.undef,.undef,.undef,.undef,.undef,.undef]) : Contract Try.prog NoG 98 [a0,a1] d :=
  contract_of (pt:=0) noG Try.func98 (fun us W => by kernel_rfl) (c:=Try.f98.body.getD .skip) (ms:=[]) (ms':=[]) (by kernel_rfl) (by kernel_rfl) (by kernel_rfl) h
def code_impl_TileSet_tileNamed : VCode:=(.seq (.ops [
  ⟨(some 2),none,(.box (.tmp 0))⟩,
  ⟨(some 3),none,(.box (.tmp 1))⟩,
  ⟨(some 4),none,(.asg (.const (.int .i64 0)))⟩]) (.seq (.ops [
  ⟨(some 5),none,(.fa 1 (.tmp 2))⟩,
  ⟨(some 6),none,(.load 1 false (.tmp 5))⟩,
  ⟨(some 7),none,(.mkf 98 [] [(.tmp 3)])⟩,
  ⟨(some 8),none,(.callX 63 [(.tmp 6),(.tmp 7)])⟩,
  ⟨(some 4),none,(.asg (.tmp 8))⟩]) .ret))
theorem law_impl_TileSet_tileNamed {a0 a1 d : D} (h : code_impl_TileSet_tileNamed.wp (CT Try.prog NoG) (endQ [(.t 4)] d) [a0,a1,.undef,.undef,.undef,.undef,.undef,.undef,.undef]) : Contract Try.prog NoG 69 [a0,a1] d :=
  contract_of (pt:=0) noG Try.func69 (fun us W => by kernel_rfl) (c:=Try.f69.body.getD .skip) (ms:=[]) (ms':=[]) (by kernel_rfl) (by kernel_rfl) (by kernel_rfl) h
theorem v_tileNamed1 (g : Tile) (n : ByteArray) : Contract Try.prog NoG 98 [.agg (Tile.td.d false g),.iptr [.v (.string n)] 0] (.v (.bool (decide (g.Name = n)))):=by rw [Tile.td_d];refine law_impl_TileSet_tileNamed_1 ?_;unfold code_impl_TileSet_tileNamed_1;simp -implicitDefEqProofs (disch:=omega) only [go_sem,↓reduceIte]
theorem v_tileNamed (ts : List Tile) (gs : List Glue) (n : ByteArray) (hg : ts.length ≤ 1048576) : Contract Try.prog NoG 69 [.agg [.sl false 2 (gs.map (Glue.td.d false)),.sl false 2 (ts.map (Tile.td.d false))],.v (.string n)] (.v (.int .i64 (tIdx ts n))):=by refine law_impl_TileSet_tileNamed ?_;unfold code_impl_TileSet_tileNamed;simp -implicitDefEqProofs (disch:=omega) only [go_sem,↓reduceIte];refine call_B (v_IndexFunc_Tile _ [.iptr [.v (.string n)] 0] ⟨rfl,fun _ => rfl,fun _ => rfl,fun _ => rfl⟩ ts (fun g => decide (g.Name = n)) (fun x _ => v_tileNamed1 x n) (by omega)) (by simp -implicitDefEqProofs (disch:=omega) only [go_sem,↓reduceIte,deep,TD.rows,immLL_rI,immLL_rB8,immLL_rS,immLL_rBo,immLL_rII,immLL_rIIt];exact rfl) ?_;simp -implicitDefEqProofs (disch:=omega) only [go_sem,↓reduceIte];rfl
def code_impl_TileSet_translated : VCode:=(.seq (.ops [
  ⟨(some 3),none,(.box (.tmp 0))⟩,
  ⟨(some 4),none,(.box (.tmp 1))⟩,
  ⟨(some 5),none,(.box (.tmp 2))⟩,
  ⟨(some 6),none,(.asg (.const (.slice none 0 0)))⟩]) (.seq (.ops [
  ⟨(some 10),none,(.mks 1 8 [(.int .i64 0)] (.const (.int .i64 4)) (.const (.int .i64 4)))⟩,
  ⟨(some 7),none,(.asg (.tmp 10))⟩]) (.seq (.seq (.ops [
  ⟨(some 11),none,(.fa 1 (.tmp 4))⟩,
  ⟨(some 12),none,(.load 1 false (.tmp 11))⟩,
  ⟨(some 13),none,(.len (.tmp 12))⟩,
  ⟨(some 14),none,(.mv (.const (.int .i64 0)))⟩]) (.block 0 (.loop (mB 35 34359706439) (.seq (.ops [
  ⟨(some 15),none,(.bin .lss (.tmp 14) (.tmp 13))⟩]) (.seq (.cond (.tmp 15) .skip (.exit 0)) (.seq (.block 1 (.seq (.ops [
  ⟨(some 16),none,(.mv (.tmp 14))⟩,
  ⟨(some 17),none,(.ia 1 (.tmp 12) (.tmp 14))⟩,
  ⟨(some 18),none,(.load 1 false (.tmp 17))⟩,
  ⟨(some 8),none,(.asg (.tmp 16))⟩,
  ⟨(some 9),none,(.asg (.tmp 18))⟩]) (.seq (.ops [
  ⟨(some 19),none,(.mv (.tmp 9))⟩,
  ⟨(some 20),none,(.bin .gtr (.tmp 19) (.const (.int .i64 0)))⟩]) (.cond (.tmp 20) (.draw (mB 32 4292870144) [] [⟨0,(mB 32 4292870144),[],⟨(some 21),none,(.mv (.tmp 7))⟩⟩,⟨1,(mB 32 4292870144),[],⟨(some 22),none,(.mv (.tmp 8))⟩⟩,⟨2,(mB 32 4292870144),[],⟨(some 23),none,(.load 2 true (.tmp 3))⟩⟩,⟨3,(mB 32 4292870144),[],⟨(some 24),none,(.fa 0 (.tmp 5))⟩⟩,⟨4,(mB 32 4276092928),[],⟨(some 25),none,(.load 1 false (.tmp 24))⟩⟩,⟨5,(mB 32 4292870144),[],⟨(some 26),none,(.mv (.tmp 9))⟩⟩,⟨6,(mB 32 4225761280),[],⟨(some 27),none,(.bin .sub (.tmp 26) (.const (.int .i64 1)))⟩⟩,⟨7,(mB 32 4041211904),[],⟨(some 28),none,(.ia 2 (.tmp 25) (.tmp 27))⟩⟩,⟨8,(mB 32 3772776448),[],⟨(some 29),none,(.fa 0 (.tmp 28))⟩⟩,⟨9,(mB 32 3235905536),[],⟨(some 30),none,(.load 1 false (.tmp 29))⟩⟩,⟨10,(mB 32 2153775104),[],⟨(some 31),none,(.call 68 [(.tmp 23),(.tmp 30)])⟩⟩] [⟨(some 32),none,(.ia 1 (.tmp 21) (.tmp 22))⟩,⟨none,none,(.store 1 (.tmp 32) (.tmp 31))⟩]) .skip)))) (.ops [
  ⟨(some 33),none,(.bin .add (.tmp 14) (.const (.int .i64 1)))⟩,
  ⟨(some 14),none,(.mv (.tmp 33))⟩]))))))) (.seq (.ops [
  ⟨(some 34),none,(.mv (.tmp 7))⟩,
  ⟨(some 6),none,(.asg (.tmp 34))⟩]) .ret))))
theorem law_impl_TileSet_translated {a0 a1 a2 d : D} (h : code_impl_TileSet_translated.wp (CT Try.prog NoG) (endQ [(.t 6)] d) [a0,a1,a2,.undef,.undef,.undef,.undef,.undef,.undef,.undef,.undef,.undef,.undef,.undef,.undef,.undef,.undef,.undef,.undef,.undef,.undef,.undef,.undef,.undef,.undef,.undef,.undef,.undef,.undef,.undef,.undef,.undef,.undef,.undef,.undef]) : Contract Try.prog NoG 62 [a0,a1,a2] d :=
  contract_of (pt:=0) noG Try.func62 (fun us W => by kernel_rfl) (c:=Try.f62.body.getD .skip) (ms:=[(mB 35 34359706439)]) (ms':=[]) (by kernel_rfl) (by kernel_rfl) (by kernel_rfl) h
set_option maxHeartbeats 2000000 in
theorem v_translated (gs : List Glue) (ts : List Tile) (t : Tile) (b : TileSet) (hg : gs.length ≤ 1048576) (h4 : t.Sides.length = 4) (hs : ∀ x,x ∈ t.Sides → 0 ≤ x ∧ x ≤ b.Glues.length) (hb : b.Glues.length ≤ 1048576) : Contract Try.prog NoG 62 [.agg [.sl false 2 (gs.map (Glue.td.d false)),.sl false 2 (ts.map (Tile.td.d false))],.agg (Tile.td.d false t),.agg (TileSet.td.d false b)] (.sl true 1 ((mgS gs b.Glues t.Sides).map rI)):=by
  rw [Tile.td_d,TileSet.td_d];refine law_impl_TileSet_translated ?_;unfold code_impl_TileSet_translated;simp -implicitDefEqProofs (disch:=omega) only [go_sem,↓reduceIte ,List.length_map]
  repeat (refine And.intro (by first | omega | decide) ?_)
  refine loop_ov (by simp -implicitDefEqProofs (disch:=omega) only [go_sem,↓reduceIte];exact rfl) (fun i : Nat => [(14,.v (.int .i64 (i : Nat))),(7,.sl true 1 ((mgP gs b.Glues t.Sides i).map rI))]) (fun _ => by simp only [ovr_nil,ovr_cons,List.set_cons_zero,List.set_cons_succ];exact rfl) (fun i : Nat => i ≤ t.Sides.length) (fun i : Nat => t.Sides.length - i) (0) (by rw [mgP_zero,h4];(try simp -implicitDefEqProofs only [nleL_cc,nleL_nn,nle_self,nle_boxs,nle_aggs,nle_nils,and_self,and_true,true_and]) <;> repeat' (first | exact nle_of_eq rfl | exact nle_nil | apply And.intro | apply nle_sl | apply nleLL_cons | apply nleL_cons | exact nleL_nil | exact nleLL_nil | apply nle_box | apply nle_agg)) (Nat.zero_le _) ?_;intro i hi;simp -implicitDefEqProofs (disch:=omega) only [go_sem,↓reduceIte ,List.length_map,Int.toNat_natCast,Int.ofNat_lt,Int.natCast_nonneg,List.getElem?_map,Option.map_some];refine cond_split ?_ ?_ <;> intro hlt
  · have hlt : i < t.Sides.length:=(by simpa using hlt);have e1:=List.getElem?_eq_getElem hlt;have hsi:=hs _ (List.getElem_mem hlt);simp -implicitDefEqProofs (disch:=omega) only [go_sem,↓reduceIte ,List.length_map,Int.toNat_natCast,Int.ofNat_lt,Int.natCast_nonneg,List.getElem?_map,Option.map_some,hlt,e1];refine cond_split ?_ ?_ <;> intro h0
    · have h0 : 0 < t.Sides[i]:=(by simpa using h0);obtain ⟨n,hn⟩ : ∃ n : Nat,t.Sides[i] - 1 = (n : Int):=⟨(t.Sides[i] - 1).toNat,by omega⟩
      have hnl : n < b.Glues.length:=(by omega);have e2:=List.getElem?_eq_getElem hnl;have e3:=List.getElem?_eq_getElem (l:=mgP gs b.Glues t.Sides i) (i:=i) (by rw [mgP_len _ _ hi];exact hlt);have hw : IntKind.i64.wrap (t.Sides[i] - 1) = (n : Int):=(by rw [wrI (by omega) (by omega)];exact hn);have hv : gIdx gs b.Glues[n].Name + 1 = mgN gs b.Glues t.Sides[i]:=(by unfold mgN;rw [if_pos h0,hn,Int.toNat_natCast,List.getD_eq_getElem?_getD,e2];rfl);have hset : ((mgP gs b.Glues t.Sides i).map rI).set i [.v (.int .i64 (mgN gs b.Glues t.Sides[i]))] = (mgP gs b.Glues t.Sides (i + 1)).map rI:=(by rw [← mgP_set gs b.Glues hlt,List.map_set]);simp -implicitDefEqProofs (disch:=omega) only [go_sem,↓reduceIte ,List.length_map,Int.toNat_natCast,Int.ofNat_lt,Int.natCast_nonneg,List.getElem?_map,Option.map_some,hw,hnl,e2,Glue.td_d];refine call_NB (v_glueNamed gs ts b.Glues[n].Name hg) (by simp -implicitDefEqProofs (disch:=omega) only [go_sem,↓reduceIte,deep,TD.rows,immLL_rI,immLL_rB8,immLL_rS,immLL_rBo,immLL_rII,immLL_rIIt,List.length_map,Int.toNat_natCast,Int.ofNat_lt,Int.natCast_nonneg,List.getElem?_map,Option.map_some,mgP_len,hlt,e3,hv,hset,wrN];exact rfl) ?_;simp -implicitDefEqProofs (disch:=omega) only [go_sem,↓reduceIte ,List.length_map,Int.toNat_natCast,Int.ofNat_lt,Int.natCast_nonneg,List.getElem?_map,Option.map_some,mgP_len,hlt,e3,hv,hset,wrN]
      repeat (refine And.intro (by omega) ?_)
      exact ⟨i + 1,by omega,hlt,nleA⟩
    · have h0 : ¬ 0 < t.Sides[i]:=(by simpa using h0);simp -implicitDefEqProofs (disch:=omega) only [go_sem,↓reduceIte ,wrN];refine ⟨i + 1,by omega,hlt,?_⟩;rw [← mgP_skip gs b.Glues hlt h0]
      (try simp -implicitDefEqProofs only [nleL_cc,nleL_nn,nle_self,nle_boxs,nle_aggs,nle_nils,and_self,and_true,true_and]) <;> repeat' (first | exact nle_of_eq rfl | exact nle_nil | apply And.intro | apply nle_sl | apply nleLL_cons | apply nleL_cons | exact nleL_nil | exact nleLL_nil | apply nle_box | apply nle_agg)
  · have hge : i = t.Sides.length:=by have : ¬ i < t.Sides.length:=by simpa using hlt
                                      omega
    subst hge;simp -implicitDefEqProofs (disch:=omega) only [go_sem,↓reduceIte ,mgP_end]
theorem any_take {α : Type} {p : α → Bool} {xs : List α} {i : Nat} (hi : i < xs.length) : (xs.take (i + 1)).any p = ((xs.take i).any p || p xs[i]):=by rw [List.take_succ_eq_append_getElem hi,List.any_append];simp
theorem any_at {α : Type} {p : α → Bool} {xs : List α} {i : Nat} (hi : i < xs.length) (h : p xs[i] = true) : xs.any p = true:=List.any_eq_true.2 ⟨_,List.getElem_mem hi,h⟩
theorem gIdx_hit {gs : List Glue} {nm : ByteArray} {n : Nat} (h : gIdx gs nm = (n : Int)) : ∃ hn : n < gs.length,gs[n].Name = nm:=by
  unfold gIdx vIdx at h;split at h
  · rename_i k hk;obtain rfl : k = n:=by omega
    obtain ⟨hk1,hk2,_⟩:=List.findIdx?_eq_some_iff_getElem.1 hk;exact ⟨hk1,by simpa using hk2⟩
  · omega
theorem tIdx_hit {gs : List Tile} {nm : ByteArray} {n : Nat} (h : tIdx gs nm = (n : Int)) : ∃ hn : n < gs.length,gs[n].Name = nm:=by
  unfold tIdx vIdx at h;split at h
  · rename_i k hk;obtain rfl : k = n:=by omega
    obtain ⟨hk1,hk2,_⟩:=List.findIdx?_eq_some_iff_getElem.1 hk;exact ⟨hk1,by simpa using hk2⟩
  · omega
theorem gIdx_cases (gs : List Glue) (nm : ByteArray) : (∃ n : Nat,gIdx gs nm = (n : Int)) ∨ gIdx gs nm = -1:=by
  unfold gIdx vIdx;split
  · exact .inl ⟨_,rfl⟩
  · exact .inr rfl
theorem tIdx_cases (gs : List Tile) (nm : ByteArray) : (∃ n : Nat,tIdx gs nm = (n : Int)) ∨ tIdx gs nm = -1:=by
  unfold tIdx vIdx;split
  · exact .inl ⟨_,rfl⟩
  · exact .inr rfl
theorem clG_hit {a : TileSet} {g : Glue} {n : Nat} (h : gIdx a.Glues g.Name = (n : Int)) (hn : n < a.Glues.length) : clG a g = !decide (a.Glues[n].Strength = g.Strength):=by unfold clG;rw [h,Int.toNat_natCast,List.getD_eq_getElem?_getD,List.getElem?_eq_getElem hn];simp
theorem clG_miss {a : TileSet} {g : Glue} (h : gIdx a.Glues g.Name = -1) : clG a g = false:=by unfold clG;rw [h];rfl
theorem clT_hit {a b : TileSet} {g : Tile} {n : Nat} (h : tIdx a.Tiles g.Name = (n : Int)) (hn : n < a.Tiles.length) : clT a b g = !decide (a.Tiles[n].Sides = mgS (outG a b) b.Glues g.Sides):=by unfold clT;rw [h,Int.toNat_natCast,List.getD_eq_getElem?_getD,List.getElem?_eq_getElem hn];simp only [Option.getD_some,Int.natCast_nonneg,decide_true,Bool.true_and];rfl
theorem clT_miss {a b : TileSet} {g : Tile} (h : tIdx a.Tiles g.Name = -1) : clT a b g = false:=by unfold clT;rw [h];rfl
def code_impl_MergeSets : VCode:=(.seq (.ops [
  ⟨(some 2),none,(.box (.tmp 0))⟩,
  ⟨(some 3),none,(.box (.tmp 1))⟩,
  ⟨(some 4),none,(.alloc [(.slice none 0 0),(.slice none 0 0)])⟩,
  ⟨(some 5),none,(.asg (.const (.int .i64 0)))⟩]) (.seq (.seq (.ops [
  ⟨(some 14),none,(.load 2 true (.tmp 2))⟩,
  ⟨(some 15),none,(.callX 31 [(.tmp 14)])⟩,
  ⟨(some 16),none,(.un .not (.tmp 15))⟩,
  ⟨(some 17),none,(.mv (.tmp 16))⟩,
  ⟨(some 18),(some (17,false)),(.load 2 true (.tmp 3))⟩,
  ⟨(some 19),(some (17,false)),(.callX 31 [(.tmp 18)])⟩,
  ⟨(some 20),(some (17,false)),(.un .not (.tmp 19))⟩,
  ⟨(some 21),none,(.pick (.tmp 17) (.const (.bool true)) (.tmp 20))⟩]) (.cond (.tmp 21) (.seq (.ops [
  ⟨(some 22),none,(.build [(.slice none 0 0),(.slice none 0 0)] [])⟩,
  ⟨none,none,(.store 2 (.tmp 4) (.tmp 22))⟩,
  ⟨(some 5),none,(.asg (.const (.int .i64 1)))⟩]) .ret) .skip)) (.seq (.ops [
  ⟨(some 23),none,(.load 2 true (.tmp 2))⟩,
  ⟨(some 24),none,(.callX 33 [(.tmp 23)])⟩,
  ⟨(some 6),none,(.alloc [(.slice none 0 0),(.slice none 0 0)])⟩,
  ⟨none,none,(.store 2 (.tmp 6) (.tmp 24))⟩]) (.seq (.seq (.ops [
  ⟨(some 25),none,(.fa 0 (.tmp 3))⟩,
  ⟨(some 26),none,(.load 1 false (.tmp 25))⟩,
  ⟨(some 27),none,(.len (.tmp 26))⟩,
  ⟨(some 28),none,(.mv (.const (.int .i64 0)))⟩]) (.block 0 (.loop (mB 96 79228162514264337593040633763) (.seq (.ops [
  ⟨(some 29),none,(.bin .lss (.tmp 28) (.tmp 27))⟩]) (.seq (.cond (.tmp 29) .skip (.exit 0)) (.seq (.block 1 (.seq (.ops [
  ⟨(some 30),none,(.ia 2 (.tmp 26) (.tmp 28))⟩,
  ⟨(some 31),none,(.load 2 true (.tmp 30))⟩,
  ⟨(some 8),none,(.alloc [(.string ⟨⟨[]⟩⟩),(.int .i64 0)])⟩,
  ⟨none,none,(.store 2 (.tmp 8) (.tmp 31))⟩]) (.seq (.ops [
  ⟨(some 32),none,(.load 2 true (.tmp 2))⟩,
  ⟨(some 33),none,(.fa 0 (.tmp 8))⟩,
  ⟨(some 34),none,(.load 1 false (.tmp 33))⟩,
  ⟨(some 35),none,(.callX 68 [(.tmp 32),(.tmp 34)])⟩,
  ⟨(some 9),none,(.asg (.tmp 35))⟩]) (.seq (.ops [
  ⟨(some 36),none,(.mv (.tmp 9))⟩,
  ⟨(some 37),none,(.bin .eql (.tmp 36) (.const (.int .i64 0)))⟩]) (.cond (.tmp 37) (.ops [
  ⟨(some 38),none,(.fa 0 (.tmp 6))⟩,
  ⟨(some 39),none,(.load 1 false (.tmp 38))⟩,
  ⟨(some 40),none,(.load 2 true (.tmp 8))⟩,
  ⟨(some 41),none,(.bsl 2 [(.tmp 40)])⟩,
  ⟨(some 42),none,(.app 2 24 (.tmp 39) (.tmp 41))⟩,
  ⟨(some 43),none,(.fa 0 (.tmp 6))⟩,
  ⟨none,none,(.store 1 (.tmp 43) (.tmp 42))⟩]) (.seq (.draw (mB 51 2234207627640832) [] [⟨0,(mB 51 2234207627640832),[],⟨(some 44),none,(.fa 0 (.tmp 2))⟩⟩,⟨1,(mB 51 2216615441596416),[],⟨(some 45),none,(.load 1 false (.tmp 44))⟩⟩,⟨2,(mB 51 2234207627640832),[],⟨(some 46),none,(.mv (.tmp 9))⟩⟩,⟨3,(mB 51 2163838883463168),[],⟨(some 47),none,(.bin .sub (.tmp 46) (.const (.int .i64 1)))⟩⟩,⟨4,(mB 51 1970324836974592),[],⟨(some 48),none,(.ia 2 (.tmp 45) (.tmp 47))⟩⟩,⟨5,(mB 51 1688849860263936),[],⟨(some 49),none,(.load 2 true (.tmp 48))⟩⟩,⟨6,(mB 51 2234207627640832),[],⟨(some 50),none,(.load 2 true (.tmp 8))⟩⟩] [⟨(some 51),none,(.eqs true [2,1] (.tmp 49) (.tmp 50))⟩]) (.cond (.tmp 51) (.seq (.ops [
  ⟨(some 52),none,(.build [(.slice none 0 0),(.slice none 0 0)] [])⟩,
  ⟨none,none,(.store 2 (.tmp 4) (.tmp 52))⟩,
  ⟨(some 5),none,(.asg (.const (.int .i64 7)))⟩]) .ret) .skip))))))) (.ops [
  ⟨(some 53),none,(.bin .add (.tmp 28) (.const (.int .i64 1)))⟩,
  ⟨(some 28),none,(.mv (.tmp 53))⟩]))))))) (.seq (.seq (.ops [
  ⟨(some 54),none,(.fa 1 (.tmp 3))⟩,
  ⟨(some 55),none,(.load 1 false (.tmp 54))⟩,
  ⟨(some 56),none,(.len (.tmp 55))⟩,
  ⟨(some 57),none,(.mv (.const (.int .i64 0)))⟩]) (.block 2 (.loop (mB 96 79228162513994121615901720483) (.seq (.ops [
  ⟨(some 58),none,(.bin .lss (.tmp 57) (.tmp 56))⟩]) (.seq (.cond (.tmp 58) .skip (.exit 2)) (.seq (.block 3 (.seq (.ops [
  ⟨(some 59),none,(.ia 2 (.tmp 55) (.tmp 57))⟩,
  ⟨(some 60),none,(.load 2 true (.tmp 59))⟩,
  ⟨(some 11),none,(.alloc [(.string ⟨⟨[]⟩⟩),(.slice none 0 0)])⟩,
  ⟨none,none,(.store 2 (.tmp 11) (.tmp 60))⟩]) (.seq (.ops [
  ⟨(some 61),none,(.load 2 true (.tmp 6))⟩,
  ⟨(some 62),none,(.load 2 true (.tmp 11))⟩,
  ⟨(some 63),none,(.load 2 true (.tmp 3))⟩,
  ⟨(some 64),none,(.callX 62 [(.tmp 61),(.tmp 62),(.tmp 63)])⟩,
  ⟨(some 12),none,(.asg (.tmp 64))⟩]) (.seq (.ops [
  ⟨(some 65),none,(.load 2 true (.tmp 2))⟩,
  ⟨(some 66),none,(.fa 0 (.tmp 11))⟩,
  ⟨(some 67),none,(.load 1 false (.tmp 66))⟩,
  ⟨(some 68),none,(.callX 69 [(.tmp 65),(.tmp 67)])⟩,
  ⟨(some 13),none,(.asg (.tmp 68))⟩]) (.seq (.ops [
  ⟨(some 69),none,(.mv (.tmp 13))⟩,
  ⟨(some 70),none,(.bin .lss (.tmp 69) (.const (.int .i64 0)))⟩]) (.cond (.tmp 70) (.ops [
  ⟨(some 71),none,(.fa 1 (.tmp 6))⟩,
  ⟨(some 72),none,(.load 1 false (.tmp 71))⟩,
  ⟨(some 73),none,(.fa 0 (.tmp 11))⟩,
  ⟨(some 74),none,(.load 1 false (.tmp 73))⟩,
  ⟨(some 75),none,(.mv (.tmp 12))⟩,
  ⟨(some 76),none,(.build [(.string ⟨⟨[]⟩⟩),(.slice none 0 0)] [(0,1,(.tmp 74)),(1,1,(.tmp 75))])⟩,
  ⟨(some 77),none,(.bsl 2 [(.tmp 76)])⟩,
  ⟨(some 78),none,(.app 2 40 (.tmp 72) (.tmp 77))⟩,
  ⟨(some 79),none,(.fa 1 (.tmp 6))⟩,
  ⟨none,none,(.store 1 (.tmp 79) (.tmp 78))⟩]) (.seq (.ops [
  ⟨(some 80),none,(.fa 1 (.tmp 2))⟩,
  ⟨(some 81),none,(.load 1 false (.tmp 80))⟩,
  ⟨(some 82),none,(.mv (.tmp 13))⟩,
  ⟨(some 83),none,(.ia 2 (.tmp 81) (.tmp 82))⟩,
  ⟨(some 84),none,(.fa 1 (.tmp 83))⟩,
  ⟨(some 85),none,(.load 1 false (.tmp 84))⟩,
  ⟨(some 86),none,(.mv (.tmp 12))⟩,
  ⟨(some 87),none,(.callX 65 [(.tmp 85),(.tmp 86)])⟩,
  ⟨(some 88),none,(.un .not (.tmp 87))⟩]) (.cond (.tmp 88) (.seq (.ops [
  ⟨(some 89),none,(.build [(.slice none 0 0),(.slice none 0 0)] [])⟩,
  ⟨none,none,(.store 2 (.tmp 4) (.tmp 89))⟩,
  ⟨(some 5),none,(.asg (.const (.int .i64 7)))⟩]) .ret) .skip)))))))) (.ops [
  ⟨(some 90),none,(.bin .add (.tmp 57) (.const (.int .i64 1)))⟩,
  ⟨(some 57),none,(.mv (.tmp 90))⟩]))))))) (.seq (.seq (.ops [
  ⟨(some 91),none,(.load 2 true (.tmp 6))⟩,
  ⟨(some 92),none,(.callX 31 [(.tmp 91)])⟩,
  ⟨(some 93),none,(.un .not (.tmp 92))⟩]) (.cond (.tmp 93) (.seq (.ops [
  ⟨(some 94),none,(.build [(.slice none 0 0),(.slice none 0 0)] [])⟩,
  ⟨none,none,(.store 2 (.tmp 4) (.tmp 94))⟩,
  ⟨(some 5),none,(.asg (.const (.int .i64 4)))⟩]) .ret) .skip)) (.seq (.ops [
  ⟨(some 95),none,(.load 2 true (.tmp 6))⟩,
  ⟨none,none,(.store 2 (.tmp 4) (.tmp 95))⟩,
  ⟨(some 5),none,(.asg (.const (.int .i64 0)))⟩]) .ret)))))))
theorem law_impl_MergeSets {a0 a1 d : D} (h : code_impl_MergeSets.wp (CT Try.prog NoG) (endQ [(.c 4 2 true),(.t 5)] d) [a0,a1,.undef,.undef,.undef,.undef,.undef,.undef,.undef,.undef,.undef,.undef,.undef,.undef,.undef,.undef,.undef,.undef,.undef,.undef,.undef,.undef,.undef,.undef,.undef,.undef,.undef,.undef,.undef,.undef,.undef,.undef,.undef,.undef,.undef,.undef,.undef,.undef,.undef,.undef,.undef,.undef,.undef,.undef,.undef,.undef,.undef,.undef,.undef,.undef,.undef,.undef,.undef,.undef,.undef,.undef,.undef,.undef,.undef,.undef,.undef,.undef,.undef,.undef,.undef,.undef,.undef,.undef,.undef,.undef,.undef,.undef,.undef,.undef,.undef,.undef,.undef,.undef,.undef,.undef,.undef,.undef,.undef,.undef,.undef,.undef,.undef,.undef,.undef,.undef,.undef,.undef,.undef,.undef,.undef,.undef]) : Contract Try.prog NoG 27 [a0,a1] d :=
  contract_of (pt:=0) noG Try.func27 (fun us W => by kernel_rfl) (c:=Try.f27.body.getD .skip) (ms:=[(mB 96 79228162514264337593040633763),(mB 96 79228162513994121615901720483)]) (ms':=[]) (by kernel_rfl) (by kernel_rfl) (by kernel_rfl) h
set_option maxHeartbeats 4000000 in
theorem vMergeSets_impl (q_aA : TileSet) (q_aA_ok : TileSet.td.ok q_aA) (q_aA_n : TileSet.cnt q_aA ≤ 1048576) (q_aB : TileSet) (q_aB_ok : TileSet.td.ok q_aB) (q_aB_n : TileSet.cnt q_aB ≤ 1048576) : Contract Try.prog NoG 27 [.agg (TileSet.td.d false q_aA),.agg (TileSet.td.d false q_aB)] (.tup [.agg (TileSet.td.d true (MergeSetsR q_aA q_aB)),.v (.int .i64 (MergeSetsC q_aA q_aB))]):=by
  have ha:=setB_of q_aA_n;have hb:=setB_of q_aB_n;have hag:=ha.g;have hat:=ha.t;have hbg:=hb.g;have hbt:=hb.t;rw [TileSet.td_d,TileSet.td_d,TileSet.td_d];refine law_impl_MergeSets ?_;unfold code_impl_MergeSets;simp -implicitDefEqProofs (disch:=omega) only [go_sem,↓reduceIte];cases h1 : okSet q_aA with
  | false => refine call_B (v_ValidSet q_aA ha) (by simp -implicitDefEqProofs (disch:=omega) only [go_sem,↓reduceIte,deep,TD.rows,immLL_rI,immLL_rB8,immLL_rS,immLL_rBo,immLL_rII,immLL_rIIt,h1,MergeSetsR,MergeSetsC];exact rfl) ?_;simp -implicitDefEqProofs (disch:=omega) only [go_sem,↓reduceIte ,h1,MergeSetsR,MergeSetsC]
  | true =>
  cases h2 : okSet q_aB with
  | false => refine call_B (v_ValidSet q_aA ha) (by simp -implicitDefEqProofs (disch:=omega) only [go_sem,↓reduceIte,deep,TD.rows,immLL_rI,immLL_rB8,immLL_rS,immLL_rBo,immLL_rII,immLL_rIIt,h1];exact rfl) ?_;simp -implicitDefEqProofs (disch:=omega) only [go_sem,↓reduceIte ,h1];refine call_B (v_ValidSet q_aB hb) (by simp -implicitDefEqProofs (disch:=omega) only [go_sem,↓reduceIte,deep,TD.rows,immLL_rI,immLL_rB8,immLL_rS,immLL_rBo,immLL_rII,immLL_rIIt,h1,h2,MergeSetsR,MergeSetsC];exact rfl) ?_;simp -implicitDefEqProofs (disch:=omega) only [go_sem,↓reduceIte ,h1,h2,MergeSetsR,MergeSetsC]
  | true =>
  have l1:=okSet_len h1;have l2:=okSet_len h2;refine call_B (v_ValidSet q_aA ha) (by simp -implicitDefEqProofs (disch:=omega) only [go_sem,↓reduceIte,deep,TD.rows,immLL_rI,immLL_rB8,immLL_rS,immLL_rBo,immLL_rII,immLL_rIIt,h1];exact rfl) ?_;simp -implicitDefEqProofs (disch:=omega) only [go_sem,↓reduceIte ,h1];refine call_B (v_ValidSet q_aB hb) (by simp -implicitDefEqProofs (disch:=omega) only [go_sem,↓reduceIte,deep,TD.rows,immLL_rI,immLL_rB8,immLL_rS,immLL_rBo,immLL_rII,immLL_rIIt,h2];exact rfl) ?_;simp -implicitDefEqProofs (disch:=omega) only [go_sem,↓reduceIte ,h2];refine call_B (v_clone q_aA ha) (by simp -implicitDefEqProofs (disch:=omega) only [go_sem,↓reduceIte,deep,TD.rows,immLL_rI,immLL_rB8,immLL_rS,immLL_rBo,immLL_rII,immLL_rIIt,TileSet.td_d,List.length_map];exact rfl) ?_;simp -implicitDefEqProofs (disch:=omega) only [go_sem,↓reduceIte ,TileSet.td_d,List.length_map];refine loop_ov (by simp -implicitDefEqProofs (disch:=omega) only [go_sem,↓reduceIte];exact rfl) (fun i : Nat => [(6,.box none [.sl true 2 ((q_aA.Glues ++ newG q_aA (q_aB.Glues.take i)).map (Glue.td.d true)),.sl true 2 (q_aA.Tiles.map (Tile.td.d true))]),(28,.v (.int .i64 (i : Nat)))]) (fun _ => by simp only [ovr_nil,ovr_cons,List.set_cons_zero,List.set_cons_succ];exact rfl) (fun i : Nat => i ≤ q_aB.Glues.length ∧ (q_aB.Glues.take i).any (clG q_aA) = false) (fun i : Nat => q_aB.Glues.length - i) (0) (by rw [List.take_zero,show newG q_aA [] = [] from rfl,List.append_nil];(try simp -implicitDefEqProofs only [nleL_cc,nleL_nn,nle_self,nle_boxs,nle_aggs,nle_nils,and_self,and_true,true_and]) <;> repeat' (first | exact nle_of_eq rfl | exact nle_nil | apply And.intro | apply nle_sl | apply nleLL_cons | apply nleL_cons | exact nleL_nil | exact nleLL_nil | apply nle_box | apply nle_agg)) (?_) ?_
  · exact ⟨Nat.zero_le _,rfl⟩
  rintro i ⟨hi,hcl⟩;simp -implicitDefEqProofs (disch:=omega) only [go_sem,↓reduceIte ,List.length_map,Int.toNat_natCast,Int.ofNat_lt,Int.natCast_nonneg,List.getElem?_map,Option.map_some];refine cond_split ?_ ?_ <;> intro hlt
  · have hlt : i < q_aB.Glues.length:=(by simpa using hlt);have e1:=List.getElem?_eq_getElem hlt;have hcn:=any_take (p:=clG q_aA) hlt;have hng:=newG_next (a:=q_aA) hlt;simp -implicitDefEqProofs (disch:=omega) only [go_sem,↓reduceIte ,List.length_map,Int.toNat_natCast,Int.ofNat_lt,Int.natCast_nonneg,List.getElem?_map,Option.map_some,hlt,e1,Glue.td_d];rcases gIdx_cases q_aA.Glues q_aB.Glues[i].Name with ⟨n,hn⟩ | hn
    · obtain ⟨hnl,hnm⟩:=gIdx_hit hn;have e2:=List.getElem?_eq_getElem hnl;have w1 : IntKind.i64.wrap ((n : Int) + 1 - 1) = (n : Int):=(by rw [wrI (by omega) (by omega)];omega);have d1 : decide ((n : Int) + 1 = 0) = false:=(by rw [decide_eq_false_iff_not];omega);have hnm1 : decide (q_aA.Glues[n].Name = q_aB.Glues[i].Name) = true:=decide_eq_true hnm;rw [clG_hit hn hnl] at hcn;rw [if_neg (by omega)] at hng;refine call_B (v_glueNamed q_aA.Glues q_aA.Tiles q_aB.Glues[i].Name hag) (by simp -implicitDefEqProofs (disch:=omega) only [go_sem,↓reduceIte,deep,TD.rows,immLL_rI,immLL_rB8,immLL_rS,immLL_rBo,immLL_rII,immLL_rIIt,hn,d1,w1,List.length_map,Int.toNat_natCast,Int.ofNat_lt,Int.natCast_nonneg,List.getElem?_map,Option.map_some,hnl,e2,Glue.td_d,hnm1];exact rfl) ?_;simp -implicitDefEqProofs (disch:=omega) only [go_sem,↓reduceIte ,hn,d1,w1,List.length_map,Int.toNat_natCast,Int.ofNat_lt,Int.natCast_nonneg,List.getElem?_map,Option.map_some,hnl,e2,Glue.td_d,hnm1];cases hs : decide (q_aA.Glues[n].Strength = q_aB.Glues[i].Strength) with
      | true =>
        rw [hs,hcl] at hcn;simp -implicitDefEqProofs (disch:=omega) only [go_sem,↓reduceIte ,wrN];refine ⟨i + 1,by omega,⟨hlt,hcn⟩,?_⟩;rw [hng]
        (try simp -implicitDefEqProofs only [nleL_cc,nleL_nn,nle_self,nle_boxs,nle_aggs,nle_nils,and_self,and_true,true_and]) <;> repeat' (first | exact nle_of_eq rfl | exact nle_nil | apply And.intro | apply nle_sl | apply nleLL_cons | apply nleL_cons | exact nleL_nil | exact nleLL_nil | apply nle_box | apply nle_agg)
      | false => have hany : q_aB.Glues.any (clG q_aA) = true:=any_at hlt (by rw [clG_hit hn hnl,hs];rfl);simp -implicitDefEqProofs (disch:=omega) only [go_sem,↓reduceIte ,MergeSetsR,MergeSetsC,h1,h2,clash,hany]
    · have d1 : decide ((-1 : Int) + 1 = 0) = true:=rfl;rw [clG_miss hn,hcl] at hcn;rw [if_pos (by omega)] at hng;have hgl:=newG_len q_aA (q_aB.Glues.take i);rw [List.length_take] at hgl;refine call_B (v_glueNamed q_aA.Glues q_aA.Tiles q_aB.Glues[i].Name hag) (by simp -implicitDefEqProofs (disch:=omega) only [go_sem,↓reduceIte,deep,TD.rows,immLL_rI,immLL_rB8,immLL_rS,immLL_rBo,immLL_rII,immLL_rIIt,hn,d1,wrN,Glue.td_d,List.length_map,List.length_append];exact rfl) ?_;simp -implicitDefEqProofs (disch:=omega) only [go_sem,↓reduceIte ,hn,d1,wrN,Glue.td_d,List.length_map,List.length_append];refine ⟨by omega,i + 1,by omega,⟨hlt,hcn⟩,?_⟩;rw [hng,← List.append_assoc,List.map_append (l₂:=[q_aB.Glues[i]])]
      (try simp -implicitDefEqProofs only [nleL_cc,nleL_nn,nle_self,nle_boxs,nle_aggs,nle_nils,and_self,and_true,true_and]) <;> repeat' (first | exact nle_of_eq rfl | exact nle_nil | apply And.intro | apply nle_sl | apply nleLL_cons | apply nleL_cons | exact nleL_nil | exact nleLL_nil | apply nle_box | apply nle_agg)
  obtain rfl : i = q_aB.Glues.length:=by have : ¬ i < q_aB.Glues.length:=by simpa using hlt
                                         omega
  rw [List.take_length] at hcl;have hou : q_aA.Glues ++ newG q_aA q_aB.Glues = outG q_aA q_aB:=rfl;have hgl:=newG_len q_aA q_aB.Glues;have hol : (outG q_aA q_aB).length ≤ 1048576:=by unfold outG;rw [List.length_append];omega
  simp -implicitDefEqProofs (disch:=omega) only [go_sem,↓reduceIte ,List.take_length,hou];refine loop_ov (by simp -implicitDefEqProofs (disch:=omega) only [go_sem,↓reduceIte];exact rfl) (fun i : Nat => [(6,.box none [.sl true 2 ((outG q_aA q_aB).map (Glue.td.d true)),.sl true 2 ((q_aA.Tiles ++ newT q_aA q_aB (q_aB.Tiles.take i)).map (Tile.td.d true))]),(57,.v (.int .i64 (i : Nat)))]) (fun _ => by simp only [ovr_nil,ovr_cons,List.set_cons_zero,List.set_cons_succ];exact rfl) (fun i : Nat => i ≤ q_aB.Tiles.length ∧ (q_aB.Tiles.take i).any (clT q_aA q_aB) = false) (fun i : Nat => q_aB.Tiles.length - i) (0) (by rw [List.take_zero,show newT q_aA q_aB [] = [] from rfl,List.append_nil];(try simp -implicitDefEqProofs only [nleL_cc,nleL_nn,nle_self,nle_boxs,nle_aggs,nle_nils,and_self,and_true,true_and]) <;> repeat' (first | exact nle_of_eq rfl | exact nle_nil | apply And.intro | apply nle_sl | apply nleLL_cons | apply nleL_cons | exact nleL_nil | exact nleLL_nil | apply nle_box | apply nle_agg)) (?_) ?_
  · exact ⟨Nat.zero_le _,rfl⟩
  rintro i ⟨hi,hct⟩;simp -implicitDefEqProofs (disch:=omega) only [go_sem,↓reduceIte ,List.length_map,Int.toNat_natCast,Int.ofNat_lt,Int.natCast_nonneg,List.getElem?_map,Option.map_some];refine cond_split ?_ ?_ <;> intro hlt
  · have hlt : i < q_aB.Tiles.length:=(by simpa using hlt);have e1:=List.getElem?_eq_getElem hlt;have hcn:=any_take (p:=clT q_aA q_aB) hlt;have hng:=newT_next (a:=q_aA) (b:=q_aB) hlt;have h4:=okSet_sides4 h2 hlt;have hsd:=okSet_side h2 hlt;simp -implicitDefEqProofs (disch:=omega) only [go_sem,↓reduceIte ,List.length_map,Int.toNat_natCast,Int.ofNat_lt,Int.natCast_nonneg,List.getElem?_map,Option.map_some,hlt,e1,Tile.td_d];refine call_le (v_translated (outG q_aA q_aB) (q_aA.Tiles ++ newT q_aA q_aB (q_aB.Tiles.take i)) q_aB.Tiles[i] q_aB hol h4 hsd hbg) (leL_of_eq (by simp -implicitDefEqProofs (disch:=omega) only [go_sem,↓reduceIte,deep,TD.rows,immLL_rI,immLL_rB8,immLL_rS,immLL_rBo,TileSet.td_d,Tile.td_d])) (by first | exact .inl rfl | exact .inr rfl | exact .inl (by simp only [D.noImm,noImmL,go_sem,TD.nims,TD.nim,nim_rI,nim_rB8,nim_rBo,nim_rS])) ?_;simp -implicitDefEqProofs (disch:=omega) only [go_sem,↓reduceIte];rcases tIdx_cases q_aA.Tiles q_aB.Tiles[i].Name with ⟨n,hn⟩ | hn
    · obtain ⟨hnl,hnm⟩:=tIdx_hit hn;have e2:=List.getElem?_eq_getElem hnl;have d1 : decide ((n : Int) < 0) = false:=(by rw [decide_eq_false_iff_not];omega);have hsl:=ha.ts _ (List.getElem_mem hnl);rw [clT_hit hn hnl] at hcn;rw [if_neg (by omega)] at hng;refine call_B (v_tileNamed q_aA.Tiles q_aA.Glues q_aB.Tiles[i].Name hat) (by simp -implicitDefEqProofs (disch:=omega) only [go_sem,↓reduceIte,deep,TD.rows,immLL_rI,immLL_rB8,immLL_rS,immLL_rBo,immLL_rII,immLL_rIIt,hn,d1,List.length_map,Int.toNat_natCast,Int.ofNat_lt,Int.natCast_nonneg,List.getElem?_map,Option.map_some,hnl,e2,Tile.td_d];exact rfl) ?_;simp -implicitDefEqProofs (disch:=omega) only [go_sem,↓reduceIte ,hn,d1,List.length_map,Int.toNat_natCast,Int.ofNat_lt,Int.natCast_nonneg,List.getElem?_map,Option.map_some,hnl,e2,Tile.td_d];refine call_B (v_Equal_Int64 q_aA.Tiles[n].Sides (mgS (outG q_aA q_aB) q_aB.Glues q_aB.Tiles[i].Sides) (by omega)) (by simp -implicitDefEqProofs (disch:=omega) only [go_sem,↓reduceIte,deep,TD.rows,immLL_rI,immLL_rB8,immLL_rS,immLL_rBo,immLL_rII,immLL_rIIt];exact rfl) ?_;simp -implicitDefEqProofs (disch:=omega) only [go_sem,↓reduceIte];cases hs : decide (q_aA.Tiles[n].Sides = mgS (outG q_aA q_aB) q_aB.Glues q_aB.Tiles[i].Sides) with
      | true =>
        rw [hs,hct] at hcn;simp -implicitDefEqProofs (disch:=omega) only [go_sem,↓reduceIte ,wrN];refine ⟨i + 1,by omega,⟨hlt,hcn⟩,?_⟩;rw [hng]
        (try simp -implicitDefEqProofs only [nleL_cc,nleL_nn,nle_self,nle_boxs,nle_aggs,nle_nils,and_self,and_true,true_and]) <;> repeat' (first | exact nle_of_eq rfl | exact nle_nil | apply And.intro | apply nle_sl | apply nleLL_cons | apply nleL_cons | exact nleL_nil | exact nleLL_nil | apply nle_box | apply nle_agg)
      | false => have hany : q_aB.Tiles.any (clT q_aA q_aB) = true:=any_at hlt (by rw [clT_hit hn hnl,hs];rfl);simp -implicitDefEqProofs (disch:=omega) only [go_sem,↓reduceIte ,MergeSetsR,MergeSetsC,h1,h2,clash,hany,hcl]
    · have d1 : decide ((-1 : Int) < 0) = true:=rfl;rw [clT_miss hn,hct] at hcn;rw [if_pos (by omega)] at hng;have hgl:=newT_len q_aA q_aB (q_aB.Tiles.take i);rw [List.length_take] at hgl;refine call_B (v_tileNamed q_aA.Tiles q_aA.Glues q_aB.Tiles[i].Name hat) (by simp -implicitDefEqProofs (disch:=omega) only [go_sem,↓reduceIte,deep,TD.rows,immLL_rI,immLL_rB8,immLL_rS,immLL_rBo,immLL_rII,immLL_rIIt,hn,d1,wrN,Tile.td_d,List.length_map,List.length_append];exact rfl) ?_;simp -implicitDefEqProofs (disch:=omega) only [go_sem,↓reduceIte ,hn,d1,wrN,Tile.td_d,List.length_map,List.length_append];refine ⟨by omega,i + 1,by omega,⟨hlt,hcn⟩,?_⟩;rw [hng,← List.append_assoc,List.map_append (l₂:=[mrgT q_aA q_aB q_aB.Tiles[i]])]
      (try simp -implicitDefEqProofs only [nleL_cc,nleL_nn,nle_self,nle_boxs,nle_aggs,nle_nils,and_self,and_true,true_and]) <;> repeat' (first | exact nle_of_eq rfl | exact nle_nil | apply And.intro | apply nle_sl | apply nleLL_cons | apply nleL_cons | exact nleL_nil | exact nleLL_nil | apply nle_box | apply nle_agg)
  obtain rfl : i = q_aB.Tiles.length:=by have : ¬ i < q_aB.Tiles.length:=by simpa using hlt
                                         omega
  rw [List.take_length] at hct;have hB:=outS_B ha hb h1 h2;have hS : outS q_aA q_aB = ⟨outG q_aA q_aB,q_aA.Tiles ++ newT q_aA q_aB q_aB.Tiles⟩:=rfl;simp -implicitDefEqProofs (disch:=omega) only [go_sem,↓reduceIte ,List.take_length];refine call_le (v_ValidSet (outS q_aA q_aB) hB) (leL_of_eq (by simp -implicitDefEqProofs (disch:=omega) only [go_sem,↓reduceIte,deep,TD.rows,immLL_rI,immLL_rB8,immLL_rS,immLL_rBo,TileSet.td_d,hS])) (by first | exact .inl rfl | exact .inr rfl | exact .inl (by simp only [D.noImm,noImmL,go_sem,TD.nims,TD.nim,nim_rI,nim_rB8,nim_rBo,nim_rS])) ?_;simp -implicitDefEqProofs (disch:=omega) only [go_sem,↓reduceIte];cases h3 : okSet (outS q_aA q_aB) with
  | false => simp -implicitDefEqProofs (disch:=omega) only [go_sem,↓reduceIte ,MergeSetsR,MergeSetsC,h1,h2,clash,hcl,hct,h3]
  | true => simp -implicitDefEqProofs (disch:=omega) only [go_sem,↓reduceIte ,MergeSetsR,MergeSetsC,h1,h2,clash,hcl,hct,h3];exact ⟨rfl,rfl⟩
end Go.Proofs.Ytoiaenkipdneeaa
