/- Laws that the proof stands on. -/
import Derived.Test.YtdjjffhlplchjaaGreatDoorZg23
import Derived.Test.YtdjjffhlplchjaaGreatDoorZVTab
set_option linter.all false
namespace Go.Proofs.YtdjjffhlplchjaaGreatDoor
open Go.RowKit Go.V
attribute [local go_sem] List.getElem?_cons_succ List.getElem?_cons_zero List.set_cons_succ List.set_cons_zero List.map_cons List.map_nil List.length_cons List.length_nil List.all_cons List.all_nil List.drop_succ_cons List.drop_zero List.take_succ_cons List.take_zero List.flatMap_cons List.flatMap_nil List.cons_append List.nil_append List.append_nil List.headD_cons Value.oneCell' Bool.and_true Bool.true_and Bool.or_false Bool.false_or Bool.and_self Bool.not_true Bool.not_false and_true true_and beq_self_eq_true Bool.false_eq_true if_true if_false Nat.zero_add Nat.reduceAdd Nat.reduceMul Nat.reduceLeDiff Nat.le_refl Option.isSome_some Option.isSome_none not_true_eq_false not_false_eq_true ne_eq reduceCtorEq List.reverse_nil bne_self_eq_false Nat.reduceEqDiff List.isPrefixOf Bool.not_eq_true Bool.and_false Bool.false_and Bool.true_or Bool.or_true decide_true decide_false Nat.reduceBEq Nat.reduceBNe List.replicate_succ List.replicate_zero exists_eq_left' exists_eq_left Option.some.injEq or_false or_true true_or false_or Option.map_some Option.map_none mB Nat.reduceMod Nat.reduceDiv
set_option maxRecDepth 100000
theorem zUl (G : List Glue) (n : ByteArray) : decide (0 ≤ zWy G n) = hasG G n:=zOo _ G
theorem zWb {G : List Glue} {n : ByteArray} (h : fresh G n) (hd : n ≠ zK6) : zWc (zSn G) (.string n) = none:=by
  unfold zWc zSn;rw [List.find?_cons];simp only [zHy];rw [decide_eq_false (Ne.symm hd)];have:=zMo (G:=G) (n:=n) 0;simp only [Nat.add_zero] at this;rw [this];have hn : G.findIdx? (fun g => decide (g.Name = n)) = none:=by rw [List.findIdx?_eq_none_iff];intro g hg;exact decide_eq_false (h g hg)
  rw [hn];rfl
theorem mget_has {G : List Glue} (hm : okM G) {n : ByteArray} (h : hasG G n = true) : zWc (zSn G) (.string n) = some (.int .i64 (zA8 G n)):=by
  rcases zUc hm n with h1 | ⟨_,h2⟩
  · exact h1
  · have:=zUl G n;rw [h,decide_eq_true_eq] at this;unfold zA8 at h2;omega
def code_impl_maker_once : VCode:=(.seq (.ops [
  ⟨(some 7),none,(.mv (.tmp 0))⟩,
  ⟨(some 8),none,(.nilc (.tmp 7))⟩,
  ⟨(some 9),none,(.fa 2 (.tmp 8))⟩,
  ⟨(some 10),none,(.load 1 false (.tmp 9))⟩,
  ⟨(some 11),none,(.mv (.tmp 1))⟩,
  ⟨(some 12),none,(.mlk .str (.int .i64 0) true (.tmp 10) (.tmp 11))⟩,
  ⟨(some 6),none,(.mv (.tmp 12))⟩,
  ⟨(some 13),none,(.ext (.tmp 6) 0)⟩,
  ⟨(some 14),none,(.ext (.tmp 6) 1)⟩,
  ⟨(some 4),none,(.asg (.tmp 13))⟩,
  ⟨(some 5),none,(.asg (.tmp 14))⟩]) (.seq (.ops [
  ⟨(some 15),none,(.mv (.tmp 5))⟩,
  ⟨(some 16),none,(.un .not (.tmp 15))⟩]) (.cond (.tmp 16) (.ops [
  ⟨(some 17),none,(.mv (.tmp 0))⟩,
  ⟨(some 18),none,(.mv (.tmp 1))⟩,
  ⟨(some 19),none,(.callX 78 [(.tmp 17),(.tmp 18),(.const (.int .i64 1))])⟩]) .skip)))
theorem zHv {a0 a1 d : D} {cells cells' : List D} (h : ∀ b,code_impl_maker_once.wp (CT Tryz.prog zA6) (endX [] d 0 b cells') [.box (some b) cells,a1,.undef,.undef,.undef,.undef,.undef,.undef,.undef,.undef,.undef,.undef,.undef,.undef,.undef,.undef,.undef,.undef,.undef,.undef]) : zBm Tryz.prog zA6 77 0 [a0,a1] cells d cells' :=
  zC3 (pt:=0) zEn Tryz.func77 (fun us W => by kernel_rfl) (c:=Tryz.f77.body.getD .skip) (ms:=[]) (ms':=[]) (by kernel_rfl) (by kernel_rfl) (by kernel_rfl) (by simp) h
set_option maxHeartbeats 1000000 in
theorem zDj (G : List Glue) (T : List Tile) (n : ByteArray) (hm : okM G) (hl : G.length ≤ 100000) (hd : n ≠ zK6) : zBm Tryz.prog zA6 77 0 [.undef,.v (.string n)] (mkI G T) (.tup []) (mkI (zCn G n) T):=by
  refine zHv ?_;intro b;unfold code_impl_maker_once;cases h : hasG G n with
  | true => have hg:=mget_has hm h;have ho : zCn G n = G:=(by unfold zCn;rw [h];rfl);rw [ho];unfold mkI;simp -implicitDefEqProofs (disch:=omega) only [go_sem,↓reduceIte ,hg]
  | false => have hg:=zWb (zO8 h) hd;have ho : zCn G n = G ++ [Glue.mk n 1]:=(by unfold zCn;rw [h];rfl);rw [ho];have hc:=zGo G T n 1 hl (zO8 h) hd;unfold mkI at hc ⊢;simp -implicitDefEqProofs (disch:=omega) only [go_sem,↓reduceIte ,hg];refine zBg (i:=0) (r:=0) (hc) rfl rfl (by simp -implicitDefEqProofs (disch:=omega) only [go_sem,↓reduceIte,deep,TD.rows,zAe,zAc,zAf,zAb,zAd,zAa];exact rfl) (by repeat (first | exact zAx | refine zAt ?_ ?_ | exact zAr rfl | exact zAs (zAm rfl) | refine zA2 ?_ | exact zA1 rfl (TD.rows ..) | refine zAw ?_ | refine zBy ?_ ?_ | exact zAn)) (by repeat (first | exact zAx | refine zAt ?_ ?_ | exact zAr rfl | exact zAs (zAm rfl) | refine zA2 ?_ | exact zA1 rfl (TD.rows ..) | refine zAw ?_ | refine zBy ?_ ?_ | exact zAn)) (by first | exact .inr rfl | exact .inl ⟨rfl,rfl⟩ | exact .inl ⟨by simp only [D.noImm,zAu,go_sem,TD.nims,TD.nim],by simp only [D.noImm,zAu,go_sem,TD.nims,TD.nim,zCk,zBu,zBt,zCj]⟩) ?_;simp -implicitDefEqProofs (disch:=omega) only [go_sem,↓reduceIte]
set_option maxHeartbeats 1000000 in
theorem zDi (G : List Glue) (T : List Tile) (n : ByteArray) (hl : G.length ≤ 100000) : zBm Tryz.prog zA6 62 0 [.undef,.v (.string n),.v (.int .i64 1)] (mkS G T) (.v (.int .i64 (if hasG G n then zA8 G n else (G.length : Int) + 1))) (mkS (zCn G n) T):=by
  cases h : hasG G n with
  | false => have ho : zCn G n = G ++ [Glue.mk n 1]:=(by unfold zCn;rw [h];rfl);rw [ho,if_neg (by decide)];exact zGn G T n 1 hl (zO8 h)
  | true => have ho : zCn G n = G:=(by unfold zCn;rw [h];rfl);rw [ho,if_pos rfl];refine zDu ?_;intro b;unfold code_spec_l15Maker_glue mkS;have hg:=zH9 ⟨G,T⟩ n (by simp only;omega);simp only [TileSet.td_d] at hg;have h0:=zUl G n;rw [h,decide_eq_true_eq] at h0;have d0 : decide (zWy G n + 1 = 0) = false:=(by rw [decide_eq_false_iff_not];omega);simp -implicitDefEqProofs (disch:=omega) only [go_sem,↓reduceIte];refine zAp (hg) (by simp -implicitDefEqProofs (disch:=omega) only [go_sem,↓reduceIte,deep,TD.rows,zAe,zAc,zAf,zAb,zAd,zAa,d0,zA8];exact rfl) ?_;simp -implicitDefEqProofs (disch:=omega) only [go_sem,↓reduceIte ,d0,zA8]
end Go.Proofs.YtdjjffhlplchjaaGreatDoor
