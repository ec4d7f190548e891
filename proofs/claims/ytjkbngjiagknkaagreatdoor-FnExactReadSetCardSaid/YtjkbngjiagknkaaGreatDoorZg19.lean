/- Laws that the proof stands on. -/
import Derived.Test.YtjkbngjiagknkaaGreatDoorZg18
import Derived.Test.YtjkbngjiagknkaaGreatDoorZVTab
set_option linter.all false
namespace Go.Proofs.YtjkbngjiagknkaaGreatDoor
open Go.RowKit Go.V
attribute [local go_sem] List.getElem?_cons_succ List.getElem?_cons_zero List.set_cons_succ List.set_cons_zero List.map_cons List.map_nil List.length_cons List.length_nil List.all_cons List.all_nil List.drop_succ_cons List.drop_zero List.take_succ_cons List.take_zero List.flatMap_cons List.flatMap_nil List.cons_append List.nil_append List.append_nil List.headD_cons Value.oneCell' Bool.and_true Bool.true_and Bool.or_false Bool.false_or Bool.and_self Bool.not_true Bool.not_false and_true true_and beq_self_eq_true Bool.false_eq_true if_true if_false Nat.zero_add Nat.reduceAdd Nat.reduceMul Nat.reduceLeDiff Nat.le_refl Option.isSome_some Option.isSome_none not_true_eq_false not_false_eq_true ne_eq reduceCtorEq List.reverse_nil bne_self_eq_false Nat.reduceEqDiff List.isPrefixOf Bool.not_eq_true Bool.and_false Bool.false_and Bool.true_or Bool.or_true decide_true decide_false Nat.reduceBEq Nat.reduceBNe List.replicate_succ List.replicate_zero exists_eq_left' exists_eq_left Option.some.injEq or_false or_true true_or false_or Option.map_some Option.map_none mB Nat.reduceMod Nat.reduceDiv
set_option maxRecDepth 100000
def exS (s:TileSet):Except Int TileSet→Int × TileSet
  | .ok s'=>(0,s')
  | .error c=>(c,s)
theorem sidesR_take {bar:Bool} {gs:List Glue}:∀ {ws:List ByteArray} {i:Nat} (h:i < ws.length),sidesR bar gs (ws.take (i+1))=match sidesR bar gs (ws.take i) with
    | none=>none
    | some ns=>match sideR bar gs ws[i] with
      | none=>none
      | some n=>some (ns++[n])
  | [],i,h=>absurd h (by simp)
  | w::ws,0,h=>by show sidesR bar gs [w]=_;simp only [List.take_zero,sidesR,List.getElem_cons_zero,List.nil_append];cases sideR bar gs w <;> rfl
  | w :: ws,i+1,h=>by
    have h':i < ws.length:=(by simpa using h);have ih:=sidesR_take (bar:=bar) (gs:=gs) (ws:=ws) (i:=i) h';simp only [List.take_succ_cons,List.getElem_cons_succ];unfold sidesR;cases hw:sideR bar gs w with
    | none=>rfl
    | some n =>
      simp only;rw [ih];cases h1:sidesR bar gs (ws.take i) with
      | none=>rfl
      | some ns =>
        simp only;cases h2:sideR bar gs ws[i] with
        | none=>rfl
        | some k=>rfl
theorem sidesR_none {bar:Bool} {gs:List Glue} {ws:List ByteArray} {i:Nat} (h:i < ws.length) (hn:sideR bar gs ws[i]=none):sidesR bar gs ws=none:=by
  have key:∀ (k:Nat),sidesR bar gs (ws.take (i+1+k))=none:=by
    intro k;induction k with
    | zero =>
      rw [Nat.add_zero,sidesR_take h];cases h1:sidesR bar gs (ws.take i) with
      | none=>rfl
      | some ns=>simp [hn]
    | succ k ih =>
      by_cases hk:i+1+k < ws.length
      · rw [show i+1+(k+1)=i+1+k+1 by omega,sidesR_take hk,ih]
      · rw [List.take_of_length_le (by omega)] at ih ⊢;exact ih
  have:=key ws.length;rw [List.take_of_length_le (by omega)] at this;exact this
theorem sideR_f (gs:List Glue) (w:ByteArray):sideR false gs w=if gIdx gs w+1=0∧w≠sBar then none else some (gIdx gs w+1):=by unfold sideR;rw [Bool.false_and,if_neg (by decide)]
theorem rsGlue_not {s:TileSet} {w:List ByteArray} (h:w.length≠3):rsGlue s w=.error 6:=by
  unfold rsGlue;split
  · simp at h
  · rfl
theorem rsTile_not {bar:Bool} {s:TileSet} {w:List ByteArray} (h:w.length≠6):rsTile bar s w=.error 6:=by
  unfold rsTile;split
  · simp at h
  · rfl
structure WdS (L:List (List D)) (w0:ByteArray) (ws:List ByteArray):Prop where
  len:(L.length:Int)=((ws.length+1:Nat):Int)
  lenN:L.length=ws.length+1
  hd:L[Int.toNat 0]?=some [.v (.string w0)]
theorem wds_map (w0:ByteArray) (ws:List ByteArray):WdS ((w0::ws).map rS) w0 ws:=⟨by simp,by simp,rfl⟩
def code_spec_l05Glue:VCode:=(.seq (.ops [
  ⟨(some 4),none,(.asg (.const (.int .i64 0)))⟩]) (.seq (.seq (.ops [
  ⟨(some 7),none,(.mv (.tmp 1))⟩,
  ⟨(some 8),none,(.len (.tmp 7))⟩,
  ⟨(some 9),none,(.bin .neq (.tmp 8) (.const (.int .i64 3)))⟩,
  ⟨(some 10),none,(.mv (.tmp 9))⟩,
  ⟨(some 11),(some (10,false)),(.mv (.tmp 0))⟩,
  ⟨(some 12),(some (10,false)),(.nilc (.tmp 11))⟩,
  ⟨(some 13),(some (10,false)),(.fa 1 (.tmp 12))⟩,
  ⟨(some 14),(some (10,false)),(.load 1 false (.tmp 13))⟩,
  ⟨(some 15),(some (10,false)),(.len (.tmp 14))⟩,
  ⟨(some 16),(some (10,false)),(.bin .gtr (.tmp 15) (.const (.int .i64 0)))⟩,
  ⟨(some 17),none,(.pick (.tmp 10) (.const (.bool true)) (.tmp 16))⟩]) (.cond (.tmp 17) (.seq (.ops [
  ⟨(some 4),none,(.asg (.const (.int .i64 6)))⟩]) .ret) .skip)) (.seq (.ops [
  ⟨(some 19),none,(.mv (.tmp 1))⟩,
  ⟨(some 20),none,(.ia 1 (.tmp 19) (.const (.int .i64 2)))⟩,
  ⟨(some 21),none,(.load 1 false (.tmp 20))⟩,
  ⟨(some 22),none,(.callX 83 [(.tmp 21)])⟩,
  ⟨(some 18),none,(.mv (.tmp 22))⟩,
  ⟨(some 23),none,(.ext (.tmp 18) 0)⟩,
  ⟨(some 24),none,(.ext (.tmp 18) 1)⟩,
  ⟨(some 5),none,(.asg (.tmp 23))⟩,
  ⟨(some 6),none,(.asg (.tmp 24))⟩]) (.seq (.seq (.ops [
  ⟨(some 25),none,(.mv (.tmp 6))⟩,
  ⟨(some 26),none,(.un .not (.tmp 25))⟩]) (.cond (.tmp 26) (.seq (.ops [
  ⟨(some 4),none,(.asg (.const (.int .i64 6)))⟩]) .ret) .skip)) (.seq (.drawW (mB 39 549621596160) (mB 38 259845521408) [⟨1,(mB 39 549621596160),[],⟨(some 28),none,(.mv (.tmp 0))⟩⟩,⟨2,(mB 39 549353160704),[],⟨(some 29),none,(.nilc (.tmp 28))⟩⟩,⟨3,(mB 39 548816289792),[],⟨(some 30),none,(.fa 0 (.tmp 29))⟩⟩,⟨4,(mB 39 547742547968),[],⟨(some 31),none,(.load 1 false (.tmp 30))⟩⟩,⟨5,(mB 39 549621596160),[],⟨(some 32),none,(.mv (.tmp 1))⟩⟩,⟨6,(mB 39 545326628864),[],⟨(some 33),none,(.ia 1 (.tmp 32) (.const (.int .i64 1)))⟩⟩,⟨7,(mB 39 536736694272),[],⟨(some 34),none,(.load 1 false (.tmp 33))⟩⟩,⟨8,(mB 39 549621596160),[],⟨(some 35),none,(.mv (.tmp 5))⟩⟩,⟨9,(mB 39 485197086720),(mB 36 51539607552),⟨(some 36),none,(.build [(.string ⟨⟨[]⟩⟩),(.int .i64 0)] [(0,1,(.tmp 34)),(1,1,(.tmp 35))])⟩⟩,⟨10,(mB 39 468017217536),(mB 37 68719476736),⟨(some 37),none,(.bslN 2 [(.tmp 36)])⟩⟩] ⟨11,(mB 39 395271208960),(mB 38 139586437120),⟨(some 38),none,(.app 2 24 (.tmp 31) (.tmp 37))⟩⟩ [⟨0,(mB 39 549621596160),[],⟨(some 27),none,(.mv (.tmp 0))⟩⟩] [⟨(some 39),none,(.nilc (.tmp 27))⟩,⟨(some 40),none,(.fa 0 (.tmp 39))⟩,⟨none,none,(.store 1 (.tmp 40) (.tmp 38))⟩]) (.seq (.ops [
  ⟨(some 4),none,(.asg (.const (.int .i64 0)))⟩]) .ret))))))
theorem law_spec_l05Glue {a0 a1 d:D} {cells cells':List D} (h:∀ b,code_spec_l05Glue.wp (CT Tryz.prog TabG) (endX [(.t 4)] d 0 b cells') [.box (some b) cells,a1,.undef,.undef,.undef,.undef,.undef,.undef,.undef,.undef,.undef,.undef,.undef,.undef,.undef,.undef,.undef,.undef,.undef,.undef,.undef,.undef,.undef,.undef,.undef,.undef,.undef,.undef,.undef,.undef,.undef,.undef,.undef,.undef,.undef,.undef,.undef,.undef,.undef,.undef,.undef]):ContractX Tryz.prog TabG 72 0 [a0,a1] cells d cells' :=
  contract_ofX (pt:=0) tabG Tryz.func72 (fun us W=>by kernel_rfl) (c:=Tryz.f72.body.getD .skip) (ms:=[]) (ms':=[]) (by kernel_rfl) (by kernel_rfl) (by kernel_rfl) (by simp) h
def code_spec_l05Tile:VCode:=(.seq (.ops [
  ⟨(some 4),none,(.asg (.const (.int .i64 0)))⟩]) (.seq (.seq (.ops [
  ⟨(some 8),none,(.mv (.tmp 1))⟩,
  ⟨(some 9),none,(.len (.tmp 8))⟩,
  ⟨(some 10),none,(.bin .neq (.tmp 9) (.const (.int .i64 6)))⟩]) (.cond (.tmp 10) (.seq (.ops [
  ⟨(some 4),none,(.asg (.const (.int .i64 6)))⟩]) .ret) .skip)) (.seq (.ops [
  ⟨(some 11),none,(.mv (.tmp 1))⟩,
  ⟨(some 12),none,(.ia 1 (.tmp 11) (.const (.int .i64 1)))⟩,
  ⟨(some 13),none,(.load 1 false (.tmp 12))⟩,
  ⟨(some 14),none,(.build [(.string ⟨⟨[]⟩⟩),(.slice none 0 0)] [(0,1,(.tmp 13))])⟩,
  ⟨(some 5),none,(.alloc [(.string ⟨⟨[]⟩⟩),(.slice none 0 0)])⟩,
  ⟨none,none,(.store 2 (.tmp 5) (.tmp 14))⟩]) (.seq (.seq (.ops [
  ⟨(some 6),none,(.asg (.const (.int .i64 2)))⟩]) (.block 0 (.loop (mB 50 1125899906842524) (.seq (.seq (.ops [
  ⟨(some 15),none,(.mv (.tmp 6))⟩,
  ⟨(some 16),none,(.bin .lss (.tmp 15) (.const (.int .i64 6)))⟩]) (.cond (.tmp 16) .skip (.exit 0))) (.seq (.block 1 (.seq (.ops [
  ⟨(some 19),none,(.mv (.tmp 0))⟩,
  ⟨(some 20),none,(.mv (.tmp 1))⟩,
  ⟨(some 21),none,(.mv (.tmp 6))⟩,
  ⟨(some 22),none,(.ia 1 (.tmp 20) (.tmp 21))⟩,
  ⟨(some 23),none,(.load 1 false (.tmp 22))⟩,
  ⟨(some 24),none,(.callX 99 [(.tmp 19),(.tmp 23)])⟩,
  ⟨(some 7),none,(.asg (.tmp 24))⟩]) (.seq (.seq (.ops [
  ⟨(some 25),none,(.mv (.tmp 7))⟩,
  ⟨(some 26),none,(.bin .eql (.tmp 25) (.const (.int .i64 0)))⟩,
  ⟨(some 27),none,(.mv (.tmp 26))⟩,
  ⟨(some 28),(some (27,true)),(.mv (.tmp 1))⟩,
  ⟨(some 29),(some (27,true)),(.mv (.tmp 6))⟩,
  ⟨(some 30),(some (27,true)),(.ia 1 (.tmp 28) (.tmp 29))⟩,
  ⟨(some 31),(some (27,true)),(.load 1 false (.tmp 30))⟩,
  ⟨(some 32),(some (27,true)),(.bin .neq (.tmp 31) (.const (.string ⟨⟨[45]⟩⟩)))⟩,
  ⟨(some 33),none,(.pick (.tmp 27) (.tmp 32) (.const (.bool false)))⟩]) (.cond (.tmp 33) (.seq (.ops [
  ⟨(some 4),none,(.asg (.const (.int .i64 3)))⟩]) .ret) .skip)) (.ops [
  ⟨(some 34),none,(.fa 1 (.tmp 5))⟩,
  ⟨(some 35),none,(.load 1 false (.tmp 34))⟩,
  ⟨(some 36),none,(.mv (.tmp 7))⟩,
  ⟨(some 37),none,(.bsl 1 [(.tmp 36)])⟩,
  ⟨(some 38),none,(.app 1 8 (.tmp 35) (.tmp 37))⟩,
  ⟨(some 39),none,(.fa 1 (.tmp 5))⟩,
  ⟨none,none,(.store 1 (.tmp 39) (.tmp 38))⟩])))) (.ops [
  ⟨(some 17),none,(.mv (.tmp 6))⟩,
  ⟨(some 18),none,(.bin .add (.tmp 17) (.const (.int .i64 1)))⟩,
  ⟨(some 6),none,(.asg (.tmp 18))⟩])))))) (.seq (.drawT (.h 0 ⟨(some 40),none,(.mv (.tmp 0))⟩ (.h 1 ⟨(some 41),none,(.mv (.tmp 0))⟩ (.br 2 ⟨(some 42),none,(.nilc (.tmp 41))⟩ (.h 3 ⟨(some 43),none,(.fa 1 (.tmp 42))⟩ (.br 4 ⟨(some 44),none,(.load 1 false (.tmp 43))⟩ (.br 5 ⟨(some 45),none,(.load 2 true (.tmp 5))⟩ (.br 6 ⟨(some 46),none,(.bsl 2 [(.tmp 45)])⟩ (.br 7 ⟨(some 47),none,(.app 2 40 (.tmp 44) (.tmp 46))⟩ .done .nil) .nil) .nil) (.br 5 ⟨(some 45),none,(.load 2 true (.tmp 5))⟩ (.br 4 ⟨(some 44),none,(.load 1 false (.tmp 43))⟩ (.br 6 ⟨(some 46),none,(.bsl 2 [(.tmp 45)])⟩ (.br 7 ⟨(some 47),none,(.app 2 40 (.tmp 44) (.tmp 46))⟩ .done .nil) .nil) (.br 6 ⟨(some 46),none,(.bsl 2 [(.tmp 45)])⟩ (.br 4 ⟨(some 44),none,(.load 1 false (.tmp 43))⟩ (.br 7 ⟨(some 47),none,(.app 2 40 (.tmp 44) (.tmp 46))⟩ .done .nil) .nil) .nil)) .nil))) (.br 5 ⟨(some 45),none,(.load 2 true (.tmp 5))⟩ (.br 2 ⟨(some 42),none,(.nilc (.tmp 41))⟩ (.h 3 ⟨(some 43),none,(.fa 1 (.tmp 42))⟩ (.br 4 ⟨(some 44),none,(.load 1 false (.tmp 43))⟩ (.br 6 ⟨(some 46),none,(.bsl 2 [(.tmp 45)])⟩ (.br 7 ⟨(some 47),none,(.app 2 40 (.tmp 44) (.tmp 46))⟩ .done .nil) .nil) (.br 6 ⟨(some 46),none,(.bsl 2 [(.tmp 45)])⟩ (.br 4 ⟨(some 44),none,(.load 1 false (.tmp 43))⟩ (.br 7 ⟨(some 47),none,(.app 2 40 (.tmp 44) (.tmp 46))⟩ .done .nil) .nil) .nil))) (.br 6 ⟨(some 46),none,(.bsl 2 [(.tmp 45)])⟩ (.br 2 ⟨(some 42),none,(.nilc (.tmp 41))⟩ (.h 3 ⟨(some 43),none,(.fa 1 (.tmp 42))⟩ (.br 4 ⟨(some 44),none,(.load 1 false (.tmp 43))⟩ (.br 7 ⟨(some 47),none,(.app 2 40 (.tmp 44) (.tmp 46))⟩ .done .nil) .nil)) .nil) .nil)) .nil)))) [⟨(some 48),none,(.nilc (.tmp 40))⟩,⟨(some 49),none,(.fa 1 (.tmp 48))⟩,⟨none,none,(.store 1 (.tmp 49) (.tmp 47))⟩]) (.seq (.ops [
  ⟨(some 4),none,(.asg (.const (.int .i64 0)))⟩]) .ret))))))
theorem law_spec_l05Tile {a0 a1 d:D} {cells cells':List D} (h:∀ b,code_spec_l05Tile.wp (CT Tryz.prog TabG) (endX [(.t 4)] d 0 b cells') [.box (some b) cells,a1,.undef,.undef,.undef,.undef,.undef,.undef,.undef,.undef,.undef,.undef,.undef,.undef,.undef,.undef,.undef,.undef,.undef,.undef,.undef,.undef,.undef,.undef,.undef,.undef,.undef,.undef,.undef,.undef,.undef,.undef,.undef,.undef,.undef,.undef,.undef,.undef,.undef,.undef,.undef,.undef,.undef,.undef,.undef,.undef,.undef,.undef,.undef,.undef]):ContractX Tryz.prog TabG 73 0 [a0,a1] cells d cells' :=
  contract_ofX (pt:=12582912) tabG Tryz.func73 (fun us W=>by kernel_rfl) (c:=Tryz.f73.body.getD .skip) (ms:=[(mB 50 1125899906842524)]) (ms':=[]) (by kernel_rfl) (by kernel_rfl) (by kernel_rfl) (by simp) h
set_option maxHeartbeats 4000000 in
theorem v_l05Glue (s:TileSet) (w:List ByteArray) (hw:∀ x,x∈w→x.size≤1048576) (hl:w.length≤1048577) (hg:s.Glues.length≤1048577) :
    ContractX Tryz.prog TabG 72 0 [.undef,.sl false 1 (w.map rS)] (TileSet.td.d true s) (.v (.int .i64 (exS s (rsGlue s w)).1)) (TileSet.td.d true (exS s (rsGlue s w)).2):=by
  rw [TileSet.td_d,TileSet.td_d];refine law_spec_l05Glue ?_;intro bb;unfold code_spec_l05Glue;by_cases h3:w.length=3
  · obtain ⟨w0,w1,w2,rfl⟩:=len3 h3;obtain ⟨L,hwd,hLe⟩:∃ L,Wd L [w0,w1,w2]∧[w0,w1,w2].map rS=L:=⟨_,wd_map _,rfl⟩
    rw [hLe];have lw:(L.length:Int)=3:=by rw [hwd.len];rfl
    have e1:L[Int.toNat 1]?=some [.v (.string w1)]:=hwd.at' 1 (by simp);have e2:L[Int.toNat 2]?=some [.v (.string w2)]:=hwd.at' 2 (by simp);have n3:decide ((3:Int)=3)=true:=rfl;have hv:=v_ReadDecimal_spec w2 (hw _ (by simp));by_cases ht:s.Tiles.length=0
    · have d1:decide ((s.Tiles.length:Int) > 0)=false:=decide_eq_false (by omega);cases hr:readD w2 with
      | none=>have hN:rsGlue s [w0,w1,w2]=.error 6:=(by unfold rsGlue;simp only [hr];rw [if_pos ht]);rw [hN];rw [hr] at hv;simp -implicitDefEqProofs (disch:=omega) only [go_sem,↓reduceIte ,lw,n3,List.length_map,d1,e2,Int.le_refl,Int.reduceLE,Int.reduceLT];refine call_B (hv) (by simp -implicitDefEqProofs (disch:=omega) only [go_sem,↓reduceIte,deep,TD.rows,immLL_rI,immLL_rB8,immLL_rS,immLL_rBo,immLL_rII,immLL_rIIt,rdR];exact rfl) ?_;simp -implicitDefEqProofs (disch:=omega) only [go_sem,↓reduceIte ,rdR];exact ⟨rfl,rfl,rfl⟩
      | some n=>have hN:rsGlue s [w0,w1,w2]=.ok ⟨s.Glues++[⟨w1,n⟩],s.Tiles⟩:=(by unfold rsGlue;simp only [hr];rw [if_pos ht]);rw [hN];rw [hr] at hv;simp -implicitDefEqProofs (disch:=omega) only [go_sem,↓reduceIte ,lw,n3,List.length_map,d1,e2,Int.le_refl,Int.reduceLE,Int.reduceLT];refine call_B (hv) (by simp -implicitDefEqProofs (disch:=omega) only [go_sem,↓reduceIte,deep,TD.rows,immLL_rI,immLL_rB8,immLL_rS,immLL_rBo,immLL_rII,immLL_rIIt,rdR,lw,e1,Int.le_refl,Int.reduceLE,Int.reduceLT,List.length_map];exact rfl) ?_;simp -implicitDefEqProofs (disch:=omega) only [go_sem,↓reduceIte ,rdR,lw,e1,Int.le_refl,Int.reduceLE,Int.reduceLT,List.length_map];exact ⟨by omega,rfl,by show _=List.map _ (s.Glues++[⟨w1,n⟩]);rw [List.map_append];rfl,rfl⟩
    · have d1:decide ((s.Tiles.length:Int) > 0)=true:=decide_eq_true (by omega);have hN:rsGlue s [w0,w1,w2]=.error 6:=(by unfold rsGlue;simp only;rw [if_neg ht]);rw [hN];simp -implicitDefEqProofs (disch:=omega) only [go_sem,↓reduceIte ,lw,n3,List.length_map,d1,e2,Int.le_refl,Int.reduceLE,Int.reduceLT];exact ⟨rfl,rfl,rfl⟩
  · rw [rsGlue_not h3];have d1:decide ((w.length:Int)=3)=false:=decide_eq_false (by omega);simp -implicitDefEqProofs (disch:=omega) only [go_sem,↓reduceIte ,List.length_map,d1];exact ⟨rfl,rfl,rfl⟩
set_option maxHeartbeats 4000000 in
theorem v_l05Tile (s:TileSet) (w:List ByteArray) (hw:∀ x,x∈w→x.size≤1048576) (hl:w.length≤1048577) (hg:s.Glues.length≤1048576) (ht:s.Tiles.length≤1048577) :
    ContractX Tryz.prog TabG 73 0 [.undef,.sl false 1 (w.map rS)] (TileSet.td.d true s) (.v (.int .i64 (exS s (rsTile false s w)).1)) (TileSet.td.d true (exS s (rsTile false s w)).2):=by
  have hG:=fun n=>v_l02Glue s n hg;rw [TileSet.td_d,TileSet.td_d];simp only [TileSet.td_d] at hG;refine law_spec_l05Tile ?_;intro bb;unfold code_spec_l05Tile;by_cases h6:w.length=6
  · obtain ⟨w0,w1,w2,w3,w4,w5,rfl⟩:=len6 h6;obtain ⟨L,hwd,hLe⟩:∃ L,Wd L [w0,w1,w2,w3,w4,w5]∧[w0,w1,w2,w3,w4,w5].map rS=L:=⟨_,wd_map _,rfl⟩
    rw [hLe];have lw:(L.length:Int)=6:=by rw [hwd.len];rfl
    have e1:L[Int.toNat 1]?=some [.v (.string w1)]:=hwd.at' 1 (by simp);have n6:decide ((6:Int)=6)=true:=rfl;simp -implicitDefEqProofs (disch:=omega) only [go_sem,↓reduceIte ,lw,n6,e1,Int.le_refl,Int.reduceLE,Int.reduceLT];refine loop_ov (by simp -implicitDefEqProofs (disch:=omega) only [go_sem,↓reduceIte];exact rfl) (fun q:Nat × List Int=>[(5,.box none [.v (.string w1),.sl true 1 (q.2.map rI)]),(6,.v (.int .i64 ((q.1+2:Nat):Int)))]) (fun _=>by simp only [ovr_nil,ovr_cons,List.set_cons_zero,List.set_cons_succ];exact rfl) (fun q:Nat × List Int=>q.1≤4∧sidesR false s.Glues ([w2,w3,w4,w5].take q.1)=some q.2) (fun q:Nat × List Int=>4 - q.1) ((0,[])) (nleA) (?_) ?_
    · exact ⟨Nat.zero_le _,rfl⟩
    rintro ⟨j,l⟩ ⟨hj,hf⟩;simp only at hj hf ⊢;have hll:=(sidesR_rng hf).1;rw [List.length_take] at hll;simp -implicitDefEqProofs (disch:=omega) only [go_sem,↓reduceIte];refine cond_split ?_ ?_ <;> intro hlt
    · have hlt:j < 4:=(by have:=of_decide_eq_true hlt;omega);have hjl:j < [w2,w3,w4,w5].length:=hlt;generalize hx:[w2,w3,w4,w5][j]'hjl=x at *;have ej:L[j+2]?=some [.v (.string x)]:=(by have:=hwd.at' (j+2) (by simp;omega);rw [Int.toNat_natCast] at this;rw [this,← hx];rfl);have lj:((j+2:Nat):Int) < 6:=(by omega);have hT:=sidesR_take (bar:=false) (gs:=s.Glues) hjl;rw [hf,hx,sideR_f] at hT;simp only at hT;have hgr:=gIdx_rng s.Glues x;by_cases hz:gIdx s.Glues x+1=0
      · have dz:decide (gIdx s.Glues x+1=0)=true:=decide_eq_true hz;by_cases hb:x=sBar
        · have db:decide (x=(⟨⟨[45]⟩⟩:ByteArray))=true:=decide_eq_true hb;rw [if_neg (fun h=>h.2 hb)] at hT;simp only at hT;simp -implicitDefEqProofs (disch:=omega) only [go_sem,↓reduceIte ,lw,ej,lj,Int.toNat_natCast,Int.natCast_nonneg];refine call_B (hG x) (by simp -implicitDefEqProofs (disch:=omega) only [go_sem,↓reduceIte,deep,TD.rows,immLL_rI,immLL_rB8,immLL_rS,immLL_rBo,immLL_rII,immLL_rIIt,dz,db,lw,ej,lj,Int.toNat_natCast,Int.natCast_nonneg,wrN];exact rfl) ?_;simp -implicitDefEqProofs (disch:=omega) only [go_sem,↓reduceIte ,dz,db,lw,ej,lj,Int.toNat_natCast,Int.natCast_nonneg,wrN];refine ⟨by rw [List.length_map];omega,(j+1,l++[gIdx s.Glues x+1]),by show 4 - (j+1) < 4 - j;omega,⟨hlt,hT⟩,?_⟩;rw [List.map_append];exact nleA
        · have db:decide (x=(⟨⟨[45]⟩⟩:ByteArray))=false:=decide_eq_false hb;have hN:sideR false s.Glues ([w2,w3,w4,w5][j]'hjl)=none:=(by rw [hx,sideR_f,if_pos ⟨hz,hb⟩]);have hR:rsTile false s [w0,w1,w2,w3,w4,w5]=.error 3:=(by unfold rsTile;simp only [sidesR_none hjl hN]);rw [hR];simp -implicitDefEqProofs (disch:=omega) only [go_sem,↓reduceIte ,lw,ej,lj,Int.toNat_natCast,Int.natCast_nonneg];refine call_B (hG x) (by simp -implicitDefEqProofs (disch:=omega) only [go_sem,↓reduceIte,deep,TD.rows,immLL_rI,immLL_rB8,immLL_rS,immLL_rBo,immLL_rII,immLL_rIIt,dz,db,lw,ej,lj,Int.toNat_natCast,Int.natCast_nonneg,wrN];exact rfl) ?_;simp -implicitDefEqProofs (disch:=omega) only [go_sem,↓reduceIte ,dz,db,lw,ej,lj,Int.toNat_natCast,Int.natCast_nonneg,wrN];exact ⟨rfl,rfl,rfl⟩
      · have dz:decide (gIdx s.Glues x+1=0)=false:=decide_eq_false hz;rw [if_neg (fun h=>hz h.1)] at hT;simp only at hT;simp -implicitDefEqProofs (disch:=omega) only [go_sem,↓reduceIte ,lw,ej,lj,Int.toNat_natCast,Int.natCast_nonneg];refine call_B (hG x) (by simp -implicitDefEqProofs (disch:=omega) only [go_sem,↓reduceIte,deep,TD.rows,immLL_rI,immLL_rB8,immLL_rS,immLL_rBo,immLL_rII,immLL_rIIt,dz,lw,ej,lj,Int.toNat_natCast,Int.natCast_nonneg,wrN];exact rfl) ?_;simp -implicitDefEqProofs (disch:=omega) only [go_sem,↓reduceIte ,dz,lw,ej,lj,Int.toNat_natCast,Int.natCast_nonneg,wrN];refine ⟨by rw [List.length_map];omega,(j+1,l++[gIdx s.Glues x+1]),by show 4 - (j+1) < 4 - j;omega,⟨hlt,hT⟩,?_⟩;rw [List.map_append];exact nleA
    · have hj4:j=4:=(by have:=of_decide_eq_false hlt;omega);subst hj4;have hR:rsTile false s [w0,w1,w2,w3,w4,w5]=.ok ⟨s.Glues,s.Tiles++[⟨w1,l⟩]⟩:=(by unfold rsTile;simp only;rw [show sidesR false s.Glues [w2,w3,w4,w5]=some l from hf]);rw [hR];have hsm:((s.Tiles.map (Tile.td.d true)).length+1)*41≤2 ^ 40:=(by rw [List.length_map];omega);simp -implicitDefEqProofs (disch:=omega) only [go_sem,↓reduceIte];apply drawT_at
      case h =>
        intro K hK;simp -implicitDefEqProofs (disch:=omega) only [go_sem,↓reduceIte]
        repeat' (first | with_reducible exact hK | with_reducible exact hsm | with_reducible refine And.intro ?_ ?_)
      simp -implicitDefEqProofs (disch:=omega) only [go_sem,↓reduceIte ,tail_app];exact ⟨rfl,rfl,by show _=List.map _ (s.Tiles++[⟨w1,l⟩]);rw [List.map_append];rfl⟩
  · rw [rsTile_not h6];have d1:decide ((w.length:Int)=6)=false:=decide_eq_false (by omega);simp -implicitDefEqProofs (disch:=omega) only [go_sem,↓reduceIte ,List.length_map,d1];exact ⟨rfl,rfl,rfl⟩
theorem rsGlue_err {s:TileSet} {w:List ByteArray} {c:Int} (h:rsGlue s w=.error c):c=6:=by
  unfold rsGlue at h
  repeat' split at h
  all_goals first | (cases h;rfl) | cases h
theorem rsTile_err {bar:Bool} {s:TileSet} {w:List ByteArray} {c:Int} (h:rsTile bar s w=.error c):c=6∨c=3:=by
  unfold rsTile at h
  repeat' split at h
  all_goals first | (cases h;exact .inl rfl) | (cases h;exact .inr rfl) | cases h
theorem rsLine_err {bar:Bool} {s:TileSet} {w:List ByteArray} {c:Int} (h:rsLine bar s w=.error c):c=6∨c=3:=by
  unfold rsLine at h;split at h
  · cases h;exact .inl rfl
  · split at h
    · exact .inl (rsGlue_err h)
    · split at h
      · exact rsTile_err h
      · cases h;exact .inl rfl
theorem line_glue {bar:Bool} {s:TileSet} {w0:ByteArray} {ws:List ByteArray} (h:w0=sGlue):rsLine bar s (w0::ws)=rsGlue s (w0::ws):=by unfold rsLine;simp only;rw [if_pos h]
theorem line_tile {bar:Bool} {s:TileSet} {w0:ByteArray} {ws:List ByteArray} (h:w0=sTile):rsLine bar s (w0::ws)=rsTile bar s (w0::ws):=by unfold rsLine;simp only;rw [if_neg (fun e=>by rw [h] at e;exact absurd e (by decide)),if_pos h]
theorem line_no {bar:Bool} {s:TileSet} {w0:ByteArray} {ws:List ByteArray} (h1:w0≠sGlue) (h2:w0≠sTile):rsLine bar s (w0::ws)=.error 6:=by unfold rsLine;simp only;rw [if_neg h1,if_neg h2]
def setsR (bar:Bool) (ls:List ByteArray):TileSet × Int × Int:=match rdFold (rsSt bar) ls 0 set0 with
  | .error (k,c)=>(set0,(k:Int),c)
  | .ok s=>if okSet s then (s,0,0) else (set0,0,1)
theorem readSet_eq (bar:Bool) (b:ByteArray):ReadSetB bar b=if 20000 < b.size then (set0,0,2) else setsR bar (linesB b):=rfl
def code_spec_l05ReadSet:VCode:=(.seq (.ops [
  ⟨(some 2),none,(.alloc [(.slice none 0 0),(.slice none 0 0)])⟩,
  ⟨(some 3),none,(.asg (.const (.int .i64 0)))⟩,
  ⟨(some 4),none,(.asg (.const (.int .i64 0)))⟩]) (.seq (.ops [
  ⟨(some 9),none,(.build [(.slice none 0 0),(.slice none 0 0)] [])⟩,
  ⟨(some 5),none,(.alloc [(.slice none 0 0),(.slice none 0 0)])⟩,
  ⟨none,none,(.store 2 (.tmp 5) (.tmp 9))⟩]) (.seq (.seq (.ops [
  ⟨(some 6),none,(.asg (.const (.int .i64 0)))⟩]) (.block 0 (.loop (mB 53 9007199254740890) (.seq (.seq (.ops [
  ⟨(some 10),none,(.mv (.tmp 6))⟩,
  ⟨(some 11),none,(.mv (.tmp 0))⟩,
  ⟨(some 12),none,(.len (.tmp 11))⟩,
  ⟨(some 13),none,(.bin .lss (.tmp 10) (.tmp 12))⟩]) (.cond (.tmp 13) .skip (.exit 0))) (.seq (.block 1 (.seq (.ops [
  ⟨(some 16),none,(.mv (.tmp 0))⟩,
  ⟨(some 17),none,(.mv (.tmp 6))⟩,
  ⟨(some 18),none,(.ia 1 (.tmp 16) (.tmp 17))⟩,
  ⟨(some 19),none,(.load 1 false (.tmp 18))⟩,
  ⟨(some 20),none,(.callX 23 [(.tmp 19)])⟩,
  ⟨(some 7),none,(.asg (.tmp 20))⟩]) (.seq (.ops [
  ⟨(some 8),none,(.asg (.const (.int .i64 6)))⟩]) (.seq (.seq (.ops [
  ⟨(some 21),none,(.mv (.tmp 7))⟩,
  ⟨(some 22),none,(.len (.tmp 21))⟩,
  ⟨(some 23),none,(.bin .gtr (.tmp 22) (.const (.int .i64 0)))⟩,
  ⟨(some 24),none,(.mv (.tmp 23))⟩,
  ⟨(some 25),(some (24,true)),(.mv (.tmp 7))⟩,
  ⟨(some 26),(some (24,true)),(.ia 1 (.tmp 25) (.const (.int .i64 0)))⟩,
  ⟨(some 27),(some (24,true)),(.load 1 false (.tmp 26))⟩,
  ⟨(some 28),(some (24,true)),(.bin .eql (.tmp 27) (.const (.string ⟨⟨[103,108,117,101]⟩⟩)))⟩,
  ⟨(some 29),none,(.pick (.tmp 24) (.tmp 28) (.const (.bool false)))⟩]) (.cond (.tmp 29) (.ops [
  ⟨(some 30),none,(.mv (.tmp 7))⟩,
  ⟨(some 31),none,(.callX 72 [(.tmp 5),(.tmp 30)])⟩,
  ⟨(some 8),none,(.asg (.tmp 31))⟩]) .skip)) (.seq (.seq (.ops [
  ⟨(some 32),none,(.mv (.tmp 7))⟩,
  ⟨(some 33),none,(.len (.tmp 32))⟩,
  ⟨(some 34),none,(.bin .gtr (.tmp 33) (.const (.int .i64 0)))⟩,
  ⟨(some 35),none,(.mv (.tmp 34))⟩,
  ⟨(some 36),(some (35,true)),(.mv (.tmp 7))⟩,
  ⟨(some 37),(some (35,true)),(.ia 1 (.tmp 36) (.const (.int .i64 0)))⟩,
  ⟨(some 38),(some (35,true)),(.load 1 false (.tmp 37))⟩,
  ⟨(some 39),(some (35,true)),(.bin .eql (.tmp 38) (.const (.string ⟨⟨[116,105,108,101]⟩⟩)))⟩,
  ⟨(some 40),none,(.pick (.tmp 35) (.tmp 39) (.const (.bool false)))⟩]) (.cond (.tmp 40) (.ops [
  ⟨(some 41),none,(.mv (.tmp 7))⟩,
  ⟨(some 42),none,(.callX 73 [(.tmp 5),(.tmp 41)])⟩,
  ⟨(some 8),none,(.asg (.tmp 42))⟩]) .skip)) (.seq (.ops [
  ⟨(some 43),none,(.mv (.tmp 8))⟩,
  ⟨(some 44),none,(.bin .neq (.tmp 43) (.const (.int .i64 0)))⟩]) (.cond (.tmp 44) (.seq (.ops [
  ⟨(some 45),none,(.build [(.slice none 0 0),(.slice none 0 0)] [])⟩,
  ⟨(some 46),none,(.mv (.tmp 6))⟩,
  ⟨(some 47),none,(.bin .add (.tmp 46) (.const (.int .i64 1)))⟩,
  ⟨(some 48),none,(.mv (.tmp 8))⟩,
  ⟨none,none,(.store 2 (.tmp 2) (.tmp 45))⟩,
  ⟨(some 3),none,(.asg (.tmp 47))⟩,
  ⟨(some 4),none,(.asg (.tmp 48))⟩]) .ret) .skip))))))) (.ops [
  ⟨(some 14),none,(.mv (.tmp 6))⟩,
  ⟨(some 15),none,(.bin .add (.tmp 14) (.const (.int .i64 1)))⟩,
  ⟨(some 6),none,(.asg (.tmp 15))⟩])))))) (.seq (.seq (.ops [
  ⟨(some 49),none,(.callX 74 [(.tmp 5)])⟩,
  ⟨(some 50),none,(.un .not (.tmp 49))⟩]) (.cond (.tmp 50) (.seq (.ops [
  ⟨(some 51),none,(.build [(.slice none 0 0),(.slice none 0 0)] [])⟩,
  ⟨none,none,(.store 2 (.tmp 2) (.tmp 51))⟩,
  ⟨(some 3),none,(.asg (.const (.int .i64 0)))⟩,
  ⟨(some 4),none,(.asg (.const (.int .i64 1)))⟩]) .ret) .skip)) (.seq (.ops [
  ⟨(some 52),none,(.load 2 true (.tmp 5))⟩,
  ⟨none,none,(.store 2 (.tmp 2) (.tmp 52))⟩,
  ⟨(some 3),none,(.asg (.const (.int .i64 0)))⟩,
  ⟨(some 4),none,(.asg (.const (.int .i64 0)))⟩]) .ret)))))
theorem law_spec_l05ReadSet {a0 d:D} (h:code_spec_l05ReadSet.wp (CT Tryz.prog TabG) (endQ [(.c 2 2 true),(.t 3),(.t 4)] d) [a0,.undef,.undef,.undef,.undef,.undef,.undef,.undef,.undef,.undef,.undef,.undef,.undef,.undef,.undef,.undef,.undef,.undef,.undef,.undef,.undef,.undef,.undef,.undef,.undef,.undef,.undef,.undef,.undef,.undef,.undef,.undef,.undef,.undef,.undef,.undef,.undef,.undef,.undef,.undef,.undef,.undef,.undef,.undef,.undef,.undef,.undef,.undef,.undef,.undef,.undef,.undef,.undef]):Contract Tryz.prog TabG 44 [a0] d :=
  contract_of (pt:=0) tabG Tryz.func44 (fun us W=>by kernel_rfl) (c:=Tryz.f44.body.getD .skip) (ms:=[(mB 53 9007199254740890)]) (ms':=[]) (by kernel_rfl) (by kernel_rfl) (by kernel_rfl) h
def code_spec_ReadSet:VCode:=(.seq (.ops [
  ⟨(some 2),none,(.alloc [(.slice none 0 0),(.slice none 0 0)])⟩,
  ⟨(some 3),none,(.asg (.const (.int .i64 0)))⟩,
  ⟨(some 4),none,(.asg (.const (.int .i64 0)))⟩]) (.seq (.seq (.ops [
  ⟨(some 5),none,(.mv (.tmp 0))⟩,
  ⟨(some 6),none,(.lenS (.tmp 5))⟩,
  ⟨(some 7),none,(.bin .gtr (.tmp 6) (.const (.int .i64 20000)))⟩]) (.cond (.tmp 7) (.seq (.ops [
  ⟨(some 8),none,(.build [(.slice none 0 0),(.slice none 0 0)] [])⟩,
  ⟨none,none,(.store 2 (.tmp 2) (.tmp 8))⟩,
  ⟨(some 3),none,(.asg (.const (.int .i64 0)))⟩,
  ⟨(some 4),none,(.asg (.const (.int .i64 2)))⟩]) .ret) .skip)) (.seq (.ops [
  ⟨(some 9),none,(.mv (.tmp 0))⟩,
  ⟨(some 10),none,(.callX 21 [(.tmp 9)])⟩,
  ⟨(some 11),none,(.callX 44 [(.tmp 10)])⟩,
  ⟨(some 12),none,(.ext (.tmp 11) 0)⟩,
  ⟨(some 13),none,(.ext (.tmp 11) 1)⟩,
  ⟨(some 14),none,(.ext (.tmp 11) 2)⟩,
  ⟨none,none,(.store 2 (.tmp 2) (.tmp 12))⟩,
  ⟨(some 3),none,(.asg (.tmp 13))⟩,
  ⟨(some 4),none,(.asg (.tmp 14))⟩]) .ret)))
theorem law_spec_ReadSet {a0 d:D} (h:code_spec_ReadSet.wp (CT Tryz.prog TabG) (endQ [(.c 2 2 true),(.t 3),(.t 4)] d) [a0,.undef,.undef,.undef,.undef,.undef,.undef,.undef,.undef,.undef,.undef,.undef,.undef,.undef,.undef]):Contract Tryz.prog TabG 16 [a0] d :=
  contract_of (pt:=0) tabG Tryz.func16 (fun us W=>by kernel_rfl) (c:=Tryz.f16.body.getD .skip) (ms:=[]) (ms':=[]) (by kernel_rfl) (by kernel_rfl) (by kernel_rfl) h
set_option maxHeartbeats 40000000 in
theorem v_l05ReadSet (ls:List ByteArray) (hls:∀ l,l∈ls→l.size≤1048576) (hn:ls.length≤1048576):Contract Tryz.prog TabG 44 [.sl false 1 (ls.map rS)] (.tup [.agg (TileSet.td.d true (setsR false ls).1),.v (.int .i64 (setsR false ls).2.1),.v (.int .i64 (setsR false ls).2.2)]):=by
  rw [TileSet.td_d];refine law_spec_l05ReadSet ?_;unfold code_spec_l05ReadSet;simp -implicitDefEqProofs (disch:=omega) only [go_sem,↓reduceIte];refine loop_ov (by simp -implicitDefEqProofs (disch:=omega) only [go_sem,↓reduceIte];exact rfl) (fun q:Nat × TileSet=>[(5,.box none (TileSet.td.d true q.2)),(6,.v (.int .i64 (q.1:Nat)))]) (fun _=>by simp only [ovr_nil,ovr_cons,List.set_cons_zero,List.set_cons_succ];exact rfl) (fun q:Nat × TileSet=>q.1≤ls.length∧rdFold (rsSt false) (ls.take q.1) 0 set0=.ok q.2) (fun q:Nat × TileSet=>ls.length - q.1) ((0,set0)) (nleA) (?_) ?_
  · exact ⟨Nat.zero_le _,rfl⟩
  rintro ⟨i,s⟩ ⟨hi,hf⟩;simp only at hi hf ⊢;have hB:=rsFold_B (M:=1048576) (ls.take i) 0 set0 s (fun l hl=>hls l (List.mem_of_mem_take hl)) (set0_B _) hf;rw [List.length_take,show 0+min i ls.length=i by omega] at hB;have hBl:=hB.len;rw [TileSet.td_d];simp -implicitDefEqProofs (disch:=omega) only [go_sem,↓reduceIte];refine cond_split ?_ ?_ <;> intro hlt
  · have hlt:i < ls.length:=(by simpa using hlt);have hltM:i < (ls.map rS).length:=(by rw [List.length_map];exact hlt);have e1:(ls.map rS)[i]?=some [D.v (.string ls[i])]:=(by rw [List.getElem?_map,List.getElem?_eq_getElem hlt];rfl);have hsz:=hls _ (List.getElem_mem hlt);have hW:=v_l05Words ls[i] hsz;have hwl:=wordsB_len ls[i];have hwz:∀ x,x∈wordsB ls[i]→x.size≤1048576:=fun x hx=>by have:=wordsB_size hx;omega
    have hSt:rsSt false i s ls[i]=rsLine false s (wordsB ls[i]):=rfl;have hz1:IntKind.i64.wrap ((i:Int)+1)=((i+1:Nat):Int):=wrI (by omega) (by omega);have d6:decide ((6:Int)=0)=false:=rfl;have d00:decide ((0:Int)=0)=true:=rfl;cases hw:wordsB ls[i] with
    | nil =>
      rw [hw] at hW hSt;have hR:setsR false ls=(set0,((i+1:Nat):Int),6):=by unfold setsR;rw [rdFold_err hlt hf (c:=6) (by rw [hSt];rfl)]
      rw [hR];have ll:decide (((0:Nat):Int) > 0)=false:=rfl;simp -implicitDefEqProofs (disch:=omega) only [go_sem,↓reduceIte ,e1,Int.toNat_natCast,Int.natCast_nonneg];refine ⟨by omega,?_⟩;refine call_B (hW) (by simp -implicitDefEqProofs (disch:=omega) only [go_sem,↓reduceIte,deep,TD.rows,immLL_rI,immLL_rB8,immLL_rS,immLL_rBo,immLL_rII,immLL_rIIt,ll,List.map_nil,List.length_nil,d6,hz1];exact rfl) ?_;simp -implicitDefEqProofs (disch:=omega) only [go_sem,↓reduceIte ,ll,List.map_nil,List.length_nil,d6,hz1];exact ⟨rfl,rfl⟩
    | cons w0 ws =>
      rw [hw] at hW hSt hwz hwl;rw [List.length_cons] at hwl;have ll:decide (((ws.length+1:Nat):Int) > 0)=true:=decide_eq_true (by omega);have hG:=v_l05Glue s (w0::ws) hwz (by rw [List.length_cons];omega) (by omega);have hT:=v_l05Tile s (w0::ws) hwz (by rw [List.length_cons];omega) (by omega) (by omega);obtain ⟨L,hwd,hLe⟩:∃ L,WdS L w0 ws∧(w0::ws).map rS=L:=⟨_,wds_map _ _,rfl⟩
      have lw:=hwd.len;have e0:=hwd.hd;have l0:(0:Int) < ((ws.length+1:Nat):Int):=(by omega);have iL:immLL L=L:=(by rw [← hLe];exact immLL_rS _);rw [hLe] at hW hG hT;cases hg:decide (w0=sGlue) with
      | true =>
        have hg':=of_decide_eq_true hg;have g1:decide (w0=(⟨⟨[103,108,117,101]⟩⟩:ByteArray))=true:=hg;have g2:decide (w0=(⟨⟨[116,105,108,101]⟩⟩:ByteArray))=false:=decide_eq_false (fun e=>by rw [hg'] at e;exact absurd e (by decide));rw [line_glue hg'] at hSt;cases hr:rsGlue s (w0::ws) with
        | error c =>
          rw [hr] at hSt hG;simp only [TileSet.td_d,exS] at hG;have hc:decide (c=0)=false:=decide_eq_false (by rw [rsGlue_err hr];decide);have hR:setsR false ls=(set0,((i+1:Nat):Int),c):=by unfold setsR;rw [rdFold_err hlt hf hSt]
          rw [hR];simp -implicitDefEqProofs (disch:=omega) only [go_sem,↓reduceIte ,e1,Int.toNat_natCast,Int.natCast_nonneg];refine ⟨by omega,?_⟩;refine call_B (hW) (by simp -implicitDefEqProofs (disch:=omega) only [go_sem,↓reduceIte,deep,TD.rows,immLL_rI,immLL_rB8,immLL_rS,immLL_rBo,immLL_rII,immLL_rIIt,ll,lw,e0,l0,g1,g2,Int.le_refl];exact rfl) ?_;simp -implicitDefEqProofs (disch:=omega) only [go_sem,↓reduceIte ,ll,lw,e0,l0,g1,g2,Int.le_refl];refine call_ioA (i:=0) (r:=5) (hG) rfl rfl (by simp -implicitDefEqProofs (disch:=omega) only [go_sem,↓reduceIte,deep,TD.rows,immLL_rI,immLL_rB8,immLL_rS,immLL_rBo,immLL_rII,immLL_rIIt,iL,ll,lw,e0,l0,g1,g2,Int.le_refl,hc,hz1];exact rfl) (by repeat (first | exact leL_nil | refine leL_cons ?_ ?_ | exact le_of_eq rfl | exact le_iptrN (leL_of_eq rfl) | refine le_agg ?_ | exact le_slf rfl (TD.rows ..) | refine le_iptr ?_ | refine le_fn ?_ ?_ | exact le_nilsl_)) (by repeat (first | exact leL_nil | refine leL_cons ?_ ?_ | exact le_of_eq rfl | exact le_iptrN (leL_of_eq rfl) | refine le_agg ?_ | exact le_slf rfl (TD.rows ..) | refine le_iptr ?_ | refine le_fn ?_ ?_ | exact le_nilsl_)) (by first | exact .inr rfl | exact .inl ⟨rfl,rfl⟩ | exact .inl ⟨by simp only [D.noImm,noImmL,go_sem,TD.nims,TD.nim,nim_rI,nim_rB8,nim_rBo,nim_rS],by simp only [D.noImm,noImmL,go_sem,TD.nims,TD.nim,nim_rI,nim_rB8,nim_rBo,nim_rS]⟩) ?_;simp -implicitDefEqProofs (disch:=omega) only [go_sem,↓reduceIte ,iL,ll,lw,e0,l0,g1,g2,Int.le_refl,hc,hz1];exact ⟨rfl,rfl⟩
        | ok s'=>rw [hr] at hSt hG;simp only [TileSet.td_d,exS] at hG;have hnx:=rdFold_ok hlt hf hSt;simp -implicitDefEqProofs (disch:=omega) only [go_sem,↓reduceIte ,e1,Int.toNat_natCast,Int.natCast_nonneg];refine ⟨by omega,?_⟩;refine call_B (hW) (by simp -implicitDefEqProofs (disch:=omega) only [go_sem,↓reduceIte,deep,TD.rows,immLL_rI,immLL_rB8,immLL_rS,immLL_rBo,immLL_rII,immLL_rIIt,ll,lw,e0,l0,g1,g2,Int.le_refl];exact rfl) ?_;simp -implicitDefEqProofs (disch:=omega) only [go_sem,↓reduceIte ,ll,lw,e0,l0,g1,g2,Int.le_refl];refine call_ioA (i:=0) (r:=5) (hG) rfl rfl (by simp -implicitDefEqProofs (disch:=omega) only [go_sem,↓reduceIte,deep,TD.rows,immLL_rI,immLL_rB8,immLL_rS,immLL_rBo,immLL_rII,immLL_rIIt,iL,ll,lw,e0,l0,g1,g2,Int.le_refl,d00,hz1];exact rfl) (by repeat (first | exact leL_nil | refine leL_cons ?_ ?_ | exact le_of_eq rfl | exact le_iptrN (leL_of_eq rfl) | refine le_agg ?_ | exact le_slf rfl (TD.rows ..) | refine le_iptr ?_ | refine le_fn ?_ ?_ | exact le_nilsl_)) (by repeat (first | exact leL_nil | refine leL_cons ?_ ?_ | exact le_of_eq rfl | exact le_iptrN (leL_of_eq rfl) | refine le_agg ?_ | exact le_slf rfl (TD.rows ..) | refine le_iptr ?_ | refine le_fn ?_ ?_ | exact le_nilsl_)) (by first | exact .inr rfl | exact .inl ⟨rfl,rfl⟩ | exact .inl ⟨by simp only [D.noImm,noImmL,go_sem,TD.nims,TD.nim,nim_rI,nim_rB8,nim_rBo,nim_rS],by simp only [D.noImm,noImmL,go_sem,TD.nims,TD.nim,nim_rI,nim_rB8,nim_rBo,nim_rS]⟩) ?_;simp -implicitDefEqProofs (disch:=omega) only [go_sem,↓reduceIte ,iL,ll,lw,e0,l0,g1,g2,Int.le_refl,d00,hz1];exact ⟨(i+1,s'),by show _ - (i+1) < _ - i;omega,⟨hlt,hnx⟩,nleA⟩
      | false =>
        have hg':=of_decide_eq_false hg;have g1:decide (w0=(⟨⟨[103,108,117,101]⟩⟩:ByteArray))=false:=hg;cases ht:decide (w0=sTile) with
        | true =>
          have ht':=of_decide_eq_true ht;have g2:decide (w0=(⟨⟨[116,105,108,101]⟩⟩:ByteArray))=true:=ht;rw [line_tile ht'] at hSt;cases hr:rsTile false s (w0::ws) with
          | error c =>
            rw [hr] at hSt hT;simp only [TileSet.td_d,exS] at hT;have hc:decide (c=0)=false:=decide_eq_false (by rcases rsTile_err hr with h | h <;> rw [h] <;> decide);have hR:setsR false ls=(set0,((i+1:Nat):Int),c):=by unfold setsR;rw [rdFold_err hlt hf hSt]
            rw [hR];simp -implicitDefEqProofs (disch:=omega) only [go_sem,↓reduceIte ,e1,Int.toNat_natCast,Int.natCast_nonneg];refine ⟨by omega,?_⟩;refine call_B (hW) (by simp -implicitDefEqProofs (disch:=omega) only [go_sem,↓reduceIte,deep,TD.rows,immLL_rI,immLL_rB8,immLL_rS,immLL_rBo,immLL_rII,immLL_rIIt,ll,lw,e0,l0,g1,g2,Int.le_refl];exact rfl) ?_;simp -implicitDefEqProofs (disch:=omega) only [go_sem,↓reduceIte ,ll,lw,e0,l0,g1,g2,Int.le_refl];refine call_ioA (i:=0) (r:=5) (hT) rfl rfl (by simp -implicitDefEqProofs (disch:=omega) only [go_sem,↓reduceIte,deep,TD.rows,immLL_rI,immLL_rB8,immLL_rS,immLL_rBo,immLL_rII,immLL_rIIt,iL,hc,hz1];exact rfl) (by repeat (first | exact leL_nil | refine leL_cons ?_ ?_ | exact le_of_eq rfl | exact le_iptrN (leL_of_eq rfl) | refine le_agg ?_ | exact le_slf rfl (TD.rows ..) | refine le_iptr ?_ | refine le_fn ?_ ?_ | exact le_nilsl_)) (by repeat (first | exact leL_nil | refine leL_cons ?_ ?_ | exact le_of_eq rfl | exact le_iptrN (leL_of_eq rfl) | refine le_agg ?_ | exact le_slf rfl (TD.rows ..) | refine le_iptr ?_ | refine le_fn ?_ ?_ | exact le_nilsl_)) (by first | exact .inr rfl | exact .inl ⟨rfl,rfl⟩ | exact .inl ⟨by simp only [D.noImm,noImmL,go_sem,TD.nims,TD.nim,nim_rI,nim_rB8,nim_rBo,nim_rS],by simp only [D.noImm,noImmL,go_sem,TD.nims,TD.nim,nim_rI,nim_rB8,nim_rBo,nim_rS]⟩) ?_;simp -implicitDefEqProofs (disch:=omega) only [go_sem,↓reduceIte ,iL,hc,hz1];exact ⟨rfl,rfl⟩
          | ok s'=>rw [hr] at hSt hT;simp only [TileSet.td_d,exS] at hT;have hnx:=rdFold_ok hlt hf hSt;simp -implicitDefEqProofs (disch:=omega) only [go_sem,↓reduceIte ,e1,Int.toNat_natCast,Int.natCast_nonneg];refine ⟨by omega,?_⟩;refine call_B (hW) (by simp -implicitDefEqProofs (disch:=omega) only [go_sem,↓reduceIte,deep,TD.rows,immLL_rI,immLL_rB8,immLL_rS,immLL_rBo,immLL_rII,immLL_rIIt,ll,lw,e0,l0,g1,g2,Int.le_refl];exact rfl) ?_;simp -implicitDefEqProofs (disch:=omega) only [go_sem,↓reduceIte ,ll,lw,e0,l0,g1,g2,Int.le_refl];refine call_ioA (i:=0) (r:=5) (hT) rfl rfl (by simp -implicitDefEqProofs (disch:=omega) only [go_sem,↓reduceIte,deep,TD.rows,immLL_rI,immLL_rB8,immLL_rS,immLL_rBo,immLL_rII,immLL_rIIt,iL,d00,hz1];exact rfl) (by repeat (first | exact leL_nil | refine leL_cons ?_ ?_ | exact le_of_eq rfl | exact le_iptrN (leL_of_eq rfl) | refine le_agg ?_ | exact le_slf rfl (TD.rows ..) | refine le_iptr ?_ | refine le_fn ?_ ?_ | exact le_nilsl_)) (by repeat (first | exact leL_nil | refine leL_cons ?_ ?_ | exact le_of_eq rfl | exact le_iptrN (leL_of_eq rfl) | refine le_agg ?_ | exact le_slf rfl (TD.rows ..) | refine le_iptr ?_ | refine le_fn ?_ ?_ | exact le_nilsl_)) (by first | exact .inr rfl | exact .inl ⟨rfl,rfl⟩ | exact .inl ⟨by simp only [D.noImm,noImmL,go_sem,TD.nims,TD.nim,nim_rI,nim_rB8,nim_rBo,nim_rS],by simp only [D.noImm,noImmL,go_sem,TD.nims,TD.nim,nim_rI,nim_rB8,nim_rBo,nim_rS]⟩) ?_;simp -implicitDefEqProofs (disch:=omega) only [go_sem,↓reduceIte ,iL,d00,hz1];exact ⟨(i+1,s'),by show _ - (i+1) < _ - i;omega,⟨hlt,hnx⟩,nleA⟩
        | false=>have ht':=of_decide_eq_false ht;have g2:decide (w0=(⟨⟨[116,105,108,101]⟩⟩:ByteArray))=false:=ht;rw [line_no hg' ht'] at hSt;have hR:setsR false ls=(set0,((i+1:Nat):Int),6):=(by unfold setsR;rw [rdFold_err hlt hf hSt]);rw [hR];simp -implicitDefEqProofs (disch:=omega) only [go_sem,↓reduceIte ,e1,Int.toNat_natCast,Int.natCast_nonneg];refine ⟨by omega,?_⟩;refine call_B (hW) (by simp -implicitDefEqProofs (disch:=omega) only [go_sem,↓reduceIte,deep,TD.rows,immLL_rI,immLL_rB8,immLL_rS,immLL_rBo,immLL_rII,immLL_rIIt,ll,lw,e0,l0,g1,g2,Int.le_refl,d6,hz1];exact rfl) ?_;simp -implicitDefEqProofs (disch:=omega) only [go_sem,↓reduceIte ,ll,lw,e0,l0,g1,g2,Int.le_refl,d6,hz1];exact ⟨rfl,rfl⟩
  · have hie:i=ls.length:=(by have:¬ i < ls.length:=(by simpa using hlt);omega);rw [hie,List.take_length] at hf;have hM:=v_l02Ok s (hB.setB (Nat.le_refl _) (by omega));cases hok:okSet s with
    | false=>have hR:setsR false ls=(set0,0,1):=(by unfold setsR;rw [hf];simp only [hok];rfl);rw [hR];rw [hok,TileSet.td_d] at hM;simp -implicitDefEqProofs (disch:=omega) only [go_sem,↓reduceIte];refine call_B (hM) (by simp -implicitDefEqProofs (disch:=omega) only [go_sem,↓reduceIte,deep,TD.rows,immLL_rI,immLL_rB8,immLL_rS,immLL_rBo,immLL_rII,immLL_rIIt];exact rfl) ?_;simp -implicitDefEqProofs (disch:=omega) only [go_sem,↓reduceIte];exact ⟨rfl,rfl⟩
    | true=>have hR:setsR false ls=(s,0,0):=(by unfold setsR;rw [hf];simp only [hok];rfl);rw [hR];rw [hok,TileSet.td_d] at hM;simp -implicitDefEqProofs (disch:=omega) only [go_sem,↓reduceIte];refine call_B (hM) (by simp -implicitDefEqProofs (disch:=omega) only [go_sem,↓reduceIte,deep,TD.rows,immLL_rI,immLL_rB8,immLL_rS,immLL_rBo,immLL_rII,immLL_rIIt];exact rfl) ?_;simp -implicitDefEqProofs (disch:=omega) only [go_sem,↓reduceIte]
set_option maxHeartbeats 4000000 in
theorem vReadSet_specR (q_aText:ByteArray) (q_aText_n:q_aText.size≤1048576):Contract Tryz.prog TabG 16 [.v (.string q_aText)] (.tup [.agg (TileSet.td.d true (ReadSetB false q_aText).1),.v (.int .i64 (ReadSetB false q_aText).2.1),.v (.int .i64 (ReadSetB false q_aText).2.2)]):=by
  rw [readSet_eq];by_cases hbig:20000 < q_aText.size
  · have d1:decide ((q_aText.size:Int) > 20000)=true:=decide_eq_true (by omega);rw [if_pos hbig,TileSet.td_d];refine law_spec_ReadSet ?_;unfold code_spec_ReadSet;simp -implicitDefEqProofs (disch:=omega) only [go_sem,↓reduceIte ,d1];exact ⟨rfl,rfl⟩
  · have d1:decide ((q_aText.size:Int) > 20000)=false:=decide_eq_false (by omega);have hL:=v_l05Lines q_aText q_aText_n;have hP:=v_l05ReadSet (linesB q_aText) (fun l hl=>by have:=linesB_size hl;omega) (by have:=linesB_len q_aText;omega);rw [if_neg hbig];rw [TileSet.td_d] at hP ⊢;refine law_spec_ReadSet ?_;unfold code_spec_ReadSet;simp -implicitDefEqProofs (disch:=omega) only [go_sem,↓reduceIte ,d1];refine call_B (hL) (by simp -implicitDefEqProofs (disch:=omega) only [go_sem,↓reduceIte,deep,TD.rows,immLL_rI,immLL_rB8,immLL_rS,immLL_rBo,immLL_rII,immLL_rIIt];exact rfl) ?_;simp -implicitDefEqProofs (disch:=omega) only [go_sem,↓reduceIte];refine call_B (hP) (by simp -implicitDefEqProofs (disch:=omega) only [go_sem,↓reduceIte,deep,TD.rows,immLL_rI,immLL_rB8,immLL_rS,immLL_rBo,immLL_rII,immLL_rIIt];exact rfl) ?_;simp -implicitDefEqProofs (disch:=omega) only [go_sem,↓reduceIte]
    first | done | exact ⟨rfl,rfl⟩
end Go.Proofs.YtjkbngjiagknkaaGreatDoor
