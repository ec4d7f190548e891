/- Laws that the proof stands on. -/
import Derived.Test.YtdlchnlpmofpmaaGreatDoorZMark
import Derived.Test.YtdlchnlpmofpmaaGreatDoorZg14
import Derived.Test.YtdlchnlpmofpmaaGreatDoorZg5
import Derived.Test.YtdlchnlpmofpmaaGreatDoorZg16
set_option linter.all false
namespace Go.Proofs.YtdlchnlpmofpmaaGreatDoor
open Go.RowKit Go.ChangeShapes Go.WideShapes Go.ChangeAt
def Glue.cnE (x:Glue):Nat:=1+1
def Glue.mkE (x:Glue)(k:Int):Glue:=⟨(markT k),(k+1)⟩
def Glue.cnT (x:Glue):Nat:=0
def Glue.mkT (x:Glue)(k:Int):Glue:=⟨x.Name,x.Strength⟩
theorem Glue.cnE_le (x:Glue):Glue.cnE x≤2*(1+Glue.cnt x):=by have:Glue.cnt x=x.Name.size:=rfl;have:Glue.cnE x=1+1:=rfl;omega
theorem Glue.own_cells {w:World}{cs:List Value}{x:Glue}{F:List Nat}(h:Glue.ty.own w cs x F):cs=[.string x.Name,.int .i64 x.Strength]∧F=(([]:List Nat)++([]:List Nat))∧x.Name.size≤maxLen∧InK .i64 x.Strength:=by obtain ⟨_,_,_,_,rfl,rfl,h_0,h_1⟩:=h;obtain ⟨rfl,h_0_i,rfl⟩:=h_0;obtain ⟨rfl,h_1_i,rfl⟩:=h_1;exact ⟨rfl,rfl,h_0_i,h_1_i⟩
theorem Glue.own_make {w:World}{x:Glue}(h0:x.Name.size≤maxLen)(h1:InK .i64 x.Strength):Glue.ty.own w [.string x.Name,.int .i64 x.Strength] x (([]:List Nat)++([]:List Nat)) :=
  ⟨_,_,_,_,rfl,rfl,⟨rfl,h0,rfl⟩,⟨rfl,h1,rfl⟩⟩
set_option maxRecDepth 10000 in
set_option maxHeartbeats 1000000 in
theorem zP0 (v:Value)(xs:List Glue)(k:Int)(F:List Nat)(w:World)(h:(Ty.slice 76 Glue.ty).own w [v] xs F)(hn:F.Nodup)(hF:∀ b,b∈F→b<w.heap.size)(h0:0≤k)(hk:k+(cnS Glue.cnE xs:Nat)≤4611686018427387904) :
    Calls Tryz.prog 29 #[v,.int .i64 k] w fun e w'=>e=.returned (.int .i64 (k+(cnS Glue.cnE xs:Nat)))∧(Ty.slice 76 Glue.ty).own w' [v] (mkL Glue.mkE Glue.cnE xs k) F∧Chg F w w':=by
  obtain ⟨a,c,rfl,_,hm⟩:=Ty.form (Ty.own_lt _ h);have hlen:xs.length≤9223372036854775807:=(by unfold maxLen at hm;omega);clear hm;have HO:=Lib.hid h;have HN:=Lib.hid hn;have HF:=Lib.hid hF;clear h hn hF;go_enter Tryz.func29,Tryz.ntmps29;go_wp2
  go_loopw [1,5] (fun n i wr=>∃ j:Nat,j≤xs.length∧i=.int .i64 j∧n=.int .i64 (k+(zC2 Glue.cnE xs j:Nat))∧(Ty.slice 76 Glue.ty).own wr [.slice a xs.length c] (zR6 Glue.mkE Glue.cnE xs k j) F∧Chg F w wr) (fun _ i _=>xs.length-(intOf i).toNat)
  case atStart=>exact ⟨0,Nat.zero_le _,rfl,by simp [zC1],by rw [zIi];exact HO.out,Chg.refl _ _⟩
  case round =>
    obtain ⟨j,hj,rfl,rfl,ho,hc⟩:=hrel;by_cases hlt:j<xs.length
    · obtain ⟨g,o,cs,Fk,arr0,rfl,-,hg,hgk,hnk,hsub,hx,hH,hput⟩:=zLi ho HN.out j (by rw [zGq];exact hlt);rw [zLn _ _ _ _ _ hlt] at hx;have hb1:=zE3 Glue.cnE xs j hlt;have hb2:=zDj Glue.cnE xs j hlt;have hFw:∀ b,b∈F→b<wr.heap.size:=fun b hb=>Nat.lt_of_lt_of_le (HF.out b hb) hc.size;have HFW:=Lib.hid hFw;have HC:=Lib.hid hc;clear ho hFw hc;obtain ⟨rfl,hFe,_,_⟩:=Glue.own_cells hx;rw [hFe] at hgk hnk hsub hput;clear hFe hx;have hcn:Glue.cnE xs[j]=1+1:=rfl;have KC:Chg (g::(([]:List Nat)++([]:List Nat))) wr wr:=Chg.refl _ _;have hsz:Glue.ty.size=2:=rfl;rw [hsz] at hH hput;have c0:wr.cell? ⟨g,o+j*2,none⟩=some (.string xs[j].Name):=(by have:=hH.cell (j:=0) rfl;simpa using this);go_wp2_with fail;refine (zKr (k+(zC2 Glue.cnE xs j:Nat)) wr (by omega)).mono ?_;rintro e W1t ⟨rfl,hBt⟩;have hCG:Chg [] wr W1t:=Chg.of_below hBt;have hH3:=hH.keep (hCG.keep g (Nat.lt_of_lt_of_le (HFW.out g hg) KC.size) (by simp));have KC2:=KC.trans (hCG.mono (fun b hb=>by cases hb));clear c0 hH hCG KC hBt;have hH:=hH3;have KC:=KC2;clear hH3 KC2;have c0:W1t.cell? ⟨g,o+j*2,none⟩=some (.string xs[j].Name):=(by have:=hH.cell (j:=0) rfl;simpa using this);have f0:=hH.froz
      go_upto_region 6 with fail
      refine zDn ?_;intro W1 hW;have hH2:=hH.set 0 (by omega) (.string (markT (k+(zC2 Glue.cnE xs j:Nat))));have hH3:HoleAt W1 g 76 arr0 (o+j*2) 2 [.string (markT (k+(zC2 Glue.cnE xs j:Nat))),.int .i64 xs[j].Strength]:=by rw [hW];simpa using hH2
      have hCG:Chg [g] W1t W1:=(by rw [hW];exact (Chg.refl [g] _).set (by simp) _ _);have KC2:=KC.trans (hCG.mono (fun b hb=>by simp_all));clear c0 f0 hH hH2 hCG KC hW;have hH:=hH3;have KC:=KC2;clear hH3 KC2;have c1:W1.cell? ⟨g,o+j*2+1,none⟩=some (.int .i64 xs[j].Strength):=(by have:=hH.cell (j:=1) rfl;simpa using this);have f1:=hH.froz
      go_upto_region 3 with fail
      refine zDn ?_;intro W2 hW;have hH2:=hH.set 1 (by omega) (.int .i64 ((k+(zC2 Glue.cnE xs j:Nat))+1));have hH3:HoleAt W2 g 76 arr0 (o+j*2) 2 [.string (markT (k+(zC2 Glue.cnE xs j:Nat))),.int .i64 ((k+(zC2 Glue.cnE xs j:Nat))+1)]:=by rw [hW];simpa using hH2
      have hCG:Chg [g] W1 W2:=(by rw [hW];exact (Chg.refl [g] _).set (by simp) _ _);have KC2:=KC.trans (hCG.mono (fun b hb=>by simp_all));clear c1 f1 hH hH2 hCG KC hW;have hH:=hH3;have KC:=KC2;clear hH3 KC2;have h3:=hput _ _ _ hH (Glue.own_make (x:=Glue.mkE xs[j] (k+(zC2 Glue.cnE xs j:Nat))) (zGr _) (show InK .i64 ((k+(zC2 Glue.cnE xs j:Nat))+1) from ⟨by omega,by omega⟩)) (fun b hb h1 h2=>KC.keep b (HFW.out b hb) (by simp only [List.mem_cons,not_or];exact ⟨h1,h2⟩));rw [← zIj Glue.mkE Glue.cnE xs k j hlt] at h3;have h4:=HC.out.trans (KC.mono (fun b hb=>by rcases List.mem_cons.1 hb with rfl | hb;exact hg;exact hsub b hb));have H3:=Lib.hid h3;have H4:=Lib.hid h4;clear h3 h4 hput hH KC;go_wp2_with fail
      go_roundw
      case rel=>refine ⟨j+1,by omega,by go_num,by rw [hb2];rw [hcn];simp only [Int.natCast_add,Int.natCast_one,Int.add_assoc],H3.out,H4.out⟩
      case measure=>simp [intOf];omega
    · obtain rfl:j=xs.length:=(by omega);have HC:=Lib.hid hc;have HW:=Lib.hid ho;clear hc ho;go_wp2_with fail;go_ret;refine ⟨by rw [zH4];rfl,?_,HC.out⟩;have:=HW.out;rw [zLo] at this;exact this
def Tile.cnE (x:Tile):Nat:=1+cnS (fun _=>1) x.Sides
def Tile.mkE (x:Tile)(k:Int):Tile:=⟨(markT k),mkL (fun _ n=>n) (fun _=>1) x.Sides (k+1)⟩
def Tile.cnT (x:Tile):Nat:=cnS (fun _=>1) x.Sides
def Tile.mkT (x:Tile)(k:Int):Tile:=⟨x.Name,mkL (fun _ n=>n) (fun _=>1) x.Sides k⟩
theorem Tile.cnE_le (x:Tile):Tile.cnE x≤2*(1+Tile.cnt x):=by have h0:=zKc (K:=1) (fun _=>Nat.le_refl 1) x.Sides;have:Tile.cnt x=x.Name.size+x.Sides.length:=rfl;have:Tile.cnE x=1+cnS (fun _=>1) x.Sides:=rfl;omega
theorem Tile.cnT_le (x:Tile):Tile.cnT x≤2*Tile.cnt x:=by have h0:=zKc (K:=1) (fun _=>Nat.le_refl 1) x.Sides;have:Tile.cnt x=x.Name.size+x.Sides.length:=rfl;have:Tile.cnT x=cnS (fun _=>1) x.Sides:=rfl;omega
theorem Tile.own_cells {w:World}{cs:List Value}{x:Tile}{F:List Nat}(h:Tile.ty.own w cs x F):∃ v0:Value,∃ F0:List Nat,cs=[.string x.Name,v0]∧F=(([]:List Nat)++F0)∧x.Name.size≤maxLen∧(Ty.slice 2 (Ty.int .i64)).own w [v0] x.Sides F0:=by obtain ⟨_,_,_,_,rfl,rfl,h_0,h_1⟩:=h;obtain ⟨rfl,h_0_i,rfl⟩:=h_0;obtain ⟨h_1_v,h_1_e⟩:=Ty.slice_one (Ty.own_lt _ h_1);subst h_1_e;exact ⟨h_1_v,_,rfl,rfl,h_0_i,h_1⟩
theorem Tile.own_make {w:World}{v0:Value}{F0:List Nat}{x:Tile}(h0:x.Name.size≤maxLen)(h1:(Ty.slice 2 (Ty.int .i64)).own w [v0] x.Sides F0):Tile.ty.own w [.string x.Name,v0] x (([]:List Nat)++F0) :=
  ⟨_,_,_,_,rfl,rfl,⟨rfl,h0,rfl⟩,h1⟩
set_option maxRecDepth 10000 in
set_option maxHeartbeats 1000000 in
theorem zPz (v:Value)(xs:List Tile)(k:Int)(F:List Nat)(w:World)(h:(Ty.slice 80 Tile.ty).own w [v] xs F)(hn:F.Nodup)(hF:∀ b,b∈F→b<w.heap.size)(h0:0≤k)(hk:k+(cnS Tile.cnE xs:Nat)≤4611686018427387904) :
    Calls Tryz.prog 30 #[v,.int .i64 k] w fun e w'=>e=.returned (.int .i64 (k+(cnS Tile.cnE xs:Nat)))∧(Ty.slice 80 Tile.ty).own w' [v] (mkL Tile.mkE Tile.cnE xs k) F∧Chg F w w':=by
  obtain ⟨a,c,rfl,_,hm⟩:=Ty.form (Ty.own_lt _ h);have hlen:xs.length≤9223372036854775807:=(by unfold maxLen at hm;omega);clear hm;have HO:=Lib.hid h;have HN:=Lib.hid hn;have HF:=Lib.hid hF;clear h hn hF;go_enter Tryz.func30,Tryz.ntmps30;go_wp2
  go_loopw [1,5] (fun n i wr=>∃ j:Nat,j≤xs.length∧i=.int .i64 j∧n=.int .i64 (k+(zC2 Tile.cnE xs j:Nat))∧(Ty.slice 80 Tile.ty).own wr [.slice a xs.length c] (zR6 Tile.mkE Tile.cnE xs k j) F∧Chg F w wr) (fun _ i _=>xs.length-(intOf i).toNat)
  case atStart=>exact ⟨0,Nat.zero_le _,rfl,by simp [zC1],by rw [zIi];exact HO.out,Chg.refl _ _⟩
  case round =>
    obtain ⟨j,hj,rfl,rfl,ho,hc⟩:=hrel;by_cases hlt:j<xs.length
    · obtain ⟨g,o,cs,Fk,arr0,rfl,-,hg,hgk,hnk,hsub,hx,hH,hput⟩:=zLi ho HN.out j (by rw [zGq];exact hlt);rw [zLn _ _ _ _ _ hlt] at hx;have hb1:=zE3 Tile.cnE xs j hlt;have hb2:=zDj Tile.cnE xs j hlt;have hFw:∀ b,b∈F→b<wr.heap.size:=fun b hb=>Nat.lt_of_lt_of_le (HF.out b hb) hc.size;have HFW:=Lib.hid hFw;have HC:=Lib.hid hc;clear ho hFw hc;obtain ⟨p0,G0,rfl,hFe,_,o0⟩:=Tile.own_cells hx;rw [hFe] at hgk hnk hsub hput;clear hFe hx;have hcn:Tile.cnE xs[j]=1+cnS (fun _=>1) xs[j].Sides:=rfl;have hnd:=hnk
      try simp only [List.nil_append,List.append_nil,List.nodup_append,List.mem_append] at hnd
      have hgm:=hgk
      try simp only [List.nil_append,List.append_nil,List.mem_append,not_or] at hgm
      have hsb:=hsub
      try simp only [List.nil_append,List.append_nil,List.mem_append] at hsb
      have KC:Chg (g::(([]:List Nat)++G0)) wr wr:=Chg.refl _ _;have hsz:Tile.ty.size=2:=rfl;rw [hsz] at hH hput;have c0:wr.cell? ⟨g,o+j*2,none⟩=some (.string xs[j].Name):=(by have:=hH.cell (j:=0) rfl;simpa using this);go_wp2_with fail;refine (zKr (k+(zC2 Tile.cnE xs j:Nat)) wr (by omega)).mono ?_;rintro e W1t ⟨rfl,hBt⟩;have hCG:Chg [] wr W1t:=Chg.of_below hBt;have hH3:=hH.keep (hCG.keep g (Nat.lt_of_lt_of_le (HFW.out g hg) KC.size) (by simp));have o0_:=hCG.own o0 (fun b hb hb2=>by cases hb2) (fun b hb=>Nat.lt_of_lt_of_le (HFW.out b (hsub b (by simp_all))) KC.size);have KC2:=KC.trans (hCG.mono (fun b hb=>by cases hb));clear c0 hH hCG KC hBt o0;have hH:=hH3;have KC:=KC2;clear hH3 KC2;have o0:=o0_;clear o0_;have c0:W1t.cell? ⟨g,o+j*2,none⟩=some (.string xs[j].Name):=(by have:=hH.cell (j:=0) rfl;simpa using this);have f0:=hH.froz
      go_upto_region 6 with fail
      refine zDn ?_;intro W1 hW;have hH2:=hH.set 0 (by omega) (.string (markT (k+(zC2 Tile.cnE xs j:Nat))));have hH3:HoleAt W1 g 80 arr0 (o+j*2) 2 [.string (markT (k+(zC2 Tile.cnE xs j:Nat))),p0]:=by rw [hW];simpa using hH2
      have hCG:Chg [g] W1t W1:=(by rw [hW];exact (Chg.refl [g] _).set (by simp) _ _);have o0_:=hCG.own o0 (fun b hb hb2=>by simp only [List.mem_singleton] at hb2;subst hb2;simp_all) (fun b hb=>Nat.lt_of_lt_of_le (HFW.out b (hsub b (by simp_all))) KC.size);have KC2:=KC.trans (hCG.mono (fun b hb=>by simp_all));clear c0 f0 hH hH2 hCG KC hW o0;have hH:=hH3;have KC:=KC2;clear hH3 KC2;have o0:=o0_;clear o0_;have c1:W1.cell? ⟨g,o+j*2+1,none⟩=some (p0):=(by have:=hH.cell (j:=1) rfl;simpa using this);go_wp2_with fail;refine (zN2 p0 xs[j].Sides ((k+(zC2 Tile.cnE xs j:Nat))+1) G0 W1 o0 (by simp_all) (fun b hb=>Nat.lt_of_lt_of_le (HFW.out b (hsub b (by simp_all))) KC.size) (by omega) (by omega)).mono ?_;rintro e W2' ⟨rfl,oo,hCG⟩;have hH3:=hH.keep (hCG.keep g (Nat.lt_of_lt_of_le (HFW.out g hg) KC.size) (by simp_all));have KC2:=KC.trans (hCG.mono (fun b hb=>by simp_all));clear c1 hH hCG KC o0;have hH:=hH3;have KC:=KC2;clear hH3 KC2;have o0:=oo;clear oo;have h3:=hput _ _ _ hH (Tile.own_make (x:=Tile.mkE xs[j] (k+(zC2 Tile.cnE xs j:Nat))) (zGr _) o0) (fun b hb h1 h2=>KC.keep b (HFW.out b hb) (by simp only [List.mem_cons,not_or];exact ⟨h1,h2⟩));rw [← zIj Tile.mkE Tile.cnE xs k j hlt] at h3;have h4:=HC.out.trans (KC.mono (fun b hb=>by rcases List.mem_cons.1 hb with rfl | hb;exact hg;exact hsub b hb));have H3:=Lib.hid h3;have H4:=Lib.hid h4;clear h3 h4 hput hH KC o0;go_wp2_with fail
      go_roundw
      case rel=>refine ⟨j+1,by omega,by go_num,by rw [hb2];rw [hcn];simp only [Int.natCast_add,Int.natCast_one,Int.add_assoc],H3.out,H4.out⟩
      case measure=>simp [intOf];omega
    · obtain rfl:j=xs.length:=(by omega);have HC:=Lib.hid hc;have HW:=Lib.hid ho;clear hc ho;go_wp2_with fail;go_ret;refine ⟨by rw [zH4];rfl,?_,HC.out⟩;have:=HW.out;rw [zLo] at this;exact this
def TileSet.cnE (x:TileSet):Nat:=cnS Glue.cnE x.Glues+cnS Tile.cnE x.Tiles
def TileSet.mkE (x:TileSet)(k:Int):TileSet:=⟨mkL Glue.mkE Glue.cnE x.Glues k,mkL Tile.mkE Tile.cnE x.Tiles (k+(cnS Glue.cnE x.Glues:Nat))⟩
def TileSet.cnT (x:TileSet):Nat:=cnS Glue.cnE x.Glues+cnS Tile.cnE x.Tiles
def TileSet.mkT (x:TileSet)(k:Int):TileSet:=⟨mkL Glue.mkE Glue.cnE x.Glues k,mkL Tile.mkE Tile.cnE x.Tiles (k+(cnS Glue.cnE x.Glues:Nat))⟩
theorem TileSet.cnE_le (x:TileSet):TileSet.cnE x≤4*(1+TileSet.cnt x):=by have h0:=zI3 (g:=Glue.cnt) (K:=2) Glue.cnE_le x.Glues;have h1:=zI3 (g:=Tile.cnt) (K:=2) Tile.cnE_le x.Tiles;have:TileSet.cnt x=zHs Glue.cnt x.Glues+zHs Tile.cnt x.Tiles:=rfl;have:TileSet.cnE x=cnS Glue.cnE x.Glues+cnS Tile.cnE x.Tiles:=rfl;omega
theorem TileSet.cnT_le (x:TileSet):TileSet.cnT x≤4*TileSet.cnt x:=by have h0:=zI3 (g:=Glue.cnt) (K:=2) Glue.cnE_le x.Glues;have h1:=zI3 (g:=Tile.cnt) (K:=2) Tile.cnE_le x.Tiles;have:TileSet.cnt x=zHs Glue.cnt x.Glues+zHs Tile.cnt x.Tiles:=rfl;have:TileSet.cnT x=cnS Glue.cnE x.Glues+cnS Tile.cnE x.Tiles:=rfl;omega
theorem TileSet.own_cells {w:World}{cs:List Value}{x:TileSet}{F:List Nat}(h:TileSet.ty.own w cs x F):∃ v0 v1:Value,∃ F0 F1:List Nat,cs=[v0,v1]∧F=(F0++F1)∧(Ty.slice 76 Glue.ty).own w [v0] x.Glues F0∧(Ty.slice 80 Tile.ty).own w [v1] x.Tiles F1:=by obtain ⟨_,_,_,_,rfl,rfl,h_0,h_1⟩:=h;obtain ⟨h_0_v,h_0_e⟩:=Ty.slice_one (Ty.own_lt _ h_0);subst h_0_e;obtain ⟨h_1_v,h_1_e⟩:=Ty.slice_one (Ty.own_lt _ h_1);subst h_1_e;exact ⟨h_0_v,h_1_v,_,_,rfl,rfl,h_0,h_1⟩
theorem TileSet.own_make {w:World}{v0 v1:Value}{F0 F1:List Nat}{x:TileSet}(h0:(Ty.slice 76 Glue.ty).own w [v0] x.Glues F0)(h1:(Ty.slice 80 Tile.ty).own w [v1] x.Tiles F1):TileSet.ty.own w [v0,v1] x (F0++F1) :=
  ⟨_,_,_,_,rfl,rfl,h0,h1⟩
set_option maxRecDepth 10000 in
set_option maxHeartbeats 1000000 in
theorem zMq (v0 v1:Value)(x:TileSet)(k:Int)(F:List Nat)(w:World)(h:TileSet.ty.own w [v0,v1] x F)(hn:F.Nodup)(hF:∀ b,b∈F→b<w.heap.size)(h0:0≤k)(hk:k+(TileSet.cnT x:Nat)≤4611686018427387904) :
    Calls Tryz.prog 10 #[.agg #[v0,v1],.int .i64 k] w fun e w'=>e=.returned (.int .i64 (k+(TileSet.cnT x:Nat)))∧TileSet.ty.own w' [v0,v1] (TileSet.mkT x k) F∧Chg F w w':=by
  obtain ⟨u0,u1,F0,F1,hcs,hFe,o0,o1⟩:=TileSet.own_cells h;rw [hFe] at hn hF ⊢;clear h hFe;simp only [List.cons.injEq,and_true,true_and] at hcs;obtain ⟨rfl,rfl⟩:=hcs;obtain ⟨a0,c0_,hv0,_,_⟩:=Ty.form (Ty.own_lt _ o0);subst hv0;obtain ⟨a1,c1_,hv1,_,_⟩:=Ty.form (Ty.own_lt _ o1);subst hv1;have hnd:=hn
  try simp only [List.nil_append,List.append_nil,List.nodup_append,List.mem_append] at hnd
  have hsb:∀ b,b∈(F0++F1)→b<w.heap.size:=hF
  try simp only [List.nil_append,List.append_nil,List.mem_append] at hsb
  have hcn:TileSet.cnT x=cnS Glue.cnE x.Glues+cnS Tile.cnE x.Tiles:=rfl;have HND:=Lib.hid hnd;have HSB:=Lib.hid hsb;clear hnd hsb hn hF;go_enter Tryz.func10,Tryz.ntmps10
  go_upto_region 1 with fail
  refine zDn ?_;intro w1 hW;have hz:Below w.heap.size w w1:=by rw [hW];go_grown
  have HB:=Lib.hid (zEk hW (zEe _ _));have o0_:=(Chg.of_below (F:=[]) hz).own o0 (by simp) (fun b hb=>HSB.out b (by simp_all));clear o0;have o0:=o0_;clear o0_;have o1_:=(Chg.of_below (F:=[]) hz).own o1 (by simp) (fun b hb=>HSB.out b (by simp_all));clear o1;have o1:=o1_;clear o1_;have KC:Chg (F0++F1) w w1:=Chg.of_below hz;have hbw:w.heap.size<w1.heap.size:=yKs HB.out;clear hW hz;have c:=yXx HB.out;go_wp2_with fail;have hnd:=HND.out;have hsb:=HSB.out;refine (zP0 (.slice a0 x.Glues.length c0_) x.Glues k (F0) w1 o0 (by simp_all [List.nodup_append]) (fun b hb=>Nat.lt_of_lt_of_le (HSB.out b (by simp_all)) KC.size) (by omega) (by omega)).mono ?_;rintro e w2 ⟨rfl,oo,hCG⟩;have HB2:=Lib.hid ((hCG.keep _ hbw (fun hb=>absurd (HSB.out _ (by simp_all)) (Nat.lt_irrefl _))).trans HB.out);have o1_:=hCG.own o1 (fun b hb hb2=>by (try simp only [List.nil_append,List.append_nil,List.mem_append] at hb2);grind) (fun b hb=>Nat.lt_of_lt_of_le (HSB.out b (by simp_all)) KC.size);have KC2:=KC.trans (hCG.mono (fun b hb=>by simp_all));have hbw2:=Nat.lt_of_lt_of_le hbw hCG.size;clear hnd hsb c HB hCG KC hbw o0 o1;have o1:=o1_;clear o1_;have KC:=KC2;have HB:=HB2;have hbw:=hbw2;clear KC2 HB2 hbw2;have o0:=oo;clear oo;have c:=yXx HB.out;go_wp2_with fail;have hnd:=HND.out;have hsb:=HSB.out;refine (zPz (.slice a1 x.Tiles.length c1_) x.Tiles (k+(cnS Glue.cnE x.Glues:Nat)) (F1) w2 o1 (by simp_all [List.nodup_append]) (fun b hb=>Nat.lt_of_lt_of_le (HSB.out b (by simp_all)) KC.size) (by omega) (by omega)).mono ?_;rintro e w3 ⟨rfl,oo,hCG⟩;have HB2:=Lib.hid ((hCG.keep _ hbw (fun hb=>absurd (HSB.out _ (by simp_all)) (Nat.lt_irrefl _))).trans HB.out);have o0_:=hCG.own o0 (fun b hb hb2=>by (try simp only [List.nil_append,List.append_nil,List.mem_append] at hb2);grind) (fun b hb=>Nat.lt_of_lt_of_le (HSB.out b (by simp_all)) KC.size);have KC2:=KC.trans (hCG.mono (fun b hb=>by simp_all));have hbw2:=Nat.lt_of_lt_of_le hbw hCG.size;clear hnd hsb c HB hCG KC hbw o0 o1;have o0:=o0_;clear o0_;have KC:=KC2;have HB:=HB2;have hbw:=hbw2;clear KC2 HB2 hbw2;have o1:=oo;clear oo;go_wp2_with fail;go_ret;exact ⟨by rw [hcn];first | rfl | (simp only [Int.natCast_add,Int.add_assoc];done) | (simp only [Int.natCast_add,Int.add_assoc];rfl),TileSet.own_make (x:=TileSet.mkT x k) o0 o1,KC⟩
end Go.Proofs.YtdlchnlpmofpmaaGreatDoor
