/- Laws that the proof stands on. -/
import Derived.Test.YtdlchnlpmofpmaaGreatDoorZMark
import Derived.Test.YtdlchnlpmofpmaaGreatDoorZg5
set_option linter.all false
namespace Go.Proofs.YtdlchnlpmofpmaaGreatDoor
open Go.RowKit Go.ChangeShapes Go.WideShapes Go.ChangeAt
set_option maxRecDepth 10000 in
set_option maxHeartbeats 1000000 in
theorem zN2 (v:Value)(xs:List Int)(k:Int)(F:List Nat)(w:World)(h:(Ty.slice 2 (Ty.int .i64)).own w [v] xs F)(hn:F.Nodup)(hF:∀ b,b∈F→b<w.heap.size)(h0:0≤k)(hk:k+(cnS (fun _=>1) xs:Nat)≤4611686018427387904) :
    Calls Tryz.prog 61 #[v,.int .i64 k] w fun e w'=>e=.returned (.int .i64 (k+(cnS (fun _=>1) xs:Nat)))∧(Ty.slice 2 (Ty.int .i64)).own w' [v] (mkL (fun _ n=>n) (fun _=>1) xs k) F∧Chg F w w':=by
  obtain ⟨a,c,rfl,_,hm⟩:=Ty.form (Ty.own_lt _ h);have hlen:xs.length≤9223372036854775807:=(by unfold maxLen at hm;omega);clear hm;have HO:=Lib.hid h;have HN:=Lib.hid hn;have HF:=Lib.hid hF;clear h hn hF;go_enter Tryz.func61,Tryz.ntmps61;go_wp2
  go_loopw [1,5] (fun n i wr=>∃ j:Nat,j≤xs.length∧i=.int .i64 j∧n=.int .i64 (k+(zC2 (fun _=>1) xs j:Nat))∧(Ty.slice 2 (Ty.int .i64)).own wr [.slice a xs.length c] (zR6 (fun _ n=>n) (fun _=>1) xs k j) F∧Chg F w wr) (fun _ i _=>xs.length-(intOf i).toNat)
  case atStart=>exact ⟨0,Nat.zero_le _,rfl,by simp [zC1],by rw [zIi];exact HO.out,Chg.refl _ _⟩
  case round =>
    obtain ⟨j,hj,rfl,rfl,ho,hc⟩:=hrel;by_cases hlt:j<xs.length
    · obtain ⟨g,o,cs,Fk,arr0,rfl,-,hg,hgk,hnk,hsub,hx,hH,hput⟩:=zLi ho HN.out j (by rw [zGq];exact hlt);rw [zLn _ _ _ _ _ hlt] at hx;have hb1:=zE3 (fun _=>1) xs j hlt;have hb2:=zDj (fun _=>1) xs j hlt;have hFw:∀ b,b∈F→b<wr.heap.size:=fun b hb=>Nat.lt_of_lt_of_le (HF.out b hb) hc.size;have HFW:=Lib.hid hFw;have HC:=Lib.hid hc;clear ho hFw hc;obtain ⟨rfl,_,rfl⟩:=hx;have c0:wr.cell? ⟨g,o+j,none⟩=some (.int .i64 xs[j]):=(by have:=hH.cell (j:=0) rfl;simpa [Ty.int] using this);have f0:=hH.froz;have h2:=hH.set 0 (show 0<1 by omega) (.int .i64 (k+(zC2 (fun _=>1) xs j:Nat)));have h3:=hput _ _ _ h2 ⟨rfl,⟨by omega,by omega⟩,rfl⟩ (fun b _ hb _=>Below.heap_setCell _ _ _ _ hb);rw [← zIj (fun _ n=>n) (fun _=>1) xs k j hlt] at h3;have h4:=HC.out.set hg (o+j*1+0) (.int .i64 (k+(zC2 (fun _=>1) xs j:Nat)));simp only [Ty.int,Nat.mul_one,Nat.add_zero] at h3 h4;have H3:=Lib.hid h3;have H4:=Lib.hid h4;clear h2 h3 h4 hput hH;go_wp2_with fail
      go_roundw
      case rel=>refine ⟨j+1,by omega,by go_num,by rw [hb2];simp only [Int.natCast_add,Int.natCast_one,Int.add_assoc],H3.out,H4.out⟩
      case measure=>simp [intOf];omega
    · obtain rfl:j=xs.length:=(by omega);have HC:=Lib.hid hc;have HW:=Lib.hid ho;clear hc ho;go_wp2_with fail;go_ret;refine ⟨by rw [zH4];rfl,?_,HC.out⟩;have:=HW.out;rw [zLo] at this;exact this
def Point.cnE (x:Point):Nat:=1+1
def Point.mkE (x:Point)(k:Int):Point:=⟨k,(k+1)⟩
def Point.cnT (x:Point):Nat:=0
def Point.mkT (x:Point)(k:Int):Point:=⟨x.X,x.Y⟩
theorem Point.cnE_le (x:Point):Point.cnE x≤2:=Nat.le_refl _
theorem Point.own_cells {w:World}{cs:List Value}{x:Point}{F:List Nat}(h:Point.ty.own w cs x F):cs=[.int .i64 x.X,.int .i64 x.Y]∧F=(([]:List Nat)++([]:List Nat))∧InK .i64 x.X∧InK .i64 x.Y:=by obtain ⟨_,_,_,_,rfl,rfl,h_0,h_1⟩:=h;obtain ⟨rfl,h_0_i,rfl⟩:=h_0;obtain ⟨rfl,h_1_i,rfl⟩:=h_1;exact ⟨rfl,rfl,h_0_i,h_1_i⟩
theorem Point.own_make {w:World}{x:Point}(h0:InK .i64 x.X)(h1:InK .i64 x.Y):Point.ty.own w [.int .i64 x.X,.int .i64 x.Y] x (([]:List Nat)++([]:List Nat)) :=
  ⟨_,_,_,_,rfl,rfl,⟨rfl,h0,rfl⟩,⟨rfl,h1,rfl⟩⟩
def Placed.cnE (x:Placed):Nat:=1+1+1
def Placed.mkE (x:Placed)(k:Int):Placed:=⟨⟨k,(k+1)⟩,((k+1)+1)⟩
def Placed.cnT (x:Placed):Nat:=0
def Placed.mkT (x:Placed)(k:Int):Placed:=⟨⟨x.At.X,x.At.Y⟩,x.Tile⟩
theorem Placed.cnE_le (x:Placed):Placed.cnE x≤3:=Nat.le_refl _
theorem Placed.own_cells {w:World}{cs:List Value}{x:Placed}{F:List Nat}(h:Placed.ty.own w cs x F):cs=[.int .i64 x.At.X,.int .i64 x.At.Y,.int .i64 x.Tile]∧F=((([]:List Nat)++([]:List Nat))++([]:List Nat))∧InK .i64 x.At.X∧InK .i64 x.At.Y∧InK .i64 x.Tile:=by obtain ⟨_,_,_,_,rfl,rfl,h_0,h_1⟩:=h;obtain ⟨_,_,_,_,rfl,rfl,h_0_0,h_0_1⟩:=h_0;obtain ⟨rfl,h_0_0_i,rfl⟩:=h_0_0;obtain ⟨rfl,h_0_1_i,rfl⟩:=h_0_1;obtain ⟨rfl,h_1_i,rfl⟩:=h_1;exact ⟨rfl,rfl,h_0_0_i,h_0_1_i,h_1_i⟩
theorem Placed.own_make {w:World}{x:Placed}(h0:InK .i64 x.At.X)(h1:InK .i64 x.At.Y)(h2:InK .i64 x.Tile):Placed.ty.own w [.int .i64 x.At.X,.int .i64 x.At.Y,.int .i64 x.Tile] x ((([]:List Nat)++([]:List Nat))++([]:List Nat)) :=
  ⟨_,_,_,_,rfl,rfl,⟨_,_,_,_,rfl,rfl,⟨rfl,h0,rfl⟩,⟨rfl,h1,rfl⟩⟩,⟨rfl,h2,rfl⟩⟩
set_option maxRecDepth 10000 in
set_option maxHeartbeats 1000000 in
theorem zMr (v:Value)(xs:List Placed)(k:Int)(F:List Nat)(w:World)(h:(Ty.slice 98 Placed.ty).own w [v] xs F)(hn:F.Nodup)(hF:∀ b,b∈F→b<w.heap.size)(h0:0≤k)(hk:k+(cnS Placed.cnE xs:Nat)≤4611686018427387904) :
    Calls Tryz.prog 31 #[v,.int .i64 k] w fun e w'=>e=.returned (.int .i64 (k+(cnS Placed.cnE xs:Nat)))∧(Ty.slice 98 Placed.ty).own w' [v] (mkL Placed.mkE Placed.cnE xs k) F∧Chg F w w':=by
  obtain ⟨a,c,rfl,_,hm⟩:=Ty.form (Ty.own_lt _ h);have hlen:xs.length≤9223372036854775807:=(by unfold maxLen at hm;omega);clear hm;have HO:=Lib.hid h;have HN:=Lib.hid hn;have HF:=Lib.hid hF;clear h hn hF;go_enter Tryz.func31,Tryz.ntmps31;go_wp2
  go_loopw [1,5] (fun n i wr=>∃ j:Nat,j≤xs.length∧i=.int .i64 j∧n=.int .i64 (k+(zC2 Placed.cnE xs j:Nat))∧(Ty.slice 98 Placed.ty).own wr [.slice a xs.length c] (zR6 Placed.mkE Placed.cnE xs k j) F∧Chg F w wr) (fun _ i _=>xs.length-(intOf i).toNat)
  case atStart=>exact ⟨0,Nat.zero_le _,rfl,by simp [zC1],by rw [zIi];exact HO.out,Chg.refl _ _⟩
  case round =>
    obtain ⟨j,hj,rfl,rfl,ho,hc⟩:=hrel;by_cases hlt:j<xs.length
    · obtain ⟨g,o,cs,Fk,arr0,rfl,-,hg,hgk,hnk,hsub,hx,hH,hput⟩:=zLi ho HN.out j (by rw [zGq];exact hlt);rw [zLn _ _ _ _ _ hlt] at hx;have hb1:=zE3 Placed.cnE xs j hlt;have hb2:=zDj Placed.cnE xs j hlt;have hFw:∀ b,b∈F→b<wr.heap.size:=fun b hb=>Nat.lt_of_lt_of_le (HF.out b hb) hc.size;have HFW:=Lib.hid hFw;have HC:=Lib.hid hc;clear ho hFw hc;obtain ⟨rfl,hFe,_,_,_⟩:=Placed.own_cells hx;rw [hFe] at hgk hnk hsub hput;clear hFe hx;have hcn:Placed.cnE xs[j]=1+1+1:=rfl;have KC:Chg (g::((([]:List Nat)++([]:List Nat))++([]:List Nat))) wr wr:=Chg.refl _ _;have hsz:Placed.ty.size=3:=rfl;rw [hsz] at hH hput;have c0:wr.cell? ⟨g,o+j*3,none⟩=some (.int .i64 xs[j].At.X):=(by have:=hH.cell (j:=0) rfl;simpa using this);have f0:=hH.froz
      go_upto_region 6 with fail
      refine zDn ?_;intro W1 hW;have hH2:=hH.set 0 (by omega) (.int .i64 (k+(zC2 Placed.cnE xs j:Nat)));have hH3:HoleAt W1 g 98 arr0 (o+j*3) 3 [.int .i64 (k+(zC2 Placed.cnE xs j:Nat)),.int .i64 xs[j].At.Y,.int .i64 xs[j].Tile]:=by rw [hW];simpa using hH2
      have hCG:Chg [g] wr W1:=(by rw [hW];exact (Chg.refl [g] _).set (by simp) _ _);have KC2:=KC.trans (hCG.mono (fun b hb=>by simp_all));clear c0 f0 hH hH2 hCG KC hW;have hH:=hH3;have KC:=KC2;clear hH3 KC2;have c1:W1.cell? ⟨g,o+j*3+1,none⟩=some (.int .i64 xs[j].At.Y):=(by have:=hH.cell (j:=1) rfl;simpa using this);have f1:=hH.froz
      go_upto_region 8 with fail
      refine zDn ?_;intro W2 hW;have hH2:=hH.set 1 (by omega) (.int .i64 ((k+(zC2 Placed.cnE xs j:Nat))+1));have hH3:HoleAt W2 g 98 arr0 (o+j*3) 3 [.int .i64 (k+(zC2 Placed.cnE xs j:Nat)),.int .i64 ((k+(zC2 Placed.cnE xs j:Nat))+1),.int .i64 xs[j].Tile]:=by rw [hW];simpa using hH2
      have hCG:Chg [g] W1 W2:=(by rw [hW];exact (Chg.refl [g] _).set (by simp) _ _);have KC2:=KC.trans (hCG.mono (fun b hb=>by simp_all));clear c1 f1 hH hH2 hCG KC hW;have hH:=hH3;have KC:=KC2;clear hH3 KC2;have c2:W2.cell? ⟨g,o+j*3+2,none⟩=some (.int .i64 xs[j].Tile):=(by have:=hH.cell (j:=2) rfl;simpa using this);have f2:=hH.froz
      go_upto_region 3 with fail
      refine zDn ?_;intro W3 hW;have hH2:=hH.set 2 (by omega) (.int .i64 (((k+(zC2 Placed.cnE xs j:Nat))+1)+1));have hH3:HoleAt W3 g 98 arr0 (o+j*3) 3 [.int .i64 (k+(zC2 Placed.cnE xs j:Nat)),.int .i64 ((k+(zC2 Placed.cnE xs j:Nat))+1),.int .i64 (((k+(zC2 Placed.cnE xs j:Nat))+1)+1)]:=by rw [hW];simpa using hH2
      have hCG:Chg [g] W2 W3:=(by rw [hW];exact (Chg.refl [g] _).set (by simp) _ _);have KC2:=KC.trans (hCG.mono (fun b hb=>by simp_all));clear c2 f2 hH hH2 hCG KC hW;have hH:=hH3;have KC:=KC2;clear hH3 KC2;have h3:=hput _ _ _ hH (Placed.own_make (x:=Placed.mkE xs[j] (k+(zC2 Placed.cnE xs j:Nat))) (show InK .i64 (k+(zC2 Placed.cnE xs j:Nat)) from ⟨by omega,by omega⟩) (show InK .i64 ((k+(zC2 Placed.cnE xs j:Nat))+1) from ⟨by omega,by omega⟩) (show InK .i64 (((k+(zC2 Placed.cnE xs j:Nat))+1)+1) from ⟨by omega,by omega⟩)) (fun b hb h1 h2=>KC.keep b (HFW.out b hb) (by simp only [List.mem_cons,not_or];exact ⟨h1,h2⟩));rw [← zIj Placed.mkE Placed.cnE xs k j hlt] at h3;have h4:=HC.out.trans (KC.mono (fun b hb=>by rcases List.mem_cons.1 hb with rfl | hb;exact hg;exact hsub b hb));have H3:=Lib.hid h3;have H4:=Lib.hid h4;clear h3 h4 hput hH KC;go_wp2_with fail
      go_roundw
      case rel=>refine ⟨j+1,by omega,by go_num,by rw [hb2];rw [hcn];simp only [Int.natCast_add,Int.natCast_one,Int.add_assoc],H3.out,H4.out⟩
      case measure=>simp [intOf];omega
    · obtain rfl:j=xs.length:=(by omega);have HC:=Lib.hid hc;have HW:=Lib.hid ho;clear hc ho;go_wp2_with fail;go_ret;refine ⟨by rw [zH4];rfl,?_,HC.out⟩;have:=HW.out;rw [zLo] at this;exact this
set_option maxRecDepth 10000 in
set_option maxHeartbeats 1000000 in
theorem zM5 (v:Value)(xs:List Placed)(k:Int)(w:World)(B:Nat)(hB:B≤w.heap.size)(h:(Ty.slice 98 Placed.ty).rep w B [v] (mkL Placed.mkE Placed.cnE xs k))(h0:0≤k)(hk:k+(cnS Placed.cnE xs:Nat)≤4611686018427387904) :
    Calls Tryz.prog 32 #[v,.int .i64 k] w fun e w'=>e=.returned (.int .i64 (k+(cnS Placed.cnE xs:Nat)))∧Below w.heap.size w w':=by
  obtain ⟨a,c,hv,_,hm⟩:=Ty.form h;rw [zEz] at hv;subst hv;have hlen:xs.length≤9223372036854775807:=(by have:=Ty.form h;obtain ⟨_,_,_,hh1,hh2⟩:=this;rw [zEz] at hh1;unfold maxLen at hh2;omega);clear hm;have HR:=Lib.hid h;clear h;refine zHe ?_;intro x;go_enter Tryz.func32,Tryz.ntmps32;go_wp2
  go_loopw [1,5] (fun n i wr=>∃ j:Nat,j≤xs.length∧i=.int .i64 j∧n=.int .i64 (k+(zC2 Placed.cnE xs j:Nat))∧∃ z:Ext w,wr=w.to z) (fun _ i _=>xs.length-(intOf i).toNat)
  case atStart=>exact ⟨0,Nat.zero_le _,rfl,by simp [zC1],x,rfl⟩
  case round =>
    obtain ⟨j,hj,rfl,rfl,z,rfl⟩:=hrel;by_cases hlt:j<xs.length
    · have hb1:=zE3 Placed.cnE xs j hlt;have hb2:=zDj Placed.cnE xs j hlt;have HB2:=Lib.hid hb2;clear hb2;obtain ⟨b,o,cs,rfl,hb,gg,ee⟩:=Ty.elem HR.out hB j (by rw [zEz];exact hlt);rw [zT1 _ _ _ _ _ hlt] at ee;obtain ⟨rfl,r0,r1,r2⟩:=Placed.cells ee;have d0:∀ z:Ext w,(w.to z).cell? ⟨b,o+j*3,none⟩=some (.int .i64 (k+(zC2 Placed.cnE xs j:Nat))):=gg 0 _ rfl;have d1:∀ z:Ext w,(w.to z).cell? ⟨b,o+j*3+1,none⟩=some (.int .i64 ((k+(zC2 Placed.cnE xs j:Nat))+1)):=gg 1 _ rfl;have d2:∀ z:Ext w,(w.to z).cell? ⟨b,o+j*3+2,none⟩=some (.int .i64 (((k+(zC2 Placed.cnE xs j:Nat))+1)+1)):=gg 2 _ rfl;clear gg ee;have hcn:Placed.cnE xs[j]=1+1+1:=rfl;go_wp2_with fail
      go_roundw
      case rel=>have hb2:=HB2.out;refine ⟨j+1,by omega,by go_num,by rw [hb2];rw [hcn];simp only [Int.natCast_add,Int.natCast_one,Int.add_assoc],z,rfl⟩
      case measure=>simp [intOf];omega
    · obtain rfl:j=xs.length:=(by omega);go_wp2_with fail;go_ret;exact ⟨by rw [zH4];rfl,z.below⟩
def Assembly.cnE (x:Assembly):Nat:=cnS Placed.cnE x.Tiles
def Assembly.mkE (x:Assembly)(k:Int):Assembly:=⟨mkL Placed.mkE Placed.cnE x.Tiles k⟩
def Assembly.cnT (x:Assembly):Nat:=cnS Placed.cnE x.Tiles
def Assembly.mkT (x:Assembly)(k:Int):Assembly:=⟨mkL Placed.mkE Placed.cnE x.Tiles k⟩
theorem Assembly.cnE_le (x:Assembly):Assembly.cnE x≤3*(1+Assembly.cnt x):=by have h0:=zKc (K:=3) Placed.cnE_le x.Tiles;have:Assembly.cnt x=x.Tiles.length:=rfl;have:Assembly.cnE x=cnS Placed.cnE x.Tiles:=rfl;omega
theorem Assembly.cnT_le (x:Assembly):Assembly.cnT x≤3*Assembly.cnt x:=by have h0:=zKc (K:=3) Placed.cnE_le x.Tiles;have:Assembly.cnt x=x.Tiles.length:=rfl;have:Assembly.cnT x=cnS Placed.cnE x.Tiles:=rfl;omega
theorem Assembly.own_cells {w:World}{cs:List Value}{x:Assembly}{F:List Nat}(h:Assembly.ty.own w cs x F):∃ v0:Value,∃ F0:List Nat,cs=[v0]∧F=F0∧(Ty.slice 98 Placed.ty).own w [v0] x.Tiles F0:=by have h_0:(Ty.slice 98 Placed.ty).own w _ _ _:=h;obtain ⟨h_0_v,h_0_e⟩:=Ty.slice_one (Ty.own_lt _ h_0);subst h_0_e;exact ⟨h_0_v,_,rfl,rfl,h_0⟩
theorem Assembly.own_make {w:World}{v0:Value}{F0:List Nat}{x:Assembly}(h0:(Ty.slice 98 Placed.ty).own w [v0] x.Tiles F0):Assembly.ty.own w [v0] x F0 :=
  h0
set_option maxRecDepth 10000 in
set_option maxHeartbeats 1000000 in
theorem zK5 (v0:Value)(x:Assembly)(k:Int)(F:List Nat)(w:World)(h:Assembly.ty.own w [v0] x F)(hn:F.Nodup)(hF:∀ b,b∈F→b<w.heap.size)(h0:0≤k)(hk:k+(Assembly.cnT x:Nat)≤4611686018427387904) :
    Calls Tryz.prog 11 #[.agg #[v0],.int .i64 k] w fun e w'=>e=.returned (.int .i64 (k+(Assembly.cnT x:Nat)))∧Assembly.ty.own w' [v0] (Assembly.mkT x k) F∧Chg F w w':=by
  obtain ⟨u0,F0,hcs,hFe,o0⟩:=Assembly.own_cells h;rw [hFe] at hn hF ⊢;clear h hFe;simp only [List.cons.injEq,and_true,true_and] at hcs;subst hcs;obtain ⟨a0,c0_,hv0,_,_⟩:=Ty.form (Ty.own_lt _ o0);subst hv0;have hnd:=hn
  try simp only [List.nil_append,List.append_nil,List.nodup_append,List.mem_append] at hnd
  have hsb:∀ b,b∈F0→b<w.heap.size:=hF
  try simp only [List.nil_append,List.append_nil,List.mem_append] at hsb
  have hcn:Assembly.cnT x=cnS Placed.cnE x.Tiles:=rfl;have HND:=Lib.hid hnd;have HSB:=Lib.hid hsb;clear hnd hsb hn hF;go_enter Tryz.func11,Tryz.ntmps11
  go_upto_region 1 with fail
  refine zDn ?_;intro w1 hW;have hz:Below w.heap.size w w1:=by rw [hW];go_grown
  have HB:=Lib.hid (zEk hW (zEe _ _));have o0_:=(Chg.of_below (F:=[]) hz).own o0 (by simp) (fun b hb=>HSB.out b (by simp_all));clear o0;have o0:=o0_;clear o0_;have KC:Chg F0 w w1:=Chg.of_below hz;have hbw:w.heap.size<w1.heap.size:=yKs HB.out;clear hW hz;have c:=yYd HB.out;go_wp2_with fail;have hnd:=HND.out;have hsb:=HSB.out;refine (zMr (.slice a0 x.Tiles.length c0_) x.Tiles k (F0) w1 o0 (by simp_all [List.nodup_append]) (fun b hb=>Nat.lt_of_lt_of_le (HSB.out b (by simp_all)) KC.size) (by omega) (by omega)).mono ?_;rintro e w2 ⟨rfl,oo,hCG⟩;have HB2:=Lib.hid ((hCG.keep _ hbw (fun hb=>absurd (HSB.out _ (by simp_all)) (Nat.lt_irrefl _))).trans HB.out);have KC2:=KC.trans (hCG.mono (fun b hb=>by simp_all));have hbw2:=Nat.lt_of_lt_of_le hbw hCG.size;clear hnd hsb c HB hCG KC hbw o0;have KC:=KC2;have HB:=HB2;have hbw:=hbw2;clear KC2 HB2 hbw2;have o0:=oo;clear oo;go_wp2_with fail;go_ret;exact ⟨by rw [hcn];first | rfl | (simp only [Int.natCast_add,Int.add_assoc];done) | (simp only [Int.natCast_add,Int.add_assoc];rfl),Assembly.own_make (x:=Assembly.mkT x k) o0,KC⟩
set_option maxRecDepth 10000 in
set_option maxHeartbeats 1000000 in
theorem zLc (v0:Value)(x:Assembly)(k:Int)(w:World)(B:Nat)(hB:B≤w.heap.size)(h:Assembly.ty.rep w B [v0] (Assembly.mkT x k))(h0:0≤k)(hk:k+(Assembly.cnT x:Nat)≤4611686018427387904) :
    Calls Tryz.prog 12 #[.agg #[v0],.int .i64 k] w fun e w'=>e=.returned (.int .i64 (k+(Assembly.cnT x:Nat)))∧Below w.heap.size w w':=by
  have hh:=Assembly.parts (x:=Assembly.mkT x k) h;have r0:=hh;obtain ⟨a0,c0_,hv0,_,_⟩:=Ty.form r0;rw [show (Assembly.mkT x k).Tiles.length=x.Tiles.length from zEz _ _ _ _] at hv0;subst hv0;have R0:=Lib.hid r0;have hcn:Assembly.cnT x=cnS Placed.cnE x.Tiles:=rfl;clear h r0;go_enter Tryz.func12,Tryz.ntmps12
  go_upto_region 1 with fail
  refine zEd ?_;intro W1 hW _;have hz:Below w.heap.size w W1:=by rw [hW];go_grown
  have hb0:=zEk hW (zEe _ _);have c0:=yW9 hb0;have f0:=zOd hb0;have B0:=Lib.hid hb0;clear hb0;have HW:=Lib.hid hW;clear hW;have hs0:=fun z:Ext W1=>zM5 (.slice a0 x.Tiles.length c0_) x.Tiles k (W1.to z) B (Nat.le_trans hB (zAt z hz).size) (Ty.rep_below _ R0.out ((zAt z hz).mono hB)) (by omega) (by omega);have HS0:=Lib.hid hs0;clear hs0;go_wp2_with fail;refine zBx (HS0.out _) ?_;intro y0;go_wp2_with fail;go_ret;exact ⟨by rw [hcn];first | rfl | (simp only [Int.natCast_add,Int.add_assoc];done) | (simp only [Int.natCast_add,Int.add_assoc];rfl),zAt _ hz⟩
end Go.Proofs.YtdlchnlpmofpmaaGreatDoor
