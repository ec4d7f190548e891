/- Laws that the proof stands on. -/
import Derived.Test.YtjkbngjiagknkaaGreatDoorZMark
import Derived.Test.YtjkbngjiagknkaaGreatDoorZg6
set_option linter.all false
namespace Go.Proofs.YtjkbngjiagknkaaGreatDoor
open Go.RowKit Go.ChangeShapes Go.WideShapes Go.ChangeAt
def Move.cnE (x:Move):Nat:=1+1+1+1+1
def Move.mkE (x:Move) (k:Int):Move:=⟨k,(k+1),((k+1)+1),(((k+1)+1)+1),((((k+1)+1)+1)+1)⟩
def Move.cnT (x:Move):Nat:=0
def Move.mkT (x:Move) (k:Int):Move:=⟨x.State,x.Read,x.Write,x.Dir,x.Next⟩
theorem Move.cnE_le (x:Move):Move.cnE x≤5:=Nat.le_refl _
theorem Move.own_cells {w:World} {cs:List Value} {x:Move} {F:List Nat} (h:Move.ty.own w cs x F):cs=[.int .i64 x.State,.int .i64 x.Read,.int .i64 x.Write,.int .i64 x.Dir,.int .i64 x.Next]∧F=(([]:List Nat)++(([]:List Nat)++(([]:List Nat)++(([]:List Nat)++([]:List Nat)))))∧InK .i64 x.State∧InK .i64 x.Read∧InK .i64 x.Write∧InK .i64 x.Dir∧InK .i64 x.Next:=by obtain ⟨_,_,_,_,rfl,rfl,h_0,_,_,_,_,rfl,rfl,h_1,_,_,_,_,rfl,rfl,h_2,_,_,_,_,rfl,rfl,h_3,h_4⟩:=h;obtain ⟨rfl,h_0_i,rfl⟩:=h_0;obtain ⟨rfl,h_1_i,rfl⟩:=h_1;obtain ⟨rfl,h_2_i,rfl⟩:=h_2;obtain ⟨rfl,h_3_i,rfl⟩:=h_3;obtain ⟨rfl,h_4_i,rfl⟩:=h_4;exact ⟨rfl,rfl,h_0_i,h_1_i,h_2_i,h_3_i,h_4_i⟩
theorem Move.own_make {w:World} {x:Move} (h0:InK .i64 x.State) (h1:InK .i64 x.Read) (h2:InK .i64 x.Write) (h3:InK .i64 x.Dir) (h4:InK .i64 x.Next):Move.ty.own w [.int .i64 x.State,.int .i64 x.Read,.int .i64 x.Write,.int .i64 x.Dir,.int .i64 x.Next] x (([]:List Nat)++(([]:List Nat)++(([]:List Nat)++(([]:List Nat)++([]:List Nat))))) :=
  ⟨_,_,_,_,rfl,rfl,⟨rfl,h0,rfl⟩,⟨_,_,_,_,rfl,rfl,⟨rfl,h1,rfl⟩,⟨_,_,_,_,rfl,rfl,⟨rfl,h2,rfl⟩,⟨_,_,_,_,rfl,rfl,⟨rfl,h3,rfl⟩,⟨rfl,h4,rfl⟩⟩⟩⟩⟩
set_option maxRecDepth 10000 in
set_option maxHeartbeats 1000000 in
theorem markMoveS_any (v:Value) (xs:List Move) (k:Int) (F:List Nat) (w:World) (h:(Ty.slice 86 Move.ty).own w [v] xs F) (hn:F.Nodup) (hF:∀ b,b∈F→b < w.heap.size) (h0:0≤k) (hk:k+(cnS Move.cnE xs:Nat)≤4611686018427387904) :
    Calls Tryz.prog 30 #[v,.int .i64 k] w fun e w'=>e=.returned (.int .i64 (k+(cnS Move.cnE xs:Nat)))∧(Ty.slice 86 Move.ty).own w' [v] (mkL Move.mkE Move.cnE xs k) F∧Chg F w w':=by
  obtain ⟨a,c,rfl,_,hm⟩:=Ty.form (Ty.own_lt _ h);have hlen:xs.length≤9223372036854775807:=(by unfold maxLen at hm;omega);clear hm;have HO:=Lib.hid h;have HN:=Lib.hid hn;have HF:=Lib.hid hF;clear h hn hF;go_enter Tryz.func30,Tryz.ntmps30;go_wp2
  go_loopw [1,5] (fun n i wr=>∃ j:Nat,j≤xs.length∧i=.int .i64 j∧n=.int .i64 (k+(sumT Move.cnE xs j:Nat))∧(Ty.slice 86 Move.ty).own wr [.slice a xs.length c] (mkAt Move.mkE Move.cnE xs k j) F∧Chg F w wr) (fun _ i _=>xs.length - (intOf i).toNat)
  case atStart=>exact ⟨0,Nat.zero_le _,rfl,by simp [sumT_zero],by rw [mkAt_zero];exact HO.out,Chg.refl _ _⟩
  case round =>
    obtain ⟨j,hj,rfl,rfl,ho,hc⟩:=hrel;by_cases hlt:j < xs.length
    · obtain ⟨g,o,cs,Fk,arr0,rfl,-,hg,hgk,hnk,hsub,hx,hH,hput⟩:=own_elem ho HN.out j (by rw [mkAt_len];exact hlt);rw [mkAt_get _ _ _ _ _ hlt] at hx;have hb1:=sumT_cn_lt Move.cnE xs j hlt;have hb2:=sumT_succ Move.cnE xs j hlt;have hFw:∀ b,b∈F→b < wr.heap.size:=fun b hb=>Nat.lt_of_lt_of_le (HF.out b hb) hc.size;have HFW:=Lib.hid hFw;have HC:=Lib.hid hc;clear ho hFw hc;obtain ⟨rfl,hFe,_,_,_,_,_⟩:=Move.own_cells hx;rw [hFe] at hgk hnk hsub hput;clear hFe hx;have hcn:Move.cnE xs[j]=1+1+1+1+1:=rfl;have KC:Chg (g::(([]:List Nat)++(([]:List Nat)++(([]:List Nat)++(([]:List Nat)++([]:List Nat)))))) wr wr:=Chg.refl _ _;have hsz:Move.ty.size=5:=rfl;rw [hsz] at hH hput;have c0:wr.cell? ⟨g,o+j*5,none⟩=some (.int .i64 xs[j].State):=(by have:=hH.cell (j:=0) rfl;simpa using this);have f0:=hH.froz
      go_upto_region 6 with fail
      refine plainbase ?_;intro W1 hW;have hH2:=hH.set 0 (by omega) (.int .i64 (k+(sumT Move.cnE xs j:Nat)));have hH3:HoleAt W1 g 86 arr0 (o+j*5) 5 [.int .i64 (k+(sumT Move.cnE xs j:Nat)),.int .i64 xs[j].Read,.int .i64 xs[j].Write,.int .i64 xs[j].Dir,.int .i64 xs[j].Next]:=by rw [hW];simpa using hH2
      have hCG:Chg [g] wr W1:=(by rw [hW];exact (Chg.refl [g] _).set (by simp) _ _);have KC2:=KC.trans (hCG.mono (fun b hb=>by simp_all));clear c0 f0 hH hH2 hCG KC hW;have hH:=hH3;have KC:=KC2;clear hH3 KC2;have c1:W1.cell? ⟨g,o+j*5+1,none⟩=some (.int .i64 xs[j].Read):=(by have:=hH.cell (j:=1) rfl;simpa using this);have f1:=hH.froz
      go_upto_region 8 with fail
      refine plainbase ?_;intro W2 hW;have hH2:=hH.set 1 (by omega) (.int .i64 ((k+(sumT Move.cnE xs j:Nat))+1));have hH3:HoleAt W2 g 86 arr0 (o+j*5) 5 [.int .i64 (k+(sumT Move.cnE xs j:Nat)),.int .i64 ((k+(sumT Move.cnE xs j:Nat))+1),.int .i64 xs[j].Write,.int .i64 xs[j].Dir,.int .i64 xs[j].Next]:=by rw [hW];simpa using hH2
      have hCG:Chg [g] W1 W2:=(by rw [hW];exact (Chg.refl [g] _).set (by simp) _ _);have KC2:=KC.trans (hCG.mono (fun b hb=>by simp_all));clear c1 f1 hH hH2 hCG KC hW;have hH:=hH3;have KC:=KC2;clear hH3 KC2;have c2:W2.cell? ⟨g,o+j*5+2,none⟩=some (.int .i64 xs[j].Write):=(by have:=hH.cell (j:=2) rfl;simpa using this);have f2:=hH.froz
      go_upto_region 10 with fail
      refine plainbase ?_;intro W3 hW;have hH2:=hH.set 2 (by omega) (.int .i64 (((k+(sumT Move.cnE xs j:Nat))+1)+1));have hH3:HoleAt W3 g 86 arr0 (o+j*5) 5 [.int .i64 (k+(sumT Move.cnE xs j:Nat)),.int .i64 ((k+(sumT Move.cnE xs j:Nat))+1),.int .i64 (((k+(sumT Move.cnE xs j:Nat))+1)+1),.int .i64 xs[j].Dir,.int .i64 xs[j].Next]:=by rw [hW];simpa using hH2
      have hCG:Chg [g] W2 W3:=(by rw [hW];exact (Chg.refl [g] _).set (by simp) _ _);have KC2:=KC.trans (hCG.mono (fun b hb=>by simp_all));clear c2 f2 hH hH2 hCG KC hW;have hH:=hH3;have KC:=KC2;clear hH3 KC2;have c3:W3.cell? ⟨g,o+j*5+3,none⟩=some (.int .i64 xs[j].Dir):=(by have:=hH.cell (j:=3) rfl;simpa using this);have f3:=hH.froz
      go_upto_region 12 with fail
      refine plainbase ?_;intro W4 hW;have hH2:=hH.set 3 (by omega) (.int .i64 ((((k+(sumT Move.cnE xs j:Nat))+1)+1)+1));have hH3:HoleAt W4 g 86 arr0 (o+j*5) 5 [.int .i64 (k+(sumT Move.cnE xs j:Nat)),.int .i64 ((k+(sumT Move.cnE xs j:Nat))+1),.int .i64 (((k+(sumT Move.cnE xs j:Nat))+1)+1),.int .i64 ((((k+(sumT Move.cnE xs j:Nat))+1)+1)+1),.int .i64 xs[j].Next]:=by rw [hW];simpa using hH2
      have hCG:Chg [g] W3 W4:=(by rw [hW];exact (Chg.refl [g] _).set (by simp) _ _);have KC2:=KC.trans (hCG.mono (fun b hb=>by simp_all));clear c3 f3 hH hH2 hCG KC hW;have hH:=hH3;have KC:=KC2;clear hH3 KC2;have c4:W4.cell? ⟨g,o+j*5+4,none⟩=some (.int .i64 xs[j].Next):=(by have:=hH.cell (j:=4) rfl;simpa using this);have f4:=hH.froz
      go_upto_region 3 with fail
      refine plainbase ?_;intro W5 hW;have hH2:=hH.set 4 (by omega) (.int .i64 (((((k+(sumT Move.cnE xs j:Nat))+1)+1)+1)+1));have hH3:HoleAt W5 g 86 arr0 (o+j*5) 5 [.int .i64 (k+(sumT Move.cnE xs j:Nat)),.int .i64 ((k+(sumT Move.cnE xs j:Nat))+1),.int .i64 (((k+(sumT Move.cnE xs j:Nat))+1)+1),.int .i64 ((((k+(sumT Move.cnE xs j:Nat))+1)+1)+1),.int .i64 (((((k+(sumT Move.cnE xs j:Nat))+1)+1)+1)+1)]:=by rw [hW];simpa using hH2
      have hCG:Chg [g] W4 W5:=(by rw [hW];exact (Chg.refl [g] _).set (by simp) _ _);have KC2:=KC.trans (hCG.mono (fun b hb=>by simp_all));clear c4 f4 hH hH2 hCG KC hW;have hH:=hH3;have KC:=KC2;clear hH3 KC2;have h3:=hput _ _ _ hH (Move.own_make (x:=Move.mkE xs[j] (k+(sumT Move.cnE xs j:Nat))) (show InK .i64 (k+(sumT Move.cnE xs j:Nat)) from ⟨by omega,by omega⟩) (show InK .i64 ((k+(sumT Move.cnE xs j:Nat))+1) from ⟨by omega,by omega⟩) (show InK .i64 (((k+(sumT Move.cnE xs j:Nat))+1)+1) from ⟨by omega,by omega⟩) (show InK .i64 ((((k+(sumT Move.cnE xs j:Nat))+1)+1)+1) from ⟨by omega,by omega⟩) (show InK .i64 (((((k+(sumT Move.cnE xs j:Nat))+1)+1)+1)+1) from ⟨by omega,by omega⟩)) (fun b hb h1 h2=>KC.keep b (HFW.out b hb) (by simp only [List.mem_cons,not_or];exact ⟨h1,h2⟩));rw [← mkAt_succ Move.mkE Move.cnE xs k j hlt] at h3;have h4:=HC.out.trans (KC.mono (fun b hb=>by rcases List.mem_cons.1 hb with rfl | hb;exact hg;exact hsub b hb));have H3:=Lib.hid h3;have H4:=Lib.hid h4;clear h3 h4 hput hH KC;go_wp2_with fail
      go_roundw
      case rel=>refine ⟨j+1,by omega,by go_num,by rw [hb2];rw [hcn];simp only [Int.natCast_add,Int.natCast_one,Int.add_assoc],H3.out,H4.out⟩
      case measure=>simp [intOf];omega
    · obtain rfl:j=xs.length:=(by omega);have HC:=Lib.hid hc;have HW:=Lib.hid ho;clear hc ho;go_wp2_with fail;go_ret;refine ⟨by rw [sumT_cnS];rfl,?_,HC.out⟩;have:=HW.out;rw [mkAt_all] at this;exact this
set_option maxRecDepth 10000 in
set_option maxHeartbeats 1000000 in
theorem heldMoveS_any (v:Value) (xs:List Move) (k:Int) (w:World) (B:Nat) (hB:B≤w.heap.size) (h:(Ty.slice 86 Move.ty).rep w B [v] (mkL Move.mkE Move.cnE xs k)) (h0:0≤k) (hk:k+(cnS Move.cnE xs:Nat)≤4611686018427387904) :
    Calls Tryz.prog 31 #[v,.int .i64 k] w fun e w'=>e=.returned (.int .i64 (k+(cnS Move.cnE xs:Nat)))∧Below w.heap.size w w':=by
  obtain ⟨a,c,hv,_,hm⟩:=Ty.form h;rw [mkL_len] at hv;subst hv;have hlen:xs.length≤9223372036854775807:=(by have:=Ty.form h;obtain ⟨_,_,_,hh1,hh2⟩:=this;rw [mkL_len] at hh1;unfold maxLen at hh2;omega);clear hm;have HR:=Lib.hid h;clear h;refine rebaseC ?_;intro x;go_enter Tryz.func31,Tryz.ntmps31;go_wp2
  go_loopw [1,5] (fun n i wr=>∃ j:Nat,j≤xs.length∧i=.int .i64 j∧n=.int .i64 (k+(sumT Move.cnE xs j:Nat))∧∃ z:Ext w,wr=w.to z) (fun _ i _=>xs.length - (intOf i).toNat)
  case atStart=>exact ⟨0,Nat.zero_le _,rfl,by simp [sumT_zero],x,rfl⟩
  case round =>
    obtain ⟨j,hj,rfl,rfl,z,rfl⟩:=hrel;by_cases hlt:j < xs.length
    · have hb1:=sumT_cn_lt Move.cnE xs j hlt;have hb2:=sumT_succ Move.cnE xs j hlt;have HB2:=Lib.hid hb2;clear hb2;obtain ⟨b,o,cs,rfl,hb,gg,ee⟩:=Ty.elem HR.out hB j (by rw [mkL_len];exact hlt);rw [mkL_get _ _ _ _ _ hlt] at ee;obtain ⟨rfl,r0,r1,r2,r3,r4⟩:=Move.cells ee;have d0:∀ z:Ext w,(w.to z).cell? ⟨b,o+j*5,none⟩=some (.int .i64 (k+(sumT Move.cnE xs j:Nat))):=gg 0 _ rfl;have d1:∀ z:Ext w,(w.to z).cell? ⟨b,o+j*5+1,none⟩=some (.int .i64 ((k+(sumT Move.cnE xs j:Nat))+1)):=gg 1 _ rfl;have d2:∀ z:Ext w,(w.to z).cell? ⟨b,o+j*5+2,none⟩=some (.int .i64 (((k+(sumT Move.cnE xs j:Nat))+1)+1)):=gg 2 _ rfl;have d3:∀ z:Ext w,(w.to z).cell? ⟨b,o+j*5+3,none⟩=some (.int .i64 ((((k+(sumT Move.cnE xs j:Nat))+1)+1)+1)):=gg 3 _ rfl;have d4:∀ z:Ext w,(w.to z).cell? ⟨b,o+j*5+4,none⟩=some (.int .i64 (((((k+(sumT Move.cnE xs j:Nat))+1)+1)+1)+1)):=gg 4 _ rfl;clear gg ee;have hcn:Move.cnE xs[j]=1+1+1+1+1:=rfl;go_wp2_with fail
      go_roundw
      case rel=>have hb2:=HB2.out;refine ⟨j+1,by omega,by go_num,by rw [hb2];rw [hcn];simp only [Int.natCast_add,Int.natCast_one,Int.add_assoc],z,rfl⟩
      case measure=>simp [intOf];omega
    · obtain rfl:j=xs.length:=(by omega);go_wp2_with fail;go_ret;exact ⟨by rw [sumT_cnS];rfl,z.below⟩
def Machine.cnE (x:Machine):Nat:=1+1+cnS Move.cnE x.Moves
def Machine.mkE (x:Machine) (k:Int):Machine:=⟨k,(k+1),mkL Move.mkE Move.cnE x.Moves ((k+1)+1)⟩
def Machine.cnT (x:Machine):Nat:=cnS Move.cnE x.Moves
def Machine.mkT (x:Machine) (k:Int):Machine:=⟨x.States,x.Symbols,mkL Move.mkE Move.cnE x.Moves k⟩
theorem Machine.cnE_le (x:Machine):Machine.cnE x≤7*(1+Machine.cnt x):=by have h0:=cnS_len (K:=5) Move.cnE_le x.Moves;have:Machine.cnt x=x.Moves.length:=rfl;have:Machine.cnE x=1+1+cnS Move.cnE x.Moves:=rfl;omega
theorem Machine.own_cells {w:World} {cs:List Value} {x:Machine} {F:List Nat} (h:Machine.ty.own w cs x F):∃ v0:Value,∃ F0:List Nat,cs=[.int .i64 x.States,.int .i64 x.Symbols,v0]∧F=(([]:List Nat)++(([]:List Nat)++F0))∧InK .i64 x.States∧InK .i64 x.Symbols∧(Ty.slice 86 Move.ty).own w [v0] x.Moves F0:=by obtain ⟨_,_,_,_,rfl,rfl,h_0,_,_,_,_,rfl,rfl,h_1,h_2⟩:=h;obtain ⟨rfl,h_0_i,rfl⟩:=h_0;obtain ⟨rfl,h_1_i,rfl⟩:=h_1;obtain ⟨h_2_v,h_2_e⟩:=Ty.slice_one (Ty.own_lt _ h_2);subst h_2_e;exact ⟨h_2_v,_,rfl,rfl,h_0_i,h_1_i,h_2⟩
theorem Machine.own_make {w:World} {v0:Value} {F0:List Nat} {x:Machine} (h0:InK .i64 x.States) (h1:InK .i64 x.Symbols) (h2:(Ty.slice 86 Move.ty).own w [v0] x.Moves F0):Machine.ty.own w [.int .i64 x.States,.int .i64 x.Symbols,v0] x (([]:List Nat)++(([]:List Nat)++F0)) :=
  ⟨_,_,_,_,rfl,rfl,⟨rfl,h0,rfl⟩,⟨_,_,_,_,rfl,rfl,⟨rfl,h1,rfl⟩,h2⟩⟩
set_option maxRecDepth 10000 in
set_option maxHeartbeats 1000000 in
theorem markMachine_any (v0:Value) (x:Machine) (k:Int) (F:List Nat) (w:World) (h:Machine.ty.own w [.int .i64 x.States,.int .i64 x.Symbols,v0] x F) (hn:F.Nodup) (hF:∀ b,b∈F→b < w.heap.size) (h0:0≤k) (hk:k+(Machine.cnT x:Nat)≤4611686018427387904) :
    Calls Tryz.prog 9 #[.agg #[.int .i64 x.States,.int .i64 x.Symbols,v0],.int .i64 k] w fun e w'=>e=.returned (.int .i64 (k+(Machine.cnT x:Nat)))∧Machine.ty.own w' [.int .i64 x.States,.int .i64 x.Symbols,v0] (Machine.mkT x k) F∧Chg F w w':=by
  obtain ⟨u0,F0,hcs,hFe,q0,q1,o0⟩:=Machine.own_cells h;rw [hFe] at hn hF ⊢;clear h hFe;simp only [List.cons.injEq,and_true,true_and] at hcs;subst hcs;obtain ⟨a0,c0_,hv0,_,_⟩:=Ty.form (Ty.own_lt _ o0);subst hv0;have hnd:=hn
  try simp only [List.nil_append,List.append_nil,List.nodup_append,List.mem_append] at hnd
  have hsb:∀ b,b∈(([]:List Nat)++(([]:List Nat)++F0))→b < w.heap.size:=hF
  try simp only [List.nil_append,List.append_nil,List.mem_append] at hsb
  have hcn:Machine.cnT x=cnS Move.cnE x.Moves:=rfl;have HND:=Lib.hid hnd;have HSB:=Lib.hid hsb;clear hnd hsb hn hF;go_enter Tryz.func9,Tryz.ntmps9
  go_upto_region 1 with fail
  refine plainbase ?_;intro w1 hW;have hz:Below w.heap.size w w1:=by rw [hW];go_grown
  have HB:=Lib.hid (at_of hW (push1_0 _ _));have o0_:=(Chg.of_below (F:=[]) hz).own o0 (by simp) (fun b hb=>HSB.out b (by simp_all));clear o0;have o0:=o0_;clear o0_;have KC:Chg (([]:List Nat)++(([]:List Nat)++F0)) w w1:=Chg.of_below hz;have hbw:w.heap.size < w1.heap.size:=blk_lt HB.out;clear hW hz;have c:=cel3 HB.out;go_wp2_with fail;have hnd:=HND.out;have hsb:=HSB.out;refine (markMoveS_any (.slice a0 x.Moves.length c0_) x.Moves k (F0) w1 o0 (by simp_all [List.nodup_append]) (fun b hb=>Nat.lt_of_lt_of_le (HSB.out b (by simp_all)) KC.size) (by omega) (by omega)).mono ?_;rintro e w2 ⟨rfl,oo,hCG⟩;have HB2:=Lib.hid ((hCG.keep _ hbw (fun hb=>absurd (HSB.out _ (by simp_all)) (Nat.lt_irrefl _))).trans HB.out);have KC2:=KC.trans (hCG.mono (fun b hb=>by simp_all));have hbw2:=Nat.lt_of_lt_of_le hbw hCG.size;clear hnd hsb c HB hCG KC hbw o0;have KC:=KC2;have HB:=HB2;have hbw:=hbw2;clear KC2 HB2 hbw2;have o0:=oo;clear oo;go_wp2_with fail;go_ret;exact ⟨by rw [hcn];first | rfl | (simp only [Int.natCast_add,Int.add_assoc];done) | (simp only [Int.natCast_add,Int.add_assoc];rfl),Machine.own_make (x:=Machine.mkT x k) q0 q1 o0,KC⟩
set_option maxRecDepth 10000 in
set_option maxHeartbeats 1000000 in
theorem heldMachine_any (v0:Value) (x:Machine) (k:Int) (w:World) (B:Nat) (hB:B≤w.heap.size) (h:Machine.ty.rep w B [.int .i64 x.States,.int .i64 x.Symbols,v0] (Machine.mkT x k)) (h0:0≤k) (hk:k+(Machine.cnT x:Nat)≤4611686018427387904) :
    Calls Tryz.prog 10 #[.agg #[.int .i64 x.States,.int .i64 x.Symbols,v0],.int .i64 k] w fun e w'=>e=.returned (.int .i64 (k+(Machine.cnT x:Nat)))∧Below w.heap.size w w':=by
  have hh:=Machine.parts (x:=Machine.mkT x k) h;obtain ⟨q0,q1,r0⟩:=hh;obtain ⟨a0,c0_,hv0,_,_⟩:=Ty.form r0;rw [show (Machine.mkT x k).Moves.length=x.Moves.length from mkL_len _ _ _ _] at hv0;subst hv0;have R0:=Lib.hid r0;have hcn:Machine.cnT x=cnS Move.cnE x.Moves:=rfl;clear h r0;go_enter Tryz.func10,Tryz.ntmps10
  go_upto_region 1 with fail
  refine rebase ?_;intro W1 hW _;have hz:Below w.heap.size w W1:=by rw [hW];go_grown
  have hb0:=at_of hW (push1_0 _ _);have c0:=box3 hb0;have f0:=boxf hb0;have B0:=Lib.hid hb0;clear hb0;have HW:=Lib.hid hW;clear hW;have hs0:=fun z:Ext W1=>heldMoveS_any (.slice a0 x.Moves.length c0_) x.Moves k (W1.to z) B (Nat.le_trans hB (ext_end z hz).size) (Ty.rep_below _ R0.out ((ext_end z hz).mono hB)) (by omega) (by omega);have HS0:=Lib.hid hs0;clear hs0;go_wp2_with fail;refine call_ext (HS0.out _) ?_;intro y0;go_wp2_with fail;go_ret;exact ⟨by rw [hcn];first | rfl | (simp only [Int.natCast_add,Int.add_assoc];done) | (simp only [Int.natCast_add,Int.add_assoc];rfl),ext_end _ hz⟩
end Go.Proofs.YtjkbngjiagknkaaGreatDoor
