/- Laws that the proof stands on. -/
import Derived.Test.YteaicicfbpehbaaGreatDoorRows
import Derived.Test.YteaicicfbpehbaaGreatDoorZLib
import Derived.Test.YteaicicfbpehbaaGreatDoorZMark
set_option linter.all false
namespace Go.Proofs.YteaicicfbpehbaaGreatDoor
open Go.RowKit Go.ChangeShapes Go.WideShapes Go.ChangeAt
set_option maxRecDepth 10000 in
set_option maxHeartbeats 1000000 in
theorem zHc (v1 v2:Value) (xs:List Int) (w:World) (B:Nat) (hB:B≤w.heap.size) (h1:(Ty.slice 2 (Ty.int .i64)).rep w B [v1] xs) (h2:(Ty.slice 2 (Ty.int .i64)).rep w B [v2] xs) :
    Calls Tryz.prog 11 #[v1,v2] w fun e w'=>e=.returned (.bool true)∧Below w.heap.size w w':=by
  obtain ⟨a1,c1,rfl,_,hm1⟩:=Ty.form h1;obtain ⟨a2,c2,rfl,_,hm2⟩:=Ty.form h2;have hn:xs.length≤9223372036854775807:=(by unfold maxLen at hm1;omega);clear hm1 hm2;refine zE2 ?_;intro x;go_enter Tryz.func11,Tryz.ntmps11;go_wp2
  go_loopw [5] (fun i wr=>∃ k:Nat,k≤xs.length∧i=.int .i64 k∧∃ z:Ext w,wr=w.to z) (fun i _=>xs.length - (intOf i).toNat)
  case atStart=>exact ⟨0,Nat.zero_le _,rfl,x,rfl⟩
  case round =>
    obtain ⟨k,hk,rfl,z,rfl⟩:=hrel;by_cases hlt:k < xs.length
    · obtain ⟨b1,o1,rfl,hb1,g1,_⟩:=Ty.elemInt h1 k hlt;obtain ⟨b2,o2,rfl,hb2,g2,_⟩:=Ty.elemInt h2 k hlt;have d1:∀ z:Ext w,(w.to z).cell? ⟨b1,o1+k,none⟩=some _:=fun z=>(zMa z (by omega)).trans g1;have d2:∀ z:Ext w,(w.to z).cell? ⟨b2,o2+k,none⟩=some _:=fun z=>(zMa z (by omega)).trans g2;clear g1 g2;go_wp2_with fail;refine zBb (by kernel_rfl) (by kernel_rfl) ?_
      repeat (go_big_quiet_step ((fail)))
      refine wpQuiet_nil ?_;rintro _ ⟨y,rfl⟩;go_wp2_with fail
      go_roundw
      case rel=>exact ⟨k+1,by omega,by go_num,y,rfl⟩
      case measure=>simp [intOf];omega
    · go_wp2_with fail
      go_ret;exact ⟨rfl,z.below⟩
set_option maxRecDepth 10000 in
set_option maxHeartbeats 1000000 in
theorem zQw (v:Value) (xs:List Int) (l:Int) (hl0:0≤l) (hl1:l≤1048576) (w:World) (B:Nat) (hB:B≤w.heap.size) (h:(Ty.slice 2 (Ty.int .i64)).rep w B [v] xs) :
    Calls Tryz.prog 37 #[v,.int .i64 l] w fun e w'=>e=.returned (.int .i64 (szR l (xs.length)))∧Below w.heap.size w w':=by
  have _:=hB;obtain ⟨a,c,rfl,hc,hm⟩:=Ty.form h;have hn:xs.length≤9223372036854775807:=(by unfold maxLen at hm;omega);clear hm;by_cases g:(xs.length:Int)≤l
  · rw [zIt g];go_enter Tryz.func37,Tryz.ntmps37;go_wp2;go_ret;exact ⟨rfl,by go_grown⟩
  · rw [zHv g];go_enter Tryz.func37,Tryz.ntmps37;go_wp2;go_ret;exact ⟨rfl,by go_grown⟩
set_option maxRecDepth 10000 in
set_option maxHeartbeats 1000000 in
theorem zQc (v1 v2:Value) (xs:List (List Int)) (w:World) (B:Nat) (hB:B≤w.heap.size) (h1:(Ty.slice 26 (Ty.slice 2 (Ty.int .i64))).rep w B [v1] xs) (h2:(Ty.slice 26 (Ty.slice 2 (Ty.int .i64))).rep w B [v2] xs) :
    Calls Tryz.prog 30 #[v1,v2] w fun e w'=>e=.returned (.bool true)∧Below w.heap.size w w':=by
  obtain ⟨a1,c1,rfl,_,hm1⟩:=Ty.form h1;obtain ⟨a2,c2,rfl,_,hm2⟩:=Ty.form h2;have hn:xs.length≤9223372036854775807:=(by unfold maxLen at hm1;omega);clear hm1 hm2;refine zE2 ?_;intro x;go_enter Tryz.func30,Tryz.ntmps30;go_wp2
  go_loopw [5] (fun i wr=>∃ k:Nat,k≤xs.length∧i=.int .i64 k∧∃ z:Ext w,wr=w.to z) (fun i _=>xs.length - (intOf i).toNat)
  case atStart=>exact ⟨0,Nat.zero_le _,rfl,x,rfl⟩
  case round =>
    obtain ⟨k,hk,rfl,z,rfl⟩:=hrel;by_cases hlt:k < xs.length
    · obtain ⟨b1,o1,u1,rfl,hb1,d1,r1⟩:=Ty.elem1 h1 rfl hB k hlt;obtain ⟨b2,o2,u2,rfl,hb2,d2,r2⟩:=Ty.elem1 h2 rfl hB k hlt;have hs:=fun z:Ext w=>zHc u1 u2 xs[k] (w.to z) B (Nat.le_trans hB z.below.size) (Ty.rep_to _ hB r1 z) (Ty.rep_to _ hB r2 z);have HS:=Lib.hid hs;clear hs;go_wp2_with fail;refine zBb (by kernel_rfl) (by kernel_rfl) ?_
      repeat (go_big_quiet_step ((go_at_call 11;exact zCq (HS.out _))))
      refine wpQuiet_nil ?_;rintro _ ⟨y,rfl⟩;go_wp2_with fail
      go_roundw
      case rel=>exact ⟨k+1,by omega,by go_num,y,rfl⟩
      case measure=>simp [intOf];omega
    · go_wp2_with fail
      go_ret;exact ⟨rfl,z.below⟩
set_option maxRecDepth 10000 in
set_option maxHeartbeats 1000000 in
theorem zIu (v:Value) (xs:List (List Int)) (l:Int) (hl0:0≤l) (hl1:l≤1048576) (w:World) (B:Nat) (hB:B≤w.heap.size) (h:(Ty.slice 26 (Ty.slice 2 (Ty.int .i64))).rep w B [v] xs) :
    Calls Tryz.prog 17 #[v,.int .i64 l] w fun e w'=>e=.returned (.int .i64 (szR l (zJ3 (fun x:List Int=>x.length) xs)))∧Below w.heap.size w w':=by
  obtain ⟨a,c,rfl,hc,hm⟩:=Ty.form h;have hn:xs.length≤9223372036854775807:=(by unfold maxLen at hm;omega);clear hm;by_cases g:(xs.length:Int)≤l
  · refine zE2 ?_;intro x;go_enter Tryz.func17,Tryz.ntmps17;go_wp2
    go_loopw [1,5] (fun q i wr=>∃ k:Nat,k≤xs.length∧i=.int .i64 k∧((xs.length+zC5 (fun x:List Int=>x.length) xs k:Nat):Int)≤l∧q=.int .i64 (l - (xs.length+zC5 (fun x:List Int=>x.length) xs k:Nat))∧∃ z:Ext w,wr=w.to z) (fun _ i _=>xs.length - (intOf i).toNat)
    case atStart=>exact ⟨0,Nat.zero_le _,rfl,by rw [zC4];exact g,by rw [zC4];rfl,x,rfl⟩
    case round =>
      obtain ⟨k,hk,rfl,hs,rfl,z,rfl⟩:=hrel;generalize hq:xs.length+zC5 (fun x:List Int=>x.length) xs k=q at hs ⊢;have HQ:=Lib.hid hq;clear hq;by_cases hlt:k < xs.length
      · obtain ⟨b,o,u,rfl,hb,d1,r1⟩:=Ty.elem1 h rfl hB k hlt;have hs1:=fun z:Ext w=>zQw u xs[k] (l - q) (by omega) (by omega) (w.to z) B (Nat.le_trans hB z.below.size) (Ty.rep_to _ hB r1 z);have hsum:=zCs (fun x:List Int=>x.length) xs k hlt;have hsle:=zSu (fun x:List Int=>x.length) xs (k+1);have HSU:=Lib.hid hsum;have HSL:=Lib.hid hsle;clear hsum hsle;by_cases gk:((xs[k].length:Nat):Int)≤l - q
        · simp only [zIt gk] at hs1;have HS1:=Lib.hid hs1;clear hs1;go_wp2_with (go_at_call 37;refine zB3 (HS1.out _) ?_;intro y)
          go_roundw
          case rel=>have h1:=HSU.out;have h2:=HQ.out;exact ⟨k+1,by omega,by go_num,by rw [h1];omega,by rw [h1];go_num,y,rfl⟩
          case measure=>simp [intOf];omega
        · simp only [zHv gk] at hs1;have HS1:=Lib.hid hs1;clear hs1;go_wp2_with (go_at_call 37;refine zB3 (HS1.out _) ?_;intro y)
          go_ret;have h1:=HSU.out;have h2:=HQ.out;have h3:=HSL.out;exact ⟨by rw [zHv (by unfold zJ3;omega)];rfl,y.below⟩
      · obtain rfl:k=xs.length:=(by omega);go_wp2_with fail;go_ret;have h2:=HQ.out;have h3:=zUh (fun x:List Int=>x.length) xs;exact ⟨by rw [zIt (by unfold zJ3;omega),show zJ3 (fun x:List Int=>x.length) xs=q by unfold zJ3;omega];rfl,z.below⟩
  · rw [zHv (by have:=zVk (fun x:List Int=>x.length) xs;omega)];go_enter Tryz.func17,Tryz.ntmps17;go_wp2;go_ret;exact ⟨rfl,by go_grown⟩
theorem zFm (v:Value) (xs:List Int) (k:Int) (F:List Nat) (w:World) (h:(Ty.slice 2 (Ty.int .i64)).own w [v] xs F) (hn:F.Nodup) (hF:∀ b,b∈F→b < w.heap.size) (h0:0≤k) (hk:k+(cnS (fun _=>1) xs:Nat)≤4611686018427387904) :
    Calls Tryz.prog 13 #[v,.int .i64 k] w fun e w'=>e=.returned (.int .i64 (k+(cnS (fun _=>1) xs:Nat)))∧(Ty.slice 2 (Ty.int .i64)).own w' [v] (mkL (fun _ n=>n) (fun _=>1) xs k) F∧Chg F w w':=by
  obtain ⟨a,c,rfl,_,hm⟩:=Ty.form (Ty.own_lt _ h);have hlen:xs.length≤9223372036854775807:=(by unfold maxLen at hm;omega);clear hm;have HO:=Lib.hid h;have HN:=Lib.hid hn;have HF:=Lib.hid hF;clear h hn hF;go_enter Tryz.func13,Tryz.ntmps13;go_wp2
  go_loopw [1,5] (fun n i wr=>∃ j:Nat,j≤xs.length∧i=.int .i64 j∧n=.int .i64 (k+(zC5 (fun _=>1) xs j:Nat))∧(Ty.slice 2 (Ty.int .i64)).own wr [.slice a xs.length c] (zPk (fun _ n=>n) (fun _=>1) xs k j) F∧Chg F w wr) (fun _ i _=>xs.length - (intOf i).toNat)
  case atStart=>exact ⟨0,Nat.zero_le _,rfl,by simp [zC4],by rw [zFu];exact HO.out,Chg.refl _ _⟩
  case round =>
    obtain ⟨j,hj,rfl,rfl,ho,hc⟩:=hrel;by_cases hlt:j < xs.length
    · obtain ⟨g,o,cs,Fk,arr0,rfl,-,hg,hgk,hnk,hsub,hx,hH,hput⟩:=zHj ho HN.out j (by rw [zFf];exact hlt);rw [zHl _ _ _ _ _ hlt] at hx;have hb1:=zC8 (fun _=>1) xs j hlt;have hb2:=zCs (fun _=>1) xs j hlt;have hFw:∀ b,b∈F→b < wr.heap.size:=fun b hb=>Nat.lt_of_lt_of_le (HF.out b hb) hc.size;have HFW:=Lib.hid hFw;have HC:=Lib.hid hc;clear ho hFw hc;obtain ⟨rfl,_,rfl⟩:=hx;have c0:wr.cell? ⟨g,o+j,none⟩=some (.int .i64 xs[j]):=(by have:=hH.cell (j:=0) rfl;simpa [Ty.int] using this);have f0:=hH.froz;have h2:=hH.set 0 (show 0 < 1 by omega) (.int .i64 (k+(zC5 (fun _=>1) xs j:Nat)));have h3:=hput _ _ _ h2 ⟨rfl,⟨by omega,by omega⟩,rfl⟩ (fun b _ hb _=>Below.heap_setCell _ _ _ _ hb);rw [← zFv (fun _ n=>n) (fun _=>1) xs k j hlt] at h3;have h4:=HC.out.set hg (o+j*1+0) (.int .i64 (k+(zC5 (fun _=>1) xs j:Nat)));simp only [Ty.int,Nat.mul_one,Nat.add_zero] at h3 h4;have H3:=Lib.hid h3;have H4:=Lib.hid h4;clear h2 h3 h4 hput hH;go_wp2_with fail
      go_roundw
      case rel=>refine ⟨j+1,by omega,by go_num,by rw [hb2];simp only [Int.natCast_add,Int.natCast_one,Int.add_assoc],H3.out,H4.out⟩
      case measure=>simp [intOf];omega
    · obtain rfl:j=xs.length:=(by omega);have HC:=Lib.hid hc;have HW:=Lib.hid ho;clear hc ho;go_wp2_with fail;go_ret;refine ⟨by rw [zEd];rfl,?_,HC.out⟩;have:=HW.out;rw [zHm] at this;exact this
set_option maxRecDepth 10000 in
set_option maxHeartbeats 1000000 in
theorem zN9 (v:Value) (xs:List Int) (k:Int) (w:World) (B:Nat) (hB:B≤w.heap.size) (h:(Ty.slice 2 (Ty.int .i64)).rep w B [v] (mkL (fun _ n=>n) (fun _=>1) xs k)) (h0:0≤k) (hk:k+(cnS (fun _=>1) xs:Nat)≤4611686018427387904) :
    Calls Tryz.prog 95 #[v,.int .i64 k] w fun e w'=>e=.returned (.int .i64 (k+(cnS (fun _=>1) xs:Nat)))∧Below w.heap.size w w':=by
  obtain ⟨a,c,hv,_,hm⟩:=Ty.form h;rw [zCg] at hv;subst hv;have hlen:xs.length≤9223372036854775807:=(by have:=Ty.form h;obtain ⟨_,_,_,hh1,hh2⟩:=this;rw [zCg] at hh1;unfold maxLen at hh2;omega);clear hm;have HR:=Lib.hid h;clear h;refine zE2 ?_;intro x;go_enter Tryz.func95,Tryz.ntmps95;go_wp2
  go_loopw [1,5] (fun n i wr=>∃ j:Nat,j≤xs.length∧i=.int .i64 j∧n=.int .i64 (k+(zC5 (fun _=>1) xs j:Nat))∧∃ z:Ext w,wr=w.to z) (fun _ i _=>xs.length - (intOf i).toNat)
  case atStart=>exact ⟨0,Nat.zero_le _,rfl,by simp [zC4],x,rfl⟩
  case round =>
    obtain ⟨j,hj,rfl,rfl,z,rfl⟩:=hrel;by_cases hlt:j < xs.length
    · have hb1:=zC8 (fun _=>1) xs j hlt;have hb2:=zCs (fun _=>1) xs j hlt;have HB2:=Lib.hid hb2;clear hb2;obtain ⟨b,o,rfl,hb,hg,_⟩:=Ty.elemInt HR.out j (by rw [zCg];exact hlt);rw [zKd _ _ _ _ _ hlt] at hg;have d0:∀ z:Ext w,(w.to z).cell? ⟨b,o+j,none⟩=some (.int .i64 (k+(zC5 (fun _=>1) xs j:Nat))):=fun z=>(zMa z (by omega)).trans hg;clear hg;go_wp2_with fail
      go_roundw
      case rel=>have hb2:=HB2.out;refine ⟨j+1,by omega,by go_num,by rw [hb2];simp only [Int.natCast_add,Int.natCast_one,Int.add_assoc],z,rfl⟩
      case measure=>simp [intOf];omega
    · obtain rfl:j=xs.length:=(by omega);go_wp2_with fail;go_ret;exact ⟨by rw [zEd];rfl,z.below⟩
set_option maxRecDepth 10000 in
set_option maxHeartbeats 1000000 in
theorem zMu (v:Value) (xs:List (List Int)) (k:Int) (F:List Nat) (w:World) (h:(Ty.slice 26 (Ty.slice 2 (Ty.int .i64))).own w [v] xs F) (hn:F.Nodup) (hF:∀ b,b∈F→b < w.heap.size) (h0:0≤k) (hk:k+(cnS (cnS (fun _=>1)) xs:Nat)≤4611686018427387904) :
    Calls Tryz.prog 32 #[v,.int .i64 k] w fun e w'=>e=.returned (.int .i64 (k+(cnS (cnS (fun _=>1)) xs:Nat)))∧(Ty.slice 26 (Ty.slice 2 (Ty.int .i64))).own w' [v] (mkL (mkL (fun _ n=>n) (fun _=>1)) (cnS (fun _=>1)) xs k) F∧Chg F w w':=by
  obtain ⟨a,c,rfl,_,hm⟩:=Ty.form (Ty.own_lt _ h);have hlen:xs.length≤9223372036854775807:=(by unfold maxLen at hm;omega);clear hm;have HO:=Lib.hid h;have HN:=Lib.hid hn;have HF:=Lib.hid hF;clear h hn hF;go_enter Tryz.func32,Tryz.ntmps32;go_wp2
  go_loopw [1,5] (fun n i wr=>∃ j:Nat,j≤xs.length∧i=.int .i64 j∧n=.int .i64 (k+(zC5 (cnS (fun _=>1)) xs j:Nat))∧(Ty.slice 26 (Ty.slice 2 (Ty.int .i64))).own wr [.slice a xs.length c] (zPk (mkL (fun _ n=>n) (fun _=>1)) (cnS (fun _=>1)) xs k j) F∧Chg F w wr) (fun _ i _=>xs.length - (intOf i).toNat)
  case atStart=>exact ⟨0,Nat.zero_le _,rfl,by simp [zC4],by rw [zFu];exact HO.out,Chg.refl _ _⟩
  case round =>
    obtain ⟨j,hj,rfl,rfl,ho,hc⟩:=hrel;by_cases hlt:j < xs.length
    · obtain ⟨g,o,cs,Fk,arr0,rfl,-,hg,hgk,hnk,hsub,hx,hH,hput⟩:=zHj ho HN.out j (by rw [zFf];exact hlt);rw [zHl _ _ _ _ _ hlt] at hx;have hb1:=zC8 (cnS (fun _=>1)) xs j hlt;have hb2:=zCs (cnS (fun _=>1)) xs j hlt;have hFw:∀ b,b∈F→b < wr.heap.size:=fun b hb=>Nat.lt_of_lt_of_le (HF.out b hb) hc.size;have HFW:=Lib.hid hFw;have HC:=Lib.hid hc;clear ho hFw hc;obtain ⟨p0,hp0⟩:=Ty.slice_one (Ty.own_lt _ hx);subst hp0;have o0:=hx;have G0e:Fk=Fk:=rfl;have KC:Chg (g::Fk) wr wr:=Chg.refl _ _;have hsz:((Ty.slice 2 (Ty.int .i64))).size=1:=rfl;rw [hsz] at hH hput;have c0:wr.cell? ⟨g,o+j,none⟩=some (p0):=(by have:=hH.cell (j:=0) rfl;simpa using this);go_wp2_with fail;refine (zFm p0 xs[j] (k+(zC5 (cnS (fun _=>1)) xs j:Nat)) Fk wr o0 (by simp_all) (fun b hb=>Nat.lt_of_lt_of_le (HFW.out b (hsub b (by simp_all))) KC.size) (by omega) (by omega)).mono ?_;rintro e W1' ⟨rfl,oo,hCG⟩;have hH3:=hH.keep (hCG.keep g (Nat.lt_of_lt_of_le (HFW.out g hg) KC.size) (by simp_all));have KC2:=KC.trans (hCG.mono (fun b hb=>by simp_all));clear c0 hH hCG KC o0;have hH:=hH3;have KC:=KC2;clear hH3 KC2;have o0:=oo;clear oo;have h3:=hput _ _ _ hH o0 (fun b hb h1 h2=>KC.keep b (HFW.out b hb) (by simp only [List.mem_cons,not_or];exact ⟨h1,h2⟩));rw [← zFv (mkL (fun _ n=>n) (fun _=>1)) (cnS (fun _=>1)) xs k j hlt] at h3;have h4:=HC.out.trans (KC.mono (fun b hb=>by rcases List.mem_cons.1 hb with rfl | hb;exact hg;exact hsub b hb));have H3:=Lib.hid h3;have H4:=Lib.hid h4;clear h3 h4 hput hH KC o0;go_wp2_with fail
      go_roundw
      case rel=>refine ⟨j+1,by omega,by go_num,by rw [hb2];simp only [Int.natCast_add,Int.natCast_one,Int.add_assoc],H3.out,H4.out⟩
      case measure=>simp [intOf];omega
    · obtain rfl:j=xs.length:=(by omega);have HC:=Lib.hid hc;have HW:=Lib.hid ho;clear hc ho;go_wp2_with fail;go_ret;refine ⟨by rw [zEd];rfl,?_,HC.out⟩;have:=HW.out;rw [zHm] at this;exact this
end Go.Proofs.YteaicicfbpehbaaGreatDoor
