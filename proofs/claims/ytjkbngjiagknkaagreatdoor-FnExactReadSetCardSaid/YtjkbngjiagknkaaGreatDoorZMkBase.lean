/- Laws that the proof stands on. -/
import Derived.Test.YtjkbngjiagknkaaGreatDoorZMark
import Derived.Test.YtjkbngjiagknkaaGreatDoorZg6
set_option linter.all false
namespace Go.Proofs.YtjkbngjiagknkaaGreatDoor
open Go.RowKit Go.ChangeShapes Go.WideShapes Go.ChangeAt
set_option maxRecDepth 10000 in
set_option maxHeartbeats 1000000 in
theorem markInt64S_any (v:Value) (xs:List Int) (k:Int) (F:List Nat) (w:World) (h:(Ty.slice 2 (Ty.int .i64)).own w [v] xs F) (hn:F.Nodup) (hF:∀ b,b∈F→b < w.heap.size) (h0:0≤k) (hk:k+(cnS (fun _=>1) xs:Nat)≤4611686018427387904) :
    Calls Tryz.prog 39 #[v,.int .i64 k] w fun e w'=>e=.returned (.int .i64 (k+(cnS (fun _=>1) xs:Nat)))∧(Ty.slice 2 (Ty.int .i64)).own w' [v] (mkL (fun _ n=>n) (fun _=>1) xs k) F∧Chg F w w':=by
  obtain ⟨a,c,rfl,_,hm⟩:=Ty.form (Ty.own_lt _ h);have hlen:xs.length≤9223372036854775807:=(by unfold maxLen at hm;omega);clear hm;have HO:=Lib.hid h;have HN:=Lib.hid hn;have HF:=Lib.hid hF;clear h hn hF;go_enter Tryz.func39,Tryz.ntmps39;go_wp2
  go_loopw [1,5] (fun n i wr=>∃ j:Nat,j≤xs.length∧i=.int .i64 j∧n=.int .i64 (k+(sumT (fun _=>1) xs j:Nat))∧(Ty.slice 2 (Ty.int .i64)).own wr [.slice a xs.length c] (mkAt (fun _ n=>n) (fun _=>1) xs k j) F∧Chg F w wr) (fun _ i _=>xs.length - (intOf i).toNat)
  case atStart=>exact ⟨0,Nat.zero_le _,rfl,by simp [sumT_zero],by rw [mkAt_zero];exact HO.out,Chg.refl _ _⟩
  case round =>
    obtain ⟨j,hj,rfl,rfl,ho,hc⟩:=hrel;by_cases hlt:j < xs.length
    · obtain ⟨g,o,cs,Fk,arr0,rfl,-,hg,hgk,hnk,hsub,hx,hH,hput⟩:=own_elem ho HN.out j (by rw [mkAt_len];exact hlt);rw [mkAt_get _ _ _ _ _ hlt] at hx;have hb1:=sumT_cn_lt (fun _=>1) xs j hlt;have hb2:=sumT_succ (fun _=>1) xs j hlt;have hFw:∀ b,b∈F→b < wr.heap.size:=fun b hb=>Nat.lt_of_lt_of_le (HF.out b hb) hc.size;have HFW:=Lib.hid hFw;have HC:=Lib.hid hc;clear ho hFw hc;obtain ⟨rfl,_,rfl⟩:=hx;have c0:wr.cell? ⟨g,o+j,none⟩=some (.int .i64 xs[j]):=(by have:=hH.cell (j:=0) rfl;simpa [Ty.int] using this);have f0:=hH.froz;have h2:=hH.set 0 (show 0 < 1 by omega) (.int .i64 (k+(sumT (fun _=>1) xs j:Nat)));have h3:=hput _ _ _ h2 ⟨rfl,⟨by omega,by omega⟩,rfl⟩ (fun b _ hb _=>Below.heap_setCell _ _ _ _ hb);rw [← mkAt_succ (fun _ n=>n) (fun _=>1) xs k j hlt] at h3;have h4:=HC.out.set hg (o+j*1+0) (.int .i64 (k+(sumT (fun _=>1) xs j:Nat)));simp only [Ty.int,Nat.mul_one,Nat.add_zero] at h3 h4;have H3:=Lib.hid h3;have H4:=Lib.hid h4;clear h2 h3 h4 hput hH;go_wp2_with fail
      go_roundw
      case rel=>refine ⟨j+1,by omega,by go_num,by rw [hb2];simp only [Int.natCast_add,Int.natCast_one,Int.add_assoc],H3.out,H4.out⟩
      case measure=>simp [intOf];omega
    · obtain rfl:j=xs.length:=(by omega);have HC:=Lib.hid hc;have HW:=Lib.hid ho;clear hc ho;go_wp2_with fail;go_ret;refine ⟨by rw [sumT_cnS];rfl,?_,HC.out⟩;have:=HW.out;rw [mkAt_all] at this;exact this
set_option maxRecDepth 10000 in
set_option maxHeartbeats 1000000 in
theorem heldInt64S_any (v:Value) (xs:List Int) (k:Int) (w:World) (B:Nat) (hB:B≤w.heap.size) (h:(Ty.slice 2 (Ty.int .i64)).rep w B [v] (mkL (fun _ n=>n) (fun _=>1) xs k)) (h0:0≤k) (hk:k+(cnS (fun _=>1) xs:Nat)≤4611686018427387904) :
    Calls Tryz.prog 42 #[v,.int .i64 k] w fun e w'=>e=.returned (.int .i64 (k+(cnS (fun _=>1) xs:Nat)))∧Below w.heap.size w w':=by
  obtain ⟨a,c,hv,_,hm⟩:=Ty.form h;rw [mkL_len] at hv;subst hv;have hlen:xs.length≤9223372036854775807:=(by have:=Ty.form h;obtain ⟨_,_,_,hh1,hh2⟩:=this;rw [mkL_len] at hh1;unfold maxLen at hh2;omega);clear hm;have HR:=Lib.hid h;clear h;refine rebaseC ?_;intro x;go_enter Tryz.func42,Tryz.ntmps42;go_wp2
  go_loopw [1,5] (fun n i wr=>∃ j:Nat,j≤xs.length∧i=.int .i64 j∧n=.int .i64 (k+(sumT (fun _=>1) xs j:Nat))∧∃ z:Ext w,wr=w.to z) (fun _ i _=>xs.length - (intOf i).toNat)
  case atStart=>exact ⟨0,Nat.zero_le _,rfl,by simp [sumT_zero],x,rfl⟩
  case round =>
    obtain ⟨j,hj,rfl,rfl,z,rfl⟩:=hrel;by_cases hlt:j < xs.length
    · have hb1:=sumT_cn_lt (fun _=>1) xs j hlt;have hb2:=sumT_succ (fun _=>1) xs j hlt;have HB2:=Lib.hid hb2;clear hb2;obtain ⟨b,o,rfl,hb,hg,_⟩:=Ty.elemInt HR.out j (by rw [mkL_len];exact hlt);rw [mkL_get _ _ _ _ _ hlt] at hg;have d0:∀ z:Ext w,(w.to z).cell? ⟨b,o+j,none⟩=some (.int .i64 (k+(sumT (fun _=>1) xs j:Nat))):=fun z=>(to_cell z (by omega)).trans hg;clear hg;go_wp2_with fail
      go_roundw
      case rel=>have hb2:=HB2.out;refine ⟨j+1,by omega,by go_num,by rw [hb2];simp only [Int.natCast_add,Int.natCast_one,Int.add_assoc],z,rfl⟩
      case measure=>simp [intOf];omega
    · obtain rfl:j=xs.length:=(by omega);go_wp2_with fail;go_ret;exact ⟨by rw [sumT_cnS];rfl,z.below⟩
end Go.Proofs.YtjkbngjiagknkaaGreatDoor
