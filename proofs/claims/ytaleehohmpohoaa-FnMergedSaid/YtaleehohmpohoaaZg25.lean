/- Laws that the proof stands on. -/
import Derived.Test.YtaleehohmpohoaaZg24
import Derived.Test.YtaleehohmpohoaaZVPat
import Derived.Test.YtaleehohmpohoaaZg21
import Derived.Test.YtaleehohmpohoaaZg23
set_option linter.all false
namespace Go.Proofs.Ytaleehohmpohoaa
open Go.RowKit Go.V
theorem yRg {d:Design}(h0:zCt d=0):PatB (zN8 d) d.Bottom.length d.Left.length:=by obtain ⟨hok,hall,hres⟩:=zQu h0;obtain ⟨⟨w1,w2⟩,⟨l1,l2⟩,_,hpc,_⟩:=zA8 hok;have hin:=zQt h0;obtain ⟨hl,_⟩:=yEd (by omega) hall;rw [← hres] at hl;have hp:zN8 d=⟨d.Bottom.length,d.Left.length,yCc d (zC1 d)⟩:=(by unfold zN8;rw [if_pos h0]);rw [hp];refine ⟨rfl,rfl,⟨w1,w2⟩,⟨l1,l2⟩,by show (yCc d (zC1 d)).length=_;unfold yCc;rw [xDj,hl],fun x hx=>?_⟩;obtain ⟨k,hk,rfl⟩:=xEg.1 hx;obtain ⟨k0,k1⟩:=hin k hk;rw [zNc k0 k1];have:=hpc _ (xEo (show k.toNat<d.Pieces.length by omega));unfold zUx at this;simp only [xDn,inR_iff] at this;omega
theorem zY2 {d:Design}{i k:Int}(hc:zBf d i k=0):zC2 d=true∧(0≤i∧i<d.Pieces.length)∧(0≤k∧k<d.Pieces.length)∧i≠k∧clash (mgD d i k) d.Pieces=false∧zAx d i k=zFw d (mgD d i k):=by
  have hR:zAx d i k=zFw d (mgD d i k):=(by unfold zAx;rw [if_pos hc]);unfold zBf at hc;split at hc
  · rename_i h0;split at hc
    · rename_i h1;split at hc
      · simp at hc
      · rename_i h2;unfold yXw at h1;simp only [xDn,inR_iff,xGb,decide_eq_false_iff_not] at h1;exact ⟨h0,by omega,by omega,h1.2.2,by simpa using h2,hR⟩
    · simp at hc
  · simp at hc
theorem yXv {d:Design}{i k:Int}(hc:zBf d i k=0)(h0:zCt d=0):zN8 (zAx d i k)=zN8 d∧zCt (zAx d i k)=0∧zC2 (zAx d i k)=true∧(zAx d i k).Pieces.length<d.Pieces.length:=by
  obtain ⟨hok,hi,hk,hne,hcl,hR⟩:=zY2 hc;have hp:∀ p,p∈d.Pieces→InP p:=fun p h=>zSx ((zA8 hok).2.2.2.1 p h);obtain ⟨ho,hg,hb,_⟩:=zT5 hok hi hk;have hf:=yTk hp ho hg hcl;obtain ⟨r1,r2⟩:=yF6 h0 ho hf;have hok2:=zP4 hok ho;rw [hR];generalize mgD d i k=st at *;refine ⟨?_,r1,hok2,?_⟩
  · unfold zN8;rw [if_pos r1,if_pos h0];have:yCc (zFw d st) (zC1 (zFw d st))=yCc d (zC1 d):=r2;rw [this];simp [zFw]
  · obtain ⟨i,rfl⟩:∃ n:Nat,i=(n:Int):=⟨i.toNat,by omega⟩
    obtain ⟨k,rfl⟩:∃ n:Nat,k=(n:Int):=⟨k.toNat,by omega⟩
    exact yFk (by omega) (by omega) (by omega) hb
theorem xBh (d:Design)(i k:Int):dsnB (zAx d i k):=by
  by_cases hc:zBf d i k=0
  · obtain ⟨hok,hi,hk,_,_,hR⟩:=zY2 hc;rw [hR];obtain ⟨⟨_,w⟩,⟨_,l⟩,p,_⟩:=zA8 (zP4 hok (zT5 hok hi hk).1);exact ⟨by omega,by omega,by omega⟩
  · have:zAx d i k=⟨[],[],[]⟩:=(by unfold zAx;rw [if_neg hc]);rw [this];exact ⟨xE9 _,xE9 _,xE9 _⟩
end Go.Proofs.Ytaleehohmpohoaa
