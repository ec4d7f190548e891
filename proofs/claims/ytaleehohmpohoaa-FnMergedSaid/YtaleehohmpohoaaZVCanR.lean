/- Laws that the proof stands on. -/
import Derived.Test.YtaleehohmpohoaaZg21
set_option linter.all false
namespace Go.Proofs.Ytaleehohmpohoaa
open Go.RowKit Go.V
def zY9 (n:Nat):List Int:=(List.range n).map fun k=>((k:Nat):Int)
theorem zUe (n:Nat):(zY9 n).length=n:=by simp [zY9]
theorem mem_iota {n:Nat}{x:Int}:x∈zY9 n↔0≤x∧x<n:=by
  unfold zY9;rw [xEg];constructor
  · rintro ⟨k,hk,rfl⟩;have:=xFs.1 hk;omega
  · intro h;exact ⟨x.toNat,xFs.2 (by omega),by omega⟩
theorem yGx (n:Nat):zY9 (n+1)=zY9 n++[(n:Int)]:=by unfold zY9;rw [xHb,xEz];rfl
theorem getD_map {l:List Int}{f:Int→Int}{i:Nat}(h:i<l.length):(l.map f).getD i 0=f (l.getD i 0):=by rw [xDt,xDt,xDm,xDl h];rfl
structure CanM (d:Design) (ks R C S:List Int) (m:Design):Prop where
  L:m.Left=d.Left.map (nmF C)
  Lm:∀ x,x∈d.Left→x∈C
  B:m.Bottom=d.Bottom.map (nmF R)
  Bm:∀ x,x∈d.Bottom→x∈R
  Q:m.Pieces=S.map (fun k=>ren R C (gP d.Pieces k))
  Qm:∀ k,k∈S→(gP d.Pieces k).North∈R∧(gP d.Pieces k).East∈C∧(gP d.Pieces k).South∈R∧(gP d.Pieces k).West∈C
  Sn:S.Nodup
  Rl:R.length≤120
  Cl:C.length≤120
  Si:∀ k,k∈S→k∈ks
  Sk:∀ k,k∈ks→k∈S
section
variable {d m:Design} {ks R C S:List Int}
theorem CanM.sub (h:CanM d ks R C S m)(hin:∀ k,k∈ks→0≤k∧k<d.Pieces.length):S.length≤d.Pieces.length:=by have h1:(∀ x,x∈S→x∈zY9 d.Pieces.length):=fun x hx=>mem_iota.2 (hin x (h.Si x hx));have:=yFu h.Sn h1;rwa [zUe] at this
theorem CanM.get (h:CanM d ks R C S m){k:Int}(hk:k∈S):gP m.Pieces (nmF S k)=ren R C (gP d.Pieces k):=by have h1:=yFp hk;have h2:S[xAk S k]'h1=k:=xH8 h1;unfold gP nmF;rw [xDo,xDt,h.Q,xDm,xDl h1,h2];rfl
theorem zOr {N:List Int}(hN:N.length≤120){x:Int}(h:x∈N):inR 0 119 (nmF N x)=true:=by have:=yOl h;rw [inR_iff];omega
theorem CanM.ok (h:CanM d ks R C S m)(hok:zC2 d=true)(hin:∀ k,k∈ks→0≤k∧k<d.Pieces.length):zC2 m=true:=by
  have hs:=h.sub hin;obtain ⟨⟨w1,w2⟩,⟨l1,l2⟩,p1,p2,p3,_,_⟩:=zA8 hok;unfold zC2 zFi;simp only [xDn,decide_eq_true_eq,xEh];refine ⟨⟨?_,?_⟩,⟨?_,?_⟩,?_,?_,?_⟩
  · rw [h.B,xDj,inR_iff];omega
  · intro x hx;rw [h.B] at hx;obtain ⟨y,hy,rfl⟩:=xEg.1 hx;exact zOr h.Rl (h.Bm y hy)
  · rw [h.L,xDj,inR_iff];omega
  · intro x hx;rw [h.L] at hx;obtain ⟨y,hy,rfl⟩:=xEg.1 hx;exact zOr h.Cl (h.Lm y hy)
  · rw [h.Q,xDj];omega
  · intro x hx;rw [h.Q] at hx;obtain ⟨k,hk,rfl⟩:=xEg.1 hx;obtain ⟨k1,k2,k3,k4⟩:=h.Qm k hk;obtain ⟨g0,g1⟩:=hin k (h.Si k hk);have hp:=p2 _ (xEo (show k.toNat<d.Pieces.length by omega));rw [← zNc g0 g1] at hp;unfold zUx at hp ⊢;simp only [xDn] at hp ⊢;exact ⟨hp.1,zOr h.Rl k1,zOr h.Cl k2,zOr h.Rl k3,zOr h.Cl k4⟩
  · rw [h.Q,xFw,List.Nodup,List.pairwise_map];refine List.Pairwise.imp_of_mem ?_ h.Sn;intro a b ha hb hab e;obtain ⟨a1,a2,a3,a4⟩:=h.Qm a ha;obtain ⟨b1,b2,b3,b4⟩:=h.Qm b hb;simp only [Function.comp,kkP,ren,xD0] at e;have e1:=yFq a3 b3 e.1;have e2:=yFq a4 b4 e.2;obtain ⟨ga0,ga1⟩:=hin a (h.Si a ha);obtain ⟨gb0,gb1⟩:=hin b (h.Si b hb);rw [zNc ga0 ga1,zNc gb0 gb1] at e1 e2;have h1:(d.Pieces.map kkP)[a.toNat]'(by simp;omega)=(d.Pieces.map kkP)[b.toNat]'(by simp;omega):=by simp only [xGo,kkP,e1,e2]
    have:=zY0 p3 h1;omega
theorem CanM.at (h:CanM d ks R C S m){i:Nat}(hi:i<ks.length):gP m.Pieces ((ks.map (nmF S)).getD i 0)=ren R C (gP d.Pieces (ks.getD i 0)):=by rw [getD_map hi];exact h.get (h.Sk _ (zNb hi))
theorem CanM.fit (h:CanM d ks R C S m)(hl:ks.length=d.Left.length*d.Bottom.length)(hf:∀ i,i<ks.length→zXu d ks i)(hW:0<d.Bottom.length):∀ i,i<(ks.map (nmF S)).length→zXu m (ks.map (nmF S)) i:=by
  intro i hi;rw [xDj] at hi;have hBl:m.Bottom.length=d.Bottom.length:=by rw [h.B,xDj]
  obtain ⟨f1,f2⟩:=hf i hi;unfold zXu;rw [hBl,h.at hi];refine ⟨?_,?_⟩
  · show nmF R (gP d.Pieces (ks.getD i 0)).South=_;rw [f1];by_cases hb:i<d.Bottom.length
    · rw [if_pos hb,if_pos hb,h.B,getD_map hb]
    · rw [if_neg hb,if_neg hb,h.at (by omega)];rfl
  · show nmF C (gP d.Pieces (ks.getD i 0)).West=_;rw [f2];by_cases hb:i % d.Bottom.length=0
    · rw [if_pos hb,if_pos hb,h.L,getD_map ((Nat.div_lt_iff_lt_mul hW).2 (by omega))]
    · rw [if_neg hb,if_neg hb,h.at (by omega)];rfl
theorem CanM.run (h:CanM d ks R C S m)(hok:zC2 d=true)(hl:ks.length=d.Left.length*d.Bottom.length)(hin:∀ k,k∈ks→0≤k∧k<d.Pieces.length)(hf:∀ i,i<ks.length→zXu d ks i):zCt m=0∧zC1 m=ks.map (nmF S):=by
  obtain ⟨⟨hW,_⟩,_⟩:=zA8 hok;refine zSi (h.ok hok hin) ?_ (fun i hi=>?_) (h.fit hl hf (by omega))
  · rw [xDj,h.L,h.B,xDj,xDj,hl]
  · rw [xDj] at hi;rw [getD_map hi,h.Q,xDj];exact yOl (h.Sk _ (zNb hi))
end
end Go.Proofs.Ytaleehohmpohoaa
